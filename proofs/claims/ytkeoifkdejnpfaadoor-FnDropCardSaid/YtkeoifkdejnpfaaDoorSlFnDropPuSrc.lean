/- The reference's source of choices: where it stands, and what its next choice lies between. -/
import Derived.Test.YtkeoifkdejnpfaaDoorSlFnDropGx0
import Derived.Test.YtkeoifkdejnpfaaDoorSlFnDropGx20
import Derived.Test.YtkeoifkdejnpfaaDoorSlFnDropGx23
import Derived.Test.YtkeoifkdejnpfaaDoorSlFnDropGvP
set_option linter.unusedVariables false
set_option linter.unusedSimpArgs false
namespace Go.Proofs.YtkeoifkdejnpfaaDoor.Pu
open Go.RowKit Go.Proofs.YtkeoifkdejnpfaaDoor.G Go.Proofs.YtkeoifkdejnpfaaDoor.GivenP Go.Proofs.YtkeoifkdejnpfaaDoorW.PrintWords Go.Proofs.YtkeoifkdejnpfaaDoorW.PrintLast Go.Proofs.YtkeoifkdejnpfaaDoorW.PrintMore

/-- The source stands at most at B, and its seed is in range. -/
def St (B p s : Int) : Prop := 0 ≤ p ∧ p ≤ B ∧ 0 ≤ s ∧ s < 2147483648
theorem byteE (l : List Int) (hl : ∀ x ∈ l, 0 ≤ x ∧ x ≤ 255) (B p s : Int) (hB : B ≤ 1000000) (h : St B p s) : ∃ r, spec_byte.f l p s = some r ∧ 0 ≤ r.1 ∧ r.1 ≤ 255 ∧ St (B + 1) r.2.1 r.2.2 := by
  obtain ⟨h0, h1, h2, h3⟩ := h
  unfold spec_byte.f
  rw [if_pos ⟨h0, by omega, h2, by omega⟩]
  by_cases hp : p < (l.length : Int)
  · have hr : 0 ≤ rd l p ∧ rd l p ≤ 255 := by
      unfold rd
      have hn : p.toNat < l.length := by omega
      rw [List.getD_eq_getElem?_getD, List.getElem?_eq_getElem hn]
      exact hl _ (List.getElem_mem hn)
    rw [if_pos hp, if_pos hr]
    exact ⟨_, rfl, hr.1, hr.2, by dsimp only; omega, by dsimp only; omega, by dsimp only; omega, by dsimp only; omega⟩
  · rw [if_neg hp]
    split
    · exact ⟨_, rfl, by dsimp only; omega, by dsimp only; omega, by dsimp only; omega, by dsimp only; omega, by dsimp only; omega, by dsimp only; omega⟩
    · exact ⟨_, rfl, by dsimp only; omega, by dsimp only; omega, by dsimp only; omega, by dsimp only; omega, by dsimp only; omega, by dsimp only; omega⟩
theorem tmodE {b a : Int} (hb : 0 ≤ b) (ha : 0 < a) : 0 ≤ Int.tmod b a ∧ Int.tmod b a < a := by
  rw [Int.tmod_eq_emod_of_nonneg hb]
  exact ⟨Int.emod_nonneg _ (by omega), Int.emod_lt_of_pos _ ha⟩
theorem nextE (l : List Int) (hl : ∀ x ∈ l, 0 ≤ x ∧ x ≤ 255) (B p s a : Int) (hB : B ≤ 999990) (h : St B p s) (ha : 1 ≤ a) : ∃ r, spec_l00Src_next.f l p s a = some r ∧ 0 ≤ r.1 ∧ r.1 < a ∧ St (B + 3) r.2.1 r.2.2 := by
  unfold spec_l00Src_next.f
  by_cases h1 : a ≤ 1
  · rw [if_pos h1]
    obtain ⟨q0, q1, q2, q3⟩ := h
    exact ⟨_, rfl, by dsimp only; omega, by dsimp only; omega, by dsimp only; omega, by dsimp only; omega, by dsimp only; omega, by dsimp only; omega⟩
  · rw [if_neg h1]
    obtain ⟨x, ex, x0, x1, hx⟩ := byteE l hl B p s (by omega) h
    rw [ex]
    by_cases h2 : a ≤ 256
    · rw [if_pos h2]
      simp only [Option.bind_some]
      rw [if_neg (by omega)]
      obtain ⟨q0, q1, q2, q3⟩ := hx
      have t := tmodE (b := x.1) (a := a) x0 (by omega)
      exact ⟨_, rfl, t.1, t.2, by dsimp only; omega, by dsimp only; omega, by dsimp only; omega, by dsimp only; omega⟩
    · rw [if_neg h2]
      simp only [Option.bind_some]
      obtain ⟨y, ey, y0, y1, hy⟩ := byteE l hl (B + 1) _ _ (by omega) hx
      rw [ey]
      simp only [Option.bind_some]
      obtain ⟨z, ez, z0, z1, hz⟩ := byteE l hl (B + 1 + 1) _ _ (by omega) hy
      rw [ez]
      simp only [Option.bind_some]
      rw [if_neg (by omega)]
      rw [w64 (x := x.1 * 65536) (by omega) (by omega), w64 (x := y.1 * 256) (by omega) (by omega), w64 (x := x.1 * 65536 + y.1 * 256) (by omega) (by omega), w64 (x := x.1 * 65536 + y.1 * 256 + z.1) (by omega) (by omega)]
      obtain ⟨q0, q1, q2, q3⟩ := hz
      have t := tmodE (b := x.1 * 65536 + y.1 * 256 + z.1) (a := a) (by omega) (by omega)
      exact ⟨_, rfl, t.1, t.2, by dsimp only; omega, by dsimp only; omega, by dsimp only; omega, by dsimp only; omega⟩
theorem rdB (l : List Int) (hl : ∀ x ∈ l, 0 ≤ x ∧ x ≤ 255) (i : Int) (h0 : 0 ≤ i) (h1 : i < (l.length : Int)) : 0 ≤ rd l i ∧ rd l i ≤ 255 := by
  unfold rd
  have hn : i.toNat < l.length := by omega
  rw [List.getD_eq_getElem?_getD, List.getElem?_eq_getElem hn]
  exact hl _ (List.getElem_mem hn)
theorem atE (l : List Int) (hl : ∀ x ∈ l, 0 ≤ x ∧ x ≤ 255) (hm : l.length ≤ 1048576) (m : Int) (hm1 : 1 < m) : ∃ n : Nat, (n : Int) < m ∧ laws_at.f l 0 m = some (n : Int) := by
  unfold laws_at.f
  rw [if_neg (by omega)]
  by_cases h0 : (l.length : Int) = 0
  · rw [if_pos h0, if_neg (by omega), w64 (by omega) (by omega)]
    exact ⟨0, by omega, by simp⟩
  · rw [if_neg h0]
    have t0 : Int.tmod 0 (l.length : Int) = 0 := Int.zero_tmod _
    have t1 := tmodE (b := 0 + 1) (a := (l.length : Int)) (by omega) (by omega)
    have d0 : Int.tdiv 0 (l.length : Int) = 0 := Int.zero_tdiv _
    have a0 := rdB l hl 0 (by omega) (by omega)
    rw [w64 (x := (0 : Int) + 1) (by omega) (by omega), t0, d0]
    have a1 := rdB l hl _ t1.1 t1.2
    rw [if_pos (by omega), if_pos (by omega), if_pos t1.1, if_pos t1.2, if_neg (by omega)]
    rw [w64 (x := rd l 0) (by omega) (by omega), w64 (x := rd l 0 * 31) (by omega) (by omega), w64 (x := rd l (Int.tmod (0 + 1) (l.length : Int))) (by omega) (by omega), w64 (x := rd l 0 * 31 + rd l (Int.tmod (0 + 1) (l.length : Int))) (by omega) (by omega), w64 (x := (0 : Int)) (by omega) (by omega), w64 (x := rd l 0 * 31 + rd l (Int.tmod (0 + 1) (l.length : Int)) + 0) (by omega) (by omega)]
    have t2 := tmodE (b := rd l 0 * 31 + rd l (Int.tmod (0 + 1) (l.length : Int)) + 0) (a := m) (by omega) (by omega)
    exact ⟨(Int.tmod (rd l 0 * 31 + rd l (Int.tmod (0 + 1) (l.length : Int)) + 0) m).toNat, by omega, by rw [Int.toNat_of_nonneg t2.1]⟩
end Go.Proofs.YtkeoifkdejnpfaaDoor.Pu
