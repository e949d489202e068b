/- Code that is drawn out of bytes is valid: every operation is one of the 26, every operand lies in its operation's range. -/
import Derived.Test.YtkeoifkdejnpfaaGx0
import Derived.Test.YtkeoifkdejnpfaaGx4
import Derived.Test.YtkeoifkdejnpfaaGx5
import Derived.Test.YtkeoifkdejnpfaaGx6
import Derived.Test.YtkeoifkdejnpfaaGx7
import Derived.Test.YtkeoifkdejnpfaaGvP
set_option linter.unusedVariables false
set_option linter.unusedSimpArgs false
namespace Go.Proofs.Ytkeoifkdejnpfaa.Pu
open Go.RowKit Go.Proofs.Ytkeoifkdejnpfaa.G Go.Proofs.Ytkeoifkdejnpfaa.GivenP Go.Proofs.YtkeoifkdejnpfaaW.PrintWords Go.Proofs.YtkeoifkdejnpfaaW.PrintLast Go.Proofs.YtkeoifkdejnpfaaW.PrintMore

def rangeP (x : Int) : Int × Int × Bool :=
  if x = 1 then (-2147483648, 2147483647, true) else if x = 2 then (0, 1, true) else if x = 3 ∨ x = 4 then (0, 15, true)
  else if x = 5 ∨ x = 6 ∨ x = 7 ∨ x = 8 ∨ x = 19 ∨ x = 20 then (0, 7, true) else if x = 24 then (1, 20, true) else if x = 26 then (0, 5, true) else (0, 0, false)
theorem range_spec (x : Int) : Ev (fun k => spec_l02Has.f k x) (rangeP x) := by
  refine ⟨5, fun k hk => ?_⟩
  obtain ⟨k, rfl⟩ : ∃ j, k = j + 5 := ⟨k - 5, by omega⟩
  unfold spec_l02Has.f rangeP
  by_cases h1 : x = 1
  · simp [h1]
  by_cases h2 : x = 2
  · simp [h2]
  by_cases h3 : x = 3
  · simp [h3, spec_l02Has.j0]
  by_cases h4 : x = 4
  · simp [h4, spec_l02Has.j0]
  by_cases h5 : x = 5
  · simp [h5, spec_l02Has.j0, spec_l02Has.j1]
  by_cases h6 : x = 6
  · simp [h6, spec_l02Has.j0, spec_l02Has.j1]
  by_cases h7 : x = 7
  · simp [h7, spec_l02Has.j0, spec_l02Has.j1]
  by_cases h8 : x = 8
  · simp [h8, spec_l02Has.j0, spec_l02Has.j1]
  by_cases h19 : x = 19
  · simp [h19, spec_l02Has.j0, spec_l02Has.j1, spec_l02Has.j2]
  by_cases h20 : x = 20
  · simp [h20, spec_l02Has.j0, spec_l02Has.j1, spec_l02Has.j2]
  by_cases h24 : x = 24
  · simp [h24, spec_l02Has.j0, spec_l02Has.j1, spec_l02Has.j2]
  by_cases h26 : x = 26
  · simp [h26, spec_l02Has.j0, spec_l02Has.j1, spec_l02Has.j2]
  simp [h1, h2, h3, h4, h5, h6, h7, h8, h19, h20, h24, h26, spec_l02Has.j0, spec_l02Has.j1, spec_l02Has.j2]
theorem range_impl (x : Int) : Ev (fun k => impl_rangeOf.f k x) (rangeP x) := by
  refine ⟨5, fun k hk => ?_⟩
  obtain ⟨k, rfl⟩ : ∃ j, k = j + 5 := ⟨k - 5, by omega⟩
  unfold impl_rangeOf.f rangeP
  by_cases h1 : x = 1
  · simp [h1]
  by_cases h2 : x = 2
  · simp [h2]
  by_cases h3 : x = 3
  · simp [h3, impl_rangeOf.j0]
  by_cases h4 : x = 4
  · simp [h4, impl_rangeOf.j0]
  by_cases h5 : x = 5
  · simp [h5, impl_rangeOf.j0, impl_rangeOf.j1]
  by_cases h6 : x = 6
  · simp [h6, impl_rangeOf.j0, impl_rangeOf.j1]
  by_cases h7 : x = 7
  · simp [h7, impl_rangeOf.j0, impl_rangeOf.j1]
  by_cases h8 : x = 8
  · simp [h8, impl_rangeOf.j0, impl_rangeOf.j1]
  by_cases h19 : x = 19
  · simp [h19, impl_rangeOf.j0, impl_rangeOf.j1, impl_rangeOf.j2]
  by_cases h20 : x = 20
  · simp [h20, impl_rangeOf.j0, impl_rangeOf.j1, impl_rangeOf.j2]
  by_cases h24 : x = 24
  · simp [h24, impl_rangeOf.j0, impl_rangeOf.j1, impl_rangeOf.j2]
  by_cases h26 : x = 26
  · simp [h26, impl_rangeOf.j0, impl_rangeOf.j1, impl_rangeOf.j2]
  simp [h1, h2, h3, h4, h5, h6, h7, h8, h19, h20, h24, h26, impl_rangeOf.j0, impl_rangeOf.j1, impl_rangeOf.j2]
theorem rangeP_le (x : Int) : (rangeP x).1 ≤ (rangeP x).2.1 ∧ -2147483648 ≤ (rangeP x).1 ∧ (rangeP x).2.1 ≤ 2147483647 ∧ ((rangeP x).2.2 = false → (rangeP x).1 = 0 ∧ (rangeP x).2.1 = 0) ∧ (x ≠ 1 → (rangeP x).1 ≥ 0 ∧ (rangeP x).2.1 ≤ 20) := by
  unfold rangeP
  repeat' split
  all_goals first | (subst_vars; simp) | simp
  all_goals omega
/-- The source stands at most at B, and its seed is in range. -/
def St (B p s : Int) : Prop := 0 ≤ p ∧ p ≤ B ∧ 0 ≤ s ∧ s < 2147483648
theorem byteE (l : List Int) (hl : ∀ x ∈ l, 0 ≤ x ∧ x ≤ 255) (B p s : Int) (hB : B ≤ 1000000) (h : St B p s) : ∃ r, spec_byte.f l p s = some r ∧ 0 ≤ r.1 ∧ r.1 ≤ 255 ∧ St (B + 1) r.2.1 r.2.2 := by
  obtain ⟨h0, h1, h2, h3⟩ := h
  unfold spec_byte.f
  rw [if_pos ⟨h0, by omega, h2, by omega⟩]
  by_cases hp : p < (l.length : Int)
  · have hr : 0 ≤ rd l p ∧ rd l p ≤ 255 := by
      unfold rd
      have hn : p.toNat < l.length := by omega
      rw [List.getD_eq_getElem?_getD, List.getElem?_eq_getElem hn]
      exact hl _ (List.getElem_mem hn)
    rw [if_pos hp, if_pos hr]
    exact ⟨_, rfl, hr.1, hr.2, by dsimp only; omega, by dsimp only; omega, by dsimp only; omega, by dsimp only; omega⟩
  · rw [if_neg hp]
    split
    · exact ⟨_, rfl, by dsimp only; omega, by dsimp only; omega, by dsimp only; omega, by dsimp only; omega, by dsimp only; omega, by dsimp only; omega⟩
    · exact ⟨_, rfl, by dsimp only; omega, by dsimp only; omega, by dsimp only; omega, by dsimp only; omega, by dsimp only; omega, by dsimp only; omega⟩
theorem tmodE {b a : Int} (hb : 0 ≤ b) (ha : 0 < a) : 0 ≤ Int.tmod b a ∧ Int.tmod b a < a := by
  rw [Int.tmod_eq_emod_of_nonneg hb]
  exact ⟨Int.emod_nonneg _ (by omega), Int.emod_lt_of_pos _ ha⟩
theorem nextE (l : List Int) (hl : ∀ x ∈ l, 0 ≤ x ∧ x ≤ 255) (B p s a : Int) (hB : B ≤ 999990) (h : St B p s) (ha : 1 ≤ a) : ∃ r, spec_l00Src_next.f l p s a = some r ∧ 0 ≤ r.1 ∧ r.1 < a ∧ St (B + 3) r.2.1 r.2.2 := by
  unfold spec_l00Src_next.f
  by_cases h1 : a ≤ 1
  · rw [if_pos h1]
    obtain ⟨q0, q1, q2, q3⟩ := h
    exact ⟨_, rfl, by dsimp only; omega, by dsimp only; omega, by dsimp only; omega, by dsimp only; omega, by dsimp only; omega, by dsimp only; omega⟩
  · rw [if_neg h1]
    obtain ⟨x, ex, x0, x1, hx⟩ := byteE l hl B p s (by omega) h
    rw [ex]
    by_cases h2 : a ≤ 256
    · rw [if_pos h2]
      simp only [Option.bind_some]
      rw [if_neg (by omega)]
      obtain ⟨q0, q1, q2, q3⟩ := hx
      have t := tmodE (b := x.1) (a := a) x0 (by omega)
      exact ⟨_, rfl, t.1, t.2, by dsimp only; omega, by dsimp only; omega, by dsimp only; omega, by dsimp only; omega⟩
    · rw [if_neg h2]
      simp only [Option.bind_some]
      obtain ⟨y, ey, y0, y1, hy⟩ := byteE l hl (B + 1) _ _ (by omega) hx
      rw [ey]
      simp only [Option.bind_some]
      obtain ⟨z, ez, z0, z1, hz⟩ := byteE l hl (B + 1 + 1) _ _ (by omega) hy
      rw [ez]
      simp only [Option.bind_some]
      rw [if_neg (by omega)]
      rw [w64 (x := x.1 * 65536) (by omega) (by omega), w64 (x := y.1 * 256) (by omega) (by omega), w64 (x := x.1 * 65536 + y.1 * 256) (by omega) (by omega), w64 (x := x.1 * 65536 + y.1 * 256 + z.1) (by omega) (by omega)]
      obtain ⟨q0, q1, q2, q3⟩ := hz
      have t := tmodE (b := x.1 * 65536 + y.1 * 256 + z.1) (a := a) (by omega) (by omega)
      exact ⟨_, rfl, t.1, t.2, by dsimp only; omega, by dsimp only; omega, by dsimp only; omega, by dsimp only; omega⟩
theorem valueE (l : List Int) (hl : ∀ x ∈ l, 0 ≤ x ∧ x ≤ 255) (B p s : Int) (hB : B ≤ 999900) (h : St B p s) : ∃ r, spec_l00Src_value.f l p s = some r ∧ -2147483648 ≤ r.1 ∧ r.1 ≤ 2147483647 ∧ St (B + 7) r.2.1 r.2.2 := by
  unfold spec_l00Src_value.f
  obtain ⟨x, ex, x0, x1, hx⟩ := nextE l hl B p s 8 (by omega) h (by omega)
  rw [ex]
  simp only [Option.bind_some]
  by_cases h0 : x.1 = 0
  · rw [if_pos h0]
    obtain ⟨y, ey, y0, y1, hy⟩ := nextE l hl (B + 3) _ _ 3 (by omega) hx (by omega)
    rw [ey]
    simp only [Option.bind_some]
    rw [w64 (by omega) (by omega)]
    obtain ⟨q0, q1, q2, q3⟩ := hy
    exact ⟨_, rfl, by dsimp only; omega, by dsimp only; omega, by dsimp only; omega, by dsimp only; omega, by dsimp only; omega, by dsimp only; omega⟩
  rw [if_neg h0]
  by_cases h1 : x.1 = 1
  · rw [if_pos h1]
    obtain ⟨y, ey, y0, y1, hy⟩ := nextE l hl (B + 3) _ _ 3 (by omega) hx (by omega)
    rw [ey]
    simp only [Option.bind_some]
    rw [w64 (by omega) (by omega)]
    obtain ⟨q0, q1, q2, q3⟩ := hy
    exact ⟨_, rfl, by dsimp only; omega, by dsimp only; omega, by dsimp only; omega, by dsimp only; omega, by dsimp only; omega, by dsimp only; omega⟩
  rw [if_neg h1]
  by_cases h2 : x.1 = 2
  · rw [if_pos h2]
    obtain ⟨a, ea, a0, a1, ha⟩ := byteE l hl (B + 3) _ _ (by omega) hx
    rw [ea]
    simp only [Option.bind_some]
    obtain ⟨b, eb, b0, b1, hb⟩ := byteE l hl (B + 3 + 1) _ _ (by omega) ha
    rw [eb]
    simp only [Option.bind_some]
    obtain ⟨c, ec, c0, c1, hc⟩ := byteE l hl (B + 3 + 1 + 1) _ _ (by omega) hb
    rw [ec]
    simp only [Option.bind_some]
    obtain ⟨d, ed, d0, d1, hd⟩ := byteE l hl (B + 3 + 1 + 1 + 1) _ _ (by omega) hc
    rw [ed]
    simp only [Option.bind_some]
    rw [w64 (x := a.1 * 16777216) (by omega) (by omega), w64 (x := b.1 * 65536) (by omega) (by omega), w64 (x := a.1 * 16777216 + b.1 * 65536) (by omega) (by omega), w64 (x := c.1 * 256) (by omega) (by omega), w64 (x := a.1 * 16777216 + b.1 * 65536 + c.1 * 256) (by omega) (by omega), w64 (x := a.1 * 16777216 + b.1 * 65536 + c.1 * 256 + d.1) (by omega) (by omega), w64 (x := a.1 * 16777216 + b.1 * 65536 + c.1 * 256 + d.1 - 2147483647) (by omega) (by omega), w64 (x := a.1 * 16777216 + b.1 * 65536 + c.1 * 256 + d.1 - 2147483647 - 1) (by omega) (by omega)]
    obtain ⟨q0, q1, q2, q3⟩ := hd
    exact ⟨_, rfl, by dsimp only; omega, by dsimp only; omega, by dsimp only; omega, by dsimp only; omega, by dsimp only; omega, by dsimp only; omega⟩
  rw [if_neg h2]
  by_cases h3 : x.1 = 3
  · rw [if_pos h3]
    obtain ⟨y, ey, y0, y1, hy⟩ := nextE l hl (B + 3) _ _ 300 (by omega) hx (by omega)
    rw [ey]
    simp only [Option.bind_some]
    rw [w64 (by omega) (by omega)]
    obtain ⟨q0, q1, q2, q3⟩ := hy
    exact ⟨_, rfl, by dsimp only; omega, by dsimp only; omega, by dsimp only; omega, by dsimp only; omega, by dsimp only; omega, by dsimp only; omega⟩
  · rw [if_neg h3]
    obtain ⟨y, ey, y0, y1, hy⟩ := nextE l hl (B + 3) _ _ 200 (by omega) hx (by omega)
    rw [ey]
    simp only [Option.bind_some]
    obtain ⟨q0, q1, q2, q3⟩ := hy
    exact ⟨_, rfl, by dsimp only; omega, by dsimp only; omega, by dsimp only; omega, by dsimp only; omega, by dsimp only; omega, by dsimp only; omega⟩
def okI (x a : Int) : Prop := 1 ≤ x ∧ x ≤ 26 ∧ (rangeP x).1 ≤ a ∧ a ≤ (rangeP x).2.1
theorem instrE (l : List Int) (hl : ∀ x ∈ l, 0 ≤ x ∧ x ≤ 255) (B p s : Int) (hB : B ≤ 999800) (h : St B p s) : EvP (fun k => spec_l00Src_instr.f k l p s) (fun r => okI r.1 r.2.1 ∧ St (B + 10) r.2.2.1 r.2.2.2) := by
  unfold spec_l00Src_instr.f
  obtain ⟨x, ex, x0, x1, hx⟩ := nextE l hl B p s 26 (by omega) h (by omega)
  refine EvP.bindc ex ?_
  rw [w64 (x := 1 + x.1) (by omega) (by omega)]
  refine EvP.bind (range_spec _) ?_
  have hr := rangeP_le (1 + x.1)
  by_cases hh : (rangeP (1 + x.1)).2.2 = true
  · refine EvP.pos hh ?_
    by_cases h1 : 1 + x.1 = 1
    · refine EvP.pos h1 ?_
      obtain ⟨v, ev, v0, v1, hv⟩ := valueE l hl (B + 3) _ _ (by omega) hx
      refine EvP.bindc ev (EvP.lit rfl ?_)
      obtain ⟨q0, q1, q2, q3⟩ := hv
      refine ⟨⟨by dsimp only; omega, by dsimp only; omega, ?_, ?_⟩, by dsimp only; omega, by dsimp only; omega, by dsimp only; omega, by dsimp only; omega⟩
      · dsimp only; rw [h1]; simpa [rangeP] using v0
      · dsimp only; rw [h1]; simpa [rangeP] using v1
    · refine EvP.neg h1 ?_
      obtain ⟨g0, g1⟩ := hr.2.2.2.2 h1
      have g2 := hr.1
      rw [w64 (x := (rangeP (1 + x.1)).2.1 - (rangeP (1 + x.1)).1) (by omega) (by omega), w64 (x := (rangeP (1 + x.1)).2.1 - (rangeP (1 + x.1)).1 + 1) (by omega) (by omega)]
      obtain ⟨v, ev, v0, v1, hv⟩ := nextE l hl (B + 3) _ _ ((rangeP (1 + x.1)).2.1 - (rangeP (1 + x.1)).1 + 1) (by omega) hx (by omega)
      refine EvP.bindc ev ?_
      rw [w64 (x := (rangeP (1 + x.1)).1 + v.1) (by omega) (by omega)]
      refine EvP.lit rfl ?_
      obtain ⟨q0, q1, q2, q3⟩ := hv
      exact ⟨⟨by dsimp only; omega, by dsimp only; omega, by dsimp only; omega, by dsimp only; omega⟩, by dsimp only; omega, by dsimp only; omega, by dsimp only; omega, by dsimp only; omega⟩
  · refine EvP.neg hh (EvP.lit rfl ?_)
    obtain ⟨g0, g1⟩ := hr.2.2.2.1 (by simpa using hh)
    obtain ⟨q0, q1, q2, q3⟩ := hx
    exact ⟨⟨by dsimp only; omega, by dsimp only; omega, by dsimp only; omega, by dsimp only; omega⟩, by dsimp only; omega, by dsimp only; omega, by dsimp only; omega, by dsimp only; omega⟩
def okL (l : List S54) : Prop := ∀ e ∈ l, okI e.f0 e.f1
theorem someE (l : List Int) (hl : ∀ x ∈ l, 0 ≤ x ∧ x ≤ 255) (n : Nat) (hn : n ≤ 1000) (d : Nat) : ∀ (acc : List S54) (i : Nat) (B p s : Int), i + d = n → acc.length = i → okL acc → St B p s → B + 10 * (d : Int) ≤ 999000 → EvP (fun k => spec_l00Src_someCode.l0 k (n : Int) acc (i : Int) l p s) (fun r => r.1.length = n ∧ okL r.1) := by
  induction d with
  | zero =>
    intro acc i B p s hi ha ho hs hB
    refine EvP.step (fun k => by simp only [spec_l00Src_someCode.l0]; rfl) ?_
    exact EvP.neg (by omega) (EvP.lit rfl ⟨by dsimp only; omega, ho⟩)
  | succ d ih =>
    intro acc i B p s hi ha ho hs hB
    refine EvP.step (fun k => by simp only [spec_l00Src_someCode.l0]; rfl) ?_
    refine EvP.pos (by omega) (EvP.bindP (instrE l hl B p s (by omega) hs) ?_)
    rintro r ⟨r0, r1⟩
    refine EvP.pos (by omega) ?_
    rw [w64 (by omega) (by omega)]
    have h := ih (acc ++ [⟨r.1, r.2.1⟩]) (i + 1) (B + 10) _ _ (by omega) (by simp [ha]) (by
      intro e he
      rcases List.mem_append.mp he with h | h
      · exact ho e h
      · obtain rfl := List.mem_singleton.mp h
        exact r0) r1 (by omega)
    exact_mod_cast h
theorem someCode (l : List Int) (hl : ∀ x ∈ l, 0 ≤ x ∧ x ≤ 255) (n : Nat) (hn : n ≤ 1000) : EvP (fun k => spec_SomeCode.f k l (n : Int)) (fun r => r.length = n ∧ okL r) := by
  unfold spec_SomeCode.f spec_l00Source.f spec_l00Src_someCode.f
  refine EvP.bindc rfl ?_
  refine EvP.bindP (someE l hl n hn n [] 0 0 0 _ (by omega) rfl (fun e he => by cases he) ⟨by omega, by omega, by (try dsimp only); omega, by (try dsimp only); omega⟩ (by omega)) ?_
  rintro r ⟨r0, r1⟩
  exact EvP.lit rfl ⟨r0, r1⟩
end Go.Proofs.Ytkeoifkdejnpfaa.Pu
