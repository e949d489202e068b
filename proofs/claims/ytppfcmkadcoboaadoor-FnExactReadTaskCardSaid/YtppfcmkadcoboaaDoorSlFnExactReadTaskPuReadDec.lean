/- What the program takes for a number is what the reference takes for one. -/
import Derived.Test.YtppfcmkadcoboaaDoorSlFnExactReadTaskRx0
import Derived.Test.YtppfcmkadcoboaaDoorSlFnExactReadTaskRx5
import Derived.Test.YtppfcmkadcoboaaDoorSlFnExactReadTaskGvP
import Derived.Test.YtppfcmkadcoboaaDoorSlFnExactReadTaskPuReadNum
import Derived.Lib.AtoiTie
import Derived.Lib.ItoaMem
set_option linter.unusedVariables false
set_option linter.unusedSimpArgs false
namespace Go.Proofs.YtppfcmkadcoboaaDoor.Pu
open Go.RowKit Go.Proofs.YtppfcmkadcoboaaDoor.R Go.Proofs.YtppfcmkadcoboaaDoor.GivenP Go.Proofs.YtppfcmkadcoboaaDoorW.PrintWords Go.Proofs.YtppfcmkadcoboaaDoorW.PrintLast Go.Proofs.YtppfcmkadcoboaaDoorW.PrintMore

theorem toL (x : List UInt8) : (⟨x.toArray⟩ : ByteArray).toList = x := mk_toL x
theorem g_eq (l : List UInt8) : impl_readDecimal.g (mk l) = match Lib.atoiAll l with
    | .ok v => (v, decide (Lib.itoa v = l) && decide ((Lib.trimPrefix l [45]).length ≤ 18))
    | .range => (Lib.atoiSat l, false)
    | .«syntax» => (0, false) := by
  unfold impl_readDecimal.g
  simp only [mk_data, impl_readDecimal.txt, impl_readDecimal.bare, toL, mk_toL]
  have : ∀ x : List UInt8, (⟨x.toArray⟩ : ByteArray).size = x.length := mk_size
  simp only [this]
  rfl
theorem head_dig (m : Nat) (c : UInt8) (r : List UInt8) (h : Lib.decDigits m = c :: r) : 48 ≤ c.toNat ∧ (1 ≤ m → c ≠ 48) ∧ (m = 0 → c = 48 ∧ r = []) := by
  obtain ⟨c', r', e, h1, h2, h3, h4⟩ := dig_head m m (Nat.le_refl _)
  rw [h] at e
  injection e with e1 e2
  subst e1 e2
  refine ⟨h1, h3, fun h0 => ⟨?_, h4 h0⟩⟩
  subst h0
  rw [Lib.decDigits_one (i := 0) (by decide)] at h
  injection h with h _
  exact h.symm
theorem decNat_none {b : List UInt8} (h : Lib.decNat b = none) (neg : Bool) : numB neg b = (0, false) := by
  unfold numB
  split
  · rfl
  · rename_i hc
    simp only [not_or] at hc
    have : Lib.decFrom 0 b = none := by
      unfold Lib.decNat at h
      rw [if_neg (by simpa using hc.1)] at h
      exact h
    rw [this]
theorem decNat_some {b : List UInt8} {m : Nat} (h : Lib.decNat b = some m) : b ≠ [] ∧ Lib.decFrom 0 b = some m := by
  unfold Lib.decNat at h
  split at h
  · cases h
  · rename_i hc
    exact ⟨by simpa using hc, h⟩
theorem body_neg (r : List UInt8) (m : Nat) (hl : r.length ≤ 18) (hd : Lib.decNat r = some m) : numB true r = if Lib.itoa (-(m : Int)) = 45 :: r then (-(m : Int), true) else (0, false) := by
  obtain ⟨h0, hf⟩ := decNat_some hd
  unfold numB
  by_cases hh : r.head? = some 48
  · rw [if_pos (.inr (.inr ⟨hh, .inr rfl⟩)), if_neg]
    intro e
    rcases Nat.eq_zero_or_pos m with hm | hm
    · subst hm
      rw [show (-((0 : Nat) : Int)) = ((0 : Nat) : Int) by rfl, Lib.itoa_nonneg, Lib.decDigits_one (i := 0) (by decide)] at e
      injection e with e _
      exact absurd e (by decide)
    · rw [Lib.itoa_neg m hm] at e
      injection e with _ e
      cases r with
      | nil => exact h0 rfl
      | cons c r => exact (head_dig m c r e).2.1 hm (by simpa using hh)
  · rw [if_neg (by rintro (h | h | ⟨h, _⟩) <;> first | exact h0 h | omega | exact hh h), hf]
    have e := canon r.length r m rfl h0 (.inl hh) hf
    have hm : 1 ≤ m := by
      rcases Nat.eq_zero_or_pos m with hm | hm
      · cases r with
        | nil => exact absurd rfl h0
        | cons c r => exact absurd (by rw [((head_dig m c r e).2.2 hm).1]; rfl) hh
      · exact hm
    rw [if_pos (by rw [Lib.itoa_neg m hm, e])]
    rfl
theorem body_pos (b : List UInt8) (m : Nat) (hl : b.length ≤ 18) (hd : Lib.decNat b = some m) : numB false b = if Lib.itoa (m : Int) = b then ((m : Int), true) else (0, false) := by
  obtain ⟨h0, hf⟩ := decNat_some hd
  rw [Lib.itoa_nonneg]
  unfold numB
  by_cases hh : b.head? = some 48 ∧ 1 < b.length
  · rw [if_pos (.inr (.inr ⟨hh.1, .inl hh.2⟩)), if_neg]
    intro e
    cases b with
    | nil => exact h0 rfl
    | cons c r =>
      have h := head_dig m c r e
      rcases Nat.eq_zero_or_pos m with hm | hm
      · have := (h.2.2 hm).2
        subst this
        simp at hh
      · exact h.2.1 hm (by simpa using hh.1)
  · have hlen : 0 < b.length := List.length_pos_iff.mpr h0
    rw [if_neg (by rintro (h | h | ⟨h, h2 | h2⟩) <;> first | exact h0 h | omega | exact hh ⟨h, h2⟩ | cases h2), hf]
    have hor : b.head? ≠ some 48 ∨ b.length = 1 := by
      by_cases h1 : b.length = 1
      · exact .inr h1
      · exact .inl fun h => hh ⟨h, by omega⟩
    rw [if_pos (canon b.length b m rfl h0 hor hf)]
    rfl
theorem num_impl (l : List UInt8) : (impl_readDecimal.g (mk l)).2 = (numL l).2 ∧ ((numL l).2 = true → (impl_readDecimal.g (mk l)).1 = (numL l).1) := by
  rw [g_eq]
  have long_ : ∀ b : List UInt8, 18 < b.length → ∀ neg, numB neg b = (0, false) := fun b h neg => by unfold numB; rw [if_pos (.inr (.inl h))]
  have far_ : 18 < (Lib.trimPrefix l [45]).length → ((match Lib.atoiAll l with
    | .ok v => (v, decide (Lib.itoa v = l) && decide ((Lib.trimPrefix l [45]).length ≤ 18))
    | .range => (Lib.atoiSat l, false)
    | .«syntax» => (0, false) : Int × Bool)).2 = false := fun h => by
      split
      · rw [decide_eq_false (p := (Lib.trimPrefix l [45]).length ≤ 18) (by omega), Bool.and_false]
      · rfl
      · rfl
  unfold numL
  cases l with
  | nil => simp [Lib.atoiAll, numB]
  | cons c r =>
    by_cases h45 : c = 45
    · subst h45
      have ht : Lib.trimPrefix (45 :: r) [45] = r := by simp [Lib.trimPrefix, Lib.hasPrefix, List.isPrefixOf]
      rw [if_pos (by rfl : (45 :: r).head? = some (45 : UInt8)), List.tail_cons]
      by_cases hl : r.length ≤ 18
      · rw [Lib.atoiAll_minus, Lib.signed_short hl, ht]
        cases hd : Lib.decNat r with
        | none => rw [decNat_none hd]; simp [Lib.NumEnd.ofOption]
        | some m =>
          rw [body_neg r m hl hd]
          simp only [Option.map_some, Lib.NumEnd.ofOption, decide_eq_true hl, Bool.and_true]
          split
          · rename_i e; simp [e]
          · rename_i e; simp [e]
      · rw [long_ r (by omega), far_ (by rw [ht]; omega)]
        simp
    · have ht : Lib.trimPrefix (c :: r) [45] = c :: r := by simp [Lib.trimPrefix, Lib.hasPrefix, List.isPrefixOf, Ne.symm h45]
      rw [if_neg (by simpa using h45)]
      by_cases hl : (c :: r).length ≤ 18
      · rw [ht]
        by_cases h43 : c = 43
        · subst h43
          have hn : Lib.decNat (43 :: r) = none := by simp [Lib.decNat, Lib.decFrom, Lib.digitVal]
          rw [decNat_none hn, Lib.atoiAll_plus]
          cases Lib.parseMag r with
          | «syntax» => simp [Lib.signless]
          | range => simp [Lib.signless]
          | ok u =>
            simp only [Lib.signless]
            by_cases hu : 9223372036854775808 ≤ u
            · rw [if_pos hu]; simp
            · rw [if_neg hu]
              have hne : ¬ Lib.itoa (u : Int) = 43 :: r := fun e => by
                rw [Lib.itoa_nonneg] at e
                have := (head_dig u 43 r e).1
                exact absurd this (by decide)
              simp [hne]
        · rw [Lib.atoiAll_plain c r (fun e => h43 (UInt8.toNat_inj.mp e)) (fun e => h45 (UInt8.toNat_inj.mp e)), Lib.signless_short hl]
          cases hd : Lib.decNat (c :: r) with
          | none => rw [decNat_none hd]; simp [Lib.NumEnd.ofOption]
          | some m =>
            rw [body_pos (c :: r) m hl hd]
            simp only [Option.map_some, Lib.NumEnd.ofOption, decide_eq_true hl, Bool.and_true]
            split
            · rename_i e; simp [e]
            · rename_i e; simp [e]
      · rw [long_ (c :: r) (by omega), far_ (by rw [ht]; omega)]
        simp
end Go.Proofs.YtppfcmkadcoboaaDoor.Pu
