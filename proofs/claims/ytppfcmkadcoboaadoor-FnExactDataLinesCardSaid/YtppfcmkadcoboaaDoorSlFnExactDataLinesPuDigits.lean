/- The reference's digits of an int are its decimal text; so are the program's. -/
import Derived.Test.YtppfcmkadcoboaaDoorSlFnExactDataLinesGx0
import Derived.Test.YtppfcmkadcoboaaDoorSlFnExactDataLinesGx3
import Derived.Test.YtppfcmkadcoboaaDoorSlFnExactDataLinesGx8
import Derived.Test.YtppfcmkadcoboaaDoorSlFnExactDataLinesGvP
set_option linter.unusedVariables false
set_option linter.unusedSimpArgs false
namespace Go.Proofs.YtppfcmkadcoboaaDoor.Pu
open Go.RowKit Go.Proofs.YtppfcmkadcoboaaDoor.G Go.Proofs.YtppfcmkadcoboaaDoor.GivenP Go.Proofs.YtppfcmkadcoboaaDoorW.PrintWords Go.Proofs.YtppfcmkadcoboaaDoorW.PrintLast Go.Proofs.YtppfcmkadcoboaaDoorW.PrintMore
theorem one_digit (x : Nat) (h : x < 10) : strOfNums [(wrap64 (48 + (x : Int))) % 256] = (⟨#[UInt8.ofNat (48 + x)]⟩ : ByteArray) := by
  rw [w64 (by omega) (by omega), strOfNums_one]
  have e : ((48 + (x : Int)) % 256).toNat = 48 + x := by omega
  rw [e]
theorem one_size (x : UInt8) : (⟨#[x]⟩ : ByteArray).size = 1 := rfl
theorem digits_nat (d : Nat) : ∀ (u k : Nat), u < 10 ^ d → u ≤ 9223372036854775807 → d < k → spec_l00Digits.f k (u : Int) = some (decN u) := by
  induction d with
  | zero =>
    intro u k h _ hk
    obtain ⟨k, rfl⟩ : ∃ m, k = m + 1 := ⟨k - 1, by omega⟩
    have hu : u = 0 := by simpa using h
    subst hu
    simp only [spec_l00Digits.f]
    rw [if_neg (by omega), if_neg (by omega), if_pos (by omega), decN_small (by omega)]
    exact congrArg some (one_digit 0 (by omega))
  | succ d ih =>
    intro u k h hm hk
    obtain ⟨k, rfl⟩ : ∃ m, k = m + 1 := ⟨k - 1, by omega⟩
    simp only [spec_l00Digits.f]
    rw [if_neg (by omega), if_neg (by omega)]
    by_cases hs : u < 10
    · rw [if_pos (by omega), decN_small hs]
      exact congrArg some (one_digit u hs)
    · rw [if_neg (by omega)]
      have e1 : Int.tdiv (u : Int) 10 = ((u / 10 : Nat) : Int) := by rw [Int.tdiv_eq_ediv_of_nonneg (by omega)]; omega
      have e2 : Int.tmod (u : Int) 10 = ((u % 10 : Nat) : Int) := by rw [Int.tmod_eq_emod_of_nonneg (by omega)]; omega
      rw [e1, e2, w64 (x := ((u / 10 : Nat) : Int)) (by omega) (by omega), ih (u / 10) k (by rw [Nat.pow_succ] at h; omega) (by omega) (by omega)]
      simp only [Option.bind_some]
      rw [one_digit (u % 10) (by omega), one_size]
      have := decN_size (u / 10) (by omega)
      rw [if_pos (by omega), decN_big hs]
theorem digits (n : Int) (h : -9223372036854775808 ≤ n ∧ n ≤ 9223372036854775807) : Ev (fun k => spec_l00Digits.f k n) (dec n) := by
  refine ⟨25, fun k hk => ?_⟩
  rcases Int.lt_or_le n 0 with hn | hn
  · obtain ⟨k, rfl⟩ : ∃ m, k = m + 1 := ⟨k - 1, by omega⟩
    simp only [spec_l00Digits.f]
    by_cases hm : n = -9223372036854775808
    · subst hm
      rw [if_pos rfl]
      decide +kernel
    · rw [if_neg hm, if_pos hn]
      have e : wrap64 (-n) = (n.natAbs : Int) := by rw [w64 (by omega) (by omega)]; omega
      rw [e, digits_nat 20 n.natAbs k (by omega) (by omega) (by omega)]
      simp only [Option.bind_some]
      have := decN_size n.natAbs (by omega)
      rw [if_pos (by omega), dec_neg hn]
  · obtain ⟨u, rfl⟩ := Int.eq_ofNat_of_zero_le hn
    show spec_l00Digits.f k (u : Int) = _
    rw [digits_nat 20 u k (by omega) (by omega) (by omega), dec_nonneg hn]
    rfl
theorem decimal (n : Int) (h : -9223372036854775808 ≤ n ∧ n ≤ 9223372036854775807) : impl_decimal.f n = some (dec n) := by
  unfold impl_decimal.f
  rw [if_pos (show GivenW.I64 n from h)]
  rfl
end Go.Proofs.YtppfcmkadcoboaaDoor.Pu
