-- by gprint.py (a program of this session's own), over the kit's print.py; Lean checks it
import Derived.Test.YtkeoifkdejnpfaaDoorGx0
import Derived.Test.YtkeoifkdejnpfaaDoorSlFnExactTaskTextGx1
namespace Go.Proofs.YtkeoifkdejnpfaaDoor.G
open Go.RowKit Go.Proofs.YtkeoifkdejnpfaaDoorW.PrintWords Go.Proofs.YtkeoifkdejnpfaaDoorW.PrintLast Go.Proofs.YtkeoifkdejnpfaaDoorW.PrintMore
attribute [local go_sem] max2_int min2_int max_two min_two max_three min_three max_four min_four   -- for this text's walks alone
set_option linter.unusedVariables false
set_option linter.unusedSimpArgs false

/-! ### spec_l13Task: function 37 -/
def spec_l13Task.f (k : Nat) (a0_0 : Int) (a0_1 : Int) (a0_2 : Int) (a0_3 : Int) (a0_4 : Int) (a0_5 : Int) : Option (ByteArray) := (some (([(⟨#[99, 121, 99, 108, 105, 99]⟩ : ByteArray), (⟨#[101, 118, 101, 110, 116]⟩ : ByteArray)] : List ByteArray) : List ByteArray)).bind fun y213 => (if 0 ≤ (wrap64 (a0_0 - 1)) then (if (wrap64 (a0_0 - 1)) < (y213.length : Int) then (if (rdOf ByteArray.empty y213 (wrap64 (a0_0 - 1))).size + 1 ≤ 9223372036854775807 then ((spec_l00Digits.f k a0_1).bind fun t217 => (if ((rdOf ByteArray.empty y213 (wrap64 (a0_0 - 1))) ++ (⟨#[32]⟩ : ByteArray)).size + t217.size ≤ 9223372036854775807 then (if (((rdOf ByteArray.empty y213 (wrap64 (a0_0 - 1))) ++ (⟨#[32]⟩ : ByteArray)) ++ t217).size + 1 ≤ 9223372036854775807 then ((spec_l00Digits.f k a0_2).bind fun t218 => (if ((((rdOf ByteArray.empty y213 (wrap64 (a0_0 - 1))) ++ (⟨#[32]⟩ : ByteArray)) ++ t217) ++ (⟨#[32]⟩ : ByteArray)).size + t218.size ≤ 9223372036854775807 then (if a0_0 = 2 then ((spec_l00Digits.f k a0_3).bind fun t219 => (if 1 + t219.size ≤ 9223372036854775807 then (if ((⟨#[32]⟩ : ByteArray) ++ t219).size + 1 ≤ 9223372036854775807 then ((spec_l00Digits.f k a0_4).bind fun t220 => (if (((⟨#[32]⟩ : ByteArray) ++ t219) ++ (⟨#[32]⟩ : ByteArray)).size + t220.size ≤ 9223372036854775807 then (if (((((rdOf ByteArray.empty y213 (wrap64 (a0_0 - 1))) ++ (⟨#[32]⟩ : ByteArray)) ++ t217) ++ (⟨#[32]⟩ : ByteArray)) ++ t218).size + ((((⟨#[32]⟩ : ByteArray) ++ t219) ++ (⟨#[32]⟩ : ByteArray)) ++ t220).size ≤ 9223372036854775807 then (if ((((((rdOf ByteArray.empty y213 (wrap64 (a0_0 - 1))) ++ (⟨#[32]⟩ : ByteArray)) ++ t217) ++ (⟨#[32]⟩ : ByteArray)) ++ t218) ++ ((((⟨#[32]⟩ : ByteArray) ++ t219) ++ (⟨#[32]⟩ : ByteArray)) ++ t220)).size + 1 ≤ 9223372036854775807 then ((spec_l00Digits.f k a0_5).bind fun t221 => (if (((((((rdOf ByteArray.empty y213 (wrap64 (a0_0 - 1))) ++ (⟨#[32]⟩ : ByteArray)) ++ t217) ++ (⟨#[32]⟩ : ByteArray)) ++ t218) ++ ((((⟨#[32]⟩ : ByteArray) ++ t219) ++ (⟨#[32]⟩ : ByteArray)) ++ t220)) ++ (⟨#[32]⟩ : ByteArray)).size + t221.size ≤ 9223372036854775807 then (some ((((((((rdOf ByteArray.empty y213 (wrap64 (a0_0 - 1))) ++ (⟨#[32]⟩ : ByteArray)) ++ t217) ++ (⟨#[32]⟩ : ByteArray)) ++ t218) ++ ((((⟨#[32]⟩ : ByteArray) ++ t219) ++ (⟨#[32]⟩ : ByteArray)) ++ t220)) ++ (⟨#[32]⟩ : ByteArray)) ++ t221)) else (none))) else (none)) else (none)) else (none))) else (none)) else (none))) else (if (((((rdOf ByteArray.empty y213 (wrap64 (a0_0 - 1))) ++ (⟨#[32]⟩ : ByteArray)) ++ t217) ++ (⟨#[32]⟩ : ByteArray)) ++ t218).size + 1 ≤ 9223372036854775807 then ((spec_l00Digits.f k a0_5).bind fun t222 => (if ((((((rdOf ByteArray.empty y213 (wrap64 (a0_0 - 1))) ++ (⟨#[32]⟩ : ByteArray)) ++ t217) ++ (⟨#[32]⟩ : ByteArray)) ++ t218) ++ (⟨#[32]⟩ : ByteArray)).size + t222.size ≤ 9223372036854775807 then (some (((((((rdOf ByteArray.empty y213 (wrap64 (a0_0 - 1))) ++ (⟨#[32]⟩ : ByteArray)) ++ t217) ++ (⟨#[32]⟩ : ByteArray)) ++ t218) ++ (⟨#[32]⟩ : ByteArray)) ++ t222)) else (none))) else (none))) else (none))) else (none)) else (none))) else (none)) else (none)) else (none))
theorem spec_l13Task.mono : ∀ a0 a1 a2 a3 a4 a5 k, LeO (spec_l13Task.f k a0 a1 a2 a3 a4 a5) (spec_l13Task.f (k + 1) a0 a1 a2 a3 a4 a5) := by
  intro a0 a1 a2 a3 a4 a5 k
  unfold spec_l13Task.f
  repeat' first
      | (with_reducible exact spec_l00Digits.mono _ _)
      | (with_reducible exact LeO.refl _)
      | (with_reducible exact LeO.none _)
      | (with_reducible refine LeO.ite ?_ ?_)
      | (with_reducible refine LeO.bind ?_ (fun _ => ?_))
      | exact spec_l00Digits.mono _ _
      | exact LeO.none _
      | refine LeO.ite ?_ ?_
      | refine LeO.bind ?_ (fun _ => ?_)
def spec_l13Task.T1 : Bool × List (List Nat × List Nat) := (true, [([], []), ([], []), ([1], [1]), ([2], [2]), ([0, 3], [0, 3]), ([4], [4]), ([5], [5]), ([], []), ([7], [7]), ([8], [8]), ([6, 9], [6, 9]), ([10], [10]), ([], []), ([12], [12]), ([13, 9], [13]), ([11, 14], [11, 14]), ([15, 14, 0, 1, 2, 3, 4, 5, 6, 7, 8, 9, 10, 11, 12, 13, 14, 15], [15])])
def spec_l13Task.B1 : List Nat := [0, 0, 2, 6, 15, 31, 63, 0, 128, 384, 1023, 2047, 0, 4096, 13184, 32767, 65535]
theorem spec_l13Task.tab1 : rtab .any (opsOf Tryd.f37 1) = spec_l13Task.T1 := by kernel_rfl
theorem spec_l13Task.bits1 : waitsOk spec_l13Task.T1.2 spec_l13Task.B1 = true := by kernel_rfl
def spec_l13Task.T3 : Bool × List (List Nat × List Nat) := (true, [([], []), ([], []), ([1], [1]), ([2], [2]), ([3], [3]), ([4], [4]), ([], []), ([6], [6]), ([7, 3], [7]), ([5, 8], [5, 8]), ([0, 9], [0, 9]), ([10, 8, 0, 1, 2, 3, 4, 5, 6, 7, 8, 9, 10], [0, 10])])
def spec_l13Task.B3 : List Nat := [0, 0, 2, 6, 14, 30, 0, 64, 206, 510, 1023, 2047]
theorem spec_l13Task.tab3 : rtab .any (opsOf Tryd.f37 3) = spec_l13Task.T3 := by kernel_rfl
theorem spec_l13Task.bits3 : waitsOk spec_l13Task.T3.2 spec_l13Task.B3 = true := by kernel_rfl
set_option maxHeartbeats 8000000 in
set_option maxRecDepth 100000 in
theorem spec_l13Task.calls (k : Nat) (a0_0 : Int) (a0_1 : Int) (a0_2 : Int) (a0_3 : Int) (a0_4 : Int) (a0_5 : Int) (r : ByteArray) (w : World) (h : spec_l13Task.f k a0_0 a0_1 a0_2 a0_3 a0_4 a0_5 = some r) :
    Calls Tryd.prog 37 #[.agg #[.int .i64 a0_0, .int .i64 a0_1, .int .i64 a0_2, .int .i64 a0_3, .int .i64 a0_4, .int .i64 a0_5]] w fun e w' => e = .returned (.string r) ∧ Below w.heap.size w w' := by
  have hu38 := Tryd.underlying38
  have HB := Aside0.mk (Below.refl w.heap.size w)
  have H : ((some (([(⟨#[99, 121, 99, 108, 105, 99]⟩ : ByteArray), (⟨#[101, 118, 101, 110, 116]⟩ : ByteArray)] : List ByteArray) : List ByteArray)).bind fun y213 => (if 0 ≤ (wrap64 (a0_0 - 1)) then (if (wrap64 (a0_0 - 1)) < (y213.length : Int) then (if (rdOf ByteArray.empty y213 (wrap64 (a0_0 - 1))).size + 1 ≤ 9223372036854775807 then ((spec_l00Digits.f k a0_1).bind fun t217 => (if ((rdOf ByteArray.empty y213 (wrap64 (a0_0 - 1))) ++ (⟨#[32]⟩ : ByteArray)).size + t217.size ≤ 9223372036854775807 then (if (((rdOf ByteArray.empty y213 (wrap64 (a0_0 - 1))) ++ (⟨#[32]⟩ : ByteArray)) ++ t217).size + 1 ≤ 9223372036854775807 then ((spec_l00Digits.f k a0_2).bind fun t218 => (if ((((rdOf ByteArray.empty y213 (wrap64 (a0_0 - 1))) ++ (⟨#[32]⟩ : ByteArray)) ++ t217) ++ (⟨#[32]⟩ : ByteArray)).size + t218.size ≤ 9223372036854775807 then (if a0_0 = 2 then ((spec_l00Digits.f k a0_3).bind fun t219 => (if 1 + t219.size ≤ 9223372036854775807 then (if ((⟨#[32]⟩ : ByteArray) ++ t219).size + 1 ≤ 9223372036854775807 then ((spec_l00Digits.f k a0_4).bind fun t220 => (if (((⟨#[32]⟩ : ByteArray) ++ t219) ++ (⟨#[32]⟩ : ByteArray)).size + t220.size ≤ 9223372036854775807 then (if (((((rdOf ByteArray.empty y213 (wrap64 (a0_0 - 1))) ++ (⟨#[32]⟩ : ByteArray)) ++ t217) ++ (⟨#[32]⟩ : ByteArray)) ++ t218).size + ((((⟨#[32]⟩ : ByteArray) ++ t219) ++ (⟨#[32]⟩ : ByteArray)) ++ t220).size ≤ 9223372036854775807 then (if ((((((rdOf ByteArray.empty y213 (wrap64 (a0_0 - 1))) ++ (⟨#[32]⟩ : ByteArray)) ++ t217) ++ (⟨#[32]⟩ : ByteArray)) ++ t218) ++ ((((⟨#[32]⟩ : ByteArray) ++ t219) ++ (⟨#[32]⟩ : ByteArray)) ++ t220)).size + 1 ≤ 9223372036854775807 then ((spec_l00Digits.f k a0_5).bind fun t221 => (if (((((((rdOf ByteArray.empty y213 (wrap64 (a0_0 - 1))) ++ (⟨#[32]⟩ : ByteArray)) ++ t217) ++ (⟨#[32]⟩ : ByteArray)) ++ t218) ++ ((((⟨#[32]⟩ : ByteArray) ++ t219) ++ (⟨#[32]⟩ : ByteArray)) ++ t220)) ++ (⟨#[32]⟩ : ByteArray)).size + t221.size ≤ 9223372036854775807 then (some ((((((((rdOf ByteArray.empty y213 (wrap64 (a0_0 - 1))) ++ (⟨#[32]⟩ : ByteArray)) ++ t217) ++ (⟨#[32]⟩ : ByteArray)) ++ t218) ++ ((((⟨#[32]⟩ : ByteArray) ++ t219) ++ (⟨#[32]⟩ : ByteArray)) ++ t220)) ++ (⟨#[32]⟩ : ByteArray)) ++ t221)) else (none))) else (none)) else (none)) else (none))) else (none)) else (none))) else (if (((((rdOf ByteArray.empty y213 (wrap64 (a0_0 - 1))) ++ (⟨#[32]⟩ : ByteArray)) ++ t217) ++ (⟨#[32]⟩ : ByteArray)) ++ t218).size + 1 ≤ 9223372036854775807 then ((spec_l00Digits.f k a0_5).bind fun t222 => (if ((((((rdOf ByteArray.empty y213 (wrap64 (a0_0 - 1))) ++ (⟨#[32]⟩ : ByteArray)) ++ t217) ++ (⟨#[32]⟩ : ByteArray)) ++ t218) ++ (⟨#[32]⟩ : ByteArray)).size + t222.size ≤ 9223372036854775807 then (some (((((((rdOf ByteArray.empty y213 (wrap64 (a0_0 - 1))) ++ (⟨#[32]⟩ : ByteArray)) ++ t217) ++ (⟨#[32]⟩ : ByteArray)) ++ t218) ++ (⟨#[32]⟩ : ByteArray)) ++ t222)) else (none))) else (none))) else (none))) else (none)) else (none))) else (none)) else (none)) else (none))) = some r := h
  clear h
  obtain ⟨y213, hy213⟩ : ∃ y_ : List ByteArray, y_ = (([(⟨#[99, 121, 99, 108, 105, 99]⟩ : ByteArray), (⟨#[101, 118, 101, 110, 116]⟩ : ByteArray)] : List ByteArray)) := ⟨_, rfl⟩
  replace H : (if 0 ≤ (wrap64 (a0_0 - 1)) then (if (wrap64 (a0_0 - 1)) < (y213.length : Int) then (if (rdOf ByteArray.empty y213 (wrap64 (a0_0 - 1))).size + 1 ≤ 9223372036854775807 then ((spec_l00Digits.f k a0_1).bind fun t217 => (if ((rdOf ByteArray.empty y213 (wrap64 (a0_0 - 1))) ++ (⟨#[32]⟩ : ByteArray)).size + t217.size ≤ 9223372036854775807 then (if (((rdOf ByteArray.empty y213 (wrap64 (a0_0 - 1))) ++ (⟨#[32]⟩ : ByteArray)) ++ t217).size + 1 ≤ 9223372036854775807 then ((spec_l00Digits.f k a0_2).bind fun t218 => (if ((((rdOf ByteArray.empty y213 (wrap64 (a0_0 - 1))) ++ (⟨#[32]⟩ : ByteArray)) ++ t217) ++ (⟨#[32]⟩ : ByteArray)).size + t218.size ≤ 9223372036854775807 then (if a0_0 = 2 then ((spec_l00Digits.f k a0_3).bind fun t219 => (if 1 + t219.size ≤ 9223372036854775807 then (if ((⟨#[32]⟩ : ByteArray) ++ t219).size + 1 ≤ 9223372036854775807 then ((spec_l00Digits.f k a0_4).bind fun t220 => (if (((⟨#[32]⟩ : ByteArray) ++ t219) ++ (⟨#[32]⟩ : ByteArray)).size + t220.size ≤ 9223372036854775807 then (if (((((rdOf ByteArray.empty y213 (wrap64 (a0_0 - 1))) ++ (⟨#[32]⟩ : ByteArray)) ++ t217) ++ (⟨#[32]⟩ : ByteArray)) ++ t218).size + ((((⟨#[32]⟩ : ByteArray) ++ t219) ++ (⟨#[32]⟩ : ByteArray)) ++ t220).size ≤ 9223372036854775807 then (if ((((((rdOf ByteArray.empty y213 (wrap64 (a0_0 - 1))) ++ (⟨#[32]⟩ : ByteArray)) ++ t217) ++ (⟨#[32]⟩ : ByteArray)) ++ t218) ++ ((((⟨#[32]⟩ : ByteArray) ++ t219) ++ (⟨#[32]⟩ : ByteArray)) ++ t220)).size + 1 ≤ 9223372036854775807 then ((spec_l00Digits.f k a0_5).bind fun t221 => (if (((((((rdOf ByteArray.empty y213 (wrap64 (a0_0 - 1))) ++ (⟨#[32]⟩ : ByteArray)) ++ t217) ++ (⟨#[32]⟩ : ByteArray)) ++ t218) ++ ((((⟨#[32]⟩ : ByteArray) ++ t219) ++ (⟨#[32]⟩ : ByteArray)) ++ t220)) ++ (⟨#[32]⟩ : ByteArray)).size + t221.size ≤ 9223372036854775807 then (some ((((((((rdOf ByteArray.empty y213 (wrap64 (a0_0 - 1))) ++ (⟨#[32]⟩ : ByteArray)) ++ t217) ++ (⟨#[32]⟩ : ByteArray)) ++ t218) ++ ((((⟨#[32]⟩ : ByteArray) ++ t219) ++ (⟨#[32]⟩ : ByteArray)) ++ t220)) ++ (⟨#[32]⟩ : ByteArray)) ++ t221)) else (none))) else (none)) else (none)) else (none))) else (none)) else (none))) else (if (((((rdOf ByteArray.empty y213 (wrap64 (a0_0 - 1))) ++ (⟨#[32]⟩ : ByteArray)) ++ t217) ++ (⟨#[32]⟩ : ByteArray)) ++ t218).size + 1 ≤ 9223372036854775807 then ((spec_l00Digits.f k a0_5).bind fun t222 => (if ((((((rdOf ByteArray.empty y213 (wrap64 (a0_0 - 1))) ++ (⟨#[32]⟩ : ByteArray)) ++ t217) ++ (⟨#[32]⟩ : ByteArray)) ++ t218) ++ (⟨#[32]⟩ : ByteArray)).size + t222.size ≤ 9223372036854775807 then (some (((((((rdOf ByteArray.empty y213 (wrap64 (a0_0 - 1))) ++ (⟨#[32]⟩ : ByteArray)) ++ t217) ++ (⟨#[32]⟩ : ByteArray)) ++ t218) ++ (⟨#[32]⟩ : ByteArray)) ++ t222)) else (none))) else (none))) else (none))) else (none)) else (none))) else (none)) else (none)) else (none)) = some r := by first | (rw [hy213]; with_reducible exact H) | (have H2_ := (Option.bind_some _ _).symm.trans H; rw [hy213]; with_reducible exact H2_) | (have H2_ := (Option.bind_some _ _).symm.trans H; with_reducible exact H2_) | with_reducible exact H | (rw [hy213]; exact H) | exact H
  have Ny213 := Aside0.mk hy213
  clear hy213
  obtain ⟨ji2, hji2⟩ : ∃ j_ : Int, (wrap64 (a0_0 - 1)) = j_ := ⟨_, rfl⟩
  replace H : (if 0 ≤ (ji2) then (if (ji2) < (y213.length : Int) then (if (rdOf ByteArray.empty y213 (ji2)).size + 1 ≤ 9223372036854775807 then ((spec_l00Digits.f k a0_1).bind fun t217 => (if ((rdOf ByteArray.empty y213 (ji2)) ++ (⟨#[32]⟩ : ByteArray)).size + t217.size ≤ 9223372036854775807 then (if (((rdOf ByteArray.empty y213 (ji2)) ++ (⟨#[32]⟩ : ByteArray)) ++ t217).size + 1 ≤ 9223372036854775807 then ((spec_l00Digits.f k a0_2).bind fun t218 => (if ((((rdOf ByteArray.empty y213 (ji2)) ++ (⟨#[32]⟩ : ByteArray)) ++ t217) ++ (⟨#[32]⟩ : ByteArray)).size + t218.size ≤ 9223372036854775807 then (if a0_0 = 2 then ((spec_l00Digits.f k a0_3).bind fun t219 => (if 1 + t219.size ≤ 9223372036854775807 then (if ((⟨#[32]⟩ : ByteArray) ++ t219).size + 1 ≤ 9223372036854775807 then ((spec_l00Digits.f k a0_4).bind fun t220 => (if (((⟨#[32]⟩ : ByteArray) ++ t219) ++ (⟨#[32]⟩ : ByteArray)).size + t220.size ≤ 9223372036854775807 then (if (((((rdOf ByteArray.empty y213 (ji2)) ++ (⟨#[32]⟩ : ByteArray)) ++ t217) ++ (⟨#[32]⟩ : ByteArray)) ++ t218).size + ((((⟨#[32]⟩ : ByteArray) ++ t219) ++ (⟨#[32]⟩ : ByteArray)) ++ t220).size ≤ 9223372036854775807 then (if ((((((rdOf ByteArray.empty y213 (ji2)) ++ (⟨#[32]⟩ : ByteArray)) ++ t217) ++ (⟨#[32]⟩ : ByteArray)) ++ t218) ++ ((((⟨#[32]⟩ : ByteArray) ++ t219) ++ (⟨#[32]⟩ : ByteArray)) ++ t220)).size + 1 ≤ 9223372036854775807 then ((spec_l00Digits.f k a0_5).bind fun t221 => (if (((((((rdOf ByteArray.empty y213 (ji2)) ++ (⟨#[32]⟩ : ByteArray)) ++ t217) ++ (⟨#[32]⟩ : ByteArray)) ++ t218) ++ ((((⟨#[32]⟩ : ByteArray) ++ t219) ++ (⟨#[32]⟩ : ByteArray)) ++ t220)) ++ (⟨#[32]⟩ : ByteArray)).size + t221.size ≤ 9223372036854775807 then (some ((((((((rdOf ByteArray.empty y213 (ji2)) ++ (⟨#[32]⟩ : ByteArray)) ++ t217) ++ (⟨#[32]⟩ : ByteArray)) ++ t218) ++ ((((⟨#[32]⟩ : ByteArray) ++ t219) ++ (⟨#[32]⟩ : ByteArray)) ++ t220)) ++ (⟨#[32]⟩ : ByteArray)) ++ t221)) else (none))) else (none)) else (none)) else (none))) else (none)) else (none))) else (if (((((rdOf ByteArray.empty y213 (ji2)) ++ (⟨#[32]⟩ : ByteArray)) ++ t217) ++ (⟨#[32]⟩ : ByteArray)) ++ t218).size + 1 ≤ 9223372036854775807 then ((spec_l00Digits.f k a0_5).bind fun t222 => (if ((((((rdOf ByteArray.empty y213 (ji2)) ++ (⟨#[32]⟩ : ByteArray)) ++ t217) ++ (⟨#[32]⟩ : ByteArray)) ++ t218) ++ (⟨#[32]⟩ : ByteArray)).size + t222.size ≤ 9223372036854775807 then (some (((((((rdOf ByteArray.empty y213 (ji2)) ++ (⟨#[32]⟩ : ByteArray)) ++ t217) ++ (⟨#[32]⟩ : ByteArray)) ++ t218) ++ (⟨#[32]⟩ : ByteArray)) ++ t222)) else (none))) else (none))) else (none))) else (none)) else (none))) else (none)) else (none)) else (none)) = some r := by first | (rw [hji2] at H; exact H) | (simp only [hji2] at H ⊢; exact H)
  have hji2w : (IntKind.i64.wrap (a0_0 - 1)) = ji2 := (i64_w _).trans hji2
  by_cases c3 : 0 ≤ (ji2)
  · rw [if_pos c3] at H
    have c3b0 : decide (0 ≤ (ji2)) = true := decide_eq_true c3
    clear c3
    by_cases c4 : (ji2) < (y213.length : Int)
    · rw [if_pos c4] at H
      have c4b0 : decide ((ji2) < (y213.length : Int)) = true := decide_eq_true c4
      clear c4
      by_cases c5 : (rdOf ByteArray.empty y213 (ji2)).size + 1 ≤ 9223372036854775807
      · rw [if_pos c5] at H
        have c5b0 := eq_true c5
        have c5b1 : decide ((rdOf ByteArray.empty y213 (ji2)).size + 1 ≤ 9223372036854775807) = true := decide_eq_true c5
        try have c5b2 : (9223372036854775807 < (rdOf ByteArray.empty y213 (ji2)).size + 1) = False := eq_false (Nat.not_lt.2 c5)
        replace H := Option.bind_eq_some_iff.mp H
        obtain ⟨t217, A60, H⟩ := H
        replace H : (if ((rdOf ByteArray.empty y213 (ji2)) ++ (⟨#[32]⟩ : ByteArray)).size + t217.size ≤ 9223372036854775807 then (if (((rdOf ByteArray.empty y213 (ji2)) ++ (⟨#[32]⟩ : ByteArray)) ++ t217).size + 1 ≤ 9223372036854775807 then ((spec_l00Digits.f k a0_2).bind fun t218 => (if ((((rdOf ByteArray.empty y213 (ji2)) ++ (⟨#[32]⟩ : ByteArray)) ++ t217) ++ (⟨#[32]⟩ : ByteArray)).size + t218.size ≤ 9223372036854775807 then (if a0_0 = 2 then ((spec_l00Digits.f k a0_3).bind fun t219 => (if 1 + t219.size ≤ 9223372036854775807 then (if ((⟨#[32]⟩ : ByteArray) ++ t219).size + 1 ≤ 9223372036854775807 then ((spec_l00Digits.f k a0_4).bind fun t220 => (if (((⟨#[32]⟩ : ByteArray) ++ t219) ++ (⟨#[32]⟩ : ByteArray)).size + t220.size ≤ 9223372036854775807 then (if (((((rdOf ByteArray.empty y213 (ji2)) ++ (⟨#[32]⟩ : ByteArray)) ++ t217) ++ (⟨#[32]⟩ : ByteArray)) ++ t218).size + ((((⟨#[32]⟩ : ByteArray) ++ t219) ++ (⟨#[32]⟩ : ByteArray)) ++ t220).size ≤ 9223372036854775807 then (if ((((((rdOf ByteArray.empty y213 (ji2)) ++ (⟨#[32]⟩ : ByteArray)) ++ t217) ++ (⟨#[32]⟩ : ByteArray)) ++ t218) ++ ((((⟨#[32]⟩ : ByteArray) ++ t219) ++ (⟨#[32]⟩ : ByteArray)) ++ t220)).size + 1 ≤ 9223372036854775807 then ((spec_l00Digits.f k a0_5).bind fun t221 => (if (((((((rdOf ByteArray.empty y213 (ji2)) ++ (⟨#[32]⟩ : ByteArray)) ++ t217) ++ (⟨#[32]⟩ : ByteArray)) ++ t218) ++ ((((⟨#[32]⟩ : ByteArray) ++ t219) ++ (⟨#[32]⟩ : ByteArray)) ++ t220)) ++ (⟨#[32]⟩ : ByteArray)).size + t221.size ≤ 9223372036854775807 then (some ((((((((rdOf ByteArray.empty y213 (ji2)) ++ (⟨#[32]⟩ : ByteArray)) ++ t217) ++ (⟨#[32]⟩ : ByteArray)) ++ t218) ++ ((((⟨#[32]⟩ : ByteArray) ++ t219) ++ (⟨#[32]⟩ : ByteArray)) ++ t220)) ++ (⟨#[32]⟩ : ByteArray)) ++ t221)) else (none))) else (none)) else (none)) else (none))) else (none)) else (none))) else (if (((((rdOf ByteArray.empty y213 (ji2)) ++ (⟨#[32]⟩ : ByteArray)) ++ t217) ++ (⟨#[32]⟩ : ByteArray)) ++ t218).size + 1 ≤ 9223372036854775807 then ((spec_l00Digits.f k a0_5).bind fun t222 => (if ((((((rdOf ByteArray.empty y213 (ji2)) ++ (⟨#[32]⟩ : ByteArray)) ++ t217) ++ (⟨#[32]⟩ : ByteArray)) ++ t218) ++ (⟨#[32]⟩ : ByteArray)).size + t222.size ≤ 9223372036854775807 then (some (((((((rdOf ByteArray.empty y213 (ji2)) ++ (⟨#[32]⟩ : ByteArray)) ++ t217) ++ (⟨#[32]⟩ : ByteArray)) ++ t218) ++ (⟨#[32]⟩ : ByteArray)) ++ t222)) else (none))) else (none))) else (none))) else (none)) else (none)) = some r := H
        have A6 := Aside0.mk A60
        clear A60
        by_cases c7 : ((rdOf ByteArray.empty y213 (ji2)) ++ (⟨#[32]⟩ : ByteArray)).size + t217.size ≤ 9223372036854775807
        · rw [if_pos c7] at H
          have c7b0 := eq_true c7
          have c7b1 : decide (((rdOf ByteArray.empty y213 (ji2)) ++ (⟨#[32]⟩ : ByteArray)).size + t217.size ≤ 9223372036854775807) = true := decide_eq_true c7
          try have c7b2 : (9223372036854775807 < ((rdOf ByteArray.empty y213 (ji2)) ++ (⟨#[32]⟩ : ByteArray)).size + t217.size) = False := eq_false (Nat.not_lt.2 c7)
          try (have c7b3 := c7b2; simp only [ByteArray.size_append] at c7b3)
          try (have c7b4 : (9223372036854775807 < (rdOf ByteArray.empty y213 (ji2)).size + 1 + t217.size) = False := by have h_ := c7b2; simp only [ByteArray.size_append] at h_; exact h_)
          by_cases c8 : (((rdOf ByteArray.empty y213 (ji2)) ++ (⟨#[32]⟩ : ByteArray)) ++ t217).size + 1 ≤ 9223372036854775807
          · rw [if_pos c8] at H
            have c8b0 := eq_true c8
            have c8b1 : decide ((((rdOf ByteArray.empty y213 (ji2)) ++ (⟨#[32]⟩ : ByteArray)) ++ t217).size + 1 ≤ 9223372036854775807) = true := decide_eq_true c8
            try have c8b2 : (9223372036854775807 < (((rdOf ByteArray.empty y213 (ji2)) ++ (⟨#[32]⟩ : ByteArray)) ++ t217).size + 1) = False := eq_false (Nat.not_lt.2 c8)
            try (have c8b3 := c8b2; simp only [ByteArray.size_append] at c8b3)
            try (have c8b4 : (9223372036854775807 < (rdOf ByteArray.empty y213 (ji2)).size + 1 + t217.size + 1) = False := by have h_ := c8b2; simp only [ByteArray.size_append] at h_; exact h_)
            replace H := Option.bind_eq_some_iff.mp H
            obtain ⟨t218, A90, H⟩ := H
            replace H : (if ((((rdOf ByteArray.empty y213 (ji2)) ++ (⟨#[32]⟩ : ByteArray)) ++ t217) ++ (⟨#[32]⟩ : ByteArray)).size + t218.size ≤ 9223372036854775807 then (if a0_0 = 2 then ((spec_l00Digits.f k a0_3).bind fun t219 => (if 1 + t219.size ≤ 9223372036854775807 then (if ((⟨#[32]⟩ : ByteArray) ++ t219).size + 1 ≤ 9223372036854775807 then ((spec_l00Digits.f k a0_4).bind fun t220 => (if (((⟨#[32]⟩ : ByteArray) ++ t219) ++ (⟨#[32]⟩ : ByteArray)).size + t220.size ≤ 9223372036854775807 then (if (((((rdOf ByteArray.empty y213 (ji2)) ++ (⟨#[32]⟩ : ByteArray)) ++ t217) ++ (⟨#[32]⟩ : ByteArray)) ++ t218).size + ((((⟨#[32]⟩ : ByteArray) ++ t219) ++ (⟨#[32]⟩ : ByteArray)) ++ t220).size ≤ 9223372036854775807 then (if ((((((rdOf ByteArray.empty y213 (ji2)) ++ (⟨#[32]⟩ : ByteArray)) ++ t217) ++ (⟨#[32]⟩ : ByteArray)) ++ t218) ++ ((((⟨#[32]⟩ : ByteArray) ++ t219) ++ (⟨#[32]⟩ : ByteArray)) ++ t220)).size + 1 ≤ 9223372036854775807 then ((spec_l00Digits.f k a0_5).bind fun t221 => (if (((((((rdOf ByteArray.empty y213 (ji2)) ++ (⟨#[32]⟩ : ByteArray)) ++ t217) ++ (⟨#[32]⟩ : ByteArray)) ++ t218) ++ ((((⟨#[32]⟩ : ByteArray) ++ t219) ++ (⟨#[32]⟩ : ByteArray)) ++ t220)) ++ (⟨#[32]⟩ : ByteArray)).size + t221.size ≤ 9223372036854775807 then (some ((((((((rdOf ByteArray.empty y213 (ji2)) ++ (⟨#[32]⟩ : ByteArray)) ++ t217) ++ (⟨#[32]⟩ : ByteArray)) ++ t218) ++ ((((⟨#[32]⟩ : ByteArray) ++ t219) ++ (⟨#[32]⟩ : ByteArray)) ++ t220)) ++ (⟨#[32]⟩ : ByteArray)) ++ t221)) else (none))) else (none)) else (none)) else (none))) else (none)) else (none))) else (if (((((rdOf ByteArray.empty y213 (ji2)) ++ (⟨#[32]⟩ : ByteArray)) ++ t217) ++ (⟨#[32]⟩ : ByteArray)) ++ t218).size + 1 ≤ 9223372036854775807 then ((spec_l00Digits.f k a0_5).bind fun t222 => (if ((((((rdOf ByteArray.empty y213 (ji2)) ++ (⟨#[32]⟩ : ByteArray)) ++ t217) ++ (⟨#[32]⟩ : ByteArray)) ++ t218) ++ (⟨#[32]⟩ : ByteArray)).size + t222.size ≤ 9223372036854775807 then (some (((((((rdOf ByteArray.empty y213 (ji2)) ++ (⟨#[32]⟩ : ByteArray)) ++ t217) ++ (⟨#[32]⟩ : ByteArray)) ++ t218) ++ (⟨#[32]⟩ : ByteArray)) ++ t222)) else (none))) else (none))) else (none)) = some r := H
            have A9 := Aside0.mk A90
            clear A90
            by_cases c10 : ((((rdOf ByteArray.empty y213 (ji2)) ++ (⟨#[32]⟩ : ByteArray)) ++ t217) ++ (⟨#[32]⟩ : ByteArray)).size + t218.size ≤ 9223372036854775807
            · rw [if_pos c10] at H
              have c10b0 := eq_true c10
              have c10b1 : decide (((((rdOf ByteArray.empty y213 (ji2)) ++ (⟨#[32]⟩ : ByteArray)) ++ t217) ++ (⟨#[32]⟩ : ByteArray)).size + t218.size ≤ 9223372036854775807) = true := decide_eq_true c10
              try have c10b2 : (9223372036854775807 < ((((rdOf ByteArray.empty y213 (ji2)) ++ (⟨#[32]⟩ : ByteArray)) ++ t217) ++ (⟨#[32]⟩ : ByteArray)).size + t218.size) = False := eq_false (Nat.not_lt.2 c10)
              try (have c10b3 := c10b2; simp only [ByteArray.size_append] at c10b3)
              try (have c10b4 : (9223372036854775807 < (rdOf ByteArray.empty y213 (ji2)).size + 1 + t217.size + 1 + t218.size) = False := by have h_ := c10b2; simp only [ByteArray.size_append] at h_; exact h_)
              by_cases c11 : a0_0 = 2
              · rw [if_pos c11] at H
                have c11b0 : (a0_0 == 2) = true := beq_iff_eq.mpr c11
                have c11b1 : (a0_0 != 2) = false := bne_eq_false_iff_eq.mpr c11
                clear c11
                replace H := Option.bind_eq_some_iff.mp H
                obtain ⟨t219, A120, H⟩ := H
                replace H : (if 1 + t219.size ≤ 9223372036854775807 then (if ((⟨#[32]⟩ : ByteArray) ++ t219).size + 1 ≤ 9223372036854775807 then ((spec_l00Digits.f k a0_4).bind fun t220 => (if (((⟨#[32]⟩ : ByteArray) ++ t219) ++ (⟨#[32]⟩ : ByteArray)).size + t220.size ≤ 9223372036854775807 then (if (((((rdOf ByteArray.empty y213 (ji2)) ++ (⟨#[32]⟩ : ByteArray)) ++ t217) ++ (⟨#[32]⟩ : ByteArray)) ++ t218).size + ((((⟨#[32]⟩ : ByteArray) ++ t219) ++ (⟨#[32]⟩ : ByteArray)) ++ t220).size ≤ 9223372036854775807 then (if ((((((rdOf ByteArray.empty y213 (ji2)) ++ (⟨#[32]⟩ : ByteArray)) ++ t217) ++ (⟨#[32]⟩ : ByteArray)) ++ t218) ++ ((((⟨#[32]⟩ : ByteArray) ++ t219) ++ (⟨#[32]⟩ : ByteArray)) ++ t220)).size + 1 ≤ 9223372036854775807 then ((spec_l00Digits.f k a0_5).bind fun t221 => (if (((((((rdOf ByteArray.empty y213 (ji2)) ++ (⟨#[32]⟩ : ByteArray)) ++ t217) ++ (⟨#[32]⟩ : ByteArray)) ++ t218) ++ ((((⟨#[32]⟩ : ByteArray) ++ t219) ++ (⟨#[32]⟩ : ByteArray)) ++ t220)) ++ (⟨#[32]⟩ : ByteArray)).size + t221.size ≤ 9223372036854775807 then (some ((((((((rdOf ByteArray.empty y213 (ji2)) ++ (⟨#[32]⟩ : ByteArray)) ++ t217) ++ (⟨#[32]⟩ : ByteArray)) ++ t218) ++ ((((⟨#[32]⟩ : ByteArray) ++ t219) ++ (⟨#[32]⟩ : ByteArray)) ++ t220)) ++ (⟨#[32]⟩ : ByteArray)) ++ t221)) else (none))) else (none)) else (none)) else (none))) else (none)) else (none)) = some r := H
                have A12 := Aside0.mk A120
                clear A120
                by_cases c13 : 1 + t219.size ≤ 9223372036854775807
                · rw [if_pos c13] at H
                  have c13b0 := eq_true c13
                  have c13b1 : decide (1 + t219.size ≤ 9223372036854775807) = true := decide_eq_true c13
                  try have c13b2 : (9223372036854775807 < 1 + t219.size) = False := eq_false (Nat.not_lt.2 c13)
                  by_cases c14 : ((⟨#[32]⟩ : ByteArray) ++ t219).size + 1 ≤ 9223372036854775807
                  · rw [if_pos c14] at H
                    have c14b0 := eq_true c14
                    have c14b1 : decide (((⟨#[32]⟩ : ByteArray) ++ t219).size + 1 ≤ 9223372036854775807) = true := decide_eq_true c14
                    try have c14b2 : (9223372036854775807 < ((⟨#[32]⟩ : ByteArray) ++ t219).size + 1) = False := eq_false (Nat.not_lt.2 c14)
                    try (have c14b3 := c14b2; simp only [ByteArray.size_append] at c14b3)
                    try (have c14b4 : (9223372036854775807 < 1 + t219.size + 1) = False := by have h_ := c14b2; simp only [ByteArray.size_append] at h_; exact h_)
                    replace H := Option.bind_eq_some_iff.mp H
                    obtain ⟨t220, A150, H⟩ := H
                    replace H : (if (((⟨#[32]⟩ : ByteArray) ++ t219) ++ (⟨#[32]⟩ : ByteArray)).size + t220.size ≤ 9223372036854775807 then (if (((((rdOf ByteArray.empty y213 (ji2)) ++ (⟨#[32]⟩ : ByteArray)) ++ t217) ++ (⟨#[32]⟩ : ByteArray)) ++ t218).size + ((((⟨#[32]⟩ : ByteArray) ++ t219) ++ (⟨#[32]⟩ : ByteArray)) ++ t220).size ≤ 9223372036854775807 then (if ((((((rdOf ByteArray.empty y213 (ji2)) ++ (⟨#[32]⟩ : ByteArray)) ++ t217) ++ (⟨#[32]⟩ : ByteArray)) ++ t218) ++ ((((⟨#[32]⟩ : ByteArray) ++ t219) ++ (⟨#[32]⟩ : ByteArray)) ++ t220)).size + 1 ≤ 9223372036854775807 then ((spec_l00Digits.f k a0_5).bind fun t221 => (if (((((((rdOf ByteArray.empty y213 (ji2)) ++ (⟨#[32]⟩ : ByteArray)) ++ t217) ++ (⟨#[32]⟩ : ByteArray)) ++ t218) ++ ((((⟨#[32]⟩ : ByteArray) ++ t219) ++ (⟨#[32]⟩ : ByteArray)) ++ t220)) ++ (⟨#[32]⟩ : ByteArray)).size + t221.size ≤ 9223372036854775807 then (some ((((((((rdOf ByteArray.empty y213 (ji2)) ++ (⟨#[32]⟩ : ByteArray)) ++ t217) ++ (⟨#[32]⟩ : ByteArray)) ++ t218) ++ ((((⟨#[32]⟩ : ByteArray) ++ t219) ++ (⟨#[32]⟩ : ByteArray)) ++ t220)) ++ (⟨#[32]⟩ : ByteArray)) ++ t221)) else (none))) else (none)) else (none)) else (none)) = some r := H
                    have A15 := Aside0.mk A150
                    clear A150
                    by_cases c16 : (((⟨#[32]⟩ : ByteArray) ++ t219) ++ (⟨#[32]⟩ : ByteArray)).size + t220.size ≤ 9223372036854775807
                    · rw [if_pos c16] at H
                      have c16b0 := eq_true c16
                      have c16b1 : decide ((((⟨#[32]⟩ : ByteArray) ++ t219) ++ (⟨#[32]⟩ : ByteArray)).size + t220.size ≤ 9223372036854775807) = true := decide_eq_true c16
                      try have c16b2 : (9223372036854775807 < (((⟨#[32]⟩ : ByteArray) ++ t219) ++ (⟨#[32]⟩ : ByteArray)).size + t220.size) = False := eq_false (Nat.not_lt.2 c16)
                      try (have c16b3 := c16b2; simp only [ByteArray.size_append] at c16b3)
                      try (have c16b4 : (9223372036854775807 < 1 + t219.size + 1 + t220.size) = False := by have h_ := c16b2; simp only [ByteArray.size_append] at h_; exact h_)
                      by_cases c17 : (((((rdOf ByteArray.empty y213 (ji2)) ++ (⟨#[32]⟩ : ByteArray)) ++ t217) ++ (⟨#[32]⟩ : ByteArray)) ++ t218).size + ((((⟨#[32]⟩ : ByteArray) ++ t219) ++ (⟨#[32]⟩ : ByteArray)) ++ t220).size ≤ 9223372036854775807
                      · rw [if_pos c17] at H
                        have c17b0 := eq_true c17
                        have c17b1 : decide ((((((rdOf ByteArray.empty y213 (ji2)) ++ (⟨#[32]⟩ : ByteArray)) ++ t217) ++ (⟨#[32]⟩ : ByteArray)) ++ t218).size + ((((⟨#[32]⟩ : ByteArray) ++ t219) ++ (⟨#[32]⟩ : ByteArray)) ++ t220).size ≤ 9223372036854775807) = true := decide_eq_true c17
                        try have c17b2 : (9223372036854775807 < (((((rdOf ByteArray.empty y213 (ji2)) ++ (⟨#[32]⟩ : ByteArray)) ++ t217) ++ (⟨#[32]⟩ : ByteArray)) ++ t218).size + ((((⟨#[32]⟩ : ByteArray) ++ t219) ++ (⟨#[32]⟩ : ByteArray)) ++ t220).size) = False := eq_false (Nat.not_lt.2 c17)
                        try (have c17b3 := c17b2; simp only [ByteArray.size_append] at c17b3)
                        try (have c17b4 : (9223372036854775807 < (rdOf ByteArray.empty y213 (ji2)).size + 1 + t217.size + 1 + t218.size + (1 + t219.size + 1 + t220.size)) = False := by have h_ := c17b2; simp only [ByteArray.size_append] at h_; exact h_)
                        by_cases c18 : ((((((rdOf ByteArray.empty y213 (ji2)) ++ (⟨#[32]⟩ : ByteArray)) ++ t217) ++ (⟨#[32]⟩ : ByteArray)) ++ t218) ++ ((((⟨#[32]⟩ : ByteArray) ++ t219) ++ (⟨#[32]⟩ : ByteArray)) ++ t220)).size + 1 ≤ 9223372036854775807
                        · rw [if_pos c18] at H
                          have c18b0 := eq_true c18
                          have c18b1 : decide (((((((rdOf ByteArray.empty y213 (ji2)) ++ (⟨#[32]⟩ : ByteArray)) ++ t217) ++ (⟨#[32]⟩ : ByteArray)) ++ t218) ++ ((((⟨#[32]⟩ : ByteArray) ++ t219) ++ (⟨#[32]⟩ : ByteArray)) ++ t220)).size + 1 ≤ 9223372036854775807) = true := decide_eq_true c18
                          try have c18b2 : (9223372036854775807 < ((((((rdOf ByteArray.empty y213 (ji2)) ++ (⟨#[32]⟩ : ByteArray)) ++ t217) ++ (⟨#[32]⟩ : ByteArray)) ++ t218) ++ ((((⟨#[32]⟩ : ByteArray) ++ t219) ++ (⟨#[32]⟩ : ByteArray)) ++ t220)).size + 1) = False := eq_false (Nat.not_lt.2 c18)
                          try (have c18b3 := c18b2; simp only [ByteArray.size_append] at c18b3)
                          try (have c18b4 : (9223372036854775807 < (rdOf ByteArray.empty y213 (ji2)).size + 1 + t217.size + 1 + t218.size + (1 + t219.size + 1 + t220.size) + 1) = False := by have h_ := c18b2; simp only [ByteArray.size_append] at h_; exact h_)
                          replace H := Option.bind_eq_some_iff.mp H
                          obtain ⟨t221, A190, H⟩ := H
                          replace H : (if (((((((rdOf ByteArray.empty y213 (ji2)) ++ (⟨#[32]⟩ : ByteArray)) ++ t217) ++ (⟨#[32]⟩ : ByteArray)) ++ t218) ++ ((((⟨#[32]⟩ : ByteArray) ++ t219) ++ (⟨#[32]⟩ : ByteArray)) ++ t220)) ++ (⟨#[32]⟩ : ByteArray)).size + t221.size ≤ 9223372036854775807 then (some ((((((((rdOf ByteArray.empty y213 (ji2)) ++ (⟨#[32]⟩ : ByteArray)) ++ t217) ++ (⟨#[32]⟩ : ByteArray)) ++ t218) ++ ((((⟨#[32]⟩ : ByteArray) ++ t219) ++ (⟨#[32]⟩ : ByteArray)) ++ t220)) ++ (⟨#[32]⟩ : ByteArray)) ++ t221)) else (none)) = some r := H
                          have A19 := Aside0.mk A190
                          clear A190
                          by_cases c20 : (((((((rdOf ByteArray.empty y213 (ji2)) ++ (⟨#[32]⟩ : ByteArray)) ++ t217) ++ (⟨#[32]⟩ : ByteArray)) ++ t218) ++ ((((⟨#[32]⟩ : ByteArray) ++ t219) ++ (⟨#[32]⟩ : ByteArray)) ++ t220)) ++ (⟨#[32]⟩ : ByteArray)).size + t221.size ≤ 9223372036854775807
                          · rw [if_pos c20] at H
                            have c20b0 := eq_true c20
                            have c20b1 : decide ((((((((rdOf ByteArray.empty y213 (ji2)) ++ (⟨#[32]⟩ : ByteArray)) ++ t217) ++ (⟨#[32]⟩ : ByteArray)) ++ t218) ++ ((((⟨#[32]⟩ : ByteArray) ++ t219) ++ (⟨#[32]⟩ : ByteArray)) ++ t220)) ++ (⟨#[32]⟩ : ByteArray)).size + t221.size ≤ 9223372036854775807) = true := decide_eq_true c20
                            try have c20b2 : (9223372036854775807 < (((((((rdOf ByteArray.empty y213 (ji2)) ++ (⟨#[32]⟩ : ByteArray)) ++ t217) ++ (⟨#[32]⟩ : ByteArray)) ++ t218) ++ ((((⟨#[32]⟩ : ByteArray) ++ t219) ++ (⟨#[32]⟩ : ByteArray)) ++ t220)) ++ (⟨#[32]⟩ : ByteArray)).size + t221.size) = False := eq_false (Nat.not_lt.2 c20)
                            try (have c20b3 := c20b2; simp only [ByteArray.size_append] at c20b3)
                            try (have c20b4 : (9223372036854775807 < (rdOf ByteArray.empty y213 (ji2)).size + 1 + t217.size + 1 + t218.size + (1 + t219.size + 1 + t220.size) + 1 + t221.size) = False := by have h_ := c20b2; simp only [ByteArray.size_append] at h_; exact h_)
                            obtain rfl := Option.some.inj H
                            go_enter Tryd.func37, Tryd.ntmps37
                            try go_wp2_with (first | ((with_reducible refine gate_dst (N := 1) rfl ?_); refine box_event ?hg (N := 1) ?hd (cs := #[.int .i64 a0_0, .int .i64 a0_1, .int .i64 a0_2, .int .i64 a0_3, .int .i64 a0_4, .int .i64 a0_5]) (t := 38) ?hr ?_; (case hd => rfl); (case hg => rfl); (case hr => first | (go_simp; done) | (go_simp; rfl)); intro gb212 hg w21 hbox hb; have n0_ := Aside0.mk (below_step (by repeat (first | (with_reducible first | exact HB.out | apply below_alloc | apply pw_below_drewN | apply below_drew1) | exact HB.out)) hb); have n1_ := Aside0.mk (hbox); have n2_ := Aside0.mk ((by rw [hg]; exact (below_size (by repeat (first | (with_reducible first | exact HB.out | apply below_alloc | apply pw_below_drewN | apply below_drew1) | exact HB.out))) : w.heap.size ≤ gb212)); have n3_ := Aside0.mk ((by rw [hg]; exact (below_size (by repeat (first | (with_reducible first | exact HB.out | apply below_alloc | apply pw_below_drewN | apply below_drew1) | exact HB.out))) : w.heap.size ≤ gb212)); clear HB; have HB := n0_; have BK212 := n1_; have GW212 := n2_; have GE212 := n3_; clear n0_ n1_ n2_ n3_; clear hb hbox hg))
                            have pi216 : (0 ≤ ((ji2) : Int)) = True := eq_true (of_decide_eq_true (by first | (with_reducible assumption) | assumption))
                            have qi216 : ((ji2) < (y213.length : Int)) = True := eq_true (of_decide_eq_true (by first | (with_reducible assumption) | assumption))
                            (try (rw [drewN_self w21]; generalize hq_ : World.drewN w21 _ = w21; have n0_ : Aside0 (w21.heap[gb212]? = some (.cells #[.int .i64 a0_0, .int .i64 a0_1, .int .i64 a0_2, .int .i64 a0_3, .int .i64 a0_4, .int .i64 a0_5] 38 (0, 0))) := ⟨by rw [← hq_]; exact (by (with_reducible repeat (first | refine blk_drewN ?_ _ | refine blk_drew ?_ | refine blk_alloc ?_ _)); exact BK212.out)⟩; have n1_ : Aside0 (Below w.heap.size w w21) := ⟨by rw [← hq_]; exact (by repeat (first | (with_reducible first | exact HB.out | apply below_alloc | apply pw_below_drewN | apply below_drew1 | refine below_set ?_ GE212.out) | exact HB.out))⟩; clear BK212 HB hq_; have BK212 := n0_; have HB := n1_; clear n0_ n1_))
                            have n0_ := Aside0.mk (blk_drew BK212.out)
                            have n1_ := Aside0.mk (below_drew1 HB.out)
                            clear BK212
                            clear HB
                            have BK212 := n0_
                            have HB := n1_
                            clear n0_ n1_
                            refine start_ (n := 17) (S := fun w' => True) (ds := []) #[false, false, false, false, false, false, false, false, false, false, false, false, false, false, false, false, false] (by kernel_rfl) rfl rfl trivial (fun hHeld => ?_); refine with_tabW spec_l13Task.tab1 spec_l13Task.bits1 (fun HT_ HW_ => ?_)
                            generalize w21.drew = w22 at BK212 HB hHeld ⊢
                            refine pure_ (i := 1) (N := some 5) (v := ?_) (a' := ?_) #[false, true, false, false, false, false, false, false, false, false, false, false, false, false, false, false, false] rfl rfl (any_of HT_.out (by kernel_rfl)) (fun _ _ _ h => h) (Or.inl ⟨by rfl, ?_⟩) ?_ ?_
                            rotate_left
                            · intro w'
                              go_simp
                              with_reducible rfl
                            rotate_left
                            · simp only [Act.put, List.setIfInBounds_toArray, List.set_cons_zero, List.set_cons_succ, i64_w, i32_w]
                              rfl
                            refine pure_ (i := 7) (N := some 11) (v := ?_) (a' := ?_) #[false, true, false, false, false, false, false, true, false, false, false, false, false, false, false, false, false] rfl rfl (any_of HT_.out (by kernel_rfl)) (fun _ _ _ h => h) (Or.inl ⟨by rfl, ?_⟩) ?_ ?_
                            rotate_left
                            · intro w'
                              go_simp
                              with_reducible rfl
                            rotate_left
                            · simp only [Act.put, List.setIfInBounds_toArray, List.set_cons_zero, List.set_cons_succ, i64_w, i32_w]
                              rfl
                            refine pure_ (i := 12) (N := some 16) (v := ?_) (a' := ?_) #[false, true, false, false, false, false, false, true, false, false, false, false, true, false, false, false, false] rfl rfl (any_of HT_.out (by kernel_rfl)) (fun _ _ _ h => h) (Or.inl ⟨by rfl, ?_⟩) ?_ ?_
                            rotate_left
                            · intro w'
                              go_simp
                              with_reducible rfl
                            rotate_left
                            · simp only [Act.put, List.setIfInBounds_toArray, List.set_cons_zero, List.set_cons_succ, i64_w, i32_w]
                              rfl
                            refine inv_at [0, 2, 3, 4, 5, 6, 8, 9, 10, 11, 13, 14, 15, 16] (fun a0_ b a w' => ∃ (v214 : Value) (adz_v214 : Addr) (m4_ : Value), a = putSel a0_ b [(0, 4, v214), (2, 6, .int .i64 a0_0), (3, 7, .int .i64 ji2), (4, 8, m4_), (5, 9, .string (rdOf ByteArray.empty y213 (ji2))), (6, 10, .string ((rdOf ByteArray.empty y213 (ji2)) ++ (⟨#[32]⟩ : ByteArray))), (8, 12, .int .i64 a0_1), (9, 13, .string t217), (10, 14, .string (((rdOf ByteArray.empty y213 (ji2)) ++ (⟨#[32]⟩ : ByteArray)) ++ t217)), (11, 15, .string ((((rdOf ByteArray.empty y213 (ji2)) ++ (⟨#[32]⟩ : ByteArray)) ++ t217) ++ (⟨#[32]⟩ : ByteArray))), (13, 17, .int .i64 a0_2), (14, 18, .string t218), (15, 19, .string (((((rdOf ByteArray.empty y213 (ji2)) ++ (⟨#[32]⟩ : ByteArray)) ++ t217) ++ (⟨#[32]⟩ : ByteArray)) ++ t218)), (16, 3, .string (((((rdOf ByteArray.empty y213 (ji2)) ++ (⟨#[32]⟩ : ByteArray)) ++ t217) ++ (⟨#[32]⟩ : ByteArray)) ++ t218))] ∧ (w'.heap[gb212]? = some (.cells #[.int .i64 a0_0, .int .i64 a0_1, .int .i64 a0_2, .int .i64 a0_3, .int .i64 a0_4, .int .i64 a0_5] 38 (0, 0))) ∧ (Below w.heap.size w w') ∧ (b 0 = true → Kd.R Kd.string 9 w' w.heap.size (fun _ => True) v214 y213) ∧ (b 0 = true → ∃ c_, (v214 : Value) = .slice (some adz_v214) y213.length c_) ∧ (b 4 = true → (m4_ : Value) = .pointer (some (adz_v214.add ((ji2)).toNat)))) HT_.out HW_.out (by kernel_rfl) (by kernel_rfl) ?_ ?_ ?_
                            · exact ⟨.bool false, ⟨0, 0, none⟩, .bool false, by simp only [putSel, Bool.false_eq_true, if_false], BK212.out, HB.out, fun h_ => absurd h_ (by decide), fun h_ => absurd h_ (by decide), fun h_ => absurd h_ (by decide)⟩
                            · skip
                              clear BK212 HB
                              refine steps_cons ?_ ?_
                              · rintro b a w' ⟨v214, adz_v214, m4_, ha, Q_BK212, Q_HB, Q_HO215, Q_HA_HO215, Q_X4_⟩ hb_ hon hoff
                                refine ⟨_, rfl, fun K hK => ?_⟩
                                replace ha := Aside0.mk ha
                                have BK212 := Aside0.mk Q_BK212
                                have HB := Aside0.mk Q_HB
                                refine Kd.R_lit_step Kd.string _ 9 ?hg (N := 4) ?hd (xs := ([(⟨#[99, 121, 99, 108, 105, 99]⟩ : ByteArray), (⟨#[101, 118, 101, 110, 116]⟩ : ByteArray)] : List ByteArray)) (inner := [.string (⟨#[99, 121, 99, 108, 105, 99]⟩ : ByteArray), .string (⟨#[101, 118, 101, 110, 116]⟩ : ByteArray)]) (ok := fun _ => True) (okp := fun _ => True) ?hr ?hp (fun _ hk => hk) trivial (Below.refl _ _) (Nat.le_refl _) (by simp) ?_; (case hd => rfl); (case hg => rfl); (case hr => first | (go_simp; done) | (go_simp; rfl)); (case hp => exact (Reps.one (show Kd.M Kd.string _ _ _ (⟨#[99, 121, 99, 108, 105, 99]⟩ : ByteArray) [.string (⟨#[99, 121, 99, 108, 105, 99]⟩ : ByteArray)] from rfl) (Reps.one (show Kd.M Kd.string _ _ _ (⟨#[101, 118, 101, 110, 116]⟩ : ByteArray) [.string (⟨#[101, 118, 101, 110, 116]⟩ : ByteArray)] from rfl) (Reps.none _ _))))
                                intro v214 w23 ho24 hb hg_ hnew_
                                clear hg_ hnew_
                                (first | rw [← Ny213.out] at ho24 | (simp only [Int.reduceToNat] at ho24; rw [← Ny213.out] at ho24))
                                have n0_ := Aside0.mk (Kd.R_lower ho24 (below_size (by repeat (first | (with_reducible first | exact HB.out | apply below_alloc | apply pw_below_drewN | apply below_drew1 | refine below_set ?_ GE212.out) | exact HB.out))))
                                have n1_ := Aside0.mk (blk_below (g := gb212) (o := .cells #[.int .i64 a0_0, .int .i64 a0_1, .int .i64 a0_2, .int .i64 a0_3, .int .i64 a0_4, .int .i64 a0_5] 38 (0, 0)) (by (with_reducible repeat (first | refine blk_drewN ?_ _ | refine blk_drew ?_ | refine blk_alloc ?_ _)); exact BK212.out) hb)
                                have n2_ := Aside0.mk (below_step (by repeat (first | (with_reducible first | exact HB.out | apply below_alloc | apply pw_below_drewN | apply below_drew1 | refine below_set ?_ GE212.out) | exact HB.out)) hb)
                                clear BK212
                                clear HB
                                have HO215 := n0_
                                have BK212 := n1_
                                have HB := n2_
                                clear n0_ n1_ n2_
                                clear hb ho24
                                obtain ⟨Ao25, co25, eo25⟩ := Kd.R_slice HO215.out
                                subst eo25
                                obtain ⟨ado25, fo25, _⟩ := Kd.at_string (Kd.R_reads' HO215.out).2.2 0 (by decide) (by rw [Ny213.out]; simp)
                                cases fo25
                                refine hK.out _ _ ⟨.slice (some ado25) y213.length co25, ado25, m4_, (by rw [ha.out]; exact putSel_upk 0 hb_ rfl rfl rfl), (by (with_reducible repeat (first | refine blk_drewN ?_ _ | refine blk_drew ?_ | refine blk_alloc ?_ _)); exact BK212.out), (by repeat (first | (with_reducible first | exact HB.out | apply below_alloc | apply pw_below_drewN | apply below_drew1 | refine below_set ?_ GE212.out) | exact HB.out)), fun _ => (by (with_reducible repeat (first | apply Kd.R_alloc | apply Kd.R_drewN | apply Kd.R_drew)); exact HO215.out), fun _ => ⟨_, rfl⟩, fun h0_ => absurd ((hoff 4 (by kernel_rfl)).symm.trans h0_) (by decide)⟩
                              refine steps_cons ?_ ?_
                              · rintro b a w' ⟨v214, adz_v214, m4_, ha, Q_BK212, Q_HB, Q_HO215, Q_HA_HO215, Q_X4_⟩ hb_ hon hoff
                                refine ⟨_, rfl, fun K hK => ?_⟩
                                have e5 : a.tmps[5]? = some (.pointer (some ⟨gb212, 0, none⟩)) := by rw [ha]; exact (putSel_off rfl).trans rfl
                                replace ha := Aside0.mk ha
                                have BK212 := Aside0.mk Q_BK212
                                have HB := Aside0.mk Q_HB
                                have hc0_ : w'.cell? ⟨gb212, 0, none⟩ = some (.int .i64 a0_0) := (blk_cell BK212.out 0).trans rfl
                                have hc1_ : w'.cell? ⟨gb212, 1, none⟩ = some (.int .i64 a0_1) := (blk_cell BK212.out 1).trans rfl
                                have hc2_ : w'.cell? ⟨gb212, 2, none⟩ = some (.int .i64 a0_2) := (blk_cell BK212.out 2).trans rfl
                                have hc3_ : w'.cell? ⟨gb212, 3, none⟩ = some (.int .i64 a0_3) := (blk_cell BK212.out 3).trans rfl
                                have hc4_ : w'.cell? ⟨gb212, 4, none⟩ = some (.int .i64 a0_4) := (blk_cell BK212.out 4).trans rfl
                                have hc5_ : w'.cell? ⟨gb212, 5, none⟩ = some (.int .i64 a0_5) := (blk_cell BK212.out 5).trans rfl
                                refine value_ (w1 := w') (v := .int .i64 a0_0) (by rfl) rfl ?_ ?_
                                · go_simp
                                  (try simp only [i64_w])
                                  try rfl
                                refine hK.out _ _ ⟨v214, adz_v214, m4_, (by rw [ha.out]; exact putSel_upk 1 hb_ rfl rfl rfl), Q_BK212, Q_HB, Q_HO215, Q_HA_HO215, fun h0_ => absurd ((hoff 4 (by kernel_rfl)).symm.trans h0_) (by decide)⟩
                              refine steps_cons ?_ ?_
                              · rintro b a w' ⟨v214, adz_v214, m4_, ha, Q_BK212, Q_HB, Q_HO215, Q_HA_HO215, Q_X4_⟩ hb_ hon hoff
                                refine ⟨_, rfl, fun K hK => ?_⟩
                                have e6 : a.tmps[6]? = some (.int .i64 a0_0) := by rw [ha]; exact putSel_on (e := (2, 6, .int .i64 a0_0)) 1 rfl rfl (hon 2 (by kernel_rfl)) rfl
                                replace ha := Aside0.mk ha
                                have BK212 := Aside0.mk Q_BK212
                                have HB := Aside0.mk Q_HB
                                refine value_ (w1 := w') (v := .int .i64 ji2) (by rfl) rfl ?_ ?_
                                · go_simp
                                  (try simp only [i64_w])
                                  try rfl
                                refine hK.out _ _ ⟨v214, adz_v214, m4_, (by rw [ha.out]; exact putSel_upk 2 hb_ rfl rfl rfl), Q_BK212, Q_HB, Q_HO215, Q_HA_HO215, fun h0_ => absurd ((hoff 4 (by kernel_rfl)).symm.trans h0_) (by decide)⟩
                              refine steps_cons ?_ ?_
                              · rintro b a w' ⟨v214, adz_v214, m4_, ha, Q_BK212, Q_HB, Q_HO215, Q_HA_HO215, Q_X4_⟩ hb_ hon hoff
                                refine ⟨_, rfl, fun K hK => ?_⟩
                                have e4 : a.tmps[4]? = some (v214) := by rw [ha]; exact putSel_on (e := (0, 4, v214)) 0 rfl rfl (hon 0 (by kernel_rfl)) rfl
                                have e7 : a.tmps[7]? = some (.int .i64 ji2) := by rw [ha]; exact putSel_on (e := (3, 7, .int .i64 ji2)) 2 rfl rfl (hon 3 (by kernel_rfl)) rfl
                                replace ha := Aside0.mk ha
                                have BK212 := Aside0.mk Q_BK212
                                have HB := Aside0.mk Q_HB
                                have HO215 := Aside0.mk (Q_HO215 (hon 0 (by kernel_rfl)))
                                have HA_HO215 := Aside0.mk (Q_HA_HO215 (hon 0 (by kernel_rfl)))
                                obtain ⟨c_, hv_⟩ := HA_HO215.out
                                rw [hv_] at e4
                                refine value_ (w1 := w') (v := .pointer (some (adz_v214.add ((ji2)).toNat))) (by rfl) rfl ?_ ?_
                                · go_simp
                                  (try simp only [i64_w])
                                  try rfl
                                refine hK.out _ _ ⟨v214, adz_v214, (.pointer (some (adz_v214.add ((ji2)).toNat))), (by rw [ha.out]; exact putSel_upk 3 hb_ rfl rfl rfl), Q_BK212, Q_HB, Q_HO215, Q_HA_HO215, fun _ => rfl⟩
                              refine steps_cons ?_ ?_
                              · rintro b a w' ⟨v214, adz_v214, m4_, ha, Q_BK212, Q_HB, Q_HO215, Q_HA_HO215, Q_X4_⟩ hb_ hon hoff
                                refine ⟨_, rfl, fun K hK => ?_⟩
                                have e8 : a.tmps[8]? = some (m4_) := by rw [ha]; exact putSel_on (e := (4, 8, m4_)) 3 rfl rfl (hon 4 (by kernel_rfl)) rfl
                                rw [Q_X4_ (hon 4 (by kernel_rfl))] at e8
                                replace ha := Aside0.mk ha
                                have BK212 := Aside0.mk Q_BK212
                                have HB := Aside0.mk Q_HB
                                have HO215 := Aside0.mk (Q_HO215 (hon 0 (by kernel_rfl)))
                                have HA_HO215 := Aside0.mk (Q_HA_HO215 (hon 0 (by kernel_rfl)))
                                obtain ⟨c_, hv_⟩ := HA_HO215.out
                                have hF_ := HO215.out
                                rw [hv_] at hF_
                                obtain ⟨ad_, ea_, hx_⟩ := Kd.at_string (Kd.R_reads' hF_).2.2 (ji2) (of_eq_true pi216) (of_eq_true qi216)
                                cases ea_
                                refine value_ (w1 := w') (v := .string (rdOf ByteArray.empty y213 (ji2))) (by rfl) rfl ?_ ?_
                                · go_simp
                                  (try simp only [i64_w])
                                  try rfl
                                refine hK.out _ _ ⟨v214, adz_v214, m4_, (by rw [ha.out]; exact putSel_upk 4 hb_ rfl rfl rfl), Q_BK212, Q_HB, Q_HO215, Q_HA_HO215, Q_X4_⟩
                              refine steps_cons ?_ ?_
                              · rintro b a w' ⟨v214, adz_v214, m4_, ha, Q_BK212, Q_HB, Q_HO215, Q_HA_HO215, Q_X4_⟩ hb_ hon hoff
                                refine ⟨_, rfl, fun K hK => ?_⟩
                                have e9 : a.tmps[9]? = some (.string (rdOf ByteArray.empty y213 (ji2))) := by rw [ha]; exact putSel_on (e := (5, 9, .string (rdOf ByteArray.empty y213 (ji2)))) 4 rfl rfl (hon 5 (by kernel_rfl)) rfl
                                replace ha := Aside0.mk ha
                                have BK212 := Aside0.mk Q_BK212
                                have HB := Aside0.mk Q_HB
                                have HO215 := Aside0.mk (Q_HO215 (hon 0 (by kernel_rfl)))
                                have HA_HO215 := Aside0.mk (Q_HA_HO215 (hon 0 (by kernel_rfl)))
                                refine value_ (w1 := w') (v := .string ((rdOf ByteArray.empty y213 (ji2)) ++ (⟨#[32]⟩ : ByteArray))) (by rfl) rfl ?_ ?_
                                · go_simp
                                  (try simp only [i64_w])
                                  try rfl
                                refine hK.out _ _ ⟨v214, adz_v214, m4_, (by rw [ha.out]; exact putSel_upk 5 hb_ rfl rfl rfl), Q_BK212, Q_HB, Q_HO215, Q_HA_HO215, Q_X4_⟩
                              refine steps_cons ?_ ?_
                              · rintro b a w' ⟨v214, adz_v214, m4_, ha, Q_BK212, Q_HB, Q_HO215, Q_HA_HO215, Q_X4_⟩ hb_ hon hoff
                                refine ⟨_, rfl, fun K hK => ?_⟩
                                have e11 : a.tmps[11]? = some (.pointer (some ⟨gb212, 1, none⟩)) := by rw [ha]; exact (putSel_off rfl).trans rfl
                                replace ha := Aside0.mk ha
                                have BK212 := Aside0.mk Q_BK212
                                have HB := Aside0.mk Q_HB
                                have hc0_ : w'.cell? ⟨gb212, 0, none⟩ = some (.int .i64 a0_0) := (blk_cell BK212.out 0).trans rfl
                                have hc1_ : w'.cell? ⟨gb212, 1, none⟩ = some (.int .i64 a0_1) := (blk_cell BK212.out 1).trans rfl
                                have hc2_ : w'.cell? ⟨gb212, 2, none⟩ = some (.int .i64 a0_2) := (blk_cell BK212.out 2).trans rfl
                                have hc3_ : w'.cell? ⟨gb212, 3, none⟩ = some (.int .i64 a0_3) := (blk_cell BK212.out 3).trans rfl
                                have hc4_ : w'.cell? ⟨gb212, 4, none⟩ = some (.int .i64 a0_4) := (blk_cell BK212.out 4).trans rfl
                                have hc5_ : w'.cell? ⟨gb212, 5, none⟩ = some (.int .i64 a0_5) := (blk_cell BK212.out 5).trans rfl
                                refine value_ (w1 := w') (v := .int .i64 a0_1) (by rfl) rfl ?_ ?_
                                · go_simp
                                  (try simp only [i64_w])
                                  try rfl
                                refine hK.out _ _ ⟨v214, adz_v214, m4_, (by rw [ha.out]; exact putSel_upk 6 hb_ rfl rfl rfl), Q_BK212, Q_HB, Q_HO215, Q_HA_HO215, Q_X4_⟩
                              refine steps_cons ?_ ?_
                              · rintro b a w' ⟨v214, adz_v214, m4_, ha, Q_BK212, Q_HB, Q_HO215, Q_HA_HO215, Q_X4_⟩ hb_ hon hoff
                                refine ⟨_, rfl, fun K hK => ?_⟩
                                have e12 : a.tmps[12]? = some (.int .i64 a0_1) := by rw [ha]; exact putSel_on (e := (8, 12, .int .i64 a0_1)) 6 rfl rfl (hon 8 (by kernel_rfl)) rfl
                                replace ha := Aside0.mk ha
                                have BK212 := Aside0.mk Q_BK212
                                have HB := Aside0.mk Q_HB
                                refine goes_ Tryd.func55 (by kernel_rfl) rfl #[.int .i64 a0_1] (by rfl) rfl rfl (by first | (simp only [List.map_toArray, List.map_cons, List.map_nil, Act.eval, Array.getD_eq_getD_getElem?, Option.getD_some, e12]; done) | (simp only [List.map_toArray, List.map_cons, List.map_nil, Act.eval, Array.getD_eq_getD_getElem?, Option.getD_some, e12]; rfl)) ?_
                                with_reducible refine (spec_l00Digits.calls k a0_1 t217 _ A6.out).mono ?_
                                rintro e w23 ⟨rfl, hb⟩
                                refine ⟨_, rfl, ?_⟩
                                have n0_ := Aside0.mk (blk_below (g := gb212) (o := .cells #[.int .i64 a0_0, .int .i64 a0_1, .int .i64 a0_2, .int .i64 a0_3, .int .i64 a0_4, .int .i64 a0_5] 38 (0, 0)) (by (with_reducible repeat (first | refine blk_drewN ?_ _ | refine blk_drew ?_ | refine blk_alloc ?_ _)); exact BK212.out) hb)
                                have n1_ := Aside0.mk (below_step (by repeat (first | (with_reducible first | exact HB.out | apply below_alloc | apply pw_below_drewN | apply below_drew1 | refine below_set ?_ GE212.out) | exact HB.out)) hb)
                                have z_HO215 := fun (h0_ : b 0 = true) => (show Kd.R Kd.string 9 w23 w.heap.size (fun _ => True) v214 y213 from by first | exact (Kd.R_below (by (with_reducible repeat (first | apply Kd.R_alloc | apply Kd.R_drewN | apply Kd.R_drew)); exact (Q_HO215 h0_)) hb) | exact Kd.R_mono (Kd.R_below (by (with_reducible repeat (first | apply Kd.R_alloc | apply Kd.R_drewN | apply Kd.R_drew)); exact (Q_HO215 h0_)) hb) (fun _ h_ => by first | trivial | exact h_ | exact h_.1))
                                clear BK212
                                clear HB
                                have BK212 := n0_
                                have HB := n1_
                                clear n0_ n1_
                                (try clear hb)
                                (try clear hb2)
                                (try clear hk)
                                (try clear hi)
                                refine hK.out _ _ ⟨v214, adz_v214, m4_, (by rw [ha.out]; exact putSel_upk 7 hb_ rfl rfl rfl), (by (with_reducible repeat (first | refine blk_drewN ?_ _ | refine blk_drew ?_ | refine blk_alloc ?_ _)); exact BK212.out), (by repeat (first | (with_reducible first | exact HB.out | apply below_alloc | apply pw_below_drewN | apply below_drew1 | refine below_set ?_ GE212.out) | exact HB.out)), z_HO215, Q_HA_HO215, Q_X4_⟩
                              refine steps_cons ?_ ?_
                              · rintro b a w' ⟨v214, adz_v214, m4_, ha, Q_BK212, Q_HB, Q_HO215, Q_HA_HO215, Q_X4_⟩ hb_ hon hoff
                                refine ⟨_, rfl, fun K hK => ?_⟩
                                have e10 : a.tmps[10]? = some (.string ((rdOf ByteArray.empty y213 (ji2)) ++ (⟨#[32]⟩ : ByteArray))) := by rw [ha]; exact putSel_on (e := (6, 10, .string ((rdOf ByteArray.empty y213 (ji2)) ++ (⟨#[32]⟩ : ByteArray)))) 5 rfl rfl (hon 6 (by kernel_rfl)) rfl
                                have e13 : a.tmps[13]? = some (.string t217) := by rw [ha]; exact putSel_on (e := (9, 13, .string t217)) 7 rfl rfl (hon 9 (by kernel_rfl)) rfl
                                replace ha := Aside0.mk ha
                                have BK212 := Aside0.mk Q_BK212
                                have HB := Aside0.mk Q_HB
                                have HO215 := Aside0.mk (Q_HO215 (hon 0 (by kernel_rfl)))
                                have HA_HO215 := Aside0.mk (Q_HA_HO215 (hon 0 (by kernel_rfl)))
                                refine value_ (w1 := w') (v := .string (((rdOf ByteArray.empty y213 (ji2)) ++ (⟨#[32]⟩ : ByteArray)) ++ t217)) (by rfl) rfl ?_ ?_
                                · go_simp
                                  (try simp only [i64_w])
                                  try rfl
                                refine hK.out _ _ ⟨v214, adz_v214, m4_, (by rw [ha.out]; exact putSel_upk 8 hb_ rfl rfl rfl), Q_BK212, Q_HB, Q_HO215, Q_HA_HO215, Q_X4_⟩
                              refine steps_cons ?_ ?_
                              · rintro b a w' ⟨v214, adz_v214, m4_, ha, Q_BK212, Q_HB, Q_HO215, Q_HA_HO215, Q_X4_⟩ hb_ hon hoff
                                refine ⟨_, rfl, fun K hK => ?_⟩
                                have e14 : a.tmps[14]? = some (.string (((rdOf ByteArray.empty y213 (ji2)) ++ (⟨#[32]⟩ : ByteArray)) ++ t217)) := by rw [ha]; exact putSel_on (e := (10, 14, .string (((rdOf ByteArray.empty y213 (ji2)) ++ (⟨#[32]⟩ : ByteArray)) ++ t217))) 8 rfl rfl (hon 10 (by kernel_rfl)) rfl
                                replace ha := Aside0.mk ha
                                have BK212 := Aside0.mk Q_BK212
                                have HB := Aside0.mk Q_HB
                                have HO215 := Aside0.mk (Q_HO215 (hon 0 (by kernel_rfl)))
                                have HA_HO215 := Aside0.mk (Q_HA_HO215 (hon 0 (by kernel_rfl)))
                                refine value_ (w1 := w') (v := .string ((((rdOf ByteArray.empty y213 (ji2)) ++ (⟨#[32]⟩ : ByteArray)) ++ t217) ++ (⟨#[32]⟩ : ByteArray))) (by rfl) rfl ?_ ?_
                                · go_simp
                                  (try simp only [i64_w])
                                  try rfl
                                refine hK.out _ _ ⟨v214, adz_v214, m4_, (by rw [ha.out]; exact putSel_upk 9 hb_ rfl rfl rfl), Q_BK212, Q_HB, Q_HO215, Q_HA_HO215, Q_X4_⟩
                              refine steps_cons ?_ ?_
                              · rintro b a w' ⟨v214, adz_v214, m4_, ha, Q_BK212, Q_HB, Q_HO215, Q_HA_HO215, Q_X4_⟩ hb_ hon hoff
                                refine ⟨_, rfl, fun K hK => ?_⟩
                                have e16 : a.tmps[16]? = some (.pointer (some ⟨gb212, 2, none⟩)) := by rw [ha]; exact (putSel_off rfl).trans rfl
                                replace ha := Aside0.mk ha
                                have BK212 := Aside0.mk Q_BK212
                                have HB := Aside0.mk Q_HB
                                have hc0_ : w'.cell? ⟨gb212, 0, none⟩ = some (.int .i64 a0_0) := (blk_cell BK212.out 0).trans rfl
                                have hc1_ : w'.cell? ⟨gb212, 1, none⟩ = some (.int .i64 a0_1) := (blk_cell BK212.out 1).trans rfl
                                have hc2_ : w'.cell? ⟨gb212, 2, none⟩ = some (.int .i64 a0_2) := (blk_cell BK212.out 2).trans rfl
                                have hc3_ : w'.cell? ⟨gb212, 3, none⟩ = some (.int .i64 a0_3) := (blk_cell BK212.out 3).trans rfl
                                have hc4_ : w'.cell? ⟨gb212, 4, none⟩ = some (.int .i64 a0_4) := (blk_cell BK212.out 4).trans rfl
                                have hc5_ : w'.cell? ⟨gb212, 5, none⟩ = some (.int .i64 a0_5) := (blk_cell BK212.out 5).trans rfl
                                refine value_ (w1 := w') (v := .int .i64 a0_2) (by rfl) rfl ?_ ?_
                                · go_simp
                                  (try simp only [i64_w])
                                  try rfl
                                refine hK.out _ _ ⟨v214, adz_v214, m4_, (by rw [ha.out]; exact putSel_upk 10 hb_ rfl rfl rfl), Q_BK212, Q_HB, Q_HO215, Q_HA_HO215, Q_X4_⟩
                              refine steps_cons ?_ ?_
                              · rintro b a w' ⟨v214, adz_v214, m4_, ha, Q_BK212, Q_HB, Q_HO215, Q_HA_HO215, Q_X4_⟩ hb_ hon hoff
                                refine ⟨_, rfl, fun K hK => ?_⟩
                                have e17 : a.tmps[17]? = some (.int .i64 a0_2) := by rw [ha]; exact putSel_on (e := (13, 17, .int .i64 a0_2)) 10 rfl rfl (hon 13 (by kernel_rfl)) rfl
                                replace ha := Aside0.mk ha
                                have BK212 := Aside0.mk Q_BK212
                                have HB := Aside0.mk Q_HB
                                refine goes_ Tryd.func55 (by kernel_rfl) rfl #[.int .i64 a0_2] (by rfl) rfl rfl (by first | (simp only [List.map_toArray, List.map_cons, List.map_nil, Act.eval, Array.getD_eq_getD_getElem?, Option.getD_some, e17]; done) | (simp only [List.map_toArray, List.map_cons, List.map_nil, Act.eval, Array.getD_eq_getD_getElem?, Option.getD_some, e17]; rfl)) ?_
                                with_reducible refine (spec_l00Digits.calls k a0_2 t218 _ A9.out).mono ?_
                                rintro e w25 ⟨rfl, hb⟩
                                refine ⟨_, rfl, ?_⟩
                                have n0_ := Aside0.mk (blk_below (g := gb212) (o := .cells #[.int .i64 a0_0, .int .i64 a0_1, .int .i64 a0_2, .int .i64 a0_3, .int .i64 a0_4, .int .i64 a0_5] 38 (0, 0)) (by (with_reducible repeat (first | refine blk_drewN ?_ _ | refine blk_drew ?_ | refine blk_alloc ?_ _)); exact BK212.out) hb)
                                have n1_ := Aside0.mk (below_step (by repeat (first | (with_reducible first | exact HB.out | apply below_alloc | apply pw_below_drewN | apply below_drew1 | refine below_set ?_ GE212.out) | exact HB.out)) hb)
                                have z_HO215 := fun (h0_ : b 0 = true) => (show Kd.R Kd.string 9 w25 w.heap.size (fun _ => True) v214 y213 from by first | exact (Kd.R_below (by (with_reducible repeat (first | apply Kd.R_alloc | apply Kd.R_drewN | apply Kd.R_drew)); exact (Q_HO215 h0_)) hb) | exact Kd.R_mono (Kd.R_below (by (with_reducible repeat (first | apply Kd.R_alloc | apply Kd.R_drewN | apply Kd.R_drew)); exact (Q_HO215 h0_)) hb) (fun _ h_ => by first | trivial | exact h_ | exact h_.1))
                                clear BK212
                                clear HB
                                have BK212 := n0_
                                have HB := n1_
                                clear n0_ n1_
                                (try clear hb)
                                (try clear hb2)
                                (try clear hk)
                                (try clear hi)
                                refine hK.out _ _ ⟨v214, adz_v214, m4_, (by rw [ha.out]; exact putSel_upk 11 hb_ rfl rfl rfl), (by (with_reducible repeat (first | refine blk_drewN ?_ _ | refine blk_drew ?_ | refine blk_alloc ?_ _)); exact BK212.out), (by repeat (first | (with_reducible first | exact HB.out | apply below_alloc | apply pw_below_drewN | apply below_drew1 | refine below_set ?_ GE212.out) | exact HB.out)), z_HO215, Q_HA_HO215, Q_X4_⟩
                              refine steps_cons ?_ ?_
                              · rintro b a w' ⟨v214, adz_v214, m4_, ha, Q_BK212, Q_HB, Q_HO215, Q_HA_HO215, Q_X4_⟩ hb_ hon hoff
                                refine ⟨_, rfl, fun K hK => ?_⟩
                                have e15 : a.tmps[15]? = some (.string ((((rdOf ByteArray.empty y213 (ji2)) ++ (⟨#[32]⟩ : ByteArray)) ++ t217) ++ (⟨#[32]⟩ : ByteArray))) := by rw [ha]; exact putSel_on (e := (11, 15, .string ((((rdOf ByteArray.empty y213 (ji2)) ++ (⟨#[32]⟩ : ByteArray)) ++ t217) ++ (⟨#[32]⟩ : ByteArray)))) 9 rfl rfl (hon 11 (by kernel_rfl)) rfl
                                have e18 : a.tmps[18]? = some (.string t218) := by rw [ha]; exact putSel_on (e := (14, 18, .string t218)) 11 rfl rfl (hon 14 (by kernel_rfl)) rfl
                                replace ha := Aside0.mk ha
                                have BK212 := Aside0.mk Q_BK212
                                have HB := Aside0.mk Q_HB
                                have HO215 := Aside0.mk (Q_HO215 (hon 0 (by kernel_rfl)))
                                have HA_HO215 := Aside0.mk (Q_HA_HO215 (hon 0 (by kernel_rfl)))
                                refine value_ (w1 := w') (v := .string (((((rdOf ByteArray.empty y213 (ji2)) ++ (⟨#[32]⟩ : ByteArray)) ++ t217) ++ (⟨#[32]⟩ : ByteArray)) ++ t218)) (by rfl) rfl ?_ ?_
                                · go_simp
                                  (try simp only [i64_w])
                                  try rfl
                                refine hK.out _ _ ⟨v214, adz_v214, m4_, (by rw [ha.out]; exact putSel_upk 12 hb_ rfl rfl rfl), Q_BK212, Q_HB, Q_HO215, Q_HA_HO215, Q_X4_⟩
                              refine steps_cons ?_ ?_
                              · rintro b a w' ⟨v214, adz_v214, m4_, ha, Q_BK212, Q_HB, Q_HO215, Q_HA_HO215, Q_X4_⟩ hb_ hon hoff
                                refine ⟨_, rfl, fun K hK => ?_⟩
                                have e19 : a.tmps[19]? = some (.string (((((rdOf ByteArray.empty y213 (ji2)) ++ (⟨#[32]⟩ : ByteArray)) ++ t217) ++ (⟨#[32]⟩ : ByteArray)) ++ t218)) := by rw [ha]; exact putSel_on (e := (15, 19, .string (((((rdOf ByteArray.empty y213 (ji2)) ++ (⟨#[32]⟩ : ByteArray)) ++ t217) ++ (⟨#[32]⟩ : ByteArray)) ++ t218))) 12 rfl rfl (hon 15 (by kernel_rfl)) rfl
                                replace ha := Aside0.mk ha
                                have BK212 := Aside0.mk Q_BK212
                                have HB := Aside0.mk Q_HB
                                have HO215 := Aside0.mk (Q_HO215 (hon 0 (by kernel_rfl)))
                                have HA_HO215 := Aside0.mk (Q_HA_HO215 (hon 0 (by kernel_rfl)))
                                refine value_ (w1 := w') (v := .string (((((rdOf ByteArray.empty y213 (ji2)) ++ (⟨#[32]⟩ : ByteArray)) ++ t217) ++ (⟨#[32]⟩ : ByteArray)) ++ t218)) (by rfl) rfl ?_ ?_
                                · go_simp
                                  (try simp only [i64_w])
                                  try rfl
                                refine hK.out _ _ ⟨v214, adz_v214, m4_, (by rw [ha.out]; exact putSel_upk 13 hb_ rfl rfl rfl), Q_BK212, Q_HB, Q_HO215, Q_HA_HO215, Q_X4_⟩
                              exact steps_nil
                            rintro b a w28 hall ⟨v214, adz_v214, m4_, ha, Q_BK212, Q_HB, Q_HO215, Q_HA_HO215, Q_X4_⟩
                            clear BK212 HB
                            have hb0_ := hall 0 (by kernel_rfl)
                            have hb2_ := hall 2 (by kernel_rfl)
                            have hb3_ := hall 3 (by kernel_rfl)
                            have hb4_ := hall 4 (by kernel_rfl)
                            have hb5_ := hall 5 (by kernel_rfl)
                            have hb6_ := hall 6 (by kernel_rfl)
                            have hb8_ := hall 8 (by kernel_rfl)
                            have hb9_ := hall 9 (by kernel_rfl)
                            have hb10_ := hall 10 (by kernel_rfl)
                            have hb11_ := hall 11 (by kernel_rfl)
                            have hb13_ := hall 13 (by kernel_rfl)
                            have hb14_ := hall 14 (by kernel_rfl)
                            have hb15_ := hall 15 (by kernel_rfl)
                            have hb16_ := hall 16 (by kernel_rfl)
                            subst ha
                            obtain rfl := Q_X4_ hb4_
                            simp only [putSel, hb0_, hb2_, hb3_, hb4_, hb5_, hb6_, hb8_, hb9_, hb10_, hb11_, hb13_, hb14_, hb15_, hb16_, if_true, Act.put, List.setIfInBounds_toArray, List.set_cons_zero, List.set_cons_succ]
                            have BK212 := Aside0.mk Q_BK212
                            clear Q_BK212
                            have HB := Aside0.mk Q_HB
                            clear Q_HB
                            have HO215 := Aside0.mk (Q_HO215 hb0_)
                            clear Q_HO215
                            have HA_HO215 := Aside0.mk (Q_HA_HO215 hb0_)
                            clear Q_HA_HO215
                            clear hall hb0_ hb2_ hb3_ hb4_ hb5_ hb6_ hb8_ hb9_ hb10_ hb11_ hb13_ hb14_ hb15_ hb16_
                            obtain ⟨co29, eo29⟩ := HA_HO215.out
                            clear HA_HO215
                            subst eo29
                            have hcz30_0 : w28.cell? ⟨gb212, 0, none⟩ = some (.int .i64 a0_0) := (blk_cell BK212.out 0).trans rfl
                            have hcz30_1 : w28.cell? ⟨gb212, 1, none⟩ = some (.int .i64 a0_1) := (blk_cell BK212.out 1).trans rfl
                            have hcz30_2 : w28.cell? ⟨gb212, 2, none⟩ = some (.int .i64 a0_2) := (blk_cell BK212.out 2).trans rfl
                            have hcz30_3 : w28.cell? ⟨gb212, 3, none⟩ = some (.int .i64 a0_3) := (blk_cell BK212.out 3).trans rfl
                            have hcz30_4 : w28.cell? ⟨gb212, 4, none⟩ = some (.int .i64 a0_4) := (blk_cell BK212.out 4).trans rfl
                            have hcz30_5 : w28.cell? ⟨gb212, 5, none⟩ = some (.int .i64 a0_5) := (blk_cell BK212.out 5).trans rfl
                            have hfz30_0 := blk_frozen BK212.out 0
                            have hfz30_1 := blk_frozen BK212.out 1
                            have hfz30_2 := blk_frozen BK212.out 2
                            have hfz30_3 := blk_frozen BK212.out 3
                            have hfz30_4 := blk_frozen BK212.out 4
                            have hfz30_5 := blk_frozen BK212.out 5
                            try go_wp2
                            (try (rw [drewN_self w28]; generalize hq_ : World.drewN w28 _ = w28; have n0_ : Aside0 (Kd.R Kd.string 9 w28 w.heap.size (fun _ => True) (.slice (some adz_v214) y213.length co29) y213) := ⟨by rw [← hq_]; exact (by (with_reducible repeat (first | apply Kd.R_alloc | apply Kd.R_drewN | apply Kd.R_drew)); exact HO215.out)⟩; have n1_ : Aside0 (w28.heap[gb212]? = some (.cells #[.int .i64 a0_0, .int .i64 a0_1, .int .i64 a0_2, .int .i64 a0_3, .int .i64 a0_4, .int .i64 a0_5] 38 (0, 0))) := ⟨by rw [← hq_]; exact (by (with_reducible repeat (first | refine blk_drewN ?_ _ | refine blk_drew ?_ | refine blk_alloc ?_ _)); exact BK212.out)⟩; have n2_ : Aside0 (Below w.heap.size w w28) := ⟨by rw [← hq_]; exact (by repeat (first | (with_reducible first | exact HB.out | apply below_alloc | apply pw_below_drewN | apply below_drew1 | refine below_set ?_ GE212.out) | exact HB.out))⟩; clear HO215 BK212 HB hq_; have HO215 := n0_; have BK212 := n1_; have HB := n2_; clear n0_ n1_ n2_))
                            have n0_ := Aside0.mk (Kd.R_drew HO215.out)
                            have n1_ := Aside0.mk (blk_drew BK212.out)
                            have n2_ := Aside0.mk (below_drew1 HB.out)
                            clear HO215
                            clear BK212
                            clear HB
                            have HO215 := n0_
                            have BK212 := n1_
                            have HB := n2_
                            clear n0_ n1_ n2_
                            refine start_ (n := 12) (S := fun w' => w'.cell? ⟨gb212, 0, none⟩ = some (.int .i64 a0_0) ∧ w'.cell? ⟨gb212, 1, none⟩ = some (.int .i64 a0_1) ∧ w'.cell? ⟨gb212, 2, none⟩ = some (.int .i64 a0_2) ∧ w'.cell? ⟨gb212, 3, none⟩ = some (.int .i64 a0_3) ∧ w'.cell? ⟨gb212, 4, none⟩ = some (.int .i64 a0_4) ∧ w'.cell? ⟨gb212, 5, none⟩ = some (.int .i64 a0_5)) (ds := []) #[false, false, false, false, false, false, false, false, false, false, false, false] (by kernel_rfl) rfl rfl ⟨(blk_cell BK212.out 0).trans rfl, (blk_cell BK212.out 1).trans rfl, (blk_cell BK212.out 2).trans rfl, (blk_cell BK212.out 3).trans rfl, (blk_cell BK212.out 4).trans rfl, (blk_cell BK212.out 5).trans rfl⟩ (fun hHeld => ?_); refine with_tabW spec_l13Task.tab3 spec_l13Task.bits3 (fun HT_ HW_ => ?_)
                            generalize w28.drew = w31 at HO215 BK212 HB hHeld ⊢
                            refine pure_ (i := 0) (N := some 23) (v := ?_) (a' := ?_) #[true, false, false, false, false, false, false, false, false, false, false, false] rfl rfl (any_of HT_.out (by kernel_rfl)) (fun _ _ _ h => h) (Or.inl ⟨by rfl, ?_⟩) ?_ ?_
                            rotate_left
                            · intro w'
                              go_simp
                              with_reducible rfl
                            rotate_left
                            · simp only [Act.put, List.setIfInBounds_toArray, List.set_cons_zero, List.set_cons_succ, i64_w, i32_w]
                              rfl
                            refine pure_ (i := 1) (N := some 24) (v := ?_) (a' := ?_) #[true, true, false, false, false, false, false, false, false, false, false, false] rfl rfl (any_of HT_.out (by kernel_rfl)) (fun _ _ _ h => h) (Or.inl ⟨by rfl, ?_⟩) ?_ ?_
                            rotate_left
                            · intro w'
                              go_simp
                              with_reducible rfl
                            rotate_left
                            · simp only [Act.put, List.setIfInBounds_toArray, List.set_cons_zero, List.set_cons_succ, i64_w, i32_w]
                              rfl
                            refine pure_ (i := 6) (N := some 29) (v := ?_) (a' := ?_) #[true, true, false, false, false, false, true, false, false, false, false, false] rfl rfl (any_of HT_.out (by kernel_rfl)) (fun _ _ _ h => h) (Or.inl ⟨by rfl, ?_⟩) ?_ ?_
                            rotate_left
                            · intro w'
                              go_simp
                              with_reducible rfl
                            rotate_left
                            · simp only [Act.put, List.setIfInBounds_toArray, List.set_cons_zero, List.set_cons_succ, i64_w, i32_w]
                              rfl
                            refine take_ (i := 2) (N := some 25) (v := ?_) (a' := ?_) #[true, true, true, false, false, false, true, false, false, false, false, false] rfl rfl (take_ofW HT_.out HW_.out (by kernel_rfl)) (fun _ _ _ h => h) (Or.inl ⟨by rfl, ?_⟩) hHeld ?_ ?_
                            rotate_left
                            · rintro w' ⟨s0, s1, s2, s3, s4, s5⟩
                              go_simp
                              with_reducible rfl
                            rotate_left
                            · simp only [Act.put, List.setIfInBounds_toArray, List.set_cons_zero, List.set_cons_succ, i64_w, i32_w]
                              rfl
                            refine take_ (i := 7) (N := some 30) (v := ?_) (a' := ?_) #[true, true, true, false, false, false, true, true, false, false, false, false] rfl rfl (take_ofW HT_.out HW_.out (by kernel_rfl)) (fun _ _ _ h => h) (Or.inl ⟨by rfl, ?_⟩) hHeld ?_ ?_
                            rotate_left
                            · rintro w' ⟨s0, s1, s2, s3, s4, s5⟩
                              go_simp
                              with_reducible rfl
                            rotate_left
                            · simp only [Act.put, List.setIfInBounds_toArray, List.set_cons_zero, List.set_cons_succ, i64_w, i32_w]
                              rfl
                            refine one_ (i := 3) (N := some 26) #[true, true, true, true, false, false, true, true, false, false, false, false] rfl rfl (one_of HT_.out (by kernel_rfl)) (by decide) (fun K hK => ?_)
                            refine goes_ Tryd.func55 (by kernel_rfl) rfl #[.int .i64 a0_3] (by rfl) rfl rfl (by (try simp only [List.map_toArray, List.map_cons, List.map_nil]); first | done | rfl | (simp only [List.length_drop, List.length_take]; rfl)) ?_
                            with_reducible refine (spec_l00Digits.calls k a0_3 t219 _ A12.out).mono ?_
                            rintro e w32 ⟨rfl, hb⟩
                            refine ⟨_, rfl, ?_⟩
                            have n0_ := Aside0.mk (Kd.R_below (by (with_reducible repeat (first | apply Kd.R_alloc | apply Kd.R_drewN | apply Kd.R_drew)); exact HO215.out) hb)
                            have n1_ := Aside0.mk (blk_below (g := gb212) (o := .cells #[.int .i64 a0_0, .int .i64 a0_1, .int .i64 a0_2, .int .i64 a0_3, .int .i64 a0_4, .int .i64 a0_5] 38 (0, 0)) (by (with_reducible repeat (first | refine blk_drewN ?_ _ | refine blk_drew ?_ | refine blk_alloc ?_ _)); exact BK212.out) hb)
                            have n2_ := Aside0.mk (below_step (by repeat (first | (with_reducible first | exact HB.out | apply below_alloc | apply pw_below_drewN | apply below_drew1 | refine below_set ?_ GE212.out) | exact HB.out)) hb)
                            clear HO215
                            clear BK212
                            clear HB
                            have HO215 := n0_
                            have BK212 := n1_
                            have HB := n2_
                            clear n0_ n1_ n2_
                            (try clear hb)
                            (try clear hb2)
                            (try clear hk)
                            (try clear hi)
                            refine hK.out _ _ ⟨(blk_cell BK212.out 0).trans rfl, (blk_cell BK212.out 1).trans rfl, (blk_cell BK212.out 2).trans rfl, (blk_cell BK212.out 3).trans rfl, (blk_cell BK212.out 4).trans rfl, (blk_cell BK212.out 5).trans rfl⟩ (fun hHeld => ?_)
                            clear hK K
                            refine norm_ (a' := ?_) ?_ ?_
                            rotate_left
                            · show Act.put _ (some 26) _ = _
                              simp only [Act.put, List.setIfInBounds_toArray, List.set_cons_zero, List.set_cons_succ, i64_w, i32_w]
                              rfl
                            refine pure_ (i := 4) (N := some 27) (v := ?_) (a' := ?_) #[true, true, true, true, true, false, true, true, false, false, false, false] rfl rfl (any_of HT_.out (by kernel_rfl)) (fun _ _ _ h => h) (Or.inl ⟨by rfl, ?_⟩) ?_ ?_
                            rotate_left
                            · intro w'
                              go_simp
                              with_reducible rfl
                            rotate_left
                            · simp only [Act.put, List.setIfInBounds_toArray, List.set_cons_zero, List.set_cons_succ, i64_w, i32_w]
                              rfl
                            refine pure_ (i := 5) (N := some 28) (v := ?_) (a' := ?_) #[true, true, true, true, true, true, true, true, false, false, false, false] rfl rfl (any_of HT_.out (by kernel_rfl)) (fun _ _ _ h => h) (Or.inl ⟨by rfl, ?_⟩) ?_ ?_
                            rotate_left
                            · intro w'
                              go_simp
                              with_reducible rfl
                            rotate_left
                            · simp only [Act.put, List.setIfInBounds_toArray, List.set_cons_zero, List.set_cons_succ, i64_w, i32_w]
                              rfl
                            refine one_ (i := 8) (N := some 31) #[true, true, true, true, true, true, true, true, true, false, false, false] rfl rfl (one_of HT_.out (by kernel_rfl)) (by decide) (fun K hK => ?_)
                            refine goes_ Tryd.func55 (by kernel_rfl) rfl #[.int .i64 a0_4] (by rfl) rfl rfl (by (try simp only [List.map_toArray, List.map_cons, List.map_nil]); first | done | rfl | (simp only [List.length_drop, List.length_take]; rfl)) ?_
                            with_reducible refine (spec_l00Digits.calls k a0_4 t220 _ A15.out).mono ?_
                            rintro e w33 ⟨rfl, hb⟩
                            refine ⟨_, rfl, ?_⟩
                            have n0_ := Aside0.mk (Kd.R_below (by (with_reducible repeat (first | apply Kd.R_alloc | apply Kd.R_drewN | apply Kd.R_drew)); exact HO215.out) hb)
                            have n1_ := Aside0.mk (blk_below (g := gb212) (o := .cells #[.int .i64 a0_0, .int .i64 a0_1, .int .i64 a0_2, .int .i64 a0_3, .int .i64 a0_4, .int .i64 a0_5] 38 (0, 0)) (by (with_reducible repeat (first | refine blk_drewN ?_ _ | refine blk_drew ?_ | refine blk_alloc ?_ _)); exact BK212.out) hb)
                            have n2_ := Aside0.mk (below_step (by repeat (first | (with_reducible first | exact HB.out | apply below_alloc | apply pw_below_drewN | apply below_drew1 | refine below_set ?_ GE212.out) | exact HB.out)) hb)
                            clear HO215
                            clear BK212
                            clear HB
                            have HO215 := n0_
                            have BK212 := n1_
                            have HB := n2_
                            clear n0_ n1_ n2_
                            (try clear hb)
                            (try clear hb2)
                            (try clear hk)
                            (try clear hi)
                            refine hK.out _ _ ⟨(blk_cell BK212.out 0).trans rfl, (blk_cell BK212.out 1).trans rfl, (blk_cell BK212.out 2).trans rfl, (blk_cell BK212.out 3).trans rfl, (blk_cell BK212.out 4).trans rfl, (blk_cell BK212.out 5).trans rfl⟩ (fun hHeld => ?_)
                            clear hK K
                            refine norm_ (a' := ?_) ?_ ?_
                            rotate_left
                            · show Act.put _ (some 31) _ = _
                              simp only [Act.put, List.setIfInBounds_toArray, List.set_cons_zero, List.set_cons_succ, i64_w, i32_w]
                              rfl
                            refine pure_ (i := 9) (N := some 32) (v := ?_) (a' := ?_) #[true, true, true, true, true, true, true, true, true, true, false, false] rfl rfl (any_of HT_.out (by kernel_rfl)) (fun _ _ _ h => h) (Or.inl ⟨by rfl, ?_⟩) ?_ ?_
                            rotate_left
                            · intro w'
                              go_simp
                              with_reducible rfl
                            rotate_left
                            · simp only [Act.put, List.setIfInBounds_toArray, List.set_cons_zero, List.set_cons_succ, i64_w, i32_w]
                              rfl
                            refine pure_ (i := 10) (N := some 33) (v := ?_) (a' := ?_) #[true, true, true, true, true, true, true, true, true, true, true, false] rfl rfl (any_of HT_.out (by kernel_rfl)) (fun _ _ _ h => h) (Or.inl ⟨by rfl, ?_⟩) ?_ ?_
                            rotate_left
                            · intro w'
                              go_simp
                              with_reducible rfl
                            rotate_left
                            · simp only [Act.put, List.setIfInBounds_toArray, List.set_cons_zero, List.set_cons_succ, i64_w, i32_w]
                              rfl
                            refine pure_ (i := 11) (N := some 3) (v := ?_) (a' := ?_) #[true, true, true, true, true, true, true, true, true, true, true, true] rfl rfl (any_of HT_.out (by kernel_rfl)) (fun _ _ _ h => h) (Or.inl ⟨by rfl, ?_⟩) ?_ ?_
                            rotate_left
                            · intro w'
                              go_simp
                              with_reducible rfl
                            rotate_left
                            · simp only [Act.put, List.setIfInBounds_toArray, List.set_cons_zero, List.set_cons_succ, i64_w, i32_w]
                              rfl
                            refine done_ (done_of HT_.out (by kernel_rfl)) ?_
                            have hcz34_0 : w33.cell? ⟨gb212, 0, none⟩ = some (.int .i64 a0_0) := (blk_cell BK212.out 0).trans rfl
                            have hcz34_1 : w33.cell? ⟨gb212, 1, none⟩ = some (.int .i64 a0_1) := (blk_cell BK212.out 1).trans rfl
                            have hcz34_2 : w33.cell? ⟨gb212, 2, none⟩ = some (.int .i64 a0_2) := (blk_cell BK212.out 2).trans rfl
                            have hcz34_3 : w33.cell? ⟨gb212, 3, none⟩ = some (.int .i64 a0_3) := (blk_cell BK212.out 3).trans rfl
                            have hcz34_4 : w33.cell? ⟨gb212, 4, none⟩ = some (.int .i64 a0_4) := (blk_cell BK212.out 4).trans rfl
                            have hcz34_5 : w33.cell? ⟨gb212, 5, none⟩ = some (.int .i64 a0_5) := (blk_cell BK212.out 5).trans rfl
                            have hfz34_0 := blk_frozen BK212.out 0
                            have hfz34_1 := blk_frozen BK212.out 1
                            have hfz34_2 := blk_frozen BK212.out 2
                            have hfz34_3 := blk_frozen BK212.out 3
                            have hfz34_4 := blk_frozen BK212.out 4
                            have hfz34_5 := blk_frozen BK212.out 5
                            try go_wp2_with (first | ((with_reducible refine gate_callee (f := 55) rfl ?_); refine goesL_ (some 38) rfl rfl Tryd.func55 (by kernel_rfl) rfl #[.int .i64 a0_5] rfl (by (try simp only [List.map_toArray, List.map_cons, List.map_nil]); first | done | rfl | (simp only [List.length_drop, List.length_take]; rfl)) ?_; (with_reducible refine (spec_l00Digits.calls k a0_5 t221 _ A19.out).mono ?_); rintro e w35 ⟨rfl, hb⟩; refine ⟨_, rfl, ?_⟩; have n0_ := Aside0.mk (Kd.R_below (by (with_reducible repeat (first | apply Kd.R_alloc | apply Kd.R_drewN | apply Kd.R_drew)); exact HO215.out) hb); have n1_ := Aside0.mk (blk_below (g := gb212) (o := .cells #[.int .i64 a0_0, .int .i64 a0_1, .int .i64 a0_2, .int .i64 a0_3, .int .i64 a0_4, .int .i64 a0_5] 38 (0, 0)) (by (with_reducible repeat (first | refine blk_drewN ?_ _ | refine blk_drew ?_ | refine blk_alloc ?_ _)); exact BK212.out) hb); have n2_ := Aside0.mk (below_step (by repeat (first | (with_reducible first | exact HB.out | apply below_alloc | apply pw_below_drewN | apply below_drew1 | refine below_set ?_ GE212.out) | exact HB.out)) hb); clear HO215; clear BK212; clear HB; have HO215 := n0_; have BK212 := n1_; have HB := n2_; clear n0_ n1_ n2_; (try clear hb); (try clear hb2); (try clear hk); (try clear hi)))
                            go_ret
                            exact ⟨by first | rfl | (simp [errW_none, errW_some] <;> rfl) | (simp only [← hji2]; first | rfl | (simp [errW_none, errW_some] <;> rfl)) | (simp [*, errW_none, errW_some] <;> rfl), by repeat (first | (with_reducible first | exact HB.out | apply below_alloc | apply pw_below_drewN | apply below_drew1 | refine below_set ?_ GE212.out) | exact HB.out)⟩
                          · rw [if_neg c20] at H
                            exact absurd H (by simp)
                        · rw [if_neg c18] at H
                          exact absurd H (by simp)
                      · rw [if_neg c17] at H
                        exact absurd H (by simp)
                    · rw [if_neg c16] at H
                      exact absurd H (by simp)
                  · rw [if_neg c14] at H
                    exact absurd H (by simp)
                · rw [if_neg c13] at H
                  exact absurd H (by simp)
              · rw [if_neg c11] at H
                have c11b0 : (a0_0 == 2) = false := beq_eq_false_iff_ne.mpr c11
                have c11b1 : (a0_0 != 2) = true := bne_iff_ne.mpr c11
                by_cases c36 : (((((rdOf ByteArray.empty y213 (ji2)) ++ (⟨#[32]⟩ : ByteArray)) ++ t217) ++ (⟨#[32]⟩ : ByteArray)) ++ t218).size + 1 ≤ 9223372036854775807
                · rw [if_pos c36] at H
                  have c36b0 := eq_true c36
                  have c36b1 : decide ((((((rdOf ByteArray.empty y213 (ji2)) ++ (⟨#[32]⟩ : ByteArray)) ++ t217) ++ (⟨#[32]⟩ : ByteArray)) ++ t218).size + 1 ≤ 9223372036854775807) = true := decide_eq_true c36
                  try have c36b2 : (9223372036854775807 < (((((rdOf ByteArray.empty y213 (ji2)) ++ (⟨#[32]⟩ : ByteArray)) ++ t217) ++ (⟨#[32]⟩ : ByteArray)) ++ t218).size + 1) = False := eq_false (Nat.not_lt.2 c36)
                  try (have c36b3 := c36b2; simp only [ByteArray.size_append] at c36b3)
                  try (have c36b4 : (9223372036854775807 < (rdOf ByteArray.empty y213 (ji2)).size + 1 + t217.size + 1 + t218.size + 1) = False := by have h_ := c36b2; simp only [ByteArray.size_append] at h_; exact h_)
                  replace H := Option.bind_eq_some_iff.mp H
                  obtain ⟨t222, A370, H⟩ := H
                  replace H : (if ((((((rdOf ByteArray.empty y213 (ji2)) ++ (⟨#[32]⟩ : ByteArray)) ++ t217) ++ (⟨#[32]⟩ : ByteArray)) ++ t218) ++ (⟨#[32]⟩ : ByteArray)).size + t222.size ≤ 9223372036854775807 then (some (((((((rdOf ByteArray.empty y213 (ji2)) ++ (⟨#[32]⟩ : ByteArray)) ++ t217) ++ (⟨#[32]⟩ : ByteArray)) ++ t218) ++ (⟨#[32]⟩ : ByteArray)) ++ t222)) else (none)) = some r := H
                  have A37 := Aside0.mk A370
                  clear A370
                  by_cases c38 : ((((((rdOf ByteArray.empty y213 (ji2)) ++ (⟨#[32]⟩ : ByteArray)) ++ t217) ++ (⟨#[32]⟩ : ByteArray)) ++ t218) ++ (⟨#[32]⟩ : ByteArray)).size + t222.size ≤ 9223372036854775807
                  · rw [if_pos c38] at H
                    have c38b0 := eq_true c38
                    have c38b1 : decide (((((((rdOf ByteArray.empty y213 (ji2)) ++ (⟨#[32]⟩ : ByteArray)) ++ t217) ++ (⟨#[32]⟩ : ByteArray)) ++ t218) ++ (⟨#[32]⟩ : ByteArray)).size + t222.size ≤ 9223372036854775807) = true := decide_eq_true c38
                    try have c38b2 : (9223372036854775807 < ((((((rdOf ByteArray.empty y213 (ji2)) ++ (⟨#[32]⟩ : ByteArray)) ++ t217) ++ (⟨#[32]⟩ : ByteArray)) ++ t218) ++ (⟨#[32]⟩ : ByteArray)).size + t222.size) = False := eq_false (Nat.not_lt.2 c38)
                    try (have c38b3 := c38b2; simp only [ByteArray.size_append] at c38b3)
                    try (have c38b4 : (9223372036854775807 < (rdOf ByteArray.empty y213 (ji2)).size + 1 + t217.size + 1 + t218.size + 1 + t222.size) = False := by have h_ := c38b2; simp only [ByteArray.size_append] at h_; exact h_)
                    obtain rfl := Option.some.inj H
                    go_enter Tryd.func37, Tryd.ntmps37
                    try go_wp2_with (first | ((with_reducible refine gate_dst (N := 1) rfl ?_); refine box_event ?hg (N := 1) ?hd (cs := #[.int .i64 a0_0, .int .i64 a0_1, .int .i64 a0_2, .int .i64 a0_3, .int .i64 a0_4, .int .i64 a0_5]) (t := 38) ?hr ?_; (case hd => rfl); (case hg => rfl); (case hr => first | (go_simp; done) | (go_simp; rfl)); intro gb212 hg w39 hbox hb; have n0_ := Aside0.mk (below_step (by repeat (first | (with_reducible first | exact HB.out | apply below_alloc | apply pw_below_drewN | apply below_drew1) | exact HB.out)) hb); have n1_ := Aside0.mk (hbox); have n2_ := Aside0.mk ((by rw [hg]; exact (below_size (by repeat (first | (with_reducible first | exact HB.out | apply below_alloc | apply pw_below_drewN | apply below_drew1) | exact HB.out))) : w.heap.size ≤ gb212)); have n3_ := Aside0.mk ((by rw [hg]; exact (below_size (by repeat (first | (with_reducible first | exact HB.out | apply below_alloc | apply pw_below_drewN | apply below_drew1) | exact HB.out))) : w.heap.size ≤ gb212)); clear HB; have HB := n0_; have BK212 := n1_; have GW212 := n2_; have GE212 := n3_; clear n0_ n1_ n2_ n3_; clear hb hbox hg))
                    have pi216 : (0 ≤ ((ji2) : Int)) = True := eq_true (of_decide_eq_true (by first | (with_reducible assumption) | assumption))
                    have qi216 : ((ji2) < (y213.length : Int)) = True := eq_true (of_decide_eq_true (by first | (with_reducible assumption) | assumption))
                    (try (rw [drewN_self w39]; generalize hq_ : World.drewN w39 _ = w39; have n0_ : Aside0 (w39.heap[gb212]? = some (.cells #[.int .i64 a0_0, .int .i64 a0_1, .int .i64 a0_2, .int .i64 a0_3, .int .i64 a0_4, .int .i64 a0_5] 38 (0, 0))) := ⟨by rw [← hq_]; exact (by (with_reducible repeat (first | refine blk_drewN ?_ _ | refine blk_drew ?_ | refine blk_alloc ?_ _)); exact BK212.out)⟩; have n1_ : Aside0 (Below w.heap.size w w39) := ⟨by rw [← hq_]; exact (by repeat (first | (with_reducible first | exact HB.out | apply below_alloc | apply pw_below_drewN | apply below_drew1 | refine below_set ?_ GE212.out) | exact HB.out))⟩; clear BK212 HB hq_; have BK212 := n0_; have HB := n1_; clear n0_ n1_))
                    have n0_ := Aside0.mk (blk_drew BK212.out)
                    have n1_ := Aside0.mk (below_drew1 HB.out)
                    clear BK212
                    clear HB
                    have BK212 := n0_
                    have HB := n1_
                    clear n0_ n1_
                    refine start_ (n := 17) (S := fun w' => True) (ds := []) #[false, false, false, false, false, false, false, false, false, false, false, false, false, false, false, false, false] (by kernel_rfl) rfl rfl trivial (fun hHeld => ?_); refine with_tabW spec_l13Task.tab1 spec_l13Task.bits1 (fun HT_ HW_ => ?_)
                    generalize w39.drew = w40 at BK212 HB hHeld ⊢
                    refine pure_ (i := 1) (N := some 5) (v := ?_) (a' := ?_) #[false, true, false, false, false, false, false, false, false, false, false, false, false, false, false, false, false] rfl rfl (any_of HT_.out (by kernel_rfl)) (fun _ _ _ h => h) (Or.inl ⟨by rfl, ?_⟩) ?_ ?_
                    rotate_left
                    · intro w'
                      go_simp
                      with_reducible rfl
                    rotate_left
                    · simp only [Act.put, List.setIfInBounds_toArray, List.set_cons_zero, List.set_cons_succ, i64_w, i32_w]
                      rfl
                    refine pure_ (i := 7) (N := some 11) (v := ?_) (a' := ?_) #[false, true, false, false, false, false, false, true, false, false, false, false, false, false, false, false, false] rfl rfl (any_of HT_.out (by kernel_rfl)) (fun _ _ _ h => h) (Or.inl ⟨by rfl, ?_⟩) ?_ ?_
                    rotate_left
                    · intro w'
                      go_simp
                      with_reducible rfl
                    rotate_left
                    · simp only [Act.put, List.setIfInBounds_toArray, List.set_cons_zero, List.set_cons_succ, i64_w, i32_w]
                      rfl
                    refine pure_ (i := 12) (N := some 16) (v := ?_) (a' := ?_) #[false, true, false, false, false, false, false, true, false, false, false, false, true, false, false, false, false] rfl rfl (any_of HT_.out (by kernel_rfl)) (fun _ _ _ h => h) (Or.inl ⟨by rfl, ?_⟩) ?_ ?_
                    rotate_left
                    · intro w'
                      go_simp
                      with_reducible rfl
                    rotate_left
                    · simp only [Act.put, List.setIfInBounds_toArray, List.set_cons_zero, List.set_cons_succ, i64_w, i32_w]
                      rfl
                    refine inv_at [0, 2, 3, 4, 5, 6, 8, 9, 10, 11, 13, 14, 15, 16] (fun a0_ b a w' => ∃ (v214 : Value) (adz_v214 : Addr) (m4_ : Value), a = putSel a0_ b [(0, 4, v214), (2, 6, .int .i64 a0_0), (3, 7, .int .i64 ji2), (4, 8, m4_), (5, 9, .string (rdOf ByteArray.empty y213 (ji2))), (6, 10, .string ((rdOf ByteArray.empty y213 (ji2)) ++ (⟨#[32]⟩ : ByteArray))), (8, 12, .int .i64 a0_1), (9, 13, .string t217), (10, 14, .string (((rdOf ByteArray.empty y213 (ji2)) ++ (⟨#[32]⟩ : ByteArray)) ++ t217)), (11, 15, .string ((((rdOf ByteArray.empty y213 (ji2)) ++ (⟨#[32]⟩ : ByteArray)) ++ t217) ++ (⟨#[32]⟩ : ByteArray))), (13, 17, .int .i64 a0_2), (14, 18, .string t218), (15, 19, .string (((((rdOf ByteArray.empty y213 (ji2)) ++ (⟨#[32]⟩ : ByteArray)) ++ t217) ++ (⟨#[32]⟩ : ByteArray)) ++ t218)), (16, 3, .string (((((rdOf ByteArray.empty y213 (ji2)) ++ (⟨#[32]⟩ : ByteArray)) ++ t217) ++ (⟨#[32]⟩ : ByteArray)) ++ t218))] ∧ (w'.heap[gb212]? = some (.cells #[.int .i64 a0_0, .int .i64 a0_1, .int .i64 a0_2, .int .i64 a0_3, .int .i64 a0_4, .int .i64 a0_5] 38 (0, 0))) ∧ (Below w.heap.size w w') ∧ (b 0 = true → Kd.R Kd.string 9 w' w.heap.size (fun _ => True) v214 y213) ∧ (b 0 = true → ∃ c_, (v214 : Value) = .slice (some adz_v214) y213.length c_) ∧ (b 4 = true → (m4_ : Value) = .pointer (some (adz_v214.add ((ji2)).toNat)))) HT_.out HW_.out (by kernel_rfl) (by kernel_rfl) ?_ ?_ ?_
                    · exact ⟨.bool false, ⟨0, 0, none⟩, .bool false, by simp only [putSel, Bool.false_eq_true, if_false], BK212.out, HB.out, fun h_ => absurd h_ (by decide), fun h_ => absurd h_ (by decide), fun h_ => absurd h_ (by decide)⟩
                    · skip
                      clear BK212 HB
                      refine steps_cons ?_ ?_
                      · rintro b a w' ⟨v214, adz_v214, m4_, ha, Q_BK212, Q_HB, Q_HO215, Q_HA_HO215, Q_X4_⟩ hb_ hon hoff
                        refine ⟨_, rfl, fun K hK => ?_⟩
                        replace ha := Aside0.mk ha
                        have BK212 := Aside0.mk Q_BK212
                        have HB := Aside0.mk Q_HB
                        refine Kd.R_lit_step Kd.string _ 9 ?hg (N := 4) ?hd (xs := ([(⟨#[99, 121, 99, 108, 105, 99]⟩ : ByteArray), (⟨#[101, 118, 101, 110, 116]⟩ : ByteArray)] : List ByteArray)) (inner := [.string (⟨#[99, 121, 99, 108, 105, 99]⟩ : ByteArray), .string (⟨#[101, 118, 101, 110, 116]⟩ : ByteArray)]) (ok := fun _ => True) (okp := fun _ => True) ?hr ?hp (fun _ hk => hk) trivial (Below.refl _ _) (Nat.le_refl _) (by simp) ?_; (case hd => rfl); (case hg => rfl); (case hr => first | (go_simp; done) | (go_simp; rfl)); (case hp => exact (Reps.one (show Kd.M Kd.string _ _ _ (⟨#[99, 121, 99, 108, 105, 99]⟩ : ByteArray) [.string (⟨#[99, 121, 99, 108, 105, 99]⟩ : ByteArray)] from rfl) (Reps.one (show Kd.M Kd.string _ _ _ (⟨#[101, 118, 101, 110, 116]⟩ : ByteArray) [.string (⟨#[101, 118, 101, 110, 116]⟩ : ByteArray)] from rfl) (Reps.none _ _))))
                        intro v214 w41 ho42 hb hg_ hnew_
                        clear hg_ hnew_
                        (first | rw [← Ny213.out] at ho42 | (simp only [Int.reduceToNat] at ho42; rw [← Ny213.out] at ho42))
                        have n0_ := Aside0.mk (Kd.R_lower ho42 (below_size (by repeat (first | (with_reducible first | exact HB.out | apply below_alloc | apply pw_below_drewN | apply below_drew1 | refine below_set ?_ GE212.out) | exact HB.out))))
                        have n1_ := Aside0.mk (blk_below (g := gb212) (o := .cells #[.int .i64 a0_0, .int .i64 a0_1, .int .i64 a0_2, .int .i64 a0_3, .int .i64 a0_4, .int .i64 a0_5] 38 (0, 0)) (by (with_reducible repeat (first | refine blk_drewN ?_ _ | refine blk_drew ?_ | refine blk_alloc ?_ _)); exact BK212.out) hb)
                        have n2_ := Aside0.mk (below_step (by repeat (first | (with_reducible first | exact HB.out | apply below_alloc | apply pw_below_drewN | apply below_drew1 | refine below_set ?_ GE212.out) | exact HB.out)) hb)
                        clear BK212
                        clear HB
                        have HO215 := n0_
                        have BK212 := n1_
                        have HB := n2_
                        clear n0_ n1_ n2_
                        clear hb ho42
                        obtain ⟨Ao43, co43, eo43⟩ := Kd.R_slice HO215.out
                        subst eo43
                        obtain ⟨ado43, fo43, _⟩ := Kd.at_string (Kd.R_reads' HO215.out).2.2 0 (by decide) (by rw [Ny213.out]; simp)
                        cases fo43
                        refine hK.out _ _ ⟨.slice (some ado43) y213.length co43, ado43, m4_, (by rw [ha.out]; exact putSel_upk 0 hb_ rfl rfl rfl), (by (with_reducible repeat (first | refine blk_drewN ?_ _ | refine blk_drew ?_ | refine blk_alloc ?_ _)); exact BK212.out), (by repeat (first | (with_reducible first | exact HB.out | apply below_alloc | apply pw_below_drewN | apply below_drew1 | refine below_set ?_ GE212.out) | exact HB.out)), fun _ => (by (with_reducible repeat (first | apply Kd.R_alloc | apply Kd.R_drewN | apply Kd.R_drew)); exact HO215.out), fun _ => ⟨_, rfl⟩, fun h0_ => absurd ((hoff 4 (by kernel_rfl)).symm.trans h0_) (by decide)⟩
                      refine steps_cons ?_ ?_
                      · rintro b a w' ⟨v214, adz_v214, m4_, ha, Q_BK212, Q_HB, Q_HO215, Q_HA_HO215, Q_X4_⟩ hb_ hon hoff
                        refine ⟨_, rfl, fun K hK => ?_⟩
                        have e5 : a.tmps[5]? = some (.pointer (some ⟨gb212, 0, none⟩)) := by rw [ha]; exact (putSel_off rfl).trans rfl
                        replace ha := Aside0.mk ha
                        have BK212 := Aside0.mk Q_BK212
                        have HB := Aside0.mk Q_HB
                        have hc0_ : w'.cell? ⟨gb212, 0, none⟩ = some (.int .i64 a0_0) := (blk_cell BK212.out 0).trans rfl
                        have hc1_ : w'.cell? ⟨gb212, 1, none⟩ = some (.int .i64 a0_1) := (blk_cell BK212.out 1).trans rfl
                        have hc2_ : w'.cell? ⟨gb212, 2, none⟩ = some (.int .i64 a0_2) := (blk_cell BK212.out 2).trans rfl
                        have hc3_ : w'.cell? ⟨gb212, 3, none⟩ = some (.int .i64 a0_3) := (blk_cell BK212.out 3).trans rfl
                        have hc4_ : w'.cell? ⟨gb212, 4, none⟩ = some (.int .i64 a0_4) := (blk_cell BK212.out 4).trans rfl
                        have hc5_ : w'.cell? ⟨gb212, 5, none⟩ = some (.int .i64 a0_5) := (blk_cell BK212.out 5).trans rfl
                        refine value_ (w1 := w') (v := .int .i64 a0_0) (by rfl) rfl ?_ ?_
                        · go_simp
                          (try simp only [i64_w])
                          try rfl
                        refine hK.out _ _ ⟨v214, adz_v214, m4_, (by rw [ha.out]; exact putSel_upk 1 hb_ rfl rfl rfl), Q_BK212, Q_HB, Q_HO215, Q_HA_HO215, fun h0_ => absurd ((hoff 4 (by kernel_rfl)).symm.trans h0_) (by decide)⟩
                      refine steps_cons ?_ ?_
                      · rintro b a w' ⟨v214, adz_v214, m4_, ha, Q_BK212, Q_HB, Q_HO215, Q_HA_HO215, Q_X4_⟩ hb_ hon hoff
                        refine ⟨_, rfl, fun K hK => ?_⟩
                        have e6 : a.tmps[6]? = some (.int .i64 a0_0) := by rw [ha]; exact putSel_on (e := (2, 6, .int .i64 a0_0)) 1 rfl rfl (hon 2 (by kernel_rfl)) rfl
                        replace ha := Aside0.mk ha
                        have BK212 := Aside0.mk Q_BK212
                        have HB := Aside0.mk Q_HB
                        refine value_ (w1 := w') (v := .int .i64 ji2) (by rfl) rfl ?_ ?_
                        · go_simp
                          (try simp only [i64_w])
                          try rfl
                        refine hK.out _ _ ⟨v214, adz_v214, m4_, (by rw [ha.out]; exact putSel_upk 2 hb_ rfl rfl rfl), Q_BK212, Q_HB, Q_HO215, Q_HA_HO215, fun h0_ => absurd ((hoff 4 (by kernel_rfl)).symm.trans h0_) (by decide)⟩
                      refine steps_cons ?_ ?_
                      · rintro b a w' ⟨v214, adz_v214, m4_, ha, Q_BK212, Q_HB, Q_HO215, Q_HA_HO215, Q_X4_⟩ hb_ hon hoff
                        refine ⟨_, rfl, fun K hK => ?_⟩
                        have e4 : a.tmps[4]? = some (v214) := by rw [ha]; exact putSel_on (e := (0, 4, v214)) 0 rfl rfl (hon 0 (by kernel_rfl)) rfl
                        have e7 : a.tmps[7]? = some (.int .i64 ji2) := by rw [ha]; exact putSel_on (e := (3, 7, .int .i64 ji2)) 2 rfl rfl (hon 3 (by kernel_rfl)) rfl
                        replace ha := Aside0.mk ha
                        have BK212 := Aside0.mk Q_BK212
                        have HB := Aside0.mk Q_HB
                        have HO215 := Aside0.mk (Q_HO215 (hon 0 (by kernel_rfl)))
                        have HA_HO215 := Aside0.mk (Q_HA_HO215 (hon 0 (by kernel_rfl)))
                        obtain ⟨c_, hv_⟩ := HA_HO215.out
                        rw [hv_] at e4
                        refine value_ (w1 := w') (v := .pointer (some (adz_v214.add ((ji2)).toNat))) (by rfl) rfl ?_ ?_
                        · go_simp
                          (try simp only [i64_w])
                          try rfl
                        refine hK.out _ _ ⟨v214, adz_v214, (.pointer (some (adz_v214.add ((ji2)).toNat))), (by rw [ha.out]; exact putSel_upk 3 hb_ rfl rfl rfl), Q_BK212, Q_HB, Q_HO215, Q_HA_HO215, fun _ => rfl⟩
                      refine steps_cons ?_ ?_
                      · rintro b a w' ⟨v214, adz_v214, m4_, ha, Q_BK212, Q_HB, Q_HO215, Q_HA_HO215, Q_X4_⟩ hb_ hon hoff
                        refine ⟨_, rfl, fun K hK => ?_⟩
                        have e8 : a.tmps[8]? = some (m4_) := by rw [ha]; exact putSel_on (e := (4, 8, m4_)) 3 rfl rfl (hon 4 (by kernel_rfl)) rfl
                        rw [Q_X4_ (hon 4 (by kernel_rfl))] at e8
                        replace ha := Aside0.mk ha
                        have BK212 := Aside0.mk Q_BK212
                        have HB := Aside0.mk Q_HB
                        have HO215 := Aside0.mk (Q_HO215 (hon 0 (by kernel_rfl)))
                        have HA_HO215 := Aside0.mk (Q_HA_HO215 (hon 0 (by kernel_rfl)))
                        obtain ⟨c_, hv_⟩ := HA_HO215.out
                        have hF_ := HO215.out
                        rw [hv_] at hF_
                        obtain ⟨ad_, ea_, hx_⟩ := Kd.at_string (Kd.R_reads' hF_).2.2 (ji2) (of_eq_true pi216) (of_eq_true qi216)
                        cases ea_
                        refine value_ (w1 := w') (v := .string (rdOf ByteArray.empty y213 (ji2))) (by rfl) rfl ?_ ?_
                        · go_simp
                          (try simp only [i64_w])
                          try rfl
                        refine hK.out _ _ ⟨v214, adz_v214, m4_, (by rw [ha.out]; exact putSel_upk 4 hb_ rfl rfl rfl), Q_BK212, Q_HB, Q_HO215, Q_HA_HO215, Q_X4_⟩
                      refine steps_cons ?_ ?_
                      · rintro b a w' ⟨v214, adz_v214, m4_, ha, Q_BK212, Q_HB, Q_HO215, Q_HA_HO215, Q_X4_⟩ hb_ hon hoff
                        refine ⟨_, rfl, fun K hK => ?_⟩
                        have e9 : a.tmps[9]? = some (.string (rdOf ByteArray.empty y213 (ji2))) := by rw [ha]; exact putSel_on (e := (5, 9, .string (rdOf ByteArray.empty y213 (ji2)))) 4 rfl rfl (hon 5 (by kernel_rfl)) rfl
                        replace ha := Aside0.mk ha
                        have BK212 := Aside0.mk Q_BK212
                        have HB := Aside0.mk Q_HB
                        have HO215 := Aside0.mk (Q_HO215 (hon 0 (by kernel_rfl)))
                        have HA_HO215 := Aside0.mk (Q_HA_HO215 (hon 0 (by kernel_rfl)))
                        refine value_ (w1 := w') (v := .string ((rdOf ByteArray.empty y213 (ji2)) ++ (⟨#[32]⟩ : ByteArray))) (by rfl) rfl ?_ ?_
                        · go_simp
                          (try simp only [i64_w])
                          try rfl
                        refine hK.out _ _ ⟨v214, adz_v214, m4_, (by rw [ha.out]; exact putSel_upk 5 hb_ rfl rfl rfl), Q_BK212, Q_HB, Q_HO215, Q_HA_HO215, Q_X4_⟩
                      refine steps_cons ?_ ?_
                      · rintro b a w' ⟨v214, adz_v214, m4_, ha, Q_BK212, Q_HB, Q_HO215, Q_HA_HO215, Q_X4_⟩ hb_ hon hoff
                        refine ⟨_, rfl, fun K hK => ?_⟩
                        have e11 : a.tmps[11]? = some (.pointer (some ⟨gb212, 1, none⟩)) := by rw [ha]; exact (putSel_off rfl).trans rfl
                        replace ha := Aside0.mk ha
                        have BK212 := Aside0.mk Q_BK212
                        have HB := Aside0.mk Q_HB
                        have hc0_ : w'.cell? ⟨gb212, 0, none⟩ = some (.int .i64 a0_0) := (blk_cell BK212.out 0).trans rfl
                        have hc1_ : w'.cell? ⟨gb212, 1, none⟩ = some (.int .i64 a0_1) := (blk_cell BK212.out 1).trans rfl
                        have hc2_ : w'.cell? ⟨gb212, 2, none⟩ = some (.int .i64 a0_2) := (blk_cell BK212.out 2).trans rfl
                        have hc3_ : w'.cell? ⟨gb212, 3, none⟩ = some (.int .i64 a0_3) := (blk_cell BK212.out 3).trans rfl
                        have hc4_ : w'.cell? ⟨gb212, 4, none⟩ = some (.int .i64 a0_4) := (blk_cell BK212.out 4).trans rfl
                        have hc5_ : w'.cell? ⟨gb212, 5, none⟩ = some (.int .i64 a0_5) := (blk_cell BK212.out 5).trans rfl
                        refine value_ (w1 := w') (v := .int .i64 a0_1) (by rfl) rfl ?_ ?_
                        · go_simp
                          (try simp only [i64_w])
                          try rfl
                        refine hK.out _ _ ⟨v214, adz_v214, m4_, (by rw [ha.out]; exact putSel_upk 6 hb_ rfl rfl rfl), Q_BK212, Q_HB, Q_HO215, Q_HA_HO215, Q_X4_⟩
                      refine steps_cons ?_ ?_
                      · rintro b a w' ⟨v214, adz_v214, m4_, ha, Q_BK212, Q_HB, Q_HO215, Q_HA_HO215, Q_X4_⟩ hb_ hon hoff
                        refine ⟨_, rfl, fun K hK => ?_⟩
                        have e12 : a.tmps[12]? = some (.int .i64 a0_1) := by rw [ha]; exact putSel_on (e := (8, 12, .int .i64 a0_1)) 6 rfl rfl (hon 8 (by kernel_rfl)) rfl
                        replace ha := Aside0.mk ha
                        have BK212 := Aside0.mk Q_BK212
                        have HB := Aside0.mk Q_HB
                        refine goes_ Tryd.func55 (by kernel_rfl) rfl #[.int .i64 a0_1] (by rfl) rfl rfl (by first | (simp only [List.map_toArray, List.map_cons, List.map_nil, Act.eval, Array.getD_eq_getD_getElem?, Option.getD_some, e12]; done) | (simp only [List.map_toArray, List.map_cons, List.map_nil, Act.eval, Array.getD_eq_getD_getElem?, Option.getD_some, e12]; rfl)) ?_
                        with_reducible refine (spec_l00Digits.calls k a0_1 t217 _ A6.out).mono ?_
                        rintro e w41 ⟨rfl, hb⟩
                        refine ⟨_, rfl, ?_⟩
                        have n0_ := Aside0.mk (blk_below (g := gb212) (o := .cells #[.int .i64 a0_0, .int .i64 a0_1, .int .i64 a0_2, .int .i64 a0_3, .int .i64 a0_4, .int .i64 a0_5] 38 (0, 0)) (by (with_reducible repeat (first | refine blk_drewN ?_ _ | refine blk_drew ?_ | refine blk_alloc ?_ _)); exact BK212.out) hb)
                        have n1_ := Aside0.mk (below_step (by repeat (first | (with_reducible first | exact HB.out | apply below_alloc | apply pw_below_drewN | apply below_drew1 | refine below_set ?_ GE212.out) | exact HB.out)) hb)
                        have z_HO215 := fun (h0_ : b 0 = true) => (show Kd.R Kd.string 9 w41 w.heap.size (fun _ => True) v214 y213 from by first | exact (Kd.R_below (by (with_reducible repeat (first | apply Kd.R_alloc | apply Kd.R_drewN | apply Kd.R_drew)); exact (Q_HO215 h0_)) hb) | exact Kd.R_mono (Kd.R_below (by (with_reducible repeat (first | apply Kd.R_alloc | apply Kd.R_drewN | apply Kd.R_drew)); exact (Q_HO215 h0_)) hb) (fun _ h_ => by first | trivial | exact h_ | exact h_.1))
                        clear BK212
                        clear HB
                        have BK212 := n0_
                        have HB := n1_
                        clear n0_ n1_
                        (try clear hb)
                        (try clear hb2)
                        (try clear hk)
                        (try clear hi)
                        refine hK.out _ _ ⟨v214, adz_v214, m4_, (by rw [ha.out]; exact putSel_upk 7 hb_ rfl rfl rfl), (by (with_reducible repeat (first | refine blk_drewN ?_ _ | refine blk_drew ?_ | refine blk_alloc ?_ _)); exact BK212.out), (by repeat (first | (with_reducible first | exact HB.out | apply below_alloc | apply pw_below_drewN | apply below_drew1 | refine below_set ?_ GE212.out) | exact HB.out)), z_HO215, Q_HA_HO215, Q_X4_⟩
                      refine steps_cons ?_ ?_
                      · rintro b a w' ⟨v214, adz_v214, m4_, ha, Q_BK212, Q_HB, Q_HO215, Q_HA_HO215, Q_X4_⟩ hb_ hon hoff
                        refine ⟨_, rfl, fun K hK => ?_⟩
                        have e10 : a.tmps[10]? = some (.string ((rdOf ByteArray.empty y213 (ji2)) ++ (⟨#[32]⟩ : ByteArray))) := by rw [ha]; exact putSel_on (e := (6, 10, .string ((rdOf ByteArray.empty y213 (ji2)) ++ (⟨#[32]⟩ : ByteArray)))) 5 rfl rfl (hon 6 (by kernel_rfl)) rfl
                        have e13 : a.tmps[13]? = some (.string t217) := by rw [ha]; exact putSel_on (e := (9, 13, .string t217)) 7 rfl rfl (hon 9 (by kernel_rfl)) rfl
                        replace ha := Aside0.mk ha
                        have BK212 := Aside0.mk Q_BK212
                        have HB := Aside0.mk Q_HB
                        have HO215 := Aside0.mk (Q_HO215 (hon 0 (by kernel_rfl)))
                        have HA_HO215 := Aside0.mk (Q_HA_HO215 (hon 0 (by kernel_rfl)))
                        refine value_ (w1 := w') (v := .string (((rdOf ByteArray.empty y213 (ji2)) ++ (⟨#[32]⟩ : ByteArray)) ++ t217)) (by rfl) rfl ?_ ?_
                        · go_simp
                          (try simp only [i64_w])
                          try rfl
                        refine hK.out _ _ ⟨v214, adz_v214, m4_, (by rw [ha.out]; exact putSel_upk 8 hb_ rfl rfl rfl), Q_BK212, Q_HB, Q_HO215, Q_HA_HO215, Q_X4_⟩
                      refine steps_cons ?_ ?_
                      · rintro b a w' ⟨v214, adz_v214, m4_, ha, Q_BK212, Q_HB, Q_HO215, Q_HA_HO215, Q_X4_⟩ hb_ hon hoff
                        refine ⟨_, rfl, fun K hK => ?_⟩
                        have e14 : a.tmps[14]? = some (.string (((rdOf ByteArray.empty y213 (ji2)) ++ (⟨#[32]⟩ : ByteArray)) ++ t217)) := by rw [ha]; exact putSel_on (e := (10, 14, .string (((rdOf ByteArray.empty y213 (ji2)) ++ (⟨#[32]⟩ : ByteArray)) ++ t217))) 8 rfl rfl (hon 10 (by kernel_rfl)) rfl
                        replace ha := Aside0.mk ha
                        have BK212 := Aside0.mk Q_BK212
                        have HB := Aside0.mk Q_HB
                        have HO215 := Aside0.mk (Q_HO215 (hon 0 (by kernel_rfl)))
                        have HA_HO215 := Aside0.mk (Q_HA_HO215 (hon 0 (by kernel_rfl)))
                        refine value_ (w1 := w') (v := .string ((((rdOf ByteArray.empty y213 (ji2)) ++ (⟨#[32]⟩ : ByteArray)) ++ t217) ++ (⟨#[32]⟩ : ByteArray))) (by rfl) rfl ?_ ?_
                        · go_simp
                          (try simp only [i64_w])
                          try rfl
                        refine hK.out _ _ ⟨v214, adz_v214, m4_, (by rw [ha.out]; exact putSel_upk 9 hb_ rfl rfl rfl), Q_BK212, Q_HB, Q_HO215, Q_HA_HO215, Q_X4_⟩
                      refine steps_cons ?_ ?_
                      · rintro b a w' ⟨v214, adz_v214, m4_, ha, Q_BK212, Q_HB, Q_HO215, Q_HA_HO215, Q_X4_⟩ hb_ hon hoff
                        refine ⟨_, rfl, fun K hK => ?_⟩
                        have e16 : a.tmps[16]? = some (.pointer (some ⟨gb212, 2, none⟩)) := by rw [ha]; exact (putSel_off rfl).trans rfl
                        replace ha := Aside0.mk ha
                        have BK212 := Aside0.mk Q_BK212
                        have HB := Aside0.mk Q_HB
                        have hc0_ : w'.cell? ⟨gb212, 0, none⟩ = some (.int .i64 a0_0) := (blk_cell BK212.out 0).trans rfl
                        have hc1_ : w'.cell? ⟨gb212, 1, none⟩ = some (.int .i64 a0_1) := (blk_cell BK212.out 1).trans rfl
                        have hc2_ : w'.cell? ⟨gb212, 2, none⟩ = some (.int .i64 a0_2) := (blk_cell BK212.out 2).trans rfl
                        have hc3_ : w'.cell? ⟨gb212, 3, none⟩ = some (.int .i64 a0_3) := (blk_cell BK212.out 3).trans rfl
                        have hc4_ : w'.cell? ⟨gb212, 4, none⟩ = some (.int .i64 a0_4) := (blk_cell BK212.out 4).trans rfl
                        have hc5_ : w'.cell? ⟨gb212, 5, none⟩ = some (.int .i64 a0_5) := (blk_cell BK212.out 5).trans rfl
                        refine value_ (w1 := w') (v := .int .i64 a0_2) (by rfl) rfl ?_ ?_
                        · go_simp
                          (try simp only [i64_w])
                          try rfl
                        refine hK.out _ _ ⟨v214, adz_v214, m4_, (by rw [ha.out]; exact putSel_upk 10 hb_ rfl rfl rfl), Q_BK212, Q_HB, Q_HO215, Q_HA_HO215, Q_X4_⟩
                      refine steps_cons ?_ ?_
                      · rintro b a w' ⟨v214, adz_v214, m4_, ha, Q_BK212, Q_HB, Q_HO215, Q_HA_HO215, Q_X4_⟩ hb_ hon hoff
                        refine ⟨_, rfl, fun K hK => ?_⟩
                        have e17 : a.tmps[17]? = some (.int .i64 a0_2) := by rw [ha]; exact putSel_on (e := (13, 17, .int .i64 a0_2)) 10 rfl rfl (hon 13 (by kernel_rfl)) rfl
                        replace ha := Aside0.mk ha
                        have BK212 := Aside0.mk Q_BK212
                        have HB := Aside0.mk Q_HB
                        refine goes_ Tryd.func55 (by kernel_rfl) rfl #[.int .i64 a0_2] (by rfl) rfl rfl (by first | (simp only [List.map_toArray, List.map_cons, List.map_nil, Act.eval, Array.getD_eq_getD_getElem?, Option.getD_some, e17]; done) | (simp only [List.map_toArray, List.map_cons, List.map_nil, Act.eval, Array.getD_eq_getD_getElem?, Option.getD_some, e17]; rfl)) ?_
                        with_reducible refine (spec_l00Digits.calls k a0_2 t218 _ A9.out).mono ?_
                        rintro e w43 ⟨rfl, hb⟩
                        refine ⟨_, rfl, ?_⟩
                        have n0_ := Aside0.mk (blk_below (g := gb212) (o := .cells #[.int .i64 a0_0, .int .i64 a0_1, .int .i64 a0_2, .int .i64 a0_3, .int .i64 a0_4, .int .i64 a0_5] 38 (0, 0)) (by (with_reducible repeat (first | refine blk_drewN ?_ _ | refine blk_drew ?_ | refine blk_alloc ?_ _)); exact BK212.out) hb)
                        have n1_ := Aside0.mk (below_step (by repeat (first | (with_reducible first | exact HB.out | apply below_alloc | apply pw_below_drewN | apply below_drew1 | refine below_set ?_ GE212.out) | exact HB.out)) hb)
                        have z_HO215 := fun (h0_ : b 0 = true) => (show Kd.R Kd.string 9 w43 w.heap.size (fun _ => True) v214 y213 from by first | exact (Kd.R_below (by (with_reducible repeat (first | apply Kd.R_alloc | apply Kd.R_drewN | apply Kd.R_drew)); exact (Q_HO215 h0_)) hb) | exact Kd.R_mono (Kd.R_below (by (with_reducible repeat (first | apply Kd.R_alloc | apply Kd.R_drewN | apply Kd.R_drew)); exact (Q_HO215 h0_)) hb) (fun _ h_ => by first | trivial | exact h_ | exact h_.1))
                        clear BK212
                        clear HB
                        have BK212 := n0_
                        have HB := n1_
                        clear n0_ n1_
                        (try clear hb)
                        (try clear hb2)
                        (try clear hk)
                        (try clear hi)
                        refine hK.out _ _ ⟨v214, adz_v214, m4_, (by rw [ha.out]; exact putSel_upk 11 hb_ rfl rfl rfl), (by (with_reducible repeat (first | refine blk_drewN ?_ _ | refine blk_drew ?_ | refine blk_alloc ?_ _)); exact BK212.out), (by repeat (first | (with_reducible first | exact HB.out | apply below_alloc | apply pw_below_drewN | apply below_drew1 | refine below_set ?_ GE212.out) | exact HB.out)), z_HO215, Q_HA_HO215, Q_X4_⟩
                      refine steps_cons ?_ ?_
                      · rintro b a w' ⟨v214, adz_v214, m4_, ha, Q_BK212, Q_HB, Q_HO215, Q_HA_HO215, Q_X4_⟩ hb_ hon hoff
                        refine ⟨_, rfl, fun K hK => ?_⟩
                        have e15 : a.tmps[15]? = some (.string ((((rdOf ByteArray.empty y213 (ji2)) ++ (⟨#[32]⟩ : ByteArray)) ++ t217) ++ (⟨#[32]⟩ : ByteArray))) := by rw [ha]; exact putSel_on (e := (11, 15, .string ((((rdOf ByteArray.empty y213 (ji2)) ++ (⟨#[32]⟩ : ByteArray)) ++ t217) ++ (⟨#[32]⟩ : ByteArray)))) 9 rfl rfl (hon 11 (by kernel_rfl)) rfl
                        have e18 : a.tmps[18]? = some (.string t218) := by rw [ha]; exact putSel_on (e := (14, 18, .string t218)) 11 rfl rfl (hon 14 (by kernel_rfl)) rfl
                        replace ha := Aside0.mk ha
                        have BK212 := Aside0.mk Q_BK212
                        have HB := Aside0.mk Q_HB
                        have HO215 := Aside0.mk (Q_HO215 (hon 0 (by kernel_rfl)))
                        have HA_HO215 := Aside0.mk (Q_HA_HO215 (hon 0 (by kernel_rfl)))
                        refine value_ (w1 := w') (v := .string (((((rdOf ByteArray.empty y213 (ji2)) ++ (⟨#[32]⟩ : ByteArray)) ++ t217) ++ (⟨#[32]⟩ : ByteArray)) ++ t218)) (by rfl) rfl ?_ ?_
                        · go_simp
                          (try simp only [i64_w])
                          try rfl
                        refine hK.out _ _ ⟨v214, adz_v214, m4_, (by rw [ha.out]; exact putSel_upk 12 hb_ rfl rfl rfl), Q_BK212, Q_HB, Q_HO215, Q_HA_HO215, Q_X4_⟩
                      refine steps_cons ?_ ?_
                      · rintro b a w' ⟨v214, adz_v214, m4_, ha, Q_BK212, Q_HB, Q_HO215, Q_HA_HO215, Q_X4_⟩ hb_ hon hoff
                        refine ⟨_, rfl, fun K hK => ?_⟩
                        have e19 : a.tmps[19]? = some (.string (((((rdOf ByteArray.empty y213 (ji2)) ++ (⟨#[32]⟩ : ByteArray)) ++ t217) ++ (⟨#[32]⟩ : ByteArray)) ++ t218)) := by rw [ha]; exact putSel_on (e := (15, 19, .string (((((rdOf ByteArray.empty y213 (ji2)) ++ (⟨#[32]⟩ : ByteArray)) ++ t217) ++ (⟨#[32]⟩ : ByteArray)) ++ t218))) 12 rfl rfl (hon 15 (by kernel_rfl)) rfl
                        replace ha := Aside0.mk ha
                        have BK212 := Aside0.mk Q_BK212
                        have HB := Aside0.mk Q_HB
                        have HO215 := Aside0.mk (Q_HO215 (hon 0 (by kernel_rfl)))
                        have HA_HO215 := Aside0.mk (Q_HA_HO215 (hon 0 (by kernel_rfl)))
                        refine value_ (w1 := w') (v := .string (((((rdOf ByteArray.empty y213 (ji2)) ++ (⟨#[32]⟩ : ByteArray)) ++ t217) ++ (⟨#[32]⟩ : ByteArray)) ++ t218)) (by rfl) rfl ?_ ?_
                        · go_simp
                          (try simp only [i64_w])
                          try rfl
                        refine hK.out _ _ ⟨v214, adz_v214, m4_, (by rw [ha.out]; exact putSel_upk 13 hb_ rfl rfl rfl), Q_BK212, Q_HB, Q_HO215, Q_HA_HO215, Q_X4_⟩
                      exact steps_nil
                    rintro b a w46 hall ⟨v214, adz_v214, m4_, ha, Q_BK212, Q_HB, Q_HO215, Q_HA_HO215, Q_X4_⟩
                    clear BK212 HB
                    have hb0_ := hall 0 (by kernel_rfl)
                    have hb2_ := hall 2 (by kernel_rfl)
                    have hb3_ := hall 3 (by kernel_rfl)
                    have hb4_ := hall 4 (by kernel_rfl)
                    have hb5_ := hall 5 (by kernel_rfl)
                    have hb6_ := hall 6 (by kernel_rfl)
                    have hb8_ := hall 8 (by kernel_rfl)
                    have hb9_ := hall 9 (by kernel_rfl)
                    have hb10_ := hall 10 (by kernel_rfl)
                    have hb11_ := hall 11 (by kernel_rfl)
                    have hb13_ := hall 13 (by kernel_rfl)
                    have hb14_ := hall 14 (by kernel_rfl)
                    have hb15_ := hall 15 (by kernel_rfl)
                    have hb16_ := hall 16 (by kernel_rfl)
                    subst ha
                    obtain rfl := Q_X4_ hb4_
                    simp only [putSel, hb0_, hb2_, hb3_, hb4_, hb5_, hb6_, hb8_, hb9_, hb10_, hb11_, hb13_, hb14_, hb15_, hb16_, if_true, Act.put, List.setIfInBounds_toArray, List.set_cons_zero, List.set_cons_succ]
                    have BK212 := Aside0.mk Q_BK212
                    clear Q_BK212
                    have HB := Aside0.mk Q_HB
                    clear Q_HB
                    have HO215 := Aside0.mk (Q_HO215 hb0_)
                    clear Q_HO215
                    have HA_HO215 := Aside0.mk (Q_HA_HO215 hb0_)
                    clear Q_HA_HO215
                    clear hall hb0_ hb2_ hb3_ hb4_ hb5_ hb6_ hb8_ hb9_ hb10_ hb11_ hb13_ hb14_ hb15_ hb16_
                    obtain ⟨co47, eo47⟩ := HA_HO215.out
                    clear HA_HO215
                    subst eo47
                    have hcz48_0 : w46.cell? ⟨gb212, 0, none⟩ = some (.int .i64 a0_0) := (blk_cell BK212.out 0).trans rfl
                    have hcz48_1 : w46.cell? ⟨gb212, 1, none⟩ = some (.int .i64 a0_1) := (blk_cell BK212.out 1).trans rfl
                    have hcz48_2 : w46.cell? ⟨gb212, 2, none⟩ = some (.int .i64 a0_2) := (blk_cell BK212.out 2).trans rfl
                    have hcz48_3 : w46.cell? ⟨gb212, 3, none⟩ = some (.int .i64 a0_3) := (blk_cell BK212.out 3).trans rfl
                    have hcz48_4 : w46.cell? ⟨gb212, 4, none⟩ = some (.int .i64 a0_4) := (blk_cell BK212.out 4).trans rfl
                    have hcz48_5 : w46.cell? ⟨gb212, 5, none⟩ = some (.int .i64 a0_5) := (blk_cell BK212.out 5).trans rfl
                    have hfz48_0 := blk_frozen BK212.out 0
                    have hfz48_1 := blk_frozen BK212.out 1
                    have hfz48_2 := blk_frozen BK212.out 2
                    have hfz48_3 := blk_frozen BK212.out 3
                    have hfz48_4 := blk_frozen BK212.out 4
                    have hfz48_5 := blk_frozen BK212.out 5
                    try go_wp2_with (first | ((with_reducible refine gate_callee (f := 55) rfl ?_); refine goesL_ (some 38) rfl rfl Tryd.func55 (by kernel_rfl) rfl #[.int .i64 a0_5] rfl (by (try simp only [List.map_toArray, List.map_cons, List.map_nil]); first | done | rfl | (simp only [List.length_drop, List.length_take]; rfl)) ?_; (with_reducible refine (spec_l00Digits.calls k a0_5 t222 _ A37.out).mono ?_); rintro e w49 ⟨rfl, hb⟩; refine ⟨_, rfl, ?_⟩; have n0_ := Aside0.mk (Kd.R_below (by (with_reducible repeat (first | apply Kd.R_alloc | apply Kd.R_drewN | apply Kd.R_drew)); exact HO215.out) hb); have n1_ := Aside0.mk (blk_below (g := gb212) (o := .cells #[.int .i64 a0_0, .int .i64 a0_1, .int .i64 a0_2, .int .i64 a0_3, .int .i64 a0_4, .int .i64 a0_5] 38 (0, 0)) (by (with_reducible repeat (first | refine blk_drewN ?_ _ | refine blk_drew ?_ | refine blk_alloc ?_ _)); exact BK212.out) hb); have n2_ := Aside0.mk (below_step (by repeat (first | (with_reducible first | exact HB.out | apply below_alloc | apply pw_below_drewN | apply below_drew1 | refine below_set ?_ GE212.out) | exact HB.out)) hb); clear HO215; clear BK212; clear HB; have HO215 := n0_; have BK212 := n1_; have HB := n2_; clear n0_ n1_ n2_; (try clear hb); (try clear hb2); (try clear hk); (try clear hi)))
                    go_ret
                    exact ⟨by first | rfl | (simp [errW_none, errW_some] <;> rfl) | (simp only [← hji2]; first | rfl | (simp [errW_none, errW_some] <;> rfl)) | (simp [*, errW_none, errW_some] <;> rfl), by repeat (first | (with_reducible first | exact HB.out | apply below_alloc | apply pw_below_drewN | apply below_drew1 | refine below_set ?_ GE212.out) | exact HB.out)⟩
                  · rw [if_neg c38] at H
                    exact absurd H (by simp)
                · rw [if_neg c36] at H
                  exact absurd H (by simp)
            · rw [if_neg c10] at H
              exact absurd H (by simp)
          · rw [if_neg c8] at H
            exact absurd H (by simp)
        · rw [if_neg c7] at H
          exact absurd H (by simp)
      · rw [if_neg c5] at H
        exact absurd H (by simp)
    · rw [if_neg c4] at H
      exact absurd H (by simp)
  · rw [if_neg c3] at H
    exact absurd H (by simp)

end Go.Proofs.YtkeoifkdejnpfaaDoor.G
