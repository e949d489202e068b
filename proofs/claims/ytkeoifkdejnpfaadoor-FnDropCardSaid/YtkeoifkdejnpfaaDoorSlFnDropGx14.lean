-- by gprint.py (a program of this session's own), over the kit's print.py; Lean checks it
import Derived.Test.YtkeoifkdejnpfaaDoorSlFnDropGx0
import Derived.Test.YtkeoifkdejnpfaaDoorSlFnDropGx1
import Derived.Test.YtkeoifkdejnpfaaDoorSlFnDropGx13
namespace Go.Proofs.YtkeoifkdejnpfaaDoor.G
open Go.RowKit Go.Proofs.YtkeoifkdejnpfaaDoorW.PrintWords Go.Proofs.YtkeoifkdejnpfaaDoorW.PrintLast Go.Proofs.YtkeoifkdejnpfaaDoorW.PrintMore
attribute [local go_sem] max2_int min2_int max_two min_two max_three min_three max_four min_four   -- for this text's walks alone
set_option linter.unusedVariables false
set_option linter.unusedSimpArgs false

/-! ### spec_l10Text: function 42 -/
def spec_l10Text.f (k : Nat) (a0_0 : Int) (a0_1 : Int) (a0_2 : Int) (a0_3 : Int) (a0_4 : Int) (a0_5 : Int) (l0_6 : List Int) : Option (ByteArray) := (spec_l00Digits.f k a0_1).bind fun t289 => (if 8 + t289.size ≤ 9223372036854775807 then (if ((⟨#[97, 114, 114, 105, 118, 101, 100, 32]⟩ : ByteArray) ++ t289).size + 6 ≤ 9223372036854775807 then ((spec_l00Digits.f k a0_2).bind fun t290 => (if (((⟨#[97, 114, 114, 105, 118, 101, 100, 32]⟩ : ByteArray) ++ t289) ++ (⟨#[32, 100, 111, 110, 101, 32]⟩ : ByteArray)).size + t290.size ≤ 9223372036854775807 then (if ((((⟨#[97, 114, 114, 105, 118, 101, 100, 32]⟩ : ByteArray) ++ t289) ++ (⟨#[32, 100, 111, 110, 101, 32]⟩ : ByteArray)) ++ t290).size + 11 ≤ 9223372036854775807 then ((spec_l00Digits.f k a0_3).bind fun t291 => (if (((((⟨#[97, 114, 114, 105, 118, 101, 100, 32]⟩ : ByteArray) ++ t289) ++ (⟨#[32, 100, 111, 110, 101, 32]⟩ : ByteArray)) ++ t290) ++ (⟨#[32, 116, 104, 114, 111, 116, 116, 108, 101, 100, 32]⟩ : ByteArray)).size + t291.size ≤ 9223372036854775807 then (if ((((((⟨#[97, 114, 114, 105, 118, 101, 100, 32]⟩ : ByteArray) ++ t289) ++ (⟨#[32, 100, 111, 110, 101, 32]⟩ : ByteArray)) ++ t290) ++ (⟨#[32, 116, 104, 114, 111, 116, 116, 108, 101, 100, 32]⟩ : ByteArray)) ++ t291).size + 6 ≤ 9223372036854775807 then ((spec_l00Digits.f k a0_4).bind fun t292 => (if (((((((⟨#[97, 114, 114, 105, 118, 101, 100, 32]⟩ : ByteArray) ++ t289) ++ (⟨#[32, 100, 111, 110, 101, 32]⟩ : ByteArray)) ++ t290) ++ (⟨#[32, 116, 104, 114, 111, 116, 116, 108, 101, 100, 32]⟩ : ByteArray)) ++ t291) ++ (⟨#[32, 108, 111, 115, 116, 32]⟩ : ByteArray)).size + t292.size ≤ 9223372036854775807 then (if ((((((((⟨#[97, 114, 114, 105, 118, 101, 100, 32]⟩ : ByteArray) ++ t289) ++ (⟨#[32, 100, 111, 110, 101, 32]⟩ : ByteArray)) ++ t290) ++ (⟨#[32, 116, 104, 114, 111, 116, 116, 108, 101, 100, 32]⟩ : ByteArray)) ++ t291) ++ (⟨#[32, 108, 111, 115, 116, 32]⟩ : ByteArray)) ++ t292).size + 9 ≤ 9223372036854775807 then ((spec_l00Digits.f k a0_5).bind fun t293 => (if (((((((((⟨#[97, 114, 114, 105, 118, 101, 100, 32]⟩ : ByteArray) ++ t289) ++ (⟨#[32, 100, 111, 110, 101, 32]⟩ : ByteArray)) ++ t290) ++ (⟨#[32, 116, 104, 114, 111, 116, 116, 108, 101, 100, 32]⟩ : ByteArray)) ++ t291) ++ (⟨#[32, 108, 111, 115, 116, 32]⟩ : ByteArray)) ++ t292) ++ (⟨#[32, 100, 114, 111, 112, 112, 101, 100, 32]⟩ : ByteArray)).size + t293.size ≤ 9223372036854775807 then (if ((((((((((⟨#[97, 114, 114, 105, 118, 101, 100, 32]⟩ : ByteArray) ++ t289) ++ (⟨#[32, 100, 111, 110, 101, 32]⟩ : ByteArray)) ++ t290) ++ (⟨#[32, 116, 104, 114, 111, 116, 116, 108, 101, 100, 32]⟩ : ByteArray)) ++ t291) ++ (⟨#[32, 108, 111, 115, 116, 32]⟩ : ByteArray)) ++ t292) ++ (⟨#[32, 100, 114, 111, 112, 112, 101, 100, 32]⟩ : ByteArray)) ++ t293).size + 9 ≤ 9223372036854775807 then ((spec_l00Digits.f k (l0_6.length : Int)).bind fun t294 => (if (((((((((((⟨#[97, 114, 114, 105, 118, 101, 100, 32]⟩ : ByteArray) ++ t289) ++ (⟨#[32, 100, 111, 110, 101, 32]⟩ : ByteArray)) ++ t290) ++ (⟨#[32, 116, 104, 114, 111, 116, 116, 108, 101, 100, 32]⟩ : ByteArray)) ++ t291) ++ (⟨#[32, 108, 111, 115, 116, 32]⟩ : ByteArray)) ++ t292) ++ (⟨#[32, 100, 114, 111, 112, 112, 101, 100, 32]⟩ : ByteArray)) ++ t293) ++ (⟨#[32, 119, 97, 105, 116, 105, 110, 103, 32]⟩ : ByteArray)).size + t294.size ≤ 9223372036854775807 then (some ((((((((((((⟨#[97, 114, 114, 105, 118, 101, 100, 32]⟩ : ByteArray) ++ t289) ++ (⟨#[32, 100, 111, 110, 101, 32]⟩ : ByteArray)) ++ t290) ++ (⟨#[32, 116, 104, 114, 111, 116, 116, 108, 101, 100, 32]⟩ : ByteArray)) ++ t291) ++ (⟨#[32, 108, 111, 115, 116, 32]⟩ : ByteArray)) ++ t292) ++ (⟨#[32, 100, 114, 111, 112, 112, 101, 100, 32]⟩ : ByteArray)) ++ t293) ++ (⟨#[32, 119, 97, 105, 116, 105, 110, 103, 32]⟩ : ByteArray)) ++ t294)) else (none))) else (none)) else (none))) else (none)) else (none))) else (none)) else (none))) else (none)) else (none))) else (none)) else (none))
theorem spec_l10Text.mono : ∀ a0 a1 a2 a3 a4 a5 a6 k, LeO (spec_l10Text.f k a0 a1 a2 a3 a4 a5 a6) (spec_l10Text.f (k + 1) a0 a1 a2 a3 a4 a5 a6) := by
  intro a0 a1 a2 a3 a4 a5 a6 k
  unfold spec_l10Text.f
  repeat' first
      | (with_reducible exact spec_l00Digits.mono _ _)
      | (with_reducible exact LeO.refl _)
      | (with_reducible exact LeO.none _)
      | (with_reducible refine LeO.ite ?_ ?_)
      | (with_reducible refine LeO.bind ?_ (fun _ => ?_))
      | exact spec_l00Digits.mono _ _
      | exact LeO.none _
      | refine LeO.ite ?_ ?_
      | refine LeO.bind ?_ (fun _ => ?_)
def spec_l10Text.T1 : Bool × List (List Nat × List Nat) := (true, [([], []), ([0], [0]), ([1], [1]), ([2], [2]), ([3], [3]), ([], []), ([5], [5]), ([6, 2], [6]), ([4, 7], [4, 7]), ([8], [8]), ([], []), ([10], [10]), ([11, 7], [11]), ([9, 12], [9, 12]), ([13], [13]), ([], []), ([15], [15]), ([16, 12], [16]), ([14, 17], [14, 17]), ([18], [18]), ([], []), ([20], [20]), ([21, 17], [21]), ([19, 22], [19, 22]), ([23], [23]), ([], []), ([25], [25]), ([26], [26]), ([27, 22], [27]), ([24, 28], [24, 28]), ([29, 28, 0, 1, 2, 3, 4, 5, 6, 7, 8, 9, 10, 11, 12, 13, 14, 15, 16, 17, 18, 19, 20, 21, 22, 23, 24, 25, 26, 27, 28, 29], [29])])
def spec_l10Text.B1 : List Nat := [0, 1, 3, 7, 15, 0, 32, 103, 255, 511, 0, 1024, 3303, 8191, 16383, 0, 32768, 105703, 262143, 524287, 0, 1048576, 3382503, 8388607, 16777215, 0, 33554432, 100663296, 242457831, 536870911, 1073741823]
theorem spec_l10Text.tab1 : rtab .any (opsOf Tryd.f42 1) = spec_l10Text.T1 := by kernel_rfl
theorem spec_l10Text.bits1 : waitsOk spec_l10Text.T1.2 spec_l10Text.B1 = true := by kernel_rfl
set_option maxHeartbeats 8000000 in
set_option maxRecDepth 100000 in
theorem spec_l10Text.calls (k : Nat) (a0_0 : Int) (a0_1 : Int) (a0_2 : Int) (a0_3 : Int) (a0_4 : Int) (a0_5 : Int) (A0_6 : Option Addr) (c0_6 : Nat) (l0_6 : List Int) (r : ByteArray) (w : World) (hr0_6 : Kd.C (Kd.int .i64) w A0_6 l0_6.length l0_6) (hc0_6 : l0_6.length ≤ c0_6) (h : spec_l10Text.f k a0_0 a0_1 a0_2 a0_3 a0_4 a0_5 l0_6 = some r) :
    Calls Tryd.prog 42 #[.agg #[.int .i64 a0_0, .int .i64 a0_1, .int .i64 a0_2, .int .i64 a0_3, .int .i64 a0_4, .int .i64 a0_5, .slice A0_6 l0_6.length c0_6]] w fun e w' => e = .returned (.string r) ∧ Below w.heap.size w w' := by
  have hu46 := Tryd.underlying46
  have HR0_6 := Aside0.mk hr0_6
  have HC0_6 := Aside0.mk hc0_6
  clear hr0_6 hc0_6
  have HB := Aside0.mk (Below.refl w.heap.size w)
  have H : ((spec_l00Digits.f k a0_1).bind fun t289 => (if 8 + t289.size ≤ 9223372036854775807 then (if ((⟨#[97, 114, 114, 105, 118, 101, 100, 32]⟩ : ByteArray) ++ t289).size + 6 ≤ 9223372036854775807 then ((spec_l00Digits.f k a0_2).bind fun t290 => (if (((⟨#[97, 114, 114, 105, 118, 101, 100, 32]⟩ : ByteArray) ++ t289) ++ (⟨#[32, 100, 111, 110, 101, 32]⟩ : ByteArray)).size + t290.size ≤ 9223372036854775807 then (if ((((⟨#[97, 114, 114, 105, 118, 101, 100, 32]⟩ : ByteArray) ++ t289) ++ (⟨#[32, 100, 111, 110, 101, 32]⟩ : ByteArray)) ++ t290).size + 11 ≤ 9223372036854775807 then ((spec_l00Digits.f k a0_3).bind fun t291 => (if (((((⟨#[97, 114, 114, 105, 118, 101, 100, 32]⟩ : ByteArray) ++ t289) ++ (⟨#[32, 100, 111, 110, 101, 32]⟩ : ByteArray)) ++ t290) ++ (⟨#[32, 116, 104, 114, 111, 116, 116, 108, 101, 100, 32]⟩ : ByteArray)).size + t291.size ≤ 9223372036854775807 then (if ((((((⟨#[97, 114, 114, 105, 118, 101, 100, 32]⟩ : ByteArray) ++ t289) ++ (⟨#[32, 100, 111, 110, 101, 32]⟩ : ByteArray)) ++ t290) ++ (⟨#[32, 116, 104, 114, 111, 116, 116, 108, 101, 100, 32]⟩ : ByteArray)) ++ t291).size + 6 ≤ 9223372036854775807 then ((spec_l00Digits.f k a0_4).bind fun t292 => (if (((((((⟨#[97, 114, 114, 105, 118, 101, 100, 32]⟩ : ByteArray) ++ t289) ++ (⟨#[32, 100, 111, 110, 101, 32]⟩ : ByteArray)) ++ t290) ++ (⟨#[32, 116, 104, 114, 111, 116, 116, 108, 101, 100, 32]⟩ : ByteArray)) ++ t291) ++ (⟨#[32, 108, 111, 115, 116, 32]⟩ : ByteArray)).size + t292.size ≤ 9223372036854775807 then (if ((((((((⟨#[97, 114, 114, 105, 118, 101, 100, 32]⟩ : ByteArray) ++ t289) ++ (⟨#[32, 100, 111, 110, 101, 32]⟩ : ByteArray)) ++ t290) ++ (⟨#[32, 116, 104, 114, 111, 116, 116, 108, 101, 100, 32]⟩ : ByteArray)) ++ t291) ++ (⟨#[32, 108, 111, 115, 116, 32]⟩ : ByteArray)) ++ t292).size + 9 ≤ 9223372036854775807 then ((spec_l00Digits.f k a0_5).bind fun t293 => (if (((((((((⟨#[97, 114, 114, 105, 118, 101, 100, 32]⟩ : ByteArray) ++ t289) ++ (⟨#[32, 100, 111, 110, 101, 32]⟩ : ByteArray)) ++ t290) ++ (⟨#[32, 116, 104, 114, 111, 116, 116, 108, 101, 100, 32]⟩ : ByteArray)) ++ t291) ++ (⟨#[32, 108, 111, 115, 116, 32]⟩ : ByteArray)) ++ t292) ++ (⟨#[32, 100, 114, 111, 112, 112, 101, 100, 32]⟩ : ByteArray)).size + t293.size ≤ 9223372036854775807 then (if ((((((((((⟨#[97, 114, 114, 105, 118, 101, 100, 32]⟩ : ByteArray) ++ t289) ++ (⟨#[32, 100, 111, 110, 101, 32]⟩ : ByteArray)) ++ t290) ++ (⟨#[32, 116, 104, 114, 111, 116, 116, 108, 101, 100, 32]⟩ : ByteArray)) ++ t291) ++ (⟨#[32, 108, 111, 115, 116, 32]⟩ : ByteArray)) ++ t292) ++ (⟨#[32, 100, 114, 111, 112, 112, 101, 100, 32]⟩ : ByteArray)) ++ t293).size + 9 ≤ 9223372036854775807 then ((spec_l00Digits.f k (l0_6.length : Int)).bind fun t294 => (if (((((((((((⟨#[97, 114, 114, 105, 118, 101, 100, 32]⟩ : ByteArray) ++ t289) ++ (⟨#[32, 100, 111, 110, 101, 32]⟩ : ByteArray)) ++ t290) ++ (⟨#[32, 116, 104, 114, 111, 116, 116, 108, 101, 100, 32]⟩ : ByteArray)) ++ t291) ++ (⟨#[32, 108, 111, 115, 116, 32]⟩ : ByteArray)) ++ t292) ++ (⟨#[32, 100, 114, 111, 112, 112, 101, 100, 32]⟩ : ByteArray)) ++ t293) ++ (⟨#[32, 119, 97, 105, 116, 105, 110, 103, 32]⟩ : ByteArray)).size + t294.size ≤ 9223372036854775807 then (some ((((((((((((⟨#[97, 114, 114, 105, 118, 101, 100, 32]⟩ : ByteArray) ++ t289) ++ (⟨#[32, 100, 111, 110, 101, 32]⟩ : ByteArray)) ++ t290) ++ (⟨#[32, 116, 104, 114, 111, 116, 116, 108, 101, 100, 32]⟩ : ByteArray)) ++ t291) ++ (⟨#[32, 108, 111, 115, 116, 32]⟩ : ByteArray)) ++ t292) ++ (⟨#[32, 100, 114, 111, 112, 112, 101, 100, 32]⟩ : ByteArray)) ++ t293) ++ (⟨#[32, 119, 97, 105, 116, 105, 110, 103, 32]⟩ : ByteArray)) ++ t294)) else (none))) else (none)) else (none))) else (none)) else (none))) else (none)) else (none))) else (none)) else (none))) else (none)) else (none))) = some r := h
  clear h
  replace H := Option.bind_eq_some_iff.mp H
  obtain ⟨t289, A20, H⟩ := H
  replace H : (if 8 + t289.size ≤ 9223372036854775807 then (if ((⟨#[97, 114, 114, 105, 118, 101, 100, 32]⟩ : ByteArray) ++ t289).size + 6 ≤ 9223372036854775807 then ((spec_l00Digits.f k a0_2).bind fun t290 => (if (((⟨#[97, 114, 114, 105, 118, 101, 100, 32]⟩ : ByteArray) ++ t289) ++ (⟨#[32, 100, 111, 110, 101, 32]⟩ : ByteArray)).size + t290.size ≤ 9223372036854775807 then (if ((((⟨#[97, 114, 114, 105, 118, 101, 100, 32]⟩ : ByteArray) ++ t289) ++ (⟨#[32, 100, 111, 110, 101, 32]⟩ : ByteArray)) ++ t290).size + 11 ≤ 9223372036854775807 then ((spec_l00Digits.f k a0_3).bind fun t291 => (if (((((⟨#[97, 114, 114, 105, 118, 101, 100, 32]⟩ : ByteArray) ++ t289) ++ (⟨#[32, 100, 111, 110, 101, 32]⟩ : ByteArray)) ++ t290) ++ (⟨#[32, 116, 104, 114, 111, 116, 116, 108, 101, 100, 32]⟩ : ByteArray)).size + t291.size ≤ 9223372036854775807 then (if ((((((⟨#[97, 114, 114, 105, 118, 101, 100, 32]⟩ : ByteArray) ++ t289) ++ (⟨#[32, 100, 111, 110, 101, 32]⟩ : ByteArray)) ++ t290) ++ (⟨#[32, 116, 104, 114, 111, 116, 116, 108, 101, 100, 32]⟩ : ByteArray)) ++ t291).size + 6 ≤ 9223372036854775807 then ((spec_l00Digits.f k a0_4).bind fun t292 => (if (((((((⟨#[97, 114, 114, 105, 118, 101, 100, 32]⟩ : ByteArray) ++ t289) ++ (⟨#[32, 100, 111, 110, 101, 32]⟩ : ByteArray)) ++ t290) ++ (⟨#[32, 116, 104, 114, 111, 116, 116, 108, 101, 100, 32]⟩ : ByteArray)) ++ t291) ++ (⟨#[32, 108, 111, 115, 116, 32]⟩ : ByteArray)).size + t292.size ≤ 9223372036854775807 then (if ((((((((⟨#[97, 114, 114, 105, 118, 101, 100, 32]⟩ : ByteArray) ++ t289) ++ (⟨#[32, 100, 111, 110, 101, 32]⟩ : ByteArray)) ++ t290) ++ (⟨#[32, 116, 104, 114, 111, 116, 116, 108, 101, 100, 32]⟩ : ByteArray)) ++ t291) ++ (⟨#[32, 108, 111, 115, 116, 32]⟩ : ByteArray)) ++ t292).size + 9 ≤ 9223372036854775807 then ((spec_l00Digits.f k a0_5).bind fun t293 => (if (((((((((⟨#[97, 114, 114, 105, 118, 101, 100, 32]⟩ : ByteArray) ++ t289) ++ (⟨#[32, 100, 111, 110, 101, 32]⟩ : ByteArray)) ++ t290) ++ (⟨#[32, 116, 104, 114, 111, 116, 116, 108, 101, 100, 32]⟩ : ByteArray)) ++ t291) ++ (⟨#[32, 108, 111, 115, 116, 32]⟩ : ByteArray)) ++ t292) ++ (⟨#[32, 100, 114, 111, 112, 112, 101, 100, 32]⟩ : ByteArray)).size + t293.size ≤ 9223372036854775807 then (if ((((((((((⟨#[97, 114, 114, 105, 118, 101, 100, 32]⟩ : ByteArray) ++ t289) ++ (⟨#[32, 100, 111, 110, 101, 32]⟩ : ByteArray)) ++ t290) ++ (⟨#[32, 116, 104, 114, 111, 116, 116, 108, 101, 100, 32]⟩ : ByteArray)) ++ t291) ++ (⟨#[32, 108, 111, 115, 116, 32]⟩ : ByteArray)) ++ t292) ++ (⟨#[32, 100, 114, 111, 112, 112, 101, 100, 32]⟩ : ByteArray)) ++ t293).size + 9 ≤ 9223372036854775807 then ((spec_l00Digits.f k (l0_6.length : Int)).bind fun t294 => (if (((((((((((⟨#[97, 114, 114, 105, 118, 101, 100, 32]⟩ : ByteArray) ++ t289) ++ (⟨#[32, 100, 111, 110, 101, 32]⟩ : ByteArray)) ++ t290) ++ (⟨#[32, 116, 104, 114, 111, 116, 116, 108, 101, 100, 32]⟩ : ByteArray)) ++ t291) ++ (⟨#[32, 108, 111, 115, 116, 32]⟩ : ByteArray)) ++ t292) ++ (⟨#[32, 100, 114, 111, 112, 112, 101, 100, 32]⟩ : ByteArray)) ++ t293) ++ (⟨#[32, 119, 97, 105, 116, 105, 110, 103, 32]⟩ : ByteArray)).size + t294.size ≤ 9223372036854775807 then (some ((((((((((((⟨#[97, 114, 114, 105, 118, 101, 100, 32]⟩ : ByteArray) ++ t289) ++ (⟨#[32, 100, 111, 110, 101, 32]⟩ : ByteArray)) ++ t290) ++ (⟨#[32, 116, 104, 114, 111, 116, 116, 108, 101, 100, 32]⟩ : ByteArray)) ++ t291) ++ (⟨#[32, 108, 111, 115, 116, 32]⟩ : ByteArray)) ++ t292) ++ (⟨#[32, 100, 114, 111, 112, 112, 101, 100, 32]⟩ : ByteArray)) ++ t293) ++ (⟨#[32, 119, 97, 105, 116, 105, 110, 103, 32]⟩ : ByteArray)) ++ t294)) else (none))) else (none)) else (none))) else (none)) else (none))) else (none)) else (none))) else (none)) else (none))) else (none)) else (none)) = some r := H
  have A2 := Aside0.mk A20
  clear A20
  by_cases c3 : 8 + t289.size ≤ 9223372036854775807
  · rw [if_pos c3] at H
    have c3b0 := eq_true c3
    have c3b1 : decide (8 + t289.size ≤ 9223372036854775807) = true := decide_eq_true c3
    try have c3b2 : (9223372036854775807 < 8 + t289.size) = False := eq_false (Nat.not_lt.2 c3)
    by_cases c4 : ((⟨#[97, 114, 114, 105, 118, 101, 100, 32]⟩ : ByteArray) ++ t289).size + 6 ≤ 9223372036854775807
    · rw [if_pos c4] at H
      have c4b0 := eq_true c4
      have c4b1 : decide (((⟨#[97, 114, 114, 105, 118, 101, 100, 32]⟩ : ByteArray) ++ t289).size + 6 ≤ 9223372036854775807) = true := decide_eq_true c4
      try have c4b2 : (9223372036854775807 < ((⟨#[97, 114, 114, 105, 118, 101, 100, 32]⟩ : ByteArray) ++ t289).size + 6) = False := eq_false (Nat.not_lt.2 c4)
      try (have c4b3 := c4b2; simp only [ByteArray.size_append] at c4b3)
      try (have c4b4 : (9223372036854775807 < 8 + t289.size + 6) = False := by have h_ := c4b2; simp only [ByteArray.size_append] at h_; exact h_)
      replace H := Option.bind_eq_some_iff.mp H
      obtain ⟨t290, A50, H⟩ := H
      replace H : (if (((⟨#[97, 114, 114, 105, 118, 101, 100, 32]⟩ : ByteArray) ++ t289) ++ (⟨#[32, 100, 111, 110, 101, 32]⟩ : ByteArray)).size + t290.size ≤ 9223372036854775807 then (if ((((⟨#[97, 114, 114, 105, 118, 101, 100, 32]⟩ : ByteArray) ++ t289) ++ (⟨#[32, 100, 111, 110, 101, 32]⟩ : ByteArray)) ++ t290).size + 11 ≤ 9223372036854775807 then ((spec_l00Digits.f k a0_3).bind fun t291 => (if (((((⟨#[97, 114, 114, 105, 118, 101, 100, 32]⟩ : ByteArray) ++ t289) ++ (⟨#[32, 100, 111, 110, 101, 32]⟩ : ByteArray)) ++ t290) ++ (⟨#[32, 116, 104, 114, 111, 116, 116, 108, 101, 100, 32]⟩ : ByteArray)).size + t291.size ≤ 9223372036854775807 then (if ((((((⟨#[97, 114, 114, 105, 118, 101, 100, 32]⟩ : ByteArray) ++ t289) ++ (⟨#[32, 100, 111, 110, 101, 32]⟩ : ByteArray)) ++ t290) ++ (⟨#[32, 116, 104, 114, 111, 116, 116, 108, 101, 100, 32]⟩ : ByteArray)) ++ t291).size + 6 ≤ 9223372036854775807 then ((spec_l00Digits.f k a0_4).bind fun t292 => (if (((((((⟨#[97, 114, 114, 105, 118, 101, 100, 32]⟩ : ByteArray) ++ t289) ++ (⟨#[32, 100, 111, 110, 101, 32]⟩ : ByteArray)) ++ t290) ++ (⟨#[32, 116, 104, 114, 111, 116, 116, 108, 101, 100, 32]⟩ : ByteArray)) ++ t291) ++ (⟨#[32, 108, 111, 115, 116, 32]⟩ : ByteArray)).size + t292.size ≤ 9223372036854775807 then (if ((((((((⟨#[97, 114, 114, 105, 118, 101, 100, 32]⟩ : ByteArray) ++ t289) ++ (⟨#[32, 100, 111, 110, 101, 32]⟩ : ByteArray)) ++ t290) ++ (⟨#[32, 116, 104, 114, 111, 116, 116, 108, 101, 100, 32]⟩ : ByteArray)) ++ t291) ++ (⟨#[32, 108, 111, 115, 116, 32]⟩ : ByteArray)) ++ t292).size + 9 ≤ 9223372036854775807 then ((spec_l00Digits.f k a0_5).bind fun t293 => (if (((((((((⟨#[97, 114, 114, 105, 118, 101, 100, 32]⟩ : ByteArray) ++ t289) ++ (⟨#[32, 100, 111, 110, 101, 32]⟩ : ByteArray)) ++ t290) ++ (⟨#[32, 116, 104, 114, 111, 116, 116, 108, 101, 100, 32]⟩ : ByteArray)) ++ t291) ++ (⟨#[32, 108, 111, 115, 116, 32]⟩ : ByteArray)) ++ t292) ++ (⟨#[32, 100, 114, 111, 112, 112, 101, 100, 32]⟩ : ByteArray)).size + t293.size ≤ 9223372036854775807 then (if ((((((((((⟨#[97, 114, 114, 105, 118, 101, 100, 32]⟩ : ByteArray) ++ t289) ++ (⟨#[32, 100, 111, 110, 101, 32]⟩ : ByteArray)) ++ t290) ++ (⟨#[32, 116, 104, 114, 111, 116, 116, 108, 101, 100, 32]⟩ : ByteArray)) ++ t291) ++ (⟨#[32, 108, 111, 115, 116, 32]⟩ : ByteArray)) ++ t292) ++ (⟨#[32, 100, 114, 111, 112, 112, 101, 100, 32]⟩ : ByteArray)) ++ t293).size + 9 ≤ 9223372036854775807 then ((spec_l00Digits.f k (l0_6.length : Int)).bind fun t294 => (if (((((((((((⟨#[97, 114, 114, 105, 118, 101, 100, 32]⟩ : ByteArray) ++ t289) ++ (⟨#[32, 100, 111, 110, 101, 32]⟩ : ByteArray)) ++ t290) ++ (⟨#[32, 116, 104, 114, 111, 116, 116, 108, 101, 100, 32]⟩ : ByteArray)) ++ t291) ++ (⟨#[32, 108, 111, 115, 116, 32]⟩ : ByteArray)) ++ t292) ++ (⟨#[32, 100, 114, 111, 112, 112, 101, 100, 32]⟩ : ByteArray)) ++ t293) ++ (⟨#[32, 119, 97, 105, 116, 105, 110, 103, 32]⟩ : ByteArray)).size + t294.size ≤ 9223372036854775807 then (some ((((((((((((⟨#[97, 114, 114, 105, 118, 101, 100, 32]⟩ : ByteArray) ++ t289) ++ (⟨#[32, 100, 111, 110, 101, 32]⟩ : ByteArray)) ++ t290) ++ (⟨#[32, 116, 104, 114, 111, 116, 116, 108, 101, 100, 32]⟩ : ByteArray)) ++ t291) ++ (⟨#[32, 108, 111, 115, 116, 32]⟩ : ByteArray)) ++ t292) ++ (⟨#[32, 100, 114, 111, 112, 112, 101, 100, 32]⟩ : ByteArray)) ++ t293) ++ (⟨#[32, 119, 97, 105, 116, 105, 110, 103, 32]⟩ : ByteArray)) ++ t294)) else (none))) else (none)) else (none))) else (none)) else (none))) else (none)) else (none))) else (none)) else (none)) = some r := H
      have A5 := Aside0.mk A50
      clear A50
      by_cases c6 : (((⟨#[97, 114, 114, 105, 118, 101, 100, 32]⟩ : ByteArray) ++ t289) ++ (⟨#[32, 100, 111, 110, 101, 32]⟩ : ByteArray)).size + t290.size ≤ 9223372036854775807
      · rw [if_pos c6] at H
        have c6b0 := eq_true c6
        have c6b1 : decide ((((⟨#[97, 114, 114, 105, 118, 101, 100, 32]⟩ : ByteArray) ++ t289) ++ (⟨#[32, 100, 111, 110, 101, 32]⟩ : ByteArray)).size + t290.size ≤ 9223372036854775807) = true := decide_eq_true c6
        try have c6b2 : (9223372036854775807 < (((⟨#[97, 114, 114, 105, 118, 101, 100, 32]⟩ : ByteArray) ++ t289) ++ (⟨#[32, 100, 111, 110, 101, 32]⟩ : ByteArray)).size + t290.size) = False := eq_false (Nat.not_lt.2 c6)
        try (have c6b3 := c6b2; simp only [ByteArray.size_append] at c6b3)
        try (have c6b4 : (9223372036854775807 < 8 + t289.size + 6 + t290.size) = False := by have h_ := c6b2; simp only [ByteArray.size_append] at h_; exact h_)
        by_cases c7 : ((((⟨#[97, 114, 114, 105, 118, 101, 100, 32]⟩ : ByteArray) ++ t289) ++ (⟨#[32, 100, 111, 110, 101, 32]⟩ : ByteArray)) ++ t290).size + 11 ≤ 9223372036854775807
        · rw [if_pos c7] at H
          have c7b0 := eq_true c7
          have c7b1 : decide (((((⟨#[97, 114, 114, 105, 118, 101, 100, 32]⟩ : ByteArray) ++ t289) ++ (⟨#[32, 100, 111, 110, 101, 32]⟩ : ByteArray)) ++ t290).size + 11 ≤ 9223372036854775807) = true := decide_eq_true c7
          try have c7b2 : (9223372036854775807 < ((((⟨#[97, 114, 114, 105, 118, 101, 100, 32]⟩ : ByteArray) ++ t289) ++ (⟨#[32, 100, 111, 110, 101, 32]⟩ : ByteArray)) ++ t290).size + 11) = False := eq_false (Nat.not_lt.2 c7)
          try (have c7b3 := c7b2; simp only [ByteArray.size_append] at c7b3)
          try (have c7b4 : (9223372036854775807 < 8 + t289.size + 6 + t290.size + 11) = False := by have h_ := c7b2; simp only [ByteArray.size_append] at h_; exact h_)
          replace H := Option.bind_eq_some_iff.mp H
          obtain ⟨t291, A80, H⟩ := H
          replace H : (if (((((⟨#[97, 114, 114, 105, 118, 101, 100, 32]⟩ : ByteArray) ++ t289) ++ (⟨#[32, 100, 111, 110, 101, 32]⟩ : ByteArray)) ++ t290) ++ (⟨#[32, 116, 104, 114, 111, 116, 116, 108, 101, 100, 32]⟩ : ByteArray)).size + t291.size ≤ 9223372036854775807 then (if ((((((⟨#[97, 114, 114, 105, 118, 101, 100, 32]⟩ : ByteArray) ++ t289) ++ (⟨#[32, 100, 111, 110, 101, 32]⟩ : ByteArray)) ++ t290) ++ (⟨#[32, 116, 104, 114, 111, 116, 116, 108, 101, 100, 32]⟩ : ByteArray)) ++ t291).size + 6 ≤ 9223372036854775807 then ((spec_l00Digits.f k a0_4).bind fun t292 => (if (((((((⟨#[97, 114, 114, 105, 118, 101, 100, 32]⟩ : ByteArray) ++ t289) ++ (⟨#[32, 100, 111, 110, 101, 32]⟩ : ByteArray)) ++ t290) ++ (⟨#[32, 116, 104, 114, 111, 116, 116, 108, 101, 100, 32]⟩ : ByteArray)) ++ t291) ++ (⟨#[32, 108, 111, 115, 116, 32]⟩ : ByteArray)).size + t292.size ≤ 9223372036854775807 then (if ((((((((⟨#[97, 114, 114, 105, 118, 101, 100, 32]⟩ : ByteArray) ++ t289) ++ (⟨#[32, 100, 111, 110, 101, 32]⟩ : ByteArray)) ++ t290) ++ (⟨#[32, 116, 104, 114, 111, 116, 116, 108, 101, 100, 32]⟩ : ByteArray)) ++ t291) ++ (⟨#[32, 108, 111, 115, 116, 32]⟩ : ByteArray)) ++ t292).size + 9 ≤ 9223372036854775807 then ((spec_l00Digits.f k a0_5).bind fun t293 => (if (((((((((⟨#[97, 114, 114, 105, 118, 101, 100, 32]⟩ : ByteArray) ++ t289) ++ (⟨#[32, 100, 111, 110, 101, 32]⟩ : ByteArray)) ++ t290) ++ (⟨#[32, 116, 104, 114, 111, 116, 116, 108, 101, 100, 32]⟩ : ByteArray)) ++ t291) ++ (⟨#[32, 108, 111, 115, 116, 32]⟩ : ByteArray)) ++ t292) ++ (⟨#[32, 100, 114, 111, 112, 112, 101, 100, 32]⟩ : ByteArray)).size + t293.size ≤ 9223372036854775807 then (if ((((((((((⟨#[97, 114, 114, 105, 118, 101, 100, 32]⟩ : ByteArray) ++ t289) ++ (⟨#[32, 100, 111, 110, 101, 32]⟩ : ByteArray)) ++ t290) ++ (⟨#[32, 116, 104, 114, 111, 116, 116, 108, 101, 100, 32]⟩ : ByteArray)) ++ t291) ++ (⟨#[32, 108, 111, 115, 116, 32]⟩ : ByteArray)) ++ t292) ++ (⟨#[32, 100, 114, 111, 112, 112, 101, 100, 32]⟩ : ByteArray)) ++ t293).size + 9 ≤ 9223372036854775807 then ((spec_l00Digits.f k (l0_6.length : Int)).bind fun t294 => (if (((((((((((⟨#[97, 114, 114, 105, 118, 101, 100, 32]⟩ : ByteArray) ++ t289) ++ (⟨#[32, 100, 111, 110, 101, 32]⟩ : ByteArray)) ++ t290) ++ (⟨#[32, 116, 104, 114, 111, 116, 116, 108, 101, 100, 32]⟩ : ByteArray)) ++ t291) ++ (⟨#[32, 108, 111, 115, 116, 32]⟩ : ByteArray)) ++ t292) ++ (⟨#[32, 100, 114, 111, 112, 112, 101, 100, 32]⟩ : ByteArray)) ++ t293) ++ (⟨#[32, 119, 97, 105, 116, 105, 110, 103, 32]⟩ : ByteArray)).size + t294.size ≤ 9223372036854775807 then (some ((((((((((((⟨#[97, 114, 114, 105, 118, 101, 100, 32]⟩ : ByteArray) ++ t289) ++ (⟨#[32, 100, 111, 110, 101, 32]⟩ : ByteArray)) ++ t290) ++ (⟨#[32, 116, 104, 114, 111, 116, 116, 108, 101, 100, 32]⟩ : ByteArray)) ++ t291) ++ (⟨#[32, 108, 111, 115, 116, 32]⟩ : ByteArray)) ++ t292) ++ (⟨#[32, 100, 114, 111, 112, 112, 101, 100, 32]⟩ : ByteArray)) ++ t293) ++ (⟨#[32, 119, 97, 105, 116, 105, 110, 103, 32]⟩ : ByteArray)) ++ t294)) else (none))) else (none)) else (none))) else (none)) else (none))) else (none)) else (none)) = some r := H
          have A8 := Aside0.mk A80
          clear A80
          by_cases c9 : (((((⟨#[97, 114, 114, 105, 118, 101, 100, 32]⟩ : ByteArray) ++ t289) ++ (⟨#[32, 100, 111, 110, 101, 32]⟩ : ByteArray)) ++ t290) ++ (⟨#[32, 116, 104, 114, 111, 116, 116, 108, 101, 100, 32]⟩ : ByteArray)).size + t291.size ≤ 9223372036854775807
          · rw [if_pos c9] at H
            have c9b0 := eq_true c9
            have c9b1 : decide ((((((⟨#[97, 114, 114, 105, 118, 101, 100, 32]⟩ : ByteArray) ++ t289) ++ (⟨#[32, 100, 111, 110, 101, 32]⟩ : ByteArray)) ++ t290) ++ (⟨#[32, 116, 104, 114, 111, 116, 116, 108, 101, 100, 32]⟩ : ByteArray)).size + t291.size ≤ 9223372036854775807) = true := decide_eq_true c9
            try have c9b2 : (9223372036854775807 < (((((⟨#[97, 114, 114, 105, 118, 101, 100, 32]⟩ : ByteArray) ++ t289) ++ (⟨#[32, 100, 111, 110, 101, 32]⟩ : ByteArray)) ++ t290) ++ (⟨#[32, 116, 104, 114, 111, 116, 116, 108, 101, 100, 32]⟩ : ByteArray)).size + t291.size) = False := eq_false (Nat.not_lt.2 c9)
            try (have c9b3 := c9b2; simp only [ByteArray.size_append] at c9b3)
            try (have c9b4 : (9223372036854775807 < 8 + t289.size + 6 + t290.size + 11 + t291.size) = False := by have h_ := c9b2; simp only [ByteArray.size_append] at h_; exact h_)
            by_cases c10 : ((((((⟨#[97, 114, 114, 105, 118, 101, 100, 32]⟩ : ByteArray) ++ t289) ++ (⟨#[32, 100, 111, 110, 101, 32]⟩ : ByteArray)) ++ t290) ++ (⟨#[32, 116, 104, 114, 111, 116, 116, 108, 101, 100, 32]⟩ : ByteArray)) ++ t291).size + 6 ≤ 9223372036854775807
            · rw [if_pos c10] at H
              have c10b0 := eq_true c10
              have c10b1 : decide (((((((⟨#[97, 114, 114, 105, 118, 101, 100, 32]⟩ : ByteArray) ++ t289) ++ (⟨#[32, 100, 111, 110, 101, 32]⟩ : ByteArray)) ++ t290) ++ (⟨#[32, 116, 104, 114, 111, 116, 116, 108, 101, 100, 32]⟩ : ByteArray)) ++ t291).size + 6 ≤ 9223372036854775807) = true := decide_eq_true c10
              try have c10b2 : (9223372036854775807 < ((((((⟨#[97, 114, 114, 105, 118, 101, 100, 32]⟩ : ByteArray) ++ t289) ++ (⟨#[32, 100, 111, 110, 101, 32]⟩ : ByteArray)) ++ t290) ++ (⟨#[32, 116, 104, 114, 111, 116, 116, 108, 101, 100, 32]⟩ : ByteArray)) ++ t291).size + 6) = False := eq_false (Nat.not_lt.2 c10)
              try (have c10b3 := c10b2; simp only [ByteArray.size_append] at c10b3)
              try (have c10b4 : (9223372036854775807 < 8 + t289.size + 6 + t290.size + 11 + t291.size + 6) = False := by have h_ := c10b2; simp only [ByteArray.size_append] at h_; exact h_)
              replace H := Option.bind_eq_some_iff.mp H
              obtain ⟨t292, A110, H⟩ := H
              replace H : (if (((((((⟨#[97, 114, 114, 105, 118, 101, 100, 32]⟩ : ByteArray) ++ t289) ++ (⟨#[32, 100, 111, 110, 101, 32]⟩ : ByteArray)) ++ t290) ++ (⟨#[32, 116, 104, 114, 111, 116, 116, 108, 101, 100, 32]⟩ : ByteArray)) ++ t291) ++ (⟨#[32, 108, 111, 115, 116, 32]⟩ : ByteArray)).size + t292.size ≤ 9223372036854775807 then (if ((((((((⟨#[97, 114, 114, 105, 118, 101, 100, 32]⟩ : ByteArray) ++ t289) ++ (⟨#[32, 100, 111, 110, 101, 32]⟩ : ByteArray)) ++ t290) ++ (⟨#[32, 116, 104, 114, 111, 116, 116, 108, 101, 100, 32]⟩ : ByteArray)) ++ t291) ++ (⟨#[32, 108, 111, 115, 116, 32]⟩ : ByteArray)) ++ t292).size + 9 ≤ 9223372036854775807 then ((spec_l00Digits.f k a0_5).bind fun t293 => (if (((((((((⟨#[97, 114, 114, 105, 118, 101, 100, 32]⟩ : ByteArray) ++ t289) ++ (⟨#[32, 100, 111, 110, 101, 32]⟩ : ByteArray)) ++ t290) ++ (⟨#[32, 116, 104, 114, 111, 116, 116, 108, 101, 100, 32]⟩ : ByteArray)) ++ t291) ++ (⟨#[32, 108, 111, 115, 116, 32]⟩ : ByteArray)) ++ t292) ++ (⟨#[32, 100, 114, 111, 112, 112, 101, 100, 32]⟩ : ByteArray)).size + t293.size ≤ 9223372036854775807 then (if ((((((((((⟨#[97, 114, 114, 105, 118, 101, 100, 32]⟩ : ByteArray) ++ t289) ++ (⟨#[32, 100, 111, 110, 101, 32]⟩ : ByteArray)) ++ t290) ++ (⟨#[32, 116, 104, 114, 111, 116, 116, 108, 101, 100, 32]⟩ : ByteArray)) ++ t291) ++ (⟨#[32, 108, 111, 115, 116, 32]⟩ : ByteArray)) ++ t292) ++ (⟨#[32, 100, 114, 111, 112, 112, 101, 100, 32]⟩ : ByteArray)) ++ t293).size + 9 ≤ 9223372036854775807 then ((spec_l00Digits.f k (l0_6.length : Int)).bind fun t294 => (if (((((((((((⟨#[97, 114, 114, 105, 118, 101, 100, 32]⟩ : ByteArray) ++ t289) ++ (⟨#[32, 100, 111, 110, 101, 32]⟩ : ByteArray)) ++ t290) ++ (⟨#[32, 116, 104, 114, 111, 116, 116, 108, 101, 100, 32]⟩ : ByteArray)) ++ t291) ++ (⟨#[32, 108, 111, 115, 116, 32]⟩ : ByteArray)) ++ t292) ++ (⟨#[32, 100, 114, 111, 112, 112, 101, 100, 32]⟩ : ByteArray)) ++ t293) ++ (⟨#[32, 119, 97, 105, 116, 105, 110, 103, 32]⟩ : ByteArray)).size + t294.size ≤ 9223372036854775807 then (some ((((((((((((⟨#[97, 114, 114, 105, 118, 101, 100, 32]⟩ : ByteArray) ++ t289) ++ (⟨#[32, 100, 111, 110, 101, 32]⟩ : ByteArray)) ++ t290) ++ (⟨#[32, 116, 104, 114, 111, 116, 116, 108, 101, 100, 32]⟩ : ByteArray)) ++ t291) ++ (⟨#[32, 108, 111, 115, 116, 32]⟩ : ByteArray)) ++ t292) ++ (⟨#[32, 100, 114, 111, 112, 112, 101, 100, 32]⟩ : ByteArray)) ++ t293) ++ (⟨#[32, 119, 97, 105, 116, 105, 110, 103, 32]⟩ : ByteArray)) ++ t294)) else (none))) else (none)) else (none))) else (none)) else (none)) = some r := H
              have A11 := Aside0.mk A110
              clear A110
              by_cases c12 : (((((((⟨#[97, 114, 114, 105, 118, 101, 100, 32]⟩ : ByteArray) ++ t289) ++ (⟨#[32, 100, 111, 110, 101, 32]⟩ : ByteArray)) ++ t290) ++ (⟨#[32, 116, 104, 114, 111, 116, 116, 108, 101, 100, 32]⟩ : ByteArray)) ++ t291) ++ (⟨#[32, 108, 111, 115, 116, 32]⟩ : ByteArray)).size + t292.size ≤ 9223372036854775807
              · rw [if_pos c12] at H
                have c12b0 := eq_true c12
                have c12b1 : decide ((((((((⟨#[97, 114, 114, 105, 118, 101, 100, 32]⟩ : ByteArray) ++ t289) ++ (⟨#[32, 100, 111, 110, 101, 32]⟩ : ByteArray)) ++ t290) ++ (⟨#[32, 116, 104, 114, 111, 116, 116, 108, 101, 100, 32]⟩ : ByteArray)) ++ t291) ++ (⟨#[32, 108, 111, 115, 116, 32]⟩ : ByteArray)).size + t292.size ≤ 9223372036854775807) = true := decide_eq_true c12
                try have c12b2 : (9223372036854775807 < (((((((⟨#[97, 114, 114, 105, 118, 101, 100, 32]⟩ : ByteArray) ++ t289) ++ (⟨#[32, 100, 111, 110, 101, 32]⟩ : ByteArray)) ++ t290) ++ (⟨#[32, 116, 104, 114, 111, 116, 116, 108, 101, 100, 32]⟩ : ByteArray)) ++ t291) ++ (⟨#[32, 108, 111, 115, 116, 32]⟩ : ByteArray)).size + t292.size) = False := eq_false (Nat.not_lt.2 c12)
                try (have c12b3 := c12b2; simp only [ByteArray.size_append] at c12b3)
                try (have c12b4 : (9223372036854775807 < 8 + t289.size + 6 + t290.size + 11 + t291.size + 6 + t292.size) = False := by have h_ := c12b2; simp only [ByteArray.size_append] at h_; exact h_)
                by_cases c13 : ((((((((⟨#[97, 114, 114, 105, 118, 101, 100, 32]⟩ : ByteArray) ++ t289) ++ (⟨#[32, 100, 111, 110, 101, 32]⟩ : ByteArray)) ++ t290) ++ (⟨#[32, 116, 104, 114, 111, 116, 116, 108, 101, 100, 32]⟩ : ByteArray)) ++ t291) ++ (⟨#[32, 108, 111, 115, 116, 32]⟩ : ByteArray)) ++ t292).size + 9 ≤ 9223372036854775807
                · rw [if_pos c13] at H
                  have c13b0 := eq_true c13
                  have c13b1 : decide (((((((((⟨#[97, 114, 114, 105, 118, 101, 100, 32]⟩ : ByteArray) ++ t289) ++ (⟨#[32, 100, 111, 110, 101, 32]⟩ : ByteArray)) ++ t290) ++ (⟨#[32, 116, 104, 114, 111, 116, 116, 108, 101, 100, 32]⟩ : ByteArray)) ++ t291) ++ (⟨#[32, 108, 111, 115, 116, 32]⟩ : ByteArray)) ++ t292).size + 9 ≤ 9223372036854775807) = true := decide_eq_true c13
                  try have c13b2 : (9223372036854775807 < ((((((((⟨#[97, 114, 114, 105, 118, 101, 100, 32]⟩ : ByteArray) ++ t289) ++ (⟨#[32, 100, 111, 110, 101, 32]⟩ : ByteArray)) ++ t290) ++ (⟨#[32, 116, 104, 114, 111, 116, 116, 108, 101, 100, 32]⟩ : ByteArray)) ++ t291) ++ (⟨#[32, 108, 111, 115, 116, 32]⟩ : ByteArray)) ++ t292).size + 9) = False := eq_false (Nat.not_lt.2 c13)
                  try (have c13b3 := c13b2; simp only [ByteArray.size_append] at c13b3)
                  try (have c13b4 : (9223372036854775807 < 8 + t289.size + 6 + t290.size + 11 + t291.size + 6 + t292.size + 9) = False := by have h_ := c13b2; simp only [ByteArray.size_append] at h_; exact h_)
                  replace H := Option.bind_eq_some_iff.mp H
                  obtain ⟨t293, A140, H⟩ := H
                  replace H : (if (((((((((⟨#[97, 114, 114, 105, 118, 101, 100, 32]⟩ : ByteArray) ++ t289) ++ (⟨#[32, 100, 111, 110, 101, 32]⟩ : ByteArray)) ++ t290) ++ (⟨#[32, 116, 104, 114, 111, 116, 116, 108, 101, 100, 32]⟩ : ByteArray)) ++ t291) ++ (⟨#[32, 108, 111, 115, 116, 32]⟩ : ByteArray)) ++ t292) ++ (⟨#[32, 100, 114, 111, 112, 112, 101, 100, 32]⟩ : ByteArray)).size + t293.size ≤ 9223372036854775807 then (if ((((((((((⟨#[97, 114, 114, 105, 118, 101, 100, 32]⟩ : ByteArray) ++ t289) ++ (⟨#[32, 100, 111, 110, 101, 32]⟩ : ByteArray)) ++ t290) ++ (⟨#[32, 116, 104, 114, 111, 116, 116, 108, 101, 100, 32]⟩ : ByteArray)) ++ t291) ++ (⟨#[32, 108, 111, 115, 116, 32]⟩ : ByteArray)) ++ t292) ++ (⟨#[32, 100, 114, 111, 112, 112, 101, 100, 32]⟩ : ByteArray)) ++ t293).size + 9 ≤ 9223372036854775807 then ((spec_l00Digits.f k (l0_6.length : Int)).bind fun t294 => (if (((((((((((⟨#[97, 114, 114, 105, 118, 101, 100, 32]⟩ : ByteArray) ++ t289) ++ (⟨#[32, 100, 111, 110, 101, 32]⟩ : ByteArray)) ++ t290) ++ (⟨#[32, 116, 104, 114, 111, 116, 116, 108, 101, 100, 32]⟩ : ByteArray)) ++ t291) ++ (⟨#[32, 108, 111, 115, 116, 32]⟩ : ByteArray)) ++ t292) ++ (⟨#[32, 100, 114, 111, 112, 112, 101, 100, 32]⟩ : ByteArray)) ++ t293) ++ (⟨#[32, 119, 97, 105, 116, 105, 110, 103, 32]⟩ : ByteArray)).size + t294.size ≤ 9223372036854775807 then (some ((((((((((((⟨#[97, 114, 114, 105, 118, 101, 100, 32]⟩ : ByteArray) ++ t289) ++ (⟨#[32, 100, 111, 110, 101, 32]⟩ : ByteArray)) ++ t290) ++ (⟨#[32, 116, 104, 114, 111, 116, 116, 108, 101, 100, 32]⟩ : ByteArray)) ++ t291) ++ (⟨#[32, 108, 111, 115, 116, 32]⟩ : ByteArray)) ++ t292) ++ (⟨#[32, 100, 114, 111, 112, 112, 101, 100, 32]⟩ : ByteArray)) ++ t293) ++ (⟨#[32, 119, 97, 105, 116, 105, 110, 103, 32]⟩ : ByteArray)) ++ t294)) else (none))) else (none)) else (none)) = some r := H
                  have A14 := Aside0.mk A140
                  clear A140
                  by_cases c15 : (((((((((⟨#[97, 114, 114, 105, 118, 101, 100, 32]⟩ : ByteArray) ++ t289) ++ (⟨#[32, 100, 111, 110, 101, 32]⟩ : ByteArray)) ++ t290) ++ (⟨#[32, 116, 104, 114, 111, 116, 116, 108, 101, 100, 32]⟩ : ByteArray)) ++ t291) ++ (⟨#[32, 108, 111, 115, 116, 32]⟩ : ByteArray)) ++ t292) ++ (⟨#[32, 100, 114, 111, 112, 112, 101, 100, 32]⟩ : ByteArray)).size + t293.size ≤ 9223372036854775807
                  · rw [if_pos c15] at H
                    have c15b0 := eq_true c15
                    have c15b1 : decide ((((((((((⟨#[97, 114, 114, 105, 118, 101, 100, 32]⟩ : ByteArray) ++ t289) ++ (⟨#[32, 100, 111, 110, 101, 32]⟩ : ByteArray)) ++ t290) ++ (⟨#[32, 116, 104, 114, 111, 116, 116, 108, 101, 100, 32]⟩ : ByteArray)) ++ t291) ++ (⟨#[32, 108, 111, 115, 116, 32]⟩ : ByteArray)) ++ t292) ++ (⟨#[32, 100, 114, 111, 112, 112, 101, 100, 32]⟩ : ByteArray)).size + t293.size ≤ 9223372036854775807) = true := decide_eq_true c15
                    try have c15b2 : (9223372036854775807 < (((((((((⟨#[97, 114, 114, 105, 118, 101, 100, 32]⟩ : ByteArray) ++ t289) ++ (⟨#[32, 100, 111, 110, 101, 32]⟩ : ByteArray)) ++ t290) ++ (⟨#[32, 116, 104, 114, 111, 116, 116, 108, 101, 100, 32]⟩ : ByteArray)) ++ t291) ++ (⟨#[32, 108, 111, 115, 116, 32]⟩ : ByteArray)) ++ t292) ++ (⟨#[32, 100, 114, 111, 112, 112, 101, 100, 32]⟩ : ByteArray)).size + t293.size) = False := eq_false (Nat.not_lt.2 c15)
                    try (have c15b3 := c15b2; simp only [ByteArray.size_append] at c15b3)
                    try (have c15b4 : (9223372036854775807 < 8 + t289.size + 6 + t290.size + 11 + t291.size + 6 + t292.size + 9 + t293.size) = False := by have h_ := c15b2; simp only [ByteArray.size_append] at h_; exact h_)
                    by_cases c16 : ((((((((((⟨#[97, 114, 114, 105, 118, 101, 100, 32]⟩ : ByteArray) ++ t289) ++ (⟨#[32, 100, 111, 110, 101, 32]⟩ : ByteArray)) ++ t290) ++ (⟨#[32, 116, 104, 114, 111, 116, 116, 108, 101, 100, 32]⟩ : ByteArray)) ++ t291) ++ (⟨#[32, 108, 111, 115, 116, 32]⟩ : ByteArray)) ++ t292) ++ (⟨#[32, 100, 114, 111, 112, 112, 101, 100, 32]⟩ : ByteArray)) ++ t293).size + 9 ≤ 9223372036854775807
                    · rw [if_pos c16] at H
                      have c16b0 := eq_true c16
                      have c16b1 : decide (((((((((((⟨#[97, 114, 114, 105, 118, 101, 100, 32]⟩ : ByteArray) ++ t289) ++ (⟨#[32, 100, 111, 110, 101, 32]⟩ : ByteArray)) ++ t290) ++ (⟨#[32, 116, 104, 114, 111, 116, 116, 108, 101, 100, 32]⟩ : ByteArray)) ++ t291) ++ (⟨#[32, 108, 111, 115, 116, 32]⟩ : ByteArray)) ++ t292) ++ (⟨#[32, 100, 114, 111, 112, 112, 101, 100, 32]⟩ : ByteArray)) ++ t293).size + 9 ≤ 9223372036854775807) = true := decide_eq_true c16
                      try have c16b2 : (9223372036854775807 < ((((((((((⟨#[97, 114, 114, 105, 118, 101, 100, 32]⟩ : ByteArray) ++ t289) ++ (⟨#[32, 100, 111, 110, 101, 32]⟩ : ByteArray)) ++ t290) ++ (⟨#[32, 116, 104, 114, 111, 116, 116, 108, 101, 100, 32]⟩ : ByteArray)) ++ t291) ++ (⟨#[32, 108, 111, 115, 116, 32]⟩ : ByteArray)) ++ t292) ++ (⟨#[32, 100, 114, 111, 112, 112, 101, 100, 32]⟩ : ByteArray)) ++ t293).size + 9) = False := eq_false (Nat.not_lt.2 c16)
                      try (have c16b3 := c16b2; simp only [ByteArray.size_append] at c16b3)
                      try (have c16b4 : (9223372036854775807 < 8 + t289.size + 6 + t290.size + 11 + t291.size + 6 + t292.size + 9 + t293.size + 9) = False := by have h_ := c16b2; simp only [ByteArray.size_append] at h_; exact h_)
                      replace H := Option.bind_eq_some_iff.mp H
                      obtain ⟨t294, A170, H⟩ := H
                      replace H : (if (((((((((((⟨#[97, 114, 114, 105, 118, 101, 100, 32]⟩ : ByteArray) ++ t289) ++ (⟨#[32, 100, 111, 110, 101, 32]⟩ : ByteArray)) ++ t290) ++ (⟨#[32, 116, 104, 114, 111, 116, 116, 108, 101, 100, 32]⟩ : ByteArray)) ++ t291) ++ (⟨#[32, 108, 111, 115, 116, 32]⟩ : ByteArray)) ++ t292) ++ (⟨#[32, 100, 114, 111, 112, 112, 101, 100, 32]⟩ : ByteArray)) ++ t293) ++ (⟨#[32, 119, 97, 105, 116, 105, 110, 103, 32]⟩ : ByteArray)).size + t294.size ≤ 9223372036854775807 then (some ((((((((((((⟨#[97, 114, 114, 105, 118, 101, 100, 32]⟩ : ByteArray) ++ t289) ++ (⟨#[32, 100, 111, 110, 101, 32]⟩ : ByteArray)) ++ t290) ++ (⟨#[32, 116, 104, 114, 111, 116, 116, 108, 101, 100, 32]⟩ : ByteArray)) ++ t291) ++ (⟨#[32, 108, 111, 115, 116, 32]⟩ : ByteArray)) ++ t292) ++ (⟨#[32, 100, 114, 111, 112, 112, 101, 100, 32]⟩ : ByteArray)) ++ t293) ++ (⟨#[32, 119, 97, 105, 116, 105, 110, 103, 32]⟩ : ByteArray)) ++ t294)) else (none)) = some r := H
                      have A17 := Aside0.mk A170
                      clear A170
                      by_cases c18 : (((((((((((⟨#[97, 114, 114, 105, 118, 101, 100, 32]⟩ : ByteArray) ++ t289) ++ (⟨#[32, 100, 111, 110, 101, 32]⟩ : ByteArray)) ++ t290) ++ (⟨#[32, 116, 104, 114, 111, 116, 116, 108, 101, 100, 32]⟩ : ByteArray)) ++ t291) ++ (⟨#[32, 108, 111, 115, 116, 32]⟩ : ByteArray)) ++ t292) ++ (⟨#[32, 100, 114, 111, 112, 112, 101, 100, 32]⟩ : ByteArray)) ++ t293) ++ (⟨#[32, 119, 97, 105, 116, 105, 110, 103, 32]⟩ : ByteArray)).size + t294.size ≤ 9223372036854775807
                      · rw [if_pos c18] at H
                        have c18b0 := eq_true c18
                        have c18b1 : decide ((((((((((((⟨#[97, 114, 114, 105, 118, 101, 100, 32]⟩ : ByteArray) ++ t289) ++ (⟨#[32, 100, 111, 110, 101, 32]⟩ : ByteArray)) ++ t290) ++ (⟨#[32, 116, 104, 114, 111, 116, 116, 108, 101, 100, 32]⟩ : ByteArray)) ++ t291) ++ (⟨#[32, 108, 111, 115, 116, 32]⟩ : ByteArray)) ++ t292) ++ (⟨#[32, 100, 114, 111, 112, 112, 101, 100, 32]⟩ : ByteArray)) ++ t293) ++ (⟨#[32, 119, 97, 105, 116, 105, 110, 103, 32]⟩ : ByteArray)).size + t294.size ≤ 9223372036854775807) = true := decide_eq_true c18
                        try have c18b2 : (9223372036854775807 < (((((((((((⟨#[97, 114, 114, 105, 118, 101, 100, 32]⟩ : ByteArray) ++ t289) ++ (⟨#[32, 100, 111, 110, 101, 32]⟩ : ByteArray)) ++ t290) ++ (⟨#[32, 116, 104, 114, 111, 116, 116, 108, 101, 100, 32]⟩ : ByteArray)) ++ t291) ++ (⟨#[32, 108, 111, 115, 116, 32]⟩ : ByteArray)) ++ t292) ++ (⟨#[32, 100, 114, 111, 112, 112, 101, 100, 32]⟩ : ByteArray)) ++ t293) ++ (⟨#[32, 119, 97, 105, 116, 105, 110, 103, 32]⟩ : ByteArray)).size + t294.size) = False := eq_false (Nat.not_lt.2 c18)
                        try (have c18b3 := c18b2; simp only [ByteArray.size_append] at c18b3)
                        try (have c18b4 : (9223372036854775807 < 8 + t289.size + 6 + t290.size + 11 + t291.size + 6 + t292.size + 9 + t293.size + 9 + t294.size) = False := by have h_ := c18b2; simp only [ByteArray.size_append] at h_; exact h_)
                        obtain rfl := Option.some.inj H
                        go_enter Tryd.func42, Tryd.ntmps42
                        try go_wp2_with (first | ((with_reducible refine gate_dst (N := 1) rfl ?_); refine box_event ?hg (N := 1) ?hd (cs := #[.int .i64 a0_0, .int .i64 a0_1, .int .i64 a0_2, .int .i64 a0_3, .int .i64 a0_4, .int .i64 a0_5, .slice A0_6 l0_6.length c0_6]) (t := 46) ?hr ?_; (case hd => rfl); (case hg => rfl); (case hr => first | (go_simp; done) | (go_simp; rfl)); intro gb288 hg w19 hbox hb; have n0_ := Aside0.mk (below_step (qw HB.out) hb); have n1_ := Aside0.mk (hbox); have n2_ := Aside0.mk ((by rw [hg]; exact (below_size (qw HB.out)) : w.heap.size ≤ gb288)); have n3_ := Aside0.mk ((by rw [hg]; exact (below_size (qw HB.out)) : w.heap.size ≤ gb288)); clear HB; have HB := n0_; have BK288 := n1_; have GW288 := n2_; have GE288 := n3_; clear n0_ n1_ n2_ n3_; clear hb hbox hg))
                        (try (rw [drewN_self w19]; generalize hq_ : World.drewN w19 _ = w19; have n0_ : Aside0 (w19.heap[gb288]? = some (.cells #[.int .i64 a0_0, .int .i64 a0_1, .int .i64 a0_2, .int .i64 a0_3, .int .i64 a0_4, .int .i64 a0_5, .slice A0_6 l0_6.length c0_6] 46 (0, 0))) := ⟨by rw [← hq_]; exact (qb BK288.out)⟩; have n1_ : Aside0 (Below w.heap.size w w19) := ⟨by rw [← hq_]; exact (qw HB.out)⟩; clear BK288 HB hq_; have BK288 := n0_; have HB := n1_; clear n0_ n1_))
                        have n0_ := Aside0.mk (blk_drew BK288.out)
                        have n1_ := Aside0.mk (below_drew1 HB.out)
                        clear BK288
                        clear HB
                        have BK288 := n0_
                        have HB := n1_
                        clear n0_ n1_
                        refine start_ (n := 31) (S := fun w' => w'.cell? ⟨gb288, 0, none⟩ = some (.int .i64 a0_0) ∧ w'.cell? ⟨gb288, 1, none⟩ = some (.int .i64 a0_1) ∧ w'.cell? ⟨gb288, 2, none⟩ = some (.int .i64 a0_2) ∧ w'.cell? ⟨gb288, 3, none⟩ = some (.int .i64 a0_3) ∧ w'.cell? ⟨gb288, 4, none⟩ = some (.int .i64 a0_4) ∧ w'.cell? ⟨gb288, 5, none⟩ = some (.int .i64 a0_5) ∧ w'.cell? ⟨gb288, 6, none⟩ = some (.slice A0_6 l0_6.length c0_6)) (ds := []) #[false, false, false, false, false, false, false, false, false, false, false, false, false, false, false, false, false, false, false, false, false, false, false, false, false, false, false, false, false, false, false] (by kernel_rfl) rfl rfl ⟨(blk_cell BK288.out 0).trans rfl, (blk_cell BK288.out 1).trans rfl, (blk_cell BK288.out 2).trans rfl, (blk_cell BK288.out 3).trans rfl, (blk_cell BK288.out 4).trans rfl, (blk_cell BK288.out 5).trans rfl, (blk_cell BK288.out 6).trans rfl⟩ (fun hHeld => ?_); refine with_tabW spec_l10Text.tab1 spec_l10Text.bits1 (fun HT_ HW_ => ?_)
                        generalize w19.drew = w20 at BK288 HB hHeld ⊢
                        refine pure_ (i := 0) (N := some 3) (v := ?_) (a' := ?_) #[true, false, false, false, false, false, false, false, false, false, false, false, false, false, false, false, false, false, false, false, false, false, false, false, false, false, false, false, false, false, false] rfl rfl (any_of HT_.out (by kernel_rfl)) (fun _ _ _ h => h) (Or.inl ⟨by rfl, ?_⟩) ?_ ?_
                        rotate_left
                        · intro w'
                          go_simp
                          with_reducible rfl
                        rotate_left
                        · simp only [Act.put, List.setIfInBounds_toArray, List.set_cons_zero, List.set_cons_succ, i64_w, i32_w]
                          rfl
                        refine pure_ (i := 5) (N := some 8) (v := ?_) (a' := ?_) #[true, false, false, false, false, true, false, false, false, false, false, false, false, false, false, false, false, false, false, false, false, false, false, false, false, false, false, false, false, false, false] rfl rfl (any_of HT_.out (by kernel_rfl)) (fun _ _ _ h => h) (Or.inl ⟨by rfl, ?_⟩) ?_ ?_
                        rotate_left
                        · intro w'
                          go_simp
                          with_reducible rfl
                        rotate_left
                        · simp only [Act.put, List.setIfInBounds_toArray, List.set_cons_zero, List.set_cons_succ, i64_w, i32_w]
                          rfl
                        refine pure_ (i := 10) (N := some 13) (v := ?_) (a' := ?_) #[true, false, false, false, false, true, false, false, false, false, true, false, false, false, false, false, false, false, false, false, false, false, false, false, false, false, false, false, false, false, false] rfl rfl (any_of HT_.out (by kernel_rfl)) (fun _ _ _ h => h) (Or.inl ⟨by rfl, ?_⟩) ?_ ?_
                        rotate_left
                        · intro w'
                          go_simp
                          with_reducible rfl
                        rotate_left
                        · simp only [Act.put, List.setIfInBounds_toArray, List.set_cons_zero, List.set_cons_succ, i64_w, i32_w]
                          rfl
                        refine pure_ (i := 15) (N := some 18) (v := ?_) (a' := ?_) #[true, false, false, false, false, true, false, false, false, false, true, false, false, false, false, true, false, false, false, false, false, false, false, false, false, false, false, false, false, false, false] rfl rfl (any_of HT_.out (by kernel_rfl)) (fun _ _ _ h => h) (Or.inl ⟨by rfl, ?_⟩) ?_ ?_
                        rotate_left
                        · intro w'
                          go_simp
                          with_reducible rfl
                        rotate_left
                        · simp only [Act.put, List.setIfInBounds_toArray, List.set_cons_zero, List.set_cons_succ, i64_w, i32_w]
                          rfl
                        refine pure_ (i := 20) (N := some 23) (v := ?_) (a' := ?_) #[true, false, false, false, false, true, false, false, false, false, true, false, false, false, false, true, false, false, false, false, true, false, false, false, false, false, false, false, false, false, false] rfl rfl (any_of HT_.out (by kernel_rfl)) (fun _ _ _ h => h) (Or.inl ⟨by rfl, ?_⟩) ?_ ?_
                        rotate_left
                        · intro w'
                          go_simp
                          with_reducible rfl
                        rotate_left
                        · simp only [Act.put, List.setIfInBounds_toArray, List.set_cons_zero, List.set_cons_succ, i64_w, i32_w]
                          rfl
                        refine pure_ (i := 25) (N := some 28) (v := ?_) (a' := ?_) #[true, false, false, false, false, true, false, false, false, false, true, false, false, false, false, true, false, false, false, false, true, false, false, false, false, true, false, false, false, false, false] rfl rfl (any_of HT_.out (by kernel_rfl)) (fun _ _ _ h => h) (Or.inl ⟨by rfl, ?_⟩) ?_ ?_
                        rotate_left
                        · intro w'
                          go_simp
                          with_reducible rfl
                        rotate_left
                        · simp only [Act.put, List.setIfInBounds_toArray, List.set_cons_zero, List.set_cons_succ, i64_w, i32_w]
                          rfl
                        refine take_ (i := 1) (N := some 4) (v := ?_) (a' := ?_) #[true, true, false, false, false, true, false, false, false, false, true, false, false, false, false, true, false, false, false, false, true, false, false, false, false, true, false, false, false, false, false] rfl rfl (take_ofW HT_.out HW_.out (by kernel_rfl)) (fun _ _ _ h => h) (Or.inl ⟨by rfl, ?_⟩) hHeld ?_ ?_
                        rotate_left
                        · rintro w' ⟨s0, s1, s2, s3, s4, s5, s6⟩
                          go_simp
                          with_reducible rfl
                        rotate_left
                        · simp only [Act.put, List.setIfInBounds_toArray, List.set_cons_zero, List.set_cons_succ, i64_w, i32_w]
                          rfl
                        refine take_ (i := 6) (N := some 9) (v := ?_) (a' := ?_) #[true, true, false, false, false, true, true, false, false, false, true, false, false, false, false, true, false, false, false, false, true, false, false, false, false, true, false, false, false, false, false] rfl rfl (take_ofW HT_.out HW_.out (by kernel_rfl)) (fun _ _ _ h => h) (Or.inl ⟨by rfl, ?_⟩) hHeld ?_ ?_
                        rotate_left
                        · rintro w' ⟨s0, s1, s2, s3, s4, s5, s6⟩
                          go_simp
                          with_reducible rfl
                        rotate_left
                        · simp only [Act.put, List.setIfInBounds_toArray, List.set_cons_zero, List.set_cons_succ, i64_w, i32_w]
                          rfl
                        refine take_ (i := 11) (N := some 14) (v := ?_) (a' := ?_) #[true, true, false, false, false, true, true, false, false, false, true, true, false, false, false, true, false, false, false, false, true, false, false, false, false, true, false, false, false, false, false] rfl rfl (take_ofW HT_.out HW_.out (by kernel_rfl)) (fun _ _ _ h => h) (Or.inl ⟨by rfl, ?_⟩) hHeld ?_ ?_
                        rotate_left
                        · rintro w' ⟨s0, s1, s2, s3, s4, s5, s6⟩
                          go_simp
                          with_reducible rfl
                        rotate_left
                        · simp only [Act.put, List.setIfInBounds_toArray, List.set_cons_zero, List.set_cons_succ, i64_w, i32_w]
                          rfl
                        refine take_ (i := 16) (N := some 19) (v := ?_) (a' := ?_) #[true, true, false, false, false, true, true, false, false, false, true, true, false, false, false, true, true, false, false, false, true, false, false, false, false, true, false, false, false, false, false] rfl rfl (take_ofW HT_.out HW_.out (by kernel_rfl)) (fun _ _ _ h => h) (Or.inl ⟨by rfl, ?_⟩) hHeld ?_ ?_
                        rotate_left
                        · rintro w' ⟨s0, s1, s2, s3, s4, s5, s6⟩
                          go_simp
                          with_reducible rfl
                        rotate_left
                        · simp only [Act.put, List.setIfInBounds_toArray, List.set_cons_zero, List.set_cons_succ, i64_w, i32_w]
                          rfl
                        refine take_ (i := 21) (N := some 24) (v := ?_) (a' := ?_) #[true, true, false, false, false, true, true, false, false, false, true, true, false, false, false, true, true, false, false, false, true, true, false, false, false, true, false, false, false, false, false] rfl rfl (take_ofW HT_.out HW_.out (by kernel_rfl)) (fun _ _ _ h => h) (Or.inl ⟨by rfl, ?_⟩) hHeld ?_ ?_
                        rotate_left
                        · rintro w' ⟨s0, s1, s2, s3, s4, s5, s6⟩
                          go_simp
                          with_reducible rfl
                        rotate_left
                        · simp only [Act.put, List.setIfInBounds_toArray, List.set_cons_zero, List.set_cons_succ, i64_w, i32_w]
                          rfl
                        refine take_ (i := 26) (N := some 29) (v := ?_) (a' := ?_) #[true, true, false, false, false, true, true, false, false, false, true, true, false, false, false, true, true, false, false, false, true, true, false, false, false, true, true, false, false, false, false] rfl rfl (take_ofW HT_.out HW_.out (by kernel_rfl)) (fun _ _ _ h => h) (Or.inl ⟨by rfl, ?_⟩) hHeld ?_ ?_
                        rotate_left
                        · rintro w' ⟨s0, s1, s2, s3, s4, s5, s6⟩
                          go_simp
                          with_reducible rfl
                        rotate_left
                        · simp only [Act.put, List.setIfInBounds_toArray, List.set_cons_zero, List.set_cons_succ, i64_w, i32_w]
                          rfl
                        refine pure_ (i := 27) (N := some 30) (v := ?_) (a' := ?_) #[true, true, false, false, false, true, true, false, false, false, true, true, false, false, false, true, true, false, false, false, true, true, false, false, false, true, true, true, false, false, false] rfl rfl (any_of HT_.out (by kernel_rfl)) (fun _ _ _ h => h) (Or.inl ⟨by rfl, ?_⟩) ?_ ?_
                        rotate_left
                        · intro w'
                          go_simp
                          with_reducible rfl
                        rotate_left
                        · simp only [Act.put, List.setIfInBounds_toArray, List.set_cons_zero, List.set_cons_succ, i64_w, i32_w]
                          rfl
                        refine one_ (i := 2) (N := some 5) #[true, true, true, false, false, true, true, false, false, false, true, true, false, false, false, true, true, false, false, false, true, true, false, false, false, true, true, true, false, false, false] rfl rfl (one_of HT_.out (by kernel_rfl)) (by decide) (fun K hK => ?_)
                        refine goes_ Tryd.func55 (by kernel_rfl) rfl #[.int .i64 a0_1] (by rfl) rfl rfl qa ?_
                        with_reducible refine (spec_l00Digits.calls k a0_1 t289 _ A2.out).mono ?_
                        rintro e w21 ⟨rfl, hb⟩
                        refine ⟨_, rfl, ?_⟩
                        have n0_ := Aside0.mk (blk_below (g := gb288) (o := .cells #[.int .i64 a0_0, .int .i64 a0_1, .int .i64 a0_2, .int .i64 a0_3, .int .i64 a0_4, .int .i64 a0_5, .slice A0_6 l0_6.length c0_6] 46 (0, 0)) (qb BK288.out) hb)
                        have n1_ := Aside0.mk (below_step (qw HB.out) hb)
                        clear BK288
                        clear HB
                        have BK288 := n0_
                        have HB := n1_
                        clear n0_ n1_
                        (try clear hb)
                        (try clear hb2)
                        (try clear hk)
                        (try clear hi)
                        refine hK.out _ _ ⟨(blk_cell BK288.out 0).trans rfl, (blk_cell BK288.out 1).trans rfl, (blk_cell BK288.out 2).trans rfl, (blk_cell BK288.out 3).trans rfl, (blk_cell BK288.out 4).trans rfl, (blk_cell BK288.out 5).trans rfl, (blk_cell BK288.out 6).trans rfl⟩ (fun hHeld => ?_)
                        clear hK K
                        refine norm_ (a' := ?_) ?_ ?_
                        rotate_left
                        · show Act.put _ (some 5) _ = _
                          simp only [Act.put, List.setIfInBounds_toArray, List.set_cons_zero, List.set_cons_succ, i64_w, i32_w]
                          rfl
                        refine pure_ (i := 3) (N := some 6) (v := ?_) (a' := ?_) #[true, true, true, true, false, true, true, false, false, false, true, true, false, false, false, true, true, false, false, false, true, true, false, false, false, true, true, true, false, false, false] rfl rfl (any_of HT_.out (by kernel_rfl)) (fun _ _ _ h => h) (Or.inl ⟨by rfl, ?_⟩) ?_ ?_
                        rotate_left
                        · intro w'
                          go_simp
                          with_reducible rfl
                        rotate_left
                        · simp only [Act.put, List.setIfInBounds_toArray, List.set_cons_zero, List.set_cons_succ, i64_w, i32_w]
                          rfl
                        refine pure_ (i := 4) (N := some 7) (v := ?_) (a' := ?_) #[true, true, true, true, true, true, true, false, false, false, true, true, false, false, false, true, true, false, false, false, true, true, false, false, false, true, true, true, false, false, false] rfl rfl (any_of HT_.out (by kernel_rfl)) (fun _ _ _ h => h) (Or.inl ⟨by rfl, ?_⟩) ?_ ?_
                        rotate_left
                        · intro w'
                          go_simp
                          with_reducible rfl
                        rotate_left
                        · simp only [Act.put, List.setIfInBounds_toArray, List.set_cons_zero, List.set_cons_succ, i64_w, i32_w]
                          rfl
                        refine one_ (i := 7) (N := some 10) #[true, true, true, true, true, true, true, true, false, false, true, true, false, false, false, true, true, false, false, false, true, true, false, false, false, true, true, true, false, false, false] rfl rfl (one_of HT_.out (by kernel_rfl)) (by decide) (fun K hK => ?_)
                        refine goes_ Tryd.func55 (by kernel_rfl) rfl #[.int .i64 a0_2] (by rfl) rfl rfl qa ?_
                        with_reducible refine (spec_l00Digits.calls k a0_2 t290 _ A5.out).mono ?_
                        rintro e w22 ⟨rfl, hb⟩
                        refine ⟨_, rfl, ?_⟩
                        have n0_ := Aside0.mk (blk_below (g := gb288) (o := .cells #[.int .i64 a0_0, .int .i64 a0_1, .int .i64 a0_2, .int .i64 a0_3, .int .i64 a0_4, .int .i64 a0_5, .slice A0_6 l0_6.length c0_6] 46 (0, 0)) (qb BK288.out) hb)
                        have n1_ := Aside0.mk (below_step (qw HB.out) hb)
                        clear BK288
                        clear HB
                        have BK288 := n0_
                        have HB := n1_
                        clear n0_ n1_
                        (try clear hb)
                        (try clear hb2)
                        (try clear hk)
                        (try clear hi)
                        refine hK.out _ _ ⟨(blk_cell BK288.out 0).trans rfl, (blk_cell BK288.out 1).trans rfl, (blk_cell BK288.out 2).trans rfl, (blk_cell BK288.out 3).trans rfl, (blk_cell BK288.out 4).trans rfl, (blk_cell BK288.out 5).trans rfl, (blk_cell BK288.out 6).trans rfl⟩ (fun hHeld => ?_)
                        clear hK K
                        refine norm_ (a' := ?_) ?_ ?_
                        rotate_left
                        · show Act.put _ (some 10) _ = _
                          simp only [Act.put, List.setIfInBounds_toArray, List.set_cons_zero, List.set_cons_succ, i64_w, i32_w]
                          rfl
                        refine pure_ (i := 8) (N := some 11) (v := ?_) (a' := ?_) #[true, true, true, true, true, true, true, true, true, false, true, true, false, false, false, true, true, false, false, false, true, true, false, false, false, true, true, true, false, false, false] rfl rfl (any_of HT_.out (by kernel_rfl)) (fun _ _ _ h => h) (Or.inl ⟨by rfl, ?_⟩) ?_ ?_
                        rotate_left
                        · intro w'
                          go_simp
                          with_reducible rfl
                        rotate_left
                        · simp only [Act.put, List.setIfInBounds_toArray, List.set_cons_zero, List.set_cons_succ, i64_w, i32_w]
                          rfl
                        refine pure_ (i := 9) (N := some 12) (v := ?_) (a' := ?_) #[true, true, true, true, true, true, true, true, true, true, true, true, false, false, false, true, true, false, false, false, true, true, false, false, false, true, true, true, false, false, false] rfl rfl (any_of HT_.out (by kernel_rfl)) (fun _ _ _ h => h) (Or.inl ⟨by rfl, ?_⟩) ?_ ?_
                        rotate_left
                        · intro w'
                          go_simp
                          with_reducible rfl
                        rotate_left
                        · simp only [Act.put, List.setIfInBounds_toArray, List.set_cons_zero, List.set_cons_succ, i64_w, i32_w]
                          rfl
                        refine one_ (i := 12) (N := some 15) #[true, true, true, true, true, true, true, true, true, true, true, true, true, false, false, true, true, false, false, false, true, true, false, false, false, true, true, true, false, false, false] rfl rfl (one_of HT_.out (by kernel_rfl)) (by decide) (fun K hK => ?_)
                        refine goes_ Tryd.func55 (by kernel_rfl) rfl #[.int .i64 a0_3] (by rfl) rfl rfl qa ?_
                        with_reducible refine (spec_l00Digits.calls k a0_3 t291 _ A8.out).mono ?_
                        rintro e w23 ⟨rfl, hb⟩
                        refine ⟨_, rfl, ?_⟩
                        have n0_ := Aside0.mk (blk_below (g := gb288) (o := .cells #[.int .i64 a0_0, .int .i64 a0_1, .int .i64 a0_2, .int .i64 a0_3, .int .i64 a0_4, .int .i64 a0_5, .slice A0_6 l0_6.length c0_6] 46 (0, 0)) (qb BK288.out) hb)
                        have n1_ := Aside0.mk (below_step (qw HB.out) hb)
                        clear BK288
                        clear HB
                        have BK288 := n0_
                        have HB := n1_
                        clear n0_ n1_
                        (try clear hb)
                        (try clear hb2)
                        (try clear hk)
                        (try clear hi)
                        refine hK.out _ _ ⟨(blk_cell BK288.out 0).trans rfl, (blk_cell BK288.out 1).trans rfl, (blk_cell BK288.out 2).trans rfl, (blk_cell BK288.out 3).trans rfl, (blk_cell BK288.out 4).trans rfl, (blk_cell BK288.out 5).trans rfl, (blk_cell BK288.out 6).trans rfl⟩ (fun hHeld => ?_)
                        clear hK K
                        refine norm_ (a' := ?_) ?_ ?_
                        rotate_left
                        · show Act.put _ (some 15) _ = _
                          simp only [Act.put, List.setIfInBounds_toArray, List.set_cons_zero, List.set_cons_succ, i64_w, i32_w]
                          rfl
                        refine pure_ (i := 13) (N := some 16) (v := ?_) (a' := ?_) #[true, true, true, true, true, true, true, true, true, true, true, true, true, true, false, true, true, false, false, false, true, true, false, false, false, true, true, true, false, false, false] rfl rfl (any_of HT_.out (by kernel_rfl)) (fun _ _ _ h => h) (Or.inl ⟨by rfl, ?_⟩) ?_ ?_
                        rotate_left
                        · intro w'
                          go_simp
                          with_reducible rfl
                        rotate_left
                        · simp only [Act.put, List.setIfInBounds_toArray, List.set_cons_zero, List.set_cons_succ, i64_w, i32_w]
                          rfl
                        refine pure_ (i := 14) (N := some 17) (v := ?_) (a' := ?_) #[true, true, true, true, true, true, true, true, true, true, true, true, true, true, true, true, true, false, false, false, true, true, false, false, false, true, true, true, false, false, false] rfl rfl (any_of HT_.out (by kernel_rfl)) (fun _ _ _ h => h) (Or.inl ⟨by rfl, ?_⟩) ?_ ?_
                        rotate_left
                        · intro w'
                          go_simp
                          with_reducible rfl
                        rotate_left
                        · simp only [Act.put, List.setIfInBounds_toArray, List.set_cons_zero, List.set_cons_succ, i64_w, i32_w]
                          rfl
                        refine one_ (i := 17) (N := some 20) #[true, true, true, true, true, true, true, true, true, true, true, true, true, true, true, true, true, true, false, false, true, true, false, false, false, true, true, true, false, false, false] rfl rfl (one_of HT_.out (by kernel_rfl)) (by decide) (fun K hK => ?_)
                        refine goes_ Tryd.func55 (by kernel_rfl) rfl #[.int .i64 a0_4] (by rfl) rfl rfl qa ?_
                        with_reducible refine (spec_l00Digits.calls k a0_4 t292 _ A11.out).mono ?_
                        rintro e w24 ⟨rfl, hb⟩
                        refine ⟨_, rfl, ?_⟩
                        have n0_ := Aside0.mk (blk_below (g := gb288) (o := .cells #[.int .i64 a0_0, .int .i64 a0_1, .int .i64 a0_2, .int .i64 a0_3, .int .i64 a0_4, .int .i64 a0_5, .slice A0_6 l0_6.length c0_6] 46 (0, 0)) (qb BK288.out) hb)
                        have n1_ := Aside0.mk (below_step (qw HB.out) hb)
                        clear BK288
                        clear HB
                        have BK288 := n0_
                        have HB := n1_
                        clear n0_ n1_
                        (try clear hb)
                        (try clear hb2)
                        (try clear hk)
                        (try clear hi)
                        refine hK.out _ _ ⟨(blk_cell BK288.out 0).trans rfl, (blk_cell BK288.out 1).trans rfl, (blk_cell BK288.out 2).trans rfl, (blk_cell BK288.out 3).trans rfl, (blk_cell BK288.out 4).trans rfl, (blk_cell BK288.out 5).trans rfl, (blk_cell BK288.out 6).trans rfl⟩ (fun hHeld => ?_)
                        clear hK K
                        refine norm_ (a' := ?_) ?_ ?_
                        rotate_left
                        · show Act.put _ (some 20) _ = _
                          simp only [Act.put, List.setIfInBounds_toArray, List.set_cons_zero, List.set_cons_succ, i64_w, i32_w]
                          rfl
                        refine pure_ (i := 18) (N := some 21) (v := ?_) (a' := ?_) #[true, true, true, true, true, true, true, true, true, true, true, true, true, true, true, true, true, true, true, false, true, true, false, false, false, true, true, true, false, false, false] rfl rfl (any_of HT_.out (by kernel_rfl)) (fun _ _ _ h => h) (Or.inl ⟨by rfl, ?_⟩) ?_ ?_
                        rotate_left
                        · intro w'
                          go_simp
                          with_reducible rfl
                        rotate_left
                        · simp only [Act.put, List.setIfInBounds_toArray, List.set_cons_zero, List.set_cons_succ, i64_w, i32_w]
                          rfl
                        refine pure_ (i := 19) (N := some 22) (v := ?_) (a' := ?_) #[true, true, true, true, true, true, true, true, true, true, true, true, true, true, true, true, true, true, true, true, true, true, false, false, false, true, true, true, false, false, false] rfl rfl (any_of HT_.out (by kernel_rfl)) (fun _ _ _ h => h) (Or.inl ⟨by rfl, ?_⟩) ?_ ?_
                        rotate_left
                        · intro w'
                          go_simp
                          with_reducible rfl
                        rotate_left
                        · simp only [Act.put, List.setIfInBounds_toArray, List.set_cons_zero, List.set_cons_succ, i64_w, i32_w]
                          rfl
                        refine one_ (i := 22) (N := some 25) #[true, true, true, true, true, true, true, true, true, true, true, true, true, true, true, true, true, true, true, true, true, true, true, false, false, true, true, true, false, false, false] rfl rfl (one_of HT_.out (by kernel_rfl)) (by decide) (fun K hK => ?_)
                        refine goes_ Tryd.func55 (by kernel_rfl) rfl #[.int .i64 a0_5] (by rfl) rfl rfl qa ?_
                        with_reducible refine (spec_l00Digits.calls k a0_5 t293 _ A14.out).mono ?_
                        rintro e w25 ⟨rfl, hb⟩
                        refine ⟨_, rfl, ?_⟩
                        have n0_ := Aside0.mk (blk_below (g := gb288) (o := .cells #[.int .i64 a0_0, .int .i64 a0_1, .int .i64 a0_2, .int .i64 a0_3, .int .i64 a0_4, .int .i64 a0_5, .slice A0_6 l0_6.length c0_6] 46 (0, 0)) (qb BK288.out) hb)
                        have n1_ := Aside0.mk (below_step (qw HB.out) hb)
                        clear BK288
                        clear HB
                        have BK288 := n0_
                        have HB := n1_
                        clear n0_ n1_
                        (try clear hb)
                        (try clear hb2)
                        (try clear hk)
                        (try clear hi)
                        refine hK.out _ _ ⟨(blk_cell BK288.out 0).trans rfl, (blk_cell BK288.out 1).trans rfl, (blk_cell BK288.out 2).trans rfl, (blk_cell BK288.out 3).trans rfl, (blk_cell BK288.out 4).trans rfl, (blk_cell BK288.out 5).trans rfl, (blk_cell BK288.out 6).trans rfl⟩ (fun hHeld => ?_)
                        clear hK K
                        refine norm_ (a' := ?_) ?_ ?_
                        rotate_left
                        · show Act.put _ (some 25) _ = _
                          simp only [Act.put, List.setIfInBounds_toArray, List.set_cons_zero, List.set_cons_succ, i64_w, i32_w]
                          rfl
                        refine pure_ (i := 23) (N := some 26) (v := ?_) (a' := ?_) #[true, true, true, true, true, true, true, true, true, true, true, true, true, true, true, true, true, true, true, true, true, true, true, true, false, true, true, true, false, false, false] rfl rfl (any_of HT_.out (by kernel_rfl)) (fun _ _ _ h => h) (Or.inl ⟨by rfl, ?_⟩) ?_ ?_
                        rotate_left
                        · intro w'
                          go_simp
                          with_reducible rfl
                        rotate_left
                        · simp only [Act.put, List.setIfInBounds_toArray, List.set_cons_zero, List.set_cons_succ, i64_w, i32_w]
                          rfl
                        refine pure_ (i := 24) (N := some 27) (v := ?_) (a' := ?_) #[true, true, true, true, true, true, true, true, true, true, true, true, true, true, true, true, true, true, true, true, true, true, true, true, true, true, true, true, false, false, false] rfl rfl (any_of HT_.out (by kernel_rfl)) (fun _ _ _ h => h) (Or.inl ⟨by rfl, ?_⟩) ?_ ?_
                        rotate_left
                        · intro w'
                          go_simp
                          with_reducible rfl
                        rotate_left
                        · simp only [Act.put, List.setIfInBounds_toArray, List.set_cons_zero, List.set_cons_succ, i64_w, i32_w]
                          rfl
                        refine one_ (i := 28) (N := some 31) #[true, true, true, true, true, true, true, true, true, true, true, true, true, true, true, true, true, true, true, true, true, true, true, true, true, true, true, true, true, false, false] rfl rfl (one_of HT_.out (by kernel_rfl)) (by decide) (fun K hK => ?_)
                        refine goes_ Tryd.func55 (by kernel_rfl) rfl #[.int .i64 (l0_6.length : Int)] (by rfl) rfl rfl qa ?_
                        with_reducible refine (spec_l00Digits.calls k (l0_6.length : Int) t294 _ A17.out).mono ?_
                        rintro e w26 ⟨rfl, hb⟩
                        refine ⟨_, rfl, ?_⟩
                        have n0_ := Aside0.mk (blk_below (g := gb288) (o := .cells #[.int .i64 a0_0, .int .i64 a0_1, .int .i64 a0_2, .int .i64 a0_3, .int .i64 a0_4, .int .i64 a0_5, .slice A0_6 l0_6.length c0_6] 46 (0, 0)) (qb BK288.out) hb)
                        have n1_ := Aside0.mk (below_step (qw HB.out) hb)
                        clear BK288
                        clear HB
                        have BK288 := n0_
                        have HB := n1_
                        clear n0_ n1_
                        (try clear hb)
                        (try clear hb2)
                        (try clear hk)
                        (try clear hi)
                        refine hK.out _ _ ⟨(blk_cell BK288.out 0).trans rfl, (blk_cell BK288.out 1).trans rfl, (blk_cell BK288.out 2).trans rfl, (blk_cell BK288.out 3).trans rfl, (blk_cell BK288.out 4).trans rfl, (blk_cell BK288.out 5).trans rfl, (blk_cell BK288.out 6).trans rfl⟩ (fun hHeld => ?_)
                        clear hK K
                        refine norm_ (a' := ?_) ?_ ?_
                        rotate_left
                        · show Act.put _ (some 31) _ = _
                          simp only [Act.put, List.setIfInBounds_toArray, List.set_cons_zero, List.set_cons_succ, i64_w, i32_w]
                          rfl
                        refine pure_ (i := 29) (N := some 32) (v := ?_) (a' := ?_) #[true, true, true, true, true, true, true, true, true, true, true, true, true, true, true, true, true, true, true, true, true, true, true, true, true, true, true, true, true, true, false] rfl rfl (any_of HT_.out (by kernel_rfl)) (fun _ _ _ h => h) (Or.inl ⟨by rfl, ?_⟩) ?_ ?_
                        rotate_left
                        · intro w'
                          go_simp
                          with_reducible rfl
                        rotate_left
                        · simp only [Act.put, List.setIfInBounds_toArray, List.set_cons_zero, List.set_cons_succ, i64_w, i32_w]
                          rfl
                        refine pure_ (i := 30) (N := some 2) (v := ?_) (a' := ?_) #[true, true, true, true, true, true, true, true, true, true, true, true, true, true, true, true, true, true, true, true, true, true, true, true, true, true, true, true, true, true, true] rfl rfl (any_of HT_.out (by kernel_rfl)) (fun _ _ _ h => h) (Or.inl ⟨by rfl, ?_⟩) ?_ ?_
                        rotate_left
                        · intro w'
                          go_simp
                          with_reducible rfl
                        rotate_left
                        · simp only [Act.put, List.setIfInBounds_toArray, List.set_cons_zero, List.set_cons_succ, i64_w, i32_w]
                          rfl
                        refine done_ (done_of HT_.out (by kernel_rfl)) ?_
                        try go_wp2
                        go_ret
                        exact ⟨qe, qw HB.out⟩
                      · rw [if_neg c18] at H
                        exact absurd H (by simp)
                    · rw [if_neg c16] at H
                      exact absurd H (by simp)
                  · rw [if_neg c15] at H
                    exact absurd H (by simp)
                · rw [if_neg c13] at H
                  exact absurd H (by simp)
              · rw [if_neg c12] at H
                exact absurd H (by simp)
            · rw [if_neg c10] at H
              exact absurd H (by simp)
          · rw [if_neg c9] at H
            exact absurd H (by simp)
        · rw [if_neg c7] at H
          exact absurd H (by simp)
      · rw [if_neg c6] at H
        exact absurd H (by simp)
    · rw [if_neg c4] at H
      exact absurd H (by simp)
  · rw [if_neg c3] at H
    exact absurd H (by simp)

/-! ### spec_SourceText: function 20 -/
def spec_SourceText.f (k : Nat) (a0_0 : Int) (a0_1 : Int) (a0_2 : Int) (a0_3 : Int) (a0_4 : Int) (a0_5 : Int) (l0_6 : List Int) (a1_0 : Int) (a1_1 : Int) (a1_2 : Int) (a1_3 : Int) (a1_4 : Int) (a1_5 : Int) : Option (ByteArray × Int) := (spec_SourceOK.f k a0_0 a0_1 a0_2 a0_3 a0_4 a0_5 l0_6 a1_0 a1_1 a1_2 a1_3 a1_4 a1_5).bind fun t297 => (if t297 = true then ((spec_l10Text.f k a0_0 a0_1 a0_2 a0_3 a0_4 a0_5 l0_6).bind fun t298 => (some (t298, 0))) else (some ((⟨#[]⟩ : ByteArray), 1)))
theorem spec_SourceText.mono : ∀ a0 a1 a2 a3 a4 a5 a6 a7 a8 a9 a10 a11 a12 k, LeO (spec_SourceText.f k a0 a1 a2 a3 a4 a5 a6 a7 a8 a9 a10 a11 a12) (spec_SourceText.f (k + 1) a0 a1 a2 a3 a4 a5 a6 a7 a8 a9 a10 a11 a12) := by
  intro a0 a1 a2 a3 a4 a5 a6 a7 a8 a9 a10 a11 a12 k
  unfold spec_SourceText.f
  repeat' first
      | (with_reducible exact spec_SourceOK.mono _ _ _ _ _ _ _ _ _ _ _ _ _ _)
      | (with_reducible exact spec_l10Text.mono _ _ _ _ _ _ _ _)
      | (with_reducible exact LeO.refl _)
      | (with_reducible exact LeO.none _)
      | (with_reducible refine LeO.ite ?_ ?_)
      | (with_reducible refine LeO.bind ?_ (fun _ => ?_))
      | exact spec_SourceOK.mono _ _ _ _ _ _ _ _ _ _ _ _ _ _
      | exact spec_l10Text.mono _ _ _ _ _ _ _ _
      | exact LeO.none _
      | refine LeO.ite ?_ ?_
      | refine LeO.bind ?_ (fun _ => ?_)
set_option maxHeartbeats 8000000 in
set_option maxRecDepth 100000 in
theorem spec_SourceText.calls (k : Nat) (a0_0 : Int) (a0_1 : Int) (a0_2 : Int) (a0_3 : Int) (a0_4 : Int) (a0_5 : Int) (A0_6 : Option Addr) (c0_6 : Nat) (l0_6 : List Int) (a1_0 : Int) (a1_1 : Int) (a1_2 : Int) (a1_3 : Int) (a1_4 : Int) (a1_5 : Int) (r1 : ByteArray) (r2 : Int) (w : World) (hr0_6 : Kd.C (Kd.int .i64) w A0_6 l0_6.length l0_6) (hc0_6 : l0_6.length ≤ c0_6) (h : spec_SourceText.f k a0_0 a0_1 a0_2 a0_3 a0_4 a0_5 l0_6 a1_0 a1_1 a1_2 a1_3 a1_4 a1_5 = some (r1, r2)) :
    Calls Tryd.prog 20 #[.agg #[.int .i64 a0_0, .int .i64 a0_1, .int .i64 a0_2, .int .i64 a0_3, .int .i64 a0_4, .int .i64 a0_5, .slice A0_6 l0_6.length c0_6], .agg #[.int .i64 a1_0, .int .i64 a1_1, .int .i64 a1_2, .int .i64 a1_3, .int .i64 a1_4, .int .i64 a1_5]] w fun e w' => e = .returned (.tuple #[.string r1, .int .i64 r2]) ∧ Below w.heap.size w w' := by
  have hu46 := Tryd.underlying46
  have hu38 := Tryd.underlying38
  have HR0_6 := Aside0.mk hr0_6
  have HC0_6 := Aside0.mk hc0_6
  clear hr0_6 hc0_6
  have HB := Aside0.mk (Below.refl w.heap.size w)
  have H : ((spec_SourceOK.f k a0_0 a0_1 a0_2 a0_3 a0_4 a0_5 l0_6 a1_0 a1_1 a1_2 a1_3 a1_4 a1_5).bind fun t297 => (if t297 = true then ((spec_l10Text.f k a0_0 a0_1 a0_2 a0_3 a0_4 a0_5 l0_6).bind fun t298 => (some (t298, 0))) else (some ((⟨#[]⟩ : ByteArray), 1)))) = some (r1, r2) := h
  clear h
  replace H := Option.bind_eq_some_iff.mp H
  obtain ⟨t297, A30, H⟩ := H
  replace H : (if t297 = true then ((spec_l10Text.f k a0_0 a0_1 a0_2 a0_3 a0_4 a0_5 l0_6).bind fun t298 => (some (t298, 0))) else (some ((⟨#[]⟩ : ByteArray), 1))) = some (r1, r2) := H
  have A3 := Aside0.mk A30
  clear A30
  by_cases c4 : t297 = true
  · subst c4
    have H1 : ((spec_l10Text.f k a0_0 a0_1 a0_2 a0_3 a0_4 a0_5 l0_6).bind fun t298 => (some (t298, 0))) = some (r1, r2) := by rw [if_pos rfl] at H; exact H
    clear H
    have H := H1
    clear H1
    replace H := Option.bind_eq_some_iff.mp H
    obtain ⟨t298, A50, H⟩ := H
    replace H : (some (t298, 0)) = some (r1, r2) := H
    have A5 := Aside0.mk A50
    clear A50
    simp only [Option.some.injEq, Prod.mk.injEq] at H
    obtain ⟨rfl, rfl⟩ := H
    go_enter Tryd.func20, Tryd.ntmps20
    go_wp2_with (first | ((with_reducible refine gate_dst (N := 2) rfl ?_); refine box_event ?hg (N := 2) ?hd (cs := #[.int .i64 a0_0, .int .i64 a0_1, .int .i64 a0_2, .int .i64 a0_3, .int .i64 a0_4, .int .i64 a0_5, .slice A0_6 l0_6.length c0_6]) (t := 46) ?hr ?_; (case hd => rfl); (case hg => rfl); (case hr => first | (go_simp; done) | (go_simp; rfl)); intro gb295 hg w6 hbox hb; have n0_ := Aside0.mk (below_step (qw HB.out) hb); have n1_ := Aside0.mk (hbox); have n2_ := Aside0.mk ((by rw [hg]; exact (below_size (qw HB.out)) : w.heap.size ≤ gb295)); have n3_ := Aside0.mk ((by rw [hg]; exact (below_size (qw HB.out)) : w.heap.size ≤ gb295)); clear HB; have HB := n0_; have BK295 := n1_; have GW295 := n2_; have GE295 := n3_; clear n0_ n1_ n2_ n3_; clear hb hbox hg) | ((with_reducible refine gate_dst (N := 3) rfl ?_); refine box_event ?hg (N := 3) ?hd (cs := #[.int .i64 a1_0, .int .i64 a1_1, .int .i64 a1_2, .int .i64 a1_3, .int .i64 a1_4, .int .i64 a1_5]) (t := 38) ?hr ?_; (case hd => rfl); (case hg => rfl); (case hr => first | (go_simp; done) | (go_simp; rfl)); intro gb296 hg w7 hbox hb; have n0_ := Aside0.mk (blk_below (g := gb295) (o := .cells #[.int .i64 a0_0, .int .i64 a0_1, .int .i64 a0_2, .int .i64 a0_3, .int .i64 a0_4, .int .i64 a0_5, .slice A0_6 l0_6.length c0_6] 46 (0, 0)) (qb BK295.out) hb); have n1_ := Aside0.mk (below_step (qw HB.out) hb); have n2_ := Aside0.mk (hbox); have n3_ := Aside0.mk ((by rw [hg]; exact (below_size (qw HB.out)) : w.heap.size ≤ gb296)); have n4_ := Aside0.mk ((by rw [hg]; exact (below_size (qw HB.out)) : w.heap.size ≤ gb296)); have n5_ := Aside0.mk ((by rw [hg]; exact Nat.ne_of_lt (blk_lt (g := gb295) (o := .cells #[.int .i64 a0_0, .int .i64 a0_1, .int .i64 a0_2, .int .i64 a0_3, .int .i64 a0_4, .int .i64 a0_5, .slice A0_6 l0_6.length c0_6] 46 (0, 0)) (qb BK295.out)) : gb295 ≠ gb296)); have n6_ := Aside0.mk ((by rw [hg]; exact Nat.ne_of_gt (blk_lt (g := gb295) (o := .cells #[.int .i64 a0_0, .int .i64 a0_1, .int .i64 a0_2, .int .i64 a0_3, .int .i64 a0_4, .int .i64 a0_5, .slice A0_6 l0_6.length c0_6] 46 (0, 0)) (qb BK295.out)) : gb296 ≠ gb295)); clear BK295; clear HB; have BK295 := n0_; have HB := n1_; have BK296 := n2_; have GW296 := n3_; have GE296 := n4_; have NB295_296 := n5_; have NB296_295 := n6_; clear n0_ n1_ n2_ n3_ n4_ n5_ n6_; clear hb hbox hg; have hnb8 := NB295_296.out; have hnc8 := NB296_295.out; have hcz9_0 : w7.cell? ⟨gb295, 0, none⟩ = some (.int .i64 a0_0) := (blk_cell BK295.out 0).trans rfl; have hcz9_1 : w7.cell? ⟨gb295, 1, none⟩ = some (.int .i64 a0_1) := (blk_cell BK295.out 1).trans rfl; have hcz9_2 : w7.cell? ⟨gb295, 2, none⟩ = some (.int .i64 a0_2) := (blk_cell BK295.out 2).trans rfl; have hcz9_3 : w7.cell? ⟨gb295, 3, none⟩ = some (.int .i64 a0_3) := (blk_cell BK295.out 3).trans rfl; have hcz9_4 : w7.cell? ⟨gb295, 4, none⟩ = some (.int .i64 a0_4) := (blk_cell BK295.out 4).trans rfl; have hcz9_5 : w7.cell? ⟨gb295, 5, none⟩ = some (.int .i64 a0_5) := (blk_cell BK295.out 5).trans rfl; have hcz9_6 : w7.cell? ⟨gb295, 6, none⟩ = some (.slice A0_6 l0_6.length c0_6) := (blk_cell BK295.out 6).trans rfl; have hfz9_0 := blk_frozen BK295.out 0; have hfz9_1 := blk_frozen BK295.out 1; have hfz9_2 := blk_frozen BK295.out 2; have hfz9_3 := blk_frozen BK295.out 3; have hfz9_4 := blk_frozen BK295.out 4; have hfz9_5 := blk_frozen BK295.out 5; have hfz9_6 := blk_frozen BK295.out 6; have hcz10_0 : w7.cell? ⟨gb296, 0, none⟩ = some (.int .i64 a1_0) := (blk_cell BK296.out 0).trans rfl; have hcz10_1 : w7.cell? ⟨gb296, 1, none⟩ = some (.int .i64 a1_1) := (blk_cell BK296.out 1).trans rfl; have hcz10_2 : w7.cell? ⟨gb296, 2, none⟩ = some (.int .i64 a1_2) := (blk_cell BK296.out 2).trans rfl; have hcz10_3 : w7.cell? ⟨gb296, 3, none⟩ = some (.int .i64 a1_3) := (blk_cell BK296.out 3).trans rfl; have hcz10_4 : w7.cell? ⟨gb296, 4, none⟩ = some (.int .i64 a1_4) := (blk_cell BK296.out 4).trans rfl; have hcz10_5 : w7.cell? ⟨gb296, 5, none⟩ = some (.int .i64 a1_5) := (blk_cell BK296.out 5).trans rfl; have hfz10_0 := blk_frozen BK296.out 0; have hfz10_1 := blk_frozen BK296.out 1; have hfz10_2 := blk_frozen BK296.out 2; have hfz10_3 := blk_frozen BK296.out 3; have hfz10_4 := blk_frozen BK296.out 4; have hfz10_5 := blk_frozen BK296.out 5) | ((with_reducible refine gate_callee (f := 41) rfl ?_); refine goesL_ (some 8) rfl rfl Tryd.func41 (by kernel_rfl) rfl #[.agg #[.int .i64 a0_0, .int .i64 a0_1, .int .i64 a0_2, .int .i64 a0_3, .int .i64 a0_4, .int .i64 a0_5, .slice A0_6 l0_6.length c0_6], .agg #[.int .i64 a1_0, .int .i64 a1_1, .int .i64 a1_2, .int .i64 a1_3, .int .i64 a1_4, .int .i64 a1_5]] rfl qa ?_; (with_reducible refine (spec_SourceOK.calls k a0_0 a0_1 a0_2 a0_3 a0_4 a0_5 _ _ l0_6 a1_0 a1_1 a1_2 a1_3 a1_4 a1_5 true _ ?side1 ?side2 A3.out).mono ?_); (case side1 => repeat (first | exact (Kd.C_below HR0_6.out HB.out) | (with_reducible refine Kd.C_alloc ?_ _) | (with_reducible refine Kd.C_drewN ?_ _) | (with_reducible refine Kd.C_drew ?_))); (case side2 => exact HC0_6.out); rintro e w11 ⟨rfl, hb⟩; refine ⟨_, rfl, ?_⟩; have n0_ := Aside0.mk (blk_below (g := gb295) (o := .cells #[.int .i64 a0_0, .int .i64 a0_1, .int .i64 a0_2, .int .i64 a0_3, .int .i64 a0_4, .int .i64 a0_5, .slice A0_6 l0_6.length c0_6] 46 (0, 0)) (qb BK295.out) hb); have n1_ := Aside0.mk (blk_below (g := gb296) (o := .cells #[.int .i64 a1_0, .int .i64 a1_1, .int .i64 a1_2, .int .i64 a1_3, .int .i64 a1_4, .int .i64 a1_5] 38 (0, 0)) (qb BK296.out) hb); have n2_ := Aside0.mk (below_step (qw HB.out) hb); clear BK295; clear BK296; clear HB; have BK295 := n0_; have BK296 := n1_; have HB := n2_; clear n0_ n1_ n2_; (try clear hb); (try clear hb2); (try clear hk); (try clear hi); have hcz12_0 : w11.cell? ⟨gb295, 0, none⟩ = some (.int .i64 a0_0) := (blk_cell BK295.out 0).trans rfl; have hcz12_1 : w11.cell? ⟨gb295, 1, none⟩ = some (.int .i64 a0_1) := (blk_cell BK295.out 1).trans rfl; have hcz12_2 : w11.cell? ⟨gb295, 2, none⟩ = some (.int .i64 a0_2) := (blk_cell BK295.out 2).trans rfl; have hcz12_3 : w11.cell? ⟨gb295, 3, none⟩ = some (.int .i64 a0_3) := (blk_cell BK295.out 3).trans rfl; have hcz12_4 : w11.cell? ⟨gb295, 4, none⟩ = some (.int .i64 a0_4) := (blk_cell BK295.out 4).trans rfl; have hcz12_5 : w11.cell? ⟨gb295, 5, none⟩ = some (.int .i64 a0_5) := (blk_cell BK295.out 5).trans rfl; have hcz12_6 : w11.cell? ⟨gb295, 6, none⟩ = some (.slice A0_6 l0_6.length c0_6) := (blk_cell BK295.out 6).trans rfl; have hfz12_0 := blk_frozen BK295.out 0; have hfz12_1 := blk_frozen BK295.out 1; have hfz12_2 := blk_frozen BK295.out 2; have hfz12_3 := blk_frozen BK295.out 3; have hfz12_4 := blk_frozen BK295.out 4; have hfz12_5 := blk_frozen BK295.out 5; have hfz12_6 := blk_frozen BK295.out 6) | ((with_reducible refine gate_callee (f := 42) rfl ?_); refine goesL_ (some 11) rfl rfl Tryd.func42 (by kernel_rfl) rfl #[.agg #[.int .i64 a0_0, .int .i64 a0_1, .int .i64 a0_2, .int .i64 a0_3, .int .i64 a0_4, .int .i64 a0_5, .slice A0_6 l0_6.length c0_6]] rfl qa ?_; (with_reducible refine (spec_l10Text.calls k a0_0 a0_1 a0_2 a0_3 a0_4 a0_5 _ _ l0_6 t298 _ ?side1 ?side2 A5.out).mono ?_); (case side1 => repeat (first | exact (Kd.C_below HR0_6.out HB.out) | (with_reducible refine Kd.C_alloc ?_ _) | (with_reducible refine Kd.C_drewN ?_ _) | (with_reducible refine Kd.C_drew ?_))); (case side2 => exact HC0_6.out); rintro e w13 ⟨rfl, hb⟩; refine ⟨_, rfl, ?_⟩; have n0_ := Aside0.mk (blk_below (g := gb295) (o := .cells #[.int .i64 a0_0, .int .i64 a0_1, .int .i64 a0_2, .int .i64 a0_3, .int .i64 a0_4, .int .i64 a0_5, .slice A0_6 l0_6.length c0_6] 46 (0, 0)) (qb BK295.out) hb); have n1_ := Aside0.mk (blk_below (g := gb296) (o := .cells #[.int .i64 a1_0, .int .i64 a1_1, .int .i64 a1_2, .int .i64 a1_3, .int .i64 a1_4, .int .i64 a1_5] 38 (0, 0)) (qb BK296.out) hb); have n2_ := Aside0.mk (below_step (qw HB.out) hb); clear BK295; clear BK296; clear HB; have BK295 := n0_; have BK296 := n1_; have HB := n2_; clear n0_ n1_ n2_; (try clear hb); (try clear hb2); (try clear hk); (try clear hi)))
    go_ret2
    exact ⟨qe, qw HB.out⟩
  · replace c4 := Bool.eq_false_iff.mpr c4
    subst c4
    have H1 : (some ((⟨#[]⟩ : ByteArray), 1)) = some (r1, r2) := by rw [if_neg (show ¬ (false = true) by decide)] at H; exact H
    clear H
    have H := H1
    clear H1
    simp only [Option.some.injEq, Prod.mk.injEq] at H
    obtain ⟨rfl, rfl⟩ := H
    go_enter Tryd.func20, Tryd.ntmps20
    go_wp2_with (first | ((with_reducible refine gate_dst (N := 2) rfl ?_); refine box_event ?hg (N := 2) ?hd (cs := #[.int .i64 a0_0, .int .i64 a0_1, .int .i64 a0_2, .int .i64 a0_3, .int .i64 a0_4, .int .i64 a0_5, .slice A0_6 l0_6.length c0_6]) (t := 46) ?hr ?_; (case hd => rfl); (case hg => rfl); (case hr => first | (go_simp; done) | (go_simp; rfl)); intro gb295 hg w14 hbox hb; have n0_ := Aside0.mk (below_step (qw HB.out) hb); have n1_ := Aside0.mk (hbox); have n2_ := Aside0.mk ((by rw [hg]; exact (below_size (qw HB.out)) : w.heap.size ≤ gb295)); have n3_ := Aside0.mk ((by rw [hg]; exact (below_size (qw HB.out)) : w.heap.size ≤ gb295)); clear HB; have HB := n0_; have BK295 := n1_; have GW295 := n2_; have GE295 := n3_; clear n0_ n1_ n2_ n3_; clear hb hbox hg) | ((with_reducible refine gate_dst (N := 3) rfl ?_); refine box_event ?hg (N := 3) ?hd (cs := #[.int .i64 a1_0, .int .i64 a1_1, .int .i64 a1_2, .int .i64 a1_3, .int .i64 a1_4, .int .i64 a1_5]) (t := 38) ?hr ?_; (case hd => rfl); (case hg => rfl); (case hr => first | (go_simp; done) | (go_simp; rfl)); intro gb296 hg w15 hbox hb; have n0_ := Aside0.mk (blk_below (g := gb295) (o := .cells #[.int .i64 a0_0, .int .i64 a0_1, .int .i64 a0_2, .int .i64 a0_3, .int .i64 a0_4, .int .i64 a0_5, .slice A0_6 l0_6.length c0_6] 46 (0, 0)) (qb BK295.out) hb); have n1_ := Aside0.mk (below_step (qw HB.out) hb); have n2_ := Aside0.mk (hbox); have n3_ := Aside0.mk ((by rw [hg]; exact (below_size (qw HB.out)) : w.heap.size ≤ gb296)); have n4_ := Aside0.mk ((by rw [hg]; exact (below_size (qw HB.out)) : w.heap.size ≤ gb296)); have n5_ := Aside0.mk ((by rw [hg]; exact Nat.ne_of_lt (blk_lt (g := gb295) (o := .cells #[.int .i64 a0_0, .int .i64 a0_1, .int .i64 a0_2, .int .i64 a0_3, .int .i64 a0_4, .int .i64 a0_5, .slice A0_6 l0_6.length c0_6] 46 (0, 0)) (qb BK295.out)) : gb295 ≠ gb296)); have n6_ := Aside0.mk ((by rw [hg]; exact Nat.ne_of_gt (blk_lt (g := gb295) (o := .cells #[.int .i64 a0_0, .int .i64 a0_1, .int .i64 a0_2, .int .i64 a0_3, .int .i64 a0_4, .int .i64 a0_5, .slice A0_6 l0_6.length c0_6] 46 (0, 0)) (qb BK295.out)) : gb296 ≠ gb295)); clear BK295; clear HB; have BK295 := n0_; have HB := n1_; have BK296 := n2_; have GW296 := n3_; have GE296 := n4_; have NB295_296 := n5_; have NB296_295 := n6_; clear n0_ n1_ n2_ n3_ n4_ n5_ n6_; clear hb hbox hg; have hnb16 := NB295_296.out; have hnc16 := NB296_295.out; have hcz17_0 : w15.cell? ⟨gb295, 0, none⟩ = some (.int .i64 a0_0) := (blk_cell BK295.out 0).trans rfl; have hcz17_1 : w15.cell? ⟨gb295, 1, none⟩ = some (.int .i64 a0_1) := (blk_cell BK295.out 1).trans rfl; have hcz17_2 : w15.cell? ⟨gb295, 2, none⟩ = some (.int .i64 a0_2) := (blk_cell BK295.out 2).trans rfl; have hcz17_3 : w15.cell? ⟨gb295, 3, none⟩ = some (.int .i64 a0_3) := (blk_cell BK295.out 3).trans rfl; have hcz17_4 : w15.cell? ⟨gb295, 4, none⟩ = some (.int .i64 a0_4) := (blk_cell BK295.out 4).trans rfl; have hcz17_5 : w15.cell? ⟨gb295, 5, none⟩ = some (.int .i64 a0_5) := (blk_cell BK295.out 5).trans rfl; have hcz17_6 : w15.cell? ⟨gb295, 6, none⟩ = some (.slice A0_6 l0_6.length c0_6) := (blk_cell BK295.out 6).trans rfl; have hfz17_0 := blk_frozen BK295.out 0; have hfz17_1 := blk_frozen BK295.out 1; have hfz17_2 := blk_frozen BK295.out 2; have hfz17_3 := blk_frozen BK295.out 3; have hfz17_4 := blk_frozen BK295.out 4; have hfz17_5 := blk_frozen BK295.out 5; have hfz17_6 := blk_frozen BK295.out 6; have hcz18_0 : w15.cell? ⟨gb296, 0, none⟩ = some (.int .i64 a1_0) := (blk_cell BK296.out 0).trans rfl; have hcz18_1 : w15.cell? ⟨gb296, 1, none⟩ = some (.int .i64 a1_1) := (blk_cell BK296.out 1).trans rfl; have hcz18_2 : w15.cell? ⟨gb296, 2, none⟩ = some (.int .i64 a1_2) := (blk_cell BK296.out 2).trans rfl; have hcz18_3 : w15.cell? ⟨gb296, 3, none⟩ = some (.int .i64 a1_3) := (blk_cell BK296.out 3).trans rfl; have hcz18_4 : w15.cell? ⟨gb296, 4, none⟩ = some (.int .i64 a1_4) := (blk_cell BK296.out 4).trans rfl; have hcz18_5 : w15.cell? ⟨gb296, 5, none⟩ = some (.int .i64 a1_5) := (blk_cell BK296.out 5).trans rfl; have hfz18_0 := blk_frozen BK296.out 0; have hfz18_1 := blk_frozen BK296.out 1; have hfz18_2 := blk_frozen BK296.out 2; have hfz18_3 := blk_frozen BK296.out 3; have hfz18_4 := blk_frozen BK296.out 4; have hfz18_5 := blk_frozen BK296.out 5) | ((with_reducible refine gate_callee (f := 41) rfl ?_); refine goesL_ (some 8) rfl rfl Tryd.func41 (by kernel_rfl) rfl #[.agg #[.int .i64 a0_0, .int .i64 a0_1, .int .i64 a0_2, .int .i64 a0_3, .int .i64 a0_4, .int .i64 a0_5, .slice A0_6 l0_6.length c0_6], .agg #[.int .i64 a1_0, .int .i64 a1_1, .int .i64 a1_2, .int .i64 a1_3, .int .i64 a1_4, .int .i64 a1_5]] rfl qa ?_; (with_reducible refine (spec_SourceOK.calls k a0_0 a0_1 a0_2 a0_3 a0_4 a0_5 _ _ l0_6 a1_0 a1_1 a1_2 a1_3 a1_4 a1_5 false _ ?side1 ?side2 A3.out).mono ?_); (case side1 => repeat (first | exact (Kd.C_below HR0_6.out HB.out) | (with_reducible refine Kd.C_alloc ?_ _) | (with_reducible refine Kd.C_drewN ?_ _) | (with_reducible refine Kd.C_drew ?_))); (case side2 => exact HC0_6.out); rintro e w19 ⟨rfl, hb⟩; refine ⟨_, rfl, ?_⟩; have n0_ := Aside0.mk (blk_below (g := gb295) (o := .cells #[.int .i64 a0_0, .int .i64 a0_1, .int .i64 a0_2, .int .i64 a0_3, .int .i64 a0_4, .int .i64 a0_5, .slice A0_6 l0_6.length c0_6] 46 (0, 0)) (qb BK295.out) hb); have n1_ := Aside0.mk (blk_below (g := gb296) (o := .cells #[.int .i64 a1_0, .int .i64 a1_1, .int .i64 a1_2, .int .i64 a1_3, .int .i64 a1_4, .int .i64 a1_5] 38 (0, 0)) (qb BK296.out) hb); have n2_ := Aside0.mk (below_step (qw HB.out) hb); clear BK295; clear BK296; clear HB; have BK295 := n0_; have BK296 := n1_; have HB := n2_; clear n0_ n1_ n2_; (try clear hb); (try clear hb2); (try clear hk); (try clear hi)))
    go_ret2
    exact ⟨qe, qw HB.out⟩

end Go.Proofs.YtkeoifkdejnpfaaDoor.G
