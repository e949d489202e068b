-- by gprint.py (a program of this session's own), over the kit's print.py; Lean checks it
import Derived.Test.YtkeoifkdejnpfaaDoorGx0
import Derived.Test.YtkeoifkdejnpfaaDoorGx1
namespace Go.Proofs.YtkeoifkdejnpfaaDoor.G
open Go.RowKit Go.Proofs.YtkeoifkdejnpfaaDoorW.PrintWords Go.Proofs.YtkeoifkdejnpfaaDoorW.PrintLast Go.Proofs.YtkeoifkdejnpfaaDoorW.PrintMore
attribute [local go_sem] max2_int min2_int max_two min_two max_three min_three max_four min_four   -- for this text's walks alone
set_option linter.unusedVariables false
set_option linter.unusedSimpArgs false

/-! ### spec_l13Log: function 30 -/
def spec_l13Log.l0 : Nat → List (S61) → List ByteArray → Int → Option (List ByteArray)
  | 0, _, _, _ => none
  | k + 1, x0, x3, x4 => if x4 < (x0.length : Int) then (if 0 ≤ x4 then ((spec_l00Digits.f k ((rd_T61 x0 x4).f0)).bind fun t114 => (if 5 + t114.size ≤ 9223372036854775807 then (if ((⟨#[116, 97, 115, 107, 32]⟩ : ByteArray) ++ t114).size + 9 ≤ 9223372036854775807 then ((spec_l00Digits.f k ((rd_T61 x0 x4).f1)).bind fun t115 => (if (((⟨#[116, 97, 115, 107, 32]⟩ : ByteArray) ++ t114) ++ (⟨#[32, 97, 114, 114, 105, 118, 101, 100, 32]⟩ : ByteArray)).size + t115.size ≤ 9223372036854775807 then (if ((((⟨#[116, 97, 115, 107, 32]⟩ : ByteArray) ++ t114) ++ (⟨#[32, 97, 114, 114, 105, 118, 101, 100, 32]⟩ : ByteArray)) ++ t115).size + 9 ≤ 9223372036854775807 then ((spec_l00Digits.f k ((rd_T61 x0 x4).f2)).bind fun t116 => (if (((((⟨#[116, 97, 115, 107, 32]⟩ : ByteArray) ++ t114) ++ (⟨#[32, 97, 114, 114, 105, 118, 101, 100, 32]⟩ : ByteArray)) ++ t115) ++ (⟨#[32, 115, 116, 97, 114, 116, 101, 100, 32]⟩ : ByteArray)).size + t116.size ≤ 9223372036854775807 then (if ((((((⟨#[116, 97, 115, 107, 32]⟩ : ByteArray) ++ t114) ++ (⟨#[32, 97, 114, 114, 105, 118, 101, 100, 32]⟩ : ByteArray)) ++ t115) ++ (⟨#[32, 115, 116, 97, 114, 116, 101, 100, 32]⟩ : ByteArray)) ++ t116).size + 10 ≤ 9223372036854775807 then ((spec_l00Digits.f k ((rd_T61 x0 x4).f3)).bind fun t117 => (if (((((((⟨#[116, 97, 115, 107, 32]⟩ : ByteArray) ++ t114) ++ (⟨#[32, 97, 114, 114, 105, 118, 101, 100, 32]⟩ : ByteArray)) ++ t115) ++ (⟨#[32, 115, 116, 97, 114, 116, 101, 100, 32]⟩ : ByteArray)) ++ t116) ++ (⟨#[32, 102, 105, 110, 105, 115, 104, 101, 100, 32]⟩ : ByteArray)).size + t117.size ≤ 9223372036854775807 then (if x3.length < 8796093022208 then (spec_l13Log.l0 k x0 (x3 ++ [(((((((⟨#[116, 97, 115, 107, 32]⟩ : ByteArray) ++ t114) ++ (⟨#[32, 97, 114, 114, 105, 118, 101, 100, 32]⟩ : ByteArray)) ++ t115) ++ (⟨#[32, 115, 116, 97, 114, 116, 101, 100, 32]⟩ : ByteArray)) ++ t116) ++ (⟨#[32, 102, 105, 110, 105, 115, 104, 101, 100, 32]⟩ : ByteArray)) ++ t117]) (wrap64 (x4 + 1))) else (none)) else (none))) else (none)) else (none))) else (none)) else (none))) else (none)) else (none))) else (none)) else (some x3)
def spec_l13Log.f (k : Nat) (l0 : List (S61)) : Option (List ByteArray) := spec_l13Log.l0 k l0 (([] : List ByteArray)) 0
theorem spec_l13Log.mono_l : ∀ k, (∀ y0 y1 y2, LeO (spec_l13Log.l0 k y0 y1 y2) (spec_l13Log.l0 (k + 1) y0 y1 y2))
  | 0 => fun _ _ _ r h => by simp [spec_l13Log.l0] at h
  | k + 1 => by
    have ih0 := spec_l13Log.mono_l k
    · intro y0 y1 y2
      unfold spec_l13Log.l0
      repeat' first
      | (with_reducible exact ih0 _ _ _)
      | (with_reducible exact spec_l00Digits.mono _ _)
      | (with_reducible exact LeO.refl _)
      | (with_reducible exact LeO.none _)
      | (with_reducible refine LeO.ite ?_ ?_)
      | (with_reducible refine LeO.bind ?_ (fun _ => ?_))
      | exact ih0 _ _ _
      | exact spec_l00Digits.mono _ _
      | exact LeO.none _
      | refine LeO.ite ?_ ?_
      | refine LeO.bind ?_ (fun _ => ?_)
theorem spec_l13Log.mono : ∀ a0 k, LeO (spec_l13Log.f k a0) (spec_l13Log.f (k + 1) a0) := by
  intro a0 k
  have ih0 := spec_l13Log.mono_l k
  unfold spec_l13Log.f
  repeat' first
      | (with_reducible exact ih0 _ _ _)
      | (with_reducible exact spec_l00Digits.mono _ _)
      | (with_reducible exact LeO.refl _)
      | (with_reducible exact LeO.none _)
      | (with_reducible refine LeO.ite ?_ ?_)
      | (with_reducible refine LeO.bind ?_ (fun _ => ?_))
      | exact ih0 _ _ _
      | exact spec_l00Digits.mono _ _
      | exact LeO.none _
      | refine LeO.ite ?_ ?_
      | refine LeO.bind ?_ (fun _ => ?_)
def spec_l13Log.T6 : Bool × List (List Nat × List Nat) := (true, [([], []), ([], []), ([1], [1]), ([2], [2]), ([3], [3]), ([4], [4]), ([], []), ([6], [6]), ([7, 3], [7]), ([5, 8], [5, 8]), ([9], [9]), ([], []), ([11], [11]), ([12, 8], [12]), ([10, 13], [10, 13]), ([14], [14]), ([], []), ([16], [16]), ([17, 13], [17]), ([15, 18], [15, 18]), ([19], [19]), ([0, 20, 18], [0, 20]), ([21, 21, 0, 1, 2, 3, 4, 5, 6, 7, 8, 9, 10, 11, 12, 13, 14, 15, 16, 17, 18, 19, 20, 21], [0, 21])])
def spec_l13Log.B6 : List Nat := [0, 0, 2, 6, 14, 30, 0, 64, 206, 510, 1022, 0, 2048, 6606, 16382, 32766, 0, 65536, 211406, 524286, 1048574, 2097151, 4194303]
theorem spec_l13Log.tab6 : rtab .any (opsOf Tryd.f30 6) = spec_l13Log.T6 := by kernel_rfl
theorem spec_l13Log.bits6 : waitsOk spec_l13Log.T6.2 spec_l13Log.B6 = true := by kernel_rfl
set_option maxHeartbeats 8000000 in
set_option maxRecDepth 100000 in
theorem spec_l13Log.calls (k : Nat) (A0 : Option Addr) (c0 : Nat) (l0 : List (S61)) (r : List ByteArray) (w : World) (hr0 : Kd.C k61 w A0 l0.length l0) (hc0 : l0.length ≤ c0) (h : spec_l13Log.f k l0 = some r) :
    Calls Tryd.prog 30 #[.slice A0 l0.length c0] w fun e w' => ∃ v0_ : Value, e = .returned (v0_) ∧ Kd.R Kd.string 9 w' w.heap.size (fun _ => True) v0_ r ∧ Below w.heap.size w w' := by
  have hu61 := Tryd.underlying61
  have HR0 := Aside0.mk hr0
  have HC0 := Aside0.mk hc0
  clear hr0 hc0
  have HB := Aside0.mk (Below.refl w.heap.size w)
  have H : (spec_l13Log.l0 k l0 (([] : List ByteArray)) 0) = some r := h
  clear h
  obtain ⟨y109, hy109⟩ : ∃ y_ : List ByteArray, y_ = (([] : List ByteArray)) := ⟨_, rfl⟩
  replace H : (spec_l13Log.l0 k l0 y109 0) = some r := by first | (rw [hy109]; with_reducible exact H) | (have H2_ := (Option.bind_some _ _).symm.trans H; rw [hy109]; with_reducible exact H2_) | (have H2_ := (Option.bind_some _ _).symm.trans H; with_reducible exact H2_) | with_reducible exact H | (rw [hy109]; exact H) | exact H
  have Ny109 := Aside0.mk hy109
  clear hy109
  have H' := Aside0.mk H
  clear H
  go_enter Tryd.func30, Tryd.ntmps30
  go_wp2_with (first | ((with_reducible refine gate_dst (N := 6) rfl ?_); refine Kd.R_lit Kd.string _ 9 ?hg (N := 6) ?hd (xs := ([] : List ByteArray)) (inner := []) (ok := fun _ => True) (okp := fun _ => True) ?hr ?hp (fun _ hk => hk) trivial (Below.refl _ _) (Nat.le_refl _) (by simp) ?_; (case hd => rfl); (case hg => rfl); (case hr => first | (go_simp; done) | (go_simp; rfl)); (case hp => exact (Reps.none _ _)); intro v110 w2 ho3 hb hg_ hnew_; clear hg_ hnew_; (first | rw [← Ny109.out] at ho3 | (simp only [Int.reduceToNat] at ho3; rw [← Ny109.out] at ho3)); have n0_ := Aside0.mk (Kd.R_lower ho3 (below_size (by repeat (first | (with_reducible first | exact HB.out | apply below_alloc | apply pw_below_drewN | apply below_drew1) | exact HB.out)))); have n1_ := Aside0.mk (below_step (by repeat (first | (with_reducible first | exact HB.out | apply below_alloc | apply pw_below_drewN | apply below_drew1) | exact HB.out)) hb); clear HB; have HO111 := n0_; have HB := n1_; clear n0_ n1_; clear hb ho3))
  go_loopg [3, 4] k (fun kq v3 v4 w' => ∃ (x3_1 : List ByteArray) (x4_1 : Int), v4 = .int .i64 x4_1 ∧ Aside0 (spec_l13Log.l0 kq l0 x3_1 x4_1 = some r) ∧ Aside0 (kq ≤ k) ∧ Aside0 (Kd.R Kd.string 9 w' w.heap.size (fun _ => True) v3 x3_1) ∧ Aside0 (Below w.heap.size w w'))
  case atStart => exact ⟨(y109), (0), (by first | rfl | (simp; done) | (simp [*]; done)), H', ⟨Nat.le_refl _⟩, ⟨by (with_reducible repeat (first | apply Kd.R_alloc | apply Kd.R_drewN | apply Kd.R_drew)); exact HO111.out⟩, ⟨by repeat (first | (with_reducible first | exact HB.out | apply below_alloc | apply pw_below_drewN | apply below_drew1) | exact HB.out)⟩⟩
  case round =>
    clear H'
    try clear p2
    try clear c3
    obtain ⟨x3_1, x4_1, rfl, HA, HK1, HO_3, HB⟩ := hrel
    cases gk with
    | zero => exact absurd HA.out (by simp [spec_l13Log.l0])
    | succ k1 =>
      have H := HA.out
      clear HA
      simp only [spec_l13Log.l0] at H
      by_cases c4 : x4_1 < (l0.length : Int)
      · rw [if_pos c4] at H
        have c4b0 : decide (x4_1 < (l0.length : Int)) = true := decide_eq_true c4
        clear c4
        by_cases c5 : 0 ≤ x4_1
        · rw [if_pos c5] at H
          have c5b0 : decide (0 ≤ x4_1) = true := decide_eq_true c5
          clear c5
          replace H := Option.bind_eq_some_iff.mp H
          obtain ⟨t114, A60, H⟩ := H
          replace H : (if 5 + t114.size ≤ 9223372036854775807 then (if ((⟨#[116, 97, 115, 107, 32]⟩ : ByteArray) ++ t114).size + 9 ≤ 9223372036854775807 then ((spec_l00Digits.f k1 ((rd_T61 l0 x4_1).f1)).bind fun t115 => (if (((⟨#[116, 97, 115, 107, 32]⟩ : ByteArray) ++ t114) ++ (⟨#[32, 97, 114, 114, 105, 118, 101, 100, 32]⟩ : ByteArray)).size + t115.size ≤ 9223372036854775807 then (if ((((⟨#[116, 97, 115, 107, 32]⟩ : ByteArray) ++ t114) ++ (⟨#[32, 97, 114, 114, 105, 118, 101, 100, 32]⟩ : ByteArray)) ++ t115).size + 9 ≤ 9223372036854775807 then ((spec_l00Digits.f k1 ((rd_T61 l0 x4_1).f2)).bind fun t116 => (if (((((⟨#[116, 97, 115, 107, 32]⟩ : ByteArray) ++ t114) ++ (⟨#[32, 97, 114, 114, 105, 118, 101, 100, 32]⟩ : ByteArray)) ++ t115) ++ (⟨#[32, 115, 116, 97, 114, 116, 101, 100, 32]⟩ : ByteArray)).size + t116.size ≤ 9223372036854775807 then (if ((((((⟨#[116, 97, 115, 107, 32]⟩ : ByteArray) ++ t114) ++ (⟨#[32, 97, 114, 114, 105, 118, 101, 100, 32]⟩ : ByteArray)) ++ t115) ++ (⟨#[32, 115, 116, 97, 114, 116, 101, 100, 32]⟩ : ByteArray)) ++ t116).size + 10 ≤ 9223372036854775807 then ((spec_l00Digits.f k1 ((rd_T61 l0 x4_1).f3)).bind fun t117 => (if (((((((⟨#[116, 97, 115, 107, 32]⟩ : ByteArray) ++ t114) ++ (⟨#[32, 97, 114, 114, 105, 118, 101, 100, 32]⟩ : ByteArray)) ++ t115) ++ (⟨#[32, 115, 116, 97, 114, 116, 101, 100, 32]⟩ : ByteArray)) ++ t116) ++ (⟨#[32, 102, 105, 110, 105, 115, 104, 101, 100, 32]⟩ : ByteArray)).size + t117.size ≤ 9223372036854775807 then (if x3_1.length < 8796093022208 then (spec_l13Log.l0 k1 l0 (x3_1 ++ [(((((((⟨#[116, 97, 115, 107, 32]⟩ : ByteArray) ++ t114) ++ (⟨#[32, 97, 114, 114, 105, 118, 101, 100, 32]⟩ : ByteArray)) ++ t115) ++ (⟨#[32, 115, 116, 97, 114, 116, 101, 100, 32]⟩ : ByteArray)) ++ t116) ++ (⟨#[32, 102, 105, 110, 105, 115, 104, 101, 100, 32]⟩ : ByteArray)) ++ t117]) (wrap64 (x4_1 + 1))) else (none)) else (none))) else (none)) else (none))) else (none)) else (none))) else (none)) else (none)) = some r := H
          have A6 := Aside0.mk A60
          clear A60
          by_cases c7 : 5 + t114.size ≤ 9223372036854775807
          · rw [if_pos c7] at H
            have c7b0 := eq_true c7
            have c7b1 : decide (5 + t114.size ≤ 9223372036854775807) = true := decide_eq_true c7
            try have c7b2 : (9223372036854775807 < 5 + t114.size) = False := eq_false (Nat.not_lt.2 c7)
            by_cases c8 : ((⟨#[116, 97, 115, 107, 32]⟩ : ByteArray) ++ t114).size + 9 ≤ 9223372036854775807
            · rw [if_pos c8] at H
              have c8b0 := eq_true c8
              have c8b1 : decide (((⟨#[116, 97, 115, 107, 32]⟩ : ByteArray) ++ t114).size + 9 ≤ 9223372036854775807) = true := decide_eq_true c8
              try have c8b2 : (9223372036854775807 < ((⟨#[116, 97, 115, 107, 32]⟩ : ByteArray) ++ t114).size + 9) = False := eq_false (Nat.not_lt.2 c8)
              try (have c8b3 := c8b2; simp only [ByteArray.size_append] at c8b3)
              try (have c8b4 : (9223372036854775807 < 5 + t114.size + 9) = False := by have h_ := c8b2; simp only [ByteArray.size_append] at h_; exact h_)
              replace H := Option.bind_eq_some_iff.mp H
              obtain ⟨t115, A90, H⟩ := H
              replace H : (if (((⟨#[116, 97, 115, 107, 32]⟩ : ByteArray) ++ t114) ++ (⟨#[32, 97, 114, 114, 105, 118, 101, 100, 32]⟩ : ByteArray)).size + t115.size ≤ 9223372036854775807 then (if ((((⟨#[116, 97, 115, 107, 32]⟩ : ByteArray) ++ t114) ++ (⟨#[32, 97, 114, 114, 105, 118, 101, 100, 32]⟩ : ByteArray)) ++ t115).size + 9 ≤ 9223372036854775807 then ((spec_l00Digits.f k1 ((rd_T61 l0 x4_1).f2)).bind fun t116 => (if (((((⟨#[116, 97, 115, 107, 32]⟩ : ByteArray) ++ t114) ++ (⟨#[32, 97, 114, 114, 105, 118, 101, 100, 32]⟩ : ByteArray)) ++ t115) ++ (⟨#[32, 115, 116, 97, 114, 116, 101, 100, 32]⟩ : ByteArray)).size + t116.size ≤ 9223372036854775807 then (if ((((((⟨#[116, 97, 115, 107, 32]⟩ : ByteArray) ++ t114) ++ (⟨#[32, 97, 114, 114, 105, 118, 101, 100, 32]⟩ : ByteArray)) ++ t115) ++ (⟨#[32, 115, 116, 97, 114, 116, 101, 100, 32]⟩ : ByteArray)) ++ t116).size + 10 ≤ 9223372036854775807 then ((spec_l00Digits.f k1 ((rd_T61 l0 x4_1).f3)).bind fun t117 => (if (((((((⟨#[116, 97, 115, 107, 32]⟩ : ByteArray) ++ t114) ++ (⟨#[32, 97, 114, 114, 105, 118, 101, 100, 32]⟩ : ByteArray)) ++ t115) ++ (⟨#[32, 115, 116, 97, 114, 116, 101, 100, 32]⟩ : ByteArray)) ++ t116) ++ (⟨#[32, 102, 105, 110, 105, 115, 104, 101, 100, 32]⟩ : ByteArray)).size + t117.size ≤ 9223372036854775807 then (if x3_1.length < 8796093022208 then (spec_l13Log.l0 k1 l0 (x3_1 ++ [(((((((⟨#[116, 97, 115, 107, 32]⟩ : ByteArray) ++ t114) ++ (⟨#[32, 97, 114, 114, 105, 118, 101, 100, 32]⟩ : ByteArray)) ++ t115) ++ (⟨#[32, 115, 116, 97, 114, 116, 101, 100, 32]⟩ : ByteArray)) ++ t116) ++ (⟨#[32, 102, 105, 110, 105, 115, 104, 101, 100, 32]⟩ : ByteArray)) ++ t117]) (wrap64 (x4_1 + 1))) else (none)) else (none))) else (none)) else (none))) else (none)) else (none)) = some r := H
              have A9 := Aside0.mk A90
              clear A90
              by_cases c10 : (((⟨#[116, 97, 115, 107, 32]⟩ : ByteArray) ++ t114) ++ (⟨#[32, 97, 114, 114, 105, 118, 101, 100, 32]⟩ : ByteArray)).size + t115.size ≤ 9223372036854775807
              · rw [if_pos c10] at H
                have c10b0 := eq_true c10
                have c10b1 : decide ((((⟨#[116, 97, 115, 107, 32]⟩ : ByteArray) ++ t114) ++ (⟨#[32, 97, 114, 114, 105, 118, 101, 100, 32]⟩ : ByteArray)).size + t115.size ≤ 9223372036854775807) = true := decide_eq_true c10
                try have c10b2 : (9223372036854775807 < (((⟨#[116, 97, 115, 107, 32]⟩ : ByteArray) ++ t114) ++ (⟨#[32, 97, 114, 114, 105, 118, 101, 100, 32]⟩ : ByteArray)).size + t115.size) = False := eq_false (Nat.not_lt.2 c10)
                try (have c10b3 := c10b2; simp only [ByteArray.size_append] at c10b3)
                try (have c10b4 : (9223372036854775807 < 5 + t114.size + 9 + t115.size) = False := by have h_ := c10b2; simp only [ByteArray.size_append] at h_; exact h_)
                by_cases c11 : ((((⟨#[116, 97, 115, 107, 32]⟩ : ByteArray) ++ t114) ++ (⟨#[32, 97, 114, 114, 105, 118, 101, 100, 32]⟩ : ByteArray)) ++ t115).size + 9 ≤ 9223372036854775807
                · rw [if_pos c11] at H
                  have c11b0 := eq_true c11
                  have c11b1 : decide (((((⟨#[116, 97, 115, 107, 32]⟩ : ByteArray) ++ t114) ++ (⟨#[32, 97, 114, 114, 105, 118, 101, 100, 32]⟩ : ByteArray)) ++ t115).size + 9 ≤ 9223372036854775807) = true := decide_eq_true c11
                  try have c11b2 : (9223372036854775807 < ((((⟨#[116, 97, 115, 107, 32]⟩ : ByteArray) ++ t114) ++ (⟨#[32, 97, 114, 114, 105, 118, 101, 100, 32]⟩ : ByteArray)) ++ t115).size + 9) = False := eq_false (Nat.not_lt.2 c11)
                  try (have c11b3 := c11b2; simp only [ByteArray.size_append] at c11b3)
                  try (have c11b4 : (9223372036854775807 < 5 + t114.size + 9 + t115.size + 9) = False := by have h_ := c11b2; simp only [ByteArray.size_append] at h_; exact h_)
                  replace H := Option.bind_eq_some_iff.mp H
                  obtain ⟨t116, A120, H⟩ := H
                  replace H : (if (((((⟨#[116, 97, 115, 107, 32]⟩ : ByteArray) ++ t114) ++ (⟨#[32, 97, 114, 114, 105, 118, 101, 100, 32]⟩ : ByteArray)) ++ t115) ++ (⟨#[32, 115, 116, 97, 114, 116, 101, 100, 32]⟩ : ByteArray)).size + t116.size ≤ 9223372036854775807 then (if ((((((⟨#[116, 97, 115, 107, 32]⟩ : ByteArray) ++ t114) ++ (⟨#[32, 97, 114, 114, 105, 118, 101, 100, 32]⟩ : ByteArray)) ++ t115) ++ (⟨#[32, 115, 116, 97, 114, 116, 101, 100, 32]⟩ : ByteArray)) ++ t116).size + 10 ≤ 9223372036854775807 then ((spec_l00Digits.f k1 ((rd_T61 l0 x4_1).f3)).bind fun t117 => (if (((((((⟨#[116, 97, 115, 107, 32]⟩ : ByteArray) ++ t114) ++ (⟨#[32, 97, 114, 114, 105, 118, 101, 100, 32]⟩ : ByteArray)) ++ t115) ++ (⟨#[32, 115, 116, 97, 114, 116, 101, 100, 32]⟩ : ByteArray)) ++ t116) ++ (⟨#[32, 102, 105, 110, 105, 115, 104, 101, 100, 32]⟩ : ByteArray)).size + t117.size ≤ 9223372036854775807 then (if x3_1.length < 8796093022208 then (spec_l13Log.l0 k1 l0 (x3_1 ++ [(((((((⟨#[116, 97, 115, 107, 32]⟩ : ByteArray) ++ t114) ++ (⟨#[32, 97, 114, 114, 105, 118, 101, 100, 32]⟩ : ByteArray)) ++ t115) ++ (⟨#[32, 115, 116, 97, 114, 116, 101, 100, 32]⟩ : ByteArray)) ++ t116) ++ (⟨#[32, 102, 105, 110, 105, 115, 104, 101, 100, 32]⟩ : ByteArray)) ++ t117]) (wrap64 (x4_1 + 1))) else (none)) else (none))) else (none)) else (none)) = some r := H
                  have A12 := Aside0.mk A120
                  clear A120
                  by_cases c13 : (((((⟨#[116, 97, 115, 107, 32]⟩ : ByteArray) ++ t114) ++ (⟨#[32, 97, 114, 114, 105, 118, 101, 100, 32]⟩ : ByteArray)) ++ t115) ++ (⟨#[32, 115, 116, 97, 114, 116, 101, 100, 32]⟩ : ByteArray)).size + t116.size ≤ 9223372036854775807
                  · rw [if_pos c13] at H
                    have c13b0 := eq_true c13
                    have c13b1 : decide ((((((⟨#[116, 97, 115, 107, 32]⟩ : ByteArray) ++ t114) ++ (⟨#[32, 97, 114, 114, 105, 118, 101, 100, 32]⟩ : ByteArray)) ++ t115) ++ (⟨#[32, 115, 116, 97, 114, 116, 101, 100, 32]⟩ : ByteArray)).size + t116.size ≤ 9223372036854775807) = true := decide_eq_true c13
                    try have c13b2 : (9223372036854775807 < (((((⟨#[116, 97, 115, 107, 32]⟩ : ByteArray) ++ t114) ++ (⟨#[32, 97, 114, 114, 105, 118, 101, 100, 32]⟩ : ByteArray)) ++ t115) ++ (⟨#[32, 115, 116, 97, 114, 116, 101, 100, 32]⟩ : ByteArray)).size + t116.size) = False := eq_false (Nat.not_lt.2 c13)
                    try (have c13b3 := c13b2; simp only [ByteArray.size_append] at c13b3)
                    try (have c13b4 : (9223372036854775807 < 5 + t114.size + 9 + t115.size + 9 + t116.size) = False := by have h_ := c13b2; simp only [ByteArray.size_append] at h_; exact h_)
                    by_cases c14 : ((((((⟨#[116, 97, 115, 107, 32]⟩ : ByteArray) ++ t114) ++ (⟨#[32, 97, 114, 114, 105, 118, 101, 100, 32]⟩ : ByteArray)) ++ t115) ++ (⟨#[32, 115, 116, 97, 114, 116, 101, 100, 32]⟩ : ByteArray)) ++ t116).size + 10 ≤ 9223372036854775807
                    · rw [if_pos c14] at H
                      have c14b0 := eq_true c14
                      have c14b1 : decide (((((((⟨#[116, 97, 115, 107, 32]⟩ : ByteArray) ++ t114) ++ (⟨#[32, 97, 114, 114, 105, 118, 101, 100, 32]⟩ : ByteArray)) ++ t115) ++ (⟨#[32, 115, 116, 97, 114, 116, 101, 100, 32]⟩ : ByteArray)) ++ t116).size + 10 ≤ 9223372036854775807) = true := decide_eq_true c14
                      try have c14b2 : (9223372036854775807 < ((((((⟨#[116, 97, 115, 107, 32]⟩ : ByteArray) ++ t114) ++ (⟨#[32, 97, 114, 114, 105, 118, 101, 100, 32]⟩ : ByteArray)) ++ t115) ++ (⟨#[32, 115, 116, 97, 114, 116, 101, 100, 32]⟩ : ByteArray)) ++ t116).size + 10) = False := eq_false (Nat.not_lt.2 c14)
                      try (have c14b3 := c14b2; simp only [ByteArray.size_append] at c14b3)
                      try (have c14b4 : (9223372036854775807 < 5 + t114.size + 9 + t115.size + 9 + t116.size + 10) = False := by have h_ := c14b2; simp only [ByteArray.size_append] at h_; exact h_)
                      replace H := Option.bind_eq_some_iff.mp H
                      obtain ⟨t117, A150, H⟩ := H
                      replace H : (if (((((((⟨#[116, 97, 115, 107, 32]⟩ : ByteArray) ++ t114) ++ (⟨#[32, 97, 114, 114, 105, 118, 101, 100, 32]⟩ : ByteArray)) ++ t115) ++ (⟨#[32, 115, 116, 97, 114, 116, 101, 100, 32]⟩ : ByteArray)) ++ t116) ++ (⟨#[32, 102, 105, 110, 105, 115, 104, 101, 100, 32]⟩ : ByteArray)).size + t117.size ≤ 9223372036854775807 then (if x3_1.length < 8796093022208 then (spec_l13Log.l0 k1 l0 (x3_1 ++ [(((((((⟨#[116, 97, 115, 107, 32]⟩ : ByteArray) ++ t114) ++ (⟨#[32, 97, 114, 114, 105, 118, 101, 100, 32]⟩ : ByteArray)) ++ t115) ++ (⟨#[32, 115, 116, 97, 114, 116, 101, 100, 32]⟩ : ByteArray)) ++ t116) ++ (⟨#[32, 102, 105, 110, 105, 115, 104, 101, 100, 32]⟩ : ByteArray)) ++ t117]) (wrap64 (x4_1 + 1))) else (none)) else (none)) = some r := H
                      have A15 := Aside0.mk A150
                      clear A150
                      by_cases c16 : (((((((⟨#[116, 97, 115, 107, 32]⟩ : ByteArray) ++ t114) ++ (⟨#[32, 97, 114, 114, 105, 118, 101, 100, 32]⟩ : ByteArray)) ++ t115) ++ (⟨#[32, 115, 116, 97, 114, 116, 101, 100, 32]⟩ : ByteArray)) ++ t116) ++ (⟨#[32, 102, 105, 110, 105, 115, 104, 101, 100, 32]⟩ : ByteArray)).size + t117.size ≤ 9223372036854775807
                      · rw [if_pos c16] at H
                        have c16b0 := eq_true c16
                        have c16b1 : decide ((((((((⟨#[116, 97, 115, 107, 32]⟩ : ByteArray) ++ t114) ++ (⟨#[32, 97, 114, 114, 105, 118, 101, 100, 32]⟩ : ByteArray)) ++ t115) ++ (⟨#[32, 115, 116, 97, 114, 116, 101, 100, 32]⟩ : ByteArray)) ++ t116) ++ (⟨#[32, 102, 105, 110, 105, 115, 104, 101, 100, 32]⟩ : ByteArray)).size + t117.size ≤ 9223372036854775807) = true := decide_eq_true c16
                        try have c16b2 : (9223372036854775807 < (((((((⟨#[116, 97, 115, 107, 32]⟩ : ByteArray) ++ t114) ++ (⟨#[32, 97, 114, 114, 105, 118, 101, 100, 32]⟩ : ByteArray)) ++ t115) ++ (⟨#[32, 115, 116, 97, 114, 116, 101, 100, 32]⟩ : ByteArray)) ++ t116) ++ (⟨#[32, 102, 105, 110, 105, 115, 104, 101, 100, 32]⟩ : ByteArray)).size + t117.size) = False := eq_false (Nat.not_lt.2 c16)
                        try (have c16b3 := c16b2; simp only [ByteArray.size_append] at c16b3)
                        try (have c16b4 : (9223372036854775807 < 5 + t114.size + 9 + t115.size + 9 + t116.size + 10 + t117.size) = False := by have h_ := c16b2; simp only [ByteArray.size_append] at h_; exact h_)
                        by_cases c17 : x3_1.length < 8796093022208
                        · rw [if_pos c17] at H
                          have LMc17 := Aside0.mk c17
                          clear c17
                          obtain ⟨y118, hy118⟩ : ∃ y_ : List ByteArray, y_ = (x3_1 ++ [(((((((⟨#[116, 97, 115, 107, 32]⟩ : ByteArray) ++ t114) ++ (⟨#[32, 97, 114, 114, 105, 118, 101, 100, 32]⟩ : ByteArray)) ++ t115) ++ (⟨#[32, 115, 116, 97, 114, 116, 101, 100, 32]⟩ : ByteArray)) ++ t116) ++ (⟨#[32, 102, 105, 110, 105, 115, 104, 101, 100, 32]⟩ : ByteArray)) ++ t117]) := ⟨_, rfl⟩
                          replace H : (spec_l13Log.l0 k1 l0 y118 (wrap64 (x4_1 + 1))) = some r := by first | (rw [hy118]; with_reducible exact H) | (have H2_ := (Option.bind_some _ _).symm.trans H; rw [hy118]; with_reducible exact H2_) | (have H2_ := (Option.bind_some _ _).symm.trans H; with_reducible exact H2_) | with_reducible exact H | (rw [hy118]; exact H) | exact H
                          have Ny118 := Aside0.mk hy118
                          clear hy118
                          have H' := Aside0.mk H
                          clear H
                          have p112 : 0 ≤ (x4_1 : Int) := of_decide_eq_true (by first | (with_reducible assumption) | assumption)
                          have q112 : x4_1 < (l0.length : Int) := of_decide_eq_true (by first | (with_reducible assumption) | assumption)
                          obtain ⟨ad112, e112, hx112_0, hx112_1, hx112_2, hx112_3⟩ := at_T61 HR0.out x4_1 p112 q112
                          cases e112
                          replace hx112_0 := (HB.out.cell (World.block_lt_of_cell? w _ hx112_0)).trans hx112_0
                          replace hx112_1 := (HB.out.cell (World.block_lt_of_cell? w _ hx112_1)).trans hx112_1
                          replace hx112_2 := (HB.out.cell (World.block_lt_of_cell? w _ hx112_2)).trans hx112_2
                          replace hx112_3 := (HB.out.cell (World.block_lt_of_cell? w _ hx112_3)).trans hx112_3
                          replace p112 := eq_true p112
                          replace q112 := eq_true q112
                          try go_wp2_with (first | ((with_reducible refine gate_dst (N := 5) rfl ?_); refine box_event ?hg (N := 5) ?hd (cs := #[.int .i64 0, .int .i64 0, .int .i64 0, .int .i64 0]) (t := 61) ?hr ?_; (case hd => rfl); (case hg => rfl); (case hr => first | (go_simp; done) | (go_simp; rfl)); intro gb113 hg w18 hbox hb; have n0_ := Aside0.mk (Kd.R_below (by (with_reducible repeat (first | apply Kd.R_alloc | apply Kd.R_drewN | apply Kd.R_drew)); exact HO_3.out) hb); have n1_ := Aside0.mk (below_step (by repeat (first | (with_reducible first | exact HB.out | apply below_alloc | apply pw_below_drewN | apply below_drew1) | exact HB.out)) hb); have n2_ := Aside0.mk (hbox); have n3_ := Aside0.mk ((by rw [hg]; exact (below_size (by repeat (first | (with_reducible first | exact HB.out | apply below_alloc | apply pw_below_drewN | apply below_drew1) | exact HB.out))) : w.heap.size ≤ gb113)); have n4_ := Aside0.mk ((by rw [hg]; exact (below_size (by repeat (first | (with_reducible first | exact HB.out | apply below_alloc | apply pw_below_drewN | apply below_drew1) | exact HB.out))) : w.heap.size ≤ gb113)); clear HO_3; clear HB; have HO_3 := n0_; have HB := n1_; have BK113 := n2_; have GW113 := n3_; have GE113 := n4_; clear n0_ n1_ n2_ n3_ n4_; clear hb hbox hg; have hcz19_0 : w18.cell? ⟨gb113, 0, none⟩ = some (.int .i64 0) := (blk_cell BK113.out 0).trans rfl; have hcz19_1 : w18.cell? ⟨gb113, 1, none⟩ = some (.int .i64 0) := (blk_cell BK113.out 1).trans rfl; have hcz19_2 : w18.cell? ⟨gb113, 2, none⟩ = some (.int .i64 0) := (blk_cell BK113.out 2).trans rfl; have hcz19_3 : w18.cell? ⟨gb113, 3, none⟩ = some (.int .i64 0) := (blk_cell BK113.out 3).trans rfl; have hfz19_0 := blk_frozen BK113.out 0; have hfz19_1 := blk_frozen BK113.out 1; have hfz19_2 := blk_frozen BK113.out 2; have hfz19_3 := blk_frozen BK113.out 3))
                          have n0_ : Aside0 (Kd.R Kd.string 9 ((((w18.setCell ⟨gb113, 0, none⟩ (.int .i64 ((rd_T61 l0 x4_1).f0))).setCell ⟨gb113, 1, none⟩ (.int .i64 ((rd_T61 l0 x4_1).f1))).setCell ⟨gb113, 2, none⟩ (.int .i64 ((rd_T61 l0 x4_1).f2))).setCell ⟨gb113, 3, none⟩ (.int .i64 ((rd_T61 l0 x4_1).f3))) w.heap.size (fun _ => True) u3 x3_1) := ⟨by (with_reducible repeat (first | apply Kd.R_alloc | apply Kd.R_drewN | apply Kd.R_drew)); exact Kd.R_mono (Kd.R_far (p := ⟨gb113, 3, none⟩) (Kd.R_far (p := ⟨gb113, 2, none⟩) (Kd.R_far (p := ⟨gb113, 1, none⟩) (Kd.R_far (p := ⟨gb113, 0, none⟩) (Kd.R_types HO_3.out BK113.out (by decide)) (fun _ hk => hk.2) (.int .i64 ((rd_T61 l0 x4_1).f0))) (fun _ hk => hk.2) (.int .i64 ((rd_T61 l0 x4_1).f1))) (fun _ hk => hk.2) (.int .i64 ((rd_T61 l0 x4_1).f2))) (fun _ hk => hk.2) (.int .i64 ((rd_T61 l0 x4_1).f3))) (fun _ hk => trivial)⟩
                          have n1_ : Aside0 (((((w18.setCell ⟨gb113, 0, none⟩ (.int .i64 ((rd_T61 l0 x4_1).f0))).setCell ⟨gb113, 1, none⟩ (.int .i64 ((rd_T61 l0 x4_1).f1))).setCell ⟨gb113, 2, none⟩ (.int .i64 ((rd_T61 l0 x4_1).f2))).setCell ⟨gb113, 3, none⟩ (.int .i64 ((rd_T61 l0 x4_1).f3))).heap[gb113]? = some (.cells #[.int .i64 ((rd_T61 l0 x4_1).f0), .int .i64 ((rd_T61 l0 x4_1).f1), .int .i64 ((rd_T61 l0 x4_1).f2), .int .i64 ((rd_T61 l0 x4_1).f3)] 61 (0, 0))) := ⟨by (with_reducible repeat (first | refine blk_drewN ?_ _ | refine blk_drew ?_ | refine blk_alloc ?_ _)); refine blk_put (cs := #[.int .i64 ((rd_T61 l0 x4_1).f0), .int .i64 ((rd_T61 l0 x4_1).f1), .int .i64 ((rd_T61 l0 x4_1).f2), .int .i64 0]) ?_ 3 _ rfl; (with_reducible repeat (first | refine blk_drewN ?_ _ | refine blk_drew ?_ | refine blk_alloc ?_ _)); refine blk_put (cs := #[.int .i64 ((rd_T61 l0 x4_1).f0), .int .i64 ((rd_T61 l0 x4_1).f1), .int .i64 0, .int .i64 0]) ?_ 2 _ rfl; (with_reducible repeat (first | refine blk_drewN ?_ _ | refine blk_drew ?_ | refine blk_alloc ?_ _)); refine blk_put (cs := #[.int .i64 ((rd_T61 l0 x4_1).f0), .int .i64 0, .int .i64 0, .int .i64 0]) ?_ 1 _ rfl; (with_reducible repeat (first | refine blk_drewN ?_ _ | refine blk_drew ?_ | refine blk_alloc ?_ _)); refine blk_put (cs := #[.int .i64 0, .int .i64 0, .int .i64 0, .int .i64 0]) ?_ 0 _ rfl; (with_reducible repeat (first | refine blk_drewN ?_ _ | refine blk_drew ?_ | refine blk_alloc ?_ _)); exact BK113.out⟩
                          have n2_ : Aside0 (Below w.heap.size w ((((w18.setCell ⟨gb113, 0, none⟩ (.int .i64 ((rd_T61 l0 x4_1).f0))).setCell ⟨gb113, 1, none⟩ (.int .i64 ((rd_T61 l0 x4_1).f1))).setCell ⟨gb113, 2, none⟩ (.int .i64 ((rd_T61 l0 x4_1).f2))).setCell ⟨gb113, 3, none⟩ (.int .i64 ((rd_T61 l0 x4_1).f3)))) := ⟨by repeat (first | (with_reducible first | exact HB.out | apply below_alloc | apply pw_below_drewN | apply below_drew1 | refine below_set ?_ GE113.out) | exact HB.out)⟩
                          (try clear HO_3)
                          (try clear BK113)
                          (try clear HB)
                          generalize ((((w18.setCell ⟨gb113, 0, none⟩ (.int .i64 ((rd_T61 l0 x4_1).f0))).setCell ⟨gb113, 1, none⟩ (.int .i64 ((rd_T61 l0 x4_1).f1))).setCell ⟨gb113, 2, none⟩ (.int .i64 ((rd_T61 l0 x4_1).f2))).setCell ⟨gb113, 3, none⟩ (.int .i64 ((rd_T61 l0 x4_1).f3))) = w20 at n0_ n1_ n2_ ⊢
                          have HO_3 := n0_
                          have BK113 := n1_
                          have HB := n2_
                          clear n0_ n1_ n2_
                          (try (rw [drewN_self w20]; generalize hq_ : World.drewN w20 _ = w20; have n0_ : Aside0 (Kd.R Kd.string 9 w20 w.heap.size (fun _ => True) u3 x3_1) := ⟨by rw [← hq_]; exact (by (with_reducible repeat (first | apply Kd.R_alloc | apply Kd.R_drewN | apply Kd.R_drew)); exact HO_3.out)⟩; have n1_ : Aside0 (w20.heap[gb113]? = some (.cells #[.int .i64 ((rd_T61 l0 x4_1).f0), .int .i64 ((rd_T61 l0 x4_1).f1), .int .i64 ((rd_T61 l0 x4_1).f2), .int .i64 ((rd_T61 l0 x4_1).f3)] 61 (0, 0))) := ⟨by rw [← hq_]; exact (by (with_reducible repeat (first | refine blk_drewN ?_ _ | refine blk_drew ?_ | refine blk_alloc ?_ _)); exact BK113.out)⟩; have n2_ : Aside0 (Below w.heap.size w w20) := ⟨by rw [← hq_]; exact (by repeat (first | (with_reducible first | exact HB.out | apply below_alloc | apply pw_below_drewN | apply below_drew1 | refine below_set ?_ GE113.out) | exact HB.out))⟩; clear HO_3 BK113 HB hq_; have HO_3 := n0_; have BK113 := n1_; have HB := n2_; clear n0_ n1_ n2_))
                          have n0_ := Aside0.mk (Kd.R_drew HO_3.out)
                          have n1_ := Aside0.mk (blk_drew BK113.out)
                          have n2_ := Aside0.mk (below_drew1 HB.out)
                          clear HO_3
                          clear BK113
                          clear HB
                          have HO_3 := n0_
                          have BK113 := n1_
                          have HB := n2_
                          clear n0_ n1_ n2_
                          refine start_ (n := 23) (S := fun w' => w'.cell? ⟨gb113, 0, none⟩ = some (.int .i64 ((rd_T61 l0 x4_1).f0)) ∧ w'.cell? ⟨gb113, 1, none⟩ = some (.int .i64 ((rd_T61 l0 x4_1).f1)) ∧ w'.cell? ⟨gb113, 2, none⟩ = some (.int .i64 ((rd_T61 l0 x4_1).f2)) ∧ w'.cell? ⟨gb113, 3, none⟩ = some (.int .i64 ((rd_T61 l0 x4_1).f3))) (ds := []) #[false, false, false, false, false, false, false, false, false, false, false, false, false, false, false, false, false, false, false, false, false, false, false] (by kernel_rfl) rfl rfl ⟨(blk_cell BK113.out 0).trans rfl, (blk_cell BK113.out 1).trans rfl, (blk_cell BK113.out 2).trans rfl, (blk_cell BK113.out 3).trans rfl⟩ (fun hHeld => ?_); refine with_tabW spec_l13Log.tab6 spec_l13Log.bits6 (fun HT_ HW_ => ?_)
                          generalize w20.drew = w21 at HO_3 BK113 HB hHeld ⊢
                          refine pure_ (i := 0) (N := some 17) (v := ?_) (a' := ?_) #[true, false, false, false, false, false, false, false, false, false, false, false, false, false, false, false, false, false, false, false, false, false, false] rfl rfl (any_of HT_.out (by kernel_rfl)) (fun _ _ _ h => h) (Or.inl ⟨by rfl, ?_⟩) ?_ ?_
                          rotate_left
                          · intro w'
                            go_simp
                            with_reducible rfl
                          rotate_left
                          · simp only [Act.put, List.setIfInBounds_toArray, List.set_cons_zero, List.set_cons_succ, i64_w, i32_w]
                            rfl
                          refine pure_ (i := 1) (N := some 18) (v := ?_) (a' := ?_) #[true, true, false, false, false, false, false, false, false, false, false, false, false, false, false, false, false, false, false, false, false, false, false] rfl rfl (any_of HT_.out (by kernel_rfl)) (fun _ _ _ h => h) (Or.inl ⟨by rfl, ?_⟩) ?_ ?_
                          rotate_left
                          · intro w'
                            go_simp
                            with_reducible rfl
                          rotate_left
                          · simp only [Act.put, List.setIfInBounds_toArray, List.set_cons_zero, List.set_cons_succ, i64_w, i32_w]
                            rfl
                          refine pure_ (i := 6) (N := some 23) (v := ?_) (a' := ?_) #[true, true, false, false, false, false, true, false, false, false, false, false, false, false, false, false, false, false, false, false, false, false, false] rfl rfl (any_of HT_.out (by kernel_rfl)) (fun _ _ _ h => h) (Or.inl ⟨by rfl, ?_⟩) ?_ ?_
                          rotate_left
                          · intro w'
                            go_simp
                            with_reducible rfl
                          rotate_left
                          · simp only [Act.put, List.setIfInBounds_toArray, List.set_cons_zero, List.set_cons_succ, i64_w, i32_w]
                            rfl
                          refine pure_ (i := 11) (N := some 28) (v := ?_) (a' := ?_) #[true, true, false, false, false, false, true, false, false, false, false, true, false, false, false, false, false, false, false, false, false, false, false] rfl rfl (any_of HT_.out (by kernel_rfl)) (fun _ _ _ h => h) (Or.inl ⟨by rfl, ?_⟩) ?_ ?_
                          rotate_left
                          · intro w'
                            go_simp
                            with_reducible rfl
                          rotate_left
                          · simp only [Act.put, List.setIfInBounds_toArray, List.set_cons_zero, List.set_cons_succ, i64_w, i32_w]
                            rfl
                          refine pure_ (i := 16) (N := some 33) (v := ?_) (a' := ?_) #[true, true, false, false, false, false, true, false, false, false, false, true, false, false, false, false, true, false, false, false, false, false, false] rfl rfl (any_of HT_.out (by kernel_rfl)) (fun _ _ _ h => h) (Or.inl ⟨by rfl, ?_⟩) ?_ ?_
                          rotate_left
                          · intro w'
                            go_simp
                            with_reducible rfl
                          rotate_left
                          · simp only [Act.put, List.setIfInBounds_toArray, List.set_cons_zero, List.set_cons_succ, i64_w, i32_w]
                            rfl
                          refine take_ (i := 2) (N := some 19) (v := ?_) (a' := ?_) #[true, true, true, false, false, false, true, false, false, false, false, true, false, false, false, false, true, false, false, false, false, false, false] rfl rfl (take_ofW HT_.out HW_.out (by kernel_rfl)) (fun _ _ _ h => h) (Or.inl ⟨by rfl, ?_⟩) hHeld ?_ ?_
                          rotate_left
                          · rintro w' ⟨s0, s1, s2, s3⟩
                            go_simp
                            with_reducible rfl
                          rotate_left
                          · simp only [Act.put, List.setIfInBounds_toArray, List.set_cons_zero, List.set_cons_succ, i64_w, i32_w]
                            rfl
                          refine take_ (i := 7) (N := some 24) (v := ?_) (a' := ?_) #[true, true, true, false, false, false, true, true, false, false, false, true, false, false, false, false, true, false, false, false, false, false, false] rfl rfl (take_ofW HT_.out HW_.out (by kernel_rfl)) (fun _ _ _ h => h) (Or.inl ⟨by rfl, ?_⟩) hHeld ?_ ?_
                          rotate_left
                          · rintro w' ⟨s0, s1, s2, s3⟩
                            go_simp
                            with_reducible rfl
                          rotate_left
                          · simp only [Act.put, List.setIfInBounds_toArray, List.set_cons_zero, List.set_cons_succ, i64_w, i32_w]
                            rfl
                          refine take_ (i := 12) (N := some 29) (v := ?_) (a' := ?_) #[true, true, true, false, false, false, true, true, false, false, false, true, true, false, false, false, true, false, false, false, false, false, false] rfl rfl (take_ofW HT_.out HW_.out (by kernel_rfl)) (fun _ _ _ h => h) (Or.inl ⟨by rfl, ?_⟩) hHeld ?_ ?_
                          rotate_left
                          · rintro w' ⟨s0, s1, s2, s3⟩
                            go_simp
                            with_reducible rfl
                          rotate_left
                          · simp only [Act.put, List.setIfInBounds_toArray, List.set_cons_zero, List.set_cons_succ, i64_w, i32_w]
                            rfl
                          refine take_ (i := 17) (N := some 34) (v := ?_) (a' := ?_) #[true, true, true, false, false, false, true, true, false, false, false, true, true, false, false, false, true, true, false, false, false, false, false] rfl rfl (take_ofW HT_.out HW_.out (by kernel_rfl)) (fun _ _ _ h => h) (Or.inl ⟨by rfl, ?_⟩) hHeld ?_ ?_
                          rotate_left
                          · rintro w' ⟨s0, s1, s2, s3⟩
                            go_simp
                            with_reducible rfl
                          rotate_left
                          · simp only [Act.put, List.setIfInBounds_toArray, List.set_cons_zero, List.set_cons_succ, i64_w, i32_w]
                            rfl
                          refine one_ (i := 3) (N := some 20) #[true, true, true, true, false, false, true, true, false, false, false, true, true, false, false, false, true, true, false, false, false, false, false] rfl rfl (one_of HT_.out (by kernel_rfl)) (by decide) (fun K hK => ?_)
                          refine goes_ Tryd.func55 (by kernel_rfl) rfl #[.int .i64 ((rd_T61 l0 x4_1).f0)] (by rfl) rfl rfl (by (try simp only [List.map_toArray, List.map_cons, List.map_nil]); first | done | rfl | (simp only [List.length_drop, List.length_take]; rfl)) ?_
                          with_reducible refine (spec_l00Digits.calls k1 ((rd_T61 l0 x4_1).f0) t114 _ A6.out).mono ?_
                          rintro e w22 ⟨rfl, hb⟩
                          refine ⟨_, rfl, ?_⟩
                          have n0_ := Aside0.mk (Kd.R_below (by (with_reducible repeat (first | apply Kd.R_alloc | apply Kd.R_drewN | apply Kd.R_drew)); exact HO_3.out) hb)
                          have n1_ := Aside0.mk (blk_below (g := gb113) (o := .cells #[.int .i64 ((rd_T61 l0 x4_1).f0), .int .i64 ((rd_T61 l0 x4_1).f1), .int .i64 ((rd_T61 l0 x4_1).f2), .int .i64 ((rd_T61 l0 x4_1).f3)] 61 (0, 0)) (by (with_reducible repeat (first | refine blk_drewN ?_ _ | refine blk_drew ?_ | refine blk_alloc ?_ _)); exact BK113.out) hb)
                          have n2_ := Aside0.mk (below_step (by repeat (first | (with_reducible first | exact HB.out | apply below_alloc | apply pw_below_drewN | apply below_drew1 | refine below_set ?_ GE113.out) | exact HB.out)) hb)
                          clear HO_3
                          clear BK113
                          clear HB
                          have HO_3 := n0_
                          have BK113 := n1_
                          have HB := n2_
                          clear n0_ n1_ n2_
                          (try clear hb)
                          (try clear hb2)
                          (try clear hk)
                          (try clear hi)
                          refine hK.out _ _ ⟨(blk_cell BK113.out 0).trans rfl, (blk_cell BK113.out 1).trans rfl, (blk_cell BK113.out 2).trans rfl, (blk_cell BK113.out 3).trans rfl⟩ (fun hHeld => ?_)
                          clear hK K
                          refine norm_ (a' := ?_) ?_ ?_
                          rotate_left
                          · show Act.put _ (some 20) _ = _
                            simp only [Act.put, List.setIfInBounds_toArray, List.set_cons_zero, List.set_cons_succ, i64_w, i32_w]
                            rfl
                          refine pure_ (i := 4) (N := some 21) (v := ?_) (a' := ?_) #[true, true, true, true, true, false, true, true, false, false, false, true, true, false, false, false, true, true, false, false, false, false, false] rfl rfl (any_of HT_.out (by kernel_rfl)) (fun _ _ _ h => h) (Or.inl ⟨by rfl, ?_⟩) ?_ ?_
                          rotate_left
                          · intro w'
                            go_simp
                            with_reducible rfl
                          rotate_left
                          · simp only [Act.put, List.setIfInBounds_toArray, List.set_cons_zero, List.set_cons_succ, i64_w, i32_w]
                            rfl
                          refine pure_ (i := 5) (N := some 22) (v := ?_) (a' := ?_) #[true, true, true, true, true, true, true, true, false, false, false, true, true, false, false, false, true, true, false, false, false, false, false] rfl rfl (any_of HT_.out (by kernel_rfl)) (fun _ _ _ h => h) (Or.inl ⟨by rfl, ?_⟩) ?_ ?_
                          rotate_left
                          · intro w'
                            go_simp
                            with_reducible rfl
                          rotate_left
                          · simp only [Act.put, List.setIfInBounds_toArray, List.set_cons_zero, List.set_cons_succ, i64_w, i32_w]
                            rfl
                          refine one_ (i := 8) (N := some 25) #[true, true, true, true, true, true, true, true, true, false, false, true, true, false, false, false, true, true, false, false, false, false, false] rfl rfl (one_of HT_.out (by kernel_rfl)) (by decide) (fun K hK => ?_)
                          refine goes_ Tryd.func55 (by kernel_rfl) rfl #[.int .i64 ((rd_T61 l0 x4_1).f1)] (by rfl) rfl rfl (by (try simp only [List.map_toArray, List.map_cons, List.map_nil]); first | done | rfl | (simp only [List.length_drop, List.length_take]; rfl)) ?_
                          with_reducible refine (spec_l00Digits.calls k1 ((rd_T61 l0 x4_1).f1) t115 _ A9.out).mono ?_
                          rintro e w23 ⟨rfl, hb⟩
                          refine ⟨_, rfl, ?_⟩
                          have n0_ := Aside0.mk (Kd.R_below (by (with_reducible repeat (first | apply Kd.R_alloc | apply Kd.R_drewN | apply Kd.R_drew)); exact HO_3.out) hb)
                          have n1_ := Aside0.mk (blk_below (g := gb113) (o := .cells #[.int .i64 ((rd_T61 l0 x4_1).f0), .int .i64 ((rd_T61 l0 x4_1).f1), .int .i64 ((rd_T61 l0 x4_1).f2), .int .i64 ((rd_T61 l0 x4_1).f3)] 61 (0, 0)) (by (with_reducible repeat (first | refine blk_drewN ?_ _ | refine blk_drew ?_ | refine blk_alloc ?_ _)); exact BK113.out) hb)
                          have n2_ := Aside0.mk (below_step (by repeat (first | (with_reducible first | exact HB.out | apply below_alloc | apply pw_below_drewN | apply below_drew1 | refine below_set ?_ GE113.out) | exact HB.out)) hb)
                          clear HO_3
                          clear BK113
                          clear HB
                          have HO_3 := n0_
                          have BK113 := n1_
                          have HB := n2_
                          clear n0_ n1_ n2_
                          (try clear hb)
                          (try clear hb2)
                          (try clear hk)
                          (try clear hi)
                          refine hK.out _ _ ⟨(blk_cell BK113.out 0).trans rfl, (blk_cell BK113.out 1).trans rfl, (blk_cell BK113.out 2).trans rfl, (blk_cell BK113.out 3).trans rfl⟩ (fun hHeld => ?_)
                          clear hK K
                          refine norm_ (a' := ?_) ?_ ?_
                          rotate_left
                          · show Act.put _ (some 25) _ = _
                            simp only [Act.put, List.setIfInBounds_toArray, List.set_cons_zero, List.set_cons_succ, i64_w, i32_w]
                            rfl
                          refine pure_ (i := 9) (N := some 26) (v := ?_) (a' := ?_) #[true, true, true, true, true, true, true, true, true, true, false, true, true, false, false, false, true, true, false, false, false, false, false] rfl rfl (any_of HT_.out (by kernel_rfl)) (fun _ _ _ h => h) (Or.inl ⟨by rfl, ?_⟩) ?_ ?_
                          rotate_left
                          · intro w'
                            go_simp
                            with_reducible rfl
                          rotate_left
                          · simp only [Act.put, List.setIfInBounds_toArray, List.set_cons_zero, List.set_cons_succ, i64_w, i32_w]
                            rfl
                          refine pure_ (i := 10) (N := some 27) (v := ?_) (a' := ?_) #[true, true, true, true, true, true, true, true, true, true, true, true, true, false, false, false, true, true, false, false, false, false, false] rfl rfl (any_of HT_.out (by kernel_rfl)) (fun _ _ _ h => h) (Or.inl ⟨by rfl, ?_⟩) ?_ ?_
                          rotate_left
                          · intro w'
                            go_simp
                            with_reducible rfl
                          rotate_left
                          · simp only [Act.put, List.setIfInBounds_toArray, List.set_cons_zero, List.set_cons_succ, i64_w, i32_w]
                            rfl
                          refine one_ (i := 13) (N := some 30) #[true, true, true, true, true, true, true, true, true, true, true, true, true, true, false, false, true, true, false, false, false, false, false] rfl rfl (one_of HT_.out (by kernel_rfl)) (by decide) (fun K hK => ?_)
                          refine goes_ Tryd.func55 (by kernel_rfl) rfl #[.int .i64 ((rd_T61 l0 x4_1).f2)] (by rfl) rfl rfl (by (try simp only [List.map_toArray, List.map_cons, List.map_nil]); first | done | rfl | (simp only [List.length_drop, List.length_take]; rfl)) ?_
                          with_reducible refine (spec_l00Digits.calls k1 ((rd_T61 l0 x4_1).f2) t116 _ A12.out).mono ?_
                          rintro e w24 ⟨rfl, hb⟩
                          refine ⟨_, rfl, ?_⟩
                          have n0_ := Aside0.mk (Kd.R_below (by (with_reducible repeat (first | apply Kd.R_alloc | apply Kd.R_drewN | apply Kd.R_drew)); exact HO_3.out) hb)
                          have n1_ := Aside0.mk (blk_below (g := gb113) (o := .cells #[.int .i64 ((rd_T61 l0 x4_1).f0), .int .i64 ((rd_T61 l0 x4_1).f1), .int .i64 ((rd_T61 l0 x4_1).f2), .int .i64 ((rd_T61 l0 x4_1).f3)] 61 (0, 0)) (by (with_reducible repeat (first | refine blk_drewN ?_ _ | refine blk_drew ?_ | refine blk_alloc ?_ _)); exact BK113.out) hb)
                          have n2_ := Aside0.mk (below_step (by repeat (first | (with_reducible first | exact HB.out | apply below_alloc | apply pw_below_drewN | apply below_drew1 | refine below_set ?_ GE113.out) | exact HB.out)) hb)
                          clear HO_3
                          clear BK113
                          clear HB
                          have HO_3 := n0_
                          have BK113 := n1_
                          have HB := n2_
                          clear n0_ n1_ n2_
                          (try clear hb)
                          (try clear hb2)
                          (try clear hk)
                          (try clear hi)
                          refine hK.out _ _ ⟨(blk_cell BK113.out 0).trans rfl, (blk_cell BK113.out 1).trans rfl, (blk_cell BK113.out 2).trans rfl, (blk_cell BK113.out 3).trans rfl⟩ (fun hHeld => ?_)
                          clear hK K
                          refine norm_ (a' := ?_) ?_ ?_
                          rotate_left
                          · show Act.put _ (some 30) _ = _
                            simp only [Act.put, List.setIfInBounds_toArray, List.set_cons_zero, List.set_cons_succ, i64_w, i32_w]
                            rfl
                          refine pure_ (i := 14) (N := some 31) (v := ?_) (a' := ?_) #[true, true, true, true, true, true, true, true, true, true, true, true, true, true, true, false, true, true, false, false, false, false, false] rfl rfl (any_of HT_.out (by kernel_rfl)) (fun _ _ _ h => h) (Or.inl ⟨by rfl, ?_⟩) ?_ ?_
                          rotate_left
                          · intro w'
                            go_simp
                            with_reducible rfl
                          rotate_left
                          · simp only [Act.put, List.setIfInBounds_toArray, List.set_cons_zero, List.set_cons_succ, i64_w, i32_w]
                            rfl
                          refine pure_ (i := 15) (N := some 32) (v := ?_) (a' := ?_) #[true, true, true, true, true, true, true, true, true, true, true, true, true, true, true, true, true, true, false, false, false, false, false] rfl rfl (any_of HT_.out (by kernel_rfl)) (fun _ _ _ h => h) (Or.inl ⟨by rfl, ?_⟩) ?_ ?_
                          rotate_left
                          · intro w'
                            go_simp
                            with_reducible rfl
                          rotate_left
                          · simp only [Act.put, List.setIfInBounds_toArray, List.set_cons_zero, List.set_cons_succ, i64_w, i32_w]
                            rfl
                          refine one_ (i := 18) (N := some 35) #[true, true, true, true, true, true, true, true, true, true, true, true, true, true, true, true, true, true, true, false, false, false, false] rfl rfl (one_of HT_.out (by kernel_rfl)) (by decide) (fun K hK => ?_)
                          refine goes_ Tryd.func55 (by kernel_rfl) rfl #[.int .i64 ((rd_T61 l0 x4_1).f3)] (by rfl) rfl rfl (by (try simp only [List.map_toArray, List.map_cons, List.map_nil]); first | done | rfl | (simp only [List.length_drop, List.length_take]; rfl)) ?_
                          with_reducible refine (spec_l00Digits.calls k1 ((rd_T61 l0 x4_1).f3) t117 _ A15.out).mono ?_
                          rintro e w25 ⟨rfl, hb⟩
                          refine ⟨_, rfl, ?_⟩
                          have n0_ := Aside0.mk (Kd.R_below (by (with_reducible repeat (first | apply Kd.R_alloc | apply Kd.R_drewN | apply Kd.R_drew)); exact HO_3.out) hb)
                          have n1_ := Aside0.mk (blk_below (g := gb113) (o := .cells #[.int .i64 ((rd_T61 l0 x4_1).f0), .int .i64 ((rd_T61 l0 x4_1).f1), .int .i64 ((rd_T61 l0 x4_1).f2), .int .i64 ((rd_T61 l0 x4_1).f3)] 61 (0, 0)) (by (with_reducible repeat (first | refine blk_drewN ?_ _ | refine blk_drew ?_ | refine blk_alloc ?_ _)); exact BK113.out) hb)
                          have n2_ := Aside0.mk (below_step (by repeat (first | (with_reducible first | exact HB.out | apply below_alloc | apply pw_below_drewN | apply below_drew1 | refine below_set ?_ GE113.out) | exact HB.out)) hb)
                          clear HO_3
                          clear BK113
                          clear HB
                          have HO_3 := n0_
                          have BK113 := n1_
                          have HB := n2_
                          clear n0_ n1_ n2_
                          (try clear hb)
                          (try clear hb2)
                          (try clear hk)
                          (try clear hi)
                          refine hK.out _ _ ⟨(blk_cell BK113.out 0).trans rfl, (blk_cell BK113.out 1).trans rfl, (blk_cell BK113.out 2).trans rfl, (blk_cell BK113.out 3).trans rfl⟩ (fun hHeld => ?_)
                          clear hK K
                          refine norm_ (a' := ?_) ?_ ?_
                          rotate_left
                          · show Act.put _ (some 35) _ = _
                            simp only [Act.put, List.setIfInBounds_toArray, List.set_cons_zero, List.set_cons_succ, i64_w, i32_w]
                            rfl
                          refine pure_ (i := 19) (N := some 36) (v := ?_) (a' := ?_) #[true, true, true, true, true, true, true, true, true, true, true, true, true, true, true, true, true, true, true, true, false, false, false] rfl rfl (any_of HT_.out (by kernel_rfl)) (fun _ _ _ h => h) (Or.inl ⟨by rfl, ?_⟩) ?_ ?_
                          rotate_left
                          · intro w'
                            go_simp
                            with_reducible rfl
                          rotate_left
                          · simp only [Act.put, List.setIfInBounds_toArray, List.set_cons_zero, List.set_cons_succ, i64_w, i32_w]
                            rfl
                          refine one_ (i := 20) (N := some 37) #[true, true, true, true, true, true, true, true, true, true, true, true, true, true, true, true, true, true, true, true, true, false, false] rfl rfl (one_of HT_.out (by kernel_rfl)) (by decide) (fun K hK => ?_)
                          refine value_ (w1 := ?_) (v := ?_) (by rfl) rfl ?_ ?_
                          rotate_left 2
                          · go_simp
                            constructor
                            · rfl
                            · rfl
                          refine hK.out _ _ ⟨(blk_cell (blk_alloc BK113.out _) 0).trans rfl, (blk_cell (blk_alloc BK113.out _) 1).trans rfl, (blk_cell (blk_alloc BK113.out _) 2).trans rfl, (blk_cell (blk_alloc BK113.out _) 3).trans rfl⟩ (fun hHeld => ?_)
                          clear hK K
                          refine norm_ (a' := ?_) ?_ ?_
                          rotate_left
                          · show Act.put _ (some 37) _ = _
                            simp only [Act.put, List.setIfInBounds_toArray, List.set_cons_zero, List.set_cons_succ, i64_w, i32_w]
                            rfl
                          refine one_ (i := 21) (N := some 38) #[true, true, true, true, true, true, true, true, true, true, true, true, true, true, true, true, true, true, true, true, true, true, false] rfl rfl (one_of HT_.out (by kernel_rfl)) (by decide) (fun K hK => ?_)
                          refine Kd.R_append_step Kd.string (w0 := w) w.heap.size (by rfl) (.tmp 17) (.tmp 37) 24 9 (.string ⟨#[]⟩) 16 rfl Tryd.underlying24 info9 rfl (by decide) (by omega) u3 x3_1 ((((((((⟨#[116, 97, 115, 107, 32]⟩ : ByteArray) ++ t114) ++ (⟨#[32, 97, 114, 114, 105, 118, 101, 100, 32]⟩ : ByteArray)) ++ t115) ++ (⟨#[32, 115, 116, 97, 114, 116, 101, 100, 32]⟩ : ByteArray)) ++ t116) ++ (⟨#[32, 102, 105, 110, 105, 115, 104, 101, 100, 32]⟩ : ByteArray)) ++ t117) [.string ((((((((⟨#[116, 97, 115, 107, 32]⟩ : ByteArray) ++ t114) ++ (⟨#[32, 97, 114, 114, 105, 118, 101, 100, 32]⟩ : ByteArray)) ++ t115) ++ (⟨#[32, 115, 116, 97, 114, 116, 101, 100, 32]⟩ : ByteArray)) ++ t116) ++ (⟨#[32, 102, 105, 110, 105, 115, 104, 101, 100, 32]⟩ : ByteArray)) ++ t117)] (fun _ => True) (fun _ => False) rfl rfl ?aP (fun _ hk => hk.elim) ?aF ?aO ?aB ?aS ?aL ?_
                          (case aP => exact rfl)
                          (case aB => exact (by repeat (first | (with_reducible first | exact HB.out | apply below_alloc | apply pw_below_drewN | apply below_drew1 | refine below_set ?_ GE113.out) | exact HB.out)))
                          (case aF => exact (fun _ _ => trivial))
                          (case aO => exact (by (with_reducible repeat (first | apply Kd.R_alloc | apply Kd.R_drewN | apply Kd.R_drew)); exact HO_3.out))
                          (case aS => exact (below_size (by repeat (first | (with_reducible first | exact HB.out | apply below_alloc | apply pw_below_drewN | apply below_drew1 | refine below_set ?_ GE113.out) | exact HB.out))))
                          (case aL => have := LMc17.out; omega)
                          intro v119 w26 ho hb hg hat
                          rw [← Ny118.out] at ho
                          have n0_ := Aside0.mk (blk_grown (g := gb113) (o := .cells #[.int .i64 ((rd_T61 l0 x4_1).f0), .int .i64 ((rd_T61 l0 x4_1).f1), .int .i64 ((rd_T61 l0 x4_1).f2), .int .i64 ((rd_T61 l0 x4_1).f3)] 61 (0, 0)) (by (with_reducible repeat (first | refine blk_drewN ?_ _ | refine blk_drew ?_ | refine blk_alloc ?_ _)); exact BK113.out) hg (Kd.R_ne HO_3.out BK113.out (by decide)))
                          have n1_ := Aside0.mk (hb)
                          have n2_ := Aside0.mk (ho)
                          clear BK113
                          clear HB
                          clear HO_3
                          have BK113 := n0_
                          have HB := n1_
                          have HO120 := n2_
                          clear n0_ n1_ n2_
                          clear ho hb hg hat
                          refine hK.out _ _ ⟨(blk_cell BK113.out 0).trans rfl, (blk_cell BK113.out 1).trans rfl, (blk_cell BK113.out 2).trans rfl, (blk_cell BK113.out 3).trans rfl⟩ (fun hHeld => ?_)
                          clear hK K
                          refine norm_ (a' := ?_) ?_ ?_
                          rotate_left
                          · show Act.put _ (some 38) _ = _
                            simp only [Act.put, List.setIfInBounds_toArray, List.set_cons_zero, List.set_cons_succ, i64_w, i32_w]
                            rfl
                          refine pure_ (i := 22) (N := some 3) (v := ?_) (a' := ?_) #[true, true, true, true, true, true, true, true, true, true, true, true, true, true, true, true, true, true, true, true, true, true, true] rfl rfl (any_of HT_.out (by kernel_rfl)) (fun _ _ _ h => h) (Or.inl ⟨by rfl, ?_⟩) ?_ ?_
                          rotate_left
                          · intro w'
                            go_simp
                            with_reducible rfl
                          rotate_left
                          · simp only [Act.put, List.setIfInBounds_toArray, List.set_cons_zero, List.set_cons_succ, i64_w, i32_w]
                            rfl
                          refine done_ (done_of HT_.out (by kernel_rfl)) ?_
                          try go_wp2
                          go_roundg k1
                          case measure => have := HK1.out; omega
                          case rel => exact ⟨(y118), (wrap64 (x4_1 + 1)), (by first | rfl | (simp; done) | (simp [*]; done)), H', ⟨by have := HK1.out; omega⟩, ⟨by (with_reducible repeat (first | apply Kd.R_alloc | apply Kd.R_drewN | apply Kd.R_drew)); exact HO120.out⟩, ⟨by repeat (first | (with_reducible first | exact HB.out | apply below_alloc | apply pw_below_drewN | apply below_drew1 | refine below_set ?_ GE113.out) | exact HB.out)⟩⟩
                        · rw [if_neg c17] at H
                          exact absurd H (by simp)
                      · rw [if_neg c16] at H
                        exact absurd H (by simp)
                    · rw [if_neg c14] at H
                      exact absurd H (by simp)
                  · rw [if_neg c13] at H
                    exact absurd H (by simp)
                · rw [if_neg c11] at H
                  exact absurd H (by simp)
              · rw [if_neg c10] at H
                exact absurd H (by simp)
            · rw [if_neg c8] at H
              exact absurd H (by simp)
          · rw [if_neg c7] at H
            exact absurd H (by simp)
        · rw [if_neg c5] at H
          exact absurd H (by simp)
      · rw [if_neg c4] at H
        have c4b0 : decide (x4_1 < (l0.length : Int)) = false := decide_eq_false c4
        clear c4
        obtain rfl := Option.some.inj H
        go_wp2
        go_ret
        exact ⟨_, by first | rfl | (simp [errW_none, errW_some] <;> rfl) | (simp [*, errW_none, errW_some] <;> rfl), by (with_reducible repeat (first | apply Kd.R_alloc | apply Kd.R_drewN | apply Kd.R_drew)); exact HO_3.out, by repeat (first | (with_reducible first | exact HB.out | apply below_alloc | apply pw_below_drewN | apply below_drew1) | exact HB.out)⟩

/-! ### spec_LogLines: function 8 -/
def spec_LogLines.f (k : Nat) (l0 : List (S61)) : Option (List ByteArray × Int) := if (l0.length : Int) > 4096 then (some ((([] : List ByteArray)), 2)) else ((spec_l13Log.f k l0).bind fun t124 => (some (t124, 0)))
theorem spec_LogLines.mono : ∀ a0 k, LeO (spec_LogLines.f k a0) (spec_LogLines.f (k + 1) a0) := by
  intro a0 k
  unfold spec_LogLines.f
  repeat' first
      | (with_reducible exact spec_l13Log.mono _ _)
      | (with_reducible exact LeO.refl _)
      | (with_reducible exact LeO.none _)
      | (with_reducible refine LeO.ite ?_ ?_)
      | (with_reducible refine LeO.bind ?_ (fun _ => ?_))
      | exact spec_l13Log.mono _ _
      | exact LeO.none _
      | refine LeO.ite ?_ ?_
      | refine LeO.bind ?_ (fun _ => ?_)
set_option maxHeartbeats 8000000 in
set_option maxRecDepth 100000 in
theorem spec_LogLines.calls (k : Nat) (A0 : Option Addr) (c0 : Nat) (l0 : List (S61)) (r1 : List ByteArray) (r2 : Int) (w : World) (hr0 : Kd.C k61 w A0 l0.length l0) (hc0 : l0.length ≤ c0) (h : spec_LogLines.f k l0 = some (r1, r2)) :
    Calls Tryd.prog 8 #[.slice A0 l0.length c0] w fun e w' => ∃ v0_ : Value, e = .returned (.tuple #[v0_, .int .i64 r2]) ∧ Kd.R Kd.string 9 w' w.heap.size (fun _ => True) v0_ r1 ∧ Below w.heap.size w w' := by
  have HR0 := Aside0.mk hr0
  have HC0 := Aside0.mk hc0
  clear hr0 hc0
  have HB := Aside0.mk (Below.refl w.heap.size w)
  have H : (if (l0.length : Int) > 4096 then (some ((([] : List ByteArray)), 2)) else ((spec_l13Log.f k l0).bind fun t124 => (some (t124, 0)))) = some (r1, r2) := h
  clear h
  by_cases c2 : (l0.length : Int) > 4096
  · rw [if_pos c2] at H
    have c2b0 : decide (4096 < (l0.length : Int)) = true := decide_eq_true c2
    have c2b1 : decide (4096 < l0.length) = true := decide_eq_true (by omega)
    clear c2
    obtain ⟨y121, hy121⟩ : ∃ y_ : List ByteArray, y_ = (([] : List ByteArray)) := ⟨_, rfl⟩
    replace H : (some (y121, 2)) = some (r1, r2) := by first | (rw [hy121]; with_reducible exact H) | (have H2_ := (Option.bind_some _ _).symm.trans H; rw [hy121]; with_reducible exact H2_) | (have H2_ := (Option.bind_some _ _).symm.trans H; with_reducible exact H2_) | with_reducible exact H | (rw [hy121]; exact H) | exact H
    have Ny121 := Aside0.mk hy121
    clear hy121
    simp only [Option.some.injEq, Prod.mk.injEq] at H
    obtain ⟨rfl, rfl⟩ := H
    go_enter Tryd.func8, Tryd.ntmps8
    go_wp2_with (first | ((with_reducible refine gate_dst (N := 7) rfl ?_); refine Kd.R_lit Kd.string _ 9 ?hg (N := 7) ?hd (xs := ([] : List ByteArray)) (inner := []) (ok := fun _ => True) (okp := fun _ => True) ?hr ?hp (fun _ hk => hk) trivial (Below.refl _ _) (Nat.le_refl _) (by simp) ?_; (case hd => rfl); (case hg => rfl); (case hr => first | (go_simp; done) | (go_simp; rfl)); (case hp => exact (Reps.none _ _)); intro v122 w3 ho4 hb hg_ hnew_; clear hg_ hnew_; (first | rw [← Ny121.out] at ho4 | (simp only [Int.reduceToNat] at ho4; rw [← Ny121.out] at ho4)); have n0_ := Aside0.mk (Kd.R_lower ho4 (below_size (by repeat (first | (with_reducible first | exact HB.out | apply below_alloc | apply pw_below_drewN | apply below_drew1) | exact HB.out)))); have n1_ := Aside0.mk (below_step (by repeat (first | (with_reducible first | exact HB.out | apply below_alloc | apply pw_below_drewN | apply below_drew1) | exact HB.out)) hb); clear HB; have HO123 := n0_; have HB := n1_; clear n0_ n1_; clear hb ho4))
    go_ret2
    exact ⟨_, by first | rfl | (simp [errW_none, errW_some] <;> rfl) | (simp [*, errW_none, errW_some] <;> rfl), by (with_reducible repeat (first | apply Kd.R_alloc | apply Kd.R_drewN | apply Kd.R_drew)); exact HO123.out, by repeat (first | (with_reducible first | exact HB.out | apply below_alloc | apply pw_below_drewN | apply below_drew1) | exact HB.out)⟩
  · rw [if_neg c2] at H
    have c2b0 : decide (4096 < (l0.length : Int)) = false := decide_eq_false c2
    have c2b1 : decide (4096 < l0.length) = false := decide_eq_false (by omega)
    clear c2
    replace H := Option.bind_eq_some_iff.mp H
    obtain ⟨t124, A50, H⟩ := H
    replace H : (some (t124, 0)) = some (r1, r2) := H
    have A5 := Aside0.mk A50
    clear A50
    simp only [Option.some.injEq, Prod.mk.injEq] at H
    obtain ⟨rfl, rfl⟩ := H
    go_enter Tryd.func8, Tryd.ntmps8
    go_wp2_with (first | ((with_reducible refine gate_callee (f := 30) rfl ?_); refine goesL_ (some 9) rfl rfl Tryd.func30 (by kernel_rfl) rfl #[.slice A0 l0.length c0] rfl (by (try simp only [List.map_toArray, List.map_cons, List.map_nil]); first | done | rfl | (simp only [List.length_drop, List.length_take]; rfl)) ?_; (with_reducible refine (spec_l13Log.calls k _ _ l0 t124 _ ?side1 ?side2 A5.out).mono ?_); (case side1 => repeat (first | exact HR0.out | (with_reducible refine Kd.C_alloc ?_ _) | (with_reducible refine Kd.C_drewN ?_ _) | (with_reducible refine Kd.C_drew ?_))); (case side2 => exact HC0.out); rintro e w6 ⟨v125, rfl, ho0, hb⟩; refine ⟨_, rfl, ?_⟩; have n0_ := Aside0.mk (Kd.R_lower ho0 (below_size (by repeat (first | (with_reducible first | exact HB.out | apply below_alloc | apply pw_below_drewN | apply below_drew1) | exact HB.out)))); have n1_ := Aside0.mk (below_step (by repeat (first | (with_reducible first | exact HB.out | apply below_alloc | apply pw_below_drewN | apply below_drew1) | exact HB.out)) hb); clear HB; have HO126 := n0_; have HB := n1_; clear n0_ n1_; (try clear hb); (try clear hb2); (try clear hk); (try clear hi); (try clear ho0)))
    go_ret2
    exact ⟨_, by first | rfl | (simp [errW_none, errW_some] <;> rfl) | (simp [*, errW_none, errW_some] <;> rfl), by (with_reducible repeat (first | apply Kd.R_alloc | apply Kd.R_drewN | apply Kd.R_drew)); exact HO126.out, by repeat (first | (with_reducible first | exact HB.out | apply below_alloc | apply pw_below_drewN | apply below_drew1) | exact HB.out)⟩

/-! ### laws_toDone: function 31 -/
def laws_toDone.f (a0_0 : Int) (a0_1 : Int) (a0_2 : Int) (a0_3 : Int) : Option (Int × Int × Int × Int) := some (a0_0, a0_1, a0_2, a0_3)
set_option maxHeartbeats 8000000 in
set_option maxRecDepth 100000 in
theorem laws_toDone.calls (a0_0 : Int) (a0_1 : Int) (a0_2 : Int) (a0_3 : Int) (r1 : Int) (r2 : Int) (r3 : Int) (r4 : Int) (w : World) (h : laws_toDone.f a0_0 a0_1 a0_2 a0_3 = some (r1, r2, r3, r4)) :
    Calls Tryd.prog 31 #[.agg #[.int .i64 a0_0, .int .i64 a0_1, .int .i64 a0_2, .int .i64 a0_3]] w fun e w' => e = .returned (.agg #[.int .i64 r1, .int .i64 r2, .int .i64 r3, .int .i64 r4]) ∧ Below w.heap.size w w' := by
  have hu63 := Tryd.underlying63
  have hu61 := Tryd.underlying61
  have HB := Aside0.mk (Below.refl w.heap.size w)
  have H : (some (a0_0, a0_1, a0_2, a0_3)) = some (r1, r2, r3, r4) := h
  clear h
  simp only [Option.some.injEq, Prod.mk.injEq] at H
  obtain ⟨rfl, rfl, rfl, rfl⟩ := H
  go_enter Tryd.func31, Tryd.ntmps31
  go_wp2_with (first | ((with_reducible refine gate_dst (N := 1) rfl ?_); refine box_event ?hg (N := 1) ?hd (cs := #[.int .i64 a0_0, .int .i64 a0_1, .int .i64 a0_2, .int .i64 a0_3]) (t := 63) ?hr ?_; (case hd => rfl); (case hg => rfl); (case hr => first | (go_simp; done) | (go_simp; rfl)); intro gb127 hg w2 hbox hb; have n0_ := Aside0.mk (below_step (by repeat (first | (with_reducible first | exact HB.out | apply below_alloc | apply pw_below_drewN | apply below_drew1) | exact HB.out)) hb); have n1_ := Aside0.mk (hbox); have n2_ := Aside0.mk ((by rw [hg]; exact (below_size (by repeat (first | (with_reducible first | exact HB.out | apply below_alloc | apply pw_below_drewN | apply below_drew1) | exact HB.out))) : w.heap.size ≤ gb127)); have n3_ := Aside0.mk ((by rw [hg]; exact (below_size (by repeat (first | (with_reducible first | exact HB.out | apply below_alloc | apply pw_below_drewN | apply below_drew1) | exact HB.out))) : w.heap.size ≤ gb127)); clear HB; have HB := n0_; have BK127 := n1_; have GW127 := n2_; have GE127 := n3_; clear n0_ n1_ n2_ n3_; clear hb hbox hg) | ((with_reducible refine gate_dst (N := 2) rfl ?_); refine box_event ?hg (N := 2) ?hd (cs := #[.int .i64 0, .int .i64 0, .int .i64 0, .int .i64 0]) (t := 61) ?hr ?_; (case hd => rfl); (case hg => rfl); (case hr => first | (go_simp; done) | (go_simp; rfl)); intro gb128 hg w3 hbox hb; have n0_ := Aside0.mk (blk_below (g := gb127) (o := .cells #[.int .i64 a0_0, .int .i64 a0_1, .int .i64 a0_2, .int .i64 a0_3] 63 (0, 0)) (by (with_reducible repeat (first | refine blk_drewN ?_ _ | refine blk_drew ?_ | refine blk_alloc ?_ _)); exact BK127.out) hb); have n1_ := Aside0.mk (below_step (by repeat (first | (with_reducible first | exact HB.out | apply below_alloc | apply pw_below_drewN | apply below_drew1 | refine below_set ?_ GE127.out) | exact HB.out)) hb); have n2_ := Aside0.mk (hbox); have n3_ := Aside0.mk ((by rw [hg]; exact (below_size (by repeat (first | (with_reducible first | exact HB.out | apply below_alloc | apply pw_below_drewN | apply below_drew1 | refine below_set ?_ GE127.out) | exact HB.out))) : w.heap.size ≤ gb128)); have n4_ := Aside0.mk ((by rw [hg]; exact (below_size (by repeat (first | (with_reducible first | exact HB.out | apply below_alloc | apply pw_below_drewN | apply below_drew1 | refine below_set ?_ GE127.out) | exact HB.out))) : w.heap.size ≤ gb128)); have n5_ := Aside0.mk ((by rw [hg]; exact Nat.ne_of_lt (blk_lt (g := gb127) (o := .cells #[.int .i64 a0_0, .int .i64 a0_1, .int .i64 a0_2, .int .i64 a0_3] 63 (0, 0)) (by (with_reducible repeat (first | refine blk_drewN ?_ _ | refine blk_drew ?_ | refine blk_alloc ?_ _)); exact BK127.out)) : gb127 ≠ gb128)); have n6_ := Aside0.mk ((by rw [hg]; exact Nat.ne_of_gt (blk_lt (g := gb127) (o := .cells #[.int .i64 a0_0, .int .i64 a0_1, .int .i64 a0_2, .int .i64 a0_3] 63 (0, 0)) (by (with_reducible repeat (first | refine blk_drewN ?_ _ | refine blk_drew ?_ | refine blk_alloc ?_ _)); exact BK127.out)) : gb128 ≠ gb127)); clear BK127; clear HB; have BK127 := n0_; have HB := n1_; have BK128 := n2_; have GW128 := n3_; have GE128 := n4_; have NB127_128 := n5_; have NB128_127 := n6_; clear n0_ n1_ n2_ n3_ n4_ n5_ n6_; clear hb hbox hg) | ((with_reducible refine gate_dst (N := 3) rfl ?_); refine box_event ?hg (N := 3) ?hd (cs := #[.int .i64 0, .int .i64 0, .int .i64 0, .int .i64 0]) (t := 61) ?hr ?_; (case hd => rfl); (case hg => rfl); (case hr => first | (go_simp; done) | (go_simp; rfl)); intro gb129 hg w4 hbox hb; have n0_ := Aside0.mk (blk_below (g := gb127) (o := .cells #[.int .i64 a0_0, .int .i64 a0_1, .int .i64 a0_2, .int .i64 a0_3] 63 (0, 0)) (by (with_reducible repeat (first | refine blk_drewN ?_ _ | refine blk_drew ?_ | refine blk_alloc ?_ _)); exact BK127.out) hb); have n1_ := Aside0.mk (blk_below (g := gb128) (o := .cells #[.int .i64 0, .int .i64 0, .int .i64 0, .int .i64 0] 61 (0, 0)) (by (with_reducible repeat (first | refine blk_drewN ?_ _ | refine blk_drew ?_ | refine blk_alloc ?_ _)); exact BK128.out) hb); have n2_ := Aside0.mk (below_step (by repeat (first | (with_reducible first | exact HB.out | apply below_alloc | apply pw_below_drewN | apply below_drew1 | refine below_set ?_ GE127.out | refine below_set ?_ GE128.out) | exact HB.out)) hb); have n3_ := Aside0.mk (hbox); have n4_ := Aside0.mk ((by rw [hg]; exact (below_size (by repeat (first | (with_reducible first | exact HB.out | apply below_alloc | apply pw_below_drewN | apply below_drew1 | refine below_set ?_ GE127.out | refine below_set ?_ GE128.out) | exact HB.out))) : w.heap.size ≤ gb129)); have n5_ := Aside0.mk ((by rw [hg]; exact (below_size (by repeat (first | (with_reducible first | exact HB.out | apply below_alloc | apply pw_below_drewN | apply below_drew1 | refine below_set ?_ GE127.out | refine below_set ?_ GE128.out) | exact HB.out))) : w.heap.size ≤ gb129)); have n6_ := Aside0.mk ((by rw [hg]; exact Nat.ne_of_lt (blk_lt (g := gb127) (o := .cells #[.int .i64 a0_0, .int .i64 a0_1, .int .i64 a0_2, .int .i64 a0_3] 63 (0, 0)) (by (with_reducible repeat (first | refine blk_drewN ?_ _ | refine blk_drew ?_ | refine blk_alloc ?_ _)); exact BK127.out)) : gb127 ≠ gb129)); have n7_ := Aside0.mk ((by rw [hg]; exact Nat.ne_of_gt (blk_lt (g := gb127) (o := .cells #[.int .i64 a0_0, .int .i64 a0_1, .int .i64 a0_2, .int .i64 a0_3] 63 (0, 0)) (by (with_reducible repeat (first | refine blk_drewN ?_ _ | refine blk_drew ?_ | refine blk_alloc ?_ _)); exact BK127.out)) : gb129 ≠ gb127)); have n8_ := Aside0.mk ((by rw [hg]; exact Nat.ne_of_lt (blk_lt (g := gb128) (o := .cells #[.int .i64 0, .int .i64 0, .int .i64 0, .int .i64 0] 61 (0, 0)) (by (with_reducible repeat (first | refine blk_drewN ?_ _ | refine blk_drew ?_ | refine blk_alloc ?_ _)); exact BK128.out)) : gb128 ≠ gb129)); have n9_ := Aside0.mk ((by rw [hg]; exact Nat.ne_of_gt (blk_lt (g := gb128) (o := .cells #[.int .i64 0, .int .i64 0, .int .i64 0, .int .i64 0] 61 (0, 0)) (by (with_reducible repeat (first | refine blk_drewN ?_ _ | refine blk_drew ?_ | refine blk_alloc ?_ _)); exact BK128.out)) : gb129 ≠ gb128)); clear BK127; clear BK128; clear HB; have BK127 := n0_; have BK128 := n1_; have HB := n2_; have BK129 := n3_; have GW129 := n4_; have GE129 := n5_; have NB127_129 := n6_; have NB129_127 := n7_; have NB128_129 := n8_; have NB129_128 := n9_; clear n0_ n1_ n2_ n3_ n4_ n5_ n6_ n7_ n8_ n9_; clear hb hbox hg; have hnb5 := NB127_128.out; have hnc5 := NB128_127.out; have hnb6 := NB127_129.out; have hnc6 := NB129_127.out; have hcz7_0 : w4.cell? ⟨gb127, 0, none⟩ = some (.int .i64 a0_0) := (blk_cell BK127.out 0).trans rfl; have hcz7_1 : w4.cell? ⟨gb127, 1, none⟩ = some (.int .i64 a0_1) := (blk_cell BK127.out 1).trans rfl; have hcz7_2 : w4.cell? ⟨gb127, 2, none⟩ = some (.int .i64 a0_2) := (blk_cell BK127.out 2).trans rfl; have hcz7_3 : w4.cell? ⟨gb127, 3, none⟩ = some (.int .i64 a0_3) := (blk_cell BK127.out 3).trans rfl; have hfz7_0 := blk_frozen BK127.out 0; have hfz7_1 := blk_frozen BK127.out 1; have hfz7_2 := blk_frozen BK127.out 2; have hfz7_3 := blk_frozen BK127.out 3; have hnb8 := NB129_128.out; have hnc8 := NB128_129.out; have hcz9_0 : w4.cell? ⟨gb129, 0, none⟩ = some (.int .i64 0) := (blk_cell BK129.out 0).trans rfl; have hcz9_1 : w4.cell? ⟨gb129, 1, none⟩ = some (.int .i64 0) := (blk_cell BK129.out 1).trans rfl; have hcz9_2 : w4.cell? ⟨gb129, 2, none⟩ = some (.int .i64 0) := (blk_cell BK129.out 2).trans rfl; have hcz9_3 : w4.cell? ⟨gb129, 3, none⟩ = some (.int .i64 0) := (blk_cell BK129.out 3).trans rfl; have hfz9_0 := blk_frozen BK129.out 0; have hfz9_1 := blk_frozen BK129.out 1; have hfz9_2 := blk_frozen BK129.out 2; have hfz9_3 := blk_frozen BK129.out 3; have hcz10_0 : w4.cell? ⟨gb128, 0, none⟩ = some (.int .i64 0) := (blk_cell BK128.out 0).trans rfl; have hcz10_1 : w4.cell? ⟨gb128, 1, none⟩ = some (.int .i64 0) := (blk_cell BK128.out 1).trans rfl; have hcz10_2 : w4.cell? ⟨gb128, 2, none⟩ = some (.int .i64 0) := (blk_cell BK128.out 2).trans rfl; have hcz10_3 : w4.cell? ⟨gb128, 3, none⟩ = some (.int .i64 0) := (blk_cell BK128.out 3).trans rfl; have hfz10_0 := blk_frozen BK128.out 0; have hfz10_1 := blk_frozen BK128.out 1; have hfz10_2 := blk_frozen BK128.out 2; have hfz10_3 := blk_frozen BK128.out 3))
  refine bodyPost_ret (results_cell_row rfl _ _ gb128 61 #[.int .i64 a0_0, .int .i64 a0_1, .int .i64 a0_2, .int .i64 a0_3] (0, 0) _ rfl (by (with_reducible repeat (first | refine blk_drewN ?_ _ | refine blk_drew ?_ | refine blk_alloc ?_ _)); refine blk_put (cs := #[.int .i64 a0_0, .int .i64 a0_1, .int .i64 a0_2, .int .i64 0]) ?_ 3 _ rfl; (with_reducible repeat (first | refine blk_drewN ?_ _ | refine blk_drew ?_ | refine blk_alloc ?_ _)); refine blk_put (cs := #[.int .i64 a0_0, .int .i64 a0_1, .int .i64 0, .int .i64 0]) ?_ 2 _ rfl; (with_reducible repeat (first | refine blk_drewN ?_ _ | refine blk_drew ?_ | refine blk_alloc ?_ _)); refine blk_put (cs := #[.int .i64 a0_0, .int .i64 0, .int .i64 0, .int .i64 0]) ?_ 1 _ rfl; (with_reducible repeat (first | refine blk_drewN ?_ _ | refine blk_drew ?_ | refine blk_alloc ?_ _)); refine blk_put (cs := #[.int .i64 0, .int .i64 0, .int .i64 0, .int .i64 0]) ?_ 0 _ rfl; (with_reducible repeat (first | refine blk_drewN ?_ _ | refine blk_drew ?_ | refine blk_alloc ?_ _)); refine blk_far ?_ NB128_129.out _; (with_reducible repeat (first | refine blk_drewN ?_ _ | refine blk_drew ?_ | refine blk_alloc ?_ _)); refine blk_far ?_ NB128_129.out _; (with_reducible repeat (first | refine blk_drewN ?_ _ | refine blk_drew ?_ | refine blk_alloc ?_ _)); refine blk_far ?_ NB128_129.out _; (with_reducible repeat (first | refine blk_drewN ?_ _ | refine blk_drew ?_ | refine blk_alloc ?_ _)); refine blk_far ?_ NB128_129.out _; (with_reducible repeat (first | refine blk_drewN ?_ _ | refine blk_drew ?_ | refine blk_alloc ?_ _)); exact BK128.out) Tryd.underlying61 rfl (by kernel_rfl)) rfl ?_
  exact ⟨by first | rfl | (simp [errW_none, errW_some] <;> rfl) | (simp [*, errW_none, errW_some] <;> rfl), by repeat (first | (with_reducible first | exact HB.out | apply below_alloc | apply pw_below_drewN | apply below_drew1 | refine below_set ?_ GE127.out | refine below_set ?_ GE128.out | refine below_set ?_ GE129.out) | exact HB.out)⟩

end Go.Proofs.YtkeoifkdejnpfaaDoor.G
