-- by gprint.py (a program of this session's own), over the kit's print.py; Lean checks it
import Derived.Test.YtkeoifkdejnpfaaDoorGx0
import Derived.Test.YtkeoifkdejnpfaaDoorGx3
namespace Go.Proofs.YtkeoifkdejnpfaaDoor.G
open Go.RowKit Go.Proofs.YtkeoifkdejnpfaaDoorW.PrintWords Go.Proofs.YtkeoifkdejnpfaaDoorW.PrintLast Go.Proofs.YtkeoifkdejnpfaaDoorW.PrintMore
attribute [local go_sem] max2_int min2_int max_two min_two max_three min_three max_four min_four   -- for this text's walks alone
set_option linter.unusedVariables false
set_option linter.unusedSimpArgs false

/-! ### impl_LogLines: function 10 -/
def impl_LogLines.l0 : Nat → List ByteArray → List (S61) → Int → Int → Option (List ByteArray × Int)
  | 0, _, _, _, _ => none
  | k + 1, x5, x14, x15, x16 => if x16 < x15 then (if 0 ≤ x16 then (if x16 < (x14.length : Int) then ((impl_decimal.f ((rd_T61 x14 x16).f0)).bind fun t146 => (if 5 + t146.size ≤ 9223372036854775807 then (if ((⟨#[116, 97, 115, 107, 32]⟩ : ByteArray) ++ t146).size + 9 ≤ 9223372036854775807 then ((impl_decimal.f ((rd_T61 x14 x16).f1)).bind fun t147 => (if (((⟨#[116, 97, 115, 107, 32]⟩ : ByteArray) ++ t146) ++ (⟨#[32, 97, 114, 114, 105, 118, 101, 100, 32]⟩ : ByteArray)).size + t147.size ≤ 9223372036854775807 then (if ((((⟨#[116, 97, 115, 107, 32]⟩ : ByteArray) ++ t146) ++ (⟨#[32, 97, 114, 114, 105, 118, 101, 100, 32]⟩ : ByteArray)) ++ t147).size + 9 ≤ 9223372036854775807 then ((impl_decimal.f ((rd_T61 x14 x16).f2)).bind fun t148 => (if (((((⟨#[116, 97, 115, 107, 32]⟩ : ByteArray) ++ t146) ++ (⟨#[32, 97, 114, 114, 105, 118, 101, 100, 32]⟩ : ByteArray)) ++ t147) ++ (⟨#[32, 115, 116, 97, 114, 116, 101, 100, 32]⟩ : ByteArray)).size + t148.size ≤ 9223372036854775807 then (if ((((((⟨#[116, 97, 115, 107, 32]⟩ : ByteArray) ++ t146) ++ (⟨#[32, 97, 114, 114, 105, 118, 101, 100, 32]⟩ : ByteArray)) ++ t147) ++ (⟨#[32, 115, 116, 97, 114, 116, 101, 100, 32]⟩ : ByteArray)) ++ t148).size + 10 ≤ 9223372036854775807 then ((impl_decimal.f ((rd_T61 x14 x16).f3)).bind fun t149 => (if (((((((⟨#[116, 97, 115, 107, 32]⟩ : ByteArray) ++ t146) ++ (⟨#[32, 97, 114, 114, 105, 118, 101, 100, 32]⟩ : ByteArray)) ++ t147) ++ (⟨#[32, 115, 116, 97, 114, 116, 101, 100, 32]⟩ : ByteArray)) ++ t148) ++ (⟨#[32, 102, 105, 110, 105, 115, 104, 101, 100, 32]⟩ : ByteArray)).size + t149.size ≤ 9223372036854775807 then (if x5.length < 8796093022208 then (impl_LogLines.l0 k (x5 ++ [(((((((⟨#[116, 97, 115, 107, 32]⟩ : ByteArray) ++ t146) ++ (⟨#[32, 97, 114, 114, 105, 118, 101, 100, 32]⟩ : ByteArray)) ++ t147) ++ (⟨#[32, 115, 116, 97, 114, 116, 101, 100, 32]⟩ : ByteArray)) ++ t148) ++ (⟨#[32, 102, 105, 110, 105, 115, 104, 101, 100, 32]⟩ : ByteArray)) ++ t149]) x14 x15 (wrap64 (x16 + 1))) else (none)) else (none))) else (none)) else (none))) else (none)) else (none))) else (none)) else (none))) else (none)) else (none)) else (some (x5, 0))
def impl_LogLines.f (k : Nat) (l0 : List (S61)) : Option (List ByteArray × Int) := (impl_Done.f l0).bind fun t140 => (if t140 = 0 then (impl_LogLines.l0 k (([] : List ByteArray)) l0 (l0.length : Int) 0) else (some (([] : List ByteArray), t140)))
theorem impl_LogLines.mono_l : ∀ k, (∀ y0 y1 y2 y3, LeO (impl_LogLines.l0 k y0 y1 y2 y3) (impl_LogLines.l0 (k + 1) y0 y1 y2 y3))
  | 0 => fun _ _ _ _ r h => by simp [impl_LogLines.l0] at h
  | k + 1 => by
    have ih0 := impl_LogLines.mono_l k
    · intro y0 y1 y2 y3
      unfold impl_LogLines.l0
      repeat' first
      | (with_reducible exact ih0 _ _ _ _)
      | (with_reducible exact LeO.refl _)
      | (with_reducible exact LeO.none _)
      | (with_reducible refine LeO.ite ?_ ?_)
      | (with_reducible refine LeO.bind ?_ (fun _ => ?_))
      | exact ih0 _ _ _ _
      | exact LeO.none _
      | refine LeO.ite ?_ ?_
      | refine LeO.bind ?_ (fun _ => ?_)
theorem impl_LogLines.mono : ∀ a0 k, LeO (impl_LogLines.f k a0) (impl_LogLines.f (k + 1) a0) := by
  intro a0 k
  have ih0 := impl_LogLines.mono_l k
  unfold impl_LogLines.f
  repeat' first
      | (with_reducible exact ih0 _ _ _ _)
      | (with_reducible exact LeO.refl _)
      | (with_reducible exact LeO.none _)
      | (with_reducible refine LeO.ite ?_ ?_)
      | (with_reducible refine LeO.bind ?_ (fun _ => ?_))
      | exact ih0 _ _ _ _
      | exact LeO.none _
      | refine LeO.ite ?_ ?_
      | refine LeO.bind ?_ (fun _ => ?_)
def impl_LogLines.T8 : Bool × List (List Nat × List Nat) := (true, [([], []), ([], []), ([1], [1]), ([2], [2]), ([3], [3]), ([4], [4]), ([], []), ([6], [6]), ([7, 3], [7]), ([5, 8], [5, 8]), ([9], [9]), ([], []), ([11], [11]), ([12, 8], [12]), ([10, 13], [10, 13]), ([14], [14]), ([], []), ([16], [16]), ([17, 13], [17]), ([15, 18], [15, 18]), ([19], [19]), ([0, 20, 18], [0, 20]), ([21, 21, 0, 1, 2, 3, 4, 5, 6, 7, 8, 9, 10, 11, 12, 13, 14, 15, 16, 17, 18, 19, 20, 21], [0, 21])])
def impl_LogLines.B8 : List Nat := [0, 0, 2, 6, 14, 30, 0, 64, 206, 510, 1022, 0, 2048, 6606, 16382, 32766, 0, 65536, 211406, 524286, 1048574, 2097151, 4194303]
theorem impl_LogLines.tab8 : rtab .any (opsOf Tryd.f10 8) = impl_LogLines.T8 := by kernel_rfl
theorem impl_LogLines.bits8 : waitsOk impl_LogLines.T8.2 impl_LogLines.B8 = true := by kernel_rfl
set_option maxHeartbeats 8000000 in
set_option maxRecDepth 100000 in
theorem impl_LogLines.calls (k : Nat) (A0 : Option Addr) (c0 : Nat) (l0 : List (S61)) (r1 : List ByteArray) (r2 : Int) (w : World) (hr0 : Kd.C k61 w A0 l0.length l0) (hc0 : l0.length ≤ c0) (hG : Glob w) (h : impl_LogLines.f k l0 = some (r1, r2)) :
    Calls Tryd.prog 10 #[.slice A0 l0.length c0] w fun e w' => ∃ v0_ : Value, e = .returned (.tuple #[v0_, .int .i64 r2]) ∧ Kd.R Kd.string 9 w' w.heap.size (fun _ => True) v0_ r1 ∧ Below w.heap.size w w' := by
  have hu61 := Tryd.underlying61
  have HG := Aside0.mk hG
  clear hG
  have HR0 := Aside0.mk hr0
  have HC0 := Aside0.mk hc0
  clear hr0 hc0
  have HB := Aside0.mk (Below.refl w.heap.size w)
  have H : ((impl_Done.f l0).bind fun t140 => (if t140 = 0 then (impl_LogLines.l0 k (([] : List ByteArray)) l0 (l0.length : Int) 0) else (some (([] : List ByteArray), t140)))) = some (r1, r2) := h
  clear h
  replace H := Option.bind_eq_some_iff.mp H
  obtain ⟨t140, A20, H⟩ := H
  replace H : (if t140 = 0 then (impl_LogLines.l0 k (([] : List ByteArray)) l0 (l0.length : Int) 0) else (some (([] : List ByteArray), t140))) = some (r1, r2) := H
  have A2 := Aside0.mk A20
  clear A20
  by_cases c3 : t140 = 0
  · rw [if_pos c3] at H
    have c3b0 : (t140 == 0) = true := beq_iff_eq.mpr c3
    have c3b1 : (t140 != 0) = false := bne_eq_false_iff_eq.mpr c3
    clear c3
    obtain ⟨y141, hy141⟩ : ∃ y_ : List ByteArray, y_ = (([] : List ByteArray)) := ⟨_, rfl⟩
    replace H : (impl_LogLines.l0 k y141 l0 (l0.length : Int) 0) = some (r1, r2) := by first | (rw [hy141]; with_reducible exact H) | (have H2_ := (Option.bind_some _ _).symm.trans H; rw [hy141]; with_reducible exact H2_) | (have H2_ := (Option.bind_some _ _).symm.trans H; with_reducible exact H2_) | with_reducible exact H | (rw [hy141]; exact H) | exact H
    have Ny141 := Aside0.mk hy141
    clear hy141
    have H' := Aside0.mk H
    clear H
    go_enter Tryd.func10, Tryd.ntmps10
    go_wp2_with (first | ((with_reducible refine gate_callee (f := 32) rfl ?_); refine goesL_ (some 9) rfl rfl Tryd.func32 (by kernel_rfl) rfl #[.slice A0 l0.length c0] rfl (by (try simp only [List.map_toArray, List.map_cons, List.map_nil]); first | done | rfl | (simp only [List.length_drop, List.length_take]; rfl)) ?_; (with_reducible refine (impl_Done.calls _ _ l0 t140 _ ?side1 ?side2 A2.out).mono ?_); (case side1 => repeat (first | exact HR0.out | (with_reducible refine Kd.C_alloc ?_ _) | (with_reducible refine Kd.C_drewN ?_ _) | (with_reducible refine Kd.C_drew ?_))); (case side2 => exact HC0.out); rintro e w' ⟨rfl, ⟨nd, rfl⟩⟩; refine ⟨_, rfl, ?_⟩) | ((with_reducible refine gate_dst (N := 13) rfl ?_); refine Kd.R_lit Kd.string _ 9 ?hg (N := 13) ?hd (xs := ([] : List ByteArray)) (inner := []) (ok := fun _ => True) (okp := fun _ => True) ?hr ?hp (fun _ hk => hk) trivial (Below.refl _ _) (Nat.le_refl _) (by simp) ?_; (case hd => rfl); (case hg => rfl); (case hr => first | (go_simp; done) | (go_simp; rfl)); (case hp => exact (Reps.none _ _)); intro v142 w4 ho5 hb hg_ hnew_; clear hg_ hnew_; (first | rw [← Ny141.out] at ho5 | (simp only [Int.reduceToNat] at ho5; rw [← Ny141.out] at ho5)); have n0_ := Aside0.mk (Kd.R_lower ho5 (below_size (by repeat (first | (with_reducible first | exact HB.out | apply below_alloc | apply pw_below_drewN | apply below_drew1) | exact HB.out)))); have n1_ := Aside0.mk (below_step (by repeat (first | (with_reducible first | exact HB.out | apply below_alloc | apply pw_below_drewN | apply below_drew1) | exact HB.out)) hb); clear HB; have HO143 := n0_; have HB := n1_; clear n0_ n1_; clear hb ho5))
    go_loopg [5, 16] k (fun kq v5 v16 w' => ∃ (x5_1 : List ByteArray) (x16_1 : Int), v16 = .int .i64 x16_1 ∧ Aside0 (impl_LogLines.l0 kq x5_1 l0 (l0.length : Int) x16_1 = some (r1, r2)) ∧ Aside0 (kq ≤ k) ∧ Aside0 (Kd.R Kd.string 9 w' w.heap.size (fun _ => True) v5 x5_1) ∧ Aside0 (Below w.heap.size w w'))
    case atStart => exact ⟨(y141), (0), (by first | rfl | (simp; done) | (simp [*]; done)), H', ⟨Nat.le_refl _⟩, ⟨by (with_reducible repeat (first | apply Kd.R_alloc | apply Kd.R_drewN | apply Kd.R_drew)); exact HO143.out⟩, ⟨by repeat (first | (with_reducible first | exact HB.out | apply below_alloc | apply pw_below_drewN | apply below_drew1) | exact HB.out)⟩⟩
    case round =>
      clear H'
      try clear c1
      try clear p2
      try clear c3
      try clear c3b0
      try clear c3b1
      obtain ⟨x5_1, x16_1, rfl, HA, HK1, HO_5, HB⟩ := hrel
      cases gk with
      | zero => exact absurd HA.out (by simp [impl_LogLines.l0])
      | succ k1 =>
        have H := HA.out
        clear HA
        simp only [impl_LogLines.l0] at H
        by_cases c6 : x16_1 < (l0.length : Int)
        · rw [if_pos c6] at H
          have c6b0 : decide (x16_1 < (l0.length : Int)) = true := decide_eq_true c6
          clear c6
          by_cases c7 : 0 ≤ x16_1
          · rw [if_pos c7] at H
            have c7b0 : decide (0 ≤ x16_1) = true := decide_eq_true c7
            clear c7
            by_cases c8 : x16_1 < (l0.length : Int)
            · rw [if_pos c8] at H
              have c8b0 : decide (x16_1 < (l0.length : Int)) = true := decide_eq_true c8
              clear c8
              replace H := Option.bind_eq_some_iff.mp H
              obtain ⟨t146, A90, H⟩ := H
              replace H : (if 5 + t146.size ≤ 9223372036854775807 then (if ((⟨#[116, 97, 115, 107, 32]⟩ : ByteArray) ++ t146).size + 9 ≤ 9223372036854775807 then ((impl_decimal.f ((rd_T61 l0 x16_1).f1)).bind fun t147 => (if (((⟨#[116, 97, 115, 107, 32]⟩ : ByteArray) ++ t146) ++ (⟨#[32, 97, 114, 114, 105, 118, 101, 100, 32]⟩ : ByteArray)).size + t147.size ≤ 9223372036854775807 then (if ((((⟨#[116, 97, 115, 107, 32]⟩ : ByteArray) ++ t146) ++ (⟨#[32, 97, 114, 114, 105, 118, 101, 100, 32]⟩ : ByteArray)) ++ t147).size + 9 ≤ 9223372036854775807 then ((impl_decimal.f ((rd_T61 l0 x16_1).f2)).bind fun t148 => (if (((((⟨#[116, 97, 115, 107, 32]⟩ : ByteArray) ++ t146) ++ (⟨#[32, 97, 114, 114, 105, 118, 101, 100, 32]⟩ : ByteArray)) ++ t147) ++ (⟨#[32, 115, 116, 97, 114, 116, 101, 100, 32]⟩ : ByteArray)).size + t148.size ≤ 9223372036854775807 then (if ((((((⟨#[116, 97, 115, 107, 32]⟩ : ByteArray) ++ t146) ++ (⟨#[32, 97, 114, 114, 105, 118, 101, 100, 32]⟩ : ByteArray)) ++ t147) ++ (⟨#[32, 115, 116, 97, 114, 116, 101, 100, 32]⟩ : ByteArray)) ++ t148).size + 10 ≤ 9223372036854775807 then ((impl_decimal.f ((rd_T61 l0 x16_1).f3)).bind fun t149 => (if (((((((⟨#[116, 97, 115, 107, 32]⟩ : ByteArray) ++ t146) ++ (⟨#[32, 97, 114, 114, 105, 118, 101, 100, 32]⟩ : ByteArray)) ++ t147) ++ (⟨#[32, 115, 116, 97, 114, 116, 101, 100, 32]⟩ : ByteArray)) ++ t148) ++ (⟨#[32, 102, 105, 110, 105, 115, 104, 101, 100, 32]⟩ : ByteArray)).size + t149.size ≤ 9223372036854775807 then (if x5_1.length < 8796093022208 then (impl_LogLines.l0 k1 (x5_1 ++ [(((((((⟨#[116, 97, 115, 107, 32]⟩ : ByteArray) ++ t146) ++ (⟨#[32, 97, 114, 114, 105, 118, 101, 100, 32]⟩ : ByteArray)) ++ t147) ++ (⟨#[32, 115, 116, 97, 114, 116, 101, 100, 32]⟩ : ByteArray)) ++ t148) ++ (⟨#[32, 102, 105, 110, 105, 115, 104, 101, 100, 32]⟩ : ByteArray)) ++ t149]) l0 (l0.length : Int) (wrap64 (x16_1 + 1))) else (none)) else (none))) else (none)) else (none))) else (none)) else (none))) else (none)) else (none)) = some (r1, r2) := H
              have A9 := Aside0.mk A90
              clear A90
              by_cases c10 : 5 + t146.size ≤ 9223372036854775807
              · rw [if_pos c10] at H
                have c10b0 := eq_true c10
                have c10b1 : decide (5 + t146.size ≤ 9223372036854775807) = true := decide_eq_true c10
                try have c10b2 : (9223372036854775807 < 5 + t146.size) = False := eq_false (Nat.not_lt.2 c10)
                by_cases c11 : ((⟨#[116, 97, 115, 107, 32]⟩ : ByteArray) ++ t146).size + 9 ≤ 9223372036854775807
                · rw [if_pos c11] at H
                  have c11b0 := eq_true c11
                  have c11b1 : decide (((⟨#[116, 97, 115, 107, 32]⟩ : ByteArray) ++ t146).size + 9 ≤ 9223372036854775807) = true := decide_eq_true c11
                  try have c11b2 : (9223372036854775807 < ((⟨#[116, 97, 115, 107, 32]⟩ : ByteArray) ++ t146).size + 9) = False := eq_false (Nat.not_lt.2 c11)
                  try (have c11b3 := c11b2; simp only [ByteArray.size_append] at c11b3)
                  try (have c11b4 : (9223372036854775807 < 5 + t146.size + 9) = False := by have h_ := c11b2; simp only [ByteArray.size_append] at h_; exact h_)
                  replace H := Option.bind_eq_some_iff.mp H
                  obtain ⟨t147, A120, H⟩ := H
                  replace H : (if (((⟨#[116, 97, 115, 107, 32]⟩ : ByteArray) ++ t146) ++ (⟨#[32, 97, 114, 114, 105, 118, 101, 100, 32]⟩ : ByteArray)).size + t147.size ≤ 9223372036854775807 then (if ((((⟨#[116, 97, 115, 107, 32]⟩ : ByteArray) ++ t146) ++ (⟨#[32, 97, 114, 114, 105, 118, 101, 100, 32]⟩ : ByteArray)) ++ t147).size + 9 ≤ 9223372036854775807 then ((impl_decimal.f ((rd_T61 l0 x16_1).f2)).bind fun t148 => (if (((((⟨#[116, 97, 115, 107, 32]⟩ : ByteArray) ++ t146) ++ (⟨#[32, 97, 114, 114, 105, 118, 101, 100, 32]⟩ : ByteArray)) ++ t147) ++ (⟨#[32, 115, 116, 97, 114, 116, 101, 100, 32]⟩ : ByteArray)).size + t148.size ≤ 9223372036854775807 then (if ((((((⟨#[116, 97, 115, 107, 32]⟩ : ByteArray) ++ t146) ++ (⟨#[32, 97, 114, 114, 105, 118, 101, 100, 32]⟩ : ByteArray)) ++ t147) ++ (⟨#[32, 115, 116, 97, 114, 116, 101, 100, 32]⟩ : ByteArray)) ++ t148).size + 10 ≤ 9223372036854775807 then ((impl_decimal.f ((rd_T61 l0 x16_1).f3)).bind fun t149 => (if (((((((⟨#[116, 97, 115, 107, 32]⟩ : ByteArray) ++ t146) ++ (⟨#[32, 97, 114, 114, 105, 118, 101, 100, 32]⟩ : ByteArray)) ++ t147) ++ (⟨#[32, 115, 116, 97, 114, 116, 101, 100, 32]⟩ : ByteArray)) ++ t148) ++ (⟨#[32, 102, 105, 110, 105, 115, 104, 101, 100, 32]⟩ : ByteArray)).size + t149.size ≤ 9223372036854775807 then (if x5_1.length < 8796093022208 then (impl_LogLines.l0 k1 (x5_1 ++ [(((((((⟨#[116, 97, 115, 107, 32]⟩ : ByteArray) ++ t146) ++ (⟨#[32, 97, 114, 114, 105, 118, 101, 100, 32]⟩ : ByteArray)) ++ t147) ++ (⟨#[32, 115, 116, 97, 114, 116, 101, 100, 32]⟩ : ByteArray)) ++ t148) ++ (⟨#[32, 102, 105, 110, 105, 115, 104, 101, 100, 32]⟩ : ByteArray)) ++ t149]) l0 (l0.length : Int) (wrap64 (x16_1 + 1))) else (none)) else (none))) else (none)) else (none))) else (none)) else (none)) = some (r1, r2) := H
                  have A12 := Aside0.mk A120
                  clear A120
                  by_cases c13 : (((⟨#[116, 97, 115, 107, 32]⟩ : ByteArray) ++ t146) ++ (⟨#[32, 97, 114, 114, 105, 118, 101, 100, 32]⟩ : ByteArray)).size + t147.size ≤ 9223372036854775807
                  · rw [if_pos c13] at H
                    have c13b0 := eq_true c13
                    have c13b1 : decide ((((⟨#[116, 97, 115, 107, 32]⟩ : ByteArray) ++ t146) ++ (⟨#[32, 97, 114, 114, 105, 118, 101, 100, 32]⟩ : ByteArray)).size + t147.size ≤ 9223372036854775807) = true := decide_eq_true c13
                    try have c13b2 : (9223372036854775807 < (((⟨#[116, 97, 115, 107, 32]⟩ : ByteArray) ++ t146) ++ (⟨#[32, 97, 114, 114, 105, 118, 101, 100, 32]⟩ : ByteArray)).size + t147.size) = False := eq_false (Nat.not_lt.2 c13)
                    try (have c13b3 := c13b2; simp only [ByteArray.size_append] at c13b3)
                    try (have c13b4 : (9223372036854775807 < 5 + t146.size + 9 + t147.size) = False := by have h_ := c13b2; simp only [ByteArray.size_append] at h_; exact h_)
                    by_cases c14 : ((((⟨#[116, 97, 115, 107, 32]⟩ : ByteArray) ++ t146) ++ (⟨#[32, 97, 114, 114, 105, 118, 101, 100, 32]⟩ : ByteArray)) ++ t147).size + 9 ≤ 9223372036854775807
                    · rw [if_pos c14] at H
                      have c14b0 := eq_true c14
                      have c14b1 : decide (((((⟨#[116, 97, 115, 107, 32]⟩ : ByteArray) ++ t146) ++ (⟨#[32, 97, 114, 114, 105, 118, 101, 100, 32]⟩ : ByteArray)) ++ t147).size + 9 ≤ 9223372036854775807) = true := decide_eq_true c14
                      try have c14b2 : (9223372036854775807 < ((((⟨#[116, 97, 115, 107, 32]⟩ : ByteArray) ++ t146) ++ (⟨#[32, 97, 114, 114, 105, 118, 101, 100, 32]⟩ : ByteArray)) ++ t147).size + 9) = False := eq_false (Nat.not_lt.2 c14)
                      try (have c14b3 := c14b2; simp only [ByteArray.size_append] at c14b3)
                      try (have c14b4 : (9223372036854775807 < 5 + t146.size + 9 + t147.size + 9) = False := by have h_ := c14b2; simp only [ByteArray.size_append] at h_; exact h_)
                      replace H := Option.bind_eq_some_iff.mp H
                      obtain ⟨t148, A150, H⟩ := H
                      replace H : (if (((((⟨#[116, 97, 115, 107, 32]⟩ : ByteArray) ++ t146) ++ (⟨#[32, 97, 114, 114, 105, 118, 101, 100, 32]⟩ : ByteArray)) ++ t147) ++ (⟨#[32, 115, 116, 97, 114, 116, 101, 100, 32]⟩ : ByteArray)).size + t148.size ≤ 9223372036854775807 then (if ((((((⟨#[116, 97, 115, 107, 32]⟩ : ByteArray) ++ t146) ++ (⟨#[32, 97, 114, 114, 105, 118, 101, 100, 32]⟩ : ByteArray)) ++ t147) ++ (⟨#[32, 115, 116, 97, 114, 116, 101, 100, 32]⟩ : ByteArray)) ++ t148).size + 10 ≤ 9223372036854775807 then ((impl_decimal.f ((rd_T61 l0 x16_1).f3)).bind fun t149 => (if (((((((⟨#[116, 97, 115, 107, 32]⟩ : ByteArray) ++ t146) ++ (⟨#[32, 97, 114, 114, 105, 118, 101, 100, 32]⟩ : ByteArray)) ++ t147) ++ (⟨#[32, 115, 116, 97, 114, 116, 101, 100, 32]⟩ : ByteArray)) ++ t148) ++ (⟨#[32, 102, 105, 110, 105, 115, 104, 101, 100, 32]⟩ : ByteArray)).size + t149.size ≤ 9223372036854775807 then (if x5_1.length < 8796093022208 then (impl_LogLines.l0 k1 (x5_1 ++ [(((((((⟨#[116, 97, 115, 107, 32]⟩ : ByteArray) ++ t146) ++ (⟨#[32, 97, 114, 114, 105, 118, 101, 100, 32]⟩ : ByteArray)) ++ t147) ++ (⟨#[32, 115, 116, 97, 114, 116, 101, 100, 32]⟩ : ByteArray)) ++ t148) ++ (⟨#[32, 102, 105, 110, 105, 115, 104, 101, 100, 32]⟩ : ByteArray)) ++ t149]) l0 (l0.length : Int) (wrap64 (x16_1 + 1))) else (none)) else (none))) else (none)) else (none)) = some (r1, r2) := H
                      have A15 := Aside0.mk A150
                      clear A150
                      by_cases c16 : (((((⟨#[116, 97, 115, 107, 32]⟩ : ByteArray) ++ t146) ++ (⟨#[32, 97, 114, 114, 105, 118, 101, 100, 32]⟩ : ByteArray)) ++ t147) ++ (⟨#[32, 115, 116, 97, 114, 116, 101, 100, 32]⟩ : ByteArray)).size + t148.size ≤ 9223372036854775807
                      · rw [if_pos c16] at H
                        have c16b0 := eq_true c16
                        have c16b1 : decide ((((((⟨#[116, 97, 115, 107, 32]⟩ : ByteArray) ++ t146) ++ (⟨#[32, 97, 114, 114, 105, 118, 101, 100, 32]⟩ : ByteArray)) ++ t147) ++ (⟨#[32, 115, 116, 97, 114, 116, 101, 100, 32]⟩ : ByteArray)).size + t148.size ≤ 9223372036854775807) = true := decide_eq_true c16
                        try have c16b2 : (9223372036854775807 < (((((⟨#[116, 97, 115, 107, 32]⟩ : ByteArray) ++ t146) ++ (⟨#[32, 97, 114, 114, 105, 118, 101, 100, 32]⟩ : ByteArray)) ++ t147) ++ (⟨#[32, 115, 116, 97, 114, 116, 101, 100, 32]⟩ : ByteArray)).size + t148.size) = False := eq_false (Nat.not_lt.2 c16)
                        try (have c16b3 := c16b2; simp only [ByteArray.size_append] at c16b3)
                        try (have c16b4 : (9223372036854775807 < 5 + t146.size + 9 + t147.size + 9 + t148.size) = False := by have h_ := c16b2; simp only [ByteArray.size_append] at h_; exact h_)
                        by_cases c17 : ((((((⟨#[116, 97, 115, 107, 32]⟩ : ByteArray) ++ t146) ++ (⟨#[32, 97, 114, 114, 105, 118, 101, 100, 32]⟩ : ByteArray)) ++ t147) ++ (⟨#[32, 115, 116, 97, 114, 116, 101, 100, 32]⟩ : ByteArray)) ++ t148).size + 10 ≤ 9223372036854775807
                        · rw [if_pos c17] at H
                          have c17b0 := eq_true c17
                          have c17b1 : decide (((((((⟨#[116, 97, 115, 107, 32]⟩ : ByteArray) ++ t146) ++ (⟨#[32, 97, 114, 114, 105, 118, 101, 100, 32]⟩ : ByteArray)) ++ t147) ++ (⟨#[32, 115, 116, 97, 114, 116, 101, 100, 32]⟩ : ByteArray)) ++ t148).size + 10 ≤ 9223372036854775807) = true := decide_eq_true c17
                          try have c17b2 : (9223372036854775807 < ((((((⟨#[116, 97, 115, 107, 32]⟩ : ByteArray) ++ t146) ++ (⟨#[32, 97, 114, 114, 105, 118, 101, 100, 32]⟩ : ByteArray)) ++ t147) ++ (⟨#[32, 115, 116, 97, 114, 116, 101, 100, 32]⟩ : ByteArray)) ++ t148).size + 10) = False := eq_false (Nat.not_lt.2 c17)
                          try (have c17b3 := c17b2; simp only [ByteArray.size_append] at c17b3)
                          try (have c17b4 : (9223372036854775807 < 5 + t146.size + 9 + t147.size + 9 + t148.size + 10) = False := by have h_ := c17b2; simp only [ByteArray.size_append] at h_; exact h_)
                          replace H := Option.bind_eq_some_iff.mp H
                          obtain ⟨t149, A180, H⟩ := H
                          replace H : (if (((((((⟨#[116, 97, 115, 107, 32]⟩ : ByteArray) ++ t146) ++ (⟨#[32, 97, 114, 114, 105, 118, 101, 100, 32]⟩ : ByteArray)) ++ t147) ++ (⟨#[32, 115, 116, 97, 114, 116, 101, 100, 32]⟩ : ByteArray)) ++ t148) ++ (⟨#[32, 102, 105, 110, 105, 115, 104, 101, 100, 32]⟩ : ByteArray)).size + t149.size ≤ 9223372036854775807 then (if x5_1.length < 8796093022208 then (impl_LogLines.l0 k1 (x5_1 ++ [(((((((⟨#[116, 97, 115, 107, 32]⟩ : ByteArray) ++ t146) ++ (⟨#[32, 97, 114, 114, 105, 118, 101, 100, 32]⟩ : ByteArray)) ++ t147) ++ (⟨#[32, 115, 116, 97, 114, 116, 101, 100, 32]⟩ : ByteArray)) ++ t148) ++ (⟨#[32, 102, 105, 110, 105, 115, 104, 101, 100, 32]⟩ : ByteArray)) ++ t149]) l0 (l0.length : Int) (wrap64 (x16_1 + 1))) else (none)) else (none)) = some (r1, r2) := H
                          have A18 := Aside0.mk A180
                          clear A180
                          by_cases c19 : (((((((⟨#[116, 97, 115, 107, 32]⟩ : ByteArray) ++ t146) ++ (⟨#[32, 97, 114, 114, 105, 118, 101, 100, 32]⟩ : ByteArray)) ++ t147) ++ (⟨#[32, 115, 116, 97, 114, 116, 101, 100, 32]⟩ : ByteArray)) ++ t148) ++ (⟨#[32, 102, 105, 110, 105, 115, 104, 101, 100, 32]⟩ : ByteArray)).size + t149.size ≤ 9223372036854775807
                          · rw [if_pos c19] at H
                            have c19b0 := eq_true c19
                            have c19b1 : decide ((((((((⟨#[116, 97, 115, 107, 32]⟩ : ByteArray) ++ t146) ++ (⟨#[32, 97, 114, 114, 105, 118, 101, 100, 32]⟩ : ByteArray)) ++ t147) ++ (⟨#[32, 115, 116, 97, 114, 116, 101, 100, 32]⟩ : ByteArray)) ++ t148) ++ (⟨#[32, 102, 105, 110, 105, 115, 104, 101, 100, 32]⟩ : ByteArray)).size + t149.size ≤ 9223372036854775807) = true := decide_eq_true c19
                            try have c19b2 : (9223372036854775807 < (((((((⟨#[116, 97, 115, 107, 32]⟩ : ByteArray) ++ t146) ++ (⟨#[32, 97, 114, 114, 105, 118, 101, 100, 32]⟩ : ByteArray)) ++ t147) ++ (⟨#[32, 115, 116, 97, 114, 116, 101, 100, 32]⟩ : ByteArray)) ++ t148) ++ (⟨#[32, 102, 105, 110, 105, 115, 104, 101, 100, 32]⟩ : ByteArray)).size + t149.size) = False := eq_false (Nat.not_lt.2 c19)
                            try (have c19b3 := c19b2; simp only [ByteArray.size_append] at c19b3)
                            try (have c19b4 : (9223372036854775807 < 5 + t146.size + 9 + t147.size + 9 + t148.size + 10 + t149.size) = False := by have h_ := c19b2; simp only [ByteArray.size_append] at h_; exact h_)
                            by_cases c20 : x5_1.length < 8796093022208
                            · rw [if_pos c20] at H
                              have LMc20 := Aside0.mk c20
                              clear c20
                              obtain ⟨y150, hy150⟩ : ∃ y_ : List ByteArray, y_ = (x5_1 ++ [(((((((⟨#[116, 97, 115, 107, 32]⟩ : ByteArray) ++ t146) ++ (⟨#[32, 97, 114, 114, 105, 118, 101, 100, 32]⟩ : ByteArray)) ++ t147) ++ (⟨#[32, 115, 116, 97, 114, 116, 101, 100, 32]⟩ : ByteArray)) ++ t148) ++ (⟨#[32, 102, 105, 110, 105, 115, 104, 101, 100, 32]⟩ : ByteArray)) ++ t149]) := ⟨_, rfl⟩
                              replace H : (impl_LogLines.l0 k1 y150 l0 (l0.length : Int) (wrap64 (x16_1 + 1))) = some (r1, r2) := by first | (rw [hy150]; with_reducible exact H) | (have H2_ := (Option.bind_some _ _).symm.trans H; rw [hy150]; with_reducible exact H2_) | (have H2_ := (Option.bind_some _ _).symm.trans H; with_reducible exact H2_) | with_reducible exact H | (rw [hy150]; exact H) | exact H
                              have Ny150 := Aside0.mk hy150
                              clear hy150
                              have H' := Aside0.mk H
                              clear H
                              have p144 : 0 ≤ (x16_1 : Int) := of_decide_eq_true (by first | (with_reducible assumption) | assumption)
                              have q144 : x16_1 < (l0.length : Int) := of_decide_eq_true (by first | (with_reducible assumption) | assumption)
                              obtain ⟨ad144, e144, hx144_0, hx144_1, hx144_2, hx144_3⟩ := at_T61 HR0.out x16_1 p144 q144
                              cases e144
                              replace hx144_0 := (HB.out.cell (World.block_lt_of_cell? w _ hx144_0)).trans hx144_0
                              replace hx144_1 := (HB.out.cell (World.block_lt_of_cell? w _ hx144_1)).trans hx144_1
                              replace hx144_2 := (HB.out.cell (World.block_lt_of_cell? w _ hx144_2)).trans hx144_2
                              replace hx144_3 := (HB.out.cell (World.block_lt_of_cell? w _ hx144_3)).trans hx144_3
                              replace p144 := eq_true p144
                              replace q144 := eq_true q144
                              try go_wp2_with (first | ((with_reducible refine gate_dst (N := 7) rfl ?_); refine box_event ?hg (N := 7) ?hd (cs := #[.int .i64 0, .int .i64 0, .int .i64 0, .int .i64 0]) (t := 61) ?hr ?_; (case hd => rfl); (case hg => rfl); (case hr => first | (go_simp; done) | (go_simp; rfl)); intro gb145 hg w21 hbox hb; have n0_ := Aside0.mk (Kd.R_below (by (with_reducible repeat (first | apply Kd.R_alloc | apply Kd.R_drewN | apply Kd.R_drew)); exact HO_5.out) hb); have n1_ := Aside0.mk (below_step (by repeat (first | (with_reducible first | exact HB.out | apply below_alloc | apply pw_below_drewN | apply below_drew1) | exact HB.out)) hb); have n2_ := Aside0.mk (hbox); have n3_ := Aside0.mk ((by rw [hg]; exact (below_size (by repeat (first | (with_reducible first | exact HB.out | apply below_alloc | apply pw_below_drewN | apply below_drew1) | exact HB.out))) : w.heap.size ≤ gb145)); have n4_ := Aside0.mk ((by rw [hg]; exact (below_size (by repeat (first | (with_reducible first | exact HB.out | apply below_alloc | apply pw_below_drewN | apply below_drew1) | exact HB.out))) : w.heap.size ≤ gb145)); clear HO_5; clear HB; have HO_5 := n0_; have HB := n1_; have BK145 := n2_; have GW145 := n3_; have GE145 := n4_; clear n0_ n1_ n2_ n3_ n4_; clear hb hbox hg; have hcz22_0 : w21.cell? ⟨gb145, 0, none⟩ = some (.int .i64 0) := (blk_cell BK145.out 0).trans rfl; have hcz22_1 : w21.cell? ⟨gb145, 1, none⟩ = some (.int .i64 0) := (blk_cell BK145.out 1).trans rfl; have hcz22_2 : w21.cell? ⟨gb145, 2, none⟩ = some (.int .i64 0) := (blk_cell BK145.out 2).trans rfl; have hcz22_3 : w21.cell? ⟨gb145, 3, none⟩ = some (.int .i64 0) := (blk_cell BK145.out 3).trans rfl; have hfz22_0 := blk_frozen BK145.out 0; have hfz22_1 := blk_frozen BK145.out 1; have hfz22_2 := blk_frozen BK145.out 2; have hfz22_3 := blk_frozen BK145.out 3))
                              have n0_ : Aside0 (Kd.R Kd.string 9 ((((w21.setCell ⟨gb145, 0, none⟩ (.int .i64 ((rd_T61 l0 x16_1).f0))).setCell ⟨gb145, 1, none⟩ (.int .i64 ((rd_T61 l0 x16_1).f1))).setCell ⟨gb145, 2, none⟩ (.int .i64 ((rd_T61 l0 x16_1).f2))).setCell ⟨gb145, 3, none⟩ (.int .i64 ((rd_T61 l0 x16_1).f3))) w.heap.size (fun _ => True) u5 x5_1) := ⟨by (with_reducible repeat (first | apply Kd.R_alloc | apply Kd.R_drewN | apply Kd.R_drew)); exact Kd.R_mono (Kd.R_far (p := ⟨gb145, 3, none⟩) (Kd.R_far (p := ⟨gb145, 2, none⟩) (Kd.R_far (p := ⟨gb145, 1, none⟩) (Kd.R_far (p := ⟨gb145, 0, none⟩) (Kd.R_types HO_5.out BK145.out (by decide)) (fun _ hk => hk.2) (.int .i64 ((rd_T61 l0 x16_1).f0))) (fun _ hk => hk.2) (.int .i64 ((rd_T61 l0 x16_1).f1))) (fun _ hk => hk.2) (.int .i64 ((rd_T61 l0 x16_1).f2))) (fun _ hk => hk.2) (.int .i64 ((rd_T61 l0 x16_1).f3))) (fun _ hk => trivial)⟩
                              have n1_ : Aside0 (((((w21.setCell ⟨gb145, 0, none⟩ (.int .i64 ((rd_T61 l0 x16_1).f0))).setCell ⟨gb145, 1, none⟩ (.int .i64 ((rd_T61 l0 x16_1).f1))).setCell ⟨gb145, 2, none⟩ (.int .i64 ((rd_T61 l0 x16_1).f2))).setCell ⟨gb145, 3, none⟩ (.int .i64 ((rd_T61 l0 x16_1).f3))).heap[gb145]? = some (.cells #[.int .i64 ((rd_T61 l0 x16_1).f0), .int .i64 ((rd_T61 l0 x16_1).f1), .int .i64 ((rd_T61 l0 x16_1).f2), .int .i64 ((rd_T61 l0 x16_1).f3)] 61 (0, 0))) := ⟨by (with_reducible repeat (first | refine blk_drewN ?_ _ | refine blk_drew ?_ | refine blk_alloc ?_ _)); refine blk_put (cs := #[.int .i64 ((rd_T61 l0 x16_1).f0), .int .i64 ((rd_T61 l0 x16_1).f1), .int .i64 ((rd_T61 l0 x16_1).f2), .int .i64 0]) ?_ 3 _ rfl; (with_reducible repeat (first | refine blk_drewN ?_ _ | refine blk_drew ?_ | refine blk_alloc ?_ _)); refine blk_put (cs := #[.int .i64 ((rd_T61 l0 x16_1).f0), .int .i64 ((rd_T61 l0 x16_1).f1), .int .i64 0, .int .i64 0]) ?_ 2 _ rfl; (with_reducible repeat (first | refine blk_drewN ?_ _ | refine blk_drew ?_ | refine blk_alloc ?_ _)); refine blk_put (cs := #[.int .i64 ((rd_T61 l0 x16_1).f0), .int .i64 0, .int .i64 0, .int .i64 0]) ?_ 1 _ rfl; (with_reducible repeat (first | refine blk_drewN ?_ _ | refine blk_drew ?_ | refine blk_alloc ?_ _)); refine blk_put (cs := #[.int .i64 0, .int .i64 0, .int .i64 0, .int .i64 0]) ?_ 0 _ rfl; (with_reducible repeat (first | refine blk_drewN ?_ _ | refine blk_drew ?_ | refine blk_alloc ?_ _)); exact BK145.out⟩
                              have n2_ : Aside0 (Below w.heap.size w ((((w21.setCell ⟨gb145, 0, none⟩ (.int .i64 ((rd_T61 l0 x16_1).f0))).setCell ⟨gb145, 1, none⟩ (.int .i64 ((rd_T61 l0 x16_1).f1))).setCell ⟨gb145, 2, none⟩ (.int .i64 ((rd_T61 l0 x16_1).f2))).setCell ⟨gb145, 3, none⟩ (.int .i64 ((rd_T61 l0 x16_1).f3)))) := ⟨by repeat (first | (with_reducible first | exact HB.out | apply below_alloc | apply pw_below_drewN | apply below_drew1 | refine below_set ?_ GE145.out) | exact HB.out)⟩
                              (try clear HO_5)
                              (try clear BK145)
                              (try clear HB)
                              generalize ((((w21.setCell ⟨gb145, 0, none⟩ (.int .i64 ((rd_T61 l0 x16_1).f0))).setCell ⟨gb145, 1, none⟩ (.int .i64 ((rd_T61 l0 x16_1).f1))).setCell ⟨gb145, 2, none⟩ (.int .i64 ((rd_T61 l0 x16_1).f2))).setCell ⟨gb145, 3, none⟩ (.int .i64 ((rd_T61 l0 x16_1).f3))) = w23 at n0_ n1_ n2_ ⊢
                              have HO_5 := n0_
                              have BK145 := n1_
                              have HB := n2_
                              clear n0_ n1_ n2_
                              (try (rw [drewN_self w23]; generalize hq_ : World.drewN w23 _ = w23; have n0_ : Aside0 (Kd.R Kd.string 9 w23 w.heap.size (fun _ => True) u5 x5_1) := ⟨by rw [← hq_]; exact (by (with_reducible repeat (first | apply Kd.R_alloc | apply Kd.R_drewN | apply Kd.R_drew)); exact HO_5.out)⟩; have n1_ : Aside0 (w23.heap[gb145]? = some (.cells #[.int .i64 ((rd_T61 l0 x16_1).f0), .int .i64 ((rd_T61 l0 x16_1).f1), .int .i64 ((rd_T61 l0 x16_1).f2), .int .i64 ((rd_T61 l0 x16_1).f3)] 61 (0, 0))) := ⟨by rw [← hq_]; exact (by (with_reducible repeat (first | refine blk_drewN ?_ _ | refine blk_drew ?_ | refine blk_alloc ?_ _)); exact BK145.out)⟩; have n2_ : Aside0 (Below w.heap.size w w23) := ⟨by rw [← hq_]; exact (by repeat (first | (with_reducible first | exact HB.out | apply below_alloc | apply pw_below_drewN | apply below_drew1 | refine below_set ?_ GE145.out) | exact HB.out))⟩; clear HO_5 BK145 HB hq_; have HO_5 := n0_; have BK145 := n1_; have HB := n2_; clear n0_ n1_ n2_))
                              have n0_ := Aside0.mk (Kd.R_drew HO_5.out)
                              have n1_ := Aside0.mk (blk_drew BK145.out)
                              have n2_ := Aside0.mk (below_drew1 HB.out)
                              clear HO_5
                              clear BK145
                              clear HB
                              have HO_5 := n0_
                              have BK145 := n1_
                              have HB := n2_
                              clear n0_ n1_ n2_
                              refine start_ (n := 23) (S := fun w' => w'.cell? ⟨gb145, 0, none⟩ = some (.int .i64 ((rd_T61 l0 x16_1).f0)) ∧ w'.cell? ⟨gb145, 1, none⟩ = some (.int .i64 ((rd_T61 l0 x16_1).f1)) ∧ w'.cell? ⟨gb145, 2, none⟩ = some (.int .i64 ((rd_T61 l0 x16_1).f2)) ∧ w'.cell? ⟨gb145, 3, none⟩ = some (.int .i64 ((rd_T61 l0 x16_1).f3))) (ds := []) #[false, false, false, false, false, false, false, false, false, false, false, false, false, false, false, false, false, false, false, false, false, false, false] (by kernel_rfl) rfl rfl ⟨(blk_cell BK145.out 0).trans rfl, (blk_cell BK145.out 1).trans rfl, (blk_cell BK145.out 2).trans rfl, (blk_cell BK145.out 3).trans rfl⟩ (fun hHeld => ?_); refine with_tabW impl_LogLines.tab8 impl_LogLines.bits8 (fun HT_ HW_ => ?_)
                              generalize w23.drew = w24 at HO_5 BK145 HB hHeld ⊢
                              refine pure_ (i := 0) (N := some 20) (v := ?_) (a' := ?_) #[true, false, false, false, false, false, false, false, false, false, false, false, false, false, false, false, false, false, false, false, false, false, false] rfl rfl (any_of HT_.out (by kernel_rfl)) (fun _ _ _ h => h) (Or.inl ⟨by rfl, ?_⟩) ?_ ?_
                              rotate_left
                              · intro w'
                                go_simp
                                with_reducible rfl
                              rotate_left
                              · simp only [Act.put, List.setIfInBounds_toArray, List.set_cons_zero, List.set_cons_succ, i64_w, i32_w]
                                rfl
                              refine pure_ (i := 1) (N := some 21) (v := ?_) (a' := ?_) #[true, true, false, false, false, false, false, false, false, false, false, false, false, false, false, false, false, false, false, false, false, false, false] rfl rfl (any_of HT_.out (by kernel_rfl)) (fun _ _ _ h => h) (Or.inl ⟨by rfl, ?_⟩) ?_ ?_
                              rotate_left
                              · intro w'
                                go_simp
                                with_reducible rfl
                              rotate_left
                              · simp only [Act.put, List.setIfInBounds_toArray, List.set_cons_zero, List.set_cons_succ, i64_w, i32_w]
                                rfl
                              refine pure_ (i := 6) (N := some 26) (v := ?_) (a' := ?_) #[true, true, false, false, false, false, true, false, false, false, false, false, false, false, false, false, false, false, false, false, false, false, false] rfl rfl (any_of HT_.out (by kernel_rfl)) (fun _ _ _ h => h) (Or.inl ⟨by rfl, ?_⟩) ?_ ?_
                              rotate_left
                              · intro w'
                                go_simp
                                with_reducible rfl
                              rotate_left
                              · simp only [Act.put, List.setIfInBounds_toArray, List.set_cons_zero, List.set_cons_succ, i64_w, i32_w]
                                rfl
                              refine pure_ (i := 11) (N := some 31) (v := ?_) (a' := ?_) #[true, true, false, false, false, false, true, false, false, false, false, true, false, false, false, false, false, false, false, false, false, false, false] rfl rfl (any_of HT_.out (by kernel_rfl)) (fun _ _ _ h => h) (Or.inl ⟨by rfl, ?_⟩) ?_ ?_
                              rotate_left
                              · intro w'
                                go_simp
                                with_reducible rfl
                              rotate_left
                              · simp only [Act.put, List.setIfInBounds_toArray, List.set_cons_zero, List.set_cons_succ, i64_w, i32_w]
                                rfl
                              refine pure_ (i := 16) (N := some 36) (v := ?_) (a' := ?_) #[true, true, false, false, false, false, true, false, false, false, false, true, false, false, false, false, true, false, false, false, false, false, false] rfl rfl (any_of HT_.out (by kernel_rfl)) (fun _ _ _ h => h) (Or.inl ⟨by rfl, ?_⟩) ?_ ?_
                              rotate_left
                              · intro w'
                                go_simp
                                with_reducible rfl
                              rotate_left
                              · simp only [Act.put, List.setIfInBounds_toArray, List.set_cons_zero, List.set_cons_succ, i64_w, i32_w]
                                rfl
                              refine take_ (i := 2) (N := some 22) (v := ?_) (a' := ?_) #[true, true, true, false, false, false, true, false, false, false, false, true, false, false, false, false, true, false, false, false, false, false, false] rfl rfl (take_ofW HT_.out HW_.out (by kernel_rfl)) (fun _ _ _ h => h) (Or.inl ⟨by rfl, ?_⟩) hHeld ?_ ?_
                              rotate_left
                              · rintro w' ⟨s0, s1, s2, s3⟩
                                go_simp
                                with_reducible rfl
                              rotate_left
                              · simp only [Act.put, List.setIfInBounds_toArray, List.set_cons_zero, List.set_cons_succ, i64_w, i32_w]
                                rfl
                              refine take_ (i := 7) (N := some 27) (v := ?_) (a' := ?_) #[true, true, true, false, false, false, true, true, false, false, false, true, false, false, false, false, true, false, false, false, false, false, false] rfl rfl (take_ofW HT_.out HW_.out (by kernel_rfl)) (fun _ _ _ h => h) (Or.inl ⟨by rfl, ?_⟩) hHeld ?_ ?_
                              rotate_left
                              · rintro w' ⟨s0, s1, s2, s3⟩
                                go_simp
                                with_reducible rfl
                              rotate_left
                              · simp only [Act.put, List.setIfInBounds_toArray, List.set_cons_zero, List.set_cons_succ, i64_w, i32_w]
                                rfl
                              refine take_ (i := 12) (N := some 32) (v := ?_) (a' := ?_) #[true, true, true, false, false, false, true, true, false, false, false, true, true, false, false, false, true, false, false, false, false, false, false] rfl rfl (take_ofW HT_.out HW_.out (by kernel_rfl)) (fun _ _ _ h => h) (Or.inl ⟨by rfl, ?_⟩) hHeld ?_ ?_
                              rotate_left
                              · rintro w' ⟨s0, s1, s2, s3⟩
                                go_simp
                                with_reducible rfl
                              rotate_left
                              · simp only [Act.put, List.setIfInBounds_toArray, List.set_cons_zero, List.set_cons_succ, i64_w, i32_w]
                                rfl
                              refine take_ (i := 17) (N := some 37) (v := ?_) (a' := ?_) #[true, true, true, false, false, false, true, true, false, false, false, true, true, false, false, false, true, true, false, false, false, false, false] rfl rfl (take_ofW HT_.out HW_.out (by kernel_rfl)) (fun _ _ _ h => h) (Or.inl ⟨by rfl, ?_⟩) hHeld ?_ ?_
                              rotate_left
                              · rintro w' ⟨s0, s1, s2, s3⟩
                                go_simp
                                with_reducible rfl
                              rotate_left
                              · simp only [Act.put, List.setIfInBounds_toArray, List.set_cons_zero, List.set_cons_succ, i64_w, i32_w]
                                rfl
                              refine one_ (i := 3) (N := some 23) #[true, true, true, true, false, false, true, true, false, false, false, true, true, false, false, false, true, true, false, false, false, false, false] rfl rfl (one_of HT_.out (by kernel_rfl)) (by decide) (fun K hK => ?_)
                              refine goes_ Tryd.func33 (by kernel_rfl) rfl #[.int .i64 ((rd_T61 l0 x16_1).f0)] (by rfl) rfl rfl (by (try simp only [List.map_toArray, List.map_cons, List.map_nil]); first | done | rfl | (simp only [List.length_drop, List.length_take]; rfl)) ?_
                              with_reducible refine (impl_decimal.calls ((rd_T61 l0 x16_1).f0) t146 _ ?side1 A9.out).mono ?_
                              (case side1 => exact Glob.below HG.out (by repeat (first | (with_reducible first | exact HB.out | apply below_alloc | apply pw_below_drewN | apply below_drew1 | refine below_set ?_ GE145.out) | exact HB.out)))
                              rintro e w25 ⟨rfl, hb⟩
                              refine ⟨_, rfl, ?_⟩
                              have n0_ := Aside0.mk (Kd.R_below (by (with_reducible repeat (first | apply Kd.R_alloc | apply Kd.R_drewN | apply Kd.R_drew)); exact HO_5.out) hb)
                              have n1_ := Aside0.mk (blk_below (g := gb145) (o := .cells #[.int .i64 ((rd_T61 l0 x16_1).f0), .int .i64 ((rd_T61 l0 x16_1).f1), .int .i64 ((rd_T61 l0 x16_1).f2), .int .i64 ((rd_T61 l0 x16_1).f3)] 61 (0, 0)) (by (with_reducible repeat (first | refine blk_drewN ?_ _ | refine blk_drew ?_ | refine blk_alloc ?_ _)); exact BK145.out) hb)
                              have n2_ := Aside0.mk (below_step (by repeat (first | (with_reducible first | exact HB.out | apply below_alloc | apply pw_below_drewN | apply below_drew1 | refine below_set ?_ GE145.out) | exact HB.out)) hb)
                              clear HO_5
                              clear BK145
                              clear HB
                              have HO_5 := n0_
                              have BK145 := n1_
                              have HB := n2_
                              clear n0_ n1_ n2_
                              (try clear hb)
                              (try clear hb2)
                              (try clear hk)
                              (try clear hi)
                              refine hK.out _ _ ⟨(blk_cell BK145.out 0).trans rfl, (blk_cell BK145.out 1).trans rfl, (blk_cell BK145.out 2).trans rfl, (blk_cell BK145.out 3).trans rfl⟩ (fun hHeld => ?_)
                              clear hK K
                              refine norm_ (a' := ?_) ?_ ?_
                              rotate_left
                              · show Act.put _ (some 23) _ = _
                                simp only [Act.put, List.setIfInBounds_toArray, List.set_cons_zero, List.set_cons_succ, i64_w, i32_w]
                                rfl
                              refine pure_ (i := 4) (N := some 24) (v := ?_) (a' := ?_) #[true, true, true, true, true, false, true, true, false, false, false, true, true, false, false, false, true, true, false, false, false, false, false] rfl rfl (any_of HT_.out (by kernel_rfl)) (fun _ _ _ h => h) (Or.inl ⟨by rfl, ?_⟩) ?_ ?_
                              rotate_left
                              · intro w'
                                go_simp
                                with_reducible rfl
                              rotate_left
                              · simp only [Act.put, List.setIfInBounds_toArray, List.set_cons_zero, List.set_cons_succ, i64_w, i32_w]
                                rfl
                              refine pure_ (i := 5) (N := some 25) (v := ?_) (a' := ?_) #[true, true, true, true, true, true, true, true, false, false, false, true, true, false, false, false, true, true, false, false, false, false, false] rfl rfl (any_of HT_.out (by kernel_rfl)) (fun _ _ _ h => h) (Or.inl ⟨by rfl, ?_⟩) ?_ ?_
                              rotate_left
                              · intro w'
                                go_simp
                                with_reducible rfl
                              rotate_left
                              · simp only [Act.put, List.setIfInBounds_toArray, List.set_cons_zero, List.set_cons_succ, i64_w, i32_w]
                                rfl
                              refine one_ (i := 8) (N := some 28) #[true, true, true, true, true, true, true, true, true, false, false, true, true, false, false, false, true, true, false, false, false, false, false] rfl rfl (one_of HT_.out (by kernel_rfl)) (by decide) (fun K hK => ?_)
                              refine goes_ Tryd.func33 (by kernel_rfl) rfl #[.int .i64 ((rd_T61 l0 x16_1).f1)] (by rfl) rfl rfl (by (try simp only [List.map_toArray, List.map_cons, List.map_nil]); first | done | rfl | (simp only [List.length_drop, List.length_take]; rfl)) ?_
                              with_reducible refine (impl_decimal.calls ((rd_T61 l0 x16_1).f1) t147 _ ?side1 A12.out).mono ?_
                              (case side1 => exact Glob.below HG.out (by repeat (first | (with_reducible first | exact HB.out | apply below_alloc | apply pw_below_drewN | apply below_drew1 | refine below_set ?_ GE145.out) | exact HB.out)))
                              rintro e w26 ⟨rfl, hb⟩
                              refine ⟨_, rfl, ?_⟩
                              have n0_ := Aside0.mk (Kd.R_below (by (with_reducible repeat (first | apply Kd.R_alloc | apply Kd.R_drewN | apply Kd.R_drew)); exact HO_5.out) hb)
                              have n1_ := Aside0.mk (blk_below (g := gb145) (o := .cells #[.int .i64 ((rd_T61 l0 x16_1).f0), .int .i64 ((rd_T61 l0 x16_1).f1), .int .i64 ((rd_T61 l0 x16_1).f2), .int .i64 ((rd_T61 l0 x16_1).f3)] 61 (0, 0)) (by (with_reducible repeat (first | refine blk_drewN ?_ _ | refine blk_drew ?_ | refine blk_alloc ?_ _)); exact BK145.out) hb)
                              have n2_ := Aside0.mk (below_step (by repeat (first | (with_reducible first | exact HB.out | apply below_alloc | apply pw_below_drewN | apply below_drew1 | refine below_set ?_ GE145.out) | exact HB.out)) hb)
                              clear HO_5
                              clear BK145
                              clear HB
                              have HO_5 := n0_
                              have BK145 := n1_
                              have HB := n2_
                              clear n0_ n1_ n2_
                              (try clear hb)
                              (try clear hb2)
                              (try clear hk)
                              (try clear hi)
                              refine hK.out _ _ ⟨(blk_cell BK145.out 0).trans rfl, (blk_cell BK145.out 1).trans rfl, (blk_cell BK145.out 2).trans rfl, (blk_cell BK145.out 3).trans rfl⟩ (fun hHeld => ?_)
                              clear hK K
                              refine norm_ (a' := ?_) ?_ ?_
                              rotate_left
                              · show Act.put _ (some 28) _ = _
                                simp only [Act.put, List.setIfInBounds_toArray, List.set_cons_zero, List.set_cons_succ, i64_w, i32_w]
                                rfl
                              refine pure_ (i := 9) (N := some 29) (v := ?_) (a' := ?_) #[true, true, true, true, true, true, true, true, true, true, false, true, true, false, false, false, true, true, false, false, false, false, false] rfl rfl (any_of HT_.out (by kernel_rfl)) (fun _ _ _ h => h) (Or.inl ⟨by rfl, ?_⟩) ?_ ?_
                              rotate_left
                              · intro w'
                                go_simp
                                with_reducible rfl
                              rotate_left
                              · simp only [Act.put, List.setIfInBounds_toArray, List.set_cons_zero, List.set_cons_succ, i64_w, i32_w]
                                rfl
                              refine pure_ (i := 10) (N := some 30) (v := ?_) (a' := ?_) #[true, true, true, true, true, true, true, true, true, true, true, true, true, false, false, false, true, true, false, false, false, false, false] rfl rfl (any_of HT_.out (by kernel_rfl)) (fun _ _ _ h => h) (Or.inl ⟨by rfl, ?_⟩) ?_ ?_
                              rotate_left
                              · intro w'
                                go_simp
                                with_reducible rfl
                              rotate_left
                              · simp only [Act.put, List.setIfInBounds_toArray, List.set_cons_zero, List.set_cons_succ, i64_w, i32_w]
                                rfl
                              refine one_ (i := 13) (N := some 33) #[true, true, true, true, true, true, true, true, true, true, true, true, true, true, false, false, true, true, false, false, false, false, false] rfl rfl (one_of HT_.out (by kernel_rfl)) (by decide) (fun K hK => ?_)
                              refine goes_ Tryd.func33 (by kernel_rfl) rfl #[.int .i64 ((rd_T61 l0 x16_1).f2)] (by rfl) rfl rfl (by (try simp only [List.map_toArray, List.map_cons, List.map_nil]); first | done | rfl | (simp only [List.length_drop, List.length_take]; rfl)) ?_
                              with_reducible refine (impl_decimal.calls ((rd_T61 l0 x16_1).f2) t148 _ ?side1 A15.out).mono ?_
                              (case side1 => exact Glob.below HG.out (by repeat (first | (with_reducible first | exact HB.out | apply below_alloc | apply pw_below_drewN | apply below_drew1 | refine below_set ?_ GE145.out) | exact HB.out)))
                              rintro e w27 ⟨rfl, hb⟩
                              refine ⟨_, rfl, ?_⟩
                              have n0_ := Aside0.mk (Kd.R_below (by (with_reducible repeat (first | apply Kd.R_alloc | apply Kd.R_drewN | apply Kd.R_drew)); exact HO_5.out) hb)
                              have n1_ := Aside0.mk (blk_below (g := gb145) (o := .cells #[.int .i64 ((rd_T61 l0 x16_1).f0), .int .i64 ((rd_T61 l0 x16_1).f1), .int .i64 ((rd_T61 l0 x16_1).f2), .int .i64 ((rd_T61 l0 x16_1).f3)] 61 (0, 0)) (by (with_reducible repeat (first | refine blk_drewN ?_ _ | refine blk_drew ?_ | refine blk_alloc ?_ _)); exact BK145.out) hb)
                              have n2_ := Aside0.mk (below_step (by repeat (first | (with_reducible first | exact HB.out | apply below_alloc | apply pw_below_drewN | apply below_drew1 | refine below_set ?_ GE145.out) | exact HB.out)) hb)
                              clear HO_5
                              clear BK145
                              clear HB
                              have HO_5 := n0_
                              have BK145 := n1_
                              have HB := n2_
                              clear n0_ n1_ n2_
                              (try clear hb)
                              (try clear hb2)
                              (try clear hk)
                              (try clear hi)
                              refine hK.out _ _ ⟨(blk_cell BK145.out 0).trans rfl, (blk_cell BK145.out 1).trans rfl, (blk_cell BK145.out 2).trans rfl, (blk_cell BK145.out 3).trans rfl⟩ (fun hHeld => ?_)
                              clear hK K
                              refine norm_ (a' := ?_) ?_ ?_
                              rotate_left
                              · show Act.put _ (some 33) _ = _
                                simp only [Act.put, List.setIfInBounds_toArray, List.set_cons_zero, List.set_cons_succ, i64_w, i32_w]
                                rfl
                              refine pure_ (i := 14) (N := some 34) (v := ?_) (a' := ?_) #[true, true, true, true, true, true, true, true, true, true, true, true, true, true, true, false, true, true, false, false, false, false, false] rfl rfl (any_of HT_.out (by kernel_rfl)) (fun _ _ _ h => h) (Or.inl ⟨by rfl, ?_⟩) ?_ ?_
                              rotate_left
                              · intro w'
                                go_simp
                                with_reducible rfl
                              rotate_left
                              · simp only [Act.put, List.setIfInBounds_toArray, List.set_cons_zero, List.set_cons_succ, i64_w, i32_w]
                                rfl
                              refine pure_ (i := 15) (N := some 35) (v := ?_) (a' := ?_) #[true, true, true, true, true, true, true, true, true, true, true, true, true, true, true, true, true, true, false, false, false, false, false] rfl rfl (any_of HT_.out (by kernel_rfl)) (fun _ _ _ h => h) (Or.inl ⟨by rfl, ?_⟩) ?_ ?_
                              rotate_left
                              · intro w'
                                go_simp
                                with_reducible rfl
                              rotate_left
                              · simp only [Act.put, List.setIfInBounds_toArray, List.set_cons_zero, List.set_cons_succ, i64_w, i32_w]
                                rfl
                              refine one_ (i := 18) (N := some 38) #[true, true, true, true, true, true, true, true, true, true, true, true, true, true, true, true, true, true, true, false, false, false, false] rfl rfl (one_of HT_.out (by kernel_rfl)) (by decide) (fun K hK => ?_)
                              refine goes_ Tryd.func33 (by kernel_rfl) rfl #[.int .i64 ((rd_T61 l0 x16_1).f3)] (by rfl) rfl rfl (by (try simp only [List.map_toArray, List.map_cons, List.map_nil]); first | done | rfl | (simp only [List.length_drop, List.length_take]; rfl)) ?_
                              with_reducible refine (impl_decimal.calls ((rd_T61 l0 x16_1).f3) t149 _ ?side1 A18.out).mono ?_
                              (case side1 => exact Glob.below HG.out (by repeat (first | (with_reducible first | exact HB.out | apply below_alloc | apply pw_below_drewN | apply below_drew1 | refine below_set ?_ GE145.out) | exact HB.out)))
                              rintro e w28 ⟨rfl, hb⟩
                              refine ⟨_, rfl, ?_⟩
                              have n0_ := Aside0.mk (Kd.R_below (by (with_reducible repeat (first | apply Kd.R_alloc | apply Kd.R_drewN | apply Kd.R_drew)); exact HO_5.out) hb)
                              have n1_ := Aside0.mk (blk_below (g := gb145) (o := .cells #[.int .i64 ((rd_T61 l0 x16_1).f0), .int .i64 ((rd_T61 l0 x16_1).f1), .int .i64 ((rd_T61 l0 x16_1).f2), .int .i64 ((rd_T61 l0 x16_1).f3)] 61 (0, 0)) (by (with_reducible repeat (first | refine blk_drewN ?_ _ | refine blk_drew ?_ | refine blk_alloc ?_ _)); exact BK145.out) hb)
                              have n2_ := Aside0.mk (below_step (by repeat (first | (with_reducible first | exact HB.out | apply below_alloc | apply pw_below_drewN | apply below_drew1 | refine below_set ?_ GE145.out) | exact HB.out)) hb)
                              clear HO_5
                              clear BK145
                              clear HB
                              have HO_5 := n0_
                              have BK145 := n1_
                              have HB := n2_
                              clear n0_ n1_ n2_
                              (try clear hb)
                              (try clear hb2)
                              (try clear hk)
                              (try clear hi)
                              refine hK.out _ _ ⟨(blk_cell BK145.out 0).trans rfl, (blk_cell BK145.out 1).trans rfl, (blk_cell BK145.out 2).trans rfl, (blk_cell BK145.out 3).trans rfl⟩ (fun hHeld => ?_)
                              clear hK K
                              refine norm_ (a' := ?_) ?_ ?_
                              rotate_left
                              · show Act.put _ (some 38) _ = _
                                simp only [Act.put, List.setIfInBounds_toArray, List.set_cons_zero, List.set_cons_succ, i64_w, i32_w]
                                rfl
                              refine pure_ (i := 19) (N := some 39) (v := ?_) (a' := ?_) #[true, true, true, true, true, true, true, true, true, true, true, true, true, true, true, true, true, true, true, true, false, false, false] rfl rfl (any_of HT_.out (by kernel_rfl)) (fun _ _ _ h => h) (Or.inl ⟨by rfl, ?_⟩) ?_ ?_
                              rotate_left
                              · intro w'
                                go_simp
                                with_reducible rfl
                              rotate_left
                              · simp only [Act.put, List.setIfInBounds_toArray, List.set_cons_zero, List.set_cons_succ, i64_w, i32_w]
                                rfl
                              refine one_ (i := 20) (N := some 40) #[true, true, true, true, true, true, true, true, true, true, true, true, true, true, true, true, true, true, true, true, true, false, false] rfl rfl (one_of HT_.out (by kernel_rfl)) (by decide) (fun K hK => ?_)
                              refine value_ (w1 := ?_) (v := ?_) (by rfl) rfl ?_ ?_
                              rotate_left 2
                              · go_simp
                                constructor
                                · rfl
                                · rfl
                              refine hK.out _ _ ⟨(blk_cell (blk_alloc BK145.out _) 0).trans rfl, (blk_cell (blk_alloc BK145.out _) 1).trans rfl, (blk_cell (blk_alloc BK145.out _) 2).trans rfl, (blk_cell (blk_alloc BK145.out _) 3).trans rfl⟩ (fun hHeld => ?_)
                              clear hK K
                              refine norm_ (a' := ?_) ?_ ?_
                              rotate_left
                              · show Act.put _ (some 40) _ = _
                                simp only [Act.put, List.setIfInBounds_toArray, List.set_cons_zero, List.set_cons_succ, i64_w, i32_w]
                                rfl
                              refine one_ (i := 21) (N := some 41) #[true, true, true, true, true, true, true, true, true, true, true, true, true, true, true, true, true, true, true, true, true, true, false] rfl rfl (one_of HT_.out (by kernel_rfl)) (by decide) (fun K hK => ?_)
                              refine Kd.R_append_step Kd.string (w0 := w) w.heap.size (by rfl) (.tmp 20) (.tmp 40) 24 9 (.string ⟨#[]⟩) 16 rfl Tryd.underlying24 info9 rfl (by decide) (by omega) u5 x5_1 ((((((((⟨#[116, 97, 115, 107, 32]⟩ : ByteArray) ++ t146) ++ (⟨#[32, 97, 114, 114, 105, 118, 101, 100, 32]⟩ : ByteArray)) ++ t147) ++ (⟨#[32, 115, 116, 97, 114, 116, 101, 100, 32]⟩ : ByteArray)) ++ t148) ++ (⟨#[32, 102, 105, 110, 105, 115, 104, 101, 100, 32]⟩ : ByteArray)) ++ t149) [.string ((((((((⟨#[116, 97, 115, 107, 32]⟩ : ByteArray) ++ t146) ++ (⟨#[32, 97, 114, 114, 105, 118, 101, 100, 32]⟩ : ByteArray)) ++ t147) ++ (⟨#[32, 115, 116, 97, 114, 116, 101, 100, 32]⟩ : ByteArray)) ++ t148) ++ (⟨#[32, 102, 105, 110, 105, 115, 104, 101, 100, 32]⟩ : ByteArray)) ++ t149)] (fun _ => True) (fun _ => False) rfl rfl ?aP (fun _ hk => hk.elim) ?aF ?aO ?aB ?aS ?aL ?_
                              (case aP => exact rfl)
                              (case aB => exact (by repeat (first | (with_reducible first | exact HB.out | apply below_alloc | apply pw_below_drewN | apply below_drew1 | refine below_set ?_ GE145.out) | exact HB.out)))
                              (case aF => exact (fun _ _ => trivial))
                              (case aO => exact (by (with_reducible repeat (first | apply Kd.R_alloc | apply Kd.R_drewN | apply Kd.R_drew)); exact HO_5.out))
                              (case aS => exact (below_size (by repeat (first | (with_reducible first | exact HB.out | apply below_alloc | apply pw_below_drewN | apply below_drew1 | refine below_set ?_ GE145.out) | exact HB.out))))
                              (case aL => have := LMc20.out; omega)
                              intro v151 w29 ho hb hg hat
                              rw [← Ny150.out] at ho
                              have n0_ := Aside0.mk (blk_grown (g := gb145) (o := .cells #[.int .i64 ((rd_T61 l0 x16_1).f0), .int .i64 ((rd_T61 l0 x16_1).f1), .int .i64 ((rd_T61 l0 x16_1).f2), .int .i64 ((rd_T61 l0 x16_1).f3)] 61 (0, 0)) (by (with_reducible repeat (first | refine blk_drewN ?_ _ | refine blk_drew ?_ | refine blk_alloc ?_ _)); exact BK145.out) hg (Kd.R_ne HO_5.out BK145.out (by decide)))
                              have n1_ := Aside0.mk (hb)
                              have n2_ := Aside0.mk (ho)
                              clear BK145
                              clear HB
                              clear HO_5
                              have BK145 := n0_
                              have HB := n1_
                              have HO152 := n2_
                              clear n0_ n1_ n2_
                              clear ho hb hg hat
                              refine hK.out _ _ ⟨(blk_cell BK145.out 0).trans rfl, (blk_cell BK145.out 1).trans rfl, (blk_cell BK145.out 2).trans rfl, (blk_cell BK145.out 3).trans rfl⟩ (fun hHeld => ?_)
                              clear hK K
                              refine norm_ (a' := ?_) ?_ ?_
                              rotate_left
                              · show Act.put _ (some 41) _ = _
                                simp only [Act.put, List.setIfInBounds_toArray, List.set_cons_zero, List.set_cons_succ, i64_w, i32_w]
                                rfl
                              refine pure_ (i := 22) (N := some 5) (v := ?_) (a' := ?_) #[true, true, true, true, true, true, true, true, true, true, true, true, true, true, true, true, true, true, true, true, true, true, true] rfl rfl (any_of HT_.out (by kernel_rfl)) (fun _ _ _ h => h) (Or.inl ⟨by rfl, ?_⟩) ?_ ?_
                              rotate_left
                              · intro w'
                                go_simp
                                with_reducible rfl
                              rotate_left
                              · simp only [Act.put, List.setIfInBounds_toArray, List.set_cons_zero, List.set_cons_succ, i64_w, i32_w]
                                rfl
                              refine done_ (done_of HT_.out (by kernel_rfl)) ?_
                              try go_wp2
                              go_roundg k1
                              case measure => have := HK1.out; omega
                              case rel => exact ⟨(y150), (wrap64 (x16_1 + 1)), (by first | rfl | (simp; done) | (simp [*]; done)), H', ⟨by have := HK1.out; omega⟩, ⟨by (with_reducible repeat (first | apply Kd.R_alloc | apply Kd.R_drewN | apply Kd.R_drew)); exact HO152.out⟩, ⟨by repeat (first | (with_reducible first | exact HB.out | apply below_alloc | apply pw_below_drewN | apply below_drew1 | refine below_set ?_ GE145.out) | exact HB.out)⟩⟩
                            · rw [if_neg c20] at H
                              exact absurd H (by simp)
                          · rw [if_neg c19] at H
                            exact absurd H (by simp)
                        · rw [if_neg c17] at H
                          exact absurd H (by simp)
                      · rw [if_neg c16] at H
                        exact absurd H (by simp)
                    · rw [if_neg c14] at H
                      exact absurd H (by simp)
                  · rw [if_neg c13] at H
                    exact absurd H (by simp)
                · rw [if_neg c11] at H
                  exact absurd H (by simp)
              · rw [if_neg c10] at H
                exact absurd H (by simp)
            · rw [if_neg c8] at H
              exact absurd H (by simp)
          · rw [if_neg c7] at H
            exact absurd H (by simp)
        · rw [if_neg c6] at H
          have c6b0 : decide (x16_1 < (l0.length : Int)) = false := decide_eq_false c6
          clear c6
          simp only [Option.some.injEq, Prod.mk.injEq] at H
          obtain ⟨rfl, rfl⟩ := H
          go_wp2
          go_ret2
          exact ⟨_, by first | rfl | (simp [errW_none, errW_some] <;> rfl) | (simp [*, errW_none, errW_some] <;> rfl), by (with_reducible repeat (first | apply Kd.R_alloc | apply Kd.R_drewN | apply Kd.R_drew)); exact HO_5.out, by repeat (first | (with_reducible first | exact HB.out | apply below_alloc | apply pw_below_drewN | apply below_drew1) | exact HB.out)⟩
  · rw [if_neg c3] at H
    have c3b0 : (t140 == 0) = false := beq_eq_false_iff_ne.mpr c3
    have c3b1 : (t140 != 0) = true := bne_iff_ne.mpr c3
    simp only [Option.some.injEq, Prod.mk.injEq] at H
    obtain ⟨rfl, rfl⟩ := H
    go_enter Tryd.func10, Tryd.ntmps10
    go_wp2_with (first | ((with_reducible refine gate_callee (f := 32) rfl ?_); refine goesL_ (some 9) rfl rfl Tryd.func32 (by kernel_rfl) rfl #[.slice A0 l0.length c0] rfl (by (try simp only [List.map_toArray, List.map_cons, List.map_nil]); first | done | rfl | (simp only [List.length_drop, List.length_take]; rfl)) ?_; (with_reducible refine (impl_Done.calls _ _ l0 t140 _ ?side1 ?side2 A2.out).mono ?_); (case side1 => repeat (first | exact HR0.out | (with_reducible refine Kd.C_alloc ?_ _) | (with_reducible refine Kd.C_drewN ?_ _) | (with_reducible refine Kd.C_drew ?_))); (case side2 => exact HC0.out); rintro e w' ⟨rfl, ⟨nd, rfl⟩⟩; refine ⟨_, rfl, ?_⟩))
    go_ret2
    exact ⟨_, by first | rfl | (simp [errW_none, errW_some] <;> rfl) | (simp [*, errW_none, errW_some] <;> rfl), by first | exact Kd.R_nil _ _ _ _ _ | exact Kd.N_nil _ _ _ _ _ | exact Kd.V_nil _ _ _ _ _ | exact Kd.Q_nil _ _ _ _ _ | exact Kd.S_nil _ _ _ _ _, by repeat (first | (with_reducible first | exact HB.out | apply below_alloc | apply pw_below_drewN | apply below_drew1) | exact HB.out)⟩

end Go.Proofs.YtkeoifkdejnpfaaDoor.G
