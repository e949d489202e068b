-- by gprint.py (a program of this session's own), over the kit's print.py; Lean checks it
import Derived.Test.YtppfcmkadcoboaaDoorSlFnExactDataLinesGx0
import Derived.Test.YtppfcmkadcoboaaDoorSlFnExactDataLinesGx8
namespace Go.Proofs.YtppfcmkadcoboaaDoor.G
open Go.RowKit Go.Proofs.YtppfcmkadcoboaaDoorW.PrintWords Go.Proofs.YtppfcmkadcoboaaDoorW.PrintLast Go.Proofs.YtppfcmkadcoboaaDoorW.PrintMore
attribute [local go_sem] max2_int min2_int max_two min_two max_three min_three max_four min_four   -- for this text's walks alone
set_option linter.unusedVariables false
set_option linter.unusedSimpArgs false

/-! ### impl_DataLines: function 9 -/
mutual
def impl_DataLines.l0 : Nat → List ByteArray → List Int → Int → Int → List Int → List (S61) → List Bool → List Bool → List Bool → List Bool → Int → Option (List ByteArray × Int)
  | 0, _, _, _, _, _, _, _, _, _, _, _ => none
  | k + 1, x4, x14, x15, x16, x217000, x217001, x217002, x217003, x217004, x217005, x217006 => if x16 < x15 then (if 0 ≤ x16 then (if x16 < (x14.length : Int) then (if (rd x14 x16) = 0 then (impl_DataLines.l0 k x4 x14 x15 (wrap64 (x16 + 1)) x217000 x217001 x217002 x217003 x217004 x217005 x217006) else ((impl_numbers.f k (([x16, rd x14 x16] : List Int))).bind fun t225 => (if 7 + t225.size ≤ 9223372036854775807 then (if x4.length < 8796093022208 then (impl_DataLines.l0 k (x4 ++ [(⟨#[103, 108, 111, 98, 97, 108, 32]⟩ : ByteArray) ++ t225]) x14 x15 (wrap64 (x16 + 1)) x217000 x217001 x217002 x217003 x217004 x217005 x217006) else (none)) else (none)))) else (none)) else (none)) else (impl_DataLines.l1 k x4 x217001 (x217001.length : Int) 0 x217000 x217001 x217002 x217003 x217004 x217005 x217006)
def impl_DataLines.l1 : Nat → List ByteArray → List (S61) → Int → Int → List Int → List (S61) → List Bool → List Bool → List Bool → List Bool → Int → Option (List ByteArray × Int)
  | 0, _, _, _, _, _, _, _, _, _, _, _ => none
  | k + 1, x4, x33, x34, x35, x217000, x217001, x217002, x217003, x217004, x217005, x217006 => if x35 < x34 then (if 0 ≤ x35 then (if x35 < (x33.length : Int) then ((impl_decimal.f x35).bind fun t231 => (if 6 + t231.size ≤ 9223372036854775807 then (if ((⟨#[98, 108, 111, 99, 107, 32]⟩ : ByteArray) ++ t231).size + 1 ≤ 9223372036854775807 then ((impl_fbText.f ((rd_T61 x33 x35).f0) ((rd_T61 x33 x35).f1) ((rd_T61 x33 x35).f2) ((rd_T61 x33 x35).f3)).bind fun t232 => (if (((⟨#[98, 108, 111, 99, 107, 32]⟩ : ByteArray) ++ t231) ++ (⟨#[32]⟩ : ByteArray)).size + t232.size ≤ 9223372036854775807 then (if x4.length < 8796093022208 then (impl_DataLines.l1 k (x4 ++ [(((⟨#[98, 108, 111, 99, 107, 32]⟩ : ByteArray) ++ t231) ++ (⟨#[32]⟩ : ByteArray)) ++ t232]) x33 x34 (wrap64 (x35 + 1)) x217000 x217001 x217002 x217003 x217004 x217005 x217006) else (none)) else (none))) else (none)) else (none))) else (none)) else (none)) else ((impl_decimal.f x217006).bind fun t236 => (if 6 + t236.size ≤ 9223372036854775807 then (if x4.length < 8796093022208 then (some ((x4 ++ [(⟨#[119, 114, 111, 110, 103, 32]⟩ : ByteArray) ++ t236]), 0)) else (none)) else (none)))
end
def impl_DataLines.f (k : Nat) (l0_0 : List Int) (l0_1 : List (S61)) (l0_2 : List Bool) (l0_3 : List Bool) (l0_4 : List Bool) (l0_5 : List Bool) (a0_6 : Int) : Option (List ByteArray × Int) := (impl_DataOK.f k l0_0 l0_1 l0_2 l0_3 l0_4 l0_5 a0_6).bind fun t217 => (if t217 = true then (impl_DataLines.l0 k (([] : List ByteArray)) l0_0 (l0_0.length : Int) 0 l0_0 l0_1 l0_2 l0_3 l0_4 l0_5 a0_6) else (some (([] : List ByteArray), 1)))
theorem impl_DataLines.mono_l : ∀ k, (∀ y0 y1 y2 y3 y4 y5 y6 y7 y8 y9 y10, LeO (impl_DataLines.l0 k y0 y1 y2 y3 y4 y5 y6 y7 y8 y9 y10) (impl_DataLines.l0 (k + 1) y0 y1 y2 y3 y4 y5 y6 y7 y8 y9 y10)) ∧ (∀ y0 y1 y2 y3 y4 y5 y6 y7 y8 y9 y10, LeO (impl_DataLines.l1 k y0 y1 y2 y3 y4 y5 y6 y7 y8 y9 y10) (impl_DataLines.l1 (k + 1) y0 y1 y2 y3 y4 y5 y6 y7 y8 y9 y10))
  | 0 => ⟨fun _ _ _ _ _ _ _ _ _ _ _ r h => by simp [impl_DataLines.l0] at h, fun _ _ _ _ _ _ _ _ _ _ _ r h => by simp [impl_DataLines.l1] at h⟩
  | k + 1 => by
    obtain ⟨ih0, ih1⟩ := impl_DataLines.mono_l k
    refine ⟨?_, ?_⟩
    · intro y0 y1 y2 y3 y4 y5 y6 y7 y8 y9 y10
      unfold impl_DataLines.l0
      repeat' first
      | (with_reducible exact ih0 _ _ _ _ _ _ _ _ _ _ _)
      | (with_reducible exact ih1 _ _ _ _ _ _ _ _ _ _ _)
      | (with_reducible exact impl_DataOK.mono _ _ _ _ _ _ _ _)
      | (with_reducible exact impl_numbers.mono _ _)
      | (with_reducible exact LeO.refl _)
      | (with_reducible exact LeO.none _)
      | (with_reducible refine LeO.ite ?_ ?_)
      | (with_reducible refine LeO.bind ?_ (fun _ => ?_))
      | exact ih0 _ _ _ _ _ _ _ _ _ _ _
      | exact ih1 _ _ _ _ _ _ _ _ _ _ _
      | exact impl_DataOK.mono _ _ _ _ _ _ _ _
      | exact impl_numbers.mono _ _
      | exact LeO.none _
      | refine LeO.ite ?_ ?_
      | refine LeO.bind ?_ (fun _ => ?_)
    · intro y0 y1 y2 y3 y4 y5 y6 y7 y8 y9 y10
      unfold impl_DataLines.l1
      repeat' first
      | (with_reducible exact ih0 _ _ _ _ _ _ _ _ _ _ _)
      | (with_reducible exact ih1 _ _ _ _ _ _ _ _ _ _ _)
      | (with_reducible exact impl_DataOK.mono _ _ _ _ _ _ _ _)
      | (with_reducible exact impl_numbers.mono _ _)
      | (with_reducible exact LeO.refl _)
      | (with_reducible exact LeO.none _)
      | (with_reducible refine LeO.ite ?_ ?_)
      | (with_reducible refine LeO.bind ?_ (fun _ => ?_))
      | exact ih0 _ _ _ _ _ _ _ _ _ _ _
      | exact ih1 _ _ _ _ _ _ _ _ _ _ _
      | exact impl_DataOK.mono _ _ _ _ _ _ _ _
      | exact impl_numbers.mono _ _
      | exact LeO.none _
      | refine LeO.ite ?_ ?_
      | refine LeO.bind ?_ (fun _ => ?_)
theorem impl_DataLines.mono : ∀ a0 a1 a2 a3 a4 a5 a6 k, LeO (impl_DataLines.f k a0 a1 a2 a3 a4 a5 a6) (impl_DataLines.f (k + 1) a0 a1 a2 a3 a4 a5 a6) := by
  intro a0 a1 a2 a3 a4 a5 a6 k
  obtain ⟨ih0, ih1⟩ := impl_DataLines.mono_l k
  unfold impl_DataLines.f
  repeat' first
      | (with_reducible exact ih0 _ _ _ _ _ _ _ _ _ _ _)
      | (with_reducible exact ih1 _ _ _ _ _ _ _ _ _ _ _)
      | (with_reducible exact impl_DataOK.mono _ _ _ _ _ _ _ _)
      | (with_reducible exact impl_numbers.mono _ _)
      | (with_reducible exact LeO.refl _)
      | (with_reducible exact LeO.none _)
      | (with_reducible refine LeO.ite ?_ ?_)
      | (with_reducible refine LeO.bind ?_ (fun _ => ?_))
      | exact ih0 _ _ _ _ _ _ _ _ _ _ _
      | exact ih1 _ _ _ _ _ _ _ _ _ _ _
      | exact impl_DataOK.mono _ _ _ _ _ _ _ _
      | exact impl_numbers.mono _ _
      | exact LeO.none _
      | refine LeO.ite ?_ ?_
      | refine LeO.bind ?_ (fun _ => ?_)
def impl_DataLines.T13 : Bool × List (List Nat × List Nat) := (true, [([], []), ([], []), ([1], [1]), ([2], [2]), ([3], [3]), ([], []), ([5, 2], [5]), ([4, 6], [4, 6]), ([7], [7]), ([0, 8, 6], [0, 8]), ([9, 9, 0, 1, 2, 3, 4, 5, 6, 7, 8, 9], [0, 9])])
def impl_DataLines.B13 : List Nat := [0, 0, 2, 6, 14, 0, 38, 126, 254, 511, 1023]
theorem impl_DataLines.tab13 : rtab .any (opsOf Tryd.f9 13) = impl_DataLines.T13 := by kernel_rfl
theorem impl_DataLines.bits13 : waitsOk impl_DataLines.T13.2 impl_DataLines.B13 = true := by kernel_rfl
set_option maxHeartbeats 8000000 in
set_option maxRecDepth 100000 in
theorem impl_DataLines.calls (k : Nat) (A0_0 : Option Addr) (c0_0 : Nat) (l0_0 : List Int) (A0_1 : Option Addr) (c0_1 : Nat) (l0_1 : List (S61)) (A0_2 : Option Addr) (c0_2 : Nat) (l0_2 : List Bool) (A0_3 : Option Addr) (c0_3 : Nat) (l0_3 : List Bool) (A0_4 : Option Addr) (c0_4 : Nat) (l0_4 : List Bool) (A0_5 : Option Addr) (c0_5 : Nat) (l0_5 : List Bool) (a0_6 : Int) (r1 : List ByteArray) (r2 : Int) (w : World) (hr0_0 : Kd.C (Kd.int .i64) w A0_0 l0_0.length l0_0) (hc0_0 : l0_0.length ≤ c0_0) (hr0_1 : Kd.C k61 w A0_1 l0_1.length l0_1) (hc0_1 : l0_1.length ≤ c0_1) (hr0_2 : Kd.C Kd.bool w A0_2 l0_2.length l0_2) (hc0_2 : l0_2.length ≤ c0_2) (hr0_3 : Kd.C Kd.bool w A0_3 l0_3.length l0_3) (hc0_3 : l0_3.length ≤ c0_3) (hr0_4 : Kd.C Kd.bool w A0_4 l0_4.length l0_4) (hc0_4 : l0_4.length ≤ c0_4) (hr0_5 : Kd.C Kd.bool w A0_5 l0_5.length l0_5) (hc0_5 : l0_5.length ≤ c0_5) (hG : Glob w) (h : impl_DataLines.f k l0_0 l0_1 l0_2 l0_3 l0_4 l0_5 a0_6 = some (r1, r2)) :
    Calls Tryd.prog 9 #[.agg #[.slice A0_0 l0_0.length c0_0, .slice A0_1 l0_1.length c0_1, .slice A0_2 l0_2.length c0_2, .slice A0_3 l0_3.length c0_3, .slice A0_4 l0_4.length c0_4, .slice A0_5 l0_5.length c0_5, .int .i64 a0_6]] w fun e w' => ∃ v0_ : Value, e = .returned (.tuple #[v0_, .int .i64 r2]) ∧ Kd.R Kd.string 9 w' w.heap.size (fun _ => True) v0_ r1 ∧ Below w.heap.size w w' := by
  have hu33 := Tryd.underlying33
  have hu61 := Tryd.underlying61
  have HG := Aside0.mk hG
  clear hG
  have HR0_0 := Aside0.mk hr0_0
  have HC0_0 := Aside0.mk hc0_0
  clear hr0_0 hc0_0
  have HR0_1 := Aside0.mk hr0_1
  have HC0_1 := Aside0.mk hc0_1
  clear hr0_1 hc0_1
  have HR0_2 := Aside0.mk hr0_2
  have HC0_2 := Aside0.mk hc0_2
  clear hr0_2 hc0_2
  have HR0_3 := Aside0.mk hr0_3
  have HC0_3 := Aside0.mk hc0_3
  clear hr0_3 hc0_3
  have HR0_4 := Aside0.mk hr0_4
  have HC0_4 := Aside0.mk hc0_4
  clear hr0_4 hc0_4
  have HR0_5 := Aside0.mk hr0_5
  have HC0_5 := Aside0.mk hc0_5
  clear hr0_5 hc0_5
  have HB := Aside0.mk (Below.refl w.heap.size w)
  have H : ((impl_DataOK.f k l0_0 l0_1 l0_2 l0_3 l0_4 l0_5 a0_6).bind fun t217 => (if t217 = true then (impl_DataLines.l0 k (([] : List ByteArray)) l0_0 (l0_0.length : Int) 0 l0_0 l0_1 l0_2 l0_3 l0_4 l0_5 a0_6) else (some (([] : List ByteArray), 1)))) = some (r1, r2) := h
  clear h
  replace H := Option.bind_eq_some_iff.mp H
  obtain ⟨t217, A20, H⟩ := H
  replace H : (if t217 = true then (impl_DataLines.l0 k (([] : List ByteArray)) l0_0 (l0_0.length : Int) 0 l0_0 l0_1 l0_2 l0_3 l0_4 l0_5 a0_6) else (some (([] : List ByteArray), 1))) = some (r1, r2) := H
  have A2 := Aside0.mk A20
  clear A20
  by_cases c3 : t217 = true
  · subst c3
    have H1 : (impl_DataLines.l0 k (([] : List ByteArray)) l0_0 (l0_0.length : Int) 0 l0_0 l0_1 l0_2 l0_3 l0_4 l0_5 a0_6) = some (r1, r2) := by rw [if_pos rfl] at H; exact H
    clear H
    have H := H1
    clear H1
    obtain ⟨y218, hy218⟩ : ∃ y_ : List ByteArray, y_ = (([] : List ByteArray)) := ⟨_, rfl⟩
    replace H : (impl_DataLines.l0 k y218 l0_0 (l0_0.length : Int) 0 l0_0 l0_1 l0_2 l0_3 l0_4 l0_5 a0_6) = some (r1, r2) := by first | (rw [hy218]; with_reducible exact H) | (have H2_ := (Option.bind_some _ _).symm.trans H; rw [hy218]; with_reducible exact H2_) | (have H2_ := (Option.bind_some _ _).symm.trans H; with_reducible exact H2_) | with_reducible exact H | (rw [hy218]; exact H) | exact H
    have Ny218 := Aside0.mk hy218
    clear hy218
    have H' := Aside0.mk H
    clear H
    go_enter Tryd.func9, Tryd.ntmps9
    go_wp2_with (first | ((with_reducible refine gate_dst (N := 1) rfl ?_); refine box_event ?hg (N := 1) ?hd (cs := #[.slice A0_0 l0_0.length c0_0, .slice A0_1 l0_1.length c0_1, .slice A0_2 l0_2.length c0_2, .slice A0_3 l0_3.length c0_3, .slice A0_4 l0_4.length c0_4, .slice A0_5 l0_5.length c0_5, .int .i64 a0_6]) (t := 33) ?hr ?_; (case hd => rfl); (case hg => rfl); (case hr => first | (go_simp; done) | (go_simp; rfl)); intro gb216 hg w4 hbox hb; have n0_ := Aside0.mk (below_step (qw HB.out) hb); have n1_ := Aside0.mk (hbox); have n2_ := Aside0.mk ((by rw [hg]; exact (below_size (qw HB.out)) : w.heap.size ≤ gb216)); have n3_ := Aside0.mk ((by rw [hg]; exact (below_size (qw HB.out)) : w.heap.size ≤ gb216)); clear HB; have HB := n0_; have BK216 := n1_; have GW216 := n2_; have GE216 := n3_; clear n0_ n1_ n2_ n3_; clear hb hbox hg; have hcz5_0 : w4.cell? ⟨gb216, 0, none⟩ = some (.slice A0_0 l0_0.length c0_0) := (blk_cell BK216.out 0).trans rfl; have hcz5_1 : w4.cell? ⟨gb216, 1, none⟩ = some (.slice A0_1 l0_1.length c0_1) := (blk_cell BK216.out 1).trans rfl; have hcz5_2 : w4.cell? ⟨gb216, 2, none⟩ = some (.slice A0_2 l0_2.length c0_2) := (blk_cell BK216.out 2).trans rfl; have hcz5_3 : w4.cell? ⟨gb216, 3, none⟩ = some (.slice A0_3 l0_3.length c0_3) := (blk_cell BK216.out 3).trans rfl; have hcz5_4 : w4.cell? ⟨gb216, 4, none⟩ = some (.slice A0_4 l0_4.length c0_4) := (blk_cell BK216.out 4).trans rfl; have hcz5_5 : w4.cell? ⟨gb216, 5, none⟩ = some (.slice A0_5 l0_5.length c0_5) := (blk_cell BK216.out 5).trans rfl; have hcz5_6 : w4.cell? ⟨gb216, 6, none⟩ = some (.int .i64 a0_6) := (blk_cell BK216.out 6).trans rfl; have hfz5_0 := blk_frozen BK216.out 0; have hfz5_1 := blk_frozen BK216.out 1; have hfz5_2 := blk_frozen BK216.out 2; have hfz5_3 := blk_frozen BK216.out 3; have hfz5_4 := blk_frozen BK216.out 4; have hfz5_5 := blk_frozen BK216.out 5; have hfz5_6 := blk_frozen BK216.out 6) | ((with_reducible refine gate_callee (f := 31) rfl ?_); refine goesL_ (some 10) rfl rfl Tryd.func31 (by kernel_rfl) rfl #[.agg #[.slice A0_0 l0_0.length c0_0, .slice A0_1 l0_1.length c0_1, .slice A0_2 l0_2.length c0_2, .slice A0_3 l0_3.length c0_3, .slice A0_4 l0_4.length c0_4, .slice A0_5 l0_5.length c0_5, .int .i64 a0_6]] rfl qa ?_; (with_reducible refine (impl_DataOK.calls k _ _ l0_0 _ _ l0_1 _ _ l0_2 _ _ l0_3 _ _ l0_4 _ _ l0_5 a0_6 true _ ?side1 ?side2 ?side3 ?side4 ?side5 ?side6 ?side7 ?side8 ?side9 ?side10 ?side11 ?side12 A2.out).mono ?_); (case side1 => repeat (first | exact (Kd.C_below HR0_0.out HB.out) | (with_reducible refine Kd.C_alloc ?_ _) | (with_reducible refine Kd.C_drewN ?_ _) | (with_reducible refine Kd.C_drew ?_))); (case side2 => exact HC0_0.out); (case side3 => repeat (first | exact (Kd.C_below HR0_1.out HB.out) | (with_reducible refine Kd.C_alloc ?_ _) | (with_reducible refine Kd.C_drewN ?_ _) | (with_reducible refine Kd.C_drew ?_))); (case side4 => exact HC0_1.out); (case side5 => repeat (first | exact (Kd.C_below HR0_2.out HB.out) | (with_reducible refine Kd.C_alloc ?_ _) | (with_reducible refine Kd.C_drewN ?_ _) | (with_reducible refine Kd.C_drew ?_))); (case side6 => exact HC0_2.out); (case side7 => repeat (first | exact (Kd.C_below HR0_3.out HB.out) | (with_reducible refine Kd.C_alloc ?_ _) | (with_reducible refine Kd.C_drewN ?_ _) | (with_reducible refine Kd.C_drew ?_))); (case side8 => exact HC0_3.out); (case side9 => repeat (first | exact (Kd.C_below HR0_4.out HB.out) | (with_reducible refine Kd.C_alloc ?_ _) | (with_reducible refine Kd.C_drewN ?_ _) | (with_reducible refine Kd.C_drew ?_))); (case side10 => exact HC0_4.out); (case side11 => repeat (first | exact (Kd.C_below HR0_5.out HB.out) | (with_reducible refine Kd.C_alloc ?_ _) | (with_reducible refine Kd.C_drewN ?_ _) | (with_reducible refine Kd.C_drew ?_))); (case side12 => exact HC0_5.out); rintro e w6 ⟨rfl, hb⟩; refine ⟨_, rfl, ?_⟩; have n0_ := Aside0.mk (blk_below (g := gb216) (o := .cells #[.slice A0_0 l0_0.length c0_0, .slice A0_1 l0_1.length c0_1, .slice A0_2 l0_2.length c0_2, .slice A0_3 l0_3.length c0_3, .slice A0_4 l0_4.length c0_4, .slice A0_5 l0_5.length c0_5, .int .i64 a0_6] 33 (0, 0)) (qb BK216.out) hb); have n1_ := Aside0.mk (below_step (qw HB.out) hb); clear BK216; clear HB; have BK216 := n0_; have HB := n1_; clear n0_ n1_; (try clear hb); (try clear hb2); (try clear hk); (try clear hi)) | ((with_reducible refine gate_dst (N := 12) rfl ?_); refine Kd.R_lit Kd.string _ 9 ?hg (N := 12) ?hd (xs := ([] : List ByteArray)) (inner := []) (ok := fun _ => True) (okp := fun _ => True) ?hr ?hp (fun _ hk => hk) trivial (Below.refl _ _) (Nat.le_refl _) (by simp) ?_; (case hd => rfl); (case hg => rfl); (case hr => first | (go_simp; done) | (go_simp; rfl)); (case hp => exact (Reps.none _ _)); intro v219 w7 ho8 hb hg_ hnew_; clear hg_ hnew_; (first | rw [← Ny218.out] at ho8 | (simp only [Int.reduceToNat] at ho8; rw [← Ny218.out] at ho8)); have n0_ := Aside0.mk (Kd.R_lower ho8 (below_size (qw HB.out))); have n1_ := Aside0.mk (blk_below (g := gb216) (o := .cells #[.slice A0_0 l0_0.length c0_0, .slice A0_1 l0_1.length c0_1, .slice A0_2 l0_2.length c0_2, .slice A0_3 l0_3.length c0_3, .slice A0_4 l0_4.length c0_4, .slice A0_5 l0_5.length c0_5, .int .i64 a0_6] 33 (0, 0)) (qb BK216.out) hb); have n2_ := Aside0.mk (below_step (qw HB.out) hb); clear BK216; clear HB; have HO220 := n0_; have BK216 := n1_; have HB := n2_; clear n0_ n1_ n2_; clear hb ho8; have hcz9_0 : w7.cell? ⟨gb216, 0, none⟩ = some (.slice A0_0 l0_0.length c0_0) := (blk_cell BK216.out 0).trans rfl; have hcz9_1 : w7.cell? ⟨gb216, 1, none⟩ = some (.slice A0_1 l0_1.length c0_1) := (blk_cell BK216.out 1).trans rfl; have hcz9_2 : w7.cell? ⟨gb216, 2, none⟩ = some (.slice A0_2 l0_2.length c0_2) := (blk_cell BK216.out 2).trans rfl; have hcz9_3 : w7.cell? ⟨gb216, 3, none⟩ = some (.slice A0_3 l0_3.length c0_3) := (blk_cell BK216.out 3).trans rfl; have hcz9_4 : w7.cell? ⟨gb216, 4, none⟩ = some (.slice A0_4 l0_4.length c0_4) := (blk_cell BK216.out 4).trans rfl; have hcz9_5 : w7.cell? ⟨gb216, 5, none⟩ = some (.slice A0_5 l0_5.length c0_5) := (blk_cell BK216.out 5).trans rfl; have hcz9_6 : w7.cell? ⟨gb216, 6, none⟩ = some (.int .i64 a0_6) := (blk_cell BK216.out 6).trans rfl; have hfz9_0 := blk_frozen BK216.out 0; have hfz9_1 := blk_frozen BK216.out 1; have hfz9_2 := blk_frozen BK216.out 2; have hfz9_3 := blk_frozen BK216.out 3; have hfz9_4 := blk_frozen BK216.out 4; have hfz9_5 := blk_frozen BK216.out 5; have hfz9_6 := blk_frozen BK216.out 6))
    go_loopg [4, 16] k (fun kq v4 v16 w' => ∃ (x4_1 : List ByteArray) (x16_1 : Int), v16 = .int .i64 x16_1 ∧ Aside0 (impl_DataLines.l0 kq x4_1 l0_0 (l0_0.length : Int) x16_1 l0_0 l0_1 l0_2 l0_3 l0_4 l0_5 a0_6 = some (r1, r2)) ∧ Aside0 (kq ≤ k) ∧ Aside0 (Kd.R Kd.string 9 w' w.heap.size (fun _ => True) v4 x4_1) ∧ Aside0 (w'.heap[gb216]? = some (.cells #[(.slice A0_0 l0_0.length c0_0), (.slice A0_1 l0_1.length c0_1), (.slice A0_2 l0_2.length c0_2), (.slice A0_3 l0_3.length c0_3), (.slice A0_4 l0_4.length c0_4), (.slice A0_5 l0_5.length c0_5), .int .i64 a0_6] 33 (0, 0))) ∧ Aside0 (Below w.heap.size w w'))
    case atStart => exact ⟨(y218), (0), (by first | rfl | (simp; done) | (simp [*]; done)), H', ⟨Nat.le_refl _⟩, ⟨qr HO220.out⟩, ⟨qb BK216.out⟩, ⟨qw HB.out⟩⟩
    case round =>
      clear H'
      try clear p2
      try clear c3
      try clear c9
      try clear hcz5_0
      try clear hcz5_1
      try clear hcz5_2
      try clear hcz5_3
      try clear hcz5_4
      try clear hcz5_5
      try clear hcz5_6
      try clear hcz9_0
      try clear hcz9_1
      try clear hcz9_2
      try clear hcz9_3
      try clear hcz9_4
      try clear hcz9_5
      try clear hcz9_6
      try clear hfz5_0
      try clear hfz5_1
      try clear hfz5_2
      try clear hfz5_3
      try clear hfz5_4
      try clear hfz5_5
      try clear hfz5_6
      try clear hfz9_0
      try clear hfz9_1
      try clear hfz9_2
      try clear hfz9_3
      try clear hfz9_4
      try clear hfz9_5
      try clear hfz9_6
      obtain ⟨x4_1, x16_1, rfl, HA, HK1, HO_4, BK216, HB⟩ := hrel
      cases gk with
      | zero => exact absurd HA.out (by simp [impl_DataLines.l0])
      | succ k1 =>
        have H := HA.out
        clear HA
        simp only [impl_DataLines.l0] at H
        by_cases c10 : x16_1 < (l0_0.length : Int)
        · rw [if_pos c10] at H
          have c10b0 : decide (x16_1 < (l0_0.length : Int)) = true := decide_eq_true c10
          clear c10
          by_cases c11 : 0 ≤ x16_1
          · rw [if_pos c11] at H
            have c11b0 : decide (0 ≤ x16_1) = true := decide_eq_true c11
            clear c11
            by_cases c12 : x16_1 < (l0_0.length : Int)
            · rw [if_pos c12] at H
              have c12b0 : decide (x16_1 < (l0_0.length : Int)) = true := decide_eq_true c12
              clear c12
              by_cases c13 : (rd l0_0 x16_1) = 0
              · rw [if_pos c13] at H
                have c13b0 : ((rd l0_0 x16_1) == 0) = true := beq_iff_eq.mpr c13
                have c13b1 : ((rd l0_0 x16_1) != 0) = false := bne_eq_false_iff_eq.mpr c13
                clear c13
                have H' := Aside0.mk H
                clear H
                have p221 : 0 ≤ (x16_1 : Int) := of_decide_eq_true qs
                have q221 : x16_1 < (l0_0.length : Int) := of_decide_eq_true qs
                obtain ⟨ad221, e221, hx221_0⟩ := Kd.at_int HR0_0.out x16_1 p221 q221
                cases e221
                replace hx221_0 := (HB.out.cell (World.block_lt_of_cell? w _ hx221_0)).trans hx221_0
                replace p221 := eq_true p221
                replace q221 := eq_true q221
                go_wp2
                go_roundg k1
                case measure => have := HK1.out; omega
                case rel => exact ⟨(x4_1), (wrap64 (x16_1 + 1)), (by first | rfl | (simp; done) | (simp [*]; done)), H', ⟨by have := HK1.out; omega⟩, ⟨qr HO_4.out⟩, ⟨qb BK216.out⟩, ⟨qw HB.out⟩⟩
              · rw [if_neg c13] at H
                have c13b0 : ((rd l0_0 x16_1) == 0) = false := beq_eq_false_iff_ne.mpr c13
                have c13b1 : ((rd l0_0 x16_1) != 0) = true := bne_iff_ne.mpr c13
                obtain ⟨y222, hy222⟩ : ∃ y_ : List Int, y_ = (([x16_1, rd l0_0 x16_1] : List Int)) := ⟨_, rfl⟩
                replace H : ((impl_numbers.f k1 y222).bind fun t225 => (if 7 + t225.size ≤ 9223372036854775807 then (if x4_1.length < 8796093022208 then (impl_DataLines.l0 k1 (x4_1 ++ [(⟨#[103, 108, 111, 98, 97, 108, 32]⟩ : ByteArray) ++ t225]) l0_0 (l0_0.length : Int) (wrap64 (x16_1 + 1)) l0_0 l0_1 l0_2 l0_3 l0_4 l0_5 a0_6) else (none)) else (none))) = some (r1, r2) := by first | (rw [hy222]; with_reducible exact H) | (have H2_ := (Option.bind_some _ _).symm.trans H; rw [hy222]; with_reducible exact H2_) | (have H2_ := (Option.bind_some _ _).symm.trans H; with_reducible exact H2_) | with_reducible exact H | (rw [hy222]; exact H) | exact H
                have Ny222 := Aside0.mk hy222
                clear hy222
                replace H := Option.bind_eq_some_iff.mp H
                obtain ⟨t225, A140, H⟩ := H
                replace H : (if 7 + t225.size ≤ 9223372036854775807 then (if x4_1.length < 8796093022208 then (impl_DataLines.l0 k1 (x4_1 ++ [(⟨#[103, 108, 111, 98, 97, 108, 32]⟩ : ByteArray) ++ t225]) l0_0 (l0_0.length : Int) (wrap64 (x16_1 + 1)) l0_0 l0_1 l0_2 l0_3 l0_4 l0_5 a0_6) else (none)) else (none)) = some (r1, r2) := H
                have A14 := Aside0.mk A140
                clear A140
                by_cases c15 : 7 + t225.size ≤ 9223372036854775807
                · rw [if_pos c15] at H
                  have c15b0 := eq_true c15
                  have c15b1 : decide (7 + t225.size ≤ 9223372036854775807) = true := decide_eq_true c15
                  try have c15b2 : (9223372036854775807 < 7 + t225.size) = False := eq_false (Nat.not_lt.2 c15)
                  by_cases c16 : x4_1.length < 8796093022208
                  · rw [if_pos c16] at H
                    have LMc16 := Aside0.mk c16
                    clear c16
                    obtain ⟨y226, hy226⟩ : ∃ y_ : List ByteArray, y_ = (x4_1 ++ [(⟨#[103, 108, 111, 98, 97, 108, 32]⟩ : ByteArray) ++ t225]) := ⟨_, rfl⟩
                    replace H : (impl_DataLines.l0 k1 y226 l0_0 (l0_0.length : Int) (wrap64 (x16_1 + 1)) l0_0 l0_1 l0_2 l0_3 l0_4 l0_5 a0_6) = some (r1, r2) := by first | (rw [hy226]; with_reducible exact H) | (have H2_ := (Option.bind_some _ _).symm.trans H; rw [hy226]; with_reducible exact H2_) | (have H2_ := (Option.bind_some _ _).symm.trans H; with_reducible exact H2_) | with_reducible exact H | (rw [hy226]; exact H) | exact H
                    have Ny226 := Aside0.mk hy226
                    clear hy226
                    have H' := Aside0.mk H
                    clear H
                    have p221 : 0 ≤ (x16_1 : Int) := of_decide_eq_true qs
                    have q221 : x16_1 < (l0_0.length : Int) := of_decide_eq_true qs
                    obtain ⟨ad221, e221, hx221_0⟩ := Kd.at_int HR0_0.out x16_1 p221 q221
                    cases e221
                    replace hx221_0 := (HB.out.cell (World.block_lt_of_cell? w _ hx221_0)).trans hx221_0
                    replace p221 := eq_true p221
                    replace q221 := eq_true q221
                    go_wp2_with (first | ((with_reducible refine gate_dst (N := 26) rfl ?_); refine Kd.R_lit (Kd.int .i64) _ 3 ?hg (N := 26) ?hd (xs := ([x16_1, rd l0_0 x16_1] : List Int)) (inner := [.int .i64 x16_1, .int .i64 (rd l0_0 x16_1)]) (ok := fun _ => True) (okp := fun _ => True) ?hr ?hp (fun _ hk => hk) trivial (Below.refl _ _) (Nat.le_refl _) (by simp) ?_; (case hd => rfl); (case hg => rfl); (case hr => first | (go_simp; done) | (go_simp; rfl)); (case hp => exact (Reps.one (show Kd.M (Kd.int .i64) _ _ _ x16_1 [.int .i64 x16_1] from rfl) (Reps.one (show Kd.M (Kd.int .i64) _ _ _ (rd l0_0 x16_1) [.int .i64 (rd l0_0 x16_1)] from rfl) (Reps.none _ _)))); intro v223 w17 ho18 hb hg_ hnew_; clear hg_ hnew_; (first | rw [← Ny222.out] at ho18 | (simp only [Int.reduceToNat] at ho18; rw [← Ny222.out] at ho18)); have n0_ := Aside0.mk (Kd.R_below (qr HO_4.out) hb); have n1_ := Aside0.mk (Kd.R_lower ho18 (below_size (qw HB.out))); have n2_ := Aside0.mk (blk_below (g := gb216) (o := .cells #[.slice (some ad221) l0_0.length c0_0, .slice A0_1 l0_1.length c0_1, .slice A0_2 l0_2.length c0_2, .slice A0_3 l0_3.length c0_3, .slice A0_4 l0_4.length c0_4, .slice A0_5 l0_5.length c0_5, .int .i64 a0_6] 33 (0, 0)) (qb BK216.out) hb); have n3_ := Aside0.mk (below_step (qw HB.out) hb); clear HO_4; clear BK216; clear HB; have HO_4 := n0_; have HO224 := n1_; have BK216 := n2_; have HB := n3_; clear n0_ n1_ n2_ n3_; clear hb ho18; obtain ⟨Ao19, co19, eo19⟩ := Kd.R_slice HO224.out; subst eo19) | ((with_reducible refine gate_callee (f := 32) rfl ?_); refine goesL_ (some 27) rfl rfl Tryd.func32 (by kernel_rfl) rfl #[.slice Ao19 y222.length co19] rfl qa ?_; (with_reducible refine (impl_numbers.calls k1 _ _ y222 t225 _ ?side1 ?side2 ?side3 A14.out).mono ?_); (case side1 => repeat (first | exact (Kd.R_reads' HO224.out).2.2 | (with_reducible refine Kd.C_alloc ?_ _) | (with_reducible refine Kd.C_drewN ?_ _) | (with_reducible refine Kd.C_drew ?_))); (case side2 => exact (Kd.R_reads' HO224.out).2.1); (case side3 => exact Glob.below HG.out (qw HB.out)); rintro e w20 ⟨rfl, hb⟩; refine ⟨_, rfl, ?_⟩; have n0_ := Aside0.mk (Kd.R_below (qr HO_4.out) hb); have n1_ := Aside0.mk (Kd.R_below (qr HO224.out) hb); have n2_ := Aside0.mk (blk_below (g := gb216) (o := .cells #[.slice (some ad221) l0_0.length c0_0, .slice A0_1 l0_1.length c0_1, .slice A0_2 l0_2.length c0_2, .slice A0_3 l0_3.length c0_3, .slice A0_4 l0_4.length c0_4, .slice A0_5 l0_5.length c0_5, .int .i64 a0_6] 33 (0, 0)) (qb BK216.out) hb); have n3_ := Aside0.mk (below_step (qw HB.out) hb); clear HO_4; clear HO224; clear BK216; clear HB; have HO_4 := n0_; have HO224 := n1_; have BK216 := n2_; have HB := n3_; clear n0_ n1_ n2_ n3_; (try clear hb); (try clear hb2); (try clear hk); (try clear hi)) | ((with_reducible refine gate_builtin (b := .append) (xs := #[.tmp 23, .tmp 29]) rfl ?_); at_builtin; refine Kd.R_append Kd.string (w0 := w) w.heap.size rfl (.tmp 23) (.tmp 29) 28 9 (.string ⟨#[]⟩) 16 rfl Tryd.underlying28 info9 rfl (by decide) (by omega) u4 x4_1 ((⟨#[103, 108, 111, 98, 97, 108, 32]⟩ : ByteArray) ++ t225) [.string ((⟨#[103, 108, 111, 98, 97, 108, 32]⟩ : ByteArray) ++ t225)] (fun _ => True) (fun _ => False) rfl rfl ?aP (fun _ hk => hk.elim) ?aF ?aO ?aB ?aS ?aL ?_; (case aP => exact rfl); (case aB => exact (qw HB.out)); (case aF => exact (fun _ _ => trivial)); (case aO => exact (qr HO_4.out)); (case aS => exact (below_size (qw HB.out))); (case aL => have := LMc16.out; omega); intro v227 w21 ho hb hg hat; rw [← Ny226.out] at ho; have n0_ := Aside0.mk (blk_grown (g := gb216) (o := .cells #[.slice (some ad221) l0_0.length c0_0, .slice A0_1 l0_1.length c0_1, .slice A0_2 l0_2.length c0_2, .slice A0_3 l0_3.length c0_3, .slice A0_4 l0_4.length c0_4, .slice A0_5 l0_5.length c0_5, .int .i64 a0_6] 33 (0, 0)) (qb BK216.out) hg (Kd.R_ne HO_4.out BK216.out (by decide))); have n1_ := Aside0.mk (Kd.R_over' (qr HO224.out) (Kd.R_typed (qr HO_4.out)) (by decide) hg); have n2_ := Aside0.mk (hb); have n3_ := Aside0.mk (ho); clear BK216; clear HO224; clear HB; clear HO_4; have BK216 := n0_; have HO224 := n1_; have HB := n2_; have HO228 := n3_; clear n0_ n1_ n2_ n3_; clear ho hb hg hat))
                    go_roundg k1
                    case measure => have := HK1.out; omega
                    case rel => exact ⟨(y226), (wrap64 (x16_1 + 1)), (by first | rfl | (simp; done) | (simp [*]; done)), H', ⟨by have := HK1.out; omega⟩, ⟨qr HO228.out⟩, ⟨qb BK216.out⟩, ⟨qw HB.out⟩⟩
                  · rw [if_neg c16] at H
                    exact absurd H (by simp)
                · rw [if_neg c15] at H
                  exact absurd H (by simp)
            · rw [if_neg c12] at H
              exact absurd H (by simp)
          · rw [if_neg c11] at H
            exact absurd H (by simp)
        · rw [if_neg c10] at H
          have c10b0 : decide (x16_1 < (l0_0.length : Int)) = false := decide_eq_false c10
          clear c10
          have H' := Aside0.mk H
          clear H
          have hcz22_0 : wr.cell? ⟨gb216, 0, none⟩ = some (.slice A0_0 l0_0.length c0_0) := (blk_cell BK216.out 0).trans rfl
          have hcz22_1 : wr.cell? ⟨gb216, 1, none⟩ = some (.slice A0_1 l0_1.length c0_1) := (blk_cell BK216.out 1).trans rfl
          have hcz22_2 : wr.cell? ⟨gb216, 2, none⟩ = some (.slice A0_2 l0_2.length c0_2) := (blk_cell BK216.out 2).trans rfl
          have hcz22_3 : wr.cell? ⟨gb216, 3, none⟩ = some (.slice A0_3 l0_3.length c0_3) := (blk_cell BK216.out 3).trans rfl
          have hcz22_4 : wr.cell? ⟨gb216, 4, none⟩ = some (.slice A0_4 l0_4.length c0_4) := (blk_cell BK216.out 4).trans rfl
          have hcz22_5 : wr.cell? ⟨gb216, 5, none⟩ = some (.slice A0_5 l0_5.length c0_5) := (blk_cell BK216.out 5).trans rfl
          have hcz22_6 : wr.cell? ⟨gb216, 6, none⟩ = some (.int .i64 a0_6) := (blk_cell BK216.out 6).trans rfl
          have hfz22_0 := blk_frozen BK216.out 0
          have hfz22_1 := blk_frozen BK216.out 1
          have hfz22_2 := blk_frozen BK216.out 2
          have hfz22_3 := blk_frozen BK216.out 3
          have hfz22_4 := blk_frozen BK216.out 4
          have hfz22_5 := blk_frozen BK216.out 5
          have hfz22_6 := blk_frozen BK216.out 6
          go_wp2
          go_loopg [4, 35] k1 (fun kq v4 v35 w' => ∃ (x4_2 : List ByteArray) (x35_2 : Int), v35 = .int .i64 x35_2 ∧ Aside0 (impl_DataLines.l1 kq x4_2 l0_1 (l0_1.length : Int) x35_2 l0_0 l0_1 l0_2 l0_3 l0_4 l0_5 a0_6 = some (r1, r2)) ∧ Aside0 (kq ≤ k1) ∧ Aside0 (Kd.R Kd.string 9 w' w.heap.size (fun _ => True) v4 x4_2) ∧ Aside0 (w'.heap[gb216]? = some (.cells #[(.slice A0_0 l0_0.length c0_0), (.slice A0_1 l0_1.length c0_1), (.slice A0_2 l0_2.length c0_2), (.slice A0_3 l0_3.length c0_3), (.slice A0_4 l0_4.length c0_4), (.slice A0_5 l0_5.length c0_5), .int .i64 a0_6] 33 (0, 0))) ∧ Aside0 (Below w.heap.size w w'))
          case atStart => exact ⟨(x4_1), (0), (by first | rfl | (simp; done) | (simp [*]; done)), H', ⟨Nat.le_refl _⟩, ⟨qr HO_4.out⟩, ⟨qb BK216.out⟩, ⟨qw HB.out⟩⟩
          case round =>
            clear H'
            try clear c1
            try clear p2
            try clear q2
            try clear hx2
            try clear c3
            try clear p6
            try clear c9
            try clear c10
            try clear c10b0
            try clear c11
            try clear c11b0
            try clear c12
            try clear c12b0
            try clear c13
            try clear c13b0
            try clear c13b1
            try clear c15
            try clear c15b0
            try clear c15b1
            try clear c15b2
            try clear c16
            try clear p22
            try clear q22
            try clear hx22
            try clear hcz22_0
            try clear hcz22_1
            try clear hcz22_2
            try clear hcz22_3
            try clear hcz22_4
            try clear hcz22_5
            try clear hcz22_6
            try clear hcz5_0
            try clear hcz5_1
            try clear hcz5_2
            try clear hcz5_3
            try clear hcz5_4
            try clear hcz5_5
            try clear hcz5_6
            try clear hcz9_0
            try clear hcz9_1
            try clear hcz9_2
            try clear hcz9_3
            try clear hcz9_4
            try clear hcz9_5
            try clear hcz9_6
            try clear hfz22_0
            try clear hfz22_1
            try clear hfz22_2
            try clear hfz22_3
            try clear hfz22_4
            try clear hfz22_5
            try clear hfz22_6
            try clear hfz5_0
            try clear hfz5_1
            try clear hfz5_2
            try clear hfz5_3
            try clear hfz5_4
            try clear hfz5_5
            try clear hfz5_6
            try clear hfz9_0
            try clear hfz9_1
            try clear hfz9_2
            try clear hfz9_3
            try clear hfz9_4
            try clear hfz9_5
            try clear hfz9_6
            try clear hx221_0
            try clear p2
            try clear p221
            try clear q221
            obtain ⟨x4_2, x35_2, rfl, HA, HK2, HO_4, BK216, HB⟩ := hrel
            cases gk with
            | zero => exact absurd HA.out (by simp [impl_DataLines.l1])
            | succ k2 =>
              have H := HA.out
              clear HA
              simp only [impl_DataLines.l1] at H
              by_cases c23 : x35_2 < (l0_1.length : Int)
              · rw [if_pos c23] at H
                have c23b0 : decide (x35_2 < (l0_1.length : Int)) = true := decide_eq_true c23
                clear c23
                by_cases c24 : 0 ≤ x35_2
                · rw [if_pos c24] at H
                  have c24b0 : decide (0 ≤ x35_2) = true := decide_eq_true c24
                  clear c24
                  by_cases c25 : x35_2 < (l0_1.length : Int)
                  · rw [if_pos c25] at H
                    have c25b0 : decide (x35_2 < (l0_1.length : Int)) = true := decide_eq_true c25
                    clear c25
                    replace H := Option.bind_eq_some_iff.mp H
                    obtain ⟨t231, A260, H⟩ := H
                    replace H : (if 6 + t231.size ≤ 9223372036854775807 then (if ((⟨#[98, 108, 111, 99, 107, 32]⟩ : ByteArray) ++ t231).size + 1 ≤ 9223372036854775807 then ((impl_fbText.f ((rd_T61 l0_1 x35_2).f0) ((rd_T61 l0_1 x35_2).f1) ((rd_T61 l0_1 x35_2).f2) ((rd_T61 l0_1 x35_2).f3)).bind fun t232 => (if (((⟨#[98, 108, 111, 99, 107, 32]⟩ : ByteArray) ++ t231) ++ (⟨#[32]⟩ : ByteArray)).size + t232.size ≤ 9223372036854775807 then (if x4_2.length < 8796093022208 then (impl_DataLines.l1 k2 (x4_2 ++ [(((⟨#[98, 108, 111, 99, 107, 32]⟩ : ByteArray) ++ t231) ++ (⟨#[32]⟩ : ByteArray)) ++ t232]) l0_1 (l0_1.length : Int) (wrap64 (x35_2 + 1)) l0_0 l0_1 l0_2 l0_3 l0_4 l0_5 a0_6) else (none)) else (none))) else (none)) else (none)) = some (r1, r2) := H
                    have A26 := Aside0.mk A260
                    clear A260
                    by_cases c27 : 6 + t231.size ≤ 9223372036854775807
                    · rw [if_pos c27] at H
                      have c27b0 := eq_true c27
                      have c27b1 : decide (6 + t231.size ≤ 9223372036854775807) = true := decide_eq_true c27
                      try have c27b2 : (9223372036854775807 < 6 + t231.size) = False := eq_false (Nat.not_lt.2 c27)
                      by_cases c28 : ((⟨#[98, 108, 111, 99, 107, 32]⟩ : ByteArray) ++ t231).size + 1 ≤ 9223372036854775807
                      · rw [if_pos c28] at H
                        have c28b0 := eq_true c28
                        have c28b1 : decide (((⟨#[98, 108, 111, 99, 107, 32]⟩ : ByteArray) ++ t231).size + 1 ≤ 9223372036854775807) = true := decide_eq_true c28
                        try have c28b2 : (9223372036854775807 < ((⟨#[98, 108, 111, 99, 107, 32]⟩ : ByteArray) ++ t231).size + 1) = False := eq_false (Nat.not_lt.2 c28)
                        try (have c28b3 := c28b2; simp only [ByteArray.size_append] at c28b3)
                        try (have c28b4 : (9223372036854775807 < 6 + t231.size + 1) = False := by have h_ := c28b2; simp only [ByteArray.size_append] at h_; exact h_)
                        replace H := Option.bind_eq_some_iff.mp H
                        obtain ⟨t232, A290, H⟩ := H
                        replace H : (if (((⟨#[98, 108, 111, 99, 107, 32]⟩ : ByteArray) ++ t231) ++ (⟨#[32]⟩ : ByteArray)).size + t232.size ≤ 9223372036854775807 then (if x4_2.length < 8796093022208 then (impl_DataLines.l1 k2 (x4_2 ++ [(((⟨#[98, 108, 111, 99, 107, 32]⟩ : ByteArray) ++ t231) ++ (⟨#[32]⟩ : ByteArray)) ++ t232]) l0_1 (l0_1.length : Int) (wrap64 (x35_2 + 1)) l0_0 l0_1 l0_2 l0_3 l0_4 l0_5 a0_6) else (none)) else (none)) = some (r1, r2) := H
                        have A29 := Aside0.mk A290
                        clear A290
                        by_cases c30 : (((⟨#[98, 108, 111, 99, 107, 32]⟩ : ByteArray) ++ t231) ++ (⟨#[32]⟩ : ByteArray)).size + t232.size ≤ 9223372036854775807
                        · rw [if_pos c30] at H
                          have c30b0 := eq_true c30
                          have c30b1 : decide ((((⟨#[98, 108, 111, 99, 107, 32]⟩ : ByteArray) ++ t231) ++ (⟨#[32]⟩ : ByteArray)).size + t232.size ≤ 9223372036854775807) = true := decide_eq_true c30
                          try have c30b2 : (9223372036854775807 < (((⟨#[98, 108, 111, 99, 107, 32]⟩ : ByteArray) ++ t231) ++ (⟨#[32]⟩ : ByteArray)).size + t232.size) = False := eq_false (Nat.not_lt.2 c30)
                          try (have c30b3 := c30b2; simp only [ByteArray.size_append] at c30b3)
                          try (have c30b4 : (9223372036854775807 < 6 + t231.size + 1 + t232.size) = False := by have h_ := c30b2; simp only [ByteArray.size_append] at h_; exact h_)
                          by_cases c31 : x4_2.length < 8796093022208
                          · rw [if_pos c31] at H
                            have LMc31 := Aside0.mk c31
                            clear c31
                            obtain ⟨y233, hy233⟩ : ∃ y_ : List ByteArray, y_ = (x4_2 ++ [(((⟨#[98, 108, 111, 99, 107, 32]⟩ : ByteArray) ++ t231) ++ (⟨#[32]⟩ : ByteArray)) ++ t232]) := ⟨_, rfl⟩
                            replace H : (impl_DataLines.l1 k2 y233 l0_1 (l0_1.length : Int) (wrap64 (x35_2 + 1)) l0_0 l0_1 l0_2 l0_3 l0_4 l0_5 a0_6) = some (r1, r2) := by first | (rw [hy233]; with_reducible exact H) | (have H2_ := (Option.bind_some _ _).symm.trans H; rw [hy233]; with_reducible exact H2_) | (have H2_ := (Option.bind_some _ _).symm.trans H; with_reducible exact H2_) | with_reducible exact H | (rw [hy233]; exact H) | exact H
                            have Ny233 := Aside0.mk hy233
                            clear hy233
                            have H' := Aside0.mk H
                            clear H
                            have p229 : 0 ≤ (x35_2 : Int) := of_decide_eq_true qs
                            have q229 : x35_2 < (l0_1.length : Int) := of_decide_eq_true qs
                            obtain ⟨ad229, e229, hx229_0, hx229_1, hx229_2, hx229_3⟩ := at_T61 HR0_1.out x35_2 p229 q229
                            cases e229
                            replace hx229_0 := (HB.out.cell (World.block_lt_of_cell? w _ hx229_0)).trans hx229_0
                            replace hx229_1 := (HB.out.cell (World.block_lt_of_cell? w _ hx229_1)).trans hx229_1
                            replace hx229_2 := (HB.out.cell (World.block_lt_of_cell? w _ hx229_2)).trans hx229_2
                            replace hx229_3 := (HB.out.cell (World.block_lt_of_cell? w _ hx229_3)).trans hx229_3
                            replace p229 := eq_true p229
                            replace q229 := eq_true q229
                            try go_wp2_with (first | ((with_reducible refine gate_dst (N := 8) rfl ?_); refine box_event ?hg (N := 8) ?hd (cs := #[.int .i64 0, .bool false, .int .i64 0, .int .i64 0]) (t := 61) ?hr ?_; (case hd => rfl); (case hg => rfl); (case hr => first | (go_simp; done) | (go_simp; rfl)); intro gb230 hg w32 hbox hb; have n0_ := Aside0.mk (Kd.R_below (qr HO_4.out) hb); have n1_ := Aside0.mk (blk_below (g := gb216) (o := .cells #[.slice A0_0 l0_0.length c0_0, .slice (some ad229) l0_1.length c0_1, .slice A0_2 l0_2.length c0_2, .slice A0_3 l0_3.length c0_3, .slice A0_4 l0_4.length c0_4, .slice A0_5 l0_5.length c0_5, .int .i64 a0_6] 33 (0, 0)) (qb BK216.out) hb); have n2_ := Aside0.mk (below_step (qw HB.out) hb); have n3_ := Aside0.mk (hbox); have n4_ := Aside0.mk ((by rw [hg]; exact (below_size (qw HB.out)) : w.heap.size ≤ gb230)); have n5_ := Aside0.mk ((by rw [hg]; exact (below_size (qw HB.out)) : w.heap.size ≤ gb230)); have n6_ := Aside0.mk ((by rw [hg]; exact Nat.ne_of_lt (blk_lt (g := gb216) (o := .cells #[.slice A0_0 l0_0.length c0_0, .slice (some ad229) l0_1.length c0_1, .slice A0_2 l0_2.length c0_2, .slice A0_3 l0_3.length c0_3, .slice A0_4 l0_4.length c0_4, .slice A0_5 l0_5.length c0_5, .int .i64 a0_6] 33 (0, 0)) (qb BK216.out)) : gb216 ≠ gb230)); have n7_ := Aside0.mk ((by rw [hg]; exact Nat.ne_of_gt (blk_lt (g := gb216) (o := .cells #[.slice A0_0 l0_0.length c0_0, .slice (some ad229) l0_1.length c0_1, .slice A0_2 l0_2.length c0_2, .slice A0_3 l0_3.length c0_3, .slice A0_4 l0_4.length c0_4, .slice A0_5 l0_5.length c0_5, .int .i64 a0_6] 33 (0, 0)) (qb BK216.out)) : gb230 ≠ gb216)); clear HO_4; clear BK216; clear HB; have HO_4 := n0_; have BK216 := n1_; have HB := n2_; have BK230 := n3_; have GW230 := n4_; have GE230 := n5_; have NB216_230 := n6_; have NB230_216 := n7_; clear n0_ n1_ n2_ n3_ n4_ n5_ n6_ n7_; clear hb hbox hg; have hnb33 := NB230_216.out; have hnc33 := NB216_230.out; have hcz34_0 : w32.cell? ⟨gb230, 0, none⟩ = some (.int .i64 0) := (blk_cell BK230.out 0).trans rfl; have hcz34_1 : w32.cell? ⟨gb230, 1, none⟩ = some (.bool false) := (blk_cell BK230.out 1).trans rfl; have hcz34_2 : w32.cell? ⟨gb230, 2, none⟩ = some (.int .i64 0) := (blk_cell BK230.out 2).trans rfl; have hcz34_3 : w32.cell? ⟨gb230, 3, none⟩ = some (.int .i64 0) := (blk_cell BK230.out 3).trans rfl; have hfz34_0 := blk_frozen BK230.out 0; have hfz34_1 := blk_frozen BK230.out 1; have hfz34_2 := blk_frozen BK230.out 2; have hfz34_3 := blk_frozen BK230.out 3))
                            have n0_ : Aside0 (Kd.R Kd.string 9 ((((w32.setCell ⟨gb230, 0, none⟩ (.int .i64 ((rd_T61 l0_1 x35_2).f0))).setCell ⟨gb230, 1, none⟩ (.bool ((rd_T61 l0_1 x35_2).f1))).setCell ⟨gb230, 2, none⟩ (.int .i64 ((rd_T61 l0_1 x35_2).f2))).setCell ⟨gb230, 3, none⟩ (.int .i64 ((rd_T61 l0_1 x35_2).f3))) w.heap.size (fun _ => True) u4 x4_2) := ⟨by (with_reducible repeat (first | apply Kd.R_alloc | apply Kd.R_drewN | apply Kd.R_drew)); exact Kd.R_mono (Kd.R_far (p := ⟨gb230, 3, none⟩) (Kd.R_far (p := ⟨gb230, 2, none⟩) (Kd.R_far (p := ⟨gb230, 1, none⟩) (Kd.R_far (p := ⟨gb230, 0, none⟩) (Kd.R_types HO_4.out BK230.out (by decide)) (fun _ hk => hk.2) (.int .i64 ((rd_T61 l0_1 x35_2).f0))) (fun _ hk => hk.2) (.bool ((rd_T61 l0_1 x35_2).f1))) (fun _ hk => hk.2) (.int .i64 ((rd_T61 l0_1 x35_2).f2))) (fun _ hk => hk.2) (.int .i64 ((rd_T61 l0_1 x35_2).f3))) (fun _ hk => trivial)⟩
                            have n1_ : Aside0 (((((w32.setCell ⟨gb230, 0, none⟩ (.int .i64 ((rd_T61 l0_1 x35_2).f0))).setCell ⟨gb230, 1, none⟩ (.bool ((rd_T61 l0_1 x35_2).f1))).setCell ⟨gb230, 2, none⟩ (.int .i64 ((rd_T61 l0_1 x35_2).f2))).setCell ⟨gb230, 3, none⟩ (.int .i64 ((rd_T61 l0_1 x35_2).f3))).heap[gb216]? = some (.cells #[.slice A0_0 l0_0.length c0_0, .slice (some ad229) l0_1.length c0_1, .slice A0_2 l0_2.length c0_2, .slice A0_3 l0_3.length c0_3, .slice A0_4 l0_4.length c0_4, .slice A0_5 l0_5.length c0_5, .int .i64 a0_6] 33 (0, 0))) := ⟨by (with_reducible repeat (first | refine blk_drewN ?_ _ | refine blk_drew ?_ | refine blk_alloc ?_ _)); refine blk_far ?_ NB216_230.out _; (with_reducible repeat (first | refine blk_drewN ?_ _ | refine blk_drew ?_ | refine blk_alloc ?_ _)); refine blk_far ?_ NB216_230.out _; (with_reducible repeat (first | refine blk_drewN ?_ _ | refine blk_drew ?_ | refine blk_alloc ?_ _)); refine blk_far ?_ NB216_230.out _; (with_reducible repeat (first | refine blk_drewN ?_ _ | refine blk_drew ?_ | refine blk_alloc ?_ _)); refine blk_far ?_ NB216_230.out _; (with_reducible repeat (first | refine blk_drewN ?_ _ | refine blk_drew ?_ | refine blk_alloc ?_ _)); exact BK216.out⟩
                            have n2_ : Aside0 (((((w32.setCell ⟨gb230, 0, none⟩ (.int .i64 ((rd_T61 l0_1 x35_2).f0))).setCell ⟨gb230, 1, none⟩ (.bool ((rd_T61 l0_1 x35_2).f1))).setCell ⟨gb230, 2, none⟩ (.int .i64 ((rd_T61 l0_1 x35_2).f2))).setCell ⟨gb230, 3, none⟩ (.int .i64 ((rd_T61 l0_1 x35_2).f3))).heap[gb230]? = some (.cells #[.int .i64 ((rd_T61 l0_1 x35_2).f0), .bool ((rd_T61 l0_1 x35_2).f1), .int .i64 ((rd_T61 l0_1 x35_2).f2), .int .i64 ((rd_T61 l0_1 x35_2).f3)] 61 (0, 0))) := ⟨by (with_reducible repeat (first | refine blk_drewN ?_ _ | refine blk_drew ?_ | refine blk_alloc ?_ _)); refine blk_put (cs := #[.int .i64 ((rd_T61 l0_1 x35_2).f0), .bool ((rd_T61 l0_1 x35_2).f1), .int .i64 ((rd_T61 l0_1 x35_2).f2), .int .i64 0]) ?_ 3 _ rfl; (with_reducible repeat (first | refine blk_drewN ?_ _ | refine blk_drew ?_ | refine blk_alloc ?_ _)); refine blk_put (cs := #[.int .i64 ((rd_T61 l0_1 x35_2).f0), .bool ((rd_T61 l0_1 x35_2).f1), .int .i64 0, .int .i64 0]) ?_ 2 _ rfl; (with_reducible repeat (first | refine blk_drewN ?_ _ | refine blk_drew ?_ | refine blk_alloc ?_ _)); refine blk_put (cs := #[.int .i64 ((rd_T61 l0_1 x35_2).f0), .bool false, .int .i64 0, .int .i64 0]) ?_ 1 _ rfl; (with_reducible repeat (first | refine blk_drewN ?_ _ | refine blk_drew ?_ | refine blk_alloc ?_ _)); refine blk_put (cs := #[.int .i64 0, .bool false, .int .i64 0, .int .i64 0]) ?_ 0 _ rfl; (with_reducible repeat (first | refine blk_drewN ?_ _ | refine blk_drew ?_ | refine blk_alloc ?_ _)); exact BK230.out⟩
                            have n3_ : Aside0 (Below w.heap.size w ((((w32.setCell ⟨gb230, 0, none⟩ (.int .i64 ((rd_T61 l0_1 x35_2).f0))).setCell ⟨gb230, 1, none⟩ (.bool ((rd_T61 l0_1 x35_2).f1))).setCell ⟨gb230, 2, none⟩ (.int .i64 ((rd_T61 l0_1 x35_2).f2))).setCell ⟨gb230, 3, none⟩ (.int .i64 ((rd_T61 l0_1 x35_2).f3)))) := ⟨qw HB.out⟩
                            (try clear HO_4)
                            (try clear BK216)
                            (try clear BK230)
                            (try clear HB)
                            generalize ((((w32.setCell ⟨gb230, 0, none⟩ (.int .i64 ((rd_T61 l0_1 x35_2).f0))).setCell ⟨gb230, 1, none⟩ (.bool ((rd_T61 l0_1 x35_2).f1))).setCell ⟨gb230, 2, none⟩ (.int .i64 ((rd_T61 l0_1 x35_2).f2))).setCell ⟨gb230, 3, none⟩ (.int .i64 ((rd_T61 l0_1 x35_2).f3))) = w35 at n0_ n1_ n2_ n3_ ⊢
                            have HO_4 := n0_
                            have BK216 := n1_
                            have BK230 := n2_
                            have HB := n3_
                            clear n0_ n1_ n2_ n3_
                            (try (rw [drewN_self w35]; generalize hq_ : World.drewN w35 _ = w35; have n0_ : Aside0 (Kd.R Kd.string 9 w35 w.heap.size (fun _ => True) u4 x4_2) := ⟨by rw [← hq_]; exact (qr HO_4.out)⟩; have n1_ : Aside0 (w35.heap[gb216]? = some (.cells #[.slice A0_0 l0_0.length c0_0, .slice (some ad229) l0_1.length c0_1, .slice A0_2 l0_2.length c0_2, .slice A0_3 l0_3.length c0_3, .slice A0_4 l0_4.length c0_4, .slice A0_5 l0_5.length c0_5, .int .i64 a0_6] 33 (0, 0))) := ⟨by rw [← hq_]; exact (qb BK216.out)⟩; have n2_ : Aside0 (w35.heap[gb230]? = some (.cells #[.int .i64 ((rd_T61 l0_1 x35_2).f0), .bool ((rd_T61 l0_1 x35_2).f1), .int .i64 ((rd_T61 l0_1 x35_2).f2), .int .i64 ((rd_T61 l0_1 x35_2).f3)] 61 (0, 0))) := ⟨by rw [← hq_]; exact (qb BK230.out)⟩; have n3_ : Aside0 (Below w.heap.size w w35) := ⟨by rw [← hq_]; exact (qw HB.out)⟩; clear HO_4 BK216 BK230 HB hq_; have HO_4 := n0_; have BK216 := n1_; have BK230 := n2_; have HB := n3_; clear n0_ n1_ n2_ n3_))
                            have n0_ := Aside0.mk (Kd.R_drew HO_4.out)
                            have n1_ := Aside0.mk (blk_drew BK216.out)
                            have n2_ := Aside0.mk (blk_drew BK230.out)
                            have n3_ := Aside0.mk (below_drew1 HB.out)
                            clear HO_4
                            clear BK216
                            clear BK230
                            clear HB
                            have HO_4 := n0_
                            have BK216 := n1_
                            have BK230 := n2_
                            have HB := n3_
                            clear n0_ n1_ n2_ n3_
                            refine start_ (n := 11) (S := fun w' => w'.cell? ⟨gb230, 0, none⟩ = some (.int .i64 ((rd_T61 l0_1 x35_2).f0)) ∧ w'.cell? ⟨gb230, 1, none⟩ = some (.bool ((rd_T61 l0_1 x35_2).f1)) ∧ w'.cell? ⟨gb230, 2, none⟩ = some (.int .i64 ((rd_T61 l0_1 x35_2).f2)) ∧ w'.cell? ⟨gb230, 3, none⟩ = some (.int .i64 ((rd_T61 l0_1 x35_2).f3))) (ds := []) #[false, false, false, false, false, false, false, false, false, false, false] (by kernel_rfl) rfl rfl ⟨(blk_cell BK230.out 0).trans rfl, (blk_cell BK230.out 1).trans rfl, (blk_cell BK230.out 2).trans rfl, (blk_cell BK230.out 3).trans rfl⟩ (fun hHeld => ?_); refine with_tabW impl_DataLines.tab13 impl_DataLines.bits13 (fun HT_ HW_ => ?_)
                            generalize w35.drew = w36 at HO_4 BK216 BK230 HB hHeld ⊢
                            refine pure_ (i := 0) (N := some 40) (v := ?_) (a' := ?_) #[true, false, false, false, false, false, false, false, false, false, false] rfl rfl (any_of HT_.out (by kernel_rfl)) (fun _ _ _ h => h) (Or.inl ⟨by rfl, ?_⟩) ?_ ?_
                            rotate_left
                            · intro w'
                              go_simp
                              with_reducible rfl
                            rotate_left
                            · simp only [Act.put, List.setIfInBounds_toArray, List.set_cons_zero, List.set_cons_succ, i64_w, i32_w]
                              rfl
                            refine pure_ (i := 1) (N := some 41) (v := ?_) (a' := ?_) #[true, true, false, false, false, false, false, false, false, false, false] rfl rfl (any_of HT_.out (by kernel_rfl)) (fun _ _ _ h => h) (Or.inl ⟨by rfl, ?_⟩) ?_ ?_
                            rotate_left
                            · intro w'
                              go_simp
                              with_reducible rfl
                            rotate_left
                            · simp only [Act.put, List.setIfInBounds_toArray, List.set_cons_zero, List.set_cons_succ, i64_w, i32_w]
                              rfl
                            refine take_ (i := 5) (N := some 45) (v := ?_) (a' := ?_) #[true, true, false, false, false, true, false, false, false, false, false] rfl rfl (take_ofW HT_.out HW_.out (by kernel_rfl)) (fun _ _ _ h => h) (Or.inl ⟨by rfl, ?_⟩) hHeld ?_ ?_
                            rotate_left
                            · rintro w' ⟨s0, s1, s2, s3⟩
                              go_simp
                              with_reducible rfl
                            rotate_left
                            · simp only [Act.put, List.setIfInBounds_toArray, List.set_cons_zero, List.set_cons_succ, i64_w, i32_w]
                              rfl
                            refine one_ (i := 2) (N := some 42) #[true, true, true, false, false, true, false, false, false, false, false] rfl rfl (one_of HT_.out (by kernel_rfl)) (by decide) (fun K hK => ?_)
                            refine goes_ Tryd.func33 (by kernel_rfl) rfl #[.int .i64 x35_2] (by rfl) rfl rfl qa ?_
                            with_reducible refine (impl_decimal.calls x35_2 t231 _ ?side1 A26.out).mono ?_
                            (case side1 => exact Glob.below HG.out (qw HB.out))
                            rintro e w37 ⟨rfl, hb⟩
                            refine ⟨_, rfl, ?_⟩
                            have n0_ := Aside0.mk (Kd.R_below (qr HO_4.out) hb)
                            have n1_ := Aside0.mk (blk_below (g := gb216) (o := .cells #[.slice A0_0 l0_0.length c0_0, .slice (some ad229) l0_1.length c0_1, .slice A0_2 l0_2.length c0_2, .slice A0_3 l0_3.length c0_3, .slice A0_4 l0_4.length c0_4, .slice A0_5 l0_5.length c0_5, .int .i64 a0_6] 33 (0, 0)) (qb BK216.out) hb)
                            have n2_ := Aside0.mk (blk_below (g := gb230) (o := .cells #[.int .i64 ((rd_T61 l0_1 x35_2).f0), .bool ((rd_T61 l0_1 x35_2).f1), .int .i64 ((rd_T61 l0_1 x35_2).f2), .int .i64 ((rd_T61 l0_1 x35_2).f3)] 61 (0, 0)) (qb BK230.out) hb)
                            have n3_ := Aside0.mk (below_step (qw HB.out) hb)
                            clear HO_4
                            clear BK216
                            clear BK230
                            clear HB
                            have HO_4 := n0_
                            have BK216 := n1_
                            have BK230 := n2_
                            have HB := n3_
                            clear n0_ n1_ n2_ n3_
                            (try clear hb)
                            (try clear hb2)
                            (try clear hk)
                            (try clear hi)
                            refine hK.out _ _ ⟨(blk_cell BK230.out 0).trans rfl, (blk_cell BK230.out 1).trans rfl, (blk_cell BK230.out 2).trans rfl, (blk_cell BK230.out 3).trans rfl⟩ (fun hHeld => ?_)
                            clear hK K
                            refine norm_ (a' := ?_) ?_ ?_
                            rotate_left
                            · show Act.put _ (some 42) _ = _
                              simp only [Act.put, List.setIfInBounds_toArray, List.set_cons_zero, List.set_cons_succ, i64_w, i32_w]
                              rfl
                            refine pure_ (i := 3) (N := some 43) (v := ?_) (a' := ?_) #[true, true, true, true, false, true, false, false, false, false, false] rfl rfl (any_of HT_.out (by kernel_rfl)) (fun _ _ _ h => h) (Or.inl ⟨by rfl, ?_⟩) ?_ ?_
                            rotate_left
                            · intro w'
                              go_simp
                              with_reducible rfl
                            rotate_left
                            · simp only [Act.put, List.setIfInBounds_toArray, List.set_cons_zero, List.set_cons_succ, i64_w, i32_w]
                              rfl
                            refine pure_ (i := 4) (N := some 44) (v := ?_) (a' := ?_) #[true, true, true, true, true, true, false, false, false, false, false] rfl rfl (any_of HT_.out (by kernel_rfl)) (fun _ _ _ h => h) (Or.inl ⟨by rfl, ?_⟩) ?_ ?_
                            rotate_left
                            · intro w'
                              go_simp
                              with_reducible rfl
                            rotate_left
                            · simp only [Act.put, List.setIfInBounds_toArray, List.set_cons_zero, List.set_cons_succ, i64_w, i32_w]
                              rfl
                            refine one_ (i := 6) (N := some 46) #[true, true, true, true, true, true, true, false, false, false, false] rfl rfl (one_of HT_.out (by kernel_rfl)) (by decide) (fun K hK => ?_)
                            refine goes_ Tryd.func34 (by kernel_rfl) rfl #[.agg #[.int .i64 ((rd_T61 l0_1 x35_2).f0), .bool ((rd_T61 l0_1 x35_2).f1), .int .i64 ((rd_T61 l0_1 x35_2).f2), .int .i64 ((rd_T61 l0_1 x35_2).f3)]] (by rfl) rfl rfl qa ?_
                            with_reducible refine (impl_fbText.calls ((rd_T61 l0_1 x35_2).f0) ((rd_T61 l0_1 x35_2).f1) ((rd_T61 l0_1 x35_2).f2) ((rd_T61 l0_1 x35_2).f3) t232 _ ?side1 A29.out).mono ?_
                            (case side1 => exact Glob.below HG.out (qw HB.out))
                            rintro e w38 ⟨rfl, hb⟩
                            refine ⟨_, rfl, ?_⟩
                            have n0_ := Aside0.mk (Kd.R_below (qr HO_4.out) hb)
                            have n1_ := Aside0.mk (blk_below (g := gb216) (o := .cells #[.slice A0_0 l0_0.length c0_0, .slice (some ad229) l0_1.length c0_1, .slice A0_2 l0_2.length c0_2, .slice A0_3 l0_3.length c0_3, .slice A0_4 l0_4.length c0_4, .slice A0_5 l0_5.length c0_5, .int .i64 a0_6] 33 (0, 0)) (qb BK216.out) hb)
                            have n2_ := Aside0.mk (blk_below (g := gb230) (o := .cells #[.int .i64 ((rd_T61 l0_1 x35_2).f0), .bool ((rd_T61 l0_1 x35_2).f1), .int .i64 ((rd_T61 l0_1 x35_2).f2), .int .i64 ((rd_T61 l0_1 x35_2).f3)] 61 (0, 0)) (qb BK230.out) hb)
                            have n3_ := Aside0.mk (below_step (qw HB.out) hb)
                            clear HO_4
                            clear BK216
                            clear BK230
                            clear HB
                            have HO_4 := n0_
                            have BK216 := n1_
                            have BK230 := n2_
                            have HB := n3_
                            clear n0_ n1_ n2_ n3_
                            (try clear hb)
                            (try clear hb2)
                            (try clear hk)
                            (try clear hi)
                            refine hK.out _ _ ⟨(blk_cell BK230.out 0).trans rfl, (blk_cell BK230.out 1).trans rfl, (blk_cell BK230.out 2).trans rfl, (blk_cell BK230.out 3).trans rfl⟩ (fun hHeld => ?_)
                            clear hK K
                            refine norm_ (a' := ?_) ?_ ?_
                            rotate_left
                            · show Act.put _ (some 46) _ = _
                              simp only [Act.put, List.setIfInBounds_toArray, List.set_cons_zero, List.set_cons_succ, i64_w, i32_w]
                              rfl
                            refine pure_ (i := 7) (N := some 47) (v := ?_) (a' := ?_) #[true, true, true, true, true, true, true, true, false, false, false] rfl rfl (any_of HT_.out (by kernel_rfl)) (fun _ _ _ h => h) (Or.inl ⟨by rfl, ?_⟩) ?_ ?_
                            rotate_left
                            · intro w'
                              go_simp
                              with_reducible rfl
                            rotate_left
                            · simp only [Act.put, List.setIfInBounds_toArray, List.set_cons_zero, List.set_cons_succ, i64_w, i32_w]
                              rfl
                            refine one_ (i := 8) (N := some 48) #[true, true, true, true, true, true, true, true, true, false, false] rfl rfl (one_of HT_.out (by kernel_rfl)) (by decide) (fun K hK => ?_)
                            refine value_ (w1 := ?_) (v := ?_) (by rfl) rfl ?_ ?_
                            rotate_left 2
                            · go_simp
                              constructor
                              · rfl
                              · rfl
                            refine hK.out _ _ ⟨(blk_cell (blk_alloc BK230.out _) 0).trans rfl, (blk_cell (blk_alloc BK230.out _) 1).trans rfl, (blk_cell (blk_alloc BK230.out _) 2).trans rfl, (blk_cell (blk_alloc BK230.out _) 3).trans rfl⟩ (fun hHeld => ?_)
                            clear hK K
                            refine norm_ (a' := ?_) ?_ ?_
                            rotate_left
                            · show Act.put _ (some 48) _ = _
                              simp only [Act.put, List.setIfInBounds_toArray, List.set_cons_zero, List.set_cons_succ, i64_w, i32_w]
                              rfl
                            refine one_ (i := 9) (N := some 49) #[true, true, true, true, true, true, true, true, true, true, false] rfl rfl (one_of HT_.out (by kernel_rfl)) (by decide) (fun K hK => ?_)
                            refine Kd.R_append_step Kd.string (w0 := w) w.heap.size (by rfl) (.tmp 40) (.tmp 48) 28 9 (.string ⟨#[]⟩) 16 rfl Tryd.underlying28 info9 rfl (by decide) (by omega) u4 x4_2 ((((⟨#[98, 108, 111, 99, 107, 32]⟩ : ByteArray) ++ t231) ++ (⟨#[32]⟩ : ByteArray)) ++ t232) [.string ((((⟨#[98, 108, 111, 99, 107, 32]⟩ : ByteArray) ++ t231) ++ (⟨#[32]⟩ : ByteArray)) ++ t232)] (fun _ => True) (fun _ => False) rfl rfl ?aP (fun _ hk => hk.elim) ?aF ?aO ?aB ?aS ?aL ?_
                            (case aP => exact rfl)
                            (case aB => exact (qw HB.out))
                            (case aF => exact (fun _ _ => trivial))
                            (case aO => exact (qr HO_4.out))
                            (case aS => exact (below_size (qw HB.out)))
                            (case aL => have := LMc31.out; omega)
                            intro v234 w39 ho hb hg hat
                            rw [← Ny233.out] at ho
                            have n0_ := Aside0.mk (blk_grown (g := gb216) (o := .cells #[.slice A0_0 l0_0.length c0_0, .slice (some ad229) l0_1.length c0_1, .slice A0_2 l0_2.length c0_2, .slice A0_3 l0_3.length c0_3, .slice A0_4 l0_4.length c0_4, .slice A0_5 l0_5.length c0_5, .int .i64 a0_6] 33 (0, 0)) (qb BK216.out) hg (Kd.R_ne HO_4.out BK216.out (by decide)))
                            have n1_ := Aside0.mk (blk_grown (g := gb230) (o := .cells #[.int .i64 ((rd_T61 l0_1 x35_2).f0), .bool ((rd_T61 l0_1 x35_2).f1), .int .i64 ((rd_T61 l0_1 x35_2).f2), .int .i64 ((rd_T61 l0_1 x35_2).f3)] 61 (0, 0)) (qb BK230.out) hg (Kd.R_ne HO_4.out BK230.out (by decide)))
                            have n2_ := Aside0.mk (hb)
                            have n3_ := Aside0.mk (ho)
                            clear BK216
                            clear BK230
                            clear HB
                            clear HO_4
                            have BK216 := n0_
                            have BK230 := n1_
                            have HB := n2_
                            have HO235 := n3_
                            clear n0_ n1_ n2_ n3_
                            clear ho hb hg hat
                            refine hK.out _ _ ⟨(blk_cell BK230.out 0).trans rfl, (blk_cell BK230.out 1).trans rfl, (blk_cell BK230.out 2).trans rfl, (blk_cell BK230.out 3).trans rfl⟩ (fun hHeld => ?_)
                            clear hK K
                            refine norm_ (a' := ?_) ?_ ?_
                            rotate_left
                            · show Act.put _ (some 49) _ = _
                              simp only [Act.put, List.setIfInBounds_toArray, List.set_cons_zero, List.set_cons_succ, i64_w, i32_w]
                              rfl
                            refine pure_ (i := 10) (N := some 4) (v := ?_) (a' := ?_) #[true, true, true, true, true, true, true, true, true, true, true] rfl rfl (any_of HT_.out (by kernel_rfl)) (fun _ _ _ h => h) (Or.inl ⟨by rfl, ?_⟩) ?_ ?_
                            rotate_left
                            · intro w'
                              go_simp
                              with_reducible rfl
                            rotate_left
                            · simp only [Act.put, List.setIfInBounds_toArray, List.set_cons_zero, List.set_cons_succ, i64_w, i32_w]
                              rfl
                            refine done_ (done_of HT_.out (by kernel_rfl)) ?_
                            try go_wp2
                            go_roundg k2
                            case measure => have := HK1.out; have := HK2.out; omega
                            case rel => exact ⟨(y233), (wrap64 (x35_2 + 1)), (by first | rfl | (simp; done) | (simp [*]; done)), H', ⟨by have := HK1.out; have := HK2.out; omega⟩, ⟨qr HO235.out⟩, ⟨qb BK216.out⟩, ⟨qw HB.out⟩⟩
                          · rw [if_neg c31] at H
                            exact absurd H (by simp)
                        · rw [if_neg c30] at H
                          exact absurd H (by simp)
                      · rw [if_neg c28] at H
                        exact absurd H (by simp)
                    · rw [if_neg c27] at H
                      exact absurd H (by simp)
                  · rw [if_neg c25] at H
                    exact absurd H (by simp)
                · rw [if_neg c24] at H
                  exact absurd H (by simp)
              · rw [if_neg c23] at H
                have c23b0 : decide (x35_2 < (l0_1.length : Int)) = false := decide_eq_false c23
                clear c23
                replace H := Option.bind_eq_some_iff.mp H
                obtain ⟨t236, A400, H⟩ := H
                replace H : (if 6 + t236.size ≤ 9223372036854775807 then (if x4_2.length < 8796093022208 then (some ((x4_2 ++ [(⟨#[119, 114, 111, 110, 103, 32]⟩ : ByteArray) ++ t236]), 0)) else (none)) else (none)) = some (r1, r2) := H
                have A40 := Aside0.mk A400
                clear A400
                by_cases c41 : 6 + t236.size ≤ 9223372036854775807
                · rw [if_pos c41] at H
                  have c41b0 := eq_true c41
                  have c41b1 : decide (6 + t236.size ≤ 9223372036854775807) = true := decide_eq_true c41
                  try have c41b2 : (9223372036854775807 < 6 + t236.size) = False := eq_false (Nat.not_lt.2 c41)
                  by_cases c42 : x4_2.length < 8796093022208
                  · rw [if_pos c42] at H
                    have LMc42 := Aside0.mk c42
                    clear c42
                    obtain ⟨y237, hy237⟩ : ∃ y_ : List ByteArray, y_ = (x4_2 ++ [(⟨#[119, 114, 111, 110, 103, 32]⟩ : ByteArray) ++ t236]) := ⟨_, rfl⟩
                    replace H : (some (y237, 0)) = some (r1, r2) := by first | (rw [hy237]; with_reducible exact H) | (have H2_ := (Option.bind_some _ _).symm.trans H; rw [hy237]; with_reducible exact H2_) | (have H2_ := (Option.bind_some _ _).symm.trans H; with_reducible exact H2_) | with_reducible exact H | (rw [hy237]; exact H) | exact H
                    have Ny237 := Aside0.mk hy237
                    clear hy237
                    simp only [Option.some.injEq, Prod.mk.injEq] at H
                    obtain ⟨rfl, rfl⟩ := H
                    have hcz43_0 : wr.cell? ⟨gb216, 0, none⟩ = some (.slice A0_0 l0_0.length c0_0) := (blk_cell BK216.out 0).trans rfl
                    have hcz43_1 : wr.cell? ⟨gb216, 1, none⟩ = some (.slice A0_1 l0_1.length c0_1) := (blk_cell BK216.out 1).trans rfl
                    have hcz43_2 : wr.cell? ⟨gb216, 2, none⟩ = some (.slice A0_2 l0_2.length c0_2) := (blk_cell BK216.out 2).trans rfl
                    have hcz43_3 : wr.cell? ⟨gb216, 3, none⟩ = some (.slice A0_3 l0_3.length c0_3) := (blk_cell BK216.out 3).trans rfl
                    have hcz43_4 : wr.cell? ⟨gb216, 4, none⟩ = some (.slice A0_4 l0_4.length c0_4) := (blk_cell BK216.out 4).trans rfl
                    have hcz43_5 : wr.cell? ⟨gb216, 5, none⟩ = some (.slice A0_5 l0_5.length c0_5) := (blk_cell BK216.out 5).trans rfl
                    have hcz43_6 : wr.cell? ⟨gb216, 6, none⟩ = some (.int .i64 a0_6) := (blk_cell BK216.out 6).trans rfl
                    have hfz43_0 := blk_frozen BK216.out 0
                    have hfz43_1 := blk_frozen BK216.out 1
                    have hfz43_2 := blk_frozen BK216.out 2
                    have hfz43_3 := blk_frozen BK216.out 3
                    have hfz43_4 := blk_frozen BK216.out 4
                    have hfz43_5 := blk_frozen BK216.out 5
                    have hfz43_6 := blk_frozen BK216.out 6
                    go_wp2_with (first | ((with_reducible refine gate_callee (f := 33) rfl ?_); refine goesL_ (some 54) rfl rfl Tryd.func33 (by kernel_rfl) rfl #[.int .i64 a0_6] rfl qa ?_; (with_reducible refine (impl_decimal.calls a0_6 t236 _ ?side1 A40.out).mono ?_); (case side1 => exact Glob.below HG.out (qw HB.out)); rintro e w44 ⟨rfl, hb⟩; refine ⟨_, rfl, ?_⟩; have n0_ := Aside0.mk (Kd.R_below (qr HO_4.out) hb); have n1_ := Aside0.mk (blk_below (g := gb216) (o := .cells #[.slice A0_0 l0_0.length c0_0, .slice A0_1 l0_1.length c0_1, .slice A0_2 l0_2.length c0_2, .slice A0_3 l0_3.length c0_3, .slice A0_4 l0_4.length c0_4, .slice A0_5 l0_5.length c0_5, .int .i64 a0_6] 33 (0, 0)) (qb BK216.out) hb); have n2_ := Aside0.mk (below_step (qw HB.out) hb); clear HO_4; clear BK216; clear HB; have HO_4 := n0_; have BK216 := n1_; have HB := n2_; clear n0_ n1_ n2_; (try clear hb); (try clear hb2); (try clear hk); (try clear hi)) | ((with_reducible refine gate_builtin (b := .append) (xs := #[.tmp 51, .tmp 56]) rfl ?_); at_builtin; refine Kd.R_append Kd.string (w0 := w) w.heap.size rfl (.tmp 51) (.tmp 56) 28 9 (.string ⟨#[]⟩) 16 rfl Tryd.underlying28 info9 rfl (by decide) (by omega) u4 x4_2 ((⟨#[119, 114, 111, 110, 103, 32]⟩ : ByteArray) ++ t236) [.string ((⟨#[119, 114, 111, 110, 103, 32]⟩ : ByteArray) ++ t236)] (fun _ => True) (fun _ => False) rfl rfl ?aP (fun _ hk => hk.elim) ?aF ?aO ?aB ?aS ?aL ?_; (case aP => exact rfl); (case aB => exact (qw HB.out)); (case aF => exact (fun _ _ => trivial)); (case aO => exact (qr HO_4.out)); (case aS => exact (below_size (qw HB.out))); (case aL => have := LMc42.out; omega); intro v238 w45 ho hb hg hat; rw [← Ny237.out] at ho; have n0_ := Aside0.mk (blk_grown (g := gb216) (o := .cells #[.slice A0_0 l0_0.length c0_0, .slice A0_1 l0_1.length c0_1, .slice A0_2 l0_2.length c0_2, .slice A0_3 l0_3.length c0_3, .slice A0_4 l0_4.length c0_4, .slice A0_5 l0_5.length c0_5, .int .i64 a0_6] 33 (0, 0)) (qb BK216.out) hg (Kd.R_ne HO_4.out BK216.out (by decide))); have n1_ := Aside0.mk (hb); have n2_ := Aside0.mk (ho); clear BK216; clear HB; clear HO_4; have BK216 := n0_; have HB := n1_; have HO239 := n2_; clear n0_ n1_ n2_; clear ho hb hg hat))
                    go_ret2
                    exact ⟨_, qe, qr HO239.out, qw HB.out⟩
                  · rw [if_neg c42] at H
                    exact absurd H (by simp)
                · rw [if_neg c41] at H
                  exact absurd H (by simp)
  · replace c3 := Bool.eq_false_iff.mpr c3
    subst c3
    have H1 : (some (([] : List ByteArray), 1)) = some (r1, r2) := by rw [if_neg (show ¬ (false = true) by decide)] at H; exact H
    clear H
    have H := H1
    clear H1
    simp only [Option.some.injEq, Prod.mk.injEq] at H
    obtain ⟨rfl, rfl⟩ := H
    go_enter Tryd.func9, Tryd.ntmps9
    go_wp2_with (first | ((with_reducible refine gate_dst (N := 1) rfl ?_); refine box_event ?hg (N := 1) ?hd (cs := #[.slice A0_0 l0_0.length c0_0, .slice A0_1 l0_1.length c0_1, .slice A0_2 l0_2.length c0_2, .slice A0_3 l0_3.length c0_3, .slice A0_4 l0_4.length c0_4, .slice A0_5 l0_5.length c0_5, .int .i64 a0_6]) (t := 33) ?hr ?_; (case hd => rfl); (case hg => rfl); (case hr => first | (go_simp; done) | (go_simp; rfl)); intro gb216 hg w46 hbox hb; have n0_ := Aside0.mk (below_step (qw HB.out) hb); have n1_ := Aside0.mk (hbox); have n2_ := Aside0.mk ((by rw [hg]; exact (below_size (qw HB.out)) : w.heap.size ≤ gb216)); have n3_ := Aside0.mk ((by rw [hg]; exact (below_size (qw HB.out)) : w.heap.size ≤ gb216)); clear HB; have HB := n0_; have BK216 := n1_; have GW216 := n2_; have GE216 := n3_; clear n0_ n1_ n2_ n3_; clear hb hbox hg; have hcz47_0 : w46.cell? ⟨gb216, 0, none⟩ = some (.slice A0_0 l0_0.length c0_0) := (blk_cell BK216.out 0).trans rfl; have hcz47_1 : w46.cell? ⟨gb216, 1, none⟩ = some (.slice A0_1 l0_1.length c0_1) := (blk_cell BK216.out 1).trans rfl; have hcz47_2 : w46.cell? ⟨gb216, 2, none⟩ = some (.slice A0_2 l0_2.length c0_2) := (blk_cell BK216.out 2).trans rfl; have hcz47_3 : w46.cell? ⟨gb216, 3, none⟩ = some (.slice A0_3 l0_3.length c0_3) := (blk_cell BK216.out 3).trans rfl; have hcz47_4 : w46.cell? ⟨gb216, 4, none⟩ = some (.slice A0_4 l0_4.length c0_4) := (blk_cell BK216.out 4).trans rfl; have hcz47_5 : w46.cell? ⟨gb216, 5, none⟩ = some (.slice A0_5 l0_5.length c0_5) := (blk_cell BK216.out 5).trans rfl; have hcz47_6 : w46.cell? ⟨gb216, 6, none⟩ = some (.int .i64 a0_6) := (blk_cell BK216.out 6).trans rfl; have hfz47_0 := blk_frozen BK216.out 0; have hfz47_1 := blk_frozen BK216.out 1; have hfz47_2 := blk_frozen BK216.out 2; have hfz47_3 := blk_frozen BK216.out 3; have hfz47_4 := blk_frozen BK216.out 4; have hfz47_5 := blk_frozen BK216.out 5; have hfz47_6 := blk_frozen BK216.out 6) | ((with_reducible refine gate_callee (f := 31) rfl ?_); refine goesL_ (some 10) rfl rfl Tryd.func31 (by kernel_rfl) rfl #[.agg #[.slice A0_0 l0_0.length c0_0, .slice A0_1 l0_1.length c0_1, .slice A0_2 l0_2.length c0_2, .slice A0_3 l0_3.length c0_3, .slice A0_4 l0_4.length c0_4, .slice A0_5 l0_5.length c0_5, .int .i64 a0_6]] rfl qa ?_; (with_reducible refine (impl_DataOK.calls k _ _ l0_0 _ _ l0_1 _ _ l0_2 _ _ l0_3 _ _ l0_4 _ _ l0_5 a0_6 false _ ?side1 ?side2 ?side3 ?side4 ?side5 ?side6 ?side7 ?side8 ?side9 ?side10 ?side11 ?side12 A2.out).mono ?_); (case side1 => repeat (first | exact (Kd.C_below HR0_0.out HB.out) | (with_reducible refine Kd.C_alloc ?_ _) | (with_reducible refine Kd.C_drewN ?_ _) | (with_reducible refine Kd.C_drew ?_))); (case side2 => exact HC0_0.out); (case side3 => repeat (first | exact (Kd.C_below HR0_1.out HB.out) | (with_reducible refine Kd.C_alloc ?_ _) | (with_reducible refine Kd.C_drewN ?_ _) | (with_reducible refine Kd.C_drew ?_))); (case side4 => exact HC0_1.out); (case side5 => repeat (first | exact (Kd.C_below HR0_2.out HB.out) | (with_reducible refine Kd.C_alloc ?_ _) | (with_reducible refine Kd.C_drewN ?_ _) | (with_reducible refine Kd.C_drew ?_))); (case side6 => exact HC0_2.out); (case side7 => repeat (first | exact (Kd.C_below HR0_3.out HB.out) | (with_reducible refine Kd.C_alloc ?_ _) | (with_reducible refine Kd.C_drewN ?_ _) | (with_reducible refine Kd.C_drew ?_))); (case side8 => exact HC0_3.out); (case side9 => repeat (first | exact (Kd.C_below HR0_4.out HB.out) | (with_reducible refine Kd.C_alloc ?_ _) | (with_reducible refine Kd.C_drewN ?_ _) | (with_reducible refine Kd.C_drew ?_))); (case side10 => exact HC0_4.out); (case side11 => repeat (first | exact (Kd.C_below HR0_5.out HB.out) | (with_reducible refine Kd.C_alloc ?_ _) | (with_reducible refine Kd.C_drewN ?_ _) | (with_reducible refine Kd.C_drew ?_))); (case side12 => exact HC0_5.out); rintro e w48 ⟨rfl, hb⟩; refine ⟨_, rfl, ?_⟩; have n0_ := Aside0.mk (blk_below (g := gb216) (o := .cells #[.slice A0_0 l0_0.length c0_0, .slice A0_1 l0_1.length c0_1, .slice A0_2 l0_2.length c0_2, .slice A0_3 l0_3.length c0_3, .slice A0_4 l0_4.length c0_4, .slice A0_5 l0_5.length c0_5, .int .i64 a0_6] 33 (0, 0)) (qb BK216.out) hb); have n1_ := Aside0.mk (below_step (qw HB.out) hb); clear BK216; clear HB; have BK216 := n0_; have HB := n1_; clear n0_ n1_; (try clear hb); (try clear hb2); (try clear hk); (try clear hi)))
    go_ret2
    exact ⟨_, qe, by first | exact Kd.R_nil _ _ _ _ _ | exact Kd.N_nil _ _ _ _ _ | exact Kd.V_nil _ _ _ _ _ | exact Kd.Q_nil _ _ _ _ _ | exact Kd.S_nil _ _ _ _ _, qw HB.out⟩

end Go.Proofs.YtppfcmkadcoboaaDoor.G
