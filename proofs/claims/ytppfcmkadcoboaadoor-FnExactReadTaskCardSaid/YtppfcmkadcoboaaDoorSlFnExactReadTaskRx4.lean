-- by gprint.py (a program of this session's own), over the kit's print.py; Lean checks it
import Derived.Test.YtppfcmkadcoboaaDoorSlFnExactReadTaskRx0
import Derived.Test.YtppfcmkadcoboaaDoorSlFnExactReadTaskRx1
import Derived.Test.YtppfcmkadcoboaaDoorSlFnExactReadTaskRx2
import Derived.Test.YtppfcmkadcoboaaDoorSlFnExactReadTaskRx3
namespace Go.Proofs.YtppfcmkadcoboaaDoor.R
open Go.RowKit Go.Proofs.YtppfcmkadcoboaaDoorW.PrintWords Go.Proofs.YtppfcmkadcoboaaDoorW.PrintLast Go.Proofs.YtppfcmkadcoboaaDoorW.PrintMore
attribute [local go_sem] max2_int min2_int max_two min_two max_three min_three max_four min_four   -- for this text's walks alone
set_option linter.unusedVariables false
set_option linter.unusedSimpArgs false

/-! ### spec_l13Read: function 42 -/
mutual
def spec_l13Read.j0 : Nat → List ByteArray → Bool → Int → Int → Int → Int → Int → Int → Option (Int × Int × Int × Int × Int × Int × Bool)
  | 0, _, _, _, _, _, _, _, _ => none
  | k + 1, x0, x31, x115000, x115001, x115002, x115003, x115004, x115005 => if x31 = true then (some (0, 0, 0, 0, 0, 0, false)) else (spec_l13Read.l0 k x0 (([] : List Int)) 1 x115000 x115001 x115002 x115003 x115004 x115005)
def spec_l13Read.l0 : Nat → List ByteArray → List Int → Int → Int → Int → Int → Int → Int → Int → Option (Int × Int × Int × Int × Int × Int × Bool)
  | 0, _, _, _, _, _, _, _, _, _ => none
  | k + 1, x0, x5, x6, x115000, x115001, x115002, x115003, x115004, x115005 => if x6 < (x0.length : Int) then (if 0 ≤ x6 then ((spec_l00Number.f k (rdOf ByteArray.empty x0 x6)).bind fun bt119 => (if bt119.2 = true then (if x5.length < 17592186044416 then (spec_l13Read.l0 k x0 (x5 ++ [bt119.1]) (wrap64 (x6 + 1)) x115000 x115001 x115002 x115003 x115004 x115005) else (none)) else (some (0, 0, 0, 0, 0, 0, false)))) else (none)) else (if 0 < (x5.length : Int) then (if 1 < (x5.length : Int) then (if 0 ≤ (wrap64 ((x5.length : Int) - 1)) then (if (wrap64 ((x5.length : Int) - 1)) < (x5.length : Int) then (if x115000 = 2 then (if 2 < (x5.length : Int) then (if 3 < (x5.length : Int) then ((spec_TaskOK.f k x115000 (rd x5 0) (rd x5 1) (rd x5 2) (rd x5 3) (rd x5 (wrap64 ((x5.length : Int) - 1)))).bind fun t129 => (some (x115000, rd x5 0, rd x5 1, rd x5 2, rd x5 3, rd x5 (wrap64 ((x5.length : Int) - 1)), t129))) else (none)) else (none)) else ((spec_TaskOK.f k x115000 (rd x5 0) (rd x5 1) x115003 x115004 (rd x5 (wrap64 ((x5.length : Int) - 1)))).bind fun t130 => (some (x115000, rd x5 0, rd x5 1, x115003, x115004, rd x5 (wrap64 ((x5.length : Int) - 1)), t130)))) else (none)) else (none)) else (none)) else (none))
end
def spec_l13Read.f (k : Nat) (l0 : List ByteArray) : Option (Int × Int × Int × Int × Int × Int × Bool) := if (l0.length : Int) = 0 then (some (0, 0, 0, 0, 0, 0, false)) else (if 0 < (l0.length : Int) then ((spec_l02Place.f k (([(⟨#[99, 121, 99, 108, 105, 99]⟩ : ByteArray), (⟨#[101, 118, 101, 110, 116]⟩ : ByteArray)] : List ByteArray)) (rdOf ByteArray.empty l0 0)).bind fun t113 => (if (wrap64 (t113 + 1)) = 0 then (spec_l13Read.j0 k l0 true (wrap64 (t113 + 1)) 0 0 0 1 0) else (spec_l13Read.j0 k l0 ((l0.length : Int) != (wrap64 (2 + (wrap64 (2 * (wrap64 (t113 + 1))))))) (wrap64 (t113 + 1)) 0 0 0 1 0))) else (none))
theorem spec_l13Read.mono_l : ∀ k, (∀ y0 y1 y2 y3 y4 y5 y6 y7, LeO (spec_l13Read.j0 k y0 y1 y2 y3 y4 y5 y6 y7) (spec_l13Read.j0 (k + 1) y0 y1 y2 y3 y4 y5 y6 y7)) ∧ (∀ y0 y1 y2 y3 y4 y5 y6 y7 y8, LeO (spec_l13Read.l0 k y0 y1 y2 y3 y4 y5 y6 y7 y8) (spec_l13Read.l0 (k + 1) y0 y1 y2 y3 y4 y5 y6 y7 y8))
  | 0 => ⟨fun _ _ _ _ _ _ _ _ r h => by simp [spec_l13Read.j0] at h, fun _ _ _ _ _ _ _ _ _ r h => by simp [spec_l13Read.l0] at h⟩
  | k + 1 => by
    obtain ⟨ih0, ih1⟩ := spec_l13Read.mono_l k
    refine ⟨?_, ?_⟩
    · intro y0 y1 y2 y3 y4 y5 y6 y7
      unfold spec_l13Read.j0
      repeat' first
      | (with_reducible exact ih0 _ _ _ _ _ _ _ _)
      | (with_reducible exact ih1 _ _ _ _ _ _ _ _ _)
      | (with_reducible exact spec_TaskOK.mono _ _ _ _ _ _ _)
      | (with_reducible exact spec_l00Number.mono _ _)
      | (with_reducible exact spec_l02Place.mono _ _ _)
      | (with_reducible exact LeO.refl _)
      | (with_reducible exact LeO.none _)
      | (with_reducible refine LeO.ite ?_ ?_)
      | (with_reducible refine LeO.bind ?_ (fun _ => ?_))
      | exact ih0 _ _ _ _ _ _ _ _
      | exact ih1 _ _ _ _ _ _ _ _ _
      | exact spec_TaskOK.mono _ _ _ _ _ _ _
      | exact spec_l00Number.mono _ _
      | exact spec_l02Place.mono _ _ _
      | exact LeO.none _
      | refine LeO.ite ?_ ?_
      | refine LeO.bind ?_ (fun _ => ?_)
    · intro y0 y1 y2 y3 y4 y5 y6 y7 y8
      unfold spec_l13Read.l0
      repeat' first
      | (with_reducible exact ih0 _ _ _ _ _ _ _ _)
      | (with_reducible exact ih1 _ _ _ _ _ _ _ _ _)
      | (with_reducible exact spec_TaskOK.mono _ _ _ _ _ _ _)
      | (with_reducible exact spec_l00Number.mono _ _)
      | (with_reducible exact spec_l02Place.mono _ _ _)
      | (with_reducible exact LeO.refl _)
      | (with_reducible exact LeO.none _)
      | (with_reducible refine LeO.ite ?_ ?_)
      | (with_reducible refine LeO.bind ?_ (fun _ => ?_))
      | exact ih0 _ _ _ _ _ _ _ _
      | exact ih1 _ _ _ _ _ _ _ _ _
      | exact spec_TaskOK.mono _ _ _ _ _ _ _
      | exact spec_l00Number.mono _ _
      | exact spec_l02Place.mono _ _ _
      | exact LeO.none _
      | refine LeO.ite ?_ ?_
      | refine LeO.bind ?_ (fun _ => ?_)
theorem spec_l13Read.mono : ∀ a0 k, LeO (spec_l13Read.f k a0) (spec_l13Read.f (k + 1) a0) := by
  intro a0 k
  obtain ⟨ih0, ih1⟩ := spec_l13Read.mono_l k
  unfold spec_l13Read.f
  repeat' first
      | (with_reducible exact ih0 _ _ _ _ _ _ _ _)
      | (with_reducible exact ih1 _ _ _ _ _ _ _ _ _)
      | (with_reducible exact spec_TaskOK.mono _ _ _ _ _ _ _)
      | (with_reducible exact spec_l00Number.mono _ _)
      | (with_reducible exact spec_l02Place.mono _ _ _)
      | (with_reducible exact LeO.refl _)
      | (with_reducible exact LeO.none _)
      | (with_reducible refine LeO.ite ?_ ?_)
      | (with_reducible refine LeO.bind ?_ (fun _ => ?_))
      | exact ih0 _ _ _ _ _ _ _ _
      | exact ih1 _ _ _ _ _ _ _ _ _
      | exact spec_TaskOK.mono _ _ _ _ _ _ _
      | exact spec_l00Number.mono _ _
      | exact spec_l02Place.mono _ _ _
      | exact LeO.none _
      | refine LeO.ite ?_ ?_
      | refine LeO.bind ?_ (fun _ => ?_)
theorem spec_l13Read.seen6 {w : World} {g : Nat} {a : Addr} {v : Value} {u0 u1 u2 u3 u4 u5 : Value} (h : w.cell? a = some v) (hg : a.block ≠ g) : (((((((w.setCell ⟨g, 0, none⟩ u0).setCell ⟨g, 1, none⟩ u1).setCell ⟨g, 2, none⟩ u2).setCell ⟨g, 3, none⟩ u3).setCell ⟨g, 4, none⟩ u4).setCell ⟨g, 5, none⟩ u5)).cell? a = some v :=
  ((cell_far (p := ⟨g, 5, none⟩) hg u5).trans ((cell_far (p := ⟨g, 4, none⟩) hg u4).trans ((cell_far (p := ⟨g, 3, none⟩) hg u3).trans ((cell_far (p := ⟨g, 2, none⟩) hg u2).trans ((cell_far (p := ⟨g, 1, none⟩) hg u1).trans ((cell_far (p := ⟨g, 0, none⟩) hg u0).trans h))))))
set_option maxHeartbeats 8000000 in
set_option maxRecDepth 100000 in
theorem spec_l13Read.calls (k : Nat) (A0 : Option Addr) (c0 : Nat) (l0 : List ByteArray) (r1 : Int) (r2 : Int) (r3 : Int) (r4 : Int) (r5 : Int) (r6 : Int) (r7 : Bool) (w : World) (hr0 : Kd.C Kd.string w A0 l0.length l0) (hc0 : l0.length ≤ c0) (h : spec_l13Read.f k l0 = some (r1, r2, r3, r4, r5, r6, r7)) :
    Calls Tryd.prog 42 #[.slice A0 l0.length c0] w fun e w' => e = .returned (.tuple #[.agg #[.int .i64 r1, .int .i64 r2, .int .i64 r3, .int .i64 r4, .int .i64 r5, .int .i64 r6], .bool r7]) ∧ Below w.heap.size w w' := by
  have hu41 := Tryd.underlying41
  have HR0 := Aside0.mk hr0
  have HC0 := Aside0.mk hc0
  clear hr0 hc0
  have HB := Aside0.mk (Below.refl w.heap.size w)
  have H : (if (l0.length : Int) = 0 then (some (0, 0, 0, 0, 0, 0, false)) else (if 0 < (l0.length : Int) then ((spec_l02Place.f k (([(⟨#[99, 121, 99, 108, 105, 99]⟩ : ByteArray), (⟨#[101, 118, 101, 110, 116]⟩ : ByteArray)] : List ByteArray)) (rdOf ByteArray.empty l0 0)).bind fun t113 => (if (wrap64 (t113 + 1)) = 0 then (spec_l13Read.j0 k l0 true (wrap64 (t113 + 1)) 0 0 0 1 0) else (spec_l13Read.j0 k l0 ((l0.length : Int) != (wrap64 (2 + (wrap64 (2 * (wrap64 (t113 + 1))))))) (wrap64 (t113 + 1)) 0 0 0 1 0))) else (none))) = some (r1, r2, r3, r4, r5, r6, r7) := h
  clear h
  by_cases c2 : (l0.length : Int) = 0
  · rw [if_pos c2] at H
    have c2b0 : ((l0.length : Int) == 0) = true := beq_iff_eq.mpr c2
    have c2b1 : ((l0.length : Int) != 0) = false := bne_eq_false_iff_eq.mpr c2
    clear c2
    simp only [Option.some.injEq, Prod.mk.injEq] at H
    obtain ⟨rfl, rfl, rfl, rfl, rfl, rfl, rfl⟩ := H
    go_enter Tryd.func42, Tryd.ntmps42
    go_wp2_with (first | ((with_reducible refine gate_dst (N := 2) rfl ?_); (try (refine gate_guard (by rfl) ?_; dsimp only)); refine box_event ?hg (N := 2) ?hd (cs := #[.int .i64 0, .int .i64 0, .int .i64 0, .int .i64 0, .int .i64 0, .int .i64 0]) (t := 41) ?hr ?_; (case hd => rfl); (case hg => rfl); (case hr => first | (go_simp; done) | (go_simp; rfl)); intro gb108 hg w3 hbox hb; have n0_ := Aside0.mk (below_step (qw HB.out) hb); have n1_ := Aside0.mk (hbox); have n2_ := Aside0.mk ((by rw [hg]; exact (below_size (qw HB.out)) : w.heap.size ≤ gb108)); have n3_ := Aside0.mk ((by rw [hg]; exact (below_size (qw HB.out)) : w.heap.size ≤ gb108)); clear HB; have HB := n0_; have BK108 := n1_; have GW108 := n2_; have GE108 := n3_; clear n0_ n1_ n2_ n3_; clear hb hbox hg; have hcz4_0 : w3.cell? ⟨gb108, 0, none⟩ = some (.int .i64 0) := (blk_cell BK108.out 0).trans rfl; have hcz4_1 : w3.cell? ⟨gb108, 1, none⟩ = some (.int .i64 0) := (blk_cell BK108.out 1).trans rfl; have hcz4_2 : w3.cell? ⟨gb108, 2, none⟩ = some (.int .i64 0) := (blk_cell BK108.out 2).trans rfl; have hcz4_3 : w3.cell? ⟨gb108, 3, none⟩ = some (.int .i64 0) := (blk_cell BK108.out 3).trans rfl; have hcz4_4 : w3.cell? ⟨gb108, 4, none⟩ = some (.int .i64 0) := (blk_cell BK108.out 4).trans rfl; have hcz4_5 : w3.cell? ⟨gb108, 5, none⟩ = some (.int .i64 0) := (blk_cell BK108.out 5).trans rfl; have hfz4_0 := blk_frozen BK108.out 0; have hfz4_1 := blk_frozen BK108.out 1; have hfz4_2 := blk_frozen BK108.out 2; have hfz4_3 := blk_frozen BK108.out 3; have hfz4_4 := blk_frozen BK108.out 4; have hfz4_5 := blk_frozen BK108.out 5))
    refine bodyPost_ret (results_ct rfl _ _ gb108 41 #[.int .i64 0, .int .i64 0, .int .i64 0, .int .i64 0, .int .i64 0, .int .i64 0] (0, 0) _ rfl (by (with_reducible repeat (first | refine blk_drewN ?_ _ | refine blk_drew ?_ | refine blk_alloc ?_ _)); refine blk_put (cs := #[.int .i64 0, .int .i64 0, .int .i64 0, .int .i64 0, .int .i64 0, .int .i64 0]) ?_ 5 _ rfl; (with_reducible repeat (first | refine blk_drewN ?_ _ | refine blk_drew ?_ | refine blk_alloc ?_ _)); refine blk_put (cs := #[.int .i64 0, .int .i64 0, .int .i64 0, .int .i64 0, .int .i64 0, .int .i64 0]) ?_ 4 _ rfl; (with_reducible repeat (first | refine blk_drewN ?_ _ | refine blk_drew ?_ | refine blk_alloc ?_ _)); refine blk_put (cs := #[.int .i64 0, .int .i64 0, .int .i64 0, .int .i64 0, .int .i64 0, .int .i64 0]) ?_ 3 _ rfl; (with_reducible repeat (first | refine blk_drewN ?_ _ | refine blk_drew ?_ | refine blk_alloc ?_ _)); refine blk_put (cs := #[.int .i64 0, .int .i64 0, .int .i64 0, .int .i64 0, .int .i64 0, .int .i64 0]) ?_ 2 _ rfl; (with_reducible repeat (first | refine blk_drewN ?_ _ | refine blk_drew ?_ | refine blk_alloc ?_ _)); refine blk_put (cs := #[.int .i64 0, .int .i64 0, .int .i64 0, .int .i64 0, .int .i64 0, .int .i64 0]) ?_ 1 _ rfl; (with_reducible repeat (first | refine blk_drewN ?_ _ | refine blk_drew ?_ | refine blk_alloc ?_ _)); refine blk_put (cs := #[.int .i64 0, .int .i64 0, .int .i64 0, .int .i64 0, .int .i64 0, .int .i64 0]) ?_ 0 _ rfl; (with_reducible repeat (first | refine blk_drewN ?_ _ | refine blk_drew ?_ | refine blk_alloc ?_ _)); exact BK108.out) Tryd.underlying41 rfl (by kernel_rfl)) rfl ?_
    exact ⟨qe, qw HB.out⟩
  · rw [if_neg c2] at H
    have c2b0 : ((l0.length : Int) == 0) = false := beq_eq_false_iff_ne.mpr c2
    have c2b1 : ((l0.length : Int) != 0) = true := bne_iff_ne.mpr c2
    have c2b2 : ¬ (l0 = []) := fun h_ => c2 (by rw [h_]; rfl)
    obtain ⟨y109, hy109⟩ : ∃ y_ : List ByteArray, y_ = (([(⟨#[99, 121, 99, 108, 105, 99]⟩ : ByteArray), (⟨#[101, 118, 101, 110, 116]⟩ : ByteArray)] : List ByteArray)) := ⟨_, rfl⟩
    replace H : (if 0 < (l0.length : Int) then ((spec_l02Place.f k y109 (rdOf ByteArray.empty l0 0)).bind fun t113 => (if (wrap64 (t113 + 1)) = 0 then (spec_l13Read.j0 k l0 true (wrap64 (t113 + 1)) 0 0 0 1 0) else (spec_l13Read.j0 k l0 ((l0.length : Int) != (wrap64 (2 + (wrap64 (2 * (wrap64 (t113 + 1))))))) (wrap64 (t113 + 1)) 0 0 0 1 0))) else (none)) = some (r1, r2, r3, r4, r5, r6, r7) := by first | (rw [hy109]; with_reducible exact H) | (have H2_ := (Option.bind_some _ _).symm.trans H; rw [hy109]; with_reducible exact H2_) | (have H2_ := (Option.bind_some _ _).symm.trans H; with_reducible exact H2_) | with_reducible exact H | (rw [hy109]; exact H) | exact H
    have Ny109 := Aside0.mk hy109
    clear hy109
    by_cases c5 : 0 < (l0.length : Int)
    · rw [if_pos c5] at H
      have c5b0 : decide (0 < (l0.length : Int)) = true := decide_eq_true c5
      have c5b1 : decide (0 < l0.length) = true := decide_eq_true (by omega)
      clear c5
      replace H := Option.bind_eq_some_iff.mp H
      obtain ⟨t113, A60, H⟩ := H
      replace H : (if (wrap64 (t113 + 1)) = 0 then (spec_l13Read.j0 k l0 true (wrap64 (t113 + 1)) 0 0 0 1 0) else (spec_l13Read.j0 k l0 ((l0.length : Int) != (wrap64 (2 + (wrap64 (2 * (wrap64 (t113 + 1))))))) (wrap64 (t113 + 1)) 0 0 0 1 0)) = some (r1, r2, r3, r4, r5, r6, r7) := H
      have A6 := Aside0.mk A60
      clear A60
      have HC7 := Aside0.mk H
      clear H
      go_enter Tryd.func42, Tryd.ntmps42
      go_upto_region 4 with (first | ((with_reducible refine gate_dst (N := 2) rfl ?_); (try (refine gate_guard (by rfl) ?_; dsimp only)); refine box_event ?hg (N := 2) ?hd (cs := #[.int .i64 0, .int .i64 0, .int .i64 0, .int .i64 0, .int .i64 0, .int .i64 0]) (t := 41) ?hr ?_; (case hd => rfl); (case hg => rfl); (case hr => first | (go_simp; done) | (go_simp; rfl)); intro gb108 hg w8 hbox hb; have n0_ := Aside0.mk (below_step (qw HB.out) hb); have n1_ := Aside0.mk (hbox); have n2_ := Aside0.mk ((by rw [hg]; exact (below_size (qw HB.out)) : w.heap.size ≤ gb108)); have n3_ := Aside0.mk ((by rw [hg]; exact (below_size (qw HB.out)) : w.heap.size ≤ gb108)); clear HB; have HB := n0_; have BK108 := n1_; have GW108 := n2_; have GE108 := n3_; clear n0_ n1_ n2_ n3_; clear hb hbox hg) | ((with_reducible refine gate_dst (N := 13) rfl ?_); (try (refine gate_guard (by rfl) ?_; dsimp only)); refine Kd.R_lit Kd.string _ 9 ?hg (N := 13) ?hd (xs := ([(⟨#[99, 121, 99, 108, 105, 99]⟩ : ByteArray), (⟨#[101, 118, 101, 110, 116]⟩ : ByteArray)] : List ByteArray)) (inner := [.string (⟨#[99, 121, 99, 108, 105, 99]⟩ : ByteArray), .string (⟨#[101, 118, 101, 110, 116]⟩ : ByteArray)]) (ok := fun _ => True) (okp := fun _ => True) ?hr ?hp (fun _ hk => hk) trivial (Below.refl _ _) (Nat.le_refl _) (by simp) ?_; (case hd => rfl); (case hg => rfl); (case hr => first | (go_simp; done) | (go_simp; rfl)); (case hp => exact (Reps.one (show Kd.M Kd.string _ _ _ (⟨#[99, 121, 99, 108, 105, 99]⟩ : ByteArray) [.string (⟨#[99, 121, 99, 108, 105, 99]⟩ : ByteArray)] from rfl) (Reps.one (show Kd.M Kd.string _ _ _ (⟨#[101, 118, 101, 110, 116]⟩ : ByteArray) [.string (⟨#[101, 118, 101, 110, 116]⟩ : ByteArray)] from rfl) (Reps.none _ _)))); intro v110 w9 ho10 hb hg_ hnew_; clear hg_ hnew_; (first | rw [← Ny109.out] at ho10 | (simp only [Int.reduceToNat] at ho10; rw [← Ny109.out] at ho10)); have n0_ := Aside0.mk (Kd.R_lower ho10 (below_size (qw HB.out))); have n1_ := Aside0.mk (blk_below (g := gb108) (o := .cells #[.int .i64 0, .int .i64 0, .int .i64 0, .int .i64 0, .int .i64 0, .int .i64 0] 41 (0, 0)) (qb BK108.out) hb); have n2_ := Aside0.mk (below_step (qw HB.out) hb); clear BK108; clear HB; have HO111 := n0_; have BK108 := n1_; have HB := n2_; clear n0_ n1_ n2_; clear hb ho10; have p112 : 0 ≤ (0 : Int) := (by omega); have q112 : 0 < (l0.length : Int) := of_decide_eq_true qs; obtain ⟨ad112, e112, hx112_0⟩ := Kd.at_string HR0.out 0 p112 q112; cases e112; have qi112 : (0 < l0.length) = True := eq_true (by omega); (try rw [show ((0 : Int)).toNat = 0 from rfl] at hx112_0); (try rw [Addr.add_zero'] at hx112_0); replace hx112_0 := (HB.out.cell (World.block_lt_of_cell? w _ hx112_0)).trans hx112_0; replace p112 := eq_true p112; replace q112 := eq_true q112; obtain ⟨Ao11, co11, eo11⟩ := Kd.R_slice HO111.out; subst eo11) | ((with_reducible refine gate_callee (f := 64) rfl ?_); refine goesL_ (some 17) rfl rfl Tryd.func64 (by kernel_rfl) rfl #[.slice Ao11 y109.length co11, .string (rdOf ByteArray.empty l0 0)] rfl qa ?_; (with_reducible refine (spec_l02Place.calls k _ _ y109 (rdOf ByteArray.empty l0 0) t113 _ ?side1 ?side2 A6.out).mono ?_); (case side1 => repeat (first | exact (Kd.R_reads' HO111.out).2.2 | (with_reducible refine Kd.C_alloc ?_ _) | (with_reducible refine Kd.C_drewN ?_ _) | (with_reducible refine Kd.C_drew ?_))); (case side2 => exact (Kd.R_reads' HO111.out).2.1); rintro e w' ⟨rfl, ⟨nd, rfl⟩⟩; refine ⟨_, rfl, ?_⟩; (try (rw [drewN_self w9]; generalize hq_ : World.drewN w9 _ = w9; have n0_ : Aside0 (Kd.R Kd.string 9 w9 w.heap.size (fun _ => True) (.slice Ao11 y109.length co11) y109) := ⟨by rw [← hq_]; exact (qr HO111.out)⟩; have n1_ : Aside0 (w9.heap[gb108]? = some (.cells #[.int .i64 0, .int .i64 0, .int .i64 0, .int .i64 0, .int .i64 0, .int .i64 0] 41 (0, 0))) := ⟨by rw [← hq_]; exact (qb BK108.out)⟩; have n2_ : Aside0 (Below w.heap.size w w9) := ⟨by rw [← hq_]; exact (qw HB.out)⟩; clear HO111 BK108 HB hq_; have HO111 := n0_; have BK108 := n1_; have HB := n2_; clear n0_ n1_ n2_))) | ((with_reducible refine gate_dst (N := 4) rfl ?_); (try (refine gate_guard (by rfl) ?_; dsimp only)); refine box_event ?hg (N := 4) ?hd (cs := #[.int .i64 0, .int .i64 0, .int .i64 0, .int .i64 0, .int .i64 0, .int .i64 0]) (t := 41) ?hr ?_; (case hd => rfl); (case hg => rfl); (case hr => first | (go_simp; done) | (go_simp; rfl)); intro gb114 hg w12 hbox hb; have n0_ := Aside0.mk (Kd.R_below (qr HO111.out) hb); have n1_ := Aside0.mk (blk_below (g := gb108) (o := .cells #[.int .i64 0, .int .i64 0, .int .i64 0, .int .i64 0, .int .i64 0, .int .i64 0] 41 (0, 0)) (qb BK108.out) hb); have n2_ := Aside0.mk (below_step (qw HB.out) hb); have n3_ := Aside0.mk (hbox); have n4_ := Aside0.mk ((by rw [hg]; exact (below_size (qw HB.out)) : w.heap.size ≤ gb114)); have n5_ := Aside0.mk ((by rw [hg]; exact (below_size (qw HB.out)) : w.heap.size ≤ gb114)); have n6_ := Aside0.mk ((by rw [hg]; exact Nat.ne_of_lt (blk_lt (g := gb108) (o := .cells #[.int .i64 0, .int .i64 0, .int .i64 0, .int .i64 0, .int .i64 0, .int .i64 0] 41 (0, 0)) (qb BK108.out)) : gb108 ≠ gb114)); have n7_ := Aside0.mk ((by rw [hg]; exact Nat.ne_of_gt (blk_lt (g := gb108) (o := .cells #[.int .i64 0, .int .i64 0, .int .i64 0, .int .i64 0, .int .i64 0, .int .i64 0] 41 (0, 0)) (qb BK108.out)) : gb114 ≠ gb108)); clear HO111; clear BK108; clear HB; have HO111 := n0_; have BK108 := n1_; have HB := n2_; have BK114 := n3_; have GW114 := n4_; have GE114 := n5_; have NB108_114 := n6_; have NB114_108 := n7_; clear n0_ n1_ n2_ n3_ n4_ n5_ n6_ n7_; clear hb hbox hg; have hnb13 := NB114_108.out; have hnc13 := NB108_114.out; have hcz14_0 : w12.cell? ⟨gb114, 0, none⟩ = some (.int .i64 0) := (blk_cell BK114.out 0).trans rfl; have hcz14_1 : w12.cell? ⟨gb114, 1, none⟩ = some (.int .i64 0) := (blk_cell BK114.out 1).trans rfl; have hcz14_2 : w12.cell? ⟨gb114, 2, none⟩ = some (.int .i64 0) := (blk_cell BK114.out 2).trans rfl; have hcz14_3 : w12.cell? ⟨gb114, 3, none⟩ = some (.int .i64 0) := (blk_cell BK114.out 3).trans rfl; have hcz14_4 : w12.cell? ⟨gb114, 4, none⟩ = some (.int .i64 0) := (blk_cell BK114.out 4).trans rfl; have hcz14_5 : w12.cell? ⟨gb114, 5, none⟩ = some (.int .i64 0) := (blk_cell BK114.out 5).trans rfl; have hfz14_0 := blk_frozen BK114.out 0; have hfz14_1 := blk_frozen BK114.out 1; have hfz14_2 := blk_frozen BK114.out 2; have hfz14_3 := blk_frozen BK114.out 3; have hfz14_4 := blk_frozen BK114.out 4; have hfz14_5 := blk_frozen BK114.out 5))
      (try simp only [Act.put, List.setIfInBounds_toArray, List.set_cons_zero, List.set_cons_succ])
      go_cut [31] (fun v31 wc => ∃ (kq : Nat) (x31_6 : Bool), v31 = .bool x31_6 ∧ Aside0 (spec_l13Read.j0 kq l0 x31_6 (wrap64 (t113 + 1)) 0 0 0 1 0 = some (r1, r2, r3, r4, r5, r6, r7)) ∧ Aside0 (kq ≤ k) ∧ Aside0 (wc.heap[gb108]? = some (.cells #[.int .i64 0, .int .i64 0, .int .i64 0, .int .i64 0, .int .i64 0, .int .i64 0] 41 (0, 0))) ∧ Aside0 (wc.heap[gb114]? = some (.cells #[.int .i64 (wrap64 (t113 + 1)), .int .i64 0, .int .i64 0, .int .i64 0, .int .i64 1, .int .i64 0] 41 (0, 0))) ∧ Aside0 (Below w.heap.size w wc))
      case first =>
        have H := HC7.out
        clear HC7
        by_cases c15 : (wrap64 (t113 + 1)) = 0
        · rw [if_pos c15] at H
          have c15b0 : ((wrap64 (t113 + 1)) == 0) = true := beq_iff_eq.mpr c15
          have c15b1 : ((wrap64 (t113 + 1)) != 0) = false := bne_eq_false_iff_eq.mpr c15
          clear c15
          (first | rw [c15b0] | (simp only [i64_w, i32_w]; rw [c15b0]) | rw [c15x0] | (simp only [i64_w, i32_w]; rw [c15x0]) | skip)
          have H' := Aside0.mk H
          clear H
          have hnb16 := NB114_108.out
          have hnc16 := NB108_114.out
          have hcz17_0 : w12.cell? ⟨gb114, 0, none⟩ = some (.int .i64 0) := (blk_cell BK114.out 0).trans rfl
          have hcz17_1 : w12.cell? ⟨gb114, 1, none⟩ = some (.int .i64 0) := (blk_cell BK114.out 1).trans rfl
          have hcz17_2 : w12.cell? ⟨gb114, 2, none⟩ = some (.int .i64 0) := (blk_cell BK114.out 2).trans rfl
          have hcz17_3 : w12.cell? ⟨gb114, 3, none⟩ = some (.int .i64 0) := (blk_cell BK114.out 3).trans rfl
          have hcz17_4 : w12.cell? ⟨gb114, 4, none⟩ = some (.int .i64 0) := (blk_cell BK114.out 4).trans rfl
          have hcz17_5 : w12.cell? ⟨gb114, 5, none⟩ = some (.int .i64 0) := (blk_cell BK114.out 5).trans rfl
          have hfz17_0 := blk_frozen BK114.out 0
          have hfz17_1 := blk_frozen BK114.out 1
          have hfz17_2 := blk_frozen BK114.out 2
          have hfz17_3 := blk_frozen BK114.out 3
          have hfz17_4 := blk_frozen BK114.out 4
          have hfz17_5 := blk_frozen BK114.out 5
          go_wp2
          go_meet
          case rel => exact ⟨_, (true), (by first | rfl | (simp; done) | (simp [*]; done)), H', ⟨by first | omega | exact Nat.le_refl _⟩, ⟨by (with_reducible repeat (first | refine blk_drewN ?_ _ | refine blk_drew ?_ | refine blk_alloc ?_ _)); refine blk_far ?_ NB108_114.out _; (with_reducible repeat (first | refine blk_drewN ?_ _ | refine blk_drew ?_ | refine blk_alloc ?_ _)); refine blk_far ?_ NB108_114.out _; (with_reducible repeat (first | refine blk_drewN ?_ _ | refine blk_drew ?_ | refine blk_alloc ?_ _)); refine blk_far ?_ NB108_114.out _; (with_reducible repeat (first | refine blk_drewN ?_ _ | refine blk_drew ?_ | refine blk_alloc ?_ _)); refine blk_far ?_ NB108_114.out _; (with_reducible repeat (first | refine blk_drewN ?_ _ | refine blk_drew ?_ | refine blk_alloc ?_ _)); refine blk_far ?_ NB108_114.out _; (with_reducible repeat (first | refine blk_drewN ?_ _ | refine blk_drew ?_ | refine blk_alloc ?_ _)); refine blk_far ?_ NB108_114.out _; (with_reducible repeat (first | refine blk_drewN ?_ _ | refine blk_drew ?_ | refine blk_alloc ?_ _)); exact BK108.out⟩, ⟨by (with_reducible repeat (first | refine blk_drewN ?_ _ | refine blk_drew ?_ | refine blk_alloc ?_ _)); refine blk_put (cs := #[.int .i64 (wrap64 (t113 + 1)), .int .i64 0, .int .i64 0, .int .i64 0, .int .i64 1, .int .i64 0]) ?_ 5 _ rfl; (with_reducible repeat (first | refine blk_drewN ?_ _ | refine blk_drew ?_ | refine blk_alloc ?_ _)); refine blk_put (cs := #[.int .i64 (wrap64 (t113 + 1)), .int .i64 0, .int .i64 0, .int .i64 0, .int .i64 0, .int .i64 0]) ?_ 4 _ rfl; (with_reducible repeat (first | refine blk_drewN ?_ _ | refine blk_drew ?_ | refine blk_alloc ?_ _)); refine blk_put (cs := #[.int .i64 (wrap64 (t113 + 1)), .int .i64 0, .int .i64 0, .int .i64 0, .int .i64 0, .int .i64 0]) ?_ 3 _ rfl; (with_reducible repeat (first | refine blk_drewN ?_ _ | refine blk_drew ?_ | refine blk_alloc ?_ _)); refine blk_put (cs := #[.int .i64 (wrap64 (t113 + 1)), .int .i64 0, .int .i64 0, .int .i64 0, .int .i64 0, .int .i64 0]) ?_ 2 _ rfl; (with_reducible repeat (first | refine blk_drewN ?_ _ | refine blk_drew ?_ | refine blk_alloc ?_ _)); refine blk_put (cs := #[.int .i64 (wrap64 (t113 + 1)), .int .i64 0, .int .i64 0, .int .i64 0, .int .i64 0, .int .i64 0]) ?_ 1 _ rfl; (with_reducible repeat (first | refine blk_drewN ?_ _ | refine blk_drew ?_ | refine blk_alloc ?_ _)); refine blk_put (cs := #[.int .i64 0, .int .i64 0, .int .i64 0, .int .i64 0, .int .i64 0, .int .i64 0]) ?_ 0 _ rfl; (with_reducible repeat (first | refine blk_drewN ?_ _ | refine blk_drew ?_ | refine blk_alloc ?_ _)); exact BK114.out⟩, ⟨qw HB.out⟩⟩
        · rw [if_neg c15] at H
          have c15b0 : ((wrap64 (t113 + 1)) == 0) = false := beq_eq_false_iff_ne.mpr c15
          have c15b1 : ((wrap64 (t113 + 1)) != 0) = true := bne_iff_ne.mpr c15
          (first | rw [c15b0] | (simp only [i64_w, i32_w]; rw [c15b0]) | rw [c15x0] | (simp only [i64_w, i32_w]; rw [c15x0]) | skip)
          have H' := Aside0.mk H
          clear H
          have hnb18 := NB114_108.out
          have hnc18 := NB108_114.out
          have hcz19_0 : w12.cell? ⟨gb114, 0, none⟩ = some (.int .i64 0) := (blk_cell BK114.out 0).trans rfl
          have hcz19_1 : w12.cell? ⟨gb114, 1, none⟩ = some (.int .i64 0) := (blk_cell BK114.out 1).trans rfl
          have hcz19_2 : w12.cell? ⟨gb114, 2, none⟩ = some (.int .i64 0) := (blk_cell BK114.out 2).trans rfl
          have hcz19_3 : w12.cell? ⟨gb114, 3, none⟩ = some (.int .i64 0) := (blk_cell BK114.out 3).trans rfl
          have hcz19_4 : w12.cell? ⟨gb114, 4, none⟩ = some (.int .i64 0) := (blk_cell BK114.out 4).trans rfl
          have hcz19_5 : w12.cell? ⟨gb114, 5, none⟩ = some (.int .i64 0) := (blk_cell BK114.out 5).trans rfl
          have hfz19_0 := blk_frozen BK114.out 0
          have hfz19_1 := blk_frozen BK114.out 1
          have hfz19_2 := blk_frozen BK114.out 2
          have hfz19_3 := blk_frozen BK114.out 3
          have hfz19_4 := blk_frozen BK114.out 4
          have hfz19_5 := blk_frozen BK114.out 5
          go_wp2
          go_meet
          case rel => exact ⟨_, (((l0.length : Int) != (wrap64 (2 + (wrap64 (2 * (wrap64 (t113 + 1)))))))), (by first | rfl | (simp; done) | (simp [*]; done)), H', ⟨by first | omega | exact Nat.le_refl _⟩, ⟨by (with_reducible repeat (first | refine blk_drewN ?_ _ | refine blk_drew ?_ | refine blk_alloc ?_ _)); refine blk_far ?_ NB108_114.out _; (with_reducible repeat (first | refine blk_drewN ?_ _ | refine blk_drew ?_ | refine blk_alloc ?_ _)); refine blk_far ?_ NB108_114.out _; (with_reducible repeat (first | refine blk_drewN ?_ _ | refine blk_drew ?_ | refine blk_alloc ?_ _)); refine blk_far ?_ NB108_114.out _; (with_reducible repeat (first | refine blk_drewN ?_ _ | refine blk_drew ?_ | refine blk_alloc ?_ _)); refine blk_far ?_ NB108_114.out _; (with_reducible repeat (first | refine blk_drewN ?_ _ | refine blk_drew ?_ | refine blk_alloc ?_ _)); refine blk_far ?_ NB108_114.out _; (with_reducible repeat (first | refine blk_drewN ?_ _ | refine blk_drew ?_ | refine blk_alloc ?_ _)); refine blk_far ?_ NB108_114.out _; (with_reducible repeat (first | refine blk_drewN ?_ _ | refine blk_drew ?_ | refine blk_alloc ?_ _)); exact BK108.out⟩, ⟨by (with_reducible repeat (first | refine blk_drewN ?_ _ | refine blk_drew ?_ | refine blk_alloc ?_ _)); refine blk_put (cs := #[.int .i64 (wrap64 (t113 + 1)), .int .i64 0, .int .i64 0, .int .i64 0, .int .i64 1, .int .i64 0]) ?_ 5 _ rfl; (with_reducible repeat (first | refine blk_drewN ?_ _ | refine blk_drew ?_ | refine blk_alloc ?_ _)); refine blk_put (cs := #[.int .i64 (wrap64 (t113 + 1)), .int .i64 0, .int .i64 0, .int .i64 0, .int .i64 0, .int .i64 0]) ?_ 4 _ rfl; (with_reducible repeat (first | refine blk_drewN ?_ _ | refine blk_drew ?_ | refine blk_alloc ?_ _)); refine blk_put (cs := #[.int .i64 (wrap64 (t113 + 1)), .int .i64 0, .int .i64 0, .int .i64 0, .int .i64 0, .int .i64 0]) ?_ 3 _ rfl; (with_reducible repeat (first | refine blk_drewN ?_ _ | refine blk_drew ?_ | refine blk_alloc ?_ _)); refine blk_put (cs := #[.int .i64 (wrap64 (t113 + 1)), .int .i64 0, .int .i64 0, .int .i64 0, .int .i64 0, .int .i64 0]) ?_ 2 _ rfl; (with_reducible repeat (first | refine blk_drewN ?_ _ | refine blk_drew ?_ | refine blk_alloc ?_ _)); refine blk_put (cs := #[.int .i64 (wrap64 (t113 + 1)), .int .i64 0, .int .i64 0, .int .i64 0, .int .i64 0, .int .i64 0]) ?_ 1 _ rfl; (with_reducible repeat (first | refine blk_drewN ?_ _ | refine blk_drew ?_ | refine blk_alloc ?_ _)); refine blk_put (cs := #[.int .i64 0, .int .i64 0, .int .i64 0, .int .i64 0, .int .i64 0, .int .i64 0]) ?_ 0 _ rfl; (with_reducible repeat (first | refine blk_drewN ?_ _ | refine blk_drew ?_ | refine blk_alloc ?_ _)); exact BK114.out⟩, ⟨qw HB.out⟩⟩
      case rest =>
        clear HC7
        try clear c1
        try clear p1
        try clear q1
        try clear hx1
        try clear qi1
        try clear c2
        try clear c2b0
        try clear c2b1
        try clear c2b2
        try clear p2
        try clear c4
        try clear c5
        try clear c5b0
        try clear c5b1
        try clear c6
        try clear p6
        try clear p11
        try clear q11
        try clear hx11
        try clear qi11
        try clear c13
        try clear c15
        try clear c15b0
        try clear c15b1
        try clear c16
        try clear c18
        try clear hcz14_0
        try clear hcz14_1
        try clear hcz14_2
        try clear hcz14_3
        try clear hcz14_4
        try clear hcz14_5
        try clear hcz17_0
        try clear hcz17_1
        try clear hcz17_2
        try clear hcz17_3
        try clear hcz17_4
        try clear hcz17_5
        try clear hcz19_0
        try clear hcz19_1
        try clear hcz19_2
        try clear hcz19_3
        try clear hcz19_4
        try clear hcz19_5
        try clear hcz4_0
        try clear hcz4_1
        try clear hcz4_2
        try clear hcz4_3
        try clear hcz4_4
        try clear hcz4_5
        try clear hfz14_0
        try clear hfz14_1
        try clear hfz14_2
        try clear hfz14_3
        try clear hfz14_4
        try clear hfz14_5
        try clear hfz17_0
        try clear hfz17_1
        try clear hfz17_2
        try clear hfz17_3
        try clear hfz17_4
        try clear hfz17_5
        try clear hfz19_0
        try clear hfz19_1
        try clear hfz19_2
        try clear hfz19_3
        try clear hfz19_4
        try clear hfz19_5
        try clear hfz4_0
        try clear hfz4_1
        try clear hfz4_2
        try clear hfz4_3
        try clear hfz4_4
        try clear hfz4_5
        try clear hx112_0
        try clear p112
        try clear q112
        obtain ⟨kq, x31_6, rfl, HA, HJ6, BK108, BK114, HB⟩ := hcut
        cases kq with
        | zero => exact absurd HA.out (by simp [spec_l13Read.j0])
        | succ kj6 =>
          have H := HA.out
          clear HA
          simp only [spec_l13Read.j0] at H
          by_cases c20 : x31_6 = true
          · subst c20
            have H1 : (some (0, 0, 0, 0, 0, 0, false)) = some (r1, r2, r3, r4, r5, r6, r7) := by rw [if_pos rfl] at H; exact H
            clear H
            have H := H1
            clear H1
            simp only [Option.some.injEq, Prod.mk.injEq] at H
            obtain ⟨rfl, rfl, rfl, rfl, rfl, rfl, rfl⟩ := H
            have hnb21 := NB108_114.out
            have hnc21 := NB114_108.out
            have hcz22_0 : wc.cell? ⟨gb108, 0, none⟩ = some (.int .i64 0) := (blk_cell BK108.out 0).trans rfl
            have hcz22_1 : wc.cell? ⟨gb108, 1, none⟩ = some (.int .i64 0) := (blk_cell BK108.out 1).trans rfl
            have hcz22_2 : wc.cell? ⟨gb108, 2, none⟩ = some (.int .i64 0) := (blk_cell BK108.out 2).trans rfl
            have hcz22_3 : wc.cell? ⟨gb108, 3, none⟩ = some (.int .i64 0) := (blk_cell BK108.out 3).trans rfl
            have hcz22_4 : wc.cell? ⟨gb108, 4, none⟩ = some (.int .i64 0) := (blk_cell BK108.out 4).trans rfl
            have hcz22_5 : wc.cell? ⟨gb108, 5, none⟩ = some (.int .i64 0) := (blk_cell BK108.out 5).trans rfl
            have hfz22_0 := blk_frozen BK108.out 0
            have hfz22_1 := blk_frozen BK108.out 1
            have hfz22_2 := blk_frozen BK108.out 2
            have hfz22_3 := blk_frozen BK108.out 3
            have hfz22_4 := blk_frozen BK108.out 4
            have hfz22_5 := blk_frozen BK108.out 5
            go_wp2
            refine bodyPost_ret (results_ct rfl _ _ gb108 41 #[.int .i64 0, .int .i64 0, .int .i64 0, .int .i64 0, .int .i64 0, .int .i64 0] (0, 0) _ rfl (by (with_reducible repeat (first | refine blk_drewN ?_ _ | refine blk_drew ?_ | refine blk_alloc ?_ _)); refine blk_put (cs := #[.int .i64 0, .int .i64 0, .int .i64 0, .int .i64 0, .int .i64 0, .int .i64 0]) ?_ 5 _ rfl; (with_reducible repeat (first | refine blk_drewN ?_ _ | refine blk_drew ?_ | refine blk_alloc ?_ _)); refine blk_put (cs := #[.int .i64 0, .int .i64 0, .int .i64 0, .int .i64 0, .int .i64 0, .int .i64 0]) ?_ 4 _ rfl; (with_reducible repeat (first | refine blk_drewN ?_ _ | refine blk_drew ?_ | refine blk_alloc ?_ _)); refine blk_put (cs := #[.int .i64 0, .int .i64 0, .int .i64 0, .int .i64 0, .int .i64 0, .int .i64 0]) ?_ 3 _ rfl; (with_reducible repeat (first | refine blk_drewN ?_ _ | refine blk_drew ?_ | refine blk_alloc ?_ _)); refine blk_put (cs := #[.int .i64 0, .int .i64 0, .int .i64 0, .int .i64 0, .int .i64 0, .int .i64 0]) ?_ 2 _ rfl; (with_reducible repeat (first | refine blk_drewN ?_ _ | refine blk_drew ?_ | refine blk_alloc ?_ _)); refine blk_put (cs := #[.int .i64 0, .int .i64 0, .int .i64 0, .int .i64 0, .int .i64 0, .int .i64 0]) ?_ 1 _ rfl; (with_reducible repeat (first | refine blk_drewN ?_ _ | refine blk_drew ?_ | refine blk_alloc ?_ _)); refine blk_put (cs := #[.int .i64 0, .int .i64 0, .int .i64 0, .int .i64 0, .int .i64 0, .int .i64 0]) ?_ 0 _ rfl; (with_reducible repeat (first | refine blk_drewN ?_ _ | refine blk_drew ?_ | refine blk_alloc ?_ _)); exact BK108.out) Tryd.underlying41 rfl (by kernel_rfl)) rfl ?_
            exact ⟨qe, qw HB.out⟩
          · replace c20 := Bool.eq_false_iff.mpr c20
            subst c20
            have H1 : (spec_l13Read.l0 kj6 l0 (([] : List Int)) 1 (wrap64 (t113 + 1)) 0 0 0 1 0) = some (r1, r2, r3, r4, r5, r6, r7) := by rw [if_neg (show ¬ (false = true) by decide)] at H; exact H
            clear H
            have H := H1
            clear H1
            obtain ⟨y115, hy115⟩ : ∃ y_ : List Int, y_ = (([] : List Int)) := ⟨_, rfl⟩
            replace H : (spec_l13Read.l0 kj6 l0 y115 1 (wrap64 (t113 + 1)) 0 0 0 1 0) = some (r1, r2, r3, r4, r5, r6, r7) := by first | (rw [hy115]; with_reducible exact H) | (have H2_ := (Option.bind_some _ _).symm.trans H; rw [hy115]; with_reducible exact H2_) | (have H2_ := (Option.bind_some _ _).symm.trans H; with_reducible exact H2_) | with_reducible exact H | (rw [hy115]; exact H) | exact H
            have Ny115 := Aside0.mk hy115
            clear hy115
            have H' := Aside0.mk H
            clear H
            go_wp2_with (first | ((with_reducible refine gate_dst (N := 33) rfl ?_); (try (refine gate_guard (by rfl) ?_; dsimp only)); refine Kd.R_lit (Kd.int .i64) _ 3 ?hg (N := 33) ?hd (xs := ([] : List Int)) (inner := []) (ok := fun _ => True) (okp := fun _ => True) ?hr ?hp (fun _ hk => hk) trivial (Below.refl _ _) (Nat.le_refl _) (by simp) ?_; (case hd => rfl); (case hg => rfl); (case hr => first | (go_simp; done) | (go_simp; rfl)); (case hp => exact (Reps.none _ _)); intro v116 w23 ho24 hb hg_ hnew_; clear hg_ hnew_; (first | rw [← Ny115.out] at ho24 | (simp only [Int.reduceToNat] at ho24; rw [← Ny115.out] at ho24)); have n0_ := Aside0.mk (Kd.R_lower ho24 (below_size (qw HB.out))); have n1_ := Aside0.mk (blk_below (g := gb108) (o := .cells #[.int .i64 0, .int .i64 0, .int .i64 0, .int .i64 0, .int .i64 0, .int .i64 0] 41 (0, 0)) (qb BK108.out) hb); have n2_ := Aside0.mk (blk_below (g := gb114) (o := .cells #[.int .i64 (wrap64 (t113 + 1)), .int .i64 0, .int .i64 0, .int .i64 0, .int .i64 1, .int .i64 0] 41 (0, 0)) (qb BK114.out) hb); have n3_ := Aside0.mk (below_step (qw HB.out) hb); clear BK108; clear BK114; clear HB; have HO117 := n0_; have BK108 := n1_; have BK114 := n2_; have HB := n3_; clear n0_ n1_ n2_ n3_; clear hb ho24))
            go_loopg [5, 6] kj6 (fun kq v5 v6 w' => ∃ (x5_2 : List Int) (x6_2 : Int) (x109000_2 : Int) (x109001_2 : Int) (x109002_2 : Int) (x109003_2 : Int) (x109004_2 : Int) (x109005_2 : Int), v6 = .int .i64 x6_2 ∧ Aside0 (spec_l13Read.l0 kq l0 x5_2 x6_2 (wrap64 (t113 + 1)) 0 0 0 1 0 = some (r1, r2, r3, r4, r5, r6, r7)) ∧ Aside0 (kq ≤ kj6) ∧ Aside0 (Kd.R (Kd.int .i64) 3 w' w.heap.size (fun _ => True) v5 x5_2) ∧ Aside0 (w'.heap[gb108]? = some (.cells #[.int .i64 x109000_2, .int .i64 x109001_2, .int .i64 x109002_2, .int .i64 x109003_2, .int .i64 x109004_2, .int .i64 x109005_2] 41 (0, 0))) ∧ Aside0 (w'.heap[gb114]? = some (.cells #[.int .i64 (wrap64 (t113 + 1)), .int .i64 0, .int .i64 0, .int .i64 0, .int .i64 1, .int .i64 0] 41 (0, 0))) ∧ Aside0 (Below w.heap.size w w'))
            case atStart => exact ⟨(y115), (1), (0), (0), (0), (0), (0), (0), (by first | rfl | (simp; done) | (simp [*]; done)), H', ⟨Nat.le_refl _⟩, ⟨qr HO117.out⟩, ⟨qb BK108.out⟩, ⟨qb BK114.out⟩, ⟨qw HB.out⟩⟩
            case round =>
              clear H'
              try clear c1
              try clear p1
              try clear q1
              try clear hx1
              try clear qi1
              try clear c2
              try clear c2b0
              try clear c2b1
              try clear c2b2
              try clear p2
              try clear c4
              try clear c5
              try clear c5b0
              try clear c5b1
              try clear c6
              try clear p6
              try clear p11
              try clear q11
              try clear hx11
              try clear qi11
              try clear c13
              try clear c15
              try clear c15b0
              try clear c15b1
              try clear c16
              try clear c18
              try clear c20
              try clear c21
              try clear hcz14_0
              try clear hcz14_1
              try clear hcz14_2
              try clear hcz14_3
              try clear hcz14_4
              try clear hcz14_5
              try clear hcz17_0
              try clear hcz17_1
              try clear hcz17_2
              try clear hcz17_3
              try clear hcz17_4
              try clear hcz17_5
              try clear hcz19_0
              try clear hcz19_1
              try clear hcz19_2
              try clear hcz19_3
              try clear hcz19_4
              try clear hcz19_5
              try clear hcz22_0
              try clear hcz22_1
              try clear hcz22_2
              try clear hcz22_3
              try clear hcz22_4
              try clear hcz22_5
              try clear hcz4_0
              try clear hcz4_1
              try clear hcz4_2
              try clear hcz4_3
              try clear hcz4_4
              try clear hcz4_5
              try clear hfz14_0
              try clear hfz14_1
              try clear hfz14_2
              try clear hfz14_3
              try clear hfz14_4
              try clear hfz14_5
              try clear hfz17_0
              try clear hfz17_1
              try clear hfz17_2
              try clear hfz17_3
              try clear hfz17_4
              try clear hfz17_5
              try clear hfz19_0
              try clear hfz19_1
              try clear hfz19_2
              try clear hfz19_3
              try clear hfz19_4
              try clear hfz19_5
              try clear hfz22_0
              try clear hfz22_1
              try clear hfz22_2
              try clear hfz22_3
              try clear hfz22_4
              try clear hfz22_5
              try clear hfz4_0
              try clear hfz4_1
              try clear hfz4_2
              try clear hfz4_3
              try clear hfz4_4
              try clear hfz4_5
              try clear hx112_0
              try clear p1
              try clear p11
              try clear p112
              try clear p2
              try clear p6
              try clear q1
              try clear q11
              try clear q112
              obtain ⟨x5_2, x6_2, x109000_2, x109001_2, x109002_2, x109003_2, x109004_2, x109005_2, rfl, HA, HK2, HO_5, BK108, BK114, HB⟩ := hrel
              cases gk with
              | zero => exact absurd HA.out (by simp [spec_l13Read.l0])
              | succ k2 =>
                have H := HA.out
                clear HA
                simp only [spec_l13Read.l0] at H
                by_cases c25 : x6_2 < (l0.length : Int)
                · rw [if_pos c25] at H
                  have c25b0 : decide (x6_2 < (l0.length : Int)) = true := decide_eq_true c25
                  clear c25
                  by_cases c26 : 0 ≤ x6_2
                  · rw [if_pos c26] at H
                    have c26b0 : decide (0 ≤ x6_2) = true := decide_eq_true c26
                    clear c26
                    replace H := Option.bind_eq_some_iff.mp H
                    obtain ⟨⟨t119, t120⟩, A270, H⟩ := H
                    replace H : (if t120 = true then (if x5_2.length < 17592186044416 then (spec_l13Read.l0 k2 l0 (x5_2 ++ [t119]) (wrap64 (x6_2 + 1)) (wrap64 (t113 + 1)) 0 0 0 1 0) else (none)) else (some (0, 0, 0, 0, 0, 0, false))) = some (r1, r2, r3, r4, r5, r6, r7) := H
                    have A27 := Aside0.mk A270
                    clear A270
                    by_cases c28 : t120 = true
                    · subst c28
                      have H1 : (if x5_2.length < 17592186044416 then (spec_l13Read.l0 k2 l0 (x5_2 ++ [t119]) (wrap64 (x6_2 + 1)) (wrap64 (t113 + 1)) 0 0 0 1 0) else (none)) = some (r1, r2, r3, r4, r5, r6, r7) := by rw [if_pos rfl] at H; exact H
                      clear H
                      have H := H1
                      clear H1
                      by_cases c29 : x5_2.length < 17592186044416
                      · rw [if_pos c29] at H
                        have LMc29 := Aside0.mk c29
                        clear c29
                        obtain ⟨y121, hy121⟩ : ∃ y_ : List Int, y_ = (x5_2 ++ [t119]) := ⟨_, rfl⟩
                        replace H : (spec_l13Read.l0 k2 l0 y121 (wrap64 (x6_2 + 1)) (wrap64 (t113 + 1)) 0 0 0 1 0) = some (r1, r2, r3, r4, r5, r6, r7) := by first | (rw [hy121]; with_reducible exact H) | (have H2_ := (Option.bind_some _ _).symm.trans H; rw [hy121]; with_reducible exact H2_) | (have H2_ := (Option.bind_some _ _).symm.trans H; with_reducible exact H2_) | with_reducible exact H | (rw [hy121]; exact H) | exact H
                        have Ny121 := Aside0.mk hy121
                        clear hy121
                        have H' := Aside0.mk H
                        clear H
                        have p118 : 0 ≤ (x6_2 : Int) := of_decide_eq_true qs
                        have q118 : x6_2 < (l0.length : Int) := of_decide_eq_true qs
                        obtain ⟨ad118, e118, hx118_0⟩ := Kd.at_string HR0.out x6_2 p118 q118
                        obtain rfl : ad112 = ad118 := (by injection e118)
                        replace hx118_0 := (HB.out.cell (World.block_lt_of_cell? w _ hx118_0)).trans hx118_0
                        replace p118 := eq_true p118
                        replace q118 := eq_true q118
                        go_wp2_with (first | ((with_reducible refine gate_callee (f := 65) rfl ?_); refine goesL_ (some 45) rfl rfl Tryd.func65 (by kernel_rfl) rfl #[.string (rdOf ByteArray.empty l0 x6_2)] rfl qa ?_; (with_reducible refine (spec_l00Number.calls k2 (rdOf ByteArray.empty l0 x6_2) t119 true _ A27.out).mono ?_); rintro e w' ⟨rfl, ⟨nd, rfl⟩⟩; refine ⟨_, rfl, ?_⟩) | ((with_reducible refine gate_builtin (b := .append) (xs := #[.tmp 51, .tmp 53]) rfl ?_); (try (refine gate_guard (by rfl) ?_; dsimp only)); at_builtin; refine Kd.R_append (Kd.int .i64) (w0 := w) w.heap.size rfl (.tmp 51) (.tmp 53) 22 3 (.int .i64 0) 8 rfl Tryd.underlying22 info3 rfl (by decide) (by omega) u5 x5_2 t119 [.int .i64 t119] (fun _ => True) (fun _ => False) rfl rfl ?aP (fun _ hk => hk.elim) ?aF ?aO ?aB ?aS ?aL ?_; (case aP => exact rfl); (case aB => exact (qw HB.out)); (case aF => exact (fun _ _ => trivial)); (case aO => exact (qr HO_5.out)); (case aS => exact (below_size (qw HB.out))); (case aL => have := LMc29.out; omega); intro v122 w30 ho hb hg hat; rw [← Ny121.out] at ho; have n0_ := Aside0.mk (blk_grown (g := gb108) (o := .cells #[.int .i64 x109000_2, .int .i64 x109001_2, .int .i64 x109002_2, .int .i64 x109003_2, .int .i64 x109004_2, .int .i64 x109005_2] 41 (0, 0)) (qb BK108.out) hg (Kd.R_ne HO_5.out BK108.out (by decide))); have n1_ := Aside0.mk (blk_grown (g := gb114) (o := .cells #[.int .i64 (wrap64 (t113 + 1)), .int .i64 0, .int .i64 0, .int .i64 0, .int .i64 1, .int .i64 0] 41 (0, 0)) (qb BK114.out) hg (Kd.R_ne HO_5.out BK114.out (by decide))); have n2_ := Aside0.mk (hb); have n3_ := Aside0.mk (ho); clear BK108; clear BK114; clear HB; clear HO_5; have BK108 := n0_; have BK114 := n1_; have HB := n2_; have HO123 := n3_; clear n0_ n1_ n2_ n3_; clear ho hb hg hat))
                        go_roundg k2
                        case measure => have := HJ6.out; have := HK2.out; omega
                        case rel => exact ⟨(y121), (wrap64 (x6_2 + 1)), (x109000_2), (x109001_2), (x109002_2), (x109003_2), (x109004_2), (x109005_2), (by first | rfl | (simp; done) | (simp [*]; done)), H', ⟨by have := HJ6.out; have := HK2.out; omega⟩, ⟨qr HO123.out⟩, ⟨qb BK108.out⟩, ⟨qb BK114.out⟩, ⟨qw HB.out⟩⟩
                      · rw [if_neg c29] at H
                        exact absurd H (by simp)
                    · replace c28 := Bool.eq_false_iff.mpr c28
                      subst c28
                      have H1 : (some (0, 0, 0, 0, 0, 0, false)) = some (r1, r2, r3, r4, r5, r6, r7) := by rw [if_neg (show ¬ (false = true) by decide)] at H; exact H
                      clear H
                      have H := H1
                      clear H1
                      simp only [Option.some.injEq, Prod.mk.injEq] at H
                      obtain ⟨rfl, rfl, rfl, rfl, rfl, rfl, rfl⟩ := H
                      have p118 : 0 ≤ (x6_2 : Int) := of_decide_eq_true qs
                      have q118 : x6_2 < (l0.length : Int) := of_decide_eq_true qs
                      obtain ⟨ad118, e118, hx118_0⟩ := Kd.at_string HR0.out x6_2 p118 q118
                      obtain rfl : ad112 = ad118 := (by injection e118)
                      replace hx118_0 := (HB.out.cell (World.block_lt_of_cell? w _ hx118_0)).trans hx118_0
                      replace p118 := eq_true p118
                      replace q118 := eq_true q118
                      go_wp2_with (first | ((with_reducible refine gate_callee (f := 65) rfl ?_); refine goesL_ (some 45) rfl rfl Tryd.func65 (by kernel_rfl) rfl #[.string (rdOf ByteArray.empty l0 x6_2)] rfl qa ?_; (with_reducible refine (spec_l00Number.calls k2 (rdOf ByteArray.empty l0 x6_2) t119 false _ A27.out).mono ?_); rintro e w' ⟨rfl, ⟨nd, rfl⟩⟩; refine ⟨_, rfl, ?_⟩; (try (rw [drewN_self wr]; generalize hq_ : World.drewN wr _ = wr; have n0_ : Aside0 (Kd.R (Kd.int .i64) 3 wr w.heap.size (fun _ => True) u5 x5_2) := ⟨by rw [← hq_]; exact (qr HO_5.out)⟩; have n1_ : Aside0 (wr.heap[gb108]? = some (.cells #[.int .i64 x109000_2, .int .i64 x109001_2, .int .i64 x109002_2, .int .i64 x109003_2, .int .i64 x109004_2, .int .i64 x109005_2] 41 (0, 0))) := ⟨by rw [← hq_]; exact (qb BK108.out)⟩; have n2_ : Aside0 (wr.heap[gb114]? = some (.cells #[.int .i64 (wrap64 (t113 + 1)), .int .i64 0, .int .i64 0, .int .i64 0, .int .i64 1, .int .i64 0] 41 (0, 0))) := ⟨by rw [← hq_]; exact (qb BK114.out)⟩; have n3_ : Aside0 (Below w.heap.size w wr) := ⟨by rw [← hq_]; exact (qw HB.out)⟩; clear HO_5 BK108 BK114 HB hq_; have HO_5 := n0_; have BK108 := n1_; have BK114 := n2_; have HB := n3_; clear n0_ n1_ n2_ n3_)); have hnb31 := NB108_114.out; have hnc31 := NB114_108.out; have hcz32_0 : wr.cell? ⟨gb108, 0, none⟩ = some (.int .i64 x109000_2) := (blk_cell BK108.out 0).trans rfl; have hcz32_1 : wr.cell? ⟨gb108, 1, none⟩ = some (.int .i64 x109001_2) := (blk_cell BK108.out 1).trans rfl; have hcz32_2 : wr.cell? ⟨gb108, 2, none⟩ = some (.int .i64 x109002_2) := (blk_cell BK108.out 2).trans rfl; have hcz32_3 : wr.cell? ⟨gb108, 3, none⟩ = some (.int .i64 x109003_2) := (blk_cell BK108.out 3).trans rfl; have hcz32_4 : wr.cell? ⟨gb108, 4, none⟩ = some (.int .i64 x109004_2) := (blk_cell BK108.out 4).trans rfl; have hcz32_5 : wr.cell? ⟨gb108, 5, none⟩ = some (.int .i64 x109005_2) := (blk_cell BK108.out 5).trans rfl; have hfz32_0 := blk_frozen BK108.out 0; have hfz32_1 := blk_frozen BK108.out 1; have hfz32_2 := blk_frozen BK108.out 2; have hfz32_3 := blk_frozen BK108.out 3; have hfz32_4 := blk_frozen BK108.out 4; have hfz32_5 := blk_frozen BK108.out 5))
                      refine bodyPost_ret (results_ct rfl _ _ gb108 41 #[.int .i64 0, .int .i64 0, .int .i64 0, .int .i64 0, .int .i64 0, .int .i64 0] (0, 0) _ rfl (by (with_reducible repeat (first | refine blk_drewN ?_ _ | refine blk_drew ?_ | refine blk_alloc ?_ _)); refine blk_put (cs := #[.int .i64 0, .int .i64 0, .int .i64 0, .int .i64 0, .int .i64 0, .int .i64 x109005_2]) ?_ 5 _ rfl; (with_reducible repeat (first | refine blk_drewN ?_ _ | refine blk_drew ?_ | refine blk_alloc ?_ _)); refine blk_put (cs := #[.int .i64 0, .int .i64 0, .int .i64 0, .int .i64 0, .int .i64 x109004_2, .int .i64 x109005_2]) ?_ 4 _ rfl; (with_reducible repeat (first | refine blk_drewN ?_ _ | refine blk_drew ?_ | refine blk_alloc ?_ _)); refine blk_put (cs := #[.int .i64 0, .int .i64 0, .int .i64 0, .int .i64 x109003_2, .int .i64 x109004_2, .int .i64 x109005_2]) ?_ 3 _ rfl; (with_reducible repeat (first | refine blk_drewN ?_ _ | refine blk_drew ?_ | refine blk_alloc ?_ _)); refine blk_put (cs := #[.int .i64 0, .int .i64 0, .int .i64 x109002_2, .int .i64 x109003_2, .int .i64 x109004_2, .int .i64 x109005_2]) ?_ 2 _ rfl; (with_reducible repeat (first | refine blk_drewN ?_ _ | refine blk_drew ?_ | refine blk_alloc ?_ _)); refine blk_put (cs := #[.int .i64 0, .int .i64 x109001_2, .int .i64 x109002_2, .int .i64 x109003_2, .int .i64 x109004_2, .int .i64 x109005_2]) ?_ 1 _ rfl; (with_reducible repeat (first | refine blk_drewN ?_ _ | refine blk_drew ?_ | refine blk_alloc ?_ _)); refine blk_put (cs := #[.int .i64 x109000_2, .int .i64 x109001_2, .int .i64 x109002_2, .int .i64 x109003_2, .int .i64 x109004_2, .int .i64 x109005_2]) ?_ 0 _ rfl; (with_reducible repeat (first | refine blk_drewN ?_ _ | refine blk_drew ?_ | refine blk_alloc ?_ _)); exact BK108.out) Tryd.underlying41 rfl (by kernel_rfl)) rfl ?_
                      exact ⟨qe, qw HB.out⟩
                  · rw [if_neg c26] at H
                    exact absurd H (by simp)
                · rw [if_neg c25] at H
                  have c25b0 : decide (x6_2 < (l0.length : Int)) = false := decide_eq_false c25
                  clear c25
                  by_cases c33 : 0 < (x5_2.length : Int)
                  · rw [if_pos c33] at H
                    have c33b0 : decide (0 < (x5_2.length : Int)) = true := decide_eq_true c33
                    have c33b1 : decide (0 < x5_2.length) = true := decide_eq_true (by omega)
                    clear c33
                    by_cases c34 : 1 < (x5_2.length : Int)
                    · rw [if_pos c34] at H
                      have c34b0 : decide (1 < (x5_2.length : Int)) = true := decide_eq_true c34
                      have c34b1 : decide (1 < x5_2.length) = true := decide_eq_true (by omega)
                      clear c34
                      obtain ⟨ji35, hji35⟩ : ∃ j_ : Int, (wrap64 ((x5_2.length : Int) - 1)) = j_ := ⟨_, rfl⟩
                      replace H : (if 0 ≤ (ji35) then (if (ji35) < (x5_2.length : Int) then (if (wrap64 (t113 + 1)) = 2 then (if 2 < (x5_2.length : Int) then (if 3 < (x5_2.length : Int) then ((spec_TaskOK.f k2 (wrap64 (t113 + 1)) (rd x5_2 0) (rd x5_2 1) (rd x5_2 2) (rd x5_2 3) (rd x5_2 (ji35))).bind fun t129 => (some ((wrap64 (t113 + 1)), rd x5_2 0, rd x5_2 1, rd x5_2 2, rd x5_2 3, rd x5_2 (ji35), t129))) else (none)) else (none)) else ((spec_TaskOK.f k2 (wrap64 (t113 + 1)) (rd x5_2 0) (rd x5_2 1) 0 1 (rd x5_2 (ji35))).bind fun t130 => (some ((wrap64 (t113 + 1)), rd x5_2 0, rd x5_2 1, 0, 1, rd x5_2 (ji35), t130)))) else (none)) else (none)) = some (r1, r2, r3, r4, r5, r6, r7) := by first | (rw [hji35] at H; exact H) | (simp only [hji35] at H ⊢; exact H)
                      have hji35w : (IntKind.i64.wrap ((x5_2.length : Int) - 1)) = ji35 := (i64_w _).trans hji35
                      by_cases c36 : 0 ≤ (ji35)
                      · rw [if_pos c36] at H
                        have c36b0 : decide (0 ≤ (ji35)) = true := decide_eq_true c36
                        clear c36
                        by_cases c37 : (ji35) < (x5_2.length : Int)
                        · rw [if_pos c37] at H
                          have c37b0 : decide ((ji35) < (x5_2.length : Int)) = true := decide_eq_true c37
                          clear c37
                          by_cases c38 : (wrap64 (t113 + 1)) = 2
                          · rw [if_pos c38] at H
                            have c38b0 : ((wrap64 (t113 + 1)) == 2) = true := beq_iff_eq.mpr c38
                            have c38b1 : ((wrap64 (t113 + 1)) != 2) = false := bne_eq_false_iff_eq.mpr c38
                            clear c38
                            by_cases c39 : 2 < (x5_2.length : Int)
                            · rw [if_pos c39] at H
                              have c39b0 : decide (2 < (x5_2.length : Int)) = true := decide_eq_true c39
                              have c39b1 : decide (2 < x5_2.length) = true := decide_eq_true (by omega)
                              clear c39
                              by_cases c40 : 3 < (x5_2.length : Int)
                              · rw [if_pos c40] at H
                                have c40b0 : decide (3 < (x5_2.length : Int)) = true := decide_eq_true c40
                                have c40b1 : decide (3 < x5_2.length) = true := decide_eq_true (by omega)
                                clear c40
                                replace H := Option.bind_eq_some_iff.mp H
                                obtain ⟨t129, A410, H⟩ := H
                                replace H : (some ((wrap64 (t113 + 1)), rd x5_2 0, rd x5_2 1, rd x5_2 2, rd x5_2 3, rd x5_2 (ji35), t129)) = some (r1, r2, r3, r4, r5, r6, r7) := H
                                have A41 := Aside0.mk A410
                                clear A410
                                simp only [Option.some.injEq, Prod.mk.injEq] at H
                                obtain ⟨rfl, rfl, rfl, rfl, rfl, rfl, rfl⟩ := H
                                obtain ⟨Ao42, co42, eo42⟩ := Kd.R_slice HO_5.out
                                subst eo42
                                have p124 : 0 ≤ (0 : Int) := (by omega)
                                have q124 : 0 < (x5_2.length : Int) := of_decide_eq_true qs
                                obtain ⟨ad124, e124, hx124_0⟩ := Kd.at_int (Kd.R_reads' HO_5.out).2.2 0 p124 q124
                                cases e124
                                have qi124 : (0 < x5_2.length) = True := eq_true (by omega)
                                (try rw [show ((0 : Int)).toNat = 0 from rfl] at hx124_0)
                                (try rw [Addr.add_zero'] at hx124_0)
                                replace p124 := eq_true p124
                                replace q124 := eq_true q124
                                have hnb43 := NB114_108.out
                                have hnc43 := NB108_114.out
                                have hcz44_0 : wr.cell? ⟨gb114, 0, none⟩ = some (.int .i64 (wrap64 (t113 + 1))) := (blk_cell BK114.out 0).trans rfl
                                have hcz44_1 : wr.cell? ⟨gb114, 1, none⟩ = some (.int .i64 0) := (blk_cell BK114.out 1).trans rfl
                                have hcz44_2 : wr.cell? ⟨gb114, 2, none⟩ = some (.int .i64 0) := (blk_cell BK114.out 2).trans rfl
                                have hcz44_3 : wr.cell? ⟨gb114, 3, none⟩ = some (.int .i64 0) := (blk_cell BK114.out 3).trans rfl
                                have hcz44_4 : wr.cell? ⟨gb114, 4, none⟩ = some (.int .i64 1) := (blk_cell BK114.out 4).trans rfl
                                have hcz44_5 : wr.cell? ⟨gb114, 5, none⟩ = some (.int .i64 0) := (blk_cell BK114.out 5).trans rfl
                                have hfz44_0 := blk_frozen BK114.out 0
                                have hfz44_1 := blk_frozen BK114.out 1
                                have hfz44_2 := blk_frozen BK114.out 2
                                have hfz44_3 := blk_frozen BK114.out 3
                                have hfz44_4 := blk_frozen BK114.out 4
                                have hfz44_5 := blk_frozen BK114.out 5
                                have p125 : 0 ≤ (1 : Int) := (by omega)
                                have q125 : 1 < (x5_2.length : Int) := of_decide_eq_true qs
                                obtain ⟨ad125, e125, hx125_0⟩ := Kd.at_int (Kd.R_reads' HO_5.out).2.2 1 p125 q125
                                obtain rfl : ad124 = ad125 := (by injection e125)
                                (try simp only [show (1 : Int).toNat = 1 from rfl, Nat.reduceMul, Nat.reduceEqDiff, Go.Addr.add, ↓reduceIte] at hx125_0)
                                have qi125 : (1 < x5_2.length) = True := eq_true (by omega)
                                (try rw [show ((1 : Int)).toNat = 1 from rfl] at hx125_0)
                                have hn125_0 : ad124.block ≠ gb114 := Kd.own_blk (Kd.R_ne HO_5.out BK114.out (by decide))
                                replace hx125_0 := (cell_far (p := ⟨gb114, 1, none⟩) (by first | (rw [add_block]; exact hn125_0) | (show (Addr.add _ _).block ≠ _; rw [add_block]; exact hn125_0) | exact hn125_0) (.int .i64 (rd x5_2 0))).trans hx125_0
                                clear hn125_0
                                replace p125 := eq_true p125
                                replace q125 := eq_true q125
                                have p126 : 0 ≤ ((ji35) : Int) := of_decide_eq_true qs
                                have q126 : (ji35) < (x5_2.length : Int) := of_decide_eq_true qs
                                obtain ⟨ad126, e126, hx126_0⟩ := Kd.at_int (Kd.R_reads' HO_5.out).2.2 (ji35) p126 q126
                                obtain rfl : ad124 = ad126 := (by injection e126)
                                have hn126_0 : ad124.block ≠ gb114 := Kd.own_blk (Kd.R_ne HO_5.out BK114.out (by decide))
                                have hn126_1 : ad124.block ≠ gb114 := Kd.own_blk (Kd.R_ne HO_5.out BK114.out (by decide))
                                replace hx126_0 := (cell_far (p := ⟨gb114, 1, none⟩) (by first | (rw [add_block]; exact hn126_0) | (show (Addr.add _ _).block ≠ _; rw [add_block]; exact hn126_0) | exact hn126_0) (.int .i64 (rd x5_2 0))).trans hx126_0
                                replace hx126_0 := (cell_far (p := ⟨gb114, 2, none⟩) (by first | (rw [add_block]; exact hn126_1) | (show (Addr.add _ _).block ≠ _; rw [add_block]; exact hn126_1) | exact hn126_1) (.int .i64 (rd x5_2 1))).trans hx126_0
                                clear hn126_0
                                clear hn126_1
                                replace p126 := eq_true p126
                                replace q126 := eq_true q126
                                have p127 : 0 ≤ (2 : Int) := (by omega)
                                have q127 : 2 < (x5_2.length : Int) := of_decide_eq_true qs
                                obtain ⟨ad127, e127, hx127_0⟩ := Kd.at_int (Kd.R_reads' HO_5.out).2.2 2 p127 q127
                                obtain rfl : ad124 = ad127 := (by injection e127)
                                (try simp only [show (2 : Int).toNat = 2 from rfl, Nat.reduceMul, Nat.reduceEqDiff, Go.Addr.add, ↓reduceIte] at hx127_0)
                                have qi127 : (2 < x5_2.length) = True := eq_true (by omega)
                                (try rw [show ((2 : Int)).toNat = 2 from rfl] at hx127_0)
                                have hn127_0 : ad124.block ≠ gb114 := Kd.own_blk (Kd.R_ne HO_5.out BK114.out (by decide))
                                have hn127_1 : ad124.block ≠ gb114 := Kd.own_blk (Kd.R_ne HO_5.out BK114.out (by decide))
                                have hn127_2 : ad124.block ≠ gb114 := Kd.own_blk (Kd.R_ne HO_5.out BK114.out (by decide))
                                replace hx127_0 := (cell_far (p := ⟨gb114, 1, none⟩) (by first | (rw [add_block]; exact hn127_0) | (show (Addr.add _ _).block ≠ _; rw [add_block]; exact hn127_0) | exact hn127_0) (.int .i64 (rd x5_2 0))).trans hx127_0
                                replace hx127_0 := (cell_far (p := ⟨gb114, 2, none⟩) (by first | (rw [add_block]; exact hn127_1) | (show (Addr.add _ _).block ≠ _; rw [add_block]; exact hn127_1) | exact hn127_1) (.int .i64 (rd x5_2 1))).trans hx127_0
                                replace hx127_0 := (cell_far (p := ⟨gb114, 5, none⟩) (by first | (rw [add_block]; exact hn127_2) | (show (Addr.add _ _).block ≠ _; rw [add_block]; exact hn127_2) | exact hn127_2) (.int .i64 (rd x5_2 (ji35)))).trans hx127_0
                                clear hn127_0
                                clear hn127_1
                                clear hn127_2
                                replace p127 := eq_true p127
                                replace q127 := eq_true q127
                                have p128 : 0 ≤ (3 : Int) := (by omega)
                                have q128 : 3 < (x5_2.length : Int) := of_decide_eq_true qs
                                obtain ⟨ad128, e128, hx128_0⟩ := Kd.at_int (Kd.R_reads' HO_5.out).2.2 3 p128 q128
                                obtain rfl : ad124 = ad128 := (by injection e128)
                                (try simp only [show (3 : Int).toNat = 3 from rfl, Nat.reduceMul, Nat.reduceEqDiff, Go.Addr.add, ↓reduceIte] at hx128_0)
                                have qi128 : (3 < x5_2.length) = True := eq_true (by omega)
                                (try rw [show ((3 : Int)).toNat = 3 from rfl] at hx128_0)
                                have hn128_0 : ad124.block ≠ gb114 := Kd.own_blk (Kd.R_ne HO_5.out BK114.out (by decide))
                                have hn128_1 : ad124.block ≠ gb114 := Kd.own_blk (Kd.R_ne HO_5.out BK114.out (by decide))
                                have hn128_2 : ad124.block ≠ gb114 := Kd.own_blk (Kd.R_ne HO_5.out BK114.out (by decide))
                                have hn128_3 : ad124.block ≠ gb114 := Kd.own_blk (Kd.R_ne HO_5.out BK114.out (by decide))
                                replace hx128_0 := (cell_far (p := ⟨gb114, 1, none⟩) (by first | (rw [add_block]; exact hn128_0) | (show (Addr.add _ _).block ≠ _; rw [add_block]; exact hn128_0) | exact hn128_0) (.int .i64 (rd x5_2 0))).trans hx128_0
                                replace hx128_0 := (cell_far (p := ⟨gb114, 2, none⟩) (by first | (rw [add_block]; exact hn128_1) | (show (Addr.add _ _).block ≠ _; rw [add_block]; exact hn128_1) | exact hn128_1) (.int .i64 (rd x5_2 1))).trans hx128_0
                                replace hx128_0 := (cell_far (p := ⟨gb114, 5, none⟩) (by first | (rw [add_block]; exact hn128_2) | (show (Addr.add _ _).block ≠ _; rw [add_block]; exact hn128_2) | exact hn128_2) (.int .i64 (rd x5_2 (ji35)))).trans hx128_0
                                replace hx128_0 := (cell_far (p := ⟨gb114, 3, none⟩) (by first | (rw [add_block]; exact hn128_3) | (show (Addr.add _ _).block ≠ _; rw [add_block]; exact hn128_3) | exact hn128_3) (.int .i64 (rd x5_2 2))).trans hx128_0
                                clear hn128_0
                                clear hn128_1
                                clear hn128_2
                                clear hn128_3
                                replace p128 := eq_true p128
                                replace q128 := eq_true q128
                                try go_wp2
                                have n0_ : Aside0 (Kd.R (Kd.int .i64) 3 (((((wr.setCell ⟨gb114, 1, none⟩ (.int .i64 (rd x5_2 0))).setCell ⟨gb114, 2, none⟩ (.int .i64 (rd x5_2 1))).setCell ⟨gb114, 5, none⟩ (.int .i64 (rd x5_2 (ji35)))).setCell ⟨gb114, 3, none⟩ (.int .i64 (rd x5_2 2))).setCell ⟨gb114, 4, none⟩ (.int .i64 (rd x5_2 3))) w.heap.size (fun _ => True) (.slice (some ad124) x5_2.length co42) x5_2) := ⟨by (with_reducible repeat (first | apply Kd.R_alloc | apply Kd.R_drewN | apply Kd.R_drew)); exact Kd.R_mono (Kd.R_far (p := ⟨gb114, 4, none⟩) (Kd.R_far (p := ⟨gb114, 3, none⟩) (Kd.R_far (p := ⟨gb114, 5, none⟩) (Kd.R_far (p := ⟨gb114, 2, none⟩) (Kd.R_far (p := ⟨gb114, 1, none⟩) (Kd.R_types HO_5.out BK114.out (by decide)) (fun _ hk => hk.2) (.int .i64 (rd x5_2 0))) (fun _ hk => hk.2) (.int .i64 (rd x5_2 1))) (fun _ hk => hk.2) (.int .i64 (rd x5_2 (ji35)))) (fun _ hk => hk.2) (.int .i64 (rd x5_2 2))) (fun _ hk => hk.2) (.int .i64 (rd x5_2 3))) (fun _ hk => trivial)⟩
                                have n1_ : Aside0 ((((((wr.setCell ⟨gb114, 1, none⟩ (.int .i64 (rd x5_2 0))).setCell ⟨gb114, 2, none⟩ (.int .i64 (rd x5_2 1))).setCell ⟨gb114, 5, none⟩ (.int .i64 (rd x5_2 (ji35)))).setCell ⟨gb114, 3, none⟩ (.int .i64 (rd x5_2 2))).setCell ⟨gb114, 4, none⟩ (.int .i64 (rd x5_2 3))).heap[gb108]? = some (.cells #[.int .i64 x109000_2, .int .i64 x109001_2, .int .i64 x109002_2, .int .i64 x109003_2, .int .i64 x109004_2, .int .i64 x109005_2] 41 (0, 0))) := ⟨by (with_reducible repeat (first | refine blk_drewN ?_ _ | refine blk_drew ?_ | refine blk_alloc ?_ _)); refine blk_far ?_ NB108_114.out _; (with_reducible repeat (first | refine blk_drewN ?_ _ | refine blk_drew ?_ | refine blk_alloc ?_ _)); refine blk_far ?_ NB108_114.out _; (with_reducible repeat (first | refine blk_drewN ?_ _ | refine blk_drew ?_ | refine blk_alloc ?_ _)); refine blk_far ?_ NB108_114.out _; (with_reducible repeat (first | refine blk_drewN ?_ _ | refine blk_drew ?_ | refine blk_alloc ?_ _)); refine blk_far ?_ NB108_114.out _; (with_reducible repeat (first | refine blk_drewN ?_ _ | refine blk_drew ?_ | refine blk_alloc ?_ _)); refine blk_far ?_ NB108_114.out _; (with_reducible repeat (first | refine blk_drewN ?_ _ | refine blk_drew ?_ | refine blk_alloc ?_ _)); exact BK108.out⟩
                                have n2_ : Aside0 ((((((wr.setCell ⟨gb114, 1, none⟩ (.int .i64 (rd x5_2 0))).setCell ⟨gb114, 2, none⟩ (.int .i64 (rd x5_2 1))).setCell ⟨gb114, 5, none⟩ (.int .i64 (rd x5_2 (ji35)))).setCell ⟨gb114, 3, none⟩ (.int .i64 (rd x5_2 2))).setCell ⟨gb114, 4, none⟩ (.int .i64 (rd x5_2 3))).heap[gb114]? = some (.cells #[.int .i64 (wrap64 (t113 + 1)), .int .i64 (rd x5_2 0), .int .i64 (rd x5_2 1), .int .i64 (rd x5_2 2), .int .i64 (rd x5_2 3), .int .i64 (rd x5_2 (ji35))] 41 (0, 0))) := ⟨by (with_reducible repeat (first | refine blk_drewN ?_ _ | refine blk_drew ?_ | refine blk_alloc ?_ _)); refine blk_put (cs := #[.int .i64 (wrap64 (t113 + 1)), .int .i64 (rd x5_2 0), .int .i64 (rd x5_2 1), .int .i64 (rd x5_2 2), .int .i64 1, .int .i64 (rd x5_2 (ji35))]) ?_ 4 _ rfl; (with_reducible repeat (first | refine blk_drewN ?_ _ | refine blk_drew ?_ | refine blk_alloc ?_ _)); refine blk_put (cs := #[.int .i64 (wrap64 (t113 + 1)), .int .i64 (rd x5_2 0), .int .i64 (rd x5_2 1), .int .i64 0, .int .i64 1, .int .i64 (rd x5_2 (ji35))]) ?_ 3 _ rfl; (with_reducible repeat (first | refine blk_drewN ?_ _ | refine blk_drew ?_ | refine blk_alloc ?_ _)); refine blk_put (cs := #[.int .i64 (wrap64 (t113 + 1)), .int .i64 (rd x5_2 0), .int .i64 (rd x5_2 1), .int .i64 0, .int .i64 1, .int .i64 0]) ?_ 5 _ rfl; (with_reducible repeat (first | refine blk_drewN ?_ _ | refine blk_drew ?_ | refine blk_alloc ?_ _)); refine blk_put (cs := #[.int .i64 (wrap64 (t113 + 1)), .int .i64 (rd x5_2 0), .int .i64 0, .int .i64 0, .int .i64 1, .int .i64 0]) ?_ 2 _ rfl; (with_reducible repeat (first | refine blk_drewN ?_ _ | refine blk_drew ?_ | refine blk_alloc ?_ _)); refine blk_put (cs := #[.int .i64 (wrap64 (t113 + 1)), .int .i64 0, .int .i64 0, .int .i64 0, .int .i64 1, .int .i64 0]) ?_ 1 _ rfl; (with_reducible repeat (first | refine blk_drewN ?_ _ | refine blk_drew ?_ | refine blk_alloc ?_ _)); exact BK114.out⟩
                                have n3_ : Aside0 (Below w.heap.size w (((((wr.setCell ⟨gb114, 1, none⟩ (.int .i64 (rd x5_2 0))).setCell ⟨gb114, 2, none⟩ (.int .i64 (rd x5_2 1))).setCell ⟨gb114, 5, none⟩ (.int .i64 (rd x5_2 (ji35)))).setCell ⟨gb114, 3, none⟩ (.int .i64 (rd x5_2 2))).setCell ⟨gb114, 4, none⟩ (.int .i64 (rd x5_2 3)))) := ⟨qw HB.out⟩
                                (try clear HO_5)
                                (try clear BK108)
                                (try clear BK114)
                                (try clear HB)
                                generalize (((((wr.setCell ⟨gb114, 1, none⟩ (.int .i64 (rd x5_2 0))).setCell ⟨gb114, 2, none⟩ (.int .i64 (rd x5_2 1))).setCell ⟨gb114, 5, none⟩ (.int .i64 (rd x5_2 (ji35)))).setCell ⟨gb114, 3, none⟩ (.int .i64 (rd x5_2 2))).setCell ⟨gb114, 4, none⟩ (.int .i64 (rd x5_2 3))) = w45 at n0_ n1_ n2_ n3_ ⊢
                                have HO_5 := n0_
                                have BK108 := n1_
                                have BK114 := n2_
                                have HB := n3_
                                clear n0_ n1_ n2_ n3_
                                (try (rw [drewN_self w45]; generalize hq_ : World.drewN w45 _ = w45; have n0_ : Aside0 (Kd.R (Kd.int .i64) 3 w45 w.heap.size (fun _ => True) (.slice (some ad124) x5_2.length co42) x5_2) := ⟨by rw [← hq_]; exact (qr HO_5.out)⟩; have n1_ : Aside0 (w45.heap[gb108]? = some (.cells #[.int .i64 x109000_2, .int .i64 x109001_2, .int .i64 x109002_2, .int .i64 x109003_2, .int .i64 x109004_2, .int .i64 x109005_2] 41 (0, 0))) := ⟨by rw [← hq_]; exact (qb BK108.out)⟩; have n2_ : Aside0 (w45.heap[gb114]? = some (.cells #[.int .i64 (wrap64 (t113 + 1)), .int .i64 (rd x5_2 0), .int .i64 (rd x5_2 1), .int .i64 (rd x5_2 2), .int .i64 (rd x5_2 3), .int .i64 (rd x5_2 (ji35))] 41 (0, 0))) := ⟨by rw [← hq_]; exact (qb BK114.out)⟩; have n3_ : Aside0 (Below w.heap.size w w45) := ⟨by rw [← hq_]; exact (qw HB.out)⟩; clear HO_5 BK108 BK114 HB hq_; have HO_5 := n0_; have BK108 := n1_; have BK114 := n2_; have HB := n3_; clear n0_ n1_ n2_ n3_))
                                have n0_ := Aside0.mk (Kd.R_drew HO_5.out)
                                have n1_ := Aside0.mk (blk_drew BK108.out)
                                have n2_ := Aside0.mk (blk_drew BK114.out)
                                have n3_ := Aside0.mk (below_drew1 HB.out)
                                clear HO_5
                                clear BK108
                                clear BK114
                                clear HB
                                have HO_5 := n0_
                                have BK108 := n1_
                                have BK114 := n2_
                                have HB := n3_
                                clear n0_ n1_ n2_ n3_
                                refine start_ (n := 5) (S := fun w' => w'.cell? ⟨gb114, 0, none⟩ = some (.int .i64 (wrap64 (t113 + 1))) ∧ w'.cell? ⟨gb114, 1, none⟩ = some (.int .i64 (rd x5_2 0)) ∧ w'.cell? ⟨gb114, 2, none⟩ = some (.int .i64 (rd x5_2 1)) ∧ w'.cell? ⟨gb114, 3, none⟩ = some (.int .i64 (rd x5_2 2)) ∧ w'.cell? ⟨gb114, 4, none⟩ = some (.int .i64 (rd x5_2 3)) ∧ w'.cell? ⟨gb114, 5, none⟩ = some (.int .i64 (rd x5_2 (ji35)))) (ds := []) #[false, false, false, false, false] (by kernel_rfl) rfl rfl ⟨(blk_cell BK114.out 0).trans rfl, (blk_cell BK114.out 1).trans rfl, (blk_cell BK114.out 2).trans rfl, (blk_cell BK114.out 3).trans rfl, (blk_cell BK114.out 4).trans rfl, (blk_cell BK114.out 5).trans rfl⟩ (fun hHeld => ?_)
                                generalize w45.drew = w46 at HO_5 BK108 BK114 HB hHeld ⊢
                                refine take_ (i := 0) (N := some 81) (v := ?_) (a' := ?_) #[true, false, false, false, false] rfl rfl (by kernel_rfl) (fun _ _ _ h => h) (Or.inl ⟨by rfl, ?_⟩) hHeld ?_ ?_
                                rotate_left
                                · rintro w' ⟨s0, s1, s2, s3, s4, s5⟩
                                  go_simp
                                  with_reducible rfl
                                rotate_left
                                · simp only [Act.put, List.setIfInBounds_toArray, List.set_cons_zero, List.set_cons_succ, i64_w, i32_w]
                                  rfl
                                refine take_ (i := 1) (N := some 82) (v := ?_) (a' := ?_) #[true, true, false, false, false] rfl rfl (by kernel_rfl) (fun _ _ _ h => h) (Or.inl ⟨by rfl, ?_⟩) hHeld ?_ ?_
                                rotate_left
                                · rintro w' ⟨s0, s1, s2, s3, s4, s5⟩
                                  go_simp
                                  with_reducible rfl
                                rotate_left
                                · simp only [Act.put, List.setIfInBounds_toArray, List.set_cons_zero, List.set_cons_succ, i64_w, i32_w]
                                  rfl
                                refine one_ (i := 2) (N := some 83) #[true, true, true, false, false] rfl rfl (by kernel_rfl) (by decide) (fun K hK => ?_)
                                refine goes_ Tryd.func66 (by kernel_rfl) rfl #[.agg #[.int .i64 (wrap64 (t113 + 1)), .int .i64 (rd x5_2 0), .int .i64 (rd x5_2 1), .int .i64 (rd x5_2 2), .int .i64 (rd x5_2 3), .int .i64 (rd x5_2 (ji35))]] (by rfl) rfl rfl (by (try simp only [List.map_toArray, List.map_cons, List.map_nil]); first | done | (simp only [hji35]; rfl) | rfl | (simp only [List.length_drop, List.length_take]; rfl)) ?_
                                with_reducible refine (spec_TaskOK.calls k2 (wrap64 (t113 + 1)) (rd x5_2 0) (rd x5_2 1) (rd x5_2 2) (rd x5_2 3) (rd x5_2 (ji35)) t129 _ A41.out).mono ?_
                                rintro e w47 ⟨rfl, hb⟩
                                refine ⟨_, rfl, ?_⟩
                                have n0_ := Aside0.mk (Kd.R_below (qr HO_5.out) hb)
                                have n1_ := Aside0.mk (blk_below (g := gb108) (o := .cells #[.int .i64 x109000_2, .int .i64 x109001_2, .int .i64 x109002_2, .int .i64 x109003_2, .int .i64 x109004_2, .int .i64 x109005_2] 41 (0, 0)) (qb BK108.out) hb)
                                have n2_ := Aside0.mk (blk_below (g := gb114) (o := .cells #[.int .i64 (wrap64 (t113 + 1)), .int .i64 (rd x5_2 0), .int .i64 (rd x5_2 1), .int .i64 (rd x5_2 2), .int .i64 (rd x5_2 3), .int .i64 (rd x5_2 (ji35))] 41 (0, 0)) (qb BK114.out) hb)
                                have n3_ := Aside0.mk (below_step (qw HB.out) hb)
                                clear HO_5
                                clear BK108
                                clear BK114
                                clear HB
                                have HO_5 := n0_
                                have BK108 := n1_
                                have BK114 := n2_
                                have HB := n3_
                                clear n0_ n1_ n2_ n3_
                                (try clear hb)
                                (try clear hb2)
                                (try clear hk)
                                (try clear hi)
                                refine hK.out _ _ ⟨(blk_cell BK114.out 0).trans rfl, (blk_cell BK114.out 1).trans rfl, (blk_cell BK114.out 2).trans rfl, (blk_cell BK114.out 3).trans rfl, (blk_cell BK114.out 4).trans rfl, (blk_cell BK114.out 5).trans rfl⟩ (fun hHeld => ?_)
                                clear hK K
                                refine norm_ (a' := ?_) ?_ ?_
                                rotate_left
                                · show Act.put _ (some 83) _ = _
                                  simp only [Act.put, List.setIfInBounds_toArray, List.set_cons_zero, List.set_cons_succ, i64_w, i32_w]
                                  rfl
                                refine one_ (i := 3) (N := none) #[true, true, true, true, false] rfl rfl (by kernel_rfl) (by decide) (fun K hK => ?_)
                                have hs48 : w47.cell? ⟨gb108, 0, none⟩ = some (.int .i64 x109000_2) := (blk_cell BK108.out 0).trans rfl
                                have hfs48 := blk_frozen BK108.out 0
                                have hns48_1 := NB114_108.out
                                have hms48_1 := NB108_114.out
                                have hs49 : w47.cell? ⟨gb108, 1, none⟩ = some (.int .i64 x109001_2) := (blk_cell BK108.out 1).trans rfl
                                have hfs49 := blk_frozen BK108.out 1
                                have hns49_1 := NB114_108.out
                                have hms49_1 := NB108_114.out
                                have hs50 : w47.cell? ⟨gb108, 2, none⟩ = some (.int .i64 x109002_2) := (blk_cell BK108.out 2).trans rfl
                                have hfs50 := blk_frozen BK108.out 2
                                have hns50_1 := NB114_108.out
                                have hms50_1 := NB108_114.out
                                have hs51 : w47.cell? ⟨gb108, 3, none⟩ = some (.int .i64 x109003_2) := (blk_cell BK108.out 3).trans rfl
                                have hfs51 := blk_frozen BK108.out 3
                                have hns51_1 := NB114_108.out
                                have hms51_1 := NB108_114.out
                                have hs52 : w47.cell? ⟨gb108, 4, none⟩ = some (.int .i64 x109004_2) := (blk_cell BK108.out 4).trans rfl
                                have hfs52 := blk_frozen BK108.out 4
                                have hns52_1 := NB114_108.out
                                have hms52_1 := NB108_114.out
                                have hs53 : w47.cell? ⟨gb108, 5, none⟩ = some (.int .i64 x109005_2) := (blk_cell BK108.out 5).trans rfl
                                have hfs53 := blk_frozen BK108.out 5
                                have hns53_1 := NB114_108.out
                                have hms53_1 := NB108_114.out
                                refine skip_ (w1 := ?_) (by rfl) rfl ?_ ?_
                                rotate_left
                                · go_simp
                                  rfl
                                have hne_ := NB114_108.out
                                refine hK.out _ _ ⟨spec_l13Read.seen6 hHeld.1 hne_, spec_l13Read.seen6 hHeld.2.1 hne_, spec_l13Read.seen6 hHeld.2.2.1 hne_, spec_l13Read.seen6 hHeld.2.2.2.1 hne_, spec_l13Read.seen6 hHeld.2.2.2.2.1 hne_, spec_l13Read.seen6 hHeld.2.2.2.2.2 hne_⟩ (fun hHeld => ?_)
                                clear hne_
                                clear hK K
                                refine pure_ (i := 4) (N := some 3) (v := ?_) (a' := ?_) #[true, true, true, true, true] rfl rfl (by kernel_rfl) (fun _ _ _ h => h) (Or.inl ⟨by rfl, ?_⟩) ?_ ?_
                                rotate_left
                                · intro w'
                                  go_simp
                                  with_reducible rfl
                                rotate_left
                                · simp only [Act.put, List.setIfInBounds_toArray, List.set_cons_zero, List.set_cons_succ, i64_w, i32_w]
                                  rfl
                                refine done_ (by kernel_rfl) ?_
                                try go_wp2
                                refine bodyPost_ret (results_ct rfl _ _ gb108 41 #[.int .i64 (wrap64 (t113 + 1)), .int .i64 (rd x5_2 0), .int .i64 (rd x5_2 1), .int .i64 (rd x5_2 2), .int .i64 (rd x5_2 3), .int .i64 (rd x5_2 (ji35))] (0, 0) _ rfl (by (with_reducible repeat (first | refine blk_drewN ?_ _ | refine blk_drew ?_ | refine blk_alloc ?_ _)); refine blk_put (cs := #[.int .i64 (wrap64 (t113 + 1)), .int .i64 (rd x5_2 0), .int .i64 (rd x5_2 1), .int .i64 (rd x5_2 2), .int .i64 (rd x5_2 3), .int .i64 x109005_2]) ?_ 5 _ rfl; (with_reducible repeat (first | refine blk_drewN ?_ _ | refine blk_drew ?_ | refine blk_alloc ?_ _)); refine blk_put (cs := #[.int .i64 (wrap64 (t113 + 1)), .int .i64 (rd x5_2 0), .int .i64 (rd x5_2 1), .int .i64 (rd x5_2 2), .int .i64 x109004_2, .int .i64 x109005_2]) ?_ 4 _ rfl; (with_reducible repeat (first | refine blk_drewN ?_ _ | refine blk_drew ?_ | refine blk_alloc ?_ _)); refine blk_put (cs := #[.int .i64 (wrap64 (t113 + 1)), .int .i64 (rd x5_2 0), .int .i64 (rd x5_2 1), .int .i64 x109003_2, .int .i64 x109004_2, .int .i64 x109005_2]) ?_ 3 _ rfl; (with_reducible repeat (first | refine blk_drewN ?_ _ | refine blk_drew ?_ | refine blk_alloc ?_ _)); refine blk_put (cs := #[.int .i64 (wrap64 (t113 + 1)), .int .i64 (rd x5_2 0), .int .i64 x109002_2, .int .i64 x109003_2, .int .i64 x109004_2, .int .i64 x109005_2]) ?_ 2 _ rfl; (with_reducible repeat (first | refine blk_drewN ?_ _ | refine blk_drew ?_ | refine blk_alloc ?_ _)); refine blk_put (cs := #[.int .i64 (wrap64 (t113 + 1)), .int .i64 x109001_2, .int .i64 x109002_2, .int .i64 x109003_2, .int .i64 x109004_2, .int .i64 x109005_2]) ?_ 1 _ rfl; (with_reducible repeat (first | refine blk_drewN ?_ _ | refine blk_drew ?_ | refine blk_alloc ?_ _)); refine blk_put (cs := #[.int .i64 x109000_2, .int .i64 x109001_2, .int .i64 x109002_2, .int .i64 x109003_2, .int .i64 x109004_2, .int .i64 x109005_2]) ?_ 0 _ rfl; (with_reducible repeat (first | refine blk_drewN ?_ _ | refine blk_drew ?_ | refine blk_alloc ?_ _)); exact BK108.out) Tryd.underlying41 rfl (by kernel_rfl)) rfl ?_
                                exact ⟨by first | rfl | (simp [errW_none, errW_some] <;> rfl) | (simp only [← hji35]; first | rfl | (simp [errW_none, errW_some] <;> rfl)) | (simp [*, errW_none, errW_some] <;> rfl), qw HB.out⟩
                              · rw [if_neg c40] at H
                                exact absurd H (by simp)
                            · rw [if_neg c39] at H
                              exact absurd H (by simp)
                          · rw [if_neg c38] at H
                            have c38b0 : ((wrap64 (t113 + 1)) == 2) = false := beq_eq_false_iff_ne.mpr c38
                            have c38b1 : ((wrap64 (t113 + 1)) != 2) = true := bne_iff_ne.mpr c38
                            replace H := Option.bind_eq_some_iff.mp H
                            obtain ⟨t130, A540, H⟩ := H
                            replace H : (some ((wrap64 (t113 + 1)), rd x5_2 0, rd x5_2 1, 0, 1, rd x5_2 (ji35), t130)) = some (r1, r2, r3, r4, r5, r6, r7) := H
                            have A54 := Aside0.mk A540
                            clear A540
                            simp only [Option.some.injEq, Prod.mk.injEq] at H
                            obtain ⟨rfl, rfl, rfl, rfl, rfl, rfl, rfl⟩ := H
                            obtain ⟨Ao55, co55, eo55⟩ := Kd.R_slice HO_5.out
                            subst eo55
                            have p124 : 0 ≤ (0 : Int) := (by omega)
                            have q124 : 0 < (x5_2.length : Int) := of_decide_eq_true qs
                            obtain ⟨ad124, e124, hx124_0⟩ := Kd.at_int (Kd.R_reads' HO_5.out).2.2 0 p124 q124
                            cases e124
                            have qi124 : (0 < x5_2.length) = True := eq_true (by omega)
                            (try rw [show ((0 : Int)).toNat = 0 from rfl] at hx124_0)
                            (try rw [Addr.add_zero'] at hx124_0)
                            replace p124 := eq_true p124
                            replace q124 := eq_true q124
                            have hnb56 := NB114_108.out
                            have hnc56 := NB108_114.out
                            have hcz57_0 : wr.cell? ⟨gb114, 0, none⟩ = some (.int .i64 (wrap64 (t113 + 1))) := (blk_cell BK114.out 0).trans rfl
                            have hcz57_1 : wr.cell? ⟨gb114, 1, none⟩ = some (.int .i64 0) := (blk_cell BK114.out 1).trans rfl
                            have hcz57_2 : wr.cell? ⟨gb114, 2, none⟩ = some (.int .i64 0) := (blk_cell BK114.out 2).trans rfl
                            have hcz57_3 : wr.cell? ⟨gb114, 3, none⟩ = some (.int .i64 0) := (blk_cell BK114.out 3).trans rfl
                            have hcz57_4 : wr.cell? ⟨gb114, 4, none⟩ = some (.int .i64 1) := (blk_cell BK114.out 4).trans rfl
                            have hcz57_5 : wr.cell? ⟨gb114, 5, none⟩ = some (.int .i64 0) := (blk_cell BK114.out 5).trans rfl
                            have hfz57_0 := blk_frozen BK114.out 0
                            have hfz57_1 := blk_frozen BK114.out 1
                            have hfz57_2 := blk_frozen BK114.out 2
                            have hfz57_3 := blk_frozen BK114.out 3
                            have hfz57_4 := blk_frozen BK114.out 4
                            have hfz57_5 := blk_frozen BK114.out 5
                            have p125 : 0 ≤ (1 : Int) := (by omega)
                            have q125 : 1 < (x5_2.length : Int) := of_decide_eq_true qs
                            obtain ⟨ad125, e125, hx125_0⟩ := Kd.at_int (Kd.R_reads' HO_5.out).2.2 1 p125 q125
                            obtain rfl : ad124 = ad125 := (by injection e125)
                            (try simp only [show (1 : Int).toNat = 1 from rfl, Nat.reduceMul, Nat.reduceEqDiff, Go.Addr.add, ↓reduceIte] at hx125_0)
                            have qi125 : (1 < x5_2.length) = True := eq_true (by omega)
                            (try rw [show ((1 : Int)).toNat = 1 from rfl] at hx125_0)
                            have hn125_0 : ad124.block ≠ gb114 := Kd.own_blk (Kd.R_ne HO_5.out BK114.out (by decide))
                            replace hx125_0 := (cell_far (p := ⟨gb114, 1, none⟩) (by first | (rw [add_block]; exact hn125_0) | (show (Addr.add _ _).block ≠ _; rw [add_block]; exact hn125_0) | exact hn125_0) (.int .i64 (rd x5_2 0))).trans hx125_0
                            clear hn125_0
                            replace p125 := eq_true p125
                            replace q125 := eq_true q125
                            have p126 : 0 ≤ ((ji35) : Int) := of_decide_eq_true qs
                            have q126 : (ji35) < (x5_2.length : Int) := of_decide_eq_true qs
                            obtain ⟨ad126, e126, hx126_0⟩ := Kd.at_int (Kd.R_reads' HO_5.out).2.2 (ji35) p126 q126
                            obtain rfl : ad124 = ad126 := (by injection e126)
                            have hn126_0 : ad124.block ≠ gb114 := Kd.own_blk (Kd.R_ne HO_5.out BK114.out (by decide))
                            have hn126_1 : ad124.block ≠ gb114 := Kd.own_blk (Kd.R_ne HO_5.out BK114.out (by decide))
                            replace hx126_0 := (cell_far (p := ⟨gb114, 1, none⟩) (by first | (rw [add_block]; exact hn126_0) | (show (Addr.add _ _).block ≠ _; rw [add_block]; exact hn126_0) | exact hn126_0) (.int .i64 (rd x5_2 0))).trans hx126_0
                            replace hx126_0 := (cell_far (p := ⟨gb114, 2, none⟩) (by first | (rw [add_block]; exact hn126_1) | (show (Addr.add _ _).block ≠ _; rw [add_block]; exact hn126_1) | exact hn126_1) (.int .i64 (rd x5_2 1))).trans hx126_0
                            clear hn126_0
                            clear hn126_1
                            replace p126 := eq_true p126
                            replace q126 := eq_true q126
                            try go_wp2
                            have n0_ : Aside0 (Kd.R (Kd.int .i64) 3 (((wr.setCell ⟨gb114, 1, none⟩ (.int .i64 (rd x5_2 0))).setCell ⟨gb114, 2, none⟩ (.int .i64 (rd x5_2 1))).setCell ⟨gb114, 5, none⟩ (.int .i64 (rd x5_2 (ji35)))) w.heap.size (fun _ => True) (.slice (some ad124) x5_2.length co55) x5_2) := ⟨by (with_reducible repeat (first | apply Kd.R_alloc | apply Kd.R_drewN | apply Kd.R_drew)); exact Kd.R_mono (Kd.R_far (p := ⟨gb114, 5, none⟩) (Kd.R_far (p := ⟨gb114, 2, none⟩) (Kd.R_far (p := ⟨gb114, 1, none⟩) (Kd.R_types HO_5.out BK114.out (by decide)) (fun _ hk => hk.2) (.int .i64 (rd x5_2 0))) (fun _ hk => hk.2) (.int .i64 (rd x5_2 1))) (fun _ hk => hk.2) (.int .i64 (rd x5_2 (ji35)))) (fun _ hk => trivial)⟩
                            have n1_ : Aside0 ((((wr.setCell ⟨gb114, 1, none⟩ (.int .i64 (rd x5_2 0))).setCell ⟨gb114, 2, none⟩ (.int .i64 (rd x5_2 1))).setCell ⟨gb114, 5, none⟩ (.int .i64 (rd x5_2 (ji35)))).heap[gb108]? = some (.cells #[.int .i64 x109000_2, .int .i64 x109001_2, .int .i64 x109002_2, .int .i64 x109003_2, .int .i64 x109004_2, .int .i64 x109005_2] 41 (0, 0))) := ⟨by (with_reducible repeat (first | refine blk_drewN ?_ _ | refine blk_drew ?_ | refine blk_alloc ?_ _)); refine blk_far ?_ NB108_114.out _; (with_reducible repeat (first | refine blk_drewN ?_ _ | refine blk_drew ?_ | refine blk_alloc ?_ _)); refine blk_far ?_ NB108_114.out _; (with_reducible repeat (first | refine blk_drewN ?_ _ | refine blk_drew ?_ | refine blk_alloc ?_ _)); refine blk_far ?_ NB108_114.out _; (with_reducible repeat (first | refine blk_drewN ?_ _ | refine blk_drew ?_ | refine blk_alloc ?_ _)); exact BK108.out⟩
                            have n2_ : Aside0 ((((wr.setCell ⟨gb114, 1, none⟩ (.int .i64 (rd x5_2 0))).setCell ⟨gb114, 2, none⟩ (.int .i64 (rd x5_2 1))).setCell ⟨gb114, 5, none⟩ (.int .i64 (rd x5_2 (ji35)))).heap[gb114]? = some (.cells #[.int .i64 (wrap64 (t113 + 1)), .int .i64 (rd x5_2 0), .int .i64 (rd x5_2 1), .int .i64 0, .int .i64 1, .int .i64 (rd x5_2 (ji35))] 41 (0, 0))) := ⟨by (with_reducible repeat (first | refine blk_drewN ?_ _ | refine blk_drew ?_ | refine blk_alloc ?_ _)); refine blk_put (cs := #[.int .i64 (wrap64 (t113 + 1)), .int .i64 (rd x5_2 0), .int .i64 (rd x5_2 1), .int .i64 0, .int .i64 1, .int .i64 0]) ?_ 5 _ rfl; (with_reducible repeat (first | refine blk_drewN ?_ _ | refine blk_drew ?_ | refine blk_alloc ?_ _)); refine blk_put (cs := #[.int .i64 (wrap64 (t113 + 1)), .int .i64 (rd x5_2 0), .int .i64 0, .int .i64 0, .int .i64 1, .int .i64 0]) ?_ 2 _ rfl; (with_reducible repeat (first | refine blk_drewN ?_ _ | refine blk_drew ?_ | refine blk_alloc ?_ _)); refine blk_put (cs := #[.int .i64 (wrap64 (t113 + 1)), .int .i64 0, .int .i64 0, .int .i64 0, .int .i64 1, .int .i64 0]) ?_ 1 _ rfl; (with_reducible repeat (first | refine blk_drewN ?_ _ | refine blk_drew ?_ | refine blk_alloc ?_ _)); exact BK114.out⟩
                            have n3_ : Aside0 (Below w.heap.size w (((wr.setCell ⟨gb114, 1, none⟩ (.int .i64 (rd x5_2 0))).setCell ⟨gb114, 2, none⟩ (.int .i64 (rd x5_2 1))).setCell ⟨gb114, 5, none⟩ (.int .i64 (rd x5_2 (ji35))))) := ⟨qw HB.out⟩
                            (try clear HO_5)
                            (try clear BK108)
                            (try clear BK114)
                            (try clear HB)
                            generalize (((wr.setCell ⟨gb114, 1, none⟩ (.int .i64 (rd x5_2 0))).setCell ⟨gb114, 2, none⟩ (.int .i64 (rd x5_2 1))).setCell ⟨gb114, 5, none⟩ (.int .i64 (rd x5_2 (ji35)))) = w58 at n0_ n1_ n2_ n3_ ⊢
                            have HO_5 := n0_
                            have BK108 := n1_
                            have BK114 := n2_
                            have HB := n3_
                            clear n0_ n1_ n2_ n3_
                            (try (rw [drewN_self w58]; generalize hq_ : World.drewN w58 _ = w58; have n0_ : Aside0 (Kd.R (Kd.int .i64) 3 w58 w.heap.size (fun _ => True) (.slice (some ad124) x5_2.length co55) x5_2) := ⟨by rw [← hq_]; exact (qr HO_5.out)⟩; have n1_ : Aside0 (w58.heap[gb108]? = some (.cells #[.int .i64 x109000_2, .int .i64 x109001_2, .int .i64 x109002_2, .int .i64 x109003_2, .int .i64 x109004_2, .int .i64 x109005_2] 41 (0, 0))) := ⟨by rw [← hq_]; exact (qb BK108.out)⟩; have n2_ : Aside0 (w58.heap[gb114]? = some (.cells #[.int .i64 (wrap64 (t113 + 1)), .int .i64 (rd x5_2 0), .int .i64 (rd x5_2 1), .int .i64 0, .int .i64 1, .int .i64 (rd x5_2 (ji35))] 41 (0, 0))) := ⟨by rw [← hq_]; exact (qb BK114.out)⟩; have n3_ : Aside0 (Below w.heap.size w w58) := ⟨by rw [← hq_]; exact (qw HB.out)⟩; clear HO_5 BK108 BK114 HB hq_; have HO_5 := n0_; have BK108 := n1_; have BK114 := n2_; have HB := n3_; clear n0_ n1_ n2_ n3_))
                            have n0_ := Aside0.mk (Kd.R_drew HO_5.out)
                            have n1_ := Aside0.mk (blk_drew BK108.out)
                            have n2_ := Aside0.mk (blk_drew BK114.out)
                            have n3_ := Aside0.mk (below_drew1 HB.out)
                            clear HO_5
                            clear BK108
                            clear BK114
                            clear HB
                            have HO_5 := n0_
                            have BK108 := n1_
                            have BK114 := n2_
                            have HB := n3_
                            clear n0_ n1_ n2_ n3_
                            refine start_ (n := 5) (S := fun w' => w'.cell? ⟨gb114, 0, none⟩ = some (.int .i64 (wrap64 (t113 + 1))) ∧ w'.cell? ⟨gb114, 1, none⟩ = some (.int .i64 (rd x5_2 0)) ∧ w'.cell? ⟨gb114, 2, none⟩ = some (.int .i64 (rd x5_2 1)) ∧ w'.cell? ⟨gb114, 3, none⟩ = some (.int .i64 0) ∧ w'.cell? ⟨gb114, 4, none⟩ = some (.int .i64 1) ∧ w'.cell? ⟨gb114, 5, none⟩ = some (.int .i64 (rd x5_2 (ji35)))) (ds := []) #[false, false, false, false, false] (by kernel_rfl) rfl rfl ⟨(blk_cell BK114.out 0).trans rfl, (blk_cell BK114.out 1).trans rfl, (blk_cell BK114.out 2).trans rfl, (blk_cell BK114.out 3).trans rfl, (blk_cell BK114.out 4).trans rfl, (blk_cell BK114.out 5).trans rfl⟩ (fun hHeld => ?_)
                            generalize w58.drew = w59 at HO_5 BK108 BK114 HB hHeld ⊢
                            refine take_ (i := 0) (N := some 81) (v := ?_) (a' := ?_) #[true, false, false, false, false] rfl rfl (by kernel_rfl) (fun _ _ _ h => h) (Or.inl ⟨by rfl, ?_⟩) hHeld ?_ ?_
                            rotate_left
                            · rintro w' ⟨s0, s1, s2, s3, s4, s5⟩
                              go_simp
                              with_reducible rfl
                            rotate_left
                            · simp only [Act.put, List.setIfInBounds_toArray, List.set_cons_zero, List.set_cons_succ, i64_w, i32_w]
                              rfl
                            refine take_ (i := 1) (N := some 82) (v := ?_) (a' := ?_) #[true, true, false, false, false] rfl rfl (by kernel_rfl) (fun _ _ _ h => h) (Or.inl ⟨by rfl, ?_⟩) hHeld ?_ ?_
                            rotate_left
                            · rintro w' ⟨s0, s1, s2, s3, s4, s5⟩
                              go_simp
                              with_reducible rfl
                            rotate_left
                            · simp only [Act.put, List.setIfInBounds_toArray, List.set_cons_zero, List.set_cons_succ, i64_w, i32_w]
                              rfl
                            refine one_ (i := 2) (N := some 83) #[true, true, true, false, false] rfl rfl (by kernel_rfl) (by decide) (fun K hK => ?_)
                            refine goes_ Tryd.func66 (by kernel_rfl) rfl #[.agg #[.int .i64 (wrap64 (t113 + 1)), .int .i64 (rd x5_2 0), .int .i64 (rd x5_2 1), .int .i64 0, .int .i64 1, .int .i64 (rd x5_2 (ji35))]] (by rfl) rfl rfl (by (try simp only [List.map_toArray, List.map_cons, List.map_nil]); first | done | (simp only [hji35]; rfl) | rfl | (simp only [List.length_drop, List.length_take]; rfl)) ?_
                            with_reducible refine (spec_TaskOK.calls k2 (wrap64 (t113 + 1)) (rd x5_2 0) (rd x5_2 1) 0 1 (rd x5_2 (ji35)) t130 _ A54.out).mono ?_
                            rintro e w60 ⟨rfl, hb⟩
                            refine ⟨_, rfl, ?_⟩
                            have n0_ := Aside0.mk (Kd.R_below (qr HO_5.out) hb)
                            have n1_ := Aside0.mk (blk_below (g := gb108) (o := .cells #[.int .i64 x109000_2, .int .i64 x109001_2, .int .i64 x109002_2, .int .i64 x109003_2, .int .i64 x109004_2, .int .i64 x109005_2] 41 (0, 0)) (qb BK108.out) hb)
                            have n2_ := Aside0.mk (blk_below (g := gb114) (o := .cells #[.int .i64 (wrap64 (t113 + 1)), .int .i64 (rd x5_2 0), .int .i64 (rd x5_2 1), .int .i64 0, .int .i64 1, .int .i64 (rd x5_2 (ji35))] 41 (0, 0)) (qb BK114.out) hb)
                            have n3_ := Aside0.mk (below_step (qw HB.out) hb)
                            clear HO_5
                            clear BK108
                            clear BK114
                            clear HB
                            have HO_5 := n0_
                            have BK108 := n1_
                            have BK114 := n2_
                            have HB := n3_
                            clear n0_ n1_ n2_ n3_
                            (try clear hb)
                            (try clear hb2)
                            (try clear hk)
                            (try clear hi)
                            refine hK.out _ _ ⟨(blk_cell BK114.out 0).trans rfl, (blk_cell BK114.out 1).trans rfl, (blk_cell BK114.out 2).trans rfl, (blk_cell BK114.out 3).trans rfl, (blk_cell BK114.out 4).trans rfl, (blk_cell BK114.out 5).trans rfl⟩ (fun hHeld => ?_)
                            clear hK K
                            refine norm_ (a' := ?_) ?_ ?_
                            rotate_left
                            · show Act.put _ (some 83) _ = _
                              simp only [Act.put, List.setIfInBounds_toArray, List.set_cons_zero, List.set_cons_succ, i64_w, i32_w]
                              rfl
                            refine one_ (i := 3) (N := none) #[true, true, true, true, false] rfl rfl (by kernel_rfl) (by decide) (fun K hK => ?_)
                            have hs61 : w60.cell? ⟨gb108, 0, none⟩ = some (.int .i64 x109000_2) := (blk_cell BK108.out 0).trans rfl
                            have hfs61 := blk_frozen BK108.out 0
                            have hns61_1 := NB114_108.out
                            have hms61_1 := NB108_114.out
                            have hs62 : w60.cell? ⟨gb108, 1, none⟩ = some (.int .i64 x109001_2) := (blk_cell BK108.out 1).trans rfl
                            have hfs62 := blk_frozen BK108.out 1
                            have hns62_1 := NB114_108.out
                            have hms62_1 := NB108_114.out
                            have hs63 : w60.cell? ⟨gb108, 2, none⟩ = some (.int .i64 x109002_2) := (blk_cell BK108.out 2).trans rfl
                            have hfs63 := blk_frozen BK108.out 2
                            have hns63_1 := NB114_108.out
                            have hms63_1 := NB108_114.out
                            have hs64 : w60.cell? ⟨gb108, 3, none⟩ = some (.int .i64 x109003_2) := (blk_cell BK108.out 3).trans rfl
                            have hfs64 := blk_frozen BK108.out 3
                            have hns64_1 := NB114_108.out
                            have hms64_1 := NB108_114.out
                            have hs65 : w60.cell? ⟨gb108, 4, none⟩ = some (.int .i64 x109004_2) := (blk_cell BK108.out 4).trans rfl
                            have hfs65 := blk_frozen BK108.out 4
                            have hns65_1 := NB114_108.out
                            have hms65_1 := NB108_114.out
                            have hs66 : w60.cell? ⟨gb108, 5, none⟩ = some (.int .i64 x109005_2) := (blk_cell BK108.out 5).trans rfl
                            have hfs66 := blk_frozen BK108.out 5
                            have hns66_1 := NB114_108.out
                            have hms66_1 := NB108_114.out
                            refine skip_ (w1 := ?_) (by rfl) rfl ?_ ?_
                            rotate_left
                            · go_simp
                              rfl
                            have hne_ := NB114_108.out
                            refine hK.out _ _ ⟨spec_l13Read.seen6 hHeld.1 hne_, spec_l13Read.seen6 hHeld.2.1 hne_, spec_l13Read.seen6 hHeld.2.2.1 hne_, spec_l13Read.seen6 hHeld.2.2.2.1 hne_, spec_l13Read.seen6 hHeld.2.2.2.2.1 hne_, spec_l13Read.seen6 hHeld.2.2.2.2.2 hne_⟩ (fun hHeld => ?_)
                            clear hne_
                            clear hK K
                            refine pure_ (i := 4) (N := some 3) (v := ?_) (a' := ?_) #[true, true, true, true, true] rfl rfl (by kernel_rfl) (fun _ _ _ h => h) (Or.inl ⟨by rfl, ?_⟩) ?_ ?_
                            rotate_left
                            · intro w'
                              go_simp
                              with_reducible rfl
                            rotate_left
                            · simp only [Act.put, List.setIfInBounds_toArray, List.set_cons_zero, List.set_cons_succ, i64_w, i32_w]
                              rfl
                            refine done_ (by kernel_rfl) ?_
                            try go_wp2
                            refine bodyPost_ret (results_ct rfl _ _ gb108 41 #[.int .i64 (wrap64 (t113 + 1)), .int .i64 (rd x5_2 0), .int .i64 (rd x5_2 1), .int .i64 0, .int .i64 1, .int .i64 (rd x5_2 (ji35))] (0, 0) _ rfl (by (with_reducible repeat (first | refine blk_drewN ?_ _ | refine blk_drew ?_ | refine blk_alloc ?_ _)); refine blk_put (cs := #[.int .i64 (wrap64 (t113 + 1)), .int .i64 (rd x5_2 0), .int .i64 (rd x5_2 1), .int .i64 0, .int .i64 1, .int .i64 x109005_2]) ?_ 5 _ rfl; (with_reducible repeat (first | refine blk_drewN ?_ _ | refine blk_drew ?_ | refine blk_alloc ?_ _)); refine blk_put (cs := #[.int .i64 (wrap64 (t113 + 1)), .int .i64 (rd x5_2 0), .int .i64 (rd x5_2 1), .int .i64 0, .int .i64 x109004_2, .int .i64 x109005_2]) ?_ 4 _ rfl; (with_reducible repeat (first | refine blk_drewN ?_ _ | refine blk_drew ?_ | refine blk_alloc ?_ _)); refine blk_put (cs := #[.int .i64 (wrap64 (t113 + 1)), .int .i64 (rd x5_2 0), .int .i64 (rd x5_2 1), .int .i64 x109003_2, .int .i64 x109004_2, .int .i64 x109005_2]) ?_ 3 _ rfl; (with_reducible repeat (first | refine blk_drewN ?_ _ | refine blk_drew ?_ | refine blk_alloc ?_ _)); refine blk_put (cs := #[.int .i64 (wrap64 (t113 + 1)), .int .i64 (rd x5_2 0), .int .i64 x109002_2, .int .i64 x109003_2, .int .i64 x109004_2, .int .i64 x109005_2]) ?_ 2 _ rfl; (with_reducible repeat (first | refine blk_drewN ?_ _ | refine blk_drew ?_ | refine blk_alloc ?_ _)); refine blk_put (cs := #[.int .i64 (wrap64 (t113 + 1)), .int .i64 x109001_2, .int .i64 x109002_2, .int .i64 x109003_2, .int .i64 x109004_2, .int .i64 x109005_2]) ?_ 1 _ rfl; (with_reducible repeat (first | refine blk_drewN ?_ _ | refine blk_drew ?_ | refine blk_alloc ?_ _)); refine blk_put (cs := #[.int .i64 x109000_2, .int .i64 x109001_2, .int .i64 x109002_2, .int .i64 x109003_2, .int .i64 x109004_2, .int .i64 x109005_2]) ?_ 0 _ rfl; (with_reducible repeat (first | refine blk_drewN ?_ _ | refine blk_drew ?_ | refine blk_alloc ?_ _)); exact BK108.out) Tryd.underlying41 rfl (by kernel_rfl)) rfl ?_
                            exact ⟨by first | rfl | (simp [errW_none, errW_some] <;> rfl) | (simp only [← hji35]; first | rfl | (simp [errW_none, errW_some] <;> rfl)) | (simp [*, errW_none, errW_some] <;> rfl), qw HB.out⟩
                        · rw [if_neg c37] at H
                          exact absurd H (by simp)
                      · rw [if_neg c36] at H
                        exact absurd H (by simp)
                    · rw [if_neg c34] at H
                      exact absurd H (by simp)
                  · rw [if_neg c33] at H
                    exact absurd H (by simp)
    · rw [if_neg c5] at H
      exact absurd H (by simp)

end Go.Proofs.YtppfcmkadcoboaaDoor.R
