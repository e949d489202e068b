-- by gprint.py (a program of this session's own), over the kit's print.py; Lean checks it
import Derived.Test.YtppfcmkadcoboaaDoorSlFnExactReadTaskRx0
import Derived.Test.YtppfcmkadcoboaaDoorSlFnExactReadTaskRx5
import Derived.Test.YtppfcmkadcoboaaDoorSlFnExactReadTaskRx6
namespace Go.Proofs.YtppfcmkadcoboaaDoor.R
open Go.RowKit Go.Proofs.YtppfcmkadcoboaaDoorW.PrintWords Go.Proofs.YtppfcmkadcoboaaDoorW.PrintLast Go.Proofs.YtppfcmkadcoboaaDoorW.PrintMore
attribute [local go_sem] max2_int min2_int max_two min_two max_three min_three max_four min_four   -- for this text's walks alone
set_option linter.unusedVariables false
set_option linter.unusedSimpArgs false

/-! ### impl_readTask: function 45 -/
mutual
def impl_readTask.l0 : Nat → List ByteArray → List Int → List ByteArray → Int → Int → Option (Int × Int × Int × Int × Int × Int × Bool)
  | 0, _, _, _, _, _ => none
  | k + 1, x0, x4, x16, x17, x18 => if x18 < x17 then (if 0 ≤ x18 then (if x18 < (x16.length : Int) then ((impl_readDecimal.f (rdOf ByteArray.empty x16 x18)).bind fun bt162 => (if bt162.2 = true then (if x4.length < 17592186044416 then (impl_readTask.l0 k x0 (x4 ++ [bt162.1]) x16 x17 (wrap64 (x18 + 1))) else (none)) else (some (0, 0, 0, 0, 0, 0, false)))) else (none)) else (none)) else (if 0 < (x0.length : Int) then (if (rdOf ByteArray.empty x0 0).toList = ([99, 121, 99, 108, 105, 99] : List UInt8) then (impl_readTask.j1 k x0 x4 ((x4.length : Int) == 3) 0 0 0 0 0 0) else (impl_readTask.j1 k x0 x4 false 0 0 0 0 0 0)) else (none))
def impl_readTask.j1 : Nat → List ByteArray → List Int → Bool → Int → Int → Int → Int → Int → Int → Option (Int × Int × Int × Int × Int × Int × Bool)
  | 0, _, _, _, _, _, _, _, _, _ => none
  | k + 1, x0, x4, x36, x168000, x168001, x168002, x168003, x168004, x168005 => if x36 = true then (if 0 < (x4.length : Int) then (if 1 < (x4.length : Int) then (if 2 < (x4.length : Int) then ((impl_TaskOK.f k 1 (rd x4 0) (rd x4 1) 0 1 (rd x4 2)).bind fun t172 => (some (1, rd x4 0, rd x4 1, 0, 1, rd x4 2, t172))) else (none)) else (none)) else (none)) else (if 0 < (x0.length : Int) then (if (rdOf ByteArray.empty x0 0).toList = ([101, 118, 101, 110, 116] : List UInt8) then (if (x4.length : Int) = 5 then (if 0 < (x4.length : Int) then (if 1 < (x4.length : Int) then (if 2 < (x4.length : Int) then (if 3 < (x4.length : Int) then (if 4 < (x4.length : Int) then ((impl_TaskOK.f k 2 (rd x4 0) (rd x4 1) (rd x4 2) (rd x4 3) (rd x4 4)).bind fun t179 => (some (2, rd x4 0, rd x4 1, rd x4 2, rd x4 3, rd x4 4, t179))) else (none)) else (none)) else (none)) else (none)) else (none)) else ((impl_TaskOK.f k x168000 x168001 x168002 x168003 x168004 x168005).bind fun t180 => (some (x168000, x168001, x168002, x168003, x168004, x168005, t180)))) else ((impl_TaskOK.f k x168000 x168001 x168002 x168003 x168004 x168005).bind fun t181 => (some (x168000, x168001, x168002, x168003, x168004, x168005, t181)))) else (none))
end
def impl_readTask.f (k : Nat) (l0 : List ByteArray) : Option (Int × Int × Int × Int × Int × Int × Bool) := if (l0.length : Int) = 0 then (some (0, 0, 0, 0, 0, 0, false)) else (if 1 ≤ (l0.length : Int) then (impl_readTask.l0 k l0 (([] : List Int)) (l0.drop 1) ((l0.drop 1).length : Int) 0) else (none))
theorem impl_readTask.mono_l : ∀ k, (∀ y0 y1 y2 y3 y4, LeO (impl_readTask.l0 k y0 y1 y2 y3 y4) (impl_readTask.l0 (k + 1) y0 y1 y2 y3 y4)) ∧ (∀ y0 y1 y2 y3 y4 y5 y6 y7 y8, LeO (impl_readTask.j1 k y0 y1 y2 y3 y4 y5 y6 y7 y8) (impl_readTask.j1 (k + 1) y0 y1 y2 y3 y4 y5 y6 y7 y8))
  | 0 => ⟨fun _ _ _ _ _ r h => by simp [impl_readTask.l0] at h, fun _ _ _ _ _ _ _ _ _ r h => by simp [impl_readTask.j1] at h⟩
  | k + 1 => by
    obtain ⟨ih0, ih1⟩ := impl_readTask.mono_l k
    refine ⟨?_, ?_⟩
    · intro y0 y1 y2 y3 y4
      unfold impl_readTask.l0
      repeat' first
      | (with_reducible exact ih0 _ _ _ _ _)
      | (with_reducible exact ih1 _ _ _ _ _ _ _ _ _)
      | (with_reducible exact impl_TaskOK.mono _ _ _ _ _ _ _)
      | (with_reducible exact LeO.refl _)
      | (with_reducible exact LeO.none _)
      | (with_reducible refine LeO.ite ?_ ?_)
      | (with_reducible refine LeO.bind ?_ (fun _ => ?_))
      | exact ih0 _ _ _ _ _
      | exact ih1 _ _ _ _ _ _ _ _ _
      | exact impl_TaskOK.mono _ _ _ _ _ _ _
      | exact LeO.none _
      | refine LeO.ite ?_ ?_
      | refine LeO.bind ?_ (fun _ => ?_)
    · intro y0 y1 y2 y3 y4 y5 y6 y7 y8
      unfold impl_readTask.j1
      repeat' first
      | (with_reducible exact ih0 _ _ _ _ _)
      | (with_reducible exact ih1 _ _ _ _ _ _ _ _ _)
      | (with_reducible exact impl_TaskOK.mono _ _ _ _ _ _ _)
      | (with_reducible exact LeO.refl _)
      | (with_reducible exact LeO.none _)
      | (with_reducible refine LeO.ite ?_ ?_)
      | (with_reducible refine LeO.bind ?_ (fun _ => ?_))
      | exact ih0 _ _ _ _ _
      | exact ih1 _ _ _ _ _ _ _ _ _
      | exact impl_TaskOK.mono _ _ _ _ _ _ _
      | exact LeO.none _
      | refine LeO.ite ?_ ?_
      | refine LeO.bind ?_ (fun _ => ?_)
theorem impl_readTask.mono : ∀ a0 k, LeO (impl_readTask.f k a0) (impl_readTask.f (k + 1) a0) := by
  intro a0 k
  obtain ⟨ih0, ih1⟩ := impl_readTask.mono_l k
  unfold impl_readTask.f
  repeat' first
      | (with_reducible exact ih0 _ _ _ _ _)
      | (with_reducible exact ih1 _ _ _ _ _ _ _ _ _)
      | (with_reducible exact impl_TaskOK.mono _ _ _ _ _ _ _)
      | (with_reducible exact LeO.refl _)
      | (with_reducible exact LeO.none _)
      | (with_reducible refine LeO.ite ?_ ?_)
      | (with_reducible refine LeO.bind ?_ (fun _ => ?_))
      | exact ih0 _ _ _ _ _
      | exact ih1 _ _ _ _ _ _ _ _ _
      | exact impl_TaskOK.mono _ _ _ _ _ _ _
      | exact LeO.none _
      | refine LeO.ite ?_ ?_
      | refine LeO.bind ?_ (fun _ => ?_)
def impl_readTask.T14 : Bool × List (List Nat × List Nat) := (true, [([], []), ([0], [0]), ([1], [1]), ([], []), ([3], [3]), ([4], [4]), ([], []), ([6], [6]), ([7], [7]), ([2, 5, 8], [2, 5, 8]), ([9, 0, 1, 2, 3, 4, 5, 6, 7, 8, 9], [9])])
def impl_readTask.B14 : List Nat := [0, 1, 3, 0, 8, 24, 0, 64, 192, 511, 1023]
theorem impl_readTask.tab14 : rtab .any (opsOf Tryd.f45 14) = impl_readTask.T14 := by kernel_rfl
theorem impl_readTask.bits14 : waitsOk impl_readTask.T14.2 impl_readTask.B14 = true := by kernel_rfl
def impl_readTask.T16 : Bool × List (List Nat × List Nat) := (true, [([], []), ([0], [0]), ([1], [1]), ([], []), ([3], [3]), ([4], [4]), ([], []), ([6], [6]), ([7], [7]), ([], []), ([9], [9]), ([10], [10]), ([], []), ([12], [12]), ([13], [13]), ([2, 5, 8, 11, 14], [2, 5, 8, 11, 14]), ([15, 0, 1, 2, 3, 4, 5, 6, 7, 8, 9, 10, 11, 12, 13, 14, 15], [15])])
def impl_readTask.B16 : List Nat := [0, 1, 3, 0, 8, 24, 0, 64, 192, 0, 512, 1536, 0, 4096, 12288, 32767, 65535]
theorem impl_readTask.tab16 : rtab .any (opsOf Tryd.f45 16) = impl_readTask.T16 := by kernel_rfl
theorem impl_readTask.bits16 : waitsOk impl_readTask.T16.2 impl_readTask.B16 = true := by kernel_rfl
theorem impl_readTask.seen6 {w : World} {g : Nat} {a : Addr} {v : Value} {u0 u1 u2 u3 u4 u5 : Value} (h : w.cell? a = some v) (hg : a.block ≠ g) : (((((((w.setCell ⟨g, 0, none⟩ u0).setCell ⟨g, 1, none⟩ u1).setCell ⟨g, 2, none⟩ u2).setCell ⟨g, 3, none⟩ u3).setCell ⟨g, 4, none⟩ u4).setCell ⟨g, 5, none⟩ u5)).cell? a = some v :=
  ((cell_far (p := ⟨g, 5, none⟩) hg u5).trans ((cell_far (p := ⟨g, 4, none⟩) hg u4).trans ((cell_far (p := ⟨g, 3, none⟩) hg u3).trans ((cell_far (p := ⟨g, 2, none⟩) hg u2).trans ((cell_far (p := ⟨g, 1, none⟩) hg u1).trans ((cell_far (p := ⟨g, 0, none⟩) hg u0).trans h))))))
set_option maxHeartbeats 8000000 in
set_option maxRecDepth 100000 in
theorem impl_readTask.calls (k : Nat) (A0 : Option Addr) (c0 : Nat) (l0 : List ByteArray) (r1 : Int) (r2 : Int) (r3 : Int) (r4 : Int) (r5 : Int) (r6 : Int) (r7 : Bool) (w : World) (hr0 : Kd.C Kd.string w A0 l0.length l0) (hc0 : l0.length ≤ c0) (hG : Glob w) (h : impl_readTask.f k l0 = some (r1, r2, r3, r4, r5, r6, r7)) :
    Calls Tryd.prog 45 #[.slice A0 l0.length c0] w fun e w' => e = .returned (.tuple #[.agg #[.int .i64 r1, .int .i64 r2, .int .i64 r3, .int .i64 r4, .int .i64 r5, .int .i64 r6], .bool r7]) ∧ Below w.heap.size w w' := by
  have hu41 := Tryd.underlying41
  have HG := Aside0.mk hG
  clear hG
  have HR0 := Aside0.mk hr0
  have HC0 := Aside0.mk hc0
  clear hr0 hc0
  have HB := Aside0.mk (Below.refl w.heap.size w)
  have H : (if (l0.length : Int) = 0 then (some (0, 0, 0, 0, 0, 0, false)) else (if 1 ≤ (l0.length : Int) then (impl_readTask.l0 k l0 (([] : List Int)) (l0.drop 1) ((l0.drop 1).length : Int) 0) else (none))) = some (r1, r2, r3, r4, r5, r6, r7) := h
  clear h
  by_cases c2 : (l0.length : Int) = 0
  · rw [if_pos c2] at H
    have c2b0 : ((l0.length : Int) == 0) = true := beq_iff_eq.mpr c2
    have c2b1 : ((l0.length : Int) != 0) = false := bne_eq_false_iff_eq.mpr c2
    clear c2
    simp only [Option.some.injEq, Prod.mk.injEq] at H
    obtain ⟨rfl, rfl, rfl, rfl, rfl, rfl, rfl⟩ := H
    go_enter Tryd.func45, Tryd.ntmps45
    go_wp2_with (first | ((with_reducible refine gate_dst (N := 2) rfl ?_); (try (refine gate_guard (by rfl) ?_; dsimp only)); refine box_event ?hg (N := 2) ?hd (cs := #[.int .i64 0, .int .i64 0, .int .i64 0, .int .i64 0, .int .i64 0, .int .i64 0]) (t := 41) ?hr ?_; (case hd => rfl); (case hg => rfl); (case hr => first | (go_simp; done) | (go_simp; rfl)); intro gb156 hg w3 hbox hb; have n0_ := Aside0.mk (below_step (qw HB.out) hb); have n1_ := Aside0.mk (hbox); have n2_ := Aside0.mk ((by rw [hg]; exact (below_size (qw HB.out)) : w.heap.size ≤ gb156)); have n3_ := Aside0.mk ((by rw [hg]; exact (below_size (qw HB.out)) : w.heap.size ≤ gb156)); clear HB; have HB := n0_; have BK156 := n1_; have GW156 := n2_; have GE156 := n3_; clear n0_ n1_ n2_ n3_; clear hb hbox hg; have hcz4_0 : w3.cell? ⟨gb156, 0, none⟩ = some (.int .i64 0) := (blk_cell BK156.out 0).trans rfl; have hcz4_1 : w3.cell? ⟨gb156, 1, none⟩ = some (.int .i64 0) := (blk_cell BK156.out 1).trans rfl; have hcz4_2 : w3.cell? ⟨gb156, 2, none⟩ = some (.int .i64 0) := (blk_cell BK156.out 2).trans rfl; have hcz4_3 : w3.cell? ⟨gb156, 3, none⟩ = some (.int .i64 0) := (blk_cell BK156.out 3).trans rfl; have hcz4_4 : w3.cell? ⟨gb156, 4, none⟩ = some (.int .i64 0) := (blk_cell BK156.out 4).trans rfl; have hcz4_5 : w3.cell? ⟨gb156, 5, none⟩ = some (.int .i64 0) := (blk_cell BK156.out 5).trans rfl; have hfz4_0 := blk_frozen BK156.out 0; have hfz4_1 := blk_frozen BK156.out 1; have hfz4_2 := blk_frozen BK156.out 2; have hfz4_3 := blk_frozen BK156.out 3; have hfz4_4 := blk_frozen BK156.out 4; have hfz4_5 := blk_frozen BK156.out 5))
    refine bodyPost_ret (results_ct rfl _ _ gb156 41 #[.int .i64 0, .int .i64 0, .int .i64 0, .int .i64 0, .int .i64 0, .int .i64 0] (0, 0) _ rfl (by (with_reducible repeat (first | refine blk_drewN ?_ _ | refine blk_drew ?_ | refine blk_alloc ?_ _)); refine blk_put (cs := #[.int .i64 0, .int .i64 0, .int .i64 0, .int .i64 0, .int .i64 0, .int .i64 0]) ?_ 5 _ rfl; (with_reducible repeat (first | refine blk_drewN ?_ _ | refine blk_drew ?_ | refine blk_alloc ?_ _)); refine blk_put (cs := #[.int .i64 0, .int .i64 0, .int .i64 0, .int .i64 0, .int .i64 0, .int .i64 0]) ?_ 4 _ rfl; (with_reducible repeat (first | refine blk_drewN ?_ _ | refine blk_drew ?_ | refine blk_alloc ?_ _)); refine blk_put (cs := #[.int .i64 0, .int .i64 0, .int .i64 0, .int .i64 0, .int .i64 0, .int .i64 0]) ?_ 3 _ rfl; (with_reducible repeat (first | refine blk_drewN ?_ _ | refine blk_drew ?_ | refine blk_alloc ?_ _)); refine blk_put (cs := #[.int .i64 0, .int .i64 0, .int .i64 0, .int .i64 0, .int .i64 0, .int .i64 0]) ?_ 2 _ rfl; (with_reducible repeat (first | refine blk_drewN ?_ _ | refine blk_drew ?_ | refine blk_alloc ?_ _)); refine blk_put (cs := #[.int .i64 0, .int .i64 0, .int .i64 0, .int .i64 0, .int .i64 0, .int .i64 0]) ?_ 1 _ rfl; (with_reducible repeat (first | refine blk_drewN ?_ _ | refine blk_drew ?_ | refine blk_alloc ?_ _)); refine blk_put (cs := #[.int .i64 0, .int .i64 0, .int .i64 0, .int .i64 0, .int .i64 0, .int .i64 0]) ?_ 0 _ rfl; (with_reducible repeat (first | refine blk_drewN ?_ _ | refine blk_drew ?_ | refine blk_alloc ?_ _)); exact BK156.out) Tryd.underlying41 rfl (by kernel_rfl)) rfl ?_
    exact ⟨qe, qw HB.out⟩
  · rw [if_neg c2] at H
    have c2b0 : ((l0.length : Int) == 0) = false := beq_eq_false_iff_ne.mpr c2
    have c2b1 : ((l0.length : Int) != 0) = true := bne_iff_ne.mpr c2
    have c2b2 : ¬ (l0 = []) := fun h_ => c2 (by rw [h_]; rfl)
    obtain ⟨y157, hy157⟩ : ∃ y_ : List Int, y_ = (([] : List Int)) := ⟨_, rfl⟩
    replace H : (if 1 ≤ (l0.length : Int) then (impl_readTask.l0 k l0 y157 (l0.drop 1) ((l0.drop 1).length : Int) 0) else (none)) = some (r1, r2, r3, r4, r5, r6, r7) := by first | (rw [hy157]; with_reducible exact H) | (have H2_ := (Option.bind_some _ _).symm.trans H; rw [hy157]; with_reducible exact H2_) | (have H2_ := (Option.bind_some _ _).symm.trans H; with_reducible exact H2_) | with_reducible exact H | (rw [hy157]; exact H) | exact H
    have Ny157 := Aside0.mk hy157
    clear hy157
    by_cases c5 : 1 ≤ (l0.length : Int)
    · rw [if_pos c5] at H
      have c5b0 := eq_true c5
      have c5b1 : decide (1 ≤ (l0.length : Int)) = true := decide_eq_true c5
      clear c5
      have H' := Aside0.mk H
      clear H
      go_enter Tryd.func45, Tryd.ntmps45
      go_wp2_with (first | ((with_reducible refine gate_dst (N := 2) rfl ?_); (try (refine gate_guard (by rfl) ?_; dsimp only)); refine box_event ?hg (N := 2) ?hd (cs := #[.int .i64 0, .int .i64 0, .int .i64 0, .int .i64 0, .int .i64 0, .int .i64 0]) (t := 41) ?hr ?_; (case hd => rfl); (case hg => rfl); (case hr => first | (go_simp; done) | (go_simp; rfl)); intro gb156 hg w6 hbox hb; have n0_ := Aside0.mk (below_step (qw HB.out) hb); have n1_ := Aside0.mk (hbox); have n2_ := Aside0.mk ((by rw [hg]; exact (below_size (qw HB.out)) : w.heap.size ≤ gb156)); have n3_ := Aside0.mk ((by rw [hg]; exact (below_size (qw HB.out)) : w.heap.size ≤ gb156)); clear HB; have HB := n0_; have BK156 := n1_; have GW156 := n2_; have GE156 := n3_; clear n0_ n1_ n2_ n3_; clear hb hbox hg) | ((with_reducible refine gate_dst (N := 14) rfl ?_); (try (refine gate_guard (by rfl) ?_; dsimp only)); refine Kd.R_lit (Kd.int .i64) _ 3 ?hg (N := 14) ?hd (xs := ([] : List Int)) (inner := []) (ok := fun _ => True) (okp := fun _ => True) ?hr ?hp (fun _ hk => hk) trivial (Below.refl _ _) (Nat.le_refl _) (by simp) ?_; (case hd => rfl); (case hg => rfl); (case hr => first | (go_simp; done) | (go_simp; rfl)); (case hp => exact (Reps.none _ _)); intro v158 w7 ho8 hb hg_ hnew_; clear hg_ hnew_; (first | rw [← Ny157.out] at ho8 | (simp only [Int.reduceToNat] at ho8; rw [← Ny157.out] at ho8)); have n0_ := Aside0.mk (Kd.R_lower ho8 (below_size (qw HB.out))); have n1_ := Aside0.mk (blk_below (g := gb156) (o := .cells #[.int .i64 0, .int .i64 0, .int .i64 0, .int .i64 0, .int .i64 0, .int .i64 0] 41 (0, 0)) (qb BK156.out) hb); have n2_ := Aside0.mk (below_step (qw HB.out) hb); clear BK156; clear HB; have HO159 := n0_; have BK156 := n1_; have HB := n2_; clear n0_ n1_ n2_; clear hb ho8; obtain ⟨i09, hi09, _, hsz9, _⟩ := info_parts info9; obtain ⟨A9, hcut9, hA9, hC9⟩ := print_drop_of (P := Tryd.prog) Value.string (⟨#[]⟩ : ByteArray) 28 9 .i64 Tryd.underlying28 hi09 hsz9 A0 c0 l0 1 (by omega) (of_decide_eq_true qs) HC0.out; have HR160 := Aside0.mk (Kd.C_of_reads (h1 := fun _ => rfl) (hA9 _ (Kd.reads_of_C HR0.out))); have HC160 := Aside0.mk hC9; clear hA9 hC9 hi09 hsz9))
      go_loopg [4, 18] k (fun kq v4 v18 w' => ∃ (x4_1 : List Int) (x18_1 : Int) (x157000_1 : Int) (x157001_1 : Int) (x157002_1 : Int) (x157003_1 : Int) (x157004_1 : Int) (x157005_1 : Int), v18 = .int .i64 x18_1 ∧ Aside0 (impl_readTask.l0 kq l0 x4_1 (l0.drop 1) ((l0.drop 1).length : Int) x18_1 = some (r1, r2, r3, r4, r5, r6, r7)) ∧ Aside0 (kq ≤ k) ∧ Aside0 (Kd.R (Kd.int .i64) 3 w' w.heap.size (fun _ => True) v4 x4_1) ∧ Aside0 (w'.heap[gb156]? = some (.cells #[.int .i64 x157000_1, .int .i64 x157001_1, .int .i64 x157002_1, .int .i64 x157003_1, .int .i64 x157004_1, .int .i64 x157005_1] 41 (0, 0))) ∧ Aside0 (Below w.heap.size w w'))
      case atStart => exact ⟨(y157), (0), (0), (0), (0), (0), (0), (0), (by first | rfl | (simp; done) | (simp [*]; done)), H', ⟨Nat.le_refl _⟩, ⟨qr HO159.out⟩, ⟨qb BK156.out⟩, ⟨qw HB.out⟩⟩
      case round =>
        clear H'
        try clear c2
        try clear c2b0
        try clear c2b1
        try clear c2b2
        try clear p2
        try clear c4
        try clear c5
        try clear c5b0
        try clear c5b1
        try clear hcz4_0
        try clear hcz4_1
        try clear hcz4_2
        try clear hcz4_3
        try clear hcz4_4
        try clear hcz4_5
        try clear hfz4_0
        try clear hfz4_1
        try clear hfz4_2
        try clear hfz4_3
        try clear hfz4_4
        try clear hfz4_5
        obtain ⟨x4_1, x18_1, x157000_1, x157001_1, x157002_1, x157003_1, x157004_1, x157005_1, rfl, HA, HK1, HO_4, BK156, HB⟩ := hrel
        cases gk with
        | zero => exact absurd HA.out (by simp [impl_readTask.l0])
        | succ k1 =>
          have H := HA.out
          clear HA
          simp only [impl_readTask.l0] at H
          by_cases c10 : x18_1 < ((l0.drop 1).length : Int)
          · rw [if_pos c10] at H
            have c10b0 : decide (x18_1 < ((l0.drop 1).length : Int)) = true := decide_eq_true c10
            have c10b0z : decide (x18_1 < ((l0.length - 1 : Nat) : Int)) = true := by have hz_ := c10b0; rw [List.length_drop] at hz_; exact hz_
            clear c10
            by_cases c11 : 0 ≤ x18_1
            · rw [if_pos c11] at H
              have c11b0 : decide (0 ≤ x18_1) = true := decide_eq_true c11
              clear c11
              by_cases c12 : x18_1 < ((l0.drop 1).length : Int)
              · rw [if_pos c12] at H
                have c12b0 : decide (x18_1 < ((l0.drop 1).length : Int)) = true := decide_eq_true c12
                have c12b0z : decide (x18_1 < ((l0.length - 1 : Nat) : Int)) = true := by have hz_ := c12b0; rw [List.length_drop] at hz_; exact hz_
                clear c12
                replace H := Option.bind_eq_some_iff.mp H
                obtain ⟨⟨t162, t163⟩, A130, H⟩ := H
                replace H : (if t163 = true then (if x4_1.length < 17592186044416 then (impl_readTask.l0 k1 l0 (x4_1 ++ [t162]) (l0.drop 1) ((l0.drop 1).length : Int) (wrap64 (x18_1 + 1))) else (none)) else (some (0, 0, 0, 0, 0, 0, false))) = some (r1, r2, r3, r4, r5, r6, r7) := H
                have A13 := Aside0.mk A130
                clear A130
                by_cases c14 : t163 = true
                · subst c14
                  have H1 : (if x4_1.length < 17592186044416 then (impl_readTask.l0 k1 l0 (x4_1 ++ [t162]) (l0.drop 1) ((l0.drop 1).length : Int) (wrap64 (x18_1 + 1))) else (none)) = some (r1, r2, r3, r4, r5, r6, r7) := by rw [if_pos rfl] at H; exact H
                  clear H
                  have H := H1
                  clear H1
                  by_cases c15 : x4_1.length < 17592186044416
                  · rw [if_pos c15] at H
                    have LMc15 := Aside0.mk c15
                    clear c15
                    obtain ⟨y164, hy164⟩ : ∃ y_ : List Int, y_ = (x4_1 ++ [t162]) := ⟨_, rfl⟩
                    replace H : (impl_readTask.l0 k1 l0 y164 (l0.drop 1) ((l0.drop 1).length : Int) (wrap64 (x18_1 + 1))) = some (r1, r2, r3, r4, r5, r6, r7) := by first | (rw [hy164]; with_reducible exact H) | (have H2_ := (Option.bind_some _ _).symm.trans H; rw [hy164]; with_reducible exact H2_) | (have H2_ := (Option.bind_some _ _).symm.trans H; with_reducible exact H2_) | with_reducible exact H | (rw [hy164]; exact H) | exact H
                    have Ny164 := Aside0.mk hy164
                    clear hy164
                    have H' := Aside0.mk H
                    clear H
                    have p161 : 0 ≤ (x18_1 : Int) := of_decide_eq_true qs
                    have q161 : x18_1 < ((l0.drop 1).length : Int) := of_decide_eq_true qs
                    have q161z : (x18_1 < ((l0.length - 1 : Nat) : Int)) = True := by have hz_ := q161; rw [List.length_drop] at hz_; exact eq_true hz_
                    obtain ⟨ad161, e161, hx161_0⟩ := Kd.at_string HR160.out x18_1 p161 q161
                    cases e161
                    replace hx161_0 := (HB.out.cell (World.block_lt_of_cell? w _ hx161_0)).trans hx161_0
                    replace p161 := eq_true p161
                    replace q161 := eq_true q161
                    go_wp2_with (first | ((with_reducible refine gate_callee (f := 68) rfl ?_); refine goesL_ (some 24) rfl rfl Tryd.func68 (by kernel_rfl) rfl #[.string (rdOf ByteArray.empty (l0.drop 1) x18_1)] rfl (by (try simp only [List.map_toArray, List.map_cons, List.map_nil]); first | done | rfl | (simp only [List.length_drop, List.length_take]; rfl) | (simp only [List.drop_one]; rfl)) ?_; (with_reducible refine (impl_readDecimal.calls (rdOf ByteArray.empty (l0.drop 1) x18_1) t162 true _ ?side1 A13.out).mono ?_); (case side1 => exact Glob.below HG.out (qw HB.out)); rintro e w16 ⟨rfl, hb⟩; refine ⟨_, rfl, ?_⟩; have n0_ := Aside0.mk (Kd.R_below (qr HO_4.out) hb); have n1_ := Aside0.mk (blk_below (g := gb156) (o := .cells #[.int .i64 x157000_1, .int .i64 x157001_1, .int .i64 x157002_1, .int .i64 x157003_1, .int .i64 x157004_1, .int .i64 x157005_1] 41 (0, 0)) (qb BK156.out) hb); have n2_ := Aside0.mk (below_step (qw HB.out) hb); clear HO_4; clear BK156; clear HB; have HO_4 := n0_; have BK156 := n1_; have HB := n2_; clear n0_ n1_ n2_; (try clear hb); (try clear hb2); (try clear hk); (try clear hi)) | ((with_reducible refine gate_builtin (b := .append) (xs := #[.tmp 30, .tmp 32]) rfl ?_); (try (refine gate_guard (by rfl) ?_; dsimp only)); at_builtin; refine Kd.R_append (Kd.int .i64) (w0 := w) w.heap.size rfl (.tmp 30) (.tmp 32) 22 3 (.int .i64 0) 8 rfl Tryd.underlying22 info3 rfl (by decide) (by omega) u4 x4_1 t162 [.int .i64 t162] (fun _ => True) (fun _ => False) rfl rfl ?aP (fun _ hk => hk.elim) ?aF ?aO ?aB ?aS ?aL ?_; (case aP => exact rfl); (case aB => exact (qw HB.out)); (case aF => exact (fun _ _ => trivial)); (case aO => exact (qr HO_4.out)); (case aS => exact (below_size (qw HB.out))); (case aL => have := LMc15.out; omega); intro v165 w17 ho hb hg hat; rw [← Ny164.out] at ho; have n0_ := Aside0.mk (blk_grown (g := gb156) (o := .cells #[.int .i64 x157000_1, .int .i64 x157001_1, .int .i64 x157002_1, .int .i64 x157003_1, .int .i64 x157004_1, .int .i64 x157005_1] 41 (0, 0)) (qb BK156.out) hg (Kd.R_ne HO_4.out BK156.out (by decide))); have n1_ := Aside0.mk (hb); have n2_ := Aside0.mk (ho); clear BK156; clear HB; clear HO_4; have BK156 := n0_; have HB := n1_; have HO166 := n2_; clear n0_ n1_ n2_; clear ho hb hg hat))
                    go_roundg k1
                    case measure => have := HK1.out; omega
                    case rel => exact ⟨(y164), (wrap64 (x18_1 + 1)), (x157000_1), (x157001_1), (x157002_1), (x157003_1), (x157004_1), (x157005_1), (by first | rfl | (simp; done) | (simp [*]; done)), H', ⟨by have := HK1.out; omega⟩, ⟨qr HO166.out⟩, ⟨qb BK156.out⟩, ⟨qw HB.out⟩⟩
                  · rw [if_neg c15] at H
                    exact absurd H (by simp)
                · replace c14 := Bool.eq_false_iff.mpr c14
                  subst c14
                  have H1 : (some (0, 0, 0, 0, 0, 0, false)) = some (r1, r2, r3, r4, r5, r6, r7) := by rw [if_neg (show ¬ (false = true) by decide)] at H; exact H
                  clear H
                  have H := H1
                  clear H1
                  simp only [Option.some.injEq, Prod.mk.injEq] at H
                  obtain ⟨rfl, rfl, rfl, rfl, rfl, rfl, rfl⟩ := H
                  have p161 : 0 ≤ (x18_1 : Int) := of_decide_eq_true qs
                  have q161 : x18_1 < ((l0.drop 1).length : Int) := of_decide_eq_true qs
                  have q161z : (x18_1 < ((l0.length - 1 : Nat) : Int)) = True := by have hz_ := q161; rw [List.length_drop] at hz_; exact eq_true hz_
                  obtain ⟨ad161, e161, hx161_0⟩ := Kd.at_string HR160.out x18_1 p161 q161
                  cases e161
                  replace hx161_0 := (HB.out.cell (World.block_lt_of_cell? w _ hx161_0)).trans hx161_0
                  replace p161 := eq_true p161
                  replace q161 := eq_true q161
                  go_wp2_with (first | ((with_reducible refine gate_callee (f := 68) rfl ?_); refine goesL_ (some 24) rfl rfl Tryd.func68 (by kernel_rfl) rfl #[.string (rdOf ByteArray.empty (l0.drop 1) x18_1)] rfl (by (try simp only [List.map_toArray, List.map_cons, List.map_nil]); first | done | rfl | (simp only [List.length_drop, List.length_take]; rfl) | (simp only [List.drop_one]; rfl)) ?_; (with_reducible refine (impl_readDecimal.calls (rdOf ByteArray.empty (l0.drop 1) x18_1) t162 false _ ?side1 A13.out).mono ?_); (case side1 => exact Glob.below HG.out (qw HB.out)); rintro e w18 ⟨rfl, hb⟩; refine ⟨_, rfl, ?_⟩; have n0_ := Aside0.mk (Kd.R_below (qr HO_4.out) hb); have n1_ := Aside0.mk (blk_below (g := gb156) (o := .cells #[.int .i64 x157000_1, .int .i64 x157001_1, .int .i64 x157002_1, .int .i64 x157003_1, .int .i64 x157004_1, .int .i64 x157005_1] 41 (0, 0)) (qb BK156.out) hb); have n2_ := Aside0.mk (below_step (qw HB.out) hb); clear HO_4; clear BK156; clear HB; have HO_4 := n0_; have BK156 := n1_; have HB := n2_; clear n0_ n1_ n2_; (try clear hb); (try clear hb2); (try clear hk); (try clear hi); have hcz19_0 : w18.cell? ⟨gb156, 0, none⟩ = some (.int .i64 x157000_1) := (blk_cell BK156.out 0).trans rfl; have hcz19_1 : w18.cell? ⟨gb156, 1, none⟩ = some (.int .i64 x157001_1) := (blk_cell BK156.out 1).trans rfl; have hcz19_2 : w18.cell? ⟨gb156, 2, none⟩ = some (.int .i64 x157002_1) := (blk_cell BK156.out 2).trans rfl; have hcz19_3 : w18.cell? ⟨gb156, 3, none⟩ = some (.int .i64 x157003_1) := (blk_cell BK156.out 3).trans rfl; have hcz19_4 : w18.cell? ⟨gb156, 4, none⟩ = some (.int .i64 x157004_1) := (blk_cell BK156.out 4).trans rfl; have hcz19_5 : w18.cell? ⟨gb156, 5, none⟩ = some (.int .i64 x157005_1) := (blk_cell BK156.out 5).trans rfl; have hfz19_0 := blk_frozen BK156.out 0; have hfz19_1 := blk_frozen BK156.out 1; have hfz19_2 := blk_frozen BK156.out 2; have hfz19_3 := blk_frozen BK156.out 3; have hfz19_4 := blk_frozen BK156.out 4; have hfz19_5 := blk_frozen BK156.out 5))
                  refine bodyPost_ret (results_ct rfl _ _ gb156 41 #[.int .i64 0, .int .i64 0, .int .i64 0, .int .i64 0, .int .i64 0, .int .i64 0] (0, 0) _ rfl (by (with_reducible repeat (first | refine blk_drewN ?_ _ | refine blk_drew ?_ | refine blk_alloc ?_ _)); refine blk_put (cs := #[.int .i64 0, .int .i64 0, .int .i64 0, .int .i64 0, .int .i64 0, .int .i64 x157005_1]) ?_ 5 _ rfl; (with_reducible repeat (first | refine blk_drewN ?_ _ | refine blk_drew ?_ | refine blk_alloc ?_ _)); refine blk_put (cs := #[.int .i64 0, .int .i64 0, .int .i64 0, .int .i64 0, .int .i64 x157004_1, .int .i64 x157005_1]) ?_ 4 _ rfl; (with_reducible repeat (first | refine blk_drewN ?_ _ | refine blk_drew ?_ | refine blk_alloc ?_ _)); refine blk_put (cs := #[.int .i64 0, .int .i64 0, .int .i64 0, .int .i64 x157003_1, .int .i64 x157004_1, .int .i64 x157005_1]) ?_ 3 _ rfl; (with_reducible repeat (first | refine blk_drewN ?_ _ | refine blk_drew ?_ | refine blk_alloc ?_ _)); refine blk_put (cs := #[.int .i64 0, .int .i64 0, .int .i64 x157002_1, .int .i64 x157003_1, .int .i64 x157004_1, .int .i64 x157005_1]) ?_ 2 _ rfl; (with_reducible repeat (first | refine blk_drewN ?_ _ | refine blk_drew ?_ | refine blk_alloc ?_ _)); refine blk_put (cs := #[.int .i64 0, .int .i64 x157001_1, .int .i64 x157002_1, .int .i64 x157003_1, .int .i64 x157004_1, .int .i64 x157005_1]) ?_ 1 _ rfl; (with_reducible repeat (first | refine blk_drewN ?_ _ | refine blk_drew ?_ | refine blk_alloc ?_ _)); refine blk_put (cs := #[.int .i64 x157000_1, .int .i64 x157001_1, .int .i64 x157002_1, .int .i64 x157003_1, .int .i64 x157004_1, .int .i64 x157005_1]) ?_ 0 _ rfl; (with_reducible repeat (first | refine blk_drewN ?_ _ | refine blk_drew ?_ | refine blk_alloc ?_ _)); exact BK156.out) Tryd.underlying41 rfl (by kernel_rfl)) rfl ?_
                  exact ⟨qe, qw HB.out⟩
              · rw [if_neg c12] at H
                exact absurd H (by simp)
            · rw [if_neg c11] at H
              exact absurd H (by simp)
          · rw [if_neg c10] at H
            have c10b0 : decide (x18_1 < ((l0.drop 1).length : Int)) = false := decide_eq_false c10
            have c10b0z : decide (x18_1 < ((l0.length - 1 : Nat) : Int)) = false := by have hz_ := c10b0; rw [List.length_drop] at hz_; exact hz_
            clear c10
            have HC20 := Aside0.mk H
            clear H
            go_upto_region 13 with (first | ((with_reducible refine gate_dst (N := 9) rfl ?_); (try (refine gate_guard (by rfl) ?_; dsimp only)); refine box_event ?hg (N := 9) ?hd (cs := #[.int .i64 0, .int .i64 0, .int .i64 0, .int .i64 0, .int .i64 0, .int .i64 0]) (t := 41) ?hr ?_; (case hd => rfl); (case hg => rfl); (case hr => first | (go_simp; done) | (go_simp; rfl)); intro gb167 hg w21 hbox hb; have n0_ := Aside0.mk (Kd.R_below (qr HO_4.out) hb); have n1_ := Aside0.mk (blk_below (g := gb156) (o := .cells #[.int .i64 x157000_1, .int .i64 x157001_1, .int .i64 x157002_1, .int .i64 x157003_1, .int .i64 x157004_1, .int .i64 x157005_1] 41 (0, 0)) (qb BK156.out) hb); have n2_ := Aside0.mk (below_step (qw HB.out) hb); have n3_ := Aside0.mk (hbox); have n4_ := Aside0.mk ((by rw [hg]; exact (below_size (qw HB.out)) : w.heap.size ≤ gb167)); have n5_ := Aside0.mk ((by rw [hg]; exact (below_size (qw HB.out)) : w.heap.size ≤ gb167)); have n6_ := Aside0.mk ((by rw [hg]; exact Nat.ne_of_lt (blk_lt (g := gb156) (o := .cells #[.int .i64 x157000_1, .int .i64 x157001_1, .int .i64 x157002_1, .int .i64 x157003_1, .int .i64 x157004_1, .int .i64 x157005_1] 41 (0, 0)) (qb BK156.out)) : gb156 ≠ gb167)); have n7_ := Aside0.mk ((by rw [hg]; exact Nat.ne_of_gt (blk_lt (g := gb156) (o := .cells #[.int .i64 x157000_1, .int .i64 x157001_1, .int .i64 x157002_1, .int .i64 x157003_1, .int .i64 x157004_1, .int .i64 x157005_1] 41 (0, 0)) (qb BK156.out)) : gb167 ≠ gb156)); clear HO_4; clear BK156; clear HB; have HO_4 := n0_; have BK156 := n1_; have HB := n2_; have BK167 := n3_; have GW167 := n4_; have GE167 := n5_; have NB156_167 := n6_; have NB167_156 := n7_; clear n0_ n1_ n2_ n3_ n4_ n5_ n6_ n7_; clear hb hbox hg; have hnb22 := NB167_156.out; have hnc22 := NB156_167.out; have hcz23_0 : w21.cell? ⟨gb167, 0, none⟩ = some (.int .i64 0) := (blk_cell BK167.out 0).trans rfl; have hcz23_1 : w21.cell? ⟨gb167, 1, none⟩ = some (.int .i64 0) := (blk_cell BK167.out 1).trans rfl; have hcz23_2 : w21.cell? ⟨gb167, 2, none⟩ = some (.int .i64 0) := (blk_cell BK167.out 2).trans rfl; have hcz23_3 : w21.cell? ⟨gb167, 3, none⟩ = some (.int .i64 0) := (blk_cell BK167.out 3).trans rfl; have hcz23_4 : w21.cell? ⟨gb167, 4, none⟩ = some (.int .i64 0) := (blk_cell BK167.out 4).trans rfl; have hcz23_5 : w21.cell? ⟨gb167, 5, none⟩ = some (.int .i64 0) := (blk_cell BK167.out 5).trans rfl; have hfz23_0 := blk_frozen BK167.out 0; have hfz23_1 := blk_frozen BK167.out 1; have hfz23_2 := blk_frozen BK167.out 2; have hfz23_3 := blk_frozen BK167.out 3; have hfz23_4 := blk_frozen BK167.out 4; have hfz23_5 := blk_frozen BK167.out 5))
            (try simp only [Act.put, List.setIfInBounds_toArray, List.set_cons_zero, List.set_cons_succ])
            go_cut [36] (fun v36 wc => ∃ (kq : Nat) (x36_19 : Bool), v36 = .bool x36_19 ∧ Aside0 (impl_readTask.j1 kq l0 x4_1 x36_19 0 0 0 0 0 0 = some (r1, r2, r3, r4, r5, r6, r7)) ∧ Aside0 (kq ≤ k1) ∧ Aside0 (Kd.R (Kd.int .i64) 3 wc w.heap.size (fun _ => True) u4 x4_1) ∧ Aside0 (wc.heap[gb156]? = some (.cells #[.int .i64 x157000_1, .int .i64 x157001_1, .int .i64 x157002_1, .int .i64 x157003_1, .int .i64 x157004_1, .int .i64 x157005_1] 41 (0, 0))) ∧ Aside0 (wc.heap[gb167]? = some (.cells #[.int .i64 0, .int .i64 0, .int .i64 0, .int .i64 0, .int .i64 0, .int .i64 0] 41 (0, 0))) ∧ Aside0 (Below w.heap.size w wc))
            case first =>
              have H := HC20.out
              clear HC20
              by_cases c24 : 0 < (l0.length : Int)
              · rw [if_pos c24] at H
                have c24b0 : decide (0 < (l0.length : Int)) = true := decide_eq_true c24
                have c24b1 : decide (0 < l0.length) = true := decide_eq_true (by omega)
                clear c24
                (first | rw [c24b0] | (simp only [i64_w, i32_w]; rw [c24b0]) | rw [c24x0] | (simp only [i64_w, i32_w]; rw [c24x0]) | skip)
                by_cases c25 : (rdOf ByteArray.empty l0 0).toList = ([99, 121, 99, 108, 105, 99] : List UInt8)
                · rw [if_pos c25] at H
                  have c25b0 : ((rdOf ByteArray.empty l0 0).toList == ([99, 121, 99, 108, 105, 99] : List UInt8)) = true := beq_iff_eq.mpr c25
                  have c25b1 : ((rdOf ByteArray.empty l0 0).toList != ([99, 121, 99, 108, 105, 99] : List UInt8)) = false := bne_eq_false_iff_eq.mpr c25
                  clear c25
                  have H' := Aside0.mk H
                  clear H
                  have p168 : 0 ≤ (0 : Int) := (by omega)
                  have q168 : 0 < (l0.length : Int) := of_decide_eq_true qs
                  obtain ⟨ad168, e168, hx168_0⟩ := Kd.at_string HR0.out 0 p168 q168
                  cases e168
                  have qi168 : (0 < l0.length) = True := eq_true (by omega)
                  (try rw [show ((0 : Int)).toNat = 0 from rfl] at hx168_0)
                  (try rw [Addr.add_zero'] at hx168_0)
                  have hn168_0 : ad168.block ≠ gb167 := Nat.ne_of_lt (Nat.lt_of_lt_of_le (by have := World.block_lt_of_cell? _ _ hx168_0; first | rwa [add_block] at this | exact this) GW167.out)
                  have hn168_1 : ad168.block ≠ gb167 := Nat.ne_of_lt (Nat.lt_of_lt_of_le (by have := World.block_lt_of_cell? _ _ hx168_0; first | rwa [add_block] at this | exact this) GW167.out)
                  have hn168_2 : ad168.block ≠ gb167 := Nat.ne_of_lt (Nat.lt_of_lt_of_le (by have := World.block_lt_of_cell? _ _ hx168_0; first | rwa [add_block] at this | exact this) GW167.out)
                  have hn168_3 : ad168.block ≠ gb167 := Nat.ne_of_lt (Nat.lt_of_lt_of_le (by have := World.block_lt_of_cell? _ _ hx168_0; first | rwa [add_block] at this | exact this) GW167.out)
                  have hn168_4 : ad168.block ≠ gb167 := Nat.ne_of_lt (Nat.lt_of_lt_of_le (by have := World.block_lt_of_cell? _ _ hx168_0; first | rwa [add_block] at this | exact this) GW167.out)
                  have hn168_5 : ad168.block ≠ gb167 := Nat.ne_of_lt (Nat.lt_of_lt_of_le (by have := World.block_lt_of_cell? _ _ hx168_0; first | rwa [add_block] at this | exact this) GW167.out)
                  replace hx168_0 := (HB.out.cell (World.block_lt_of_cell? w _ hx168_0)).trans hx168_0
                  replace hx168_0 := (cell_far (p := ⟨gb167, 0, none⟩) (by first | (rw [add_block]; exact hn168_0) | (show (Addr.add _ _).block ≠ _; rw [add_block]; exact hn168_0) | exact hn168_0) (.int .i64 0)).trans hx168_0
                  replace hx168_0 := (cell_far (p := ⟨gb167, 1, none⟩) (by first | (rw [add_block]; exact hn168_1) | (show (Addr.add _ _).block ≠ _; rw [add_block]; exact hn168_1) | exact hn168_1) (.int .i64 0)).trans hx168_0
                  replace hx168_0 := (cell_far (p := ⟨gb167, 2, none⟩) (by first | (rw [add_block]; exact hn168_2) | (show (Addr.add _ _).block ≠ _; rw [add_block]; exact hn168_2) | exact hn168_2) (.int .i64 0)).trans hx168_0
                  replace hx168_0 := (cell_far (p := ⟨gb167, 3, none⟩) (by first | (rw [add_block]; exact hn168_3) | (show (Addr.add _ _).block ≠ _; rw [add_block]; exact hn168_3) | exact hn168_3) (.int .i64 0)).trans hx168_0
                  replace hx168_0 := (cell_far (p := ⟨gb167, 4, none⟩) (by first | (rw [add_block]; exact hn168_4) | (show (Addr.add _ _).block ≠ _; rw [add_block]; exact hn168_4) | exact hn168_4) (.int .i64 0)).trans hx168_0
                  replace hx168_0 := (cell_far (p := ⟨gb167, 5, none⟩) (by first | (rw [add_block]; exact hn168_5) | (show (Addr.add _ _).block ≠ _; rw [add_block]; exact hn168_5) | exact hn168_5) (.int .i64 0)).trans hx168_0
                  clear hn168_0
                  clear hn168_1
                  clear hn168_2
                  clear hn168_3
                  clear hn168_4
                  clear hn168_5
                  replace p168 := eq_true p168
                  replace q168 := eq_true q168
                  obtain ⟨Ao26, co26, eo26⟩ := Kd.R_slice HO_4.out
                  subst eo26
                  go_wp2
                  go_meet
                  case rel => exact ⟨_, (((x4_1.length : Int) == 3)), (by first | rfl | (simp; done) | (simp [*]; done)), H', ⟨by have := HK1.out; first | omega | exact Nat.le_refl _⟩, ⟨by (with_reducible repeat (first | apply Kd.R_alloc | apply Kd.R_drewN | apply Kd.R_drew)); exact Kd.R_mono (Kd.R_far (p := ⟨gb167, 5, none⟩) (Kd.R_far (p := ⟨gb167, 4, none⟩) (Kd.R_far (p := ⟨gb167, 3, none⟩) (Kd.R_far (p := ⟨gb167, 2, none⟩) (Kd.R_far (p := ⟨gb167, 1, none⟩) (Kd.R_far (p := ⟨gb167, 0, none⟩) (Kd.R_types HO_4.out BK167.out (by decide)) (fun _ hk => hk.2) (.int .i64 0)) (fun _ hk => hk.2) (.int .i64 0)) (fun _ hk => hk.2) (.int .i64 0)) (fun _ hk => hk.2) (.int .i64 0)) (fun _ hk => hk.2) (.int .i64 0)) (fun _ hk => hk.2) (.int .i64 0)) (fun _ hk => trivial)⟩, ⟨by (with_reducible repeat (first | refine blk_drewN ?_ _ | refine blk_drew ?_ | refine blk_alloc ?_ _)); refine blk_far ?_ NB156_167.out _; (with_reducible repeat (first | refine blk_drewN ?_ _ | refine blk_drew ?_ | refine blk_alloc ?_ _)); refine blk_far ?_ NB156_167.out _; (with_reducible repeat (first | refine blk_drewN ?_ _ | refine blk_drew ?_ | refine blk_alloc ?_ _)); refine blk_far ?_ NB156_167.out _; (with_reducible repeat (first | refine blk_drewN ?_ _ | refine blk_drew ?_ | refine blk_alloc ?_ _)); refine blk_far ?_ NB156_167.out _; (with_reducible repeat (first | refine blk_drewN ?_ _ | refine blk_drew ?_ | refine blk_alloc ?_ _)); refine blk_far ?_ NB156_167.out _; (with_reducible repeat (first | refine blk_drewN ?_ _ | refine blk_drew ?_ | refine blk_alloc ?_ _)); refine blk_far ?_ NB156_167.out _; (with_reducible repeat (first | refine blk_drewN ?_ _ | refine blk_drew ?_ | refine blk_alloc ?_ _)); exact BK156.out⟩, ⟨by (with_reducible repeat (first | refine blk_drewN ?_ _ | refine blk_drew ?_ | refine blk_alloc ?_ _)); refine blk_put (cs := #[.int .i64 0, .int .i64 0, .int .i64 0, .int .i64 0, .int .i64 0, .int .i64 0]) ?_ 5 _ rfl; (with_reducible repeat (first | refine blk_drewN ?_ _ | refine blk_drew ?_ | refine blk_alloc ?_ _)); refine blk_put (cs := #[.int .i64 0, .int .i64 0, .int .i64 0, .int .i64 0, .int .i64 0, .int .i64 0]) ?_ 4 _ rfl; (with_reducible repeat (first | refine blk_drewN ?_ _ | refine blk_drew ?_ | refine blk_alloc ?_ _)); refine blk_put (cs := #[.int .i64 0, .int .i64 0, .int .i64 0, .int .i64 0, .int .i64 0, .int .i64 0]) ?_ 3 _ rfl; (with_reducible repeat (first | refine blk_drewN ?_ _ | refine blk_drew ?_ | refine blk_alloc ?_ _)); refine blk_put (cs := #[.int .i64 0, .int .i64 0, .int .i64 0, .int .i64 0, .int .i64 0, .int .i64 0]) ?_ 2 _ rfl; (with_reducible repeat (first | refine blk_drewN ?_ _ | refine blk_drew ?_ | refine blk_alloc ?_ _)); refine blk_put (cs := #[.int .i64 0, .int .i64 0, .int .i64 0, .int .i64 0, .int .i64 0, .int .i64 0]) ?_ 1 _ rfl; (with_reducible repeat (first | refine blk_drewN ?_ _ | refine blk_drew ?_ | refine blk_alloc ?_ _)); refine blk_put (cs := #[.int .i64 0, .int .i64 0, .int .i64 0, .int .i64 0, .int .i64 0, .int .i64 0]) ?_ 0 _ rfl; (with_reducible repeat (first | refine blk_drewN ?_ _ | refine blk_drew ?_ | refine blk_alloc ?_ _)); exact BK167.out⟩, ⟨qw HB.out⟩⟩
                · rw [if_neg c25] at H
                  have c25b0 : ((rdOf ByteArray.empty l0 0).toList == ([99, 121, 99, 108, 105, 99] : List UInt8)) = false := beq_eq_false_iff_ne.mpr c25
                  have c25b1 : ((rdOf ByteArray.empty l0 0).toList != ([99, 121, 99, 108, 105, 99] : List UInt8)) = true := bne_iff_ne.mpr c25
                  have H' := Aside0.mk H
                  clear H
                  have p168 : 0 ≤ (0 : Int) := (by omega)
                  have q168 : 0 < (l0.length : Int) := of_decide_eq_true qs
                  obtain ⟨ad168, e168, hx168_0⟩ := Kd.at_string HR0.out 0 p168 q168
                  cases e168
                  have qi168 : (0 < l0.length) = True := eq_true (by omega)
                  (try rw [show ((0 : Int)).toNat = 0 from rfl] at hx168_0)
                  (try rw [Addr.add_zero'] at hx168_0)
                  have hn168_0 : ad168.block ≠ gb167 := Nat.ne_of_lt (Nat.lt_of_lt_of_le (by have := World.block_lt_of_cell? _ _ hx168_0; first | rwa [add_block] at this | exact this) GW167.out)
                  have hn168_1 : ad168.block ≠ gb167 := Nat.ne_of_lt (Nat.lt_of_lt_of_le (by have := World.block_lt_of_cell? _ _ hx168_0; first | rwa [add_block] at this | exact this) GW167.out)
                  have hn168_2 : ad168.block ≠ gb167 := Nat.ne_of_lt (Nat.lt_of_lt_of_le (by have := World.block_lt_of_cell? _ _ hx168_0; first | rwa [add_block] at this | exact this) GW167.out)
                  have hn168_3 : ad168.block ≠ gb167 := Nat.ne_of_lt (Nat.lt_of_lt_of_le (by have := World.block_lt_of_cell? _ _ hx168_0; first | rwa [add_block] at this | exact this) GW167.out)
                  have hn168_4 : ad168.block ≠ gb167 := Nat.ne_of_lt (Nat.lt_of_lt_of_le (by have := World.block_lt_of_cell? _ _ hx168_0; first | rwa [add_block] at this | exact this) GW167.out)
                  have hn168_5 : ad168.block ≠ gb167 := Nat.ne_of_lt (Nat.lt_of_lt_of_le (by have := World.block_lt_of_cell? _ _ hx168_0; first | rwa [add_block] at this | exact this) GW167.out)
                  replace hx168_0 := (HB.out.cell (World.block_lt_of_cell? w _ hx168_0)).trans hx168_0
                  replace hx168_0 := (cell_far (p := ⟨gb167, 0, none⟩) (by first | (rw [add_block]; exact hn168_0) | (show (Addr.add _ _).block ≠ _; rw [add_block]; exact hn168_0) | exact hn168_0) (.int .i64 0)).trans hx168_0
                  replace hx168_0 := (cell_far (p := ⟨gb167, 1, none⟩) (by first | (rw [add_block]; exact hn168_1) | (show (Addr.add _ _).block ≠ _; rw [add_block]; exact hn168_1) | exact hn168_1) (.int .i64 0)).trans hx168_0
                  replace hx168_0 := (cell_far (p := ⟨gb167, 2, none⟩) (by first | (rw [add_block]; exact hn168_2) | (show (Addr.add _ _).block ≠ _; rw [add_block]; exact hn168_2) | exact hn168_2) (.int .i64 0)).trans hx168_0
                  replace hx168_0 := (cell_far (p := ⟨gb167, 3, none⟩) (by first | (rw [add_block]; exact hn168_3) | (show (Addr.add _ _).block ≠ _; rw [add_block]; exact hn168_3) | exact hn168_3) (.int .i64 0)).trans hx168_0
                  replace hx168_0 := (cell_far (p := ⟨gb167, 4, none⟩) (by first | (rw [add_block]; exact hn168_4) | (show (Addr.add _ _).block ≠ _; rw [add_block]; exact hn168_4) | exact hn168_4) (.int .i64 0)).trans hx168_0
                  replace hx168_0 := (cell_far (p := ⟨gb167, 5, none⟩) (by first | (rw [add_block]; exact hn168_5) | (show (Addr.add _ _).block ≠ _; rw [add_block]; exact hn168_5) | exact hn168_5) (.int .i64 0)).trans hx168_0
                  clear hn168_0
                  clear hn168_1
                  clear hn168_2
                  clear hn168_3
                  clear hn168_4
                  clear hn168_5
                  replace p168 := eq_true p168
                  replace q168 := eq_true q168
                  go_wp2
                  go_meet
                  case rel => exact ⟨_, (false), (by first | rfl | (simp; done) | (simp [*]; done)), H', ⟨by have := HK1.out; first | omega | exact Nat.le_refl _⟩, ⟨by (with_reducible repeat (first | apply Kd.R_alloc | apply Kd.R_drewN | apply Kd.R_drew)); exact Kd.R_mono (Kd.R_far (p := ⟨gb167, 5, none⟩) (Kd.R_far (p := ⟨gb167, 4, none⟩) (Kd.R_far (p := ⟨gb167, 3, none⟩) (Kd.R_far (p := ⟨gb167, 2, none⟩) (Kd.R_far (p := ⟨gb167, 1, none⟩) (Kd.R_far (p := ⟨gb167, 0, none⟩) (Kd.R_types HO_4.out BK167.out (by decide)) (fun _ hk => hk.2) (.int .i64 0)) (fun _ hk => hk.2) (.int .i64 0)) (fun _ hk => hk.2) (.int .i64 0)) (fun _ hk => hk.2) (.int .i64 0)) (fun _ hk => hk.2) (.int .i64 0)) (fun _ hk => hk.2) (.int .i64 0)) (fun _ hk => trivial)⟩, ⟨by (with_reducible repeat (first | refine blk_drewN ?_ _ | refine blk_drew ?_ | refine blk_alloc ?_ _)); refine blk_far ?_ NB156_167.out _; (with_reducible repeat (first | refine blk_drewN ?_ _ | refine blk_drew ?_ | refine blk_alloc ?_ _)); refine blk_far ?_ NB156_167.out _; (with_reducible repeat (first | refine blk_drewN ?_ _ | refine blk_drew ?_ | refine blk_alloc ?_ _)); refine blk_far ?_ NB156_167.out _; (with_reducible repeat (first | refine blk_drewN ?_ _ | refine blk_drew ?_ | refine blk_alloc ?_ _)); refine blk_far ?_ NB156_167.out _; (with_reducible repeat (first | refine blk_drewN ?_ _ | refine blk_drew ?_ | refine blk_alloc ?_ _)); refine blk_far ?_ NB156_167.out _; (with_reducible repeat (first | refine blk_drewN ?_ _ | refine blk_drew ?_ | refine blk_alloc ?_ _)); refine blk_far ?_ NB156_167.out _; (with_reducible repeat (first | refine blk_drewN ?_ _ | refine blk_drew ?_ | refine blk_alloc ?_ _)); exact BK156.out⟩, ⟨by (with_reducible repeat (first | refine blk_drewN ?_ _ | refine blk_drew ?_ | refine blk_alloc ?_ _)); refine blk_put (cs := #[.int .i64 0, .int .i64 0, .int .i64 0, .int .i64 0, .int .i64 0, .int .i64 0]) ?_ 5 _ rfl; (with_reducible repeat (first | refine blk_drewN ?_ _ | refine blk_drew ?_ | refine blk_alloc ?_ _)); refine blk_put (cs := #[.int .i64 0, .int .i64 0, .int .i64 0, .int .i64 0, .int .i64 0, .int .i64 0]) ?_ 4 _ rfl; (with_reducible repeat (first | refine blk_drewN ?_ _ | refine blk_drew ?_ | refine blk_alloc ?_ _)); refine blk_put (cs := #[.int .i64 0, .int .i64 0, .int .i64 0, .int .i64 0, .int .i64 0, .int .i64 0]) ?_ 3 _ rfl; (with_reducible repeat (first | refine blk_drewN ?_ _ | refine blk_drew ?_ | refine blk_alloc ?_ _)); refine blk_put (cs := #[.int .i64 0, .int .i64 0, .int .i64 0, .int .i64 0, .int .i64 0, .int .i64 0]) ?_ 2 _ rfl; (with_reducible repeat (first | refine blk_drewN ?_ _ | refine blk_drew ?_ | refine blk_alloc ?_ _)); refine blk_put (cs := #[.int .i64 0, .int .i64 0, .int .i64 0, .int .i64 0, .int .i64 0, .int .i64 0]) ?_ 1 _ rfl; (with_reducible repeat (first | refine blk_drewN ?_ _ | refine blk_drew ?_ | refine blk_alloc ?_ _)); refine blk_put (cs := #[.int .i64 0, .int .i64 0, .int .i64 0, .int .i64 0, .int .i64 0, .int .i64 0]) ?_ 0 _ rfl; (with_reducible repeat (first | refine blk_drewN ?_ _ | refine blk_drew ?_ | refine blk_alloc ?_ _)); exact BK167.out⟩, ⟨qw HB.out⟩⟩
              · rw [if_neg c24] at H
                exact absurd H (by simp)
            case rest =>
              clear HC20
              try clear c1
              try clear p1
              try clear q1
              try clear hx1
              try clear qi1
              try clear c2
              try clear c2b0
              try clear c2b1
              try clear c2b2
              try clear p2
              try clear c4
              try clear c5
              try clear c5b0
              try clear c5b1
              try clear c6
              try clear p6
              try clear c10
              try clear c10b0
              try clear c11
              try clear c11b0
              try clear c12
              try clear c12b0
              try clear c14
              try clear c15
              try clear p16
              try clear q16
              try clear hx16
              try clear qi16
              try clear c22
              try clear c24
              try clear c24b0
              try clear c24b1
              try clear c25
              try clear c25b0
              try clear c25b1
              try clear hcz19_0
              try clear hcz19_1
              try clear hcz19_2
              try clear hcz19_3
              try clear hcz19_4
              try clear hcz19_5
              try clear hcz23_0
              try clear hcz23_1
              try clear hcz23_2
              try clear hcz23_3
              try clear hcz23_4
              try clear hcz23_5
              try clear hcz4_0
              try clear hcz4_1
              try clear hcz4_2
              try clear hcz4_3
              try clear hcz4_4
              try clear hcz4_5
              try clear hfz19_0
              try clear hfz19_1
              try clear hfz19_2
              try clear hfz19_3
              try clear hfz19_4
              try clear hfz19_5
              try clear hfz23_0
              try clear hfz23_1
              try clear hfz23_2
              try clear hfz23_3
              try clear hfz23_4
              try clear hfz23_5
              try clear hfz4_0
              try clear hfz4_1
              try clear hfz4_2
              try clear hfz4_3
              try clear hfz4_4
              try clear hfz4_5
              try clear hx161_0
              try clear hx168_0
              try clear p161
              try clear p168
              try clear p2
              try clear q161
              try clear q168
              obtain ⟨kq, x36_19, rfl, HA, HJ19, HO_4, BK156, BK167, HB⟩ := hcut
              cases kq with
              | zero => exact absurd HA.out (by simp [impl_readTask.j1])
              | succ kj19 =>
                have H := HA.out
                clear HA
                simp only [impl_readTask.j1] at H
                by_cases c27 : x36_19 = true
                · subst c27
                  have H1 : (if 0 < (x4_1.length : Int) then (if 1 < (x4_1.length : Int) then (if 2 < (x4_1.length : Int) then ((impl_TaskOK.f kj19 1 (rd x4_1 0) (rd x4_1 1) 0 1 (rd x4_1 2)).bind fun t172 => (some (1, rd x4_1 0, rd x4_1 1, 0, 1, rd x4_1 2, t172))) else (none)) else (none)) else (none)) = some (r1, r2, r3, r4, r5, r6, r7) := by rw [if_pos rfl] at H; exact H
                  clear H
                  have H := H1
                  clear H1
                  by_cases c28 : 0 < (x4_1.length : Int)
                  · rw [if_pos c28] at H
                    have c28b0 : decide (0 < (x4_1.length : Int)) = true := decide_eq_true c28
                    have c28b1 : decide (0 < x4_1.length) = true := decide_eq_true (by omega)
                    clear c28
                    by_cases c29 : 1 < (x4_1.length : Int)
                    · rw [if_pos c29] at H
                      have c29b0 : decide (1 < (x4_1.length : Int)) = true := decide_eq_true c29
                      have c29b1 : decide (1 < x4_1.length) = true := decide_eq_true (by omega)
                      clear c29
                      by_cases c30 : 2 < (x4_1.length : Int)
                      · rw [if_pos c30] at H
                        have c30b0 : decide (2 < (x4_1.length : Int)) = true := decide_eq_true c30
                        have c30b1 : decide (2 < x4_1.length) = true := decide_eq_true (by omega)
                        clear c30
                        replace H := Option.bind_eq_some_iff.mp H
                        obtain ⟨t172, A310, H⟩ := H
                        replace H : (some (1, rd x4_1 0, rd x4_1 1, 0, 1, rd x4_1 2, t172)) = some (r1, r2, r3, r4, r5, r6, r7) := H
                        have A31 := Aside0.mk A310
                        clear A310
                        simp only [Option.some.injEq, Prod.mk.injEq] at H
                        obtain ⟨rfl, rfl, rfl, rfl, rfl, rfl, rfl⟩ := H
                        try go_wp2
                        (try (rw [drewN_self wc]; generalize hq_ : World.drewN wc _ = wc; have n0_ : Aside0 (Kd.R (Kd.int .i64) 3 wc w.heap.size (fun _ => True) u4 x4_1) := ⟨by rw [← hq_]; exact (qr HO_4.out)⟩; have n1_ : Aside0 (wc.heap[gb156]? = some (.cells #[.int .i64 x157000_1, .int .i64 x157001_1, .int .i64 x157002_1, .int .i64 x157003_1, .int .i64 x157004_1, .int .i64 x157005_1] 41 (0, 0))) := ⟨by rw [← hq_]; exact (qb BK156.out)⟩; have n2_ : Aside0 (wc.heap[gb167]? = some (.cells #[.int .i64 0, .int .i64 0, .int .i64 0, .int .i64 0, .int .i64 0, .int .i64 0] 41 (0, 0))) := ⟨by rw [← hq_]; exact (qb BK167.out)⟩; have n3_ : Aside0 (Below w.heap.size w wc) := ⟨by rw [← hq_]; exact (qw HB.out)⟩; clear HO_4 BK156 BK167 HB hq_; have HO_4 := n0_; have BK156 := n1_; have BK167 := n2_; have HB := n3_; clear n0_ n1_ n2_ n3_))
                        have n0_ := Aside0.mk (Kd.R_drew HO_4.out)
                        have n1_ := Aside0.mk (blk_drew BK156.out)
                        have n2_ := Aside0.mk (blk_drew BK167.out)
                        have n3_ := Aside0.mk (below_drew1 HB.out)
                        clear HO_4
                        clear BK156
                        clear BK167
                        clear HB
                        have HO_4 := n0_
                        have BK156 := n1_
                        have BK167 := n2_
                        have HB := n3_
                        clear n0_ n1_ n2_ n3_
                        obtain ⟨Ao33, co33, eo33⟩ := Kd.R_slice HO_4.out
                        (first | subst eo33 | (injection eo33 with f1_ f2_ f3_; have f4_ := f1_.symm; have f5_ := f3_.symm; clear f1_ f2_ f3_; subst f4_; subst f5_))
                        have p169 : 0 ≤ (0 : Int) := (by omega)
                        have q169 : 0 < (x4_1.length : Int) := of_decide_eq_true qs
                        obtain ⟨ad169, e169, hx169_0⟩ := Kd.at_int (Kd.R_reads' HO_4.out).2.2 0 p169 q169
                        cases e169
                        have qi169 : (0 < x4_1.length) = True := eq_true (by omega)
                        (try rw [show ((0 : Int)).toNat = 0 from rfl] at hx169_0)
                        (try rw [Addr.add_zero'] at hx169_0)
                        replace p169 := eq_true p169
                        replace q169 := eq_true q169
                        have p170 : 0 ≤ (1 : Int) := (by omega)
                        have q170 : 1 < (x4_1.length : Int) := of_decide_eq_true qs
                        obtain ⟨ad170, e170, hx170_0⟩ := Kd.at_int (Kd.R_reads' HO_4.out).2.2 1 p170 q170
                        obtain rfl : ad169 = ad170 := (by injection e170)
                        (try simp only [show (1 : Int).toNat = 1 from rfl, Nat.reduceMul, Nat.reduceEqDiff, Go.Addr.add, ↓reduceIte] at hx170_0)
                        have qi170 : (1 < x4_1.length) = True := eq_true (by omega)
                        (try rw [show ((1 : Int)).toNat = 1 from rfl] at hx170_0)
                        replace p170 := eq_true p170
                        replace q170 := eq_true q170
                        have p171 : 0 ≤ (2 : Int) := (by omega)
                        have q171 : 2 < (x4_1.length : Int) := of_decide_eq_true qs
                        obtain ⟨ad171, e171, hx171_0⟩ := Kd.at_int (Kd.R_reads' HO_4.out).2.2 2 p171 q171
                        obtain rfl : ad169 = ad171 := (by injection e171)
                        (try simp only [show (2 : Int).toNat = 2 from rfl, Nat.reduceMul, Nat.reduceEqDiff, Go.Addr.add, ↓reduceIte] at hx171_0)
                        have qi171 : (2 < x4_1.length) = True := eq_true (by omega)
                        (try rw [show ((2 : Int)).toNat = 2 from rfl] at hx171_0)
                        replace p171 := eq_true p171
                        replace q171 := eq_true q171
                        refine start_ (n := 11) (S := fun w' => w'.cell? ad169 = some (.int .i64 (rd x4_1 0)) ∧ w'.cell? ⟨ad169.block, ad169.off + 1, none⟩ = some (.int .i64 (rd x4_1 1)) ∧ w'.cell? ⟨ad169.block, ad169.off + 2, none⟩ = some (.int .i64 (rd x4_1 2))) (ds := []) #[false, false, false, false, false, false, false, false, false, false, false] (by kernel_rfl) rfl rfl ⟨hx169_0, hx170_0, hx171_0⟩ (fun hHeld => ?_); refine with_tabW impl_readTask.tab14 impl_readTask.bits14 (fun HT_ HW_ => ?_)
                        generalize wc.drew = w32 at HO_4 BK156 BK167 HB hx169_0 hx170_0 hx171_0 hHeld ⊢
                        refine pure_ (i := 0) (N := some 46) (v := ?_) (a' := ?_) #[true, false, false, false, false, false, false, false, false, false, false] rfl rfl (any_of HT_.out (by kernel_rfl)) (fun _ _ _ h => h) (Or.inl ⟨by rfl, ?_⟩) ?_ ?_
                        rotate_left
                        · intro w'
                          go_simp
                          with_reducible rfl
                        rotate_left
                        · simp only [Act.put, List.setIfInBounds_toArray, List.set_cons_zero, List.set_cons_succ, i64_w, i32_w]
                          rfl
                        refine pure_ (i := 1) (N := some 47) (v := ?_) (a' := ?_) #[true, true, false, false, false, false, false, false, false, false, false] rfl rfl (any_of HT_.out (by kernel_rfl)) (fun _ _ _ h => h) (Or.inl ⟨by rfl, ?_⟩) ?_ ?_
                        rotate_left
                        · intro w'
                          go_simp
                          with_reducible rfl
                        rotate_left
                        · simp only [Act.put, List.setIfInBounds_toArray, List.set_cons_zero, List.set_cons_succ, i64_w, i32_w]
                          rfl
                        refine pure_ (i := 3) (N := some 49) (v := ?_) (a' := ?_) #[true, true, false, true, false, false, false, false, false, false, false] rfl rfl (any_of HT_.out (by kernel_rfl)) (fun _ _ _ h => h) (Or.inl ⟨by rfl, ?_⟩) ?_ ?_
                        rotate_left
                        · intro w'
                          go_simp
                          with_reducible rfl
                        rotate_left
                        · simp only [Act.put, List.setIfInBounds_toArray, List.set_cons_zero, List.set_cons_succ, i64_w, i32_w]
                          rfl
                        refine pure_ (i := 4) (N := some 50) (v := ?_) (a' := ?_) #[true, true, false, true, true, false, false, false, false, false, false] rfl rfl (any_of HT_.out (by kernel_rfl)) (fun _ _ _ h => h) (Or.inl ⟨by rfl, ?_⟩) ?_ ?_
                        rotate_left
                        · intro w'
                          go_simp
                          with_reducible rfl
                        rotate_left
                        · simp only [Act.put, List.setIfInBounds_toArray, List.set_cons_zero, List.set_cons_succ, i64_w, i32_w]
                          rfl
                        refine pure_ (i := 6) (N := some 52) (v := ?_) (a' := ?_) #[true, true, false, true, true, false, true, false, false, false, false] rfl rfl (any_of HT_.out (by kernel_rfl)) (fun _ _ _ h => h) (Or.inl ⟨by rfl, ?_⟩) ?_ ?_
                        rotate_left
                        · intro w'
                          go_simp
                          with_reducible rfl
                        rotate_left
                        · simp only [Act.put, List.setIfInBounds_toArray, List.set_cons_zero, List.set_cons_succ, i64_w, i32_w]
                          rfl
                        refine pure_ (i := 7) (N := some 53) (v := ?_) (a' := ?_) #[true, true, false, true, true, false, true, true, false, false, false] rfl rfl (any_of HT_.out (by kernel_rfl)) (fun _ _ _ h => h) (Or.inl ⟨by rfl, ?_⟩) ?_ ?_
                        rotate_left
                        · intro w'
                          go_simp
                          with_reducible rfl
                        rotate_left
                        · simp only [Act.put, List.setIfInBounds_toArray, List.set_cons_zero, List.set_cons_succ, i64_w, i32_w]
                          rfl
                        refine take_ (i := 2) (N := some 48) (v := ?_) (a' := ?_) #[true, true, true, true, true, false, true, true, false, false, false] rfl rfl (take_ofW HT_.out HW_.out (by kernel_rfl)) (fun _ _ _ h => h) (Or.inl ⟨by rfl, ?_⟩) hHeld ?_ ?_
                        rotate_left
                        · rintro w' ⟨s0, s1, s2⟩
                          go_simp
                          with_reducible rfl
                        rotate_left
                        · simp only [Act.put, List.setIfInBounds_toArray, List.set_cons_zero, List.set_cons_succ, i64_w, i32_w]
                          rfl
                        refine take_ (i := 5) (N := some 51) (v := ?_) (a' := ?_) #[true, true, true, true, true, true, true, true, false, false, false] rfl rfl (take_ofW HT_.out HW_.out (by kernel_rfl)) (fun _ _ _ h => h) (Or.inl ⟨by rfl, ?_⟩) hHeld ?_ ?_
                        rotate_left
                        · rintro w' ⟨s0, s1, s2⟩
                          go_simp
                          with_reducible rfl
                        rotate_left
                        · simp only [Act.put, List.setIfInBounds_toArray, List.set_cons_zero, List.set_cons_succ, i64_w, i32_w]
                          rfl
                        refine take_ (i := 8) (N := some 54) (v := ?_) (a' := ?_) #[true, true, true, true, true, true, true, true, true, false, false] rfl rfl (take_ofW HT_.out HW_.out (by kernel_rfl)) (fun _ _ _ h => h) (Or.inl ⟨by rfl, ?_⟩) hHeld ?_ ?_
                        rotate_left
                        · rintro w' ⟨s0, s1, s2⟩
                          go_simp
                          with_reducible rfl
                        rotate_left
                        · simp only [Act.put, List.setIfInBounds_toArray, List.set_cons_zero, List.set_cons_succ, i64_w, i32_w]
                          rfl
                        refine pure_ (i := 9) (N := some 55) (v := ?_) (a' := ?_) #[true, true, true, true, true, true, true, true, true, true, false] rfl rfl (any_of HT_.out (by kernel_rfl)) (fun _ _ _ h => h) (Or.inl ⟨by rfl, ?_⟩) ?_ ?_
                        rotate_left
                        · intro w'
                          go_simp
                          with_reducible rfl
                        rotate_left
                        · simp only [Act.put, List.setIfInBounds_toArray, List.set_cons_zero, List.set_cons_succ, i64_w, i32_w]
                          rfl
                        refine one_ (i := 10) (N := none) #[true, true, true, true, true, true, true, true, true, true, true] rfl rfl (one_of HT_.out (by kernel_rfl)) (by decide) (fun K hK => ?_)
                        have hs34 : w32.cell? ⟨gb167, 0, none⟩ = some (.int .i64 0) := (blk_cell BK167.out 0).trans rfl
                        have hfs34 := blk_frozen BK167.out 0
                        have hns34_0 := NB156_167.out
                        have hms34_0 := NB167_156.out
                        have hs35 : w32.cell? ⟨gb167, 1, none⟩ = some (.int .i64 0) := (blk_cell BK167.out 1).trans rfl
                        have hfs35 := blk_frozen BK167.out 1
                        have hns35_0 := NB156_167.out
                        have hms35_0 := NB167_156.out
                        have hs36 : w32.cell? ⟨gb167, 2, none⟩ = some (.int .i64 0) := (blk_cell BK167.out 2).trans rfl
                        have hfs36 := blk_frozen BK167.out 2
                        have hns36_0 := NB156_167.out
                        have hms36_0 := NB167_156.out
                        have hs37 : w32.cell? ⟨gb167, 3, none⟩ = some (.int .i64 0) := (blk_cell BK167.out 3).trans rfl
                        have hfs37 := blk_frozen BK167.out 3
                        have hns37_0 := NB156_167.out
                        have hms37_0 := NB167_156.out
                        have hs38 : w32.cell? ⟨gb167, 4, none⟩ = some (.int .i64 0) := (blk_cell BK167.out 4).trans rfl
                        have hfs38 := blk_frozen BK167.out 4
                        have hns38_0 := NB156_167.out
                        have hms38_0 := NB167_156.out
                        have hs39 : w32.cell? ⟨gb167, 5, none⟩ = some (.int .i64 0) := (blk_cell BK167.out 5).trans rfl
                        have hfs39 := blk_frozen BK167.out 5
                        have hns39_0 := NB156_167.out
                        have hms39_0 := NB167_156.out
                        refine skip_ (w1 := ?_) (by rfl) rfl ?_ ?_
                        rotate_left
                        · go_simp
                          rfl
                        have hne_ := Kd.own_blk (Kd.R_ne HO_4.out BK167.out (by decide))
                        refine hK.out _ _ ⟨impl_readTask.seen6 hHeld.1 hne_, impl_readTask.seen6 hHeld.2.1 hne_, impl_readTask.seen6 hHeld.2.2 hne_⟩ (fun hHeld => ?_)
                        clear hne_
                        clear hK K
                        refine done_ (done_of HT_.out (by kernel_rfl)) ?_
                        try go_wp2
                        have n0_ : Aside0 (Kd.R (Kd.int .i64) 3 ((((((w32.setCell ⟨gb167, 0, none⟩ (.int .i64 1)).setCell ⟨gb167, 1, none⟩ (.int .i64 (rd x4_1 0))).setCell ⟨gb167, 2, none⟩ (.int .i64 (rd x4_1 1))).setCell ⟨gb167, 3, none⟩ (.int .i64 0)).setCell ⟨gb167, 4, none⟩ (.int .i64 1)).setCell ⟨gb167, 5, none⟩ (.int .i64 (rd x4_1 2))) w.heap.size (fun _ => True) (.slice (some ad169) x4_1.length co33) x4_1) := ⟨by (with_reducible repeat (first | apply Kd.R_alloc | apply Kd.R_drewN | apply Kd.R_drew)); exact Kd.R_mono (Kd.R_far (p := ⟨gb167, 5, none⟩) (Kd.R_far (p := ⟨gb167, 4, none⟩) (Kd.R_far (p := ⟨gb167, 3, none⟩) (Kd.R_far (p := ⟨gb167, 2, none⟩) (Kd.R_far (p := ⟨gb167, 1, none⟩) (Kd.R_far (p := ⟨gb167, 0, none⟩) (Kd.R_types HO_4.out BK167.out (by decide)) (fun _ hk => hk.2) (.int .i64 1)) (fun _ hk => hk.2) (.int .i64 (rd x4_1 0))) (fun _ hk => hk.2) (.int .i64 (rd x4_1 1))) (fun _ hk => hk.2) (.int .i64 0)) (fun _ hk => hk.2) (.int .i64 1)) (fun _ hk => hk.2) (.int .i64 (rd x4_1 2))) (fun _ hk => trivial)⟩
                        have n1_ : Aside0 (((((((w32.setCell ⟨gb167, 0, none⟩ (.int .i64 1)).setCell ⟨gb167, 1, none⟩ (.int .i64 (rd x4_1 0))).setCell ⟨gb167, 2, none⟩ (.int .i64 (rd x4_1 1))).setCell ⟨gb167, 3, none⟩ (.int .i64 0)).setCell ⟨gb167, 4, none⟩ (.int .i64 1)).setCell ⟨gb167, 5, none⟩ (.int .i64 (rd x4_1 2))).heap[gb156]? = some (.cells #[.int .i64 x157000_1, .int .i64 x157001_1, .int .i64 x157002_1, .int .i64 x157003_1, .int .i64 x157004_1, .int .i64 x157005_1] 41 (0, 0))) := ⟨by (with_reducible repeat (first | refine blk_drewN ?_ _ | refine blk_drew ?_ | refine blk_alloc ?_ _)); refine blk_far ?_ NB156_167.out _; (with_reducible repeat (first | refine blk_drewN ?_ _ | refine blk_drew ?_ | refine blk_alloc ?_ _)); refine blk_far ?_ NB156_167.out _; (with_reducible repeat (first | refine blk_drewN ?_ _ | refine blk_drew ?_ | refine blk_alloc ?_ _)); refine blk_far ?_ NB156_167.out _; (with_reducible repeat (first | refine blk_drewN ?_ _ | refine blk_drew ?_ | refine blk_alloc ?_ _)); refine blk_far ?_ NB156_167.out _; (with_reducible repeat (first | refine blk_drewN ?_ _ | refine blk_drew ?_ | refine blk_alloc ?_ _)); refine blk_far ?_ NB156_167.out _; (with_reducible repeat (first | refine blk_drewN ?_ _ | refine blk_drew ?_ | refine blk_alloc ?_ _)); refine blk_far ?_ NB156_167.out _; (with_reducible repeat (first | refine blk_drewN ?_ _ | refine blk_drew ?_ | refine blk_alloc ?_ _)); exact BK156.out⟩
                        have n2_ : Aside0 (((((((w32.setCell ⟨gb167, 0, none⟩ (.int .i64 1)).setCell ⟨gb167, 1, none⟩ (.int .i64 (rd x4_1 0))).setCell ⟨gb167, 2, none⟩ (.int .i64 (rd x4_1 1))).setCell ⟨gb167, 3, none⟩ (.int .i64 0)).setCell ⟨gb167, 4, none⟩ (.int .i64 1)).setCell ⟨gb167, 5, none⟩ (.int .i64 (rd x4_1 2))).heap[gb167]? = some (.cells #[.int .i64 1, .int .i64 (rd x4_1 0), .int .i64 (rd x4_1 1), .int .i64 0, .int .i64 1, .int .i64 (rd x4_1 2)] 41 (0, 0))) := ⟨by (with_reducible repeat (first | refine blk_drewN ?_ _ | refine blk_drew ?_ | refine blk_alloc ?_ _)); refine blk_put (cs := #[.int .i64 1, .int .i64 (rd x4_1 0), .int .i64 (rd x4_1 1), .int .i64 0, .int .i64 1, .int .i64 0]) ?_ 5 _ rfl; (with_reducible repeat (first | refine blk_drewN ?_ _ | refine blk_drew ?_ | refine blk_alloc ?_ _)); refine blk_put (cs := #[.int .i64 1, .int .i64 (rd x4_1 0), .int .i64 (rd x4_1 1), .int .i64 0, .int .i64 0, .int .i64 0]) ?_ 4 _ rfl; (with_reducible repeat (first | refine blk_drewN ?_ _ | refine blk_drew ?_ | refine blk_alloc ?_ _)); refine blk_put (cs := #[.int .i64 1, .int .i64 (rd x4_1 0), .int .i64 (rd x4_1 1), .int .i64 0, .int .i64 0, .int .i64 0]) ?_ 3 _ rfl; (with_reducible repeat (first | refine blk_drewN ?_ _ | refine blk_drew ?_ | refine blk_alloc ?_ _)); refine blk_put (cs := #[.int .i64 1, .int .i64 (rd x4_1 0), .int .i64 0, .int .i64 0, .int .i64 0, .int .i64 0]) ?_ 2 _ rfl; (with_reducible repeat (first | refine blk_drewN ?_ _ | refine blk_drew ?_ | refine blk_alloc ?_ _)); refine blk_put (cs := #[.int .i64 1, .int .i64 0, .int .i64 0, .int .i64 0, .int .i64 0, .int .i64 0]) ?_ 1 _ rfl; (with_reducible repeat (first | refine blk_drewN ?_ _ | refine blk_drew ?_ | refine blk_alloc ?_ _)); refine blk_put (cs := #[.int .i64 0, .int .i64 0, .int .i64 0, .int .i64 0, .int .i64 0, .int .i64 0]) ?_ 0 _ rfl; (with_reducible repeat (first | refine blk_drewN ?_ _ | refine blk_drew ?_ | refine blk_alloc ?_ _)); exact BK167.out⟩
                        have n3_ : Aside0 (Below w.heap.size w ((((((w32.setCell ⟨gb167, 0, none⟩ (.int .i64 1)).setCell ⟨gb167, 1, none⟩ (.int .i64 (rd x4_1 0))).setCell ⟨gb167, 2, none⟩ (.int .i64 (rd x4_1 1))).setCell ⟨gb167, 3, none⟩ (.int .i64 0)).setCell ⟨gb167, 4, none⟩ (.int .i64 1)).setCell ⟨gb167, 5, none⟩ (.int .i64 (rd x4_1 2)))) := ⟨qw HB.out⟩
                        (try clear HO_4)
                        (try clear BK156)
                        (try clear BK167)
                        (try clear HB)
                        generalize ((((((w32.setCell ⟨gb167, 0, none⟩ (.int .i64 1)).setCell ⟨gb167, 1, none⟩ (.int .i64 (rd x4_1 0))).setCell ⟨gb167, 2, none⟩ (.int .i64 (rd x4_1 1))).setCell ⟨gb167, 3, none⟩ (.int .i64 0)).setCell ⟨gb167, 4, none⟩ (.int .i64 1)).setCell ⟨gb167, 5, none⟩ (.int .i64 (rd x4_1 2))) = w40 at n0_ n1_ n2_ n3_ ⊢
                        have HO_4 := n0_
                        have BK156 := n1_
                        have BK167 := n2_
                        have HB := n3_
                        clear n0_ n1_ n2_ n3_
                        (try (rw [drewN_self w40]; generalize hq_ : World.drewN w40 _ = w40; have n0_ : Aside0 (Kd.R (Kd.int .i64) 3 w40 w.heap.size (fun _ => True) (.slice (some ad169) x4_1.length co33) x4_1) := ⟨by rw [← hq_]; exact (qr HO_4.out)⟩; have n1_ : Aside0 (w40.heap[gb156]? = some (.cells #[.int .i64 x157000_1, .int .i64 x157001_1, .int .i64 x157002_1, .int .i64 x157003_1, .int .i64 x157004_1, .int .i64 x157005_1] 41 (0, 0))) := ⟨by rw [← hq_]; exact (qb BK156.out)⟩; have n2_ : Aside0 (w40.heap[gb167]? = some (.cells #[.int .i64 1, .int .i64 (rd x4_1 0), .int .i64 (rd x4_1 1), .int .i64 0, .int .i64 1, .int .i64 (rd x4_1 2)] 41 (0, 0))) := ⟨by rw [← hq_]; exact (qb BK167.out)⟩; have n3_ : Aside0 (Below w.heap.size w w40) := ⟨by rw [← hq_]; exact (qw HB.out)⟩; clear HO_4 BK156 BK167 HB hq_; have HO_4 := n0_; have BK156 := n1_; have BK167 := n2_; have HB := n3_; clear n0_ n1_ n2_ n3_))
                        have n0_ := Aside0.mk (Kd.R_drew HO_4.out)
                        have n1_ := Aside0.mk (blk_drew BK156.out)
                        have n2_ := Aside0.mk (blk_drew BK167.out)
                        have n3_ := Aside0.mk (below_drew1 HB.out)
                        clear HO_4
                        clear BK156
                        clear BK167
                        clear HB
                        have HO_4 := n0_
                        have BK156 := n1_
                        have BK167 := n2_
                        have HB := n3_
                        clear n0_ n1_ n2_ n3_
                        refine start_ (n := 5) (S := fun w' => w'.cell? ⟨gb167, 0, none⟩ = some (.int .i64 1) ∧ w'.cell? ⟨gb167, 1, none⟩ = some (.int .i64 (rd x4_1 0)) ∧ w'.cell? ⟨gb167, 2, none⟩ = some (.int .i64 (rd x4_1 1)) ∧ w'.cell? ⟨gb167, 3, none⟩ = some (.int .i64 0) ∧ w'.cell? ⟨gb167, 4, none⟩ = some (.int .i64 1) ∧ w'.cell? ⟨gb167, 5, none⟩ = some (.int .i64 (rd x4_1 2))) (ds := []) #[false, false, false, false, false] (by kernel_rfl) rfl rfl ⟨(blk_cell BK167.out 0).trans rfl, (blk_cell BK167.out 1).trans rfl, (blk_cell BK167.out 2).trans rfl, (blk_cell BK167.out 3).trans rfl, (blk_cell BK167.out 4).trans rfl, (blk_cell BK167.out 5).trans rfl⟩ (fun hHeld => ?_)
                        generalize w40.drew = w41 at HO_4 BK156 BK167 HB hHeld ⊢
                        refine take_ (i := 0) (N := some 82) (v := ?_) (a' := ?_) #[true, false, false, false, false] rfl rfl (by kernel_rfl) (fun _ _ _ h => h) (Or.inl ⟨by rfl, ?_⟩) hHeld ?_ ?_
                        rotate_left
                        · rintro w' ⟨s0, s1, s2, s3, s4, s5⟩
                          go_simp
                          with_reducible rfl
                        rotate_left
                        · simp only [Act.put, List.setIfInBounds_toArray, List.set_cons_zero, List.set_cons_succ, i64_w, i32_w]
                          rfl
                        refine take_ (i := 1) (N := some 83) (v := ?_) (a' := ?_) #[true, true, false, false, false] rfl rfl (by kernel_rfl) (fun _ _ _ h => h) (Or.inl ⟨by rfl, ?_⟩) hHeld ?_ ?_
                        rotate_left
                        · rintro w' ⟨s0, s1, s2, s3, s4, s5⟩
                          go_simp
                          with_reducible rfl
                        rotate_left
                        · simp only [Act.put, List.setIfInBounds_toArray, List.set_cons_zero, List.set_cons_succ, i64_w, i32_w]
                          rfl
                        refine one_ (i := 2) (N := some 84) #[true, true, true, false, false] rfl rfl (by kernel_rfl) (by decide) (fun K hK => ?_)
                        refine goes_ Tryd.func69 (by kernel_rfl) rfl #[.agg #[.int .i64 1, .int .i64 (rd x4_1 0), .int .i64 (rd x4_1 1), .int .i64 0, .int .i64 1, .int .i64 (rd x4_1 2)]] (by rfl) rfl rfl (by (try simp only [List.map_toArray, List.map_cons, List.map_nil]); first | done | rfl | (simp only [List.length_drop, List.length_take]; rfl) | (simp only [List.drop_one]; rfl)) ?_
                        with_reducible refine (impl_TaskOK.calls kj19 1 (rd x4_1 0) (rd x4_1 1) 0 1 (rd x4_1 2) t172 _ A31.out).mono ?_
                        rintro e w42 ⟨rfl, hb⟩
                        refine ⟨_, rfl, ?_⟩
                        have n0_ := Aside0.mk (Kd.R_below (qr HO_4.out) hb)
                        have n1_ := Aside0.mk (blk_below (g := gb156) (o := .cells #[.int .i64 x157000_1, .int .i64 x157001_1, .int .i64 x157002_1, .int .i64 x157003_1, .int .i64 x157004_1, .int .i64 x157005_1] 41 (0, 0)) (qb BK156.out) hb)
                        have n2_ := Aside0.mk (blk_below (g := gb167) (o := .cells #[.int .i64 1, .int .i64 (rd x4_1 0), .int .i64 (rd x4_1 1), .int .i64 0, .int .i64 1, .int .i64 (rd x4_1 2)] 41 (0, 0)) (qb BK167.out) hb)
                        have n3_ := Aside0.mk (below_step (qw HB.out) hb)
                        clear HO_4
                        clear BK156
                        clear BK167
                        clear HB
                        have HO_4 := n0_
                        have BK156 := n1_
                        have BK167 := n2_
                        have HB := n3_
                        clear n0_ n1_ n2_ n3_
                        (try clear hb)
                        (try clear hb2)
                        (try clear hk)
                        (try clear hi)
                        refine hK.out _ _ ⟨(blk_cell BK167.out 0).trans rfl, (blk_cell BK167.out 1).trans rfl, (blk_cell BK167.out 2).trans rfl, (blk_cell BK167.out 3).trans rfl, (blk_cell BK167.out 4).trans rfl, (blk_cell BK167.out 5).trans rfl⟩ (fun hHeld => ?_)
                        clear hK K
                        refine norm_ (a' := ?_) ?_ ?_
                        rotate_left
                        · show Act.put _ (some 84) _ = _
                          simp only [Act.put, List.setIfInBounds_toArray, List.set_cons_zero, List.set_cons_succ, i64_w, i32_w]
                          rfl
                        refine one_ (i := 3) (N := none) #[true, true, true, true, false] rfl rfl (by kernel_rfl) (by decide) (fun K hK => ?_)
                        have hs43 : w42.cell? ⟨gb156, 0, none⟩ = some (.int .i64 x157000_1) := (blk_cell BK156.out 0).trans rfl
                        have hfs43 := blk_frozen BK156.out 0
                        have hns43_1 := NB167_156.out
                        have hms43_1 := NB156_167.out
                        have hs44 : w42.cell? ⟨gb156, 1, none⟩ = some (.int .i64 x157001_1) := (blk_cell BK156.out 1).trans rfl
                        have hfs44 := blk_frozen BK156.out 1
                        have hns44_1 := NB167_156.out
                        have hms44_1 := NB156_167.out
                        have hs45 : w42.cell? ⟨gb156, 2, none⟩ = some (.int .i64 x157002_1) := (blk_cell BK156.out 2).trans rfl
                        have hfs45 := blk_frozen BK156.out 2
                        have hns45_1 := NB167_156.out
                        have hms45_1 := NB156_167.out
                        have hs46 : w42.cell? ⟨gb156, 3, none⟩ = some (.int .i64 x157003_1) := (blk_cell BK156.out 3).trans rfl
                        have hfs46 := blk_frozen BK156.out 3
                        have hns46_1 := NB167_156.out
                        have hms46_1 := NB156_167.out
                        have hs47 : w42.cell? ⟨gb156, 4, none⟩ = some (.int .i64 x157004_1) := (blk_cell BK156.out 4).trans rfl
                        have hfs47 := blk_frozen BK156.out 4
                        have hns47_1 := NB167_156.out
                        have hms47_1 := NB156_167.out
                        have hs48 : w42.cell? ⟨gb156, 5, none⟩ = some (.int .i64 x157005_1) := (blk_cell BK156.out 5).trans rfl
                        have hfs48 := blk_frozen BK156.out 5
                        have hns48_1 := NB167_156.out
                        have hms48_1 := NB156_167.out
                        refine skip_ (w1 := ?_) (by rfl) rfl ?_ ?_
                        rotate_left
                        · go_simp
                          rfl
                        have hne_ := NB167_156.out
                        refine hK.out _ _ ⟨impl_readTask.seen6 hHeld.1 hne_, impl_readTask.seen6 hHeld.2.1 hne_, impl_readTask.seen6 hHeld.2.2.1 hne_, impl_readTask.seen6 hHeld.2.2.2.1 hne_, impl_readTask.seen6 hHeld.2.2.2.2.1 hne_, impl_readTask.seen6 hHeld.2.2.2.2.2 hne_⟩ (fun hHeld => ?_)
                        clear hne_
                        clear hK K
                        refine pure_ (i := 4) (N := some 3) (v := ?_) (a' := ?_) #[true, true, true, true, true] rfl rfl (by kernel_rfl) (fun _ _ _ h => h) (Or.inl ⟨by rfl, ?_⟩) ?_ ?_
                        rotate_left
                        · intro w'
                          go_simp
                          with_reducible rfl
                        rotate_left
                        · simp only [Act.put, List.setIfInBounds_toArray, List.set_cons_zero, List.set_cons_succ, i64_w, i32_w]
                          rfl
                        refine done_ (by kernel_rfl) ?_
                        try go_wp2
                        refine bodyPost_ret (results_ct rfl _ _ gb156 41 #[.int .i64 1, .int .i64 (rd x4_1 0), .int .i64 (rd x4_1 1), .int .i64 0, .int .i64 1, .int .i64 (rd x4_1 2)] (0, 0) _ rfl (by (with_reducible repeat (first | refine blk_drewN ?_ _ | refine blk_drew ?_ | refine blk_alloc ?_ _)); refine blk_put (cs := #[.int .i64 1, .int .i64 (rd x4_1 0), .int .i64 (rd x4_1 1), .int .i64 0, .int .i64 1, .int .i64 x157005_1]) ?_ 5 _ rfl; (with_reducible repeat (first | refine blk_drewN ?_ _ | refine blk_drew ?_ | refine blk_alloc ?_ _)); refine blk_put (cs := #[.int .i64 1, .int .i64 (rd x4_1 0), .int .i64 (rd x4_1 1), .int .i64 0, .int .i64 x157004_1, .int .i64 x157005_1]) ?_ 4 _ rfl; (with_reducible repeat (first | refine blk_drewN ?_ _ | refine blk_drew ?_ | refine blk_alloc ?_ _)); refine blk_put (cs := #[.int .i64 1, .int .i64 (rd x4_1 0), .int .i64 (rd x4_1 1), .int .i64 x157003_1, .int .i64 x157004_1, .int .i64 x157005_1]) ?_ 3 _ rfl; (with_reducible repeat (first | refine blk_drewN ?_ _ | refine blk_drew ?_ | refine blk_alloc ?_ _)); refine blk_put (cs := #[.int .i64 1, .int .i64 (rd x4_1 0), .int .i64 x157002_1, .int .i64 x157003_1, .int .i64 x157004_1, .int .i64 x157005_1]) ?_ 2 _ rfl; (with_reducible repeat (first | refine blk_drewN ?_ _ | refine blk_drew ?_ | refine blk_alloc ?_ _)); refine blk_put (cs := #[.int .i64 1, .int .i64 x157001_1, .int .i64 x157002_1, .int .i64 x157003_1, .int .i64 x157004_1, .int .i64 x157005_1]) ?_ 1 _ rfl; (with_reducible repeat (first | refine blk_drewN ?_ _ | refine blk_drew ?_ | refine blk_alloc ?_ _)); refine blk_put (cs := #[.int .i64 x157000_1, .int .i64 x157001_1, .int .i64 x157002_1, .int .i64 x157003_1, .int .i64 x157004_1, .int .i64 x157005_1]) ?_ 0 _ rfl; (with_reducible repeat (first | refine blk_drewN ?_ _ | refine blk_drew ?_ | refine blk_alloc ?_ _)); exact BK156.out) Tryd.underlying41 rfl (by kernel_rfl)) rfl ?_
                        exact ⟨qe, qw HB.out⟩
                      · rw [if_neg c30] at H
                        exact absurd H (by simp)
                    · rw [if_neg c29] at H
                      exact absurd H (by simp)
                  · rw [if_neg c28] at H
                    exact absurd H (by simp)
                · replace c27 := Bool.eq_false_iff.mpr c27
                  subst c27
                  have H1 : (if 0 < (l0.length : Int) then (if (rdOf ByteArray.empty l0 0).toList = ([101, 118, 101, 110, 116] : List UInt8) then (if (x4_1.length : Int) = 5 then (if 0 < (x4_1.length : Int) then (if 1 < (x4_1.length : Int) then (if 2 < (x4_1.length : Int) then (if 3 < (x4_1.length : Int) then (if 4 < (x4_1.length : Int) then ((impl_TaskOK.f kj19 2 (rd x4_1 0) (rd x4_1 1) (rd x4_1 2) (rd x4_1 3) (rd x4_1 4)).bind fun t179 => (some (2, rd x4_1 0, rd x4_1 1, rd x4_1 2, rd x4_1 3, rd x4_1 4, t179))) else (none)) else (none)) else (none)) else (none)) else (none)) else ((impl_TaskOK.f kj19 0 0 0 0 0 0).bind fun t180 => (some (0, 0, 0, 0, 0, 0, t180)))) else ((impl_TaskOK.f kj19 0 0 0 0 0 0).bind fun t181 => (some (0, 0, 0, 0, 0, 0, t181)))) else (none)) = some (r1, r2, r3, r4, r5, r6, r7) := by rw [if_neg (show ¬ (false = true) by decide)] at H; exact H
                  clear H
                  have H := H1
                  clear H1
                  by_cases c49 : 0 < (l0.length : Int)
                  · rw [if_pos c49] at H
                    have c49b0 : decide (0 < (l0.length : Int)) = true := decide_eq_true c49
                    have c49b1 : decide (0 < l0.length) = true := decide_eq_true (by omega)
                    clear c49
                    by_cases c50 : (rdOf ByteArray.empty l0 0).toList = ([101, 118, 101, 110, 116] : List UInt8)
                    · rw [if_pos c50] at H
                      have c50b0 : ((rdOf ByteArray.empty l0 0).toList == ([101, 118, 101, 110, 116] : List UInt8)) = true := beq_iff_eq.mpr c50
                      have c50b1 : ((rdOf ByteArray.empty l0 0).toList != ([101, 118, 101, 110, 116] : List UInt8)) = false := bne_eq_false_iff_eq.mpr c50
                      clear c50
                      by_cases c51 : (x4_1.length : Int) = 5
                      · rw [if_pos c51] at H
                        have c51b0 : ((x4_1.length : Int) == 5) = true := beq_iff_eq.mpr c51
                        have c51b1 : ((x4_1.length : Int) != 5) = false := bne_eq_false_iff_eq.mpr c51
                        clear c51
                        by_cases c52 : 0 < (x4_1.length : Int)
                        · rw [if_pos c52] at H
                          have c52b0 : decide (0 < (x4_1.length : Int)) = true := decide_eq_true c52
                          have c52b1 : decide (0 < x4_1.length) = true := decide_eq_true (by omega)
                          clear c52
                          by_cases c53 : 1 < (x4_1.length : Int)
                          · rw [if_pos c53] at H
                            have c53b0 : decide (1 < (x4_1.length : Int)) = true := decide_eq_true c53
                            have c53b1 : decide (1 < x4_1.length) = true := decide_eq_true (by omega)
                            clear c53
                            by_cases c54 : 2 < (x4_1.length : Int)
                            · rw [if_pos c54] at H
                              have c54b0 : decide (2 < (x4_1.length : Int)) = true := decide_eq_true c54
                              have c54b1 : decide (2 < x4_1.length) = true := decide_eq_true (by omega)
                              clear c54
                              by_cases c55 : 3 < (x4_1.length : Int)
                              · rw [if_pos c55] at H
                                have c55b0 : decide (3 < (x4_1.length : Int)) = true := decide_eq_true c55
                                have c55b1 : decide (3 < x4_1.length) = true := decide_eq_true (by omega)
                                clear c55
                                by_cases c56 : 4 < (x4_1.length : Int)
                                · rw [if_pos c56] at H
                                  have c56b0 : decide (4 < (x4_1.length : Int)) = true := decide_eq_true c56
                                  have c56b1 : decide (4 < x4_1.length) = true := decide_eq_true (by omega)
                                  clear c56
                                  replace H := Option.bind_eq_some_iff.mp H
                                  obtain ⟨t179, A570, H⟩ := H
                                  replace H : (some (2, rd x4_1 0, rd x4_1 1, rd x4_1 2, rd x4_1 3, rd x4_1 4, t179)) = some (r1, r2, r3, r4, r5, r6, r7) := H
                                  have A57 := Aside0.mk A570
                                  clear A570
                                  simp only [Option.some.injEq, Prod.mk.injEq] at H
                                  obtain ⟨rfl, rfl, rfl, rfl, rfl, rfl, rfl⟩ := H
                                  have p173 : 0 ≤ (0 : Int) := (by omega)
                                  have q173 : 0 < (l0.length : Int) := of_decide_eq_true qs
                                  obtain ⟨ad173, e173, hx173_0⟩ := Kd.at_string HR0.out 0 p173 q173
                                  cases e173
                                  have qi173 : (0 < l0.length) = True := eq_true (by omega)
                                  (try rw [show ((0 : Int)).toNat = 0 from rfl] at hx173_0)
                                  (try rw [Addr.add_zero'] at hx173_0)
                                  replace hx173_0 := (HB.out.cell (World.block_lt_of_cell? w _ hx173_0)).trans hx173_0
                                  replace p173 := eq_true p173
                                  replace q173 := eq_true q173
                                  obtain ⟨Ao58, co58, eo58⟩ := Kd.R_slice HO_4.out
                                  subst eo58
                                  try go_wp2
                                  (try (rw [drewN_self wc]; generalize hq_ : World.drewN wc _ = wc; have n0_ : Aside0 (Kd.R (Kd.int .i64) 3 wc w.heap.size (fun _ => True) (.slice Ao58 x4_1.length co58) x4_1) := ⟨by rw [← hq_]; exact (qr HO_4.out)⟩; have n1_ : Aside0 (wc.heap[gb156]? = some (.cells #[.int .i64 x157000_1, .int .i64 x157001_1, .int .i64 x157002_1, .int .i64 x157003_1, .int .i64 x157004_1, .int .i64 x157005_1] 41 (0, 0))) := ⟨by rw [← hq_]; exact (qb BK156.out)⟩; have n2_ : Aside0 (wc.heap[gb167]? = some (.cells #[.int .i64 0, .int .i64 0, .int .i64 0, .int .i64 0, .int .i64 0, .int .i64 0] 41 (0, 0))) := ⟨by rw [← hq_]; exact (qb BK167.out)⟩; have n3_ : Aside0 (Below w.heap.size w wc) := ⟨by rw [← hq_]; exact (qw HB.out)⟩; clear HO_4 BK156 BK167 HB hq_; have HO_4 := n0_; have BK156 := n1_; have BK167 := n2_; have HB := n3_; clear n0_ n1_ n2_ n3_))
                                  have n0_ := Aside0.mk (Kd.R_drew HO_4.out)
                                  have n1_ := Aside0.mk (blk_drew BK156.out)
                                  have n2_ := Aside0.mk (blk_drew BK167.out)
                                  have n3_ := Aside0.mk (below_drew1 HB.out)
                                  clear HO_4
                                  clear BK156
                                  clear BK167
                                  clear HB
                                  have HO_4 := n0_
                                  have BK156 := n1_
                                  have BK167 := n2_
                                  have HB := n3_
                                  clear n0_ n1_ n2_ n3_
                                  have p174 : 0 ≤ (0 : Int) := (by omega)
                                  have q174 : 0 < (x4_1.length : Int) := of_decide_eq_true qs
                                  obtain ⟨ad174, e174, hx174_0⟩ := Kd.at_int (Kd.R_reads' HO_4.out).2.2 0 p174 q174
                                  cases e174
                                  have qi174 : (0 < x4_1.length) = True := eq_true (by omega)
                                  (try rw [show ((0 : Int)).toNat = 0 from rfl] at hx174_0)
                                  (try rw [Addr.add_zero'] at hx174_0)
                                  replace p174 := eq_true p174
                                  replace q174 := eq_true q174
                                  have p175 : 0 ≤ (1 : Int) := (by omega)
                                  have q175 : 1 < (x4_1.length : Int) := of_decide_eq_true qs
                                  obtain ⟨ad175, e175, hx175_0⟩ := Kd.at_int (Kd.R_reads' HO_4.out).2.2 1 p175 q175
                                  obtain rfl : ad174 = ad175 := (by injection e175)
                                  (try simp only [show (1 : Int).toNat = 1 from rfl, Nat.reduceMul, Nat.reduceEqDiff, Go.Addr.add, ↓reduceIte] at hx175_0)
                                  have qi175 : (1 < x4_1.length) = True := eq_true (by omega)
                                  (try rw [show ((1 : Int)).toNat = 1 from rfl] at hx175_0)
                                  replace p175 := eq_true p175
                                  replace q175 := eq_true q175
                                  have p176 : 0 ≤ (2 : Int) := (by omega)
                                  have q176 : 2 < (x4_1.length : Int) := of_decide_eq_true qs
                                  obtain ⟨ad176, e176, hx176_0⟩ := Kd.at_int (Kd.R_reads' HO_4.out).2.2 2 p176 q176
                                  obtain rfl : ad174 = ad176 := (by injection e176)
                                  (try simp only [show (2 : Int).toNat = 2 from rfl, Nat.reduceMul, Nat.reduceEqDiff, Go.Addr.add, ↓reduceIte] at hx176_0)
                                  have qi176 : (2 < x4_1.length) = True := eq_true (by omega)
                                  (try rw [show ((2 : Int)).toNat = 2 from rfl] at hx176_0)
                                  replace p176 := eq_true p176
                                  replace q176 := eq_true q176
                                  have p177 : 0 ≤ (3 : Int) := (by omega)
                                  have q177 : 3 < (x4_1.length : Int) := of_decide_eq_true qs
                                  obtain ⟨ad177, e177, hx177_0⟩ := Kd.at_int (Kd.R_reads' HO_4.out).2.2 3 p177 q177
                                  obtain rfl : ad174 = ad177 := (by injection e177)
                                  (try simp only [show (3 : Int).toNat = 3 from rfl, Nat.reduceMul, Nat.reduceEqDiff, Go.Addr.add, ↓reduceIte] at hx177_0)
                                  have qi177 : (3 < x4_1.length) = True := eq_true (by omega)
                                  (try rw [show ((3 : Int)).toNat = 3 from rfl] at hx177_0)
                                  replace p177 := eq_true p177
                                  replace q177 := eq_true q177
                                  have p178 : 0 ≤ (4 : Int) := (by omega)
                                  have q178 : 4 < (x4_1.length : Int) := of_decide_eq_true qs
                                  obtain ⟨ad178, e178, hx178_0⟩ := Kd.at_int (Kd.R_reads' HO_4.out).2.2 4 p178 q178
                                  obtain rfl : ad174 = ad178 := (by injection e178)
                                  (try simp only [show (4 : Int).toNat = 4 from rfl, Nat.reduceMul, Nat.reduceEqDiff, Go.Addr.add, ↓reduceIte] at hx178_0)
                                  have qi178 : (4 < x4_1.length) = True := eq_true (by omega)
                                  (try rw [show ((4 : Int)).toNat = 4 from rfl] at hx178_0)
                                  replace p178 := eq_true p178
                                  replace q178 := eq_true q178
                                  refine start_ (n := 17) (S := fun w' => w'.cell? ad174 = some (.int .i64 (rd x4_1 0)) ∧ w'.cell? ⟨ad174.block, ad174.off + 1, none⟩ = some (.int .i64 (rd x4_1 1)) ∧ w'.cell? ⟨ad174.block, ad174.off + 2, none⟩ = some (.int .i64 (rd x4_1 2)) ∧ w'.cell? ⟨ad174.block, ad174.off + 3, none⟩ = some (.int .i64 (rd x4_1 3)) ∧ w'.cell? ⟨ad174.block, ad174.off + 4, none⟩ = some (.int .i64 (rd x4_1 4))) (ds := []) #[false, false, false, false, false, false, false, false, false, false, false, false, false, false, false, false, false] (by kernel_rfl) rfl rfl ⟨hx174_0, hx175_0, hx176_0, hx177_0, hx178_0⟩ (fun hHeld => ?_); refine with_tabW impl_readTask.tab16 impl_readTask.bits16 (fun HT_ HW_ => ?_)
                                  generalize wc.drew = w59 at HO_4 BK156 BK167 HB hx174_0 hx175_0 hx176_0 hx177_0 hx178_0 hHeld ⊢
                                  refine pure_ (i := 0) (N := some 66) (v := ?_) (a' := ?_) #[true, false, false, false, false, false, false, false, false, false, false, false, false, false, false, false, false] rfl rfl (any_of HT_.out (by kernel_rfl)) (fun _ _ _ h => h) (Or.inl ⟨by rfl, ?_⟩) ?_ ?_
                                  rotate_left
                                  · intro w'
                                    go_simp
                                    with_reducible rfl
                                  rotate_left
                                  · simp only [Act.put, List.setIfInBounds_toArray, List.set_cons_zero, List.set_cons_succ, i64_w, i32_w]
                                    rfl
                                  refine pure_ (i := 1) (N := some 67) (v := ?_) (a' := ?_) #[true, true, false, false, false, false, false, false, false, false, false, false, false, false, false, false, false] rfl rfl (any_of HT_.out (by kernel_rfl)) (fun _ _ _ h => h) (Or.inl ⟨by rfl, ?_⟩) ?_ ?_
                                  rotate_left
                                  · intro w'
                                    go_simp
                                    with_reducible rfl
                                  rotate_left
                                  · simp only [Act.put, List.setIfInBounds_toArray, List.set_cons_zero, List.set_cons_succ, i64_w, i32_w]
                                    rfl
                                  refine pure_ (i := 3) (N := some 69) (v := ?_) (a' := ?_) #[true, true, false, true, false, false, false, false, false, false, false, false, false, false, false, false, false] rfl rfl (any_of HT_.out (by kernel_rfl)) (fun _ _ _ h => h) (Or.inl ⟨by rfl, ?_⟩) ?_ ?_
                                  rotate_left
                                  · intro w'
                                    go_simp
                                    with_reducible rfl
                                  rotate_left
                                  · simp only [Act.put, List.setIfInBounds_toArray, List.set_cons_zero, List.set_cons_succ, i64_w, i32_w]
                                    rfl
                                  refine pure_ (i := 4) (N := some 70) (v := ?_) (a' := ?_) #[true, true, false, true, true, false, false, false, false, false, false, false, false, false, false, false, false] rfl rfl (any_of HT_.out (by kernel_rfl)) (fun _ _ _ h => h) (Or.inl ⟨by rfl, ?_⟩) ?_ ?_
                                  rotate_left
                                  · intro w'
                                    go_simp
                                    with_reducible rfl
                                  rotate_left
                                  · simp only [Act.put, List.setIfInBounds_toArray, List.set_cons_zero, List.set_cons_succ, i64_w, i32_w]
                                    rfl
                                  refine pure_ (i := 6) (N := some 72) (v := ?_) (a' := ?_) #[true, true, false, true, true, false, true, false, false, false, false, false, false, false, false, false, false] rfl rfl (any_of HT_.out (by kernel_rfl)) (fun _ _ _ h => h) (Or.inl ⟨by rfl, ?_⟩) ?_ ?_
                                  rotate_left
                                  · intro w'
                                    go_simp
                                    with_reducible rfl
                                  rotate_left
                                  · simp only [Act.put, List.setIfInBounds_toArray, List.set_cons_zero, List.set_cons_succ, i64_w, i32_w]
                                    rfl
                                  refine pure_ (i := 7) (N := some 73) (v := ?_) (a' := ?_) #[true, true, false, true, true, false, true, true, false, false, false, false, false, false, false, false, false] rfl rfl (any_of HT_.out (by kernel_rfl)) (fun _ _ _ h => h) (Or.inl ⟨by rfl, ?_⟩) ?_ ?_
                                  rotate_left
                                  · intro w'
                                    go_simp
                                    with_reducible rfl
                                  rotate_left
                                  · simp only [Act.put, List.setIfInBounds_toArray, List.set_cons_zero, List.set_cons_succ, i64_w, i32_w]
                                    rfl
                                  refine pure_ (i := 9) (N := some 75) (v := ?_) (a' := ?_) #[true, true, false, true, true, false, true, true, false, true, false, false, false, false, false, false, false] rfl rfl (any_of HT_.out (by kernel_rfl)) (fun _ _ _ h => h) (Or.inl ⟨by rfl, ?_⟩) ?_ ?_
                                  rotate_left
                                  · intro w'
                                    go_simp
                                    with_reducible rfl
                                  rotate_left
                                  · simp only [Act.put, List.setIfInBounds_toArray, List.set_cons_zero, List.set_cons_succ, i64_w, i32_w]
                                    rfl
                                  refine pure_ (i := 10) (N := some 76) (v := ?_) (a' := ?_) #[true, true, false, true, true, false, true, true, false, true, true, false, false, false, false, false, false] rfl rfl (any_of HT_.out (by kernel_rfl)) (fun _ _ _ h => h) (Or.inl ⟨by rfl, ?_⟩) ?_ ?_
                                  rotate_left
                                  · intro w'
                                    go_simp
                                    with_reducible rfl
                                  rotate_left
                                  · simp only [Act.put, List.setIfInBounds_toArray, List.set_cons_zero, List.set_cons_succ, i64_w, i32_w]
                                    rfl
                                  refine pure_ (i := 12) (N := some 78) (v := ?_) (a' := ?_) #[true, true, false, true, true, false, true, true, false, true, true, false, true, false, false, false, false] rfl rfl (any_of HT_.out (by kernel_rfl)) (fun _ _ _ h => h) (Or.inl ⟨by rfl, ?_⟩) ?_ ?_
                                  rotate_left
                                  · intro w'
                                    go_simp
                                    with_reducible rfl
                                  rotate_left
                                  · simp only [Act.put, List.setIfInBounds_toArray, List.set_cons_zero, List.set_cons_succ, i64_w, i32_w]
                                    rfl
                                  refine pure_ (i := 13) (N := some 79) (v := ?_) (a' := ?_) #[true, true, false, true, true, false, true, true, false, true, true, false, true, true, false, false, false] rfl rfl (any_of HT_.out (by kernel_rfl)) (fun _ _ _ h => h) (Or.inl ⟨by rfl, ?_⟩) ?_ ?_
                                  rotate_left
                                  · intro w'
                                    go_simp
                                    with_reducible rfl
                                  rotate_left
                                  · simp only [Act.put, List.setIfInBounds_toArray, List.set_cons_zero, List.set_cons_succ, i64_w, i32_w]
                                    rfl
                                  refine take_ (i := 2) (N := some 68) (v := ?_) (a' := ?_) #[true, true, true, true, true, false, true, true, false, true, true, false, true, true, false, false, false] rfl rfl (take_ofW HT_.out HW_.out (by kernel_rfl)) (fun _ _ _ h => h) (Or.inl ⟨by rfl, ?_⟩) hHeld ?_ ?_
                                  rotate_left
                                  · rintro w' ⟨s0, s1, s2, s3, s4⟩
                                    go_simp
                                    with_reducible rfl
                                  rotate_left
                                  · simp only [Act.put, List.setIfInBounds_toArray, List.set_cons_zero, List.set_cons_succ, i64_w, i32_w]
                                    rfl
                                  refine take_ (i := 5) (N := some 71) (v := ?_) (a' := ?_) #[true, true, true, true, true, true, true, true, false, true, true, false, true, true, false, false, false] rfl rfl (take_ofW HT_.out HW_.out (by kernel_rfl)) (fun _ _ _ h => h) (Or.inl ⟨by rfl, ?_⟩) hHeld ?_ ?_
                                  rotate_left
                                  · rintro w' ⟨s0, s1, s2, s3, s4⟩
                                    go_simp
                                    with_reducible rfl
                                  rotate_left
                                  · simp only [Act.put, List.setIfInBounds_toArray, List.set_cons_zero, List.set_cons_succ, i64_w, i32_w]
                                    rfl
                                  refine take_ (i := 8) (N := some 74) (v := ?_) (a' := ?_) #[true, true, true, true, true, true, true, true, true, true, true, false, true, true, false, false, false] rfl rfl (take_ofW HT_.out HW_.out (by kernel_rfl)) (fun _ _ _ h => h) (Or.inl ⟨by rfl, ?_⟩) hHeld ?_ ?_
                                  rotate_left
                                  · rintro w' ⟨s0, s1, s2, s3, s4⟩
                                    go_simp
                                    with_reducible rfl
                                  rotate_left
                                  · simp only [Act.put, List.setIfInBounds_toArray, List.set_cons_zero, List.set_cons_succ, i64_w, i32_w]
                                    rfl
                                  refine take_ (i := 11) (N := some 77) (v := ?_) (a' := ?_) #[true, true, true, true, true, true, true, true, true, true, true, true, true, true, false, false, false] rfl rfl (take_ofW HT_.out HW_.out (by kernel_rfl)) (fun _ _ _ h => h) (Or.inl ⟨by rfl, ?_⟩) hHeld ?_ ?_
                                  rotate_left
                                  · rintro w' ⟨s0, s1, s2, s3, s4⟩
                                    go_simp
                                    with_reducible rfl
                                  rotate_left
                                  · simp only [Act.put, List.setIfInBounds_toArray, List.set_cons_zero, List.set_cons_succ, i64_w, i32_w]
                                    rfl
                                  refine take_ (i := 14) (N := some 80) (v := ?_) (a' := ?_) #[true, true, true, true, true, true, true, true, true, true, true, true, true, true, true, false, false] rfl rfl (take_ofW HT_.out HW_.out (by kernel_rfl)) (fun _ _ _ h => h) (Or.inl ⟨by rfl, ?_⟩) hHeld ?_ ?_
                                  rotate_left
                                  · rintro w' ⟨s0, s1, s2, s3, s4⟩
                                    go_simp
                                    with_reducible rfl
                                  rotate_left
                                  · simp only [Act.put, List.setIfInBounds_toArray, List.set_cons_zero, List.set_cons_succ, i64_w, i32_w]
                                    rfl
                                  refine pure_ (i := 15) (N := some 81) (v := ?_) (a' := ?_) #[true, true, true, true, true, true, true, true, true, true, true, true, true, true, true, true, false] rfl rfl (any_of HT_.out (by kernel_rfl)) (fun _ _ _ h => h) (Or.inl ⟨by rfl, ?_⟩) ?_ ?_
                                  rotate_left
                                  · intro w'
                                    go_simp
                                    with_reducible rfl
                                  rotate_left
                                  · simp only [Act.put, List.setIfInBounds_toArray, List.set_cons_zero, List.set_cons_succ, i64_w, i32_w]
                                    rfl
                                  refine one_ (i := 16) (N := none) #[true, true, true, true, true, true, true, true, true, true, true, true, true, true, true, true, true] rfl rfl (one_of HT_.out (by kernel_rfl)) (by decide) (fun K hK => ?_)
                                  have hs60 : w59.cell? ⟨gb167, 0, none⟩ = some (.int .i64 0) := (blk_cell BK167.out 0).trans rfl
                                  have hfs60 := blk_frozen BK167.out 0
                                  have hns60_0 := NB156_167.out
                                  have hms60_0 := NB167_156.out
                                  have hs61 : w59.cell? ⟨gb167, 1, none⟩ = some (.int .i64 0) := (blk_cell BK167.out 1).trans rfl
                                  have hfs61 := blk_frozen BK167.out 1
                                  have hns61_0 := NB156_167.out
                                  have hms61_0 := NB167_156.out
                                  have hs62 : w59.cell? ⟨gb167, 2, none⟩ = some (.int .i64 0) := (blk_cell BK167.out 2).trans rfl
                                  have hfs62 := blk_frozen BK167.out 2
                                  have hns62_0 := NB156_167.out
                                  have hms62_0 := NB167_156.out
                                  have hs63 : w59.cell? ⟨gb167, 3, none⟩ = some (.int .i64 0) := (blk_cell BK167.out 3).trans rfl
                                  have hfs63 := blk_frozen BK167.out 3
                                  have hns63_0 := NB156_167.out
                                  have hms63_0 := NB167_156.out
                                  have hs64 : w59.cell? ⟨gb167, 4, none⟩ = some (.int .i64 0) := (blk_cell BK167.out 4).trans rfl
                                  have hfs64 := blk_frozen BK167.out 4
                                  have hns64_0 := NB156_167.out
                                  have hms64_0 := NB167_156.out
                                  have hs65 : w59.cell? ⟨gb167, 5, none⟩ = some (.int .i64 0) := (blk_cell BK167.out 5).trans rfl
                                  have hfs65 := blk_frozen BK167.out 5
                                  have hns65_0 := NB156_167.out
                                  have hms65_0 := NB167_156.out
                                  refine skip_ (w1 := ?_) (by rfl) rfl ?_ ?_
                                  rotate_left
                                  · go_simp
                                    rfl
                                  have hne_ := Kd.own_blk (Kd.R_ne HO_4.out BK167.out (by decide))
                                  refine hK.out _ _ ⟨impl_readTask.seen6 hHeld.1 hne_, impl_readTask.seen6 hHeld.2.1 hne_, impl_readTask.seen6 hHeld.2.2.1 hne_, impl_readTask.seen6 hHeld.2.2.2.1 hne_, impl_readTask.seen6 hHeld.2.2.2.2 hne_⟩ (fun hHeld => ?_)
                                  clear hne_
                                  clear hK K
                                  refine done_ (done_of HT_.out (by kernel_rfl)) ?_
                                  try go_wp2
                                  have n0_ : Aside0 (Kd.R (Kd.int .i64) 3 ((((((w59.setCell ⟨gb167, 0, none⟩ (.int .i64 2)).setCell ⟨gb167, 1, none⟩ (.int .i64 (rd x4_1 0))).setCell ⟨gb167, 2, none⟩ (.int .i64 (rd x4_1 1))).setCell ⟨gb167, 3, none⟩ (.int .i64 (rd x4_1 2))).setCell ⟨gb167, 4, none⟩ (.int .i64 (rd x4_1 3))).setCell ⟨gb167, 5, none⟩ (.int .i64 (rd x4_1 4))) w.heap.size (fun _ => True) (.slice (some ad174) x4_1.length co58) x4_1) := ⟨by (with_reducible repeat (first | apply Kd.R_alloc | apply Kd.R_drewN | apply Kd.R_drew)); exact Kd.R_mono (Kd.R_far (p := ⟨gb167, 5, none⟩) (Kd.R_far (p := ⟨gb167, 4, none⟩) (Kd.R_far (p := ⟨gb167, 3, none⟩) (Kd.R_far (p := ⟨gb167, 2, none⟩) (Kd.R_far (p := ⟨gb167, 1, none⟩) (Kd.R_far (p := ⟨gb167, 0, none⟩) (Kd.R_types HO_4.out BK167.out (by decide)) (fun _ hk => hk.2) (.int .i64 2)) (fun _ hk => hk.2) (.int .i64 (rd x4_1 0))) (fun _ hk => hk.2) (.int .i64 (rd x4_1 1))) (fun _ hk => hk.2) (.int .i64 (rd x4_1 2))) (fun _ hk => hk.2) (.int .i64 (rd x4_1 3))) (fun _ hk => hk.2) (.int .i64 (rd x4_1 4))) (fun _ hk => trivial)⟩
                                  have n1_ : Aside0 (((((((w59.setCell ⟨gb167, 0, none⟩ (.int .i64 2)).setCell ⟨gb167, 1, none⟩ (.int .i64 (rd x4_1 0))).setCell ⟨gb167, 2, none⟩ (.int .i64 (rd x4_1 1))).setCell ⟨gb167, 3, none⟩ (.int .i64 (rd x4_1 2))).setCell ⟨gb167, 4, none⟩ (.int .i64 (rd x4_1 3))).setCell ⟨gb167, 5, none⟩ (.int .i64 (rd x4_1 4))).heap[gb156]? = some (.cells #[.int .i64 x157000_1, .int .i64 x157001_1, .int .i64 x157002_1, .int .i64 x157003_1, .int .i64 x157004_1, .int .i64 x157005_1] 41 (0, 0))) := ⟨by (with_reducible repeat (first | refine blk_drewN ?_ _ | refine blk_drew ?_ | refine blk_alloc ?_ _)); refine blk_far ?_ NB156_167.out _; (with_reducible repeat (first | refine blk_drewN ?_ _ | refine blk_drew ?_ | refine blk_alloc ?_ _)); refine blk_far ?_ NB156_167.out _; (with_reducible repeat (first | refine blk_drewN ?_ _ | refine blk_drew ?_ | refine blk_alloc ?_ _)); refine blk_far ?_ NB156_167.out _; (with_reducible repeat (first | refine blk_drewN ?_ _ | refine blk_drew ?_ | refine blk_alloc ?_ _)); refine blk_far ?_ NB156_167.out _; (with_reducible repeat (first | refine blk_drewN ?_ _ | refine blk_drew ?_ | refine blk_alloc ?_ _)); refine blk_far ?_ NB156_167.out _; (with_reducible repeat (first | refine blk_drewN ?_ _ | refine blk_drew ?_ | refine blk_alloc ?_ _)); refine blk_far ?_ NB156_167.out _; (with_reducible repeat (first | refine blk_drewN ?_ _ | refine blk_drew ?_ | refine blk_alloc ?_ _)); exact BK156.out⟩
                                  have n2_ : Aside0 (((((((w59.setCell ⟨gb167, 0, none⟩ (.int .i64 2)).setCell ⟨gb167, 1, none⟩ (.int .i64 (rd x4_1 0))).setCell ⟨gb167, 2, none⟩ (.int .i64 (rd x4_1 1))).setCell ⟨gb167, 3, none⟩ (.int .i64 (rd x4_1 2))).setCell ⟨gb167, 4, none⟩ (.int .i64 (rd x4_1 3))).setCell ⟨gb167, 5, none⟩ (.int .i64 (rd x4_1 4))).heap[gb167]? = some (.cells #[.int .i64 2, .int .i64 (rd x4_1 0), .int .i64 (rd x4_1 1), .int .i64 (rd x4_1 2), .int .i64 (rd x4_1 3), .int .i64 (rd x4_1 4)] 41 (0, 0))) := ⟨by (with_reducible repeat (first | refine blk_drewN ?_ _ | refine blk_drew ?_ | refine blk_alloc ?_ _)); refine blk_put (cs := #[.int .i64 2, .int .i64 (rd x4_1 0), .int .i64 (rd x4_1 1), .int .i64 (rd x4_1 2), .int .i64 (rd x4_1 3), .int .i64 0]) ?_ 5 _ rfl; (with_reducible repeat (first | refine blk_drewN ?_ _ | refine blk_drew ?_ | refine blk_alloc ?_ _)); refine blk_put (cs := #[.int .i64 2, .int .i64 (rd x4_1 0), .int .i64 (rd x4_1 1), .int .i64 (rd x4_1 2), .int .i64 0, .int .i64 0]) ?_ 4 _ rfl; (with_reducible repeat (first | refine blk_drewN ?_ _ | refine blk_drew ?_ | refine blk_alloc ?_ _)); refine blk_put (cs := #[.int .i64 2, .int .i64 (rd x4_1 0), .int .i64 (rd x4_1 1), .int .i64 0, .int .i64 0, .int .i64 0]) ?_ 3 _ rfl; (with_reducible repeat (first | refine blk_drewN ?_ _ | refine blk_drew ?_ | refine blk_alloc ?_ _)); refine blk_put (cs := #[.int .i64 2, .int .i64 (rd x4_1 0), .int .i64 0, .int .i64 0, .int .i64 0, .int .i64 0]) ?_ 2 _ rfl; (with_reducible repeat (first | refine blk_drewN ?_ _ | refine blk_drew ?_ | refine blk_alloc ?_ _)); refine blk_put (cs := #[.int .i64 2, .int .i64 0, .int .i64 0, .int .i64 0, .int .i64 0, .int .i64 0]) ?_ 1 _ rfl; (with_reducible repeat (first | refine blk_drewN ?_ _ | refine blk_drew ?_ | refine blk_alloc ?_ _)); refine blk_put (cs := #[.int .i64 0, .int .i64 0, .int .i64 0, .int .i64 0, .int .i64 0, .int .i64 0]) ?_ 0 _ rfl; (with_reducible repeat (first | refine blk_drewN ?_ _ | refine blk_drew ?_ | refine blk_alloc ?_ _)); exact BK167.out⟩
                                  have n3_ : Aside0 (Below w.heap.size w ((((((w59.setCell ⟨gb167, 0, none⟩ (.int .i64 2)).setCell ⟨gb167, 1, none⟩ (.int .i64 (rd x4_1 0))).setCell ⟨gb167, 2, none⟩ (.int .i64 (rd x4_1 1))).setCell ⟨gb167, 3, none⟩ (.int .i64 (rd x4_1 2))).setCell ⟨gb167, 4, none⟩ (.int .i64 (rd x4_1 3))).setCell ⟨gb167, 5, none⟩ (.int .i64 (rd x4_1 4)))) := ⟨qw HB.out⟩
                                  (try clear HO_4)
                                  (try clear BK156)
                                  (try clear BK167)
                                  (try clear HB)
                                  generalize ((((((w59.setCell ⟨gb167, 0, none⟩ (.int .i64 2)).setCell ⟨gb167, 1, none⟩ (.int .i64 (rd x4_1 0))).setCell ⟨gb167, 2, none⟩ (.int .i64 (rd x4_1 1))).setCell ⟨gb167, 3, none⟩ (.int .i64 (rd x4_1 2))).setCell ⟨gb167, 4, none⟩ (.int .i64 (rd x4_1 3))).setCell ⟨gb167, 5, none⟩ (.int .i64 (rd x4_1 4))) = w66 at n0_ n1_ n2_ n3_ ⊢
                                  have HO_4 := n0_
                                  have BK156 := n1_
                                  have BK167 := n2_
                                  have HB := n3_
                                  clear n0_ n1_ n2_ n3_
                                  (try (rw [drewN_self w66]; generalize hq_ : World.drewN w66 _ = w66; have n0_ : Aside0 (Kd.R (Kd.int .i64) 3 w66 w.heap.size (fun _ => True) (.slice (some ad174) x4_1.length co58) x4_1) := ⟨by rw [← hq_]; exact (qr HO_4.out)⟩; have n1_ : Aside0 (w66.heap[gb156]? = some (.cells #[.int .i64 x157000_1, .int .i64 x157001_1, .int .i64 x157002_1, .int .i64 x157003_1, .int .i64 x157004_1, .int .i64 x157005_1] 41 (0, 0))) := ⟨by rw [← hq_]; exact (qb BK156.out)⟩; have n2_ : Aside0 (w66.heap[gb167]? = some (.cells #[.int .i64 2, .int .i64 (rd x4_1 0), .int .i64 (rd x4_1 1), .int .i64 (rd x4_1 2), .int .i64 (rd x4_1 3), .int .i64 (rd x4_1 4)] 41 (0, 0))) := ⟨by rw [← hq_]; exact (qb BK167.out)⟩; have n3_ : Aside0 (Below w.heap.size w w66) := ⟨by rw [← hq_]; exact (qw HB.out)⟩; clear HO_4 BK156 BK167 HB hq_; have HO_4 := n0_; have BK156 := n1_; have BK167 := n2_; have HB := n3_; clear n0_ n1_ n2_ n3_))
                                  have n0_ := Aside0.mk (Kd.R_drew HO_4.out)
                                  have n1_ := Aside0.mk (blk_drew BK156.out)
                                  have n2_ := Aside0.mk (blk_drew BK167.out)
                                  have n3_ := Aside0.mk (below_drew1 HB.out)
                                  clear HO_4
                                  clear BK156
                                  clear BK167
                                  clear HB
                                  have HO_4 := n0_
                                  have BK156 := n1_
                                  have BK167 := n2_
                                  have HB := n3_
                                  clear n0_ n1_ n2_ n3_
                                  refine start_ (n := 5) (S := fun w' => w'.cell? ⟨gb167, 0, none⟩ = some (.int .i64 2) ∧ w'.cell? ⟨gb167, 1, none⟩ = some (.int .i64 (rd x4_1 0)) ∧ w'.cell? ⟨gb167, 2, none⟩ = some (.int .i64 (rd x4_1 1)) ∧ w'.cell? ⟨gb167, 3, none⟩ = some (.int .i64 (rd x4_1 2)) ∧ w'.cell? ⟨gb167, 4, none⟩ = some (.int .i64 (rd x4_1 3)) ∧ w'.cell? ⟨gb167, 5, none⟩ = some (.int .i64 (rd x4_1 4))) (ds := []) #[false, false, false, false, false] (by kernel_rfl) rfl rfl ⟨(blk_cell BK167.out 0).trans rfl, (blk_cell BK167.out 1).trans rfl, (blk_cell BK167.out 2).trans rfl, (blk_cell BK167.out 3).trans rfl, (blk_cell BK167.out 4).trans rfl, (blk_cell BK167.out 5).trans rfl⟩ (fun hHeld => ?_)
                                  generalize w66.drew = w67 at HO_4 BK156 BK167 HB hHeld ⊢
                                  refine take_ (i := 0) (N := some 82) (v := ?_) (a' := ?_) #[true, false, false, false, false] rfl rfl (by kernel_rfl) (fun _ _ _ h => h) (Or.inl ⟨by rfl, ?_⟩) hHeld ?_ ?_
                                  rotate_left
                                  · rintro w' ⟨s0, s1, s2, s3, s4, s5⟩
                                    go_simp
                                    with_reducible rfl
                                  rotate_left
                                  · simp only [Act.put, List.setIfInBounds_toArray, List.set_cons_zero, List.set_cons_succ, i64_w, i32_w]
                                    rfl
                                  refine take_ (i := 1) (N := some 83) (v := ?_) (a' := ?_) #[true, true, false, false, false] rfl rfl (by kernel_rfl) (fun _ _ _ h => h) (Or.inl ⟨by rfl, ?_⟩) hHeld ?_ ?_
                                  rotate_left
                                  · rintro w' ⟨s0, s1, s2, s3, s4, s5⟩
                                    go_simp
                                    with_reducible rfl
                                  rotate_left
                                  · simp only [Act.put, List.setIfInBounds_toArray, List.set_cons_zero, List.set_cons_succ, i64_w, i32_w]
                                    rfl
                                  refine one_ (i := 2) (N := some 84) #[true, true, true, false, false] rfl rfl (by kernel_rfl) (by decide) (fun K hK => ?_)
                                  refine goes_ Tryd.func69 (by kernel_rfl) rfl #[.agg #[.int .i64 2, .int .i64 (rd x4_1 0), .int .i64 (rd x4_1 1), .int .i64 (rd x4_1 2), .int .i64 (rd x4_1 3), .int .i64 (rd x4_1 4)]] (by rfl) rfl rfl (by (try simp only [List.map_toArray, List.map_cons, List.map_nil]); first | done | rfl | (simp only [List.length_drop, List.length_take]; rfl) | (simp only [List.drop_one]; rfl)) ?_
                                  with_reducible refine (impl_TaskOK.calls kj19 2 (rd x4_1 0) (rd x4_1 1) (rd x4_1 2) (rd x4_1 3) (rd x4_1 4) t179 _ A57.out).mono ?_
                                  rintro e w68 ⟨rfl, hb⟩
                                  refine ⟨_, rfl, ?_⟩
                                  have n0_ := Aside0.mk (Kd.R_below (qr HO_4.out) hb)
                                  have n1_ := Aside0.mk (blk_below (g := gb156) (o := .cells #[.int .i64 x157000_1, .int .i64 x157001_1, .int .i64 x157002_1, .int .i64 x157003_1, .int .i64 x157004_1, .int .i64 x157005_1] 41 (0, 0)) (qb BK156.out) hb)
                                  have n2_ := Aside0.mk (blk_below (g := gb167) (o := .cells #[.int .i64 2, .int .i64 (rd x4_1 0), .int .i64 (rd x4_1 1), .int .i64 (rd x4_1 2), .int .i64 (rd x4_1 3), .int .i64 (rd x4_1 4)] 41 (0, 0)) (qb BK167.out) hb)
                                  have n3_ := Aside0.mk (below_step (qw HB.out) hb)
                                  clear HO_4
                                  clear BK156
                                  clear BK167
                                  clear HB
                                  have HO_4 := n0_
                                  have BK156 := n1_
                                  have BK167 := n2_
                                  have HB := n3_
                                  clear n0_ n1_ n2_ n3_
                                  (try clear hb)
                                  (try clear hb2)
                                  (try clear hk)
                                  (try clear hi)
                                  refine hK.out _ _ ⟨(blk_cell BK167.out 0).trans rfl, (blk_cell BK167.out 1).trans rfl, (blk_cell BK167.out 2).trans rfl, (blk_cell BK167.out 3).trans rfl, (blk_cell BK167.out 4).trans rfl, (blk_cell BK167.out 5).trans rfl⟩ (fun hHeld => ?_)
                                  clear hK K
                                  refine norm_ (a' := ?_) ?_ ?_
                                  rotate_left
                                  · show Act.put _ (some 84) _ = _
                                    simp only [Act.put, List.setIfInBounds_toArray, List.set_cons_zero, List.set_cons_succ, i64_w, i32_w]
                                    rfl
                                  refine one_ (i := 3) (N := none) #[true, true, true, true, false] rfl rfl (by kernel_rfl) (by decide) (fun K hK => ?_)
                                  have hs69 : w68.cell? ⟨gb156, 0, none⟩ = some (.int .i64 x157000_1) := (blk_cell BK156.out 0).trans rfl
                                  have hfs69 := blk_frozen BK156.out 0
                                  have hns69_1 := NB167_156.out
                                  have hms69_1 := NB156_167.out
                                  have hs70 : w68.cell? ⟨gb156, 1, none⟩ = some (.int .i64 x157001_1) := (blk_cell BK156.out 1).trans rfl
                                  have hfs70 := blk_frozen BK156.out 1
                                  have hns70_1 := NB167_156.out
                                  have hms70_1 := NB156_167.out
                                  have hs71 : w68.cell? ⟨gb156, 2, none⟩ = some (.int .i64 x157002_1) := (blk_cell BK156.out 2).trans rfl
                                  have hfs71 := blk_frozen BK156.out 2
                                  have hns71_1 := NB167_156.out
                                  have hms71_1 := NB156_167.out
                                  have hs72 : w68.cell? ⟨gb156, 3, none⟩ = some (.int .i64 x157003_1) := (blk_cell BK156.out 3).trans rfl
                                  have hfs72 := blk_frozen BK156.out 3
                                  have hns72_1 := NB167_156.out
                                  have hms72_1 := NB156_167.out
                                  have hs73 : w68.cell? ⟨gb156, 4, none⟩ = some (.int .i64 x157004_1) := (blk_cell BK156.out 4).trans rfl
                                  have hfs73 := blk_frozen BK156.out 4
                                  have hns73_1 := NB167_156.out
                                  have hms73_1 := NB156_167.out
                                  have hs74 : w68.cell? ⟨gb156, 5, none⟩ = some (.int .i64 x157005_1) := (blk_cell BK156.out 5).trans rfl
                                  have hfs74 := blk_frozen BK156.out 5
                                  have hns74_1 := NB167_156.out
                                  have hms74_1 := NB156_167.out
                                  refine skip_ (w1 := ?_) (by rfl) rfl ?_ ?_
                                  rotate_left
                                  · go_simp
                                    rfl
                                  have hne_ := NB167_156.out
                                  refine hK.out _ _ ⟨impl_readTask.seen6 hHeld.1 hne_, impl_readTask.seen6 hHeld.2.1 hne_, impl_readTask.seen6 hHeld.2.2.1 hne_, impl_readTask.seen6 hHeld.2.2.2.1 hne_, impl_readTask.seen6 hHeld.2.2.2.2.1 hne_, impl_readTask.seen6 hHeld.2.2.2.2.2 hne_⟩ (fun hHeld => ?_)
                                  clear hne_
                                  clear hK K
                                  refine pure_ (i := 4) (N := some 3) (v := ?_) (a' := ?_) #[true, true, true, true, true] rfl rfl (by kernel_rfl) (fun _ _ _ h => h) (Or.inl ⟨by rfl, ?_⟩) ?_ ?_
                                  rotate_left
                                  · intro w'
                                    go_simp
                                    with_reducible rfl
                                  rotate_left
                                  · simp only [Act.put, List.setIfInBounds_toArray, List.set_cons_zero, List.set_cons_succ, i64_w, i32_w]
                                    rfl
                                  refine done_ (by kernel_rfl) ?_
                                  try go_wp2
                                  refine bodyPost_ret (results_ct rfl _ _ gb156 41 #[.int .i64 2, .int .i64 (rd x4_1 0), .int .i64 (rd x4_1 1), .int .i64 (rd x4_1 2), .int .i64 (rd x4_1 3), .int .i64 (rd x4_1 4)] (0, 0) _ rfl (by (with_reducible repeat (first | refine blk_drewN ?_ _ | refine blk_drew ?_ | refine blk_alloc ?_ _)); refine blk_put (cs := #[.int .i64 2, .int .i64 (rd x4_1 0), .int .i64 (rd x4_1 1), .int .i64 (rd x4_1 2), .int .i64 (rd x4_1 3), .int .i64 x157005_1]) ?_ 5 _ rfl; (with_reducible repeat (first | refine blk_drewN ?_ _ | refine blk_drew ?_ | refine blk_alloc ?_ _)); refine blk_put (cs := #[.int .i64 2, .int .i64 (rd x4_1 0), .int .i64 (rd x4_1 1), .int .i64 (rd x4_1 2), .int .i64 x157004_1, .int .i64 x157005_1]) ?_ 4 _ rfl; (with_reducible repeat (first | refine blk_drewN ?_ _ | refine blk_drew ?_ | refine blk_alloc ?_ _)); refine blk_put (cs := #[.int .i64 2, .int .i64 (rd x4_1 0), .int .i64 (rd x4_1 1), .int .i64 x157003_1, .int .i64 x157004_1, .int .i64 x157005_1]) ?_ 3 _ rfl; (with_reducible repeat (first | refine blk_drewN ?_ _ | refine blk_drew ?_ | refine blk_alloc ?_ _)); refine blk_put (cs := #[.int .i64 2, .int .i64 (rd x4_1 0), .int .i64 x157002_1, .int .i64 x157003_1, .int .i64 x157004_1, .int .i64 x157005_1]) ?_ 2 _ rfl; (with_reducible repeat (first | refine blk_drewN ?_ _ | refine blk_drew ?_ | refine blk_alloc ?_ _)); refine blk_put (cs := #[.int .i64 2, .int .i64 x157001_1, .int .i64 x157002_1, .int .i64 x157003_1, .int .i64 x157004_1, .int .i64 x157005_1]) ?_ 1 _ rfl; (with_reducible repeat (first | refine blk_drewN ?_ _ | refine blk_drew ?_ | refine blk_alloc ?_ _)); refine blk_put (cs := #[.int .i64 x157000_1, .int .i64 x157001_1, .int .i64 x157002_1, .int .i64 x157003_1, .int .i64 x157004_1, .int .i64 x157005_1]) ?_ 0 _ rfl; (with_reducible repeat (first | refine blk_drewN ?_ _ | refine blk_drew ?_ | refine blk_alloc ?_ _)); exact BK156.out) Tryd.underlying41 rfl (by kernel_rfl)) rfl ?_
                                  exact ⟨qe, qw HB.out⟩
                                · rw [if_neg c56] at H
                                  exact absurd H (by simp)
                              · rw [if_neg c55] at H
                                exact absurd H (by simp)
                            · rw [if_neg c54] at H
                              exact absurd H (by simp)
                          · rw [if_neg c53] at H
                            exact absurd H (by simp)
                        · rw [if_neg c52] at H
                          exact absurd H (by simp)
                      · rw [if_neg c51] at H
                        have c51b0 : ((x4_1.length : Int) == 5) = false := beq_eq_false_iff_ne.mpr c51
                        have c51b1 : ((x4_1.length : Int) != 5) = true := bne_iff_ne.mpr c51
                        replace H := Option.bind_eq_some_iff.mp H
                        obtain ⟨t180, A750, H⟩ := H
                        replace H : (some (0, 0, 0, 0, 0, 0, t180)) = some (r1, r2, r3, r4, r5, r6, r7) := H
                        have A75 := Aside0.mk A750
                        clear A750
                        simp only [Option.some.injEq, Prod.mk.injEq] at H
                        obtain ⟨rfl, rfl, rfl, rfl, rfl, rfl, rfl⟩ := H
                        have p173 : 0 ≤ (0 : Int) := (by omega)
                        have q173 : 0 < (l0.length : Int) := of_decide_eq_true qs
                        obtain ⟨ad173, e173, hx173_0⟩ := Kd.at_string HR0.out 0 p173 q173
                        cases e173
                        have qi173 : (0 < l0.length) = True := eq_true (by omega)
                        (try rw [show ((0 : Int)).toNat = 0 from rfl] at hx173_0)
                        (try rw [Addr.add_zero'] at hx173_0)
                        replace hx173_0 := (HB.out.cell (World.block_lt_of_cell? w _ hx173_0)).trans hx173_0
                        replace p173 := eq_true p173
                        replace q173 := eq_true q173
                        obtain ⟨Ao76, co76, eo76⟩ := Kd.R_slice HO_4.out
                        subst eo76
                        try go_wp2
                        (try (rw [drewN_self wc]; generalize hq_ : World.drewN wc _ = wc; have n0_ : Aside0 (Kd.R (Kd.int .i64) 3 wc w.heap.size (fun _ => True) (.slice Ao76 x4_1.length co76) x4_1) := ⟨by rw [← hq_]; exact (qr HO_4.out)⟩; have n1_ : Aside0 (wc.heap[gb156]? = some (.cells #[.int .i64 x157000_1, .int .i64 x157001_1, .int .i64 x157002_1, .int .i64 x157003_1, .int .i64 x157004_1, .int .i64 x157005_1] 41 (0, 0))) := ⟨by rw [← hq_]; exact (qb BK156.out)⟩; have n2_ : Aside0 (wc.heap[gb167]? = some (.cells #[.int .i64 0, .int .i64 0, .int .i64 0, .int .i64 0, .int .i64 0, .int .i64 0] 41 (0, 0))) := ⟨by rw [← hq_]; exact (qb BK167.out)⟩; have n3_ : Aside0 (Below w.heap.size w wc) := ⟨by rw [← hq_]; exact (qw HB.out)⟩; clear HO_4 BK156 BK167 HB hq_; have HO_4 := n0_; have BK156 := n1_; have BK167 := n2_; have HB := n3_; clear n0_ n1_ n2_ n3_))
                        have n0_ := Aside0.mk (Kd.R_drew HO_4.out)
                        have n1_ := Aside0.mk (blk_drew BK156.out)
                        have n2_ := Aside0.mk (blk_drew BK167.out)
                        have n3_ := Aside0.mk (below_drew1 HB.out)
                        clear HO_4
                        clear BK156
                        clear BK167
                        clear HB
                        have HO_4 := n0_
                        have BK156 := n1_
                        have BK167 := n2_
                        have HB := n3_
                        clear n0_ n1_ n2_ n3_
                        refine start_ (n := 5) (S := fun w' => w'.cell? ⟨gb167, 0, none⟩ = some (.int .i64 0) ∧ w'.cell? ⟨gb167, 1, none⟩ = some (.int .i64 0) ∧ w'.cell? ⟨gb167, 2, none⟩ = some (.int .i64 0) ∧ w'.cell? ⟨gb167, 3, none⟩ = some (.int .i64 0) ∧ w'.cell? ⟨gb167, 4, none⟩ = some (.int .i64 0) ∧ w'.cell? ⟨gb167, 5, none⟩ = some (.int .i64 0)) (ds := []) #[false, false, false, false, false] (by kernel_rfl) rfl rfl ⟨(blk_cell BK167.out 0).trans rfl, (blk_cell BK167.out 1).trans rfl, (blk_cell BK167.out 2).trans rfl, (blk_cell BK167.out 3).trans rfl, (blk_cell BK167.out 4).trans rfl, (blk_cell BK167.out 5).trans rfl⟩ (fun hHeld => ?_)
                        generalize wc.drew = w77 at HO_4 BK156 BK167 HB hHeld ⊢
                        refine take_ (i := 0) (N := some 82) (v := ?_) (a' := ?_) #[true, false, false, false, false] rfl rfl (by kernel_rfl) (fun _ _ _ h => h) (Or.inl ⟨by rfl, ?_⟩) hHeld ?_ ?_
                        rotate_left
                        · rintro w' ⟨s0, s1, s2, s3, s4, s5⟩
                          go_simp
                          with_reducible rfl
                        rotate_left
                        · simp only [Act.put, List.setIfInBounds_toArray, List.set_cons_zero, List.set_cons_succ, i64_w, i32_w]
                          rfl
                        refine take_ (i := 1) (N := some 83) (v := ?_) (a' := ?_) #[true, true, false, false, false] rfl rfl (by kernel_rfl) (fun _ _ _ h => h) (Or.inl ⟨by rfl, ?_⟩) hHeld ?_ ?_
                        rotate_left
                        · rintro w' ⟨s0, s1, s2, s3, s4, s5⟩
                          go_simp
                          with_reducible rfl
                        rotate_left
                        · simp only [Act.put, List.setIfInBounds_toArray, List.set_cons_zero, List.set_cons_succ, i64_w, i32_w]
                          rfl
                        refine one_ (i := 2) (N := some 84) #[true, true, true, false, false] rfl rfl (by kernel_rfl) (by decide) (fun K hK => ?_)
                        refine goes_ Tryd.func69 (by kernel_rfl) rfl #[.agg #[.int .i64 0, .int .i64 0, .int .i64 0, .int .i64 0, .int .i64 0, .int .i64 0]] (by rfl) rfl rfl (by (try simp only [List.map_toArray, List.map_cons, List.map_nil]); first | done | rfl | (simp only [List.length_drop, List.length_take]; rfl) | (simp only [List.drop_one]; rfl)) ?_
                        with_reducible refine (impl_TaskOK.calls kj19 0 0 0 0 0 0 t180 _ A75.out).mono ?_
                        rintro e w78 ⟨rfl, hb⟩
                        refine ⟨_, rfl, ?_⟩
                        have n0_ := Aside0.mk (Kd.R_below (qr HO_4.out) hb)
                        have n1_ := Aside0.mk (blk_below (g := gb156) (o := .cells #[.int .i64 x157000_1, .int .i64 x157001_1, .int .i64 x157002_1, .int .i64 x157003_1, .int .i64 x157004_1, .int .i64 x157005_1] 41 (0, 0)) (qb BK156.out) hb)
                        have n2_ := Aside0.mk (blk_below (g := gb167) (o := .cells #[.int .i64 0, .int .i64 0, .int .i64 0, .int .i64 0, .int .i64 0, .int .i64 0] 41 (0, 0)) (qb BK167.out) hb)
                        have n3_ := Aside0.mk (below_step (qw HB.out) hb)
                        clear HO_4
                        clear BK156
                        clear BK167
                        clear HB
                        have HO_4 := n0_
                        have BK156 := n1_
                        have BK167 := n2_
                        have HB := n3_
                        clear n0_ n1_ n2_ n3_
                        (try clear hb)
                        (try clear hb2)
                        (try clear hk)
                        (try clear hi)
                        refine hK.out _ _ ⟨(blk_cell BK167.out 0).trans rfl, (blk_cell BK167.out 1).trans rfl, (blk_cell BK167.out 2).trans rfl, (blk_cell BK167.out 3).trans rfl, (blk_cell BK167.out 4).trans rfl, (blk_cell BK167.out 5).trans rfl⟩ (fun hHeld => ?_)
                        clear hK K
                        refine norm_ (a' := ?_) ?_ ?_
                        rotate_left
                        · show Act.put _ (some 84) _ = _
                          simp only [Act.put, List.setIfInBounds_toArray, List.set_cons_zero, List.set_cons_succ, i64_w, i32_w]
                          rfl
                        refine one_ (i := 3) (N := none) #[true, true, true, true, false] rfl rfl (by kernel_rfl) (by decide) (fun K hK => ?_)
                        have hs79 : w78.cell? ⟨gb156, 0, none⟩ = some (.int .i64 x157000_1) := (blk_cell BK156.out 0).trans rfl
                        have hfs79 := blk_frozen BK156.out 0
                        have hns79_1 := NB167_156.out
                        have hms79_1 := NB156_167.out
                        have hs80 : w78.cell? ⟨gb156, 1, none⟩ = some (.int .i64 x157001_1) := (blk_cell BK156.out 1).trans rfl
                        have hfs80 := blk_frozen BK156.out 1
                        have hns80_1 := NB167_156.out
                        have hms80_1 := NB156_167.out
                        have hs81 : w78.cell? ⟨gb156, 2, none⟩ = some (.int .i64 x157002_1) := (blk_cell BK156.out 2).trans rfl
                        have hfs81 := blk_frozen BK156.out 2
                        have hns81_1 := NB167_156.out
                        have hms81_1 := NB156_167.out
                        have hs82 : w78.cell? ⟨gb156, 3, none⟩ = some (.int .i64 x157003_1) := (blk_cell BK156.out 3).trans rfl
                        have hfs82 := blk_frozen BK156.out 3
                        have hns82_1 := NB167_156.out
                        have hms82_1 := NB156_167.out
                        have hs83 : w78.cell? ⟨gb156, 4, none⟩ = some (.int .i64 x157004_1) := (blk_cell BK156.out 4).trans rfl
                        have hfs83 := blk_frozen BK156.out 4
                        have hns83_1 := NB167_156.out
                        have hms83_1 := NB156_167.out
                        have hs84 : w78.cell? ⟨gb156, 5, none⟩ = some (.int .i64 x157005_1) := (blk_cell BK156.out 5).trans rfl
                        have hfs84 := blk_frozen BK156.out 5
                        have hns84_1 := NB167_156.out
                        have hms84_1 := NB156_167.out
                        refine skip_ (w1 := ?_) (by rfl) rfl ?_ ?_
                        rotate_left
                        · go_simp
                          rfl
                        have hne_ := NB167_156.out
                        refine hK.out _ _ ⟨impl_readTask.seen6 hHeld.1 hne_, impl_readTask.seen6 hHeld.2.1 hne_, impl_readTask.seen6 hHeld.2.2.1 hne_, impl_readTask.seen6 hHeld.2.2.2.1 hne_, impl_readTask.seen6 hHeld.2.2.2.2.1 hne_, impl_readTask.seen6 hHeld.2.2.2.2.2 hne_⟩ (fun hHeld => ?_)
                        clear hne_
                        clear hK K
                        refine pure_ (i := 4) (N := some 3) (v := ?_) (a' := ?_) #[true, true, true, true, true] rfl rfl (by kernel_rfl) (fun _ _ _ h => h) (Or.inl ⟨by rfl, ?_⟩) ?_ ?_
                        rotate_left
                        · intro w'
                          go_simp
                          with_reducible rfl
                        rotate_left
                        · simp only [Act.put, List.setIfInBounds_toArray, List.set_cons_zero, List.set_cons_succ, i64_w, i32_w]
                          rfl
                        refine done_ (by kernel_rfl) ?_
                        try go_wp2
                        refine bodyPost_ret (results_ct rfl _ _ gb156 41 #[.int .i64 0, .int .i64 0, .int .i64 0, .int .i64 0, .int .i64 0, .int .i64 0] (0, 0) _ rfl (by (with_reducible repeat (first | refine blk_drewN ?_ _ | refine blk_drew ?_ | refine blk_alloc ?_ _)); refine blk_put (cs := #[.int .i64 0, .int .i64 0, .int .i64 0, .int .i64 0, .int .i64 0, .int .i64 x157005_1]) ?_ 5 _ rfl; (with_reducible repeat (first | refine blk_drewN ?_ _ | refine blk_drew ?_ | refine blk_alloc ?_ _)); refine blk_put (cs := #[.int .i64 0, .int .i64 0, .int .i64 0, .int .i64 0, .int .i64 x157004_1, .int .i64 x157005_1]) ?_ 4 _ rfl; (with_reducible repeat (first | refine blk_drewN ?_ _ | refine blk_drew ?_ | refine blk_alloc ?_ _)); refine blk_put (cs := #[.int .i64 0, .int .i64 0, .int .i64 0, .int .i64 x157003_1, .int .i64 x157004_1, .int .i64 x157005_1]) ?_ 3 _ rfl; (with_reducible repeat (first | refine blk_drewN ?_ _ | refine blk_drew ?_ | refine blk_alloc ?_ _)); refine blk_put (cs := #[.int .i64 0, .int .i64 0, .int .i64 x157002_1, .int .i64 x157003_1, .int .i64 x157004_1, .int .i64 x157005_1]) ?_ 2 _ rfl; (with_reducible repeat (first | refine blk_drewN ?_ _ | refine blk_drew ?_ | refine blk_alloc ?_ _)); refine blk_put (cs := #[.int .i64 0, .int .i64 x157001_1, .int .i64 x157002_1, .int .i64 x157003_1, .int .i64 x157004_1, .int .i64 x157005_1]) ?_ 1 _ rfl; (with_reducible repeat (first | refine blk_drewN ?_ _ | refine blk_drew ?_ | refine blk_alloc ?_ _)); refine blk_put (cs := #[.int .i64 x157000_1, .int .i64 x157001_1, .int .i64 x157002_1, .int .i64 x157003_1, .int .i64 x157004_1, .int .i64 x157005_1]) ?_ 0 _ rfl; (with_reducible repeat (first | refine blk_drewN ?_ _ | refine blk_drew ?_ | refine blk_alloc ?_ _)); exact BK156.out) Tryd.underlying41 rfl (by kernel_rfl)) rfl ?_
                        exact ⟨qe, qw HB.out⟩
                    · rw [if_neg c50] at H
                      have c50b0 : ((rdOf ByteArray.empty l0 0).toList == ([101, 118, 101, 110, 116] : List UInt8)) = false := beq_eq_false_iff_ne.mpr c50
                      have c50b1 : ((rdOf ByteArray.empty l0 0).toList != ([101, 118, 101, 110, 116] : List UInt8)) = true := bne_iff_ne.mpr c50
                      replace H := Option.bind_eq_some_iff.mp H
                      obtain ⟨t181, A850, H⟩ := H
                      replace H : (some (0, 0, 0, 0, 0, 0, t181)) = some (r1, r2, r3, r4, r5, r6, r7) := H
                      have A85 := Aside0.mk A850
                      clear A850
                      simp only [Option.some.injEq, Prod.mk.injEq] at H
                      obtain ⟨rfl, rfl, rfl, rfl, rfl, rfl, rfl⟩ := H
                      have p173 : 0 ≤ (0 : Int) := (by omega)
                      have q173 : 0 < (l0.length : Int) := of_decide_eq_true qs
                      obtain ⟨ad173, e173, hx173_0⟩ := Kd.at_string HR0.out 0 p173 q173
                      cases e173
                      have qi173 : (0 < l0.length) = True := eq_true (by omega)
                      (try rw [show ((0 : Int)).toNat = 0 from rfl] at hx173_0)
                      (try rw [Addr.add_zero'] at hx173_0)
                      replace hx173_0 := (HB.out.cell (World.block_lt_of_cell? w _ hx173_0)).trans hx173_0
                      replace p173 := eq_true p173
                      replace q173 := eq_true q173
                      try go_wp2
                      (try (rw [drewN_self wc]; generalize hq_ : World.drewN wc _ = wc; have n0_ : Aside0 (Kd.R (Kd.int .i64) 3 wc w.heap.size (fun _ => True) u4 x4_1) := ⟨by rw [← hq_]; exact (qr HO_4.out)⟩; have n1_ : Aside0 (wc.heap[gb156]? = some (.cells #[.int .i64 x157000_1, .int .i64 x157001_1, .int .i64 x157002_1, .int .i64 x157003_1, .int .i64 x157004_1, .int .i64 x157005_1] 41 (0, 0))) := ⟨by rw [← hq_]; exact (qb BK156.out)⟩; have n2_ : Aside0 (wc.heap[gb167]? = some (.cells #[.int .i64 0, .int .i64 0, .int .i64 0, .int .i64 0, .int .i64 0, .int .i64 0] 41 (0, 0))) := ⟨by rw [← hq_]; exact (qb BK167.out)⟩; have n3_ : Aside0 (Below w.heap.size w wc) := ⟨by rw [← hq_]; exact (qw HB.out)⟩; clear HO_4 BK156 BK167 HB hq_; have HO_4 := n0_; have BK156 := n1_; have BK167 := n2_; have HB := n3_; clear n0_ n1_ n2_ n3_))
                      have n0_ := Aside0.mk (Kd.R_drew HO_4.out)
                      have n1_ := Aside0.mk (blk_drew BK156.out)
                      have n2_ := Aside0.mk (blk_drew BK167.out)
                      have n3_ := Aside0.mk (below_drew1 HB.out)
                      clear HO_4
                      clear BK156
                      clear BK167
                      clear HB
                      have HO_4 := n0_
                      have BK156 := n1_
                      have BK167 := n2_
                      have HB := n3_
                      clear n0_ n1_ n2_ n3_
                      refine start_ (n := 5) (S := fun w' => w'.cell? ⟨gb167, 0, none⟩ = some (.int .i64 0) ∧ w'.cell? ⟨gb167, 1, none⟩ = some (.int .i64 0) ∧ w'.cell? ⟨gb167, 2, none⟩ = some (.int .i64 0) ∧ w'.cell? ⟨gb167, 3, none⟩ = some (.int .i64 0) ∧ w'.cell? ⟨gb167, 4, none⟩ = some (.int .i64 0) ∧ w'.cell? ⟨gb167, 5, none⟩ = some (.int .i64 0)) (ds := []) #[false, false, false, false, false] (by kernel_rfl) rfl rfl ⟨(blk_cell BK167.out 0).trans rfl, (blk_cell BK167.out 1).trans rfl, (blk_cell BK167.out 2).trans rfl, (blk_cell BK167.out 3).trans rfl, (blk_cell BK167.out 4).trans rfl, (blk_cell BK167.out 5).trans rfl⟩ (fun hHeld => ?_)
                      generalize wc.drew = w86 at HO_4 BK156 BK167 HB hHeld ⊢
                      refine take_ (i := 0) (N := some 82) (v := ?_) (a' := ?_) #[true, false, false, false, false] rfl rfl (by kernel_rfl) (fun _ _ _ h => h) (Or.inl ⟨by rfl, ?_⟩) hHeld ?_ ?_
                      rotate_left
                      · rintro w' ⟨s0, s1, s2, s3, s4, s5⟩
                        go_simp
                        with_reducible rfl
                      rotate_left
                      · simp only [Act.put, List.setIfInBounds_toArray, List.set_cons_zero, List.set_cons_succ, i64_w, i32_w]
                        rfl
                      refine take_ (i := 1) (N := some 83) (v := ?_) (a' := ?_) #[true, true, false, false, false] rfl rfl (by kernel_rfl) (fun _ _ _ h => h) (Or.inl ⟨by rfl, ?_⟩) hHeld ?_ ?_
                      rotate_left
                      · rintro w' ⟨s0, s1, s2, s3, s4, s5⟩
                        go_simp
                        with_reducible rfl
                      rotate_left
                      · simp only [Act.put, List.setIfInBounds_toArray, List.set_cons_zero, List.set_cons_succ, i64_w, i32_w]
                        rfl
                      refine one_ (i := 2) (N := some 84) #[true, true, true, false, false] rfl rfl (by kernel_rfl) (by decide) (fun K hK => ?_)
                      refine goes_ Tryd.func69 (by kernel_rfl) rfl #[.agg #[.int .i64 0, .int .i64 0, .int .i64 0, .int .i64 0, .int .i64 0, .int .i64 0]] (by rfl) rfl rfl (by (try simp only [List.map_toArray, List.map_cons, List.map_nil]); first | done | rfl | (simp only [List.length_drop, List.length_take]; rfl) | (simp only [List.drop_one]; rfl)) ?_
                      with_reducible refine (impl_TaskOK.calls kj19 0 0 0 0 0 0 t181 _ A85.out).mono ?_
                      rintro e w87 ⟨rfl, hb⟩
                      refine ⟨_, rfl, ?_⟩
                      have n0_ := Aside0.mk (Kd.R_below (qr HO_4.out) hb)
                      have n1_ := Aside0.mk (blk_below (g := gb156) (o := .cells #[.int .i64 x157000_1, .int .i64 x157001_1, .int .i64 x157002_1, .int .i64 x157003_1, .int .i64 x157004_1, .int .i64 x157005_1] 41 (0, 0)) (qb BK156.out) hb)
                      have n2_ := Aside0.mk (blk_below (g := gb167) (o := .cells #[.int .i64 0, .int .i64 0, .int .i64 0, .int .i64 0, .int .i64 0, .int .i64 0] 41 (0, 0)) (qb BK167.out) hb)
                      have n3_ := Aside0.mk (below_step (qw HB.out) hb)
                      clear HO_4
                      clear BK156
                      clear BK167
                      clear HB
                      have HO_4 := n0_
                      have BK156 := n1_
                      have BK167 := n2_
                      have HB := n3_
                      clear n0_ n1_ n2_ n3_
                      (try clear hb)
                      (try clear hb2)
                      (try clear hk)
                      (try clear hi)
                      refine hK.out _ _ ⟨(blk_cell BK167.out 0).trans rfl, (blk_cell BK167.out 1).trans rfl, (blk_cell BK167.out 2).trans rfl, (blk_cell BK167.out 3).trans rfl, (blk_cell BK167.out 4).trans rfl, (blk_cell BK167.out 5).trans rfl⟩ (fun hHeld => ?_)
                      clear hK K
                      refine norm_ (a' := ?_) ?_ ?_
                      rotate_left
                      · show Act.put _ (some 84) _ = _
                        simp only [Act.put, List.setIfInBounds_toArray, List.set_cons_zero, List.set_cons_succ, i64_w, i32_w]
                        rfl
                      refine one_ (i := 3) (N := none) #[true, true, true, true, false] rfl rfl (by kernel_rfl) (by decide) (fun K hK => ?_)
                      have hs88 : w87.cell? ⟨gb156, 0, none⟩ = some (.int .i64 x157000_1) := (blk_cell BK156.out 0).trans rfl
                      have hfs88 := blk_frozen BK156.out 0
                      have hns88_1 := NB167_156.out
                      have hms88_1 := NB156_167.out
                      have hs89 : w87.cell? ⟨gb156, 1, none⟩ = some (.int .i64 x157001_1) := (blk_cell BK156.out 1).trans rfl
                      have hfs89 := blk_frozen BK156.out 1
                      have hns89_1 := NB167_156.out
                      have hms89_1 := NB156_167.out
                      have hs90 : w87.cell? ⟨gb156, 2, none⟩ = some (.int .i64 x157002_1) := (blk_cell BK156.out 2).trans rfl
                      have hfs90 := blk_frozen BK156.out 2
                      have hns90_1 := NB167_156.out
                      have hms90_1 := NB156_167.out
                      have hs91 : w87.cell? ⟨gb156, 3, none⟩ = some (.int .i64 x157003_1) := (blk_cell BK156.out 3).trans rfl
                      have hfs91 := blk_frozen BK156.out 3
                      have hns91_1 := NB167_156.out
                      have hms91_1 := NB156_167.out
                      have hs92 : w87.cell? ⟨gb156, 4, none⟩ = some (.int .i64 x157004_1) := (blk_cell BK156.out 4).trans rfl
                      have hfs92 := blk_frozen BK156.out 4
                      have hns92_1 := NB167_156.out
                      have hms92_1 := NB156_167.out
                      have hs93 : w87.cell? ⟨gb156, 5, none⟩ = some (.int .i64 x157005_1) := (blk_cell BK156.out 5).trans rfl
                      have hfs93 := blk_frozen BK156.out 5
                      have hns93_1 := NB167_156.out
                      have hms93_1 := NB156_167.out
                      refine skip_ (w1 := ?_) (by rfl) rfl ?_ ?_
                      rotate_left
                      · go_simp
                        rfl
                      have hne_ := NB167_156.out
                      refine hK.out _ _ ⟨impl_readTask.seen6 hHeld.1 hne_, impl_readTask.seen6 hHeld.2.1 hne_, impl_readTask.seen6 hHeld.2.2.1 hne_, impl_readTask.seen6 hHeld.2.2.2.1 hne_, impl_readTask.seen6 hHeld.2.2.2.2.1 hne_, impl_readTask.seen6 hHeld.2.2.2.2.2 hne_⟩ (fun hHeld => ?_)
                      clear hne_
                      clear hK K
                      refine pure_ (i := 4) (N := some 3) (v := ?_) (a' := ?_) #[true, true, true, true, true] rfl rfl (by kernel_rfl) (fun _ _ _ h => h) (Or.inl ⟨by rfl, ?_⟩) ?_ ?_
                      rotate_left
                      · intro w'
                        go_simp
                        with_reducible rfl
                      rotate_left
                      · simp only [Act.put, List.setIfInBounds_toArray, List.set_cons_zero, List.set_cons_succ, i64_w, i32_w]
                        rfl
                      refine done_ (by kernel_rfl) ?_
                      try go_wp2
                      refine bodyPost_ret (results_ct rfl _ _ gb156 41 #[.int .i64 0, .int .i64 0, .int .i64 0, .int .i64 0, .int .i64 0, .int .i64 0] (0, 0) _ rfl (by (with_reducible repeat (first | refine blk_drewN ?_ _ | refine blk_drew ?_ | refine blk_alloc ?_ _)); refine blk_put (cs := #[.int .i64 0, .int .i64 0, .int .i64 0, .int .i64 0, .int .i64 0, .int .i64 x157005_1]) ?_ 5 _ rfl; (with_reducible repeat (first | refine blk_drewN ?_ _ | refine blk_drew ?_ | refine blk_alloc ?_ _)); refine blk_put (cs := #[.int .i64 0, .int .i64 0, .int .i64 0, .int .i64 0, .int .i64 x157004_1, .int .i64 x157005_1]) ?_ 4 _ rfl; (with_reducible repeat (first | refine blk_drewN ?_ _ | refine blk_drew ?_ | refine blk_alloc ?_ _)); refine blk_put (cs := #[.int .i64 0, .int .i64 0, .int .i64 0, .int .i64 x157003_1, .int .i64 x157004_1, .int .i64 x157005_1]) ?_ 3 _ rfl; (with_reducible repeat (first | refine blk_drewN ?_ _ | refine blk_drew ?_ | refine blk_alloc ?_ _)); refine blk_put (cs := #[.int .i64 0, .int .i64 0, .int .i64 x157002_1, .int .i64 x157003_1, .int .i64 x157004_1, .int .i64 x157005_1]) ?_ 2 _ rfl; (with_reducible repeat (first | refine blk_drewN ?_ _ | refine blk_drew ?_ | refine blk_alloc ?_ _)); refine blk_put (cs := #[.int .i64 0, .int .i64 x157001_1, .int .i64 x157002_1, .int .i64 x157003_1, .int .i64 x157004_1, .int .i64 x157005_1]) ?_ 1 _ rfl; (with_reducible repeat (first | refine blk_drewN ?_ _ | refine blk_drew ?_ | refine blk_alloc ?_ _)); refine blk_put (cs := #[.int .i64 x157000_1, .int .i64 x157001_1, .int .i64 x157002_1, .int .i64 x157003_1, .int .i64 x157004_1, .int .i64 x157005_1]) ?_ 0 _ rfl; (with_reducible repeat (first | refine blk_drewN ?_ _ | refine blk_drew ?_ | refine blk_alloc ?_ _)); exact BK156.out) Tryd.underlying41 rfl (by kernel_rfl)) rfl ?_
                      exact ⟨qe, qw HB.out⟩
                  · rw [if_neg c49] at H
                    exact absurd H (by simp)
    · rw [if_neg c5] at H
      exact absurd H (by simp)

end Go.Proofs.YtppfcmkadcoboaaDoor.R
