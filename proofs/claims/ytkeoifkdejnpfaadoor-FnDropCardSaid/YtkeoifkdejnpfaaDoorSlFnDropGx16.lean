-- by gprint.py (a program of this session's own), over the kit's print.py; Lean checks it
import Derived.Test.YtkeoifkdejnpfaaDoorSlFnDropGx0
import Derived.Test.YtkeoifkdejnpfaaDoorSlFnDropGx11
import Derived.Test.YtkeoifkdejnpfaaDoorSlFnDropGx15
namespace Go.Proofs.YtkeoifkdejnpfaaDoor.G
open Go.RowKit Go.Proofs.YtkeoifkdejnpfaaDoorW.PrintWords Go.Proofs.YtkeoifkdejnpfaaDoorW.PrintLast Go.Proofs.YtkeoifkdejnpfaaDoorW.PrintMore
attribute [local go_sem] max2_int min2_int max_two min_two max_three min_three max_four min_four   -- for this text's walks alone
set_option linter.unusedVariables false
set_option linter.unusedSimpArgs false

/-! ### impl_SourceOK: function 44 -/
mutual
def impl_SourceOK.j0 : Nat → Bool → Int → Int → Int → Int → Int → Int → List Int → Option (Bool)
  | 0, _, _, _, _, _, _, _, _ => none
  | k + 1, x40, x312000, x312001, x312002, x312003, x312004, x312005, x312006 => if x40 = true then (some false) else (impl_SourceOK.l0 k x312006 (x312006.length : Int) 0 x312000 x312001 x312002 x312003 x312004 x312005 x312006)
def impl_SourceOK.l0 : Nat → List Int → Int → Int → Int → Int → Int → Int → Int → Int → List Int → Option (Bool)
  | 0, _, _, _, _, _, _, _, _, _, _ => none
  | k + 1, x42, x43, x44, x312000, x312001, x312002, x312003, x312004, x312005, x312006 => if x44 < x43 then (if 0 ≤ x44 then (if x44 < (x42.length : Int) then ((impl_within.f (rd x42 x44) 0 x312000).bind fun t320 => (if t320 = true then (if x44 > 0 then (if 0 ≤ (wrap64 (x44 - 1)) then (if (wrap64 (x44 - 1)) < (x312006.length : Int) then (if (rd x42 x44) ≤ (rd x312006 (wrap64 (x44 - 1))) then (some false) else (impl_SourceOK.l0 k x42 x43 (wrap64 (x44 + 1)) x312000 x312001 x312002 x312003 x312004 x312005 x312006)) else (none)) else (none)) else (impl_SourceOK.l0 k x42 x43 (wrap64 (x44 + 1)) x312000 x312001 x312002 x312003 x312004 x312005 x312006)) else (some false))) else (none)) else (none)) else (some true)
end
def impl_SourceOK.f (k : Nat) (a0_0 : Int) (a0_1 : Int) (a0_2 : Int) (a0_3 : Int) (a0_4 : Int) (a0_5 : Int) (l0_6 : List Int) (a1_0 : Int) (a1_1 : Int) (a1_2 : Int) (a1_3 : Int) (a1_4 : Int) (a1_5 : Int) : Option (Bool) := (impl_TaskOK.f k a1_0 a1_1 a1_2 a1_3 a1_4 a1_5).bind fun t316 => (if t316 = true then ((impl_within.f a0_0 (-1) 2147483647).bind fun t317 => (if t317 = true then ((impl_all_time.f (([a0_1, a0_2, a0_3, a0_4, a0_5] : List Int))).bind fun t318 => (if t318 = true then (impl_SourceOK.j0 k (decide ((l0_6.length : Int) > a1_4)) a0_0 a0_1 a0_2 a0_3 a0_4 a0_5 l0_6) else (impl_SourceOK.j0 k true a0_0 a0_1 a0_2 a0_3 a0_4 a0_5 l0_6))) else (impl_SourceOK.j0 k true a0_0 a0_1 a0_2 a0_3 a0_4 a0_5 l0_6))) else (impl_SourceOK.j0 k true a0_0 a0_1 a0_2 a0_3 a0_4 a0_5 l0_6))
theorem impl_SourceOK.mono_l : ∀ k, (∀ y0 y1 y2 y3 y4 y5 y6 y7, LeO (impl_SourceOK.j0 k y0 y1 y2 y3 y4 y5 y6 y7) (impl_SourceOK.j0 (k + 1) y0 y1 y2 y3 y4 y5 y6 y7)) ∧ (∀ y0 y1 y2 y3 y4 y5 y6 y7 y8 y9, LeO (impl_SourceOK.l0 k y0 y1 y2 y3 y4 y5 y6 y7 y8 y9) (impl_SourceOK.l0 (k + 1) y0 y1 y2 y3 y4 y5 y6 y7 y8 y9))
  | 0 => ⟨fun _ _ _ _ _ _ _ _ r h => by simp [impl_SourceOK.j0] at h, fun _ _ _ _ _ _ _ _ _ _ r h => by simp [impl_SourceOK.l0] at h⟩
  | k + 1 => by
    obtain ⟨ih0, ih1⟩ := impl_SourceOK.mono_l k
    refine ⟨?_, ?_⟩
    · intro y0 y1 y2 y3 y4 y5 y6 y7
      unfold impl_SourceOK.j0
      repeat' first
      | (with_reducible exact ih0 _ _ _ _ _ _ _ _)
      | (with_reducible exact ih1 _ _ _ _ _ _ _ _ _ _)
      | (with_reducible exact impl_TaskOK.mono _ _ _ _ _ _ _)
      | (with_reducible exact LeO.refl _)
      | (with_reducible exact LeO.none _)
      | (with_reducible refine LeO.ite ?_ ?_)
      | (with_reducible refine LeO.bind ?_ (fun _ => ?_))
      | exact ih0 _ _ _ _ _ _ _ _
      | exact ih1 _ _ _ _ _ _ _ _ _ _
      | exact impl_TaskOK.mono _ _ _ _ _ _ _
      | exact LeO.none _
      | refine LeO.ite ?_ ?_
      | refine LeO.bind ?_ (fun _ => ?_)
    · intro y0 y1 y2 y3 y4 y5 y6 y7 y8 y9
      unfold impl_SourceOK.l0
      repeat' first
      | (with_reducible exact ih0 _ _ _ _ _ _ _ _)
      | (with_reducible exact ih1 _ _ _ _ _ _ _ _ _ _)
      | (with_reducible exact impl_TaskOK.mono _ _ _ _ _ _ _)
      | (with_reducible exact LeO.refl _)
      | (with_reducible exact LeO.none _)
      | (with_reducible refine LeO.ite ?_ ?_)
      | (with_reducible refine LeO.bind ?_ (fun _ => ?_))
      | exact ih0 _ _ _ _ _ _ _ _
      | exact ih1 _ _ _ _ _ _ _ _ _ _
      | exact impl_TaskOK.mono _ _ _ _ _ _ _
      | exact LeO.none _
      | refine LeO.ite ?_ ?_
      | refine LeO.bind ?_ (fun _ => ?_)
theorem impl_SourceOK.mono : ∀ a0 a1 a2 a3 a4 a5 a6 a7 a8 a9 a10 a11 a12 k, LeO (impl_SourceOK.f k a0 a1 a2 a3 a4 a5 a6 a7 a8 a9 a10 a11 a12) (impl_SourceOK.f (k + 1) a0 a1 a2 a3 a4 a5 a6 a7 a8 a9 a10 a11 a12) := by
  intro a0 a1 a2 a3 a4 a5 a6 a7 a8 a9 a10 a11 a12 k
  obtain ⟨ih0, ih1⟩ := impl_SourceOK.mono_l k
  unfold impl_SourceOK.f
  repeat' first
      | (with_reducible exact ih0 _ _ _ _ _ _ _ _)
      | (with_reducible exact ih1 _ _ _ _ _ _ _ _ _ _)
      | (with_reducible exact impl_TaskOK.mono _ _ _ _ _ _ _)
      | (with_reducible exact LeO.refl _)
      | (with_reducible exact LeO.none _)
      | (with_reducible refine LeO.ite ?_ ?_)
      | (with_reducible refine LeO.bind ?_ (fun _ => ?_))
      | exact ih0 _ _ _ _ _ _ _ _
      | exact ih1 _ _ _ _ _ _ _ _ _ _
      | exact impl_TaskOK.mono _ _ _ _ _ _ _
      | exact LeO.none _
      | refine LeO.ite ?_ ?_
      | refine LeO.bind ?_ (fun _ => ?_)
set_option maxHeartbeats 8000000 in
set_option maxRecDepth 100000 in
theorem impl_SourceOK.calls (k : Nat) (a0_0 : Int) (a0_1 : Int) (a0_2 : Int) (a0_3 : Int) (a0_4 : Int) (a0_5 : Int) (A0_6 : Option Addr) (c0_6 : Nat) (l0_6 : List Int) (a1_0 : Int) (a1_1 : Int) (a1_2 : Int) (a1_3 : Int) (a1_4 : Int) (a1_5 : Int) (r : Bool) (w : World) (hr0_6 : Kd.C (Kd.int .i64) w A0_6 l0_6.length l0_6) (hc0_6 : l0_6.length ≤ c0_6) (h : impl_SourceOK.f k a0_0 a0_1 a0_2 a0_3 a0_4 a0_5 l0_6 a1_0 a1_1 a1_2 a1_3 a1_4 a1_5 = some r) :
    Calls Tryd.prog 44 #[.agg #[.int .i64 a0_0, .int .i64 a0_1, .int .i64 a0_2, .int .i64 a0_3, .int .i64 a0_4, .int .i64 a0_5, .slice A0_6 l0_6.length c0_6], .agg #[.int .i64 a1_0, .int .i64 a1_1, .int .i64 a1_2, .int .i64 a1_3, .int .i64 a1_4, .int .i64 a1_5]] w fun e w' => e = .returned (.bool r) ∧ Below w.heap.size w w' := by
  have hu46 := Tryd.underlying46
  have hu38 := Tryd.underlying38
  have HR0_6 := Aside0.mk hr0_6
  have HC0_6 := Aside0.mk hc0_6
  clear hr0_6 hc0_6
  have HB := Aside0.mk (Below.refl w.heap.size w)
  have H : ((impl_TaskOK.f k a1_0 a1_1 a1_2 a1_3 a1_4 a1_5).bind fun t316 => (if t316 = true then ((impl_within.f a0_0 (-1) 2147483647).bind fun t317 => (if t317 = true then ((impl_all_time.f (([a0_1, a0_2, a0_3, a0_4, a0_5] : List Int))).bind fun t318 => (if t318 = true then (impl_SourceOK.j0 k (decide ((l0_6.length : Int) > a1_4)) a0_0 a0_1 a0_2 a0_3 a0_4 a0_5 l0_6) else (impl_SourceOK.j0 k true a0_0 a0_1 a0_2 a0_3 a0_4 a0_5 l0_6))) else (impl_SourceOK.j0 k true a0_0 a0_1 a0_2 a0_3 a0_4 a0_5 l0_6))) else (impl_SourceOK.j0 k true a0_0 a0_1 a0_2 a0_3 a0_4 a0_5 l0_6))) = some r := h
  clear h
  obtain ⟨y313, hy313⟩ : ∃ y_ : List Int, y_ = (([a0_1, a0_2, a0_3, a0_4, a0_5] : List Int)) := ⟨_, rfl⟩
  replace H : ((impl_TaskOK.f k a1_0 a1_1 a1_2 a1_3 a1_4 a1_5).bind fun t316 => (if t316 = true then ((impl_within.f a0_0 (-1) 2147483647).bind fun t317 => (if t317 = true then ((impl_all_time.f y313).bind fun t318 => (if t318 = true then (impl_SourceOK.j0 k (decide ((l0_6.length : Int) > a1_4)) a0_0 a0_1 a0_2 a0_3 a0_4 a0_5 l0_6) else (impl_SourceOK.j0 k true a0_0 a0_1 a0_2 a0_3 a0_4 a0_5 l0_6))) else (impl_SourceOK.j0 k true a0_0 a0_1 a0_2 a0_3 a0_4 a0_5 l0_6))) else (impl_SourceOK.j0 k true a0_0 a0_1 a0_2 a0_3 a0_4 a0_5 l0_6))) = some r := by first | (rw [hy313]; with_reducible exact H) | (have H2_ := (Option.bind_some _ _).symm.trans H; rw [hy313]; with_reducible exact H2_) | (have H2_ := (Option.bind_some _ _).symm.trans H; with_reducible exact H2_) | with_reducible exact H | (rw [hy313]; exact H) | exact H
  have Ny313 := Aside0.mk hy313
  clear hy313
  have HC3 := Aside0.mk H
  clear H
  go_enter Tryd.func44, Tryd.ntmps44
  go_upto_region 2 with (first | ((with_reducible refine gate_dst (N := 2) rfl ?_); (try (refine gate_guard (by rfl) ?_; dsimp only)); refine box_event ?hg (N := 2) ?hd (cs := #[.int .i64 a0_0, .int .i64 a0_1, .int .i64 a0_2, .int .i64 a0_3, .int .i64 a0_4, .int .i64 a0_5, .slice A0_6 l0_6.length c0_6]) (t := 46) ?hr ?_; (case hd => rfl); (case hg => rfl); (case hr => first | (go_simp; done) | (go_simp; rfl)); intro gb311 hg w4 hbox hb; have n0_ := Aside0.mk (below_step (qw HB.out) hb); have n1_ := Aside0.mk (hbox); have n2_ := Aside0.mk ((by rw [hg]; exact (below_size (qw HB.out)) : w.heap.size ≤ gb311)); have n3_ := Aside0.mk ((by rw [hg]; exact (below_size (qw HB.out)) : w.heap.size ≤ gb311)); clear HB; have HB := n0_; have BK311 := n1_; have GW311 := n2_; have GE311 := n3_; clear n0_ n1_ n2_ n3_; clear hb hbox hg) | ((with_reducible refine gate_dst (N := 3) rfl ?_); (try (refine gate_guard (by rfl) ?_; dsimp only)); refine box_event ?hg (N := 3) ?hd (cs := #[.int .i64 a1_0, .int .i64 a1_1, .int .i64 a1_2, .int .i64 a1_3, .int .i64 a1_4, .int .i64 a1_5]) (t := 38) ?hr ?_; (case hd => rfl); (case hg => rfl); (case hr => first | (go_simp; done) | (go_simp; rfl)); intro gb312 hg w5 hbox hb; have n0_ := Aside0.mk (blk_below (g := gb311) (o := .cells #[.int .i64 a0_0, .int .i64 a0_1, .int .i64 a0_2, .int .i64 a0_3, .int .i64 a0_4, .int .i64 a0_5, .slice A0_6 l0_6.length c0_6] 46 (0, 0)) (qb BK311.out) hb); have n1_ := Aside0.mk (below_step (qw HB.out) hb); have n2_ := Aside0.mk (hbox); have n3_ := Aside0.mk ((by rw [hg]; exact (below_size (qw HB.out)) : w.heap.size ≤ gb312)); have n4_ := Aside0.mk ((by rw [hg]; exact (below_size (qw HB.out)) : w.heap.size ≤ gb312)); have n5_ := Aside0.mk ((by rw [hg]; exact Nat.ne_of_lt (blk_lt (g := gb311) (o := .cells #[.int .i64 a0_0, .int .i64 a0_1, .int .i64 a0_2, .int .i64 a0_3, .int .i64 a0_4, .int .i64 a0_5, .slice A0_6 l0_6.length c0_6] 46 (0, 0)) (qb BK311.out)) : gb311 ≠ gb312)); have n6_ := Aside0.mk ((by rw [hg]; exact Nat.ne_of_gt (blk_lt (g := gb311) (o := .cells #[.int .i64 a0_0, .int .i64 a0_1, .int .i64 a0_2, .int .i64 a0_3, .int .i64 a0_4, .int .i64 a0_5, .slice A0_6 l0_6.length c0_6] 46 (0, 0)) (qb BK311.out)) : gb312 ≠ gb311)); clear BK311; clear HB; have BK311 := n0_; have HB := n1_; have BK312 := n2_; have GW312 := n3_; have GE312 := n4_; have NB311_312 := n5_; have NB312_311 := n6_; clear n0_ n1_ n2_ n3_ n4_ n5_ n6_; clear hb hbox hg; have hnb6 := NB311_312.out; have hnc6 := NB312_311.out; have hcz7_0 : w5.cell? ⟨gb311, 0, none⟩ = some (.int .i64 a0_0) := (blk_cell BK311.out 0).trans rfl; have hcz7_1 : w5.cell? ⟨gb311, 1, none⟩ = some (.int .i64 a0_1) := (blk_cell BK311.out 1).trans rfl; have hcz7_2 : w5.cell? ⟨gb311, 2, none⟩ = some (.int .i64 a0_2) := (blk_cell BK311.out 2).trans rfl; have hcz7_3 : w5.cell? ⟨gb311, 3, none⟩ = some (.int .i64 a0_3) := (blk_cell BK311.out 3).trans rfl; have hcz7_4 : w5.cell? ⟨gb311, 4, none⟩ = some (.int .i64 a0_4) := (blk_cell BK311.out 4).trans rfl; have hcz7_5 : w5.cell? ⟨gb311, 5, none⟩ = some (.int .i64 a0_5) := (blk_cell BK311.out 5).trans rfl; have hcz7_6 : w5.cell? ⟨gb311, 6, none⟩ = some (.slice A0_6 l0_6.length c0_6) := (blk_cell BK311.out 6).trans rfl; have hfz7_0 := blk_frozen BK311.out 0; have hfz7_1 := blk_frozen BK311.out 1; have hfz7_2 := blk_frozen BK311.out 2; have hfz7_3 := blk_frozen BK311.out 3; have hfz7_4 := blk_frozen BK311.out 4; have hfz7_5 := blk_frozen BK311.out 5; have hfz7_6 := blk_frozen BK311.out 6) | ((with_reducible refine gate_dst (N := 18) rfl ?_); (try (refine gate_guard (by rfl) ?_; dsimp only)); refine Kd.R_lit (Kd.int .i64) _ 3 ?hg (N := 18) ?hd (xs := ([a0_1, a0_2, a0_3, a0_4, a0_5] : List Int)) (inner := [.int .i64 a0_1, .int .i64 a0_2, .int .i64 a0_3, .int .i64 a0_4, .int .i64 a0_5]) (ok := fun _ => True) (okp := fun _ => True) ?hr ?hp (fun _ hk => hk) trivial (Below.refl _ _) (Nat.le_refl _) (by simp) ?_; (case hd => rfl); (case hg => rfl); (case hr => first | (go_simp; done) | (go_simp; rfl)); (case hp => exact (Reps.one (show Kd.M (Kd.int .i64) _ _ _ a0_1 [.int .i64 a0_1] from rfl) (Reps.one (show Kd.M (Kd.int .i64) _ _ _ a0_2 [.int .i64 a0_2] from rfl) (Reps.one (show Kd.M (Kd.int .i64) _ _ _ a0_3 [.int .i64 a0_3] from rfl) (Reps.one (show Kd.M (Kd.int .i64) _ _ _ a0_4 [.int .i64 a0_4] from rfl) (Reps.one (show Kd.M (Kd.int .i64) _ _ _ a0_5 [.int .i64 a0_5] from rfl) (Reps.none _ _))))))); intro v314 w8 ho9 hb hg_ hnew_; clear hg_ hnew_; (first | rw [← Ny313.out] at ho9 | (simp only [Int.reduceToNat] at ho9; rw [← Ny313.out] at ho9)); have n0_ := Aside0.mk (Kd.R_lower ho9 (below_size (qw HB.out))); have n1_ := Aside0.mk (blk_below (g := gb311) (o := .cells #[.int .i64 a0_0, .int .i64 a0_1, .int .i64 a0_2, .int .i64 a0_3, .int .i64 a0_4, .int .i64 a0_5, .slice A0_6 l0_6.length c0_6] 46 (0, 0)) (qb BK311.out) hb); have n2_ := Aside0.mk (blk_below (g := gb312) (o := .cells #[.int .i64 a1_0, .int .i64 a1_1, .int .i64 a1_2, .int .i64 a1_3, .int .i64 a1_4, .int .i64 a1_5] 38 (0, 0)) (qb BK312.out) hb); have n3_ := Aside0.mk (below_step (qw HB.out) hb); clear BK311; clear BK312; clear HB; have HO315 := n0_; have BK311 := n1_; have BK312 := n2_; have HB := n3_; clear n0_ n1_ n2_ n3_; clear hb ho9))
  (try simp only [Act.put, List.setIfInBounds_toArray, List.set_cons_zero, List.set_cons_succ])
  go_cut [40] (fun v40 wc => ∃ (kq : Nat) (x40_2 : Bool), v40 = .bool x40_2 ∧ Aside0 (impl_SourceOK.j0 kq x40_2 a0_0 a0_1 a0_2 a0_3 a0_4 a0_5 l0_6 = some r) ∧ Aside0 (kq ≤ k) ∧ Aside0 (wc.heap[gb311]? = some (.cells #[.int .i64 a0_0, .int .i64 a0_1, .int .i64 a0_2, .int .i64 a0_3, .int .i64 a0_4, .int .i64 a0_5, (.slice A0_6 l0_6.length c0_6)] 46 (0, 0))) ∧ Aside0 (wc.heap[gb312]? = some (.cells #[.int .i64 a1_0, .int .i64 a1_1, .int .i64 a1_2, .int .i64 a1_3, .int .i64 a1_4, .int .i64 a1_5] 38 (0, 0))) ∧ Aside0 (Below w.heap.size w wc))
  case first =>
    have H := HC3.out
    clear HC3
    replace H := Option.bind_eq_some_iff.mp H
    obtain ⟨t316, A100, H⟩ := H
    replace H : (if t316 = true then ((impl_within.f a0_0 (-1) 2147483647).bind fun t317 => (if t317 = true then ((impl_all_time.f y313).bind fun t318 => (if t318 = true then (impl_SourceOK.j0 k (decide ((l0_6.length : Int) > a1_4)) a0_0 a0_1 a0_2 a0_3 a0_4 a0_5 l0_6) else (impl_SourceOK.j0 k true a0_0 a0_1 a0_2 a0_3 a0_4 a0_5 l0_6))) else (impl_SourceOK.j0 k true a0_0 a0_1 a0_2 a0_3 a0_4 a0_5 l0_6))) else (impl_SourceOK.j0 k true a0_0 a0_1 a0_2 a0_3 a0_4 a0_5 l0_6)) = some r := H
    have A10 := Aside0.mk A100
    clear A100
    by_cases c11 : t316 = true
    · subst c11
      have H1 : ((impl_within.f a0_0 (-1) 2147483647).bind fun t317 => (if t317 = true then ((impl_all_time.f y313).bind fun t318 => (if t318 = true then (impl_SourceOK.j0 k (decide ((l0_6.length : Int) > a1_4)) a0_0 a0_1 a0_2 a0_3 a0_4 a0_5 l0_6) else (impl_SourceOK.j0 k true a0_0 a0_1 a0_2 a0_3 a0_4 a0_5 l0_6))) else (impl_SourceOK.j0 k true a0_0 a0_1 a0_2 a0_3 a0_4 a0_5 l0_6))) = some r := by rw [if_pos rfl] at H; exact H
      clear H
      have H := H1
      clear H1
      replace H := Option.bind_eq_some_iff.mp H
      obtain ⟨t317, A120, H⟩ := H
      replace H : (if t317 = true then ((impl_all_time.f y313).bind fun t318 => (if t318 = true then (impl_SourceOK.j0 k (decide ((l0_6.length : Int) > a1_4)) a0_0 a0_1 a0_2 a0_3 a0_4 a0_5 l0_6) else (impl_SourceOK.j0 k true a0_0 a0_1 a0_2 a0_3 a0_4 a0_5 l0_6))) else (impl_SourceOK.j0 k true a0_0 a0_1 a0_2 a0_3 a0_4 a0_5 l0_6)) = some r := H
      have A12 := Aside0.mk A120
      clear A120
      by_cases c13 : t317 = true
      · subst c13
        have H1 : ((impl_all_time.f y313).bind fun t318 => (if t318 = true then (impl_SourceOK.j0 k (decide ((l0_6.length : Int) > a1_4)) a0_0 a0_1 a0_2 a0_3 a0_4 a0_5 l0_6) else (impl_SourceOK.j0 k true a0_0 a0_1 a0_2 a0_3 a0_4 a0_5 l0_6))) = some r := by rw [if_pos rfl] at H; exact H
        clear H
        have H := H1
        clear H1
        replace H := Option.bind_eq_some_iff.mp H
        obtain ⟨t318, A140, H⟩ := H
        replace H : (if t318 = true then (impl_SourceOK.j0 k (decide ((l0_6.length : Int) > a1_4)) a0_0 a0_1 a0_2 a0_3 a0_4 a0_5 l0_6) else (impl_SourceOK.j0 k true a0_0 a0_1 a0_2 a0_3 a0_4 a0_5 l0_6)) = some r := H
        have A14 := Aside0.mk A140
        clear A140
        by_cases c15 : t318 = true
        · subst c15
          have H1 : (impl_SourceOK.j0 k (decide ((l0_6.length : Int) > a1_4)) a0_0 a0_1 a0_2 a0_3 a0_4 a0_5 l0_6) = some r := by rw [if_pos rfl] at H; exact H
          clear H
          have H := H1
          clear H1
          have H' := Aside0.mk H
          clear H
          have hnb16 := NB312_311.out
          have hnc16 := NB311_312.out
          have hcz17_0 : w8.cell? ⟨gb312, 0, none⟩ = some (.int .i64 a1_0) := (blk_cell BK312.out 0).trans rfl
          have hcz17_1 : w8.cell? ⟨gb312, 1, none⟩ = some (.int .i64 a1_1) := (blk_cell BK312.out 1).trans rfl
          have hcz17_2 : w8.cell? ⟨gb312, 2, none⟩ = some (.int .i64 a1_2) := (blk_cell BK312.out 2).trans rfl
          have hcz17_3 : w8.cell? ⟨gb312, 3, none⟩ = some (.int .i64 a1_3) := (blk_cell BK312.out 3).trans rfl
          have hcz17_4 : w8.cell? ⟨gb312, 4, none⟩ = some (.int .i64 a1_4) := (blk_cell BK312.out 4).trans rfl
          have hcz17_5 : w8.cell? ⟨gb312, 5, none⟩ = some (.int .i64 a1_5) := (blk_cell BK312.out 5).trans rfl
          have hfz17_0 := blk_frozen BK312.out 0
          have hfz17_1 := blk_frozen BK312.out 1
          have hfz17_2 := blk_frozen BK312.out 2
          have hfz17_3 := blk_frozen BK312.out 3
          have hfz17_4 := blk_frozen BK312.out 4
          have hfz17_5 := blk_frozen BK312.out 5
          go_wp2_with (first | ((with_reducible refine gate_callee (f := 38) rfl ?_); refine goesL_ (some 20) rfl rfl Tryd.func38 (by kernel_rfl) rfl #[.agg #[.int .i64 a1_0, .int .i64 a1_1, .int .i64 a1_2, .int .i64 a1_3, .int .i64 a1_4, .int .i64 a1_5]] rfl qa ?_; (with_reducible refine (impl_TaskOK.calls k a1_0 a1_1 a1_2 a1_3 a1_4 a1_5 true _ A10.out).mono ?_); rintro e w18 ⟨rfl, hb⟩; refine ⟨_, rfl, ?_⟩; have n0_ := Aside0.mk (Kd.R_below (qr HO315.out) hb); have n1_ := Aside0.mk (blk_below (g := gb311) (o := .cells #[.int .i64 a0_0, .int .i64 a0_1, .int .i64 a0_2, .int .i64 a0_3, .int .i64 a0_4, .int .i64 a0_5, .slice A0_6 l0_6.length c0_6] 46 (0, 0)) (qb BK311.out) hb); have n2_ := Aside0.mk (blk_below (g := gb312) (o := .cells #[.int .i64 a1_0, .int .i64 a1_1, .int .i64 a1_2, .int .i64 a1_3, .int .i64 a1_4, .int .i64 a1_5] 38 (0, 0)) (qb BK312.out) hb); have n3_ := Aside0.mk (below_step (qw HB.out) hb); clear HO315; clear BK311; clear BK312; clear HB; have HO315 := n0_; have BK311 := n1_; have BK312 := n2_; have HB := n3_; clear n0_ n1_ n2_ n3_; (try clear hb); (try clear hb2); (try clear hk); (try clear hi); have hcz19_0 : w18.cell? ⟨gb311, 0, none⟩ = some (.int .i64 a0_0) := (blk_cell BK311.out 0).trans rfl; have hcz19_1 : w18.cell? ⟨gb311, 1, none⟩ = some (.int .i64 a0_1) := (blk_cell BK311.out 1).trans rfl; have hcz19_2 : w18.cell? ⟨gb311, 2, none⟩ = some (.int .i64 a0_2) := (blk_cell BK311.out 2).trans rfl; have hcz19_3 : w18.cell? ⟨gb311, 3, none⟩ = some (.int .i64 a0_3) := (blk_cell BK311.out 3).trans rfl; have hcz19_4 : w18.cell? ⟨gb311, 4, none⟩ = some (.int .i64 a0_4) := (blk_cell BK311.out 4).trans rfl; have hcz19_5 : w18.cell? ⟨gb311, 5, none⟩ = some (.int .i64 a0_5) := (blk_cell BK311.out 5).trans rfl; have hcz19_6 : w18.cell? ⟨gb311, 6, none⟩ = some (.slice A0_6 l0_6.length c0_6) := (blk_cell BK311.out 6).trans rfl; have hfz19_0 := blk_frozen BK311.out 0; have hfz19_1 := blk_frozen BK311.out 1; have hfz19_2 := blk_frozen BK311.out 2; have hfz19_3 := blk_frozen BK311.out 3; have hfz19_4 := blk_frozen BK311.out 4; have hfz19_5 := blk_frozen BK311.out 5; have hfz19_6 := blk_frozen BK311.out 6) | (go_at_call 59; (with_reducible refine (impl_within.calls a0_0 (-1) 2147483647 true _ A12.out).mono ?_); rintro e w' ⟨rfl, ⟨nd, rfl⟩⟩; obtain ⟨Ao20, co20, eo20⟩ := Kd.R_slice HO315.out; subst eo20) | (go_at_call 61; (with_reducible refine (impl_all_time.calls _ _ y313 true _ ?side1 ?side2 A14.out).mono ?_); (case side1 => repeat (first | exact (Kd.R_reads' HO315.out).2.2 | (with_reducible refine Kd.C_alloc ?_ _) | (with_reducible refine Kd.C_drewN ?_ _) | (with_reducible refine Kd.C_drew ?_))); (case side2 => exact (Kd.R_reads' HO315.out).2.1); rintro e w21 ⟨rfl, hb⟩; have n0_ := Aside0.mk (Kd.R_below (qr HO315.out) hb); have n1_ := Aside0.mk (blk_below (g := gb311) (o := .cells #[.int .i64 a0_0, .int .i64 a0_1, .int .i64 a0_2, .int .i64 a0_3, .int .i64 a0_4, .int .i64 a0_5, .slice A0_6 l0_6.length c0_6] 46 (0, 0)) (qb BK311.out) hb); have n2_ := Aside0.mk (blk_below (g := gb312) (o := .cells #[.int .i64 a1_0, .int .i64 a1_1, .int .i64 a1_2, .int .i64 a1_3, .int .i64 a1_4, .int .i64 a1_5] 38 (0, 0)) (qb BK312.out) hb); have n3_ := Aside0.mk (below_step (qw HB.out) hb); clear HO315; clear BK311; clear BK312; clear HB; have HO315 := n0_; have BK311 := n1_; have BK312 := n2_; have HB := n3_; clear n0_ n1_ n2_ n3_; (try clear hb); (try clear hb2); (try clear hk); (try clear hi); have hcz22_0 : w21.cell? ⟨gb311, 0, none⟩ = some (.int .i64 a0_0) := (blk_cell BK311.out 0).trans rfl; have hcz22_1 : w21.cell? ⟨gb311, 1, none⟩ = some (.int .i64 a0_1) := (blk_cell BK311.out 1).trans rfl; have hcz22_2 : w21.cell? ⟨gb311, 2, none⟩ = some (.int .i64 a0_2) := (blk_cell BK311.out 2).trans rfl; have hcz22_3 : w21.cell? ⟨gb311, 3, none⟩ = some (.int .i64 a0_3) := (blk_cell BK311.out 3).trans rfl; have hcz22_4 : w21.cell? ⟨gb311, 4, none⟩ = some (.int .i64 a0_4) := (blk_cell BK311.out 4).trans rfl; have hcz22_5 : w21.cell? ⟨gb311, 5, none⟩ = some (.int .i64 a0_5) := (blk_cell BK311.out 5).trans rfl; have hcz22_6 : w21.cell? ⟨gb311, 6, none⟩ = some (.slice A0_6 l0_6.length c0_6) := (blk_cell BK311.out 6).trans rfl; have hfz22_0 := blk_frozen BK311.out 0; have hfz22_1 := blk_frozen BK311.out 1; have hfz22_2 := blk_frozen BK311.out 2; have hfz22_3 := blk_frozen BK311.out 3; have hfz22_4 := blk_frozen BK311.out 4; have hfz22_5 := blk_frozen BK311.out 5; have hfz22_6 := blk_frozen BK311.out 6; have hcz23_0 : w21.cell? ⟨gb312, 0, none⟩ = some (.int .i64 a1_0) := (blk_cell BK312.out 0).trans rfl; have hcz23_1 : w21.cell? ⟨gb312, 1, none⟩ = some (.int .i64 a1_1) := (blk_cell BK312.out 1).trans rfl; have hcz23_2 : w21.cell? ⟨gb312, 2, none⟩ = some (.int .i64 a1_2) := (blk_cell BK312.out 2).trans rfl; have hcz23_3 : w21.cell? ⟨gb312, 3, none⟩ = some (.int .i64 a1_3) := (blk_cell BK312.out 3).trans rfl; have hcz23_4 : w21.cell? ⟨gb312, 4, none⟩ = some (.int .i64 a1_4) := (blk_cell BK312.out 4).trans rfl; have hcz23_5 : w21.cell? ⟨gb312, 5, none⟩ = some (.int .i64 a1_5) := (blk_cell BK312.out 5).trans rfl; have hfz23_0 := blk_frozen BK312.out 0; have hfz23_1 := blk_frozen BK312.out 1; have hfz23_2 := blk_frozen BK312.out 2; have hfz23_3 := blk_frozen BK312.out 3; have hfz23_4 := blk_frozen BK312.out 4; have hfz23_5 := blk_frozen BK312.out 5))
          go_meet
          case rel => exact ⟨_, (decide ((l0_6.length : Int) > a1_4)), (by first | rfl | (simp; done) | (simp [*]; done)), H', ⟨by first | omega | exact Nat.le_refl _⟩, ⟨qb BK311.out⟩, ⟨qb BK312.out⟩, ⟨qw HB.out⟩⟩
        · replace c15 := Bool.eq_false_iff.mpr c15
          subst c15
          have H1 : (impl_SourceOK.j0 k true a0_0 a0_1 a0_2 a0_3 a0_4 a0_5 l0_6) = some r := by rw [if_neg (show ¬ (false = true) by decide)] at H; exact H
          clear H
          have H := H1
          clear H1
          have H' := Aside0.mk H
          clear H
          have hnb24 := NB312_311.out
          have hnc24 := NB311_312.out
          have hcz25_0 : w8.cell? ⟨gb312, 0, none⟩ = some (.int .i64 a1_0) := (blk_cell BK312.out 0).trans rfl
          have hcz25_1 : w8.cell? ⟨gb312, 1, none⟩ = some (.int .i64 a1_1) := (blk_cell BK312.out 1).trans rfl
          have hcz25_2 : w8.cell? ⟨gb312, 2, none⟩ = some (.int .i64 a1_2) := (blk_cell BK312.out 2).trans rfl
          have hcz25_3 : w8.cell? ⟨gb312, 3, none⟩ = some (.int .i64 a1_3) := (blk_cell BK312.out 3).trans rfl
          have hcz25_4 : w8.cell? ⟨gb312, 4, none⟩ = some (.int .i64 a1_4) := (blk_cell BK312.out 4).trans rfl
          have hcz25_5 : w8.cell? ⟨gb312, 5, none⟩ = some (.int .i64 a1_5) := (blk_cell BK312.out 5).trans rfl
          have hfz25_0 := blk_frozen BK312.out 0
          have hfz25_1 := blk_frozen BK312.out 1
          have hfz25_2 := blk_frozen BK312.out 2
          have hfz25_3 := blk_frozen BK312.out 3
          have hfz25_4 := blk_frozen BK312.out 4
          have hfz25_5 := blk_frozen BK312.out 5
          go_wp2_with (first | ((with_reducible refine gate_callee (f := 38) rfl ?_); refine goesL_ (some 20) rfl rfl Tryd.func38 (by kernel_rfl) rfl #[.agg #[.int .i64 a1_0, .int .i64 a1_1, .int .i64 a1_2, .int .i64 a1_3, .int .i64 a1_4, .int .i64 a1_5]] rfl qa ?_; (with_reducible refine (impl_TaskOK.calls k a1_0 a1_1 a1_2 a1_3 a1_4 a1_5 true _ A10.out).mono ?_); rintro e w26 ⟨rfl, hb⟩; refine ⟨_, rfl, ?_⟩; have n0_ := Aside0.mk (Kd.R_below (qr HO315.out) hb); have n1_ := Aside0.mk (blk_below (g := gb311) (o := .cells #[.int .i64 a0_0, .int .i64 a0_1, .int .i64 a0_2, .int .i64 a0_3, .int .i64 a0_4, .int .i64 a0_5, .slice A0_6 l0_6.length c0_6] 46 (0, 0)) (qb BK311.out) hb); have n2_ := Aside0.mk (blk_below (g := gb312) (o := .cells #[.int .i64 a1_0, .int .i64 a1_1, .int .i64 a1_2, .int .i64 a1_3, .int .i64 a1_4, .int .i64 a1_5] 38 (0, 0)) (qb BK312.out) hb); have n3_ := Aside0.mk (below_step (qw HB.out) hb); clear HO315; clear BK311; clear BK312; clear HB; have HO315 := n0_; have BK311 := n1_; have BK312 := n2_; have HB := n3_; clear n0_ n1_ n2_ n3_; (try clear hb); (try clear hb2); (try clear hk); (try clear hi); have hcz27_0 : w26.cell? ⟨gb311, 0, none⟩ = some (.int .i64 a0_0) := (blk_cell BK311.out 0).trans rfl; have hcz27_1 : w26.cell? ⟨gb311, 1, none⟩ = some (.int .i64 a0_1) := (blk_cell BK311.out 1).trans rfl; have hcz27_2 : w26.cell? ⟨gb311, 2, none⟩ = some (.int .i64 a0_2) := (blk_cell BK311.out 2).trans rfl; have hcz27_3 : w26.cell? ⟨gb311, 3, none⟩ = some (.int .i64 a0_3) := (blk_cell BK311.out 3).trans rfl; have hcz27_4 : w26.cell? ⟨gb311, 4, none⟩ = some (.int .i64 a0_4) := (blk_cell BK311.out 4).trans rfl; have hcz27_5 : w26.cell? ⟨gb311, 5, none⟩ = some (.int .i64 a0_5) := (blk_cell BK311.out 5).trans rfl; have hcz27_6 : w26.cell? ⟨gb311, 6, none⟩ = some (.slice A0_6 l0_6.length c0_6) := (blk_cell BK311.out 6).trans rfl; have hfz27_0 := blk_frozen BK311.out 0; have hfz27_1 := blk_frozen BK311.out 1; have hfz27_2 := blk_frozen BK311.out 2; have hfz27_3 := blk_frozen BK311.out 3; have hfz27_4 := blk_frozen BK311.out 4; have hfz27_5 := blk_frozen BK311.out 5; have hfz27_6 := blk_frozen BK311.out 6) | (go_at_call 59; (with_reducible refine (impl_within.calls a0_0 (-1) 2147483647 true _ A12.out).mono ?_); rintro e w' ⟨rfl, ⟨nd, rfl⟩⟩; obtain ⟨Ao28, co28, eo28⟩ := Kd.R_slice HO315.out; subst eo28) | (go_at_call 61; (with_reducible refine (impl_all_time.calls _ _ y313 false _ ?side1 ?side2 A14.out).mono ?_); (case side1 => repeat (first | exact (Kd.R_reads' HO315.out).2.2 | (with_reducible refine Kd.C_alloc ?_ _) | (with_reducible refine Kd.C_drewN ?_ _) | (with_reducible refine Kd.C_drew ?_))); (case side2 => exact (Kd.R_reads' HO315.out).2.1); rintro e w29 ⟨rfl, hb⟩; have n0_ := Aside0.mk (Kd.R_below (qr HO315.out) hb); have n1_ := Aside0.mk (blk_below (g := gb311) (o := .cells #[.int .i64 a0_0, .int .i64 a0_1, .int .i64 a0_2, .int .i64 a0_3, .int .i64 a0_4, .int .i64 a0_5, .slice A0_6 l0_6.length c0_6] 46 (0, 0)) (qb BK311.out) hb); have n2_ := Aside0.mk (blk_below (g := gb312) (o := .cells #[.int .i64 a1_0, .int .i64 a1_1, .int .i64 a1_2, .int .i64 a1_3, .int .i64 a1_4, .int .i64 a1_5] 38 (0, 0)) (qb BK312.out) hb); have n3_ := Aside0.mk (below_step (qw HB.out) hb); clear HO315; clear BK311; clear BK312; clear HB; have HO315 := n0_; have BK311 := n1_; have BK312 := n2_; have HB := n3_; clear n0_ n1_ n2_ n3_; (try clear hb); (try clear hb2); (try clear hk); (try clear hi)))
          go_meet
          case rel => exact ⟨_, (true), (by first | rfl | (simp; done) | (simp [*]; done)), H', ⟨by first | omega | exact Nat.le_refl _⟩, ⟨qb BK311.out⟩, ⟨qb BK312.out⟩, ⟨qw HB.out⟩⟩
      · replace c13 := Bool.eq_false_iff.mpr c13
        subst c13
        have H1 : (impl_SourceOK.j0 k true a0_0 a0_1 a0_2 a0_3 a0_4 a0_5 l0_6) = some r := by rw [if_neg (show ¬ (false = true) by decide)] at H; exact H
        clear H
        have H := H1
        clear H1
        have H' := Aside0.mk H
        clear H
        have hnb30 := NB312_311.out
        have hnc30 := NB311_312.out
        have hcz31_0 : w8.cell? ⟨gb312, 0, none⟩ = some (.int .i64 a1_0) := (blk_cell BK312.out 0).trans rfl
        have hcz31_1 : w8.cell? ⟨gb312, 1, none⟩ = some (.int .i64 a1_1) := (blk_cell BK312.out 1).trans rfl
        have hcz31_2 : w8.cell? ⟨gb312, 2, none⟩ = some (.int .i64 a1_2) := (blk_cell BK312.out 2).trans rfl
        have hcz31_3 : w8.cell? ⟨gb312, 3, none⟩ = some (.int .i64 a1_3) := (blk_cell BK312.out 3).trans rfl
        have hcz31_4 : w8.cell? ⟨gb312, 4, none⟩ = some (.int .i64 a1_4) := (blk_cell BK312.out 4).trans rfl
        have hcz31_5 : w8.cell? ⟨gb312, 5, none⟩ = some (.int .i64 a1_5) := (blk_cell BK312.out 5).trans rfl
        have hfz31_0 := blk_frozen BK312.out 0
        have hfz31_1 := blk_frozen BK312.out 1
        have hfz31_2 := blk_frozen BK312.out 2
        have hfz31_3 := blk_frozen BK312.out 3
        have hfz31_4 := blk_frozen BK312.out 4
        have hfz31_5 := blk_frozen BK312.out 5
        go_wp2_with (first | ((with_reducible refine gate_callee (f := 38) rfl ?_); refine goesL_ (some 20) rfl rfl Tryd.func38 (by kernel_rfl) rfl #[.agg #[.int .i64 a1_0, .int .i64 a1_1, .int .i64 a1_2, .int .i64 a1_3, .int .i64 a1_4, .int .i64 a1_5]] rfl qa ?_; (with_reducible refine (impl_TaskOK.calls k a1_0 a1_1 a1_2 a1_3 a1_4 a1_5 true _ A10.out).mono ?_); rintro e w32 ⟨rfl, hb⟩; refine ⟨_, rfl, ?_⟩; have n0_ := Aside0.mk (Kd.R_below (qr HO315.out) hb); have n1_ := Aside0.mk (blk_below (g := gb311) (o := .cells #[.int .i64 a0_0, .int .i64 a0_1, .int .i64 a0_2, .int .i64 a0_3, .int .i64 a0_4, .int .i64 a0_5, .slice A0_6 l0_6.length c0_6] 46 (0, 0)) (qb BK311.out) hb); have n2_ := Aside0.mk (blk_below (g := gb312) (o := .cells #[.int .i64 a1_0, .int .i64 a1_1, .int .i64 a1_2, .int .i64 a1_3, .int .i64 a1_4, .int .i64 a1_5] 38 (0, 0)) (qb BK312.out) hb); have n3_ := Aside0.mk (below_step (qw HB.out) hb); clear HO315; clear BK311; clear BK312; clear HB; have HO315 := n0_; have BK311 := n1_; have BK312 := n2_; have HB := n3_; clear n0_ n1_ n2_ n3_; (try clear hb); (try clear hb2); (try clear hk); (try clear hi); have hcz33_0 : w32.cell? ⟨gb311, 0, none⟩ = some (.int .i64 a0_0) := (blk_cell BK311.out 0).trans rfl; have hcz33_1 : w32.cell? ⟨gb311, 1, none⟩ = some (.int .i64 a0_1) := (blk_cell BK311.out 1).trans rfl; have hcz33_2 : w32.cell? ⟨gb311, 2, none⟩ = some (.int .i64 a0_2) := (blk_cell BK311.out 2).trans rfl; have hcz33_3 : w32.cell? ⟨gb311, 3, none⟩ = some (.int .i64 a0_3) := (blk_cell BK311.out 3).trans rfl; have hcz33_4 : w32.cell? ⟨gb311, 4, none⟩ = some (.int .i64 a0_4) := (blk_cell BK311.out 4).trans rfl; have hcz33_5 : w32.cell? ⟨gb311, 5, none⟩ = some (.int .i64 a0_5) := (blk_cell BK311.out 5).trans rfl; have hcz33_6 : w32.cell? ⟨gb311, 6, none⟩ = some (.slice A0_6 l0_6.length c0_6) := (blk_cell BK311.out 6).trans rfl; have hfz33_0 := blk_frozen BK311.out 0; have hfz33_1 := blk_frozen BK311.out 1; have hfz33_2 := blk_frozen BK311.out 2; have hfz33_3 := blk_frozen BK311.out 3; have hfz33_4 := blk_frozen BK311.out 4; have hfz33_5 := blk_frozen BK311.out 5; have hfz33_6 := blk_frozen BK311.out 6) | (go_at_call 59; (with_reducible refine (impl_within.calls a0_0 (-1) 2147483647 false _ A12.out).mono ?_); rintro e w' ⟨rfl, ⟨nd, rfl⟩⟩))
        go_meet
        case rel => exact ⟨_, (true), (by first | rfl | (simp; done) | (simp [*]; done)), H', ⟨by first | omega | exact Nat.le_refl _⟩, ⟨qb BK311.out⟩, ⟨qb BK312.out⟩, ⟨qw HB.out⟩⟩
    · replace c11 := Bool.eq_false_iff.mpr c11
      subst c11
      have H1 : (impl_SourceOK.j0 k true a0_0 a0_1 a0_2 a0_3 a0_4 a0_5 l0_6) = some r := by rw [if_neg (show ¬ (false = true) by decide)] at H; exact H
      clear H
      have H := H1
      clear H1
      have H' := Aside0.mk H
      clear H
      have hnb34 := NB312_311.out
      have hnc34 := NB311_312.out
      have hcz35_0 : w8.cell? ⟨gb312, 0, none⟩ = some (.int .i64 a1_0) := (blk_cell BK312.out 0).trans rfl
      have hcz35_1 : w8.cell? ⟨gb312, 1, none⟩ = some (.int .i64 a1_1) := (blk_cell BK312.out 1).trans rfl
      have hcz35_2 : w8.cell? ⟨gb312, 2, none⟩ = some (.int .i64 a1_2) := (blk_cell BK312.out 2).trans rfl
      have hcz35_3 : w8.cell? ⟨gb312, 3, none⟩ = some (.int .i64 a1_3) := (blk_cell BK312.out 3).trans rfl
      have hcz35_4 : w8.cell? ⟨gb312, 4, none⟩ = some (.int .i64 a1_4) := (blk_cell BK312.out 4).trans rfl
      have hcz35_5 : w8.cell? ⟨gb312, 5, none⟩ = some (.int .i64 a1_5) := (blk_cell BK312.out 5).trans rfl
      have hfz35_0 := blk_frozen BK312.out 0
      have hfz35_1 := blk_frozen BK312.out 1
      have hfz35_2 := blk_frozen BK312.out 2
      have hfz35_3 := blk_frozen BK312.out 3
      have hfz35_4 := blk_frozen BK312.out 4
      have hfz35_5 := blk_frozen BK312.out 5
      go_wp2_with (first | ((with_reducible refine gate_callee (f := 38) rfl ?_); refine goesL_ (some 20) rfl rfl Tryd.func38 (by kernel_rfl) rfl #[.agg #[.int .i64 a1_0, .int .i64 a1_1, .int .i64 a1_2, .int .i64 a1_3, .int .i64 a1_4, .int .i64 a1_5]] rfl qa ?_; (with_reducible refine (impl_TaskOK.calls k a1_0 a1_1 a1_2 a1_3 a1_4 a1_5 false _ A10.out).mono ?_); rintro e w36 ⟨rfl, hb⟩; refine ⟨_, rfl, ?_⟩; have n0_ := Aside0.mk (Kd.R_below (qr HO315.out) hb); have n1_ := Aside0.mk (blk_below (g := gb311) (o := .cells #[.int .i64 a0_0, .int .i64 a0_1, .int .i64 a0_2, .int .i64 a0_3, .int .i64 a0_4, .int .i64 a0_5, .slice A0_6 l0_6.length c0_6] 46 (0, 0)) (qb BK311.out) hb); have n2_ := Aside0.mk (blk_below (g := gb312) (o := .cells #[.int .i64 a1_0, .int .i64 a1_1, .int .i64 a1_2, .int .i64 a1_3, .int .i64 a1_4, .int .i64 a1_5] 38 (0, 0)) (qb BK312.out) hb); have n3_ := Aside0.mk (below_step (qw HB.out) hb); clear HO315; clear BK311; clear BK312; clear HB; have HO315 := n0_; have BK311 := n1_; have BK312 := n2_; have HB := n3_; clear n0_ n1_ n2_ n3_; (try clear hb); (try clear hb2); (try clear hk); (try clear hi)))
      go_meet
      case rel => exact ⟨_, (true), (by first | rfl | (simp; done) | (simp [*]; done)), H', ⟨by first | omega | exact Nat.le_refl _⟩, ⟨qb BK311.out⟩, ⟨qb BK312.out⟩, ⟨qw HB.out⟩⟩
  case rest =>
    clear HC3
    try clear c1
    try clear c2
    try clear p2
    try clear c3
    try clear c4
    try clear c6
    try clear c11
    try clear c13
    try clear c15
    try clear c16
    try clear c24
    try clear c30
    try clear c34
    try clear hcz17_0
    try clear hcz17_1
    try clear hcz17_2
    try clear hcz17_3
    try clear hcz17_4
    try clear hcz17_5
    try clear hcz19_0
    try clear hcz19_1
    try clear hcz19_2
    try clear hcz19_3
    try clear hcz19_4
    try clear hcz19_5
    try clear hcz19_6
    try clear hcz22_0
    try clear hcz22_1
    try clear hcz22_2
    try clear hcz22_3
    try clear hcz22_4
    try clear hcz22_5
    try clear hcz22_6
    try clear hcz23_0
    try clear hcz23_1
    try clear hcz23_2
    try clear hcz23_3
    try clear hcz23_4
    try clear hcz23_5
    try clear hcz25_0
    try clear hcz25_1
    try clear hcz25_2
    try clear hcz25_3
    try clear hcz25_4
    try clear hcz25_5
    try clear hcz27_0
    try clear hcz27_1
    try clear hcz27_2
    try clear hcz27_3
    try clear hcz27_4
    try clear hcz27_5
    try clear hcz27_6
    try clear hcz31_0
    try clear hcz31_1
    try clear hcz31_2
    try clear hcz31_3
    try clear hcz31_4
    try clear hcz31_5
    try clear hcz33_0
    try clear hcz33_1
    try clear hcz33_2
    try clear hcz33_3
    try clear hcz33_4
    try clear hcz33_5
    try clear hcz33_6
    try clear hcz35_0
    try clear hcz35_1
    try clear hcz35_2
    try clear hcz35_3
    try clear hcz35_4
    try clear hcz35_5
    try clear hcz7_0
    try clear hcz7_1
    try clear hcz7_2
    try clear hcz7_3
    try clear hcz7_4
    try clear hcz7_5
    try clear hcz7_6
    try clear hfz17_0
    try clear hfz17_1
    try clear hfz17_2
    try clear hfz17_3
    try clear hfz17_4
    try clear hfz17_5
    try clear hfz19_0
    try clear hfz19_1
    try clear hfz19_2
    try clear hfz19_3
    try clear hfz19_4
    try clear hfz19_5
    try clear hfz19_6
    try clear hfz22_0
    try clear hfz22_1
    try clear hfz22_2
    try clear hfz22_3
    try clear hfz22_4
    try clear hfz22_5
    try clear hfz22_6
    try clear hfz23_0
    try clear hfz23_1
    try clear hfz23_2
    try clear hfz23_3
    try clear hfz23_4
    try clear hfz23_5
    try clear hfz25_0
    try clear hfz25_1
    try clear hfz25_2
    try clear hfz25_3
    try clear hfz25_4
    try clear hfz25_5
    try clear hfz27_0
    try clear hfz27_1
    try clear hfz27_2
    try clear hfz27_3
    try clear hfz27_4
    try clear hfz27_5
    try clear hfz27_6
    try clear hfz31_0
    try clear hfz31_1
    try clear hfz31_2
    try clear hfz31_3
    try clear hfz31_4
    try clear hfz31_5
    try clear hfz33_0
    try clear hfz33_1
    try clear hfz33_2
    try clear hfz33_3
    try clear hfz33_4
    try clear hfz33_5
    try clear hfz33_6
    try clear hfz35_0
    try clear hfz35_1
    try clear hfz35_2
    try clear hfz35_3
    try clear hfz35_4
    try clear hfz35_5
    try clear hfz7_0
    try clear hfz7_1
    try clear hfz7_2
    try clear hfz7_3
    try clear hfz7_4
    try clear hfz7_5
    try clear hfz7_6
    obtain ⟨kq, x40_2, rfl, HA, HJ2, BK311, BK312, HB⟩ := hcut
    cases kq with
    | zero => exact absurd HA.out (by simp [impl_SourceOK.j0])
    | succ kj2 =>
      have H := HA.out
      clear HA
      simp only [impl_SourceOK.j0] at H
      by_cases c37 : x40_2 = true
      · subst c37
        have H1 : (some false) = some r := by rw [if_pos rfl] at H; exact H
        clear H
        have H := H1
        clear H1
        obtain rfl := Option.some.inj H
        go_wp2
        go_ret
        exact ⟨qe, qw HB.out⟩
      · replace c37 := Bool.eq_false_iff.mpr c37
        subst c37
        have H1 : (impl_SourceOK.l0 kj2 l0_6 (l0_6.length : Int) 0 a0_0 a0_1 a0_2 a0_3 a0_4 a0_5 l0_6) = some r := by rw [if_neg (show ¬ (false = true) by decide)] at H; exact H
        clear H
        have H := H1
        clear H1
        have H' := Aside0.mk H
        clear H
        have hnb38 := NB311_312.out
        have hnc38 := NB312_311.out
        have hcz39_0 : wc.cell? ⟨gb311, 0, none⟩ = some (.int .i64 a0_0) := (blk_cell BK311.out 0).trans rfl
        have hcz39_1 : wc.cell? ⟨gb311, 1, none⟩ = some (.int .i64 a0_1) := (blk_cell BK311.out 1).trans rfl
        have hcz39_2 : wc.cell? ⟨gb311, 2, none⟩ = some (.int .i64 a0_2) := (blk_cell BK311.out 2).trans rfl
        have hcz39_3 : wc.cell? ⟨gb311, 3, none⟩ = some (.int .i64 a0_3) := (blk_cell BK311.out 3).trans rfl
        have hcz39_4 : wc.cell? ⟨gb311, 4, none⟩ = some (.int .i64 a0_4) := (blk_cell BK311.out 4).trans rfl
        have hcz39_5 : wc.cell? ⟨gb311, 5, none⟩ = some (.int .i64 a0_5) := (blk_cell BK311.out 5).trans rfl
        have hcz39_6 : wc.cell? ⟨gb311, 6, none⟩ = some (.slice A0_6 l0_6.length c0_6) := (blk_cell BK311.out 6).trans rfl
        have hfz39_0 := blk_frozen BK311.out 0
        have hfz39_1 := blk_frozen BK311.out 1
        have hfz39_2 := blk_frozen BK311.out 2
        have hfz39_3 := blk_frozen BK311.out 3
        have hfz39_4 := blk_frozen BK311.out 4
        have hfz39_5 := blk_frozen BK311.out 5
        have hfz39_6 := blk_frozen BK311.out 6
        go_wp2
        go_loopg [44] kj2 (fun kq v44 w' => ∃ (x44_2 : Int), v44 = .int .i64 x44_2 ∧ Aside0 (impl_SourceOK.l0 kq l0_6 (l0_6.length : Int) x44_2 a0_0 a0_1 a0_2 a0_3 a0_4 a0_5 l0_6 = some r) ∧ Aside0 (kq ≤ kj2) ∧ Aside0 (w'.heap[gb311]? = some (.cells #[.int .i64 a0_0, .int .i64 a0_1, .int .i64 a0_2, .int .i64 a0_3, .int .i64 a0_4, .int .i64 a0_5, (.slice A0_6 l0_6.length c0_6)] 46 (0, 0))) ∧ Aside0 (w'.heap[gb312]? = some (.cells #[.int .i64 a1_0, .int .i64 a1_1, .int .i64 a1_2, .int .i64 a1_3, .int .i64 a1_4, .int .i64 a1_5] 38 (0, 0))) ∧ Aside0 (Below w.heap.size w w'))
        case atStart => exact ⟨(0), (by first | rfl | (simp; done) | (simp [*]; done)), H', ⟨Nat.le_refl _⟩, ⟨qb BK311.out⟩, ⟨qb BK312.out⟩, ⟨qw HB.out⟩⟩
        case round =>
          clear H'
          try clear c1
          try clear c2
          try clear p2
          try clear c3
          try clear c4
          try clear c6
          try clear c11
          try clear c13
          try clear c15
          try clear c16
          try clear c24
          try clear c30
          try clear c34
          try clear c37
          try clear c38
          try clear hcz17_0
          try clear hcz17_1
          try clear hcz17_2
          try clear hcz17_3
          try clear hcz17_4
          try clear hcz17_5
          try clear hcz19_0
          try clear hcz19_1
          try clear hcz19_2
          try clear hcz19_3
          try clear hcz19_4
          try clear hcz19_5
          try clear hcz19_6
          try clear hcz22_0
          try clear hcz22_1
          try clear hcz22_2
          try clear hcz22_3
          try clear hcz22_4
          try clear hcz22_5
          try clear hcz22_6
          try clear hcz23_0
          try clear hcz23_1
          try clear hcz23_2
          try clear hcz23_3
          try clear hcz23_4
          try clear hcz23_5
          try clear hcz25_0
          try clear hcz25_1
          try clear hcz25_2
          try clear hcz25_3
          try clear hcz25_4
          try clear hcz25_5
          try clear hcz27_0
          try clear hcz27_1
          try clear hcz27_2
          try clear hcz27_3
          try clear hcz27_4
          try clear hcz27_5
          try clear hcz27_6
          try clear hcz31_0
          try clear hcz31_1
          try clear hcz31_2
          try clear hcz31_3
          try clear hcz31_4
          try clear hcz31_5
          try clear hcz33_0
          try clear hcz33_1
          try clear hcz33_2
          try clear hcz33_3
          try clear hcz33_4
          try clear hcz33_5
          try clear hcz33_6
          try clear hcz35_0
          try clear hcz35_1
          try clear hcz35_2
          try clear hcz35_3
          try clear hcz35_4
          try clear hcz35_5
          try clear hcz39_0
          try clear hcz39_1
          try clear hcz39_2
          try clear hcz39_3
          try clear hcz39_4
          try clear hcz39_5
          try clear hcz39_6
          try clear hcz7_0
          try clear hcz7_1
          try clear hcz7_2
          try clear hcz7_3
          try clear hcz7_4
          try clear hcz7_5
          try clear hcz7_6
          try clear hfz17_0
          try clear hfz17_1
          try clear hfz17_2
          try clear hfz17_3
          try clear hfz17_4
          try clear hfz17_5
          try clear hfz19_0
          try clear hfz19_1
          try clear hfz19_2
          try clear hfz19_3
          try clear hfz19_4
          try clear hfz19_5
          try clear hfz19_6
          try clear hfz22_0
          try clear hfz22_1
          try clear hfz22_2
          try clear hfz22_3
          try clear hfz22_4
          try clear hfz22_5
          try clear hfz22_6
          try clear hfz23_0
          try clear hfz23_1
          try clear hfz23_2
          try clear hfz23_3
          try clear hfz23_4
          try clear hfz23_5
          try clear hfz25_0
          try clear hfz25_1
          try clear hfz25_2
          try clear hfz25_3
          try clear hfz25_4
          try clear hfz25_5
          try clear hfz27_0
          try clear hfz27_1
          try clear hfz27_2
          try clear hfz27_3
          try clear hfz27_4
          try clear hfz27_5
          try clear hfz27_6
          try clear hfz31_0
          try clear hfz31_1
          try clear hfz31_2
          try clear hfz31_3
          try clear hfz31_4
          try clear hfz31_5
          try clear hfz33_0
          try clear hfz33_1
          try clear hfz33_2
          try clear hfz33_3
          try clear hfz33_4
          try clear hfz33_5
          try clear hfz33_6
          try clear hfz35_0
          try clear hfz35_1
          try clear hfz35_2
          try clear hfz35_3
          try clear hfz35_4
          try clear hfz35_5
          try clear hfz39_0
          try clear hfz39_1
          try clear hfz39_2
          try clear hfz39_3
          try clear hfz39_4
          try clear hfz39_5
          try clear hfz39_6
          try clear hfz7_0
          try clear hfz7_1
          try clear hfz7_2
          try clear hfz7_3
          try clear hfz7_4
          try clear hfz7_5
          try clear hfz7_6
          try clear p2
          obtain ⟨x44_2, rfl, HA, HK2, BK311, BK312, HB⟩ := hrel
          cases gk with
          | zero => exact absurd HA.out (by simp [impl_SourceOK.l0])
          | succ k2 =>
            have H := HA.out
            clear HA
            simp only [impl_SourceOK.l0] at H
            by_cases c40 : x44_2 < (l0_6.length : Int)
            · rw [if_pos c40] at H
              have c40b0 : decide (x44_2 < (l0_6.length : Int)) = true := decide_eq_true c40
              clear c40
              by_cases c41 : 0 ≤ x44_2
              · rw [if_pos c41] at H
                have c41b0 : decide (0 ≤ x44_2) = true := decide_eq_true c41
                clear c41
                by_cases c42 : x44_2 < (l0_6.length : Int)
                · rw [if_pos c42] at H
                  have c42b0 : decide (x44_2 < (l0_6.length : Int)) = true := decide_eq_true c42
                  clear c42
                  replace H := Option.bind_eq_some_iff.mp H
                  obtain ⟨t320, A430, H⟩ := H
                  replace H : (if t320 = true then (if x44_2 > 0 then (if 0 ≤ (wrap64 (x44_2 - 1)) then (if (wrap64 (x44_2 - 1)) < (l0_6.length : Int) then (if (rd l0_6 x44_2) ≤ (rd l0_6 (wrap64 (x44_2 - 1))) then (some false) else (impl_SourceOK.l0 k2 l0_6 (l0_6.length : Int) (wrap64 (x44_2 + 1)) a0_0 a0_1 a0_2 a0_3 a0_4 a0_5 l0_6)) else (none)) else (none)) else (impl_SourceOK.l0 k2 l0_6 (l0_6.length : Int) (wrap64 (x44_2 + 1)) a0_0 a0_1 a0_2 a0_3 a0_4 a0_5 l0_6)) else (some false)) = some r := H
                  have A43 := Aside0.mk A430
                  clear A430
                  by_cases c44 : t320 = true
                  · subst c44
                    have H1 : (if x44_2 > 0 then (if 0 ≤ (wrap64 (x44_2 - 1)) then (if (wrap64 (x44_2 - 1)) < (l0_6.length : Int) then (if (rd l0_6 x44_2) ≤ (rd l0_6 (wrap64 (x44_2 - 1))) then (some false) else (impl_SourceOK.l0 k2 l0_6 (l0_6.length : Int) (wrap64 (x44_2 + 1)) a0_0 a0_1 a0_2 a0_3 a0_4 a0_5 l0_6)) else (none)) else (none)) else (impl_SourceOK.l0 k2 l0_6 (l0_6.length : Int) (wrap64 (x44_2 + 1)) a0_0 a0_1 a0_2 a0_3 a0_4 a0_5 l0_6)) = some r := by rw [if_pos rfl] at H; exact H
                    clear H
                    have H := H1
                    clear H1
                    by_cases c45 : x44_2 > 0
                    · rw [if_pos c45] at H
                      have c45b0 : decide (0 < x44_2) = true := decide_eq_true c45
                      clear c45
                      obtain ⟨ji46, hji46⟩ : ∃ j_ : Int, (wrap64 (x44_2 - 1)) = j_ := ⟨_, rfl⟩
                      replace H : (if 0 ≤ (ji46) then (if (ji46) < (l0_6.length : Int) then (if (rd l0_6 x44_2) ≤ (rd l0_6 (ji46)) then (some false) else (impl_SourceOK.l0 k2 l0_6 (l0_6.length : Int) (wrap64 (x44_2 + 1)) a0_0 a0_1 a0_2 a0_3 a0_4 a0_5 l0_6)) else (none)) else (none)) = some r := by first | (rw [hji46] at H; exact H) | (simp only [hji46] at H ⊢; exact H)
                      (try rw [hji46] at A43)
                      have hji46w : (IntKind.i64.wrap (x44_2 - 1)) = ji46 := (i64_w _).trans hji46
                      by_cases c47 : 0 ≤ (ji46)
                      · rw [if_pos c47] at H
                        have c47b0 : decide (0 ≤ (ji46)) = true := decide_eq_true c47
                        clear c47
                        by_cases c48 : (ji46) < (l0_6.length : Int)
                        · rw [if_pos c48] at H
                          have c48b0 : decide ((ji46) < (l0_6.length : Int)) = true := decide_eq_true c48
                          clear c48
                          by_cases c49 : (rd l0_6 x44_2) ≤ (rd l0_6 (ji46))
                          · rw [if_pos c49] at H
                            have c49b0 : decide ((rd l0_6 x44_2) ≤ (rd l0_6 (ji46))) = true := decide_eq_true c49
                            clear c49
                            obtain rfl := Option.some.inj H
                            have p319 : 0 ≤ (x44_2 : Int) := of_decide_eq_true qs
                            have q319 : x44_2 < (l0_6.length : Int) := of_decide_eq_true qs
                            obtain ⟨ad319, e319, hx319_0⟩ := Kd.at_int HR0_6.out x44_2 p319 q319
                            cases e319
                            replace hx319_0 := (HB.out.cell (World.block_lt_of_cell? w _ hx319_0)).trans hx319_0
                            replace p319 := eq_true p319
                            replace q319 := eq_true q319
                            have hnb50 := NB311_312.out
                            have hnc50 := NB312_311.out
                            have hcz51_0 : wr.cell? ⟨gb311, 0, none⟩ = some (.int .i64 a0_0) := (blk_cell BK311.out 0).trans rfl
                            have hcz51_1 : wr.cell? ⟨gb311, 1, none⟩ = some (.int .i64 a0_1) := (blk_cell BK311.out 1).trans rfl
                            have hcz51_2 : wr.cell? ⟨gb311, 2, none⟩ = some (.int .i64 a0_2) := (blk_cell BK311.out 2).trans rfl
                            have hcz51_3 : wr.cell? ⟨gb311, 3, none⟩ = some (.int .i64 a0_3) := (blk_cell BK311.out 3).trans rfl
                            have hcz51_4 : wr.cell? ⟨gb311, 4, none⟩ = some (.int .i64 a0_4) := (blk_cell BK311.out 4).trans rfl
                            have hcz51_5 : wr.cell? ⟨gb311, 5, none⟩ = some (.int .i64 a0_5) := (blk_cell BK311.out 5).trans rfl
                            have hcz51_6 : wr.cell? ⟨gb311, 6, none⟩ = some (.slice (some ad319) l0_6.length c0_6) := (blk_cell BK311.out 6).trans rfl
                            have hfz51_0 := blk_frozen BK311.out 0
                            have hfz51_1 := blk_frozen BK311.out 1
                            have hfz51_2 := blk_frozen BK311.out 2
                            have hfz51_3 := blk_frozen BK311.out 3
                            have hfz51_4 := blk_frozen BK311.out 4
                            have hfz51_5 := blk_frozen BK311.out 5
                            have hfz51_6 := blk_frozen BK311.out 6
                            go_wp2_with (first | ((with_reducible refine gate_callee (f := 59) rfl ?_); refine goesL_ (some 52) rfl rfl Tryd.func59 (by kernel_rfl) rfl #[.int .i64 (rd l0_6 x44_2), .int .i64 0, .int .i64 a0_0] rfl qa ?_; (with_reducible refine (impl_within.calls (rd l0_6 x44_2) 0 a0_0 true _ A43.out).mono ?_); rintro e w' ⟨rfl, ⟨nd, rfl⟩⟩; refine ⟨_, rfl, ?_⟩; have p321 : 0 ≤ ((ji46) : Int) := of_decide_eq_true qs; have q321 : (ji46) < (l0_6.length : Int) := of_decide_eq_true qs; obtain ⟨ad321, e321, hx321_0⟩ := Kd.at_int HR0_6.out (ji46) p321 q321; obtain rfl : ad319 = ad321 := (by injection e321); replace hx321_0 := (HB.out.cell (World.block_lt_of_cell? w _ hx321_0)).trans hx321_0; replace p321 := eq_true p321; replace q321 := eq_true q321))
                            go_ret
                            exact ⟨by first | rfl | (simp [errW_none, errW_some] <;> rfl) | (simp only [← hji46]; first | rfl | (simp [errW_none, errW_some] <;> rfl)) | (simp [*, errW_none, errW_some] <;> rfl), qw HB.out⟩
                          · rw [if_neg c49] at H
                            have c49b0 : decide ((rd l0_6 x44_2) ≤ (rd l0_6 (ji46))) = false := decide_eq_false c49
                            clear c49
                            have H' := Aside0.mk H
                            clear H
                            have p319 : 0 ≤ (x44_2 : Int) := of_decide_eq_true qs
                            have q319 : x44_2 < (l0_6.length : Int) := of_decide_eq_true qs
                            obtain ⟨ad319, e319, hx319_0⟩ := Kd.at_int HR0_6.out x44_2 p319 q319
                            cases e319
                            replace hx319_0 := (HB.out.cell (World.block_lt_of_cell? w _ hx319_0)).trans hx319_0
                            replace p319 := eq_true p319
                            replace q319 := eq_true q319
                            have hnb52 := NB311_312.out
                            have hnc52 := NB312_311.out
                            have hcz53_0 : wr.cell? ⟨gb311, 0, none⟩ = some (.int .i64 a0_0) := (blk_cell BK311.out 0).trans rfl
                            have hcz53_1 : wr.cell? ⟨gb311, 1, none⟩ = some (.int .i64 a0_1) := (blk_cell BK311.out 1).trans rfl
                            have hcz53_2 : wr.cell? ⟨gb311, 2, none⟩ = some (.int .i64 a0_2) := (blk_cell BK311.out 2).trans rfl
                            have hcz53_3 : wr.cell? ⟨gb311, 3, none⟩ = some (.int .i64 a0_3) := (blk_cell BK311.out 3).trans rfl
                            have hcz53_4 : wr.cell? ⟨gb311, 4, none⟩ = some (.int .i64 a0_4) := (blk_cell BK311.out 4).trans rfl
                            have hcz53_5 : wr.cell? ⟨gb311, 5, none⟩ = some (.int .i64 a0_5) := (blk_cell BK311.out 5).trans rfl
                            have hcz53_6 : wr.cell? ⟨gb311, 6, none⟩ = some (.slice (some ad319) l0_6.length c0_6) := (blk_cell BK311.out 6).trans rfl
                            have hfz53_0 := blk_frozen BK311.out 0
                            have hfz53_1 := blk_frozen BK311.out 1
                            have hfz53_2 := blk_frozen BK311.out 2
                            have hfz53_3 := blk_frozen BK311.out 3
                            have hfz53_4 := blk_frozen BK311.out 4
                            have hfz53_5 := blk_frozen BK311.out 5
                            have hfz53_6 := blk_frozen BK311.out 6
                            go_wp2_with (first | ((with_reducible refine gate_callee (f := 59) rfl ?_); refine goesL_ (some 52) rfl rfl Tryd.func59 (by kernel_rfl) rfl #[.int .i64 (rd l0_6 x44_2), .int .i64 0, .int .i64 a0_0] rfl qa ?_; (with_reducible refine (impl_within.calls (rd l0_6 x44_2) 0 a0_0 true _ A43.out).mono ?_); rintro e w' ⟨rfl, ⟨nd, rfl⟩⟩; refine ⟨_, rfl, ?_⟩; have p321 : 0 ≤ ((ji46) : Int) := of_decide_eq_true qs; have q321 : (ji46) < (l0_6.length : Int) := of_decide_eq_true qs; obtain ⟨ad321, e321, hx321_0⟩ := Kd.at_int HR0_6.out (ji46) p321 q321; obtain rfl : ad319 = ad321 := (by injection e321); replace hx321_0 := (HB.out.cell (World.block_lt_of_cell? w _ hx321_0)).trans hx321_0; replace p321 := eq_true p321; replace q321 := eq_true q321))
                            go_roundg k2
                            case measure => have := HJ2.out; have := HK2.out; omega
                            case rel => exact ⟨(wrap64 (x44_2 + 1)), (by first | rfl | (simp; done) | (simp [*]; done)), H', ⟨by have := HJ2.out; have := HK2.out; omega⟩, ⟨qb BK311.out⟩, ⟨qb BK312.out⟩, ⟨qw HB.out⟩⟩
                        · rw [if_neg c48] at H
                          exact absurd H (by simp)
                      · rw [if_neg c47] at H
                        exact absurd H (by simp)
                    · rw [if_neg c45] at H
                      have c45b0 : decide (0 < x44_2) = false := decide_eq_false c45
                      clear c45
                      have H' := Aside0.mk H
                      clear H
                      have p319 : 0 ≤ (x44_2 : Int) := of_decide_eq_true qs
                      have q319 : x44_2 < (l0_6.length : Int) := of_decide_eq_true qs
                      obtain ⟨ad319, e319, hx319_0⟩ := Kd.at_int HR0_6.out x44_2 p319 q319
                      cases e319
                      replace hx319_0 := (HB.out.cell (World.block_lt_of_cell? w _ hx319_0)).trans hx319_0
                      replace p319 := eq_true p319
                      replace q319 := eq_true q319
                      have hnb54 := NB311_312.out
                      have hnc54 := NB312_311.out
                      have hcz55_0 : wr.cell? ⟨gb311, 0, none⟩ = some (.int .i64 a0_0) := (blk_cell BK311.out 0).trans rfl
                      have hcz55_1 : wr.cell? ⟨gb311, 1, none⟩ = some (.int .i64 a0_1) := (blk_cell BK311.out 1).trans rfl
                      have hcz55_2 : wr.cell? ⟨gb311, 2, none⟩ = some (.int .i64 a0_2) := (blk_cell BK311.out 2).trans rfl
                      have hcz55_3 : wr.cell? ⟨gb311, 3, none⟩ = some (.int .i64 a0_3) := (blk_cell BK311.out 3).trans rfl
                      have hcz55_4 : wr.cell? ⟨gb311, 4, none⟩ = some (.int .i64 a0_4) := (blk_cell BK311.out 4).trans rfl
                      have hcz55_5 : wr.cell? ⟨gb311, 5, none⟩ = some (.int .i64 a0_5) := (blk_cell BK311.out 5).trans rfl
                      have hcz55_6 : wr.cell? ⟨gb311, 6, none⟩ = some (.slice (some ad319) l0_6.length c0_6) := (blk_cell BK311.out 6).trans rfl
                      have hfz55_0 := blk_frozen BK311.out 0
                      have hfz55_1 := blk_frozen BK311.out 1
                      have hfz55_2 := blk_frozen BK311.out 2
                      have hfz55_3 := blk_frozen BK311.out 3
                      have hfz55_4 := blk_frozen BK311.out 4
                      have hfz55_5 := blk_frozen BK311.out 5
                      have hfz55_6 := blk_frozen BK311.out 6
                      go_wp2_with (first | ((with_reducible refine gate_callee (f := 59) rfl ?_); refine goesL_ (some 52) rfl rfl Tryd.func59 (by kernel_rfl) rfl #[.int .i64 (rd l0_6 x44_2), .int .i64 0, .int .i64 a0_0] rfl qa ?_; (with_reducible refine (impl_within.calls (rd l0_6 x44_2) 0 a0_0 true _ A43.out).mono ?_); rintro e w' ⟨rfl, ⟨nd, rfl⟩⟩; refine ⟨_, rfl, ?_⟩))
                      go_roundg k2
                      case measure => have := HJ2.out; have := HK2.out; omega
                      case rel => exact ⟨(wrap64 (x44_2 + 1)), (by first | rfl | (simp; done) | (simp [*]; done)), H', ⟨by have := HJ2.out; have := HK2.out; omega⟩, ⟨qb BK311.out⟩, ⟨qb BK312.out⟩, ⟨qw HB.out⟩⟩
                  · replace c44 := Bool.eq_false_iff.mpr c44
                    subst c44
                    have H1 : (some false) = some r := by rw [if_neg (show ¬ (false = true) by decide)] at H; exact H
                    clear H
                    have H := H1
                    clear H1
                    obtain rfl := Option.some.inj H
                    have p319 : 0 ≤ (x44_2 : Int) := of_decide_eq_true qs
                    have q319 : x44_2 < (l0_6.length : Int) := of_decide_eq_true qs
                    obtain ⟨ad319, e319, hx319_0⟩ := Kd.at_int HR0_6.out x44_2 p319 q319
                    cases e319
                    replace hx319_0 := (HB.out.cell (World.block_lt_of_cell? w _ hx319_0)).trans hx319_0
                    replace p319 := eq_true p319
                    replace q319 := eq_true q319
                    have hnb56 := NB311_312.out
                    have hnc56 := NB312_311.out
                    have hcz57_0 : wr.cell? ⟨gb311, 0, none⟩ = some (.int .i64 a0_0) := (blk_cell BK311.out 0).trans rfl
                    have hcz57_1 : wr.cell? ⟨gb311, 1, none⟩ = some (.int .i64 a0_1) := (blk_cell BK311.out 1).trans rfl
                    have hcz57_2 : wr.cell? ⟨gb311, 2, none⟩ = some (.int .i64 a0_2) := (blk_cell BK311.out 2).trans rfl
                    have hcz57_3 : wr.cell? ⟨gb311, 3, none⟩ = some (.int .i64 a0_3) := (blk_cell BK311.out 3).trans rfl
                    have hcz57_4 : wr.cell? ⟨gb311, 4, none⟩ = some (.int .i64 a0_4) := (blk_cell BK311.out 4).trans rfl
                    have hcz57_5 : wr.cell? ⟨gb311, 5, none⟩ = some (.int .i64 a0_5) := (blk_cell BK311.out 5).trans rfl
                    have hcz57_6 : wr.cell? ⟨gb311, 6, none⟩ = some (.slice (some ad319) l0_6.length c0_6) := (blk_cell BK311.out 6).trans rfl
                    have hfz57_0 := blk_frozen BK311.out 0
                    have hfz57_1 := blk_frozen BK311.out 1
                    have hfz57_2 := blk_frozen BK311.out 2
                    have hfz57_3 := blk_frozen BK311.out 3
                    have hfz57_4 := blk_frozen BK311.out 4
                    have hfz57_5 := blk_frozen BK311.out 5
                    have hfz57_6 := blk_frozen BK311.out 6
                    go_wp2_with (first | ((with_reducible refine gate_callee (f := 59) rfl ?_); refine goesL_ (some 52) rfl rfl Tryd.func59 (by kernel_rfl) rfl #[.int .i64 (rd l0_6 x44_2), .int .i64 0, .int .i64 a0_0] rfl qa ?_; (with_reducible refine (impl_within.calls (rd l0_6 x44_2) 0 a0_0 false _ A43.out).mono ?_); rintro e w' ⟨rfl, ⟨nd, rfl⟩⟩; refine ⟨_, rfl, ?_⟩))
                    go_ret
                    exact ⟨qe, qw HB.out⟩
                · rw [if_neg c42] at H
                  exact absurd H (by simp)
              · rw [if_neg c41] at H
                exact absurd H (by simp)
            · rw [if_neg c40] at H
              have c40b0 : decide (x44_2 < (l0_6.length : Int)) = false := decide_eq_false c40
              clear c40
              obtain rfl := Option.some.inj H
              go_wp2
              go_ret
              exact ⟨qe, qw HB.out⟩

end Go.Proofs.YtkeoifkdejnpfaaDoor.G
