-- by gprint.py (a program of this session's own), over the kit's print.py; Lean checks it
import Derived.Test.YtkeoifkdejnpfaaDoorSlFnDropGx0
import Derived.Test.YtkeoifkdejnpfaaDoorSlFnDropGx13
import Derived.Test.YtkeoifkdejnpfaaDoorSlFnDropGx16
namespace Go.Proofs.YtkeoifkdejnpfaaDoor.G
open Go.RowKit Go.Proofs.YtkeoifkdejnpfaaDoorW.PrintWords Go.Proofs.YtkeoifkdejnpfaaDoorW.PrintLast Go.Proofs.YtkeoifkdejnpfaaDoorW.PrintMore
attribute [local go_sem] max2_int min2_int max_two min_two max_three min_three max_four min_four   -- for this text's walks alone
set_option linter.unusedVariables false
set_option linter.unusedSimpArgs false

/-! ### impl_BalanceOf: function 26 -/
def impl_BalanceOf.f (k : Nat) (a0_0 : Int) (a0_1 : Int) (a0_2 : Int) (a0_3 : Int) (a0_4 : Int) (a0_5 : Int) (l0_6 : List Int) (a1_0 : Int) (a1_1 : Int) (a1_2 : Int) (a1_3 : Int) (a1_4 : Int) (a1_5 : Int) : Option (Int × Int) := (impl_SourceOK.f k a0_0 a0_1 a0_2 a0_3 a0_4 a0_5 l0_6 a1_0 a1_1 a1_2 a1_3 a1_4 a1_5).bind fun t504 => (if t504 = true then (some (wrap64 ((wrap64 ((wrap64 ((wrap64 ((wrap64 (a0_1 - a0_2)) - a0_3)) - a0_4)) - a0_5)) - (l0_6.length : Int)), 0)) else (some (0, 1)))
theorem impl_BalanceOf.mono : ∀ a0 a1 a2 a3 a4 a5 a6 a7 a8 a9 a10 a11 a12 k, LeO (impl_BalanceOf.f k a0 a1 a2 a3 a4 a5 a6 a7 a8 a9 a10 a11 a12) (impl_BalanceOf.f (k + 1) a0 a1 a2 a3 a4 a5 a6 a7 a8 a9 a10 a11 a12) := by
  intro a0 a1 a2 a3 a4 a5 a6 a7 a8 a9 a10 a11 a12 k
  unfold impl_BalanceOf.f
  repeat' first
      | (with_reducible exact impl_SourceOK.mono _ _ _ _ _ _ _ _ _ _ _ _ _ _)
      | (with_reducible exact LeO.refl _)
      | (with_reducible exact LeO.none _)
      | (with_reducible refine LeO.ite ?_ ?_)
      | (with_reducible refine LeO.bind ?_ (fun _ => ?_))
      | exact impl_SourceOK.mono _ _ _ _ _ _ _ _ _ _ _ _ _ _
      | exact LeO.none _
      | refine LeO.ite ?_ ?_
      | refine LeO.bind ?_ (fun _ => ?_)
set_option maxHeartbeats 8000000 in
set_option maxRecDepth 100000 in
theorem impl_BalanceOf.calls (k : Nat) (a0_0 : Int) (a0_1 : Int) (a0_2 : Int) (a0_3 : Int) (a0_4 : Int) (a0_5 : Int) (A0_6 : Option Addr) (c0_6 : Nat) (l0_6 : List Int) (a1_0 : Int) (a1_1 : Int) (a1_2 : Int) (a1_3 : Int) (a1_4 : Int) (a1_5 : Int) (r1 : Int) (r2 : Int) (w : World) (hr0_6 : Kd.C (Kd.int .i64) w A0_6 l0_6.length l0_6) (hc0_6 : l0_6.length ≤ c0_6) (h : impl_BalanceOf.f k a0_0 a0_1 a0_2 a0_3 a0_4 a0_5 l0_6 a1_0 a1_1 a1_2 a1_3 a1_4 a1_5 = some (r1, r2)) :
    Calls Tryd.prog 26 #[.agg #[.int .i64 a0_0, .int .i64 a0_1, .int .i64 a0_2, .int .i64 a0_3, .int .i64 a0_4, .int .i64 a0_5, .slice A0_6 l0_6.length c0_6], .agg #[.int .i64 a1_0, .int .i64 a1_1, .int .i64 a1_2, .int .i64 a1_3, .int .i64 a1_4, .int .i64 a1_5]] w fun e w' => e = .returned (.tuple #[.int .i64 r1, .int .i64 r2]) ∧ Below w.heap.size w w' := by
  have hu46 := Tryd.underlying46
  have hu38 := Tryd.underlying38
  have HR0_6 := Aside0.mk hr0_6
  have HC0_6 := Aside0.mk hc0_6
  clear hr0_6 hc0_6
  have HB := Aside0.mk (Below.refl w.heap.size w)
  have H : ((impl_SourceOK.f k a0_0 a0_1 a0_2 a0_3 a0_4 a0_5 l0_6 a1_0 a1_1 a1_2 a1_3 a1_4 a1_5).bind fun t504 => (if t504 = true then (some (wrap64 ((wrap64 ((wrap64 ((wrap64 ((wrap64 (a0_1 - a0_2)) - a0_3)) - a0_4)) - a0_5)) - (l0_6.length : Int)), 0)) else (some (0, 1)))) = some (r1, r2) := h
  clear h
  replace H := Option.bind_eq_some_iff.mp H
  obtain ⟨t504, A30, H⟩ := H
  replace H : (if t504 = true then (some (wrap64 ((wrap64 ((wrap64 ((wrap64 ((wrap64 (a0_1 - a0_2)) - a0_3)) - a0_4)) - a0_5)) - (l0_6.length : Int)), 0)) else (some (0, 1))) = some (r1, r2) := H
  have A3 := Aside0.mk A30
  clear A30
  by_cases c4 : t504 = true
  · subst c4
    have H1 : (some (wrap64 ((wrap64 ((wrap64 ((wrap64 ((wrap64 (a0_1 - a0_2)) - a0_3)) - a0_4)) - a0_5)) - (l0_6.length : Int)), 0)) = some (r1, r2) := by rw [if_pos rfl] at H; exact H
    clear H
    have H := H1
    clear H1
    simp only [Option.some.injEq, Prod.mk.injEq] at H
    obtain ⟨rfl, rfl⟩ := H
    go_enter Tryd.func26, Tryd.ntmps26
    go_wp2_with (first | ((with_reducible refine gate_dst (N := 2) rfl ?_); refine box_event ?hg (N := 2) ?hd (cs := #[.int .i64 a0_0, .int .i64 a0_1, .int .i64 a0_2, .int .i64 a0_3, .int .i64 a0_4, .int .i64 a0_5, .slice A0_6 l0_6.length c0_6]) (t := 46) ?hr ?_; (case hd => rfl); (case hg => rfl); (case hr => first | (go_simp; done) | (go_simp; rfl)); intro gb502 hg w5 hbox hb; have n0_ := Aside0.mk (below_step (qw HB.out) hb); have n1_ := Aside0.mk (hbox); have n2_ := Aside0.mk ((by rw [hg]; exact (below_size (qw HB.out)) : w.heap.size ≤ gb502)); have n3_ := Aside0.mk ((by rw [hg]; exact (below_size (qw HB.out)) : w.heap.size ≤ gb502)); clear HB; have HB := n0_; have BK502 := n1_; have GW502 := n2_; have GE502 := n3_; clear n0_ n1_ n2_ n3_; clear hb hbox hg) | ((with_reducible refine gate_dst (N := 3) rfl ?_); refine box_event ?hg (N := 3) ?hd (cs := #[.int .i64 a1_0, .int .i64 a1_1, .int .i64 a1_2, .int .i64 a1_3, .int .i64 a1_4, .int .i64 a1_5]) (t := 38) ?hr ?_; (case hd => rfl); (case hg => rfl); (case hr => first | (go_simp; done) | (go_simp; rfl)); intro gb503 hg w6 hbox hb; have n0_ := Aside0.mk (blk_below (g := gb502) (o := .cells #[.int .i64 a0_0, .int .i64 a0_1, .int .i64 a0_2, .int .i64 a0_3, .int .i64 a0_4, .int .i64 a0_5, .slice A0_6 l0_6.length c0_6] 46 (0, 0)) (qb BK502.out) hb); have n1_ := Aside0.mk (below_step (qw HB.out) hb); have n2_ := Aside0.mk (hbox); have n3_ := Aside0.mk ((by rw [hg]; exact (below_size (qw HB.out)) : w.heap.size ≤ gb503)); have n4_ := Aside0.mk ((by rw [hg]; exact (below_size (qw HB.out)) : w.heap.size ≤ gb503)); have n5_ := Aside0.mk ((by rw [hg]; exact Nat.ne_of_lt (blk_lt (g := gb502) (o := .cells #[.int .i64 a0_0, .int .i64 a0_1, .int .i64 a0_2, .int .i64 a0_3, .int .i64 a0_4, .int .i64 a0_5, .slice A0_6 l0_6.length c0_6] 46 (0, 0)) (qb BK502.out)) : gb502 ≠ gb503)); have n6_ := Aside0.mk ((by rw [hg]; exact Nat.ne_of_gt (blk_lt (g := gb502) (o := .cells #[.int .i64 a0_0, .int .i64 a0_1, .int .i64 a0_2, .int .i64 a0_3, .int .i64 a0_4, .int .i64 a0_5, .slice A0_6 l0_6.length c0_6] 46 (0, 0)) (qb BK502.out)) : gb503 ≠ gb502)); clear BK502; clear HB; have BK502 := n0_; have HB := n1_; have BK503 := n2_; have GW503 := n3_; have GE503 := n4_; have NB502_503 := n5_; have NB503_502 := n6_; clear n0_ n1_ n2_ n3_ n4_ n5_ n6_; clear hb hbox hg; have hnb7 := NB502_503.out; have hnc7 := NB503_502.out; have hcz8_0 : w6.cell? ⟨gb502, 0, none⟩ = some (.int .i64 a0_0) := (blk_cell BK502.out 0).trans rfl; have hcz8_1 : w6.cell? ⟨gb502, 1, none⟩ = some (.int .i64 a0_1) := (blk_cell BK502.out 1).trans rfl; have hcz8_2 : w6.cell? ⟨gb502, 2, none⟩ = some (.int .i64 a0_2) := (blk_cell BK502.out 2).trans rfl; have hcz8_3 : w6.cell? ⟨gb502, 3, none⟩ = some (.int .i64 a0_3) := (blk_cell BK502.out 3).trans rfl; have hcz8_4 : w6.cell? ⟨gb502, 4, none⟩ = some (.int .i64 a0_4) := (blk_cell BK502.out 4).trans rfl; have hcz8_5 : w6.cell? ⟨gb502, 5, none⟩ = some (.int .i64 a0_5) := (blk_cell BK502.out 5).trans rfl; have hcz8_6 : w6.cell? ⟨gb502, 6, none⟩ = some (.slice A0_6 l0_6.length c0_6) := (blk_cell BK502.out 6).trans rfl; have hfz8_0 := blk_frozen BK502.out 0; have hfz8_1 := blk_frozen BK502.out 1; have hfz8_2 := blk_frozen BK502.out 2; have hfz8_3 := blk_frozen BK502.out 3; have hfz8_4 := blk_frozen BK502.out 4; have hfz8_5 := blk_frozen BK502.out 5; have hfz8_6 := blk_frozen BK502.out 6; have hcz9_0 : w6.cell? ⟨gb503, 0, none⟩ = some (.int .i64 a1_0) := (blk_cell BK503.out 0).trans rfl; have hcz9_1 : w6.cell? ⟨gb503, 1, none⟩ = some (.int .i64 a1_1) := (blk_cell BK503.out 1).trans rfl; have hcz9_2 : w6.cell? ⟨gb503, 2, none⟩ = some (.int .i64 a1_2) := (blk_cell BK503.out 2).trans rfl; have hcz9_3 : w6.cell? ⟨gb503, 3, none⟩ = some (.int .i64 a1_3) := (blk_cell BK503.out 3).trans rfl; have hcz9_4 : w6.cell? ⟨gb503, 4, none⟩ = some (.int .i64 a1_4) := (blk_cell BK503.out 4).trans rfl; have hcz9_5 : w6.cell? ⟨gb503, 5, none⟩ = some (.int .i64 a1_5) := (blk_cell BK503.out 5).trans rfl; have hfz9_0 := blk_frozen BK503.out 0; have hfz9_1 := blk_frozen BK503.out 1; have hfz9_2 := blk_frozen BK503.out 2; have hfz9_3 := blk_frozen BK503.out 3; have hfz9_4 := blk_frozen BK503.out 4; have hfz9_5 := blk_frozen BK503.out 5) | ((with_reducible refine gate_callee (f := 44) rfl ?_); refine goesL_ (some 8) rfl rfl Tryd.func44 (by kernel_rfl) rfl #[.agg #[.int .i64 a0_0, .int .i64 a0_1, .int .i64 a0_2, .int .i64 a0_3, .int .i64 a0_4, .int .i64 a0_5, .slice A0_6 l0_6.length c0_6], .agg #[.int .i64 a1_0, .int .i64 a1_1, .int .i64 a1_2, .int .i64 a1_3, .int .i64 a1_4, .int .i64 a1_5]] rfl qa ?_; (with_reducible refine (impl_SourceOK.calls k a0_0 a0_1 a0_2 a0_3 a0_4 a0_5 _ _ l0_6 a1_0 a1_1 a1_2 a1_3 a1_4 a1_5 true _ ?side1 ?side2 A3.out).mono ?_); (case side1 => repeat (first | exact (Kd.C_below HR0_6.out HB.out) | (with_reducible refine Kd.C_alloc ?_ _) | (with_reducible refine Kd.C_drewN ?_ _) | (with_reducible refine Kd.C_drew ?_))); (case side2 => exact HC0_6.out); rintro e w10 ⟨rfl, hb⟩; refine ⟨_, rfl, ?_⟩; have n0_ := Aside0.mk (blk_below (g := gb502) (o := .cells #[.int .i64 a0_0, .int .i64 a0_1, .int .i64 a0_2, .int .i64 a0_3, .int .i64 a0_4, .int .i64 a0_5, .slice A0_6 l0_6.length c0_6] 46 (0, 0)) (qb BK502.out) hb); have n1_ := Aside0.mk (blk_below (g := gb503) (o := .cells #[.int .i64 a1_0, .int .i64 a1_1, .int .i64 a1_2, .int .i64 a1_3, .int .i64 a1_4, .int .i64 a1_5] 38 (0, 0)) (qb BK503.out) hb); have n2_ := Aside0.mk (below_step (qw HB.out) hb); clear BK502; clear BK503; clear HB; have BK502 := n0_; have BK503 := n1_; have HB := n2_; clear n0_ n1_ n2_; (try clear hb); (try clear hb2); (try clear hk); (try clear hi); have hcz11_0 : w10.cell? ⟨gb502, 0, none⟩ = some (.int .i64 a0_0) := (blk_cell BK502.out 0).trans rfl; have hcz11_1 : w10.cell? ⟨gb502, 1, none⟩ = some (.int .i64 a0_1) := (blk_cell BK502.out 1).trans rfl; have hcz11_2 : w10.cell? ⟨gb502, 2, none⟩ = some (.int .i64 a0_2) := (blk_cell BK502.out 2).trans rfl; have hcz11_3 : w10.cell? ⟨gb502, 3, none⟩ = some (.int .i64 a0_3) := (blk_cell BK502.out 3).trans rfl; have hcz11_4 : w10.cell? ⟨gb502, 4, none⟩ = some (.int .i64 a0_4) := (blk_cell BK502.out 4).trans rfl; have hcz11_5 : w10.cell? ⟨gb502, 5, none⟩ = some (.int .i64 a0_5) := (blk_cell BK502.out 5).trans rfl; have hcz11_6 : w10.cell? ⟨gb502, 6, none⟩ = some (.slice A0_6 l0_6.length c0_6) := (blk_cell BK502.out 6).trans rfl; have hfz11_0 := blk_frozen BK502.out 0; have hfz11_1 := blk_frozen BK502.out 1; have hfz11_2 := blk_frozen BK502.out 2; have hfz11_3 := blk_frozen BK502.out 3; have hfz11_4 := blk_frozen BK502.out 4; have hfz11_5 := blk_frozen BK502.out 5; have hfz11_6 := blk_frozen BK502.out 6))
    go_ret2
    exact ⟨qe, qw HB.out⟩
  · replace c4 := Bool.eq_false_iff.mpr c4
    subst c4
    have H1 : (some (0, 1)) = some (r1, r2) := by rw [if_neg (show ¬ (false = true) by decide)] at H; exact H
    clear H
    have H := H1
    clear H1
    simp only [Option.some.injEq, Prod.mk.injEq] at H
    obtain ⟨rfl, rfl⟩ := H
    go_enter Tryd.func26, Tryd.ntmps26
    go_wp2_with (first | ((with_reducible refine gate_dst (N := 2) rfl ?_); refine box_event ?hg (N := 2) ?hd (cs := #[.int .i64 a0_0, .int .i64 a0_1, .int .i64 a0_2, .int .i64 a0_3, .int .i64 a0_4, .int .i64 a0_5, .slice A0_6 l0_6.length c0_6]) (t := 46) ?hr ?_; (case hd => rfl); (case hg => rfl); (case hr => first | (go_simp; done) | (go_simp; rfl)); intro gb502 hg w12 hbox hb; have n0_ := Aside0.mk (below_step (qw HB.out) hb); have n1_ := Aside0.mk (hbox); have n2_ := Aside0.mk ((by rw [hg]; exact (below_size (qw HB.out)) : w.heap.size ≤ gb502)); have n3_ := Aside0.mk ((by rw [hg]; exact (below_size (qw HB.out)) : w.heap.size ≤ gb502)); clear HB; have HB := n0_; have BK502 := n1_; have GW502 := n2_; have GE502 := n3_; clear n0_ n1_ n2_ n3_; clear hb hbox hg) | ((with_reducible refine gate_dst (N := 3) rfl ?_); refine box_event ?hg (N := 3) ?hd (cs := #[.int .i64 a1_0, .int .i64 a1_1, .int .i64 a1_2, .int .i64 a1_3, .int .i64 a1_4, .int .i64 a1_5]) (t := 38) ?hr ?_; (case hd => rfl); (case hg => rfl); (case hr => first | (go_simp; done) | (go_simp; rfl)); intro gb503 hg w13 hbox hb; have n0_ := Aside0.mk (blk_below (g := gb502) (o := .cells #[.int .i64 a0_0, .int .i64 a0_1, .int .i64 a0_2, .int .i64 a0_3, .int .i64 a0_4, .int .i64 a0_5, .slice A0_6 l0_6.length c0_6] 46 (0, 0)) (qb BK502.out) hb); have n1_ := Aside0.mk (below_step (qw HB.out) hb); have n2_ := Aside0.mk (hbox); have n3_ := Aside0.mk ((by rw [hg]; exact (below_size (qw HB.out)) : w.heap.size ≤ gb503)); have n4_ := Aside0.mk ((by rw [hg]; exact (below_size (qw HB.out)) : w.heap.size ≤ gb503)); have n5_ := Aside0.mk ((by rw [hg]; exact Nat.ne_of_lt (blk_lt (g := gb502) (o := .cells #[.int .i64 a0_0, .int .i64 a0_1, .int .i64 a0_2, .int .i64 a0_3, .int .i64 a0_4, .int .i64 a0_5, .slice A0_6 l0_6.length c0_6] 46 (0, 0)) (qb BK502.out)) : gb502 ≠ gb503)); have n6_ := Aside0.mk ((by rw [hg]; exact Nat.ne_of_gt (blk_lt (g := gb502) (o := .cells #[.int .i64 a0_0, .int .i64 a0_1, .int .i64 a0_2, .int .i64 a0_3, .int .i64 a0_4, .int .i64 a0_5, .slice A0_6 l0_6.length c0_6] 46 (0, 0)) (qb BK502.out)) : gb503 ≠ gb502)); clear BK502; clear HB; have BK502 := n0_; have HB := n1_; have BK503 := n2_; have GW503 := n3_; have GE503 := n4_; have NB502_503 := n5_; have NB503_502 := n6_; clear n0_ n1_ n2_ n3_ n4_ n5_ n6_; clear hb hbox hg; have hnb14 := NB502_503.out; have hnc14 := NB503_502.out; have hcz15_0 : w13.cell? ⟨gb502, 0, none⟩ = some (.int .i64 a0_0) := (blk_cell BK502.out 0).trans rfl; have hcz15_1 : w13.cell? ⟨gb502, 1, none⟩ = some (.int .i64 a0_1) := (blk_cell BK502.out 1).trans rfl; have hcz15_2 : w13.cell? ⟨gb502, 2, none⟩ = some (.int .i64 a0_2) := (blk_cell BK502.out 2).trans rfl; have hcz15_3 : w13.cell? ⟨gb502, 3, none⟩ = some (.int .i64 a0_3) := (blk_cell BK502.out 3).trans rfl; have hcz15_4 : w13.cell? ⟨gb502, 4, none⟩ = some (.int .i64 a0_4) := (blk_cell BK502.out 4).trans rfl; have hcz15_5 : w13.cell? ⟨gb502, 5, none⟩ = some (.int .i64 a0_5) := (blk_cell BK502.out 5).trans rfl; have hcz15_6 : w13.cell? ⟨gb502, 6, none⟩ = some (.slice A0_6 l0_6.length c0_6) := (blk_cell BK502.out 6).trans rfl; have hfz15_0 := blk_frozen BK502.out 0; have hfz15_1 := blk_frozen BK502.out 1; have hfz15_2 := blk_frozen BK502.out 2; have hfz15_3 := blk_frozen BK502.out 3; have hfz15_4 := blk_frozen BK502.out 4; have hfz15_5 := blk_frozen BK502.out 5; have hfz15_6 := blk_frozen BK502.out 6; have hcz16_0 : w13.cell? ⟨gb503, 0, none⟩ = some (.int .i64 a1_0) := (blk_cell BK503.out 0).trans rfl; have hcz16_1 : w13.cell? ⟨gb503, 1, none⟩ = some (.int .i64 a1_1) := (blk_cell BK503.out 1).trans rfl; have hcz16_2 : w13.cell? ⟨gb503, 2, none⟩ = some (.int .i64 a1_2) := (blk_cell BK503.out 2).trans rfl; have hcz16_3 : w13.cell? ⟨gb503, 3, none⟩ = some (.int .i64 a1_3) := (blk_cell BK503.out 3).trans rfl; have hcz16_4 : w13.cell? ⟨gb503, 4, none⟩ = some (.int .i64 a1_4) := (blk_cell BK503.out 4).trans rfl; have hcz16_5 : w13.cell? ⟨gb503, 5, none⟩ = some (.int .i64 a1_5) := (blk_cell BK503.out 5).trans rfl; have hfz16_0 := blk_frozen BK503.out 0; have hfz16_1 := blk_frozen BK503.out 1; have hfz16_2 := blk_frozen BK503.out 2; have hfz16_3 := blk_frozen BK503.out 3; have hfz16_4 := blk_frozen BK503.out 4; have hfz16_5 := blk_frozen BK503.out 5) | ((with_reducible refine gate_callee (f := 44) rfl ?_); refine goesL_ (some 8) rfl rfl Tryd.func44 (by kernel_rfl) rfl #[.agg #[.int .i64 a0_0, .int .i64 a0_1, .int .i64 a0_2, .int .i64 a0_3, .int .i64 a0_4, .int .i64 a0_5, .slice A0_6 l0_6.length c0_6], .agg #[.int .i64 a1_0, .int .i64 a1_1, .int .i64 a1_2, .int .i64 a1_3, .int .i64 a1_4, .int .i64 a1_5]] rfl qa ?_; (with_reducible refine (impl_SourceOK.calls k a0_0 a0_1 a0_2 a0_3 a0_4 a0_5 _ _ l0_6 a1_0 a1_1 a1_2 a1_3 a1_4 a1_5 false _ ?side1 ?side2 A3.out).mono ?_); (case side1 => repeat (first | exact (Kd.C_below HR0_6.out HB.out) | (with_reducible refine Kd.C_alloc ?_ _) | (with_reducible refine Kd.C_drewN ?_ _) | (with_reducible refine Kd.C_drew ?_))); (case side2 => exact HC0_6.out); rintro e w17 ⟨rfl, hb⟩; refine ⟨_, rfl, ?_⟩; have n0_ := Aside0.mk (blk_below (g := gb502) (o := .cells #[.int .i64 a0_0, .int .i64 a0_1, .int .i64 a0_2, .int .i64 a0_3, .int .i64 a0_4, .int .i64 a0_5, .slice A0_6 l0_6.length c0_6] 46 (0, 0)) (qb BK502.out) hb); have n1_ := Aside0.mk (blk_below (g := gb503) (o := .cells #[.int .i64 a1_0, .int .i64 a1_1, .int .i64 a1_2, .int .i64 a1_3, .int .i64 a1_4, .int .i64 a1_5] 38 (0, 0)) (qb BK503.out) hb); have n2_ := Aside0.mk (below_step (qw HB.out) hb); clear BK502; clear BK503; clear HB; have BK502 := n0_; have BK503 := n1_; have HB := n2_; clear n0_ n1_ n2_; (try clear hb); (try clear hb2); (try clear hk); (try clear hi)))
    go_ret2
    exact ⟨qe, qw HB.out⟩

/-! ### spec_l10Balance: function 50 -/
def spec_l10Balance.f (a0_0 : Int) (a0_1 : Int) (a0_2 : Int) (a0_3 : Int) (a0_4 : Int) (a0_5 : Int) (l0_6 : List Int) : Option (Int) := some (wrap64 ((wrap64 ((wrap64 ((wrap64 ((wrap64 (a0_1 - a0_2)) - a0_3)) - a0_4)) - a0_5)) - (l0_6.length : Int)))
set_option maxHeartbeats 8000000 in
set_option maxRecDepth 100000 in
theorem spec_l10Balance.calls (a0_0 : Int) (a0_1 : Int) (a0_2 : Int) (a0_3 : Int) (a0_4 : Int) (a0_5 : Int) (A0_6 : Option Addr) (c0_6 : Nat) (l0_6 : List Int) (r : Int) (w : World) (hr0_6 : Kd.C (Kd.int .i64) w A0_6 l0_6.length l0_6) (hc0_6 : l0_6.length ≤ c0_6) (h : spec_l10Balance.f a0_0 a0_1 a0_2 a0_3 a0_4 a0_5 l0_6 = some r) :
    Calls Tryd.prog 50 #[.agg #[.int .i64 a0_0, .int .i64 a0_1, .int .i64 a0_2, .int .i64 a0_3, .int .i64 a0_4, .int .i64 a0_5, .slice A0_6 l0_6.length c0_6]] w fun e w' => e = .returned (.int .i64 r) ∧ Below w.heap.size w w' := by
  have hu46 := Tryd.underlying46
  have HR0_6 := Aside0.mk hr0_6
  have HC0_6 := Aside0.mk hc0_6
  clear hr0_6 hc0_6
  have HB := Aside0.mk (Below.refl w.heap.size w)
  have H : (some (wrap64 ((wrap64 ((wrap64 ((wrap64 ((wrap64 (a0_1 - a0_2)) - a0_3)) - a0_4)) - a0_5)) - (l0_6.length : Int)))) = some r := h
  clear h
  obtain rfl := Option.some.inj H
  go_enter Tryd.func50, Tryd.ntmps50
  go_wp2_with (first | ((with_reducible refine gate_dst (N := 1) rfl ?_); refine box_event ?hg (N := 1) ?hd (cs := #[.int .i64 a0_0, .int .i64 a0_1, .int .i64 a0_2, .int .i64 a0_3, .int .i64 a0_4, .int .i64 a0_5, .slice A0_6 l0_6.length c0_6]) (t := 46) ?hr ?_; (case hd => rfl); (case hg => rfl); (case hr => first | (go_simp; done) | (go_simp; rfl)); intro gb505 hg w2 hbox hb; have n0_ := Aside0.mk (below_step (qw HB.out) hb); have n1_ := Aside0.mk (hbox); have n2_ := Aside0.mk ((by rw [hg]; exact (below_size (qw HB.out)) : w.heap.size ≤ gb505)); have n3_ := Aside0.mk ((by rw [hg]; exact (below_size (qw HB.out)) : w.heap.size ≤ gb505)); clear HB; have HB := n0_; have BK505 := n1_; have GW505 := n2_; have GE505 := n3_; clear n0_ n1_ n2_ n3_; clear hb hbox hg; have hcz3_0 : w2.cell? ⟨gb505, 0, none⟩ = some (.int .i64 a0_0) := (blk_cell BK505.out 0).trans rfl; have hcz3_1 : w2.cell? ⟨gb505, 1, none⟩ = some (.int .i64 a0_1) := (blk_cell BK505.out 1).trans rfl; have hcz3_2 : w2.cell? ⟨gb505, 2, none⟩ = some (.int .i64 a0_2) := (blk_cell BK505.out 2).trans rfl; have hcz3_3 : w2.cell? ⟨gb505, 3, none⟩ = some (.int .i64 a0_3) := (blk_cell BK505.out 3).trans rfl; have hcz3_4 : w2.cell? ⟨gb505, 4, none⟩ = some (.int .i64 a0_4) := (blk_cell BK505.out 4).trans rfl; have hcz3_5 : w2.cell? ⟨gb505, 5, none⟩ = some (.int .i64 a0_5) := (blk_cell BK505.out 5).trans rfl; have hcz3_6 : w2.cell? ⟨gb505, 6, none⟩ = some (.slice A0_6 l0_6.length c0_6) := (blk_cell BK505.out 6).trans rfl; have hfz3_0 := blk_frozen BK505.out 0; have hfz3_1 := blk_frozen BK505.out 1; have hfz3_2 := blk_frozen BK505.out 2; have hfz3_3 := blk_frozen BK505.out 3; have hfz3_4 := blk_frozen BK505.out 4; have hfz3_5 := blk_frozen BK505.out 5; have hfz3_6 := blk_frozen BK505.out 6))
  go_ret
  exact ⟨qe, qw HB.out⟩

/-! ### spec_BalanceOf: function 27 -/
def spec_BalanceOf.f (k : Nat) (a0_0 : Int) (a0_1 : Int) (a0_2 : Int) (a0_3 : Int) (a0_4 : Int) (a0_5 : Int) (l0_6 : List Int) (a1_0 : Int) (a1_1 : Int) (a1_2 : Int) (a1_3 : Int) (a1_4 : Int) (a1_5 : Int) : Option (Int × Int) := (spec_SourceOK.f k a0_0 a0_1 a0_2 a0_3 a0_4 a0_5 l0_6 a1_0 a1_1 a1_2 a1_3 a1_4 a1_5).bind fun t508 => (if t508 = true then ((spec_l10Balance.f a0_0 a0_1 a0_2 a0_3 a0_4 a0_5 l0_6).bind fun t509 => (some (t509, 0))) else (some (0, 1)))
theorem spec_BalanceOf.mono : ∀ a0 a1 a2 a3 a4 a5 a6 a7 a8 a9 a10 a11 a12 k, LeO (spec_BalanceOf.f k a0 a1 a2 a3 a4 a5 a6 a7 a8 a9 a10 a11 a12) (spec_BalanceOf.f (k + 1) a0 a1 a2 a3 a4 a5 a6 a7 a8 a9 a10 a11 a12) := by
  intro a0 a1 a2 a3 a4 a5 a6 a7 a8 a9 a10 a11 a12 k
  unfold spec_BalanceOf.f
  repeat' first
      | (with_reducible exact spec_SourceOK.mono _ _ _ _ _ _ _ _ _ _ _ _ _ _)
      | (with_reducible exact LeO.refl _)
      | (with_reducible exact LeO.none _)
      | (with_reducible refine LeO.ite ?_ ?_)
      | (with_reducible refine LeO.bind ?_ (fun _ => ?_))
      | exact spec_SourceOK.mono _ _ _ _ _ _ _ _ _ _ _ _ _ _
      | exact LeO.none _
      | refine LeO.ite ?_ ?_
      | refine LeO.bind ?_ (fun _ => ?_)
set_option maxHeartbeats 8000000 in
set_option maxRecDepth 100000 in
theorem spec_BalanceOf.calls (k : Nat) (a0_0 : Int) (a0_1 : Int) (a0_2 : Int) (a0_3 : Int) (a0_4 : Int) (a0_5 : Int) (A0_6 : Option Addr) (c0_6 : Nat) (l0_6 : List Int) (a1_0 : Int) (a1_1 : Int) (a1_2 : Int) (a1_3 : Int) (a1_4 : Int) (a1_5 : Int) (r1 : Int) (r2 : Int) (w : World) (hr0_6 : Kd.C (Kd.int .i64) w A0_6 l0_6.length l0_6) (hc0_6 : l0_6.length ≤ c0_6) (h : spec_BalanceOf.f k a0_0 a0_1 a0_2 a0_3 a0_4 a0_5 l0_6 a1_0 a1_1 a1_2 a1_3 a1_4 a1_5 = some (r1, r2)) :
    Calls Tryd.prog 27 #[.agg #[.int .i64 a0_0, .int .i64 a0_1, .int .i64 a0_2, .int .i64 a0_3, .int .i64 a0_4, .int .i64 a0_5, .slice A0_6 l0_6.length c0_6], .agg #[.int .i64 a1_0, .int .i64 a1_1, .int .i64 a1_2, .int .i64 a1_3, .int .i64 a1_4, .int .i64 a1_5]] w fun e w' => e = .returned (.tuple #[.int .i64 r1, .int .i64 r2]) ∧ Below w.heap.size w w' := by
  have hu46 := Tryd.underlying46
  have hu38 := Tryd.underlying38
  have HR0_6 := Aside0.mk hr0_6
  have HC0_6 := Aside0.mk hc0_6
  clear hr0_6 hc0_6
  have HB := Aside0.mk (Below.refl w.heap.size w)
  have H : ((spec_SourceOK.f k a0_0 a0_1 a0_2 a0_3 a0_4 a0_5 l0_6 a1_0 a1_1 a1_2 a1_3 a1_4 a1_5).bind fun t508 => (if t508 = true then ((spec_l10Balance.f a0_0 a0_1 a0_2 a0_3 a0_4 a0_5 l0_6).bind fun t509 => (some (t509, 0))) else (some (0, 1)))) = some (r1, r2) := h
  clear h
  replace H := Option.bind_eq_some_iff.mp H
  obtain ⟨t508, A30, H⟩ := H
  replace H : (if t508 = true then ((spec_l10Balance.f a0_0 a0_1 a0_2 a0_3 a0_4 a0_5 l0_6).bind fun t509 => (some (t509, 0))) else (some (0, 1))) = some (r1, r2) := H
  have A3 := Aside0.mk A30
  clear A30
  by_cases c4 : t508 = true
  · subst c4
    have H1 : ((spec_l10Balance.f a0_0 a0_1 a0_2 a0_3 a0_4 a0_5 l0_6).bind fun t509 => (some (t509, 0))) = some (r1, r2) := by rw [if_pos rfl] at H; exact H
    clear H
    have H := H1
    clear H1
    replace H := Option.bind_eq_some_iff.mp H
    obtain ⟨t509, A50, H⟩ := H
    replace H : (some (t509, 0)) = some (r1, r2) := H
    have A5 := Aside0.mk A50
    clear A50
    simp only [Option.some.injEq, Prod.mk.injEq] at H
    obtain ⟨rfl, rfl⟩ := H
    go_enter Tryd.func27, Tryd.ntmps27
    go_wp2_with (first | ((with_reducible refine gate_dst (N := 2) rfl ?_); refine box_event ?hg (N := 2) ?hd (cs := #[.int .i64 a0_0, .int .i64 a0_1, .int .i64 a0_2, .int .i64 a0_3, .int .i64 a0_4, .int .i64 a0_5, .slice A0_6 l0_6.length c0_6]) (t := 46) ?hr ?_; (case hd => rfl); (case hg => rfl); (case hr => first | (go_simp; done) | (go_simp; rfl)); intro gb506 hg w6 hbox hb; have n0_ := Aside0.mk (below_step (qw HB.out) hb); have n1_ := Aside0.mk (hbox); have n2_ := Aside0.mk ((by rw [hg]; exact (below_size (qw HB.out)) : w.heap.size ≤ gb506)); have n3_ := Aside0.mk ((by rw [hg]; exact (below_size (qw HB.out)) : w.heap.size ≤ gb506)); clear HB; have HB := n0_; have BK506 := n1_; have GW506 := n2_; have GE506 := n3_; clear n0_ n1_ n2_ n3_; clear hb hbox hg) | ((with_reducible refine gate_dst (N := 3) rfl ?_); refine box_event ?hg (N := 3) ?hd (cs := #[.int .i64 a1_0, .int .i64 a1_1, .int .i64 a1_2, .int .i64 a1_3, .int .i64 a1_4, .int .i64 a1_5]) (t := 38) ?hr ?_; (case hd => rfl); (case hg => rfl); (case hr => first | (go_simp; done) | (go_simp; rfl)); intro gb507 hg w7 hbox hb; have n0_ := Aside0.mk (blk_below (g := gb506) (o := .cells #[.int .i64 a0_0, .int .i64 a0_1, .int .i64 a0_2, .int .i64 a0_3, .int .i64 a0_4, .int .i64 a0_5, .slice A0_6 l0_6.length c0_6] 46 (0, 0)) (qb BK506.out) hb); have n1_ := Aside0.mk (below_step (qw HB.out) hb); have n2_ := Aside0.mk (hbox); have n3_ := Aside0.mk ((by rw [hg]; exact (below_size (qw HB.out)) : w.heap.size ≤ gb507)); have n4_ := Aside0.mk ((by rw [hg]; exact (below_size (qw HB.out)) : w.heap.size ≤ gb507)); have n5_ := Aside0.mk ((by rw [hg]; exact Nat.ne_of_lt (blk_lt (g := gb506) (o := .cells #[.int .i64 a0_0, .int .i64 a0_1, .int .i64 a0_2, .int .i64 a0_3, .int .i64 a0_4, .int .i64 a0_5, .slice A0_6 l0_6.length c0_6] 46 (0, 0)) (qb BK506.out)) : gb506 ≠ gb507)); have n6_ := Aside0.mk ((by rw [hg]; exact Nat.ne_of_gt (blk_lt (g := gb506) (o := .cells #[.int .i64 a0_0, .int .i64 a0_1, .int .i64 a0_2, .int .i64 a0_3, .int .i64 a0_4, .int .i64 a0_5, .slice A0_6 l0_6.length c0_6] 46 (0, 0)) (qb BK506.out)) : gb507 ≠ gb506)); clear BK506; clear HB; have BK506 := n0_; have HB := n1_; have BK507 := n2_; have GW507 := n3_; have GE507 := n4_; have NB506_507 := n5_; have NB507_506 := n6_; clear n0_ n1_ n2_ n3_ n4_ n5_ n6_; clear hb hbox hg; have hnb8 := NB506_507.out; have hnc8 := NB507_506.out; have hcz9_0 : w7.cell? ⟨gb506, 0, none⟩ = some (.int .i64 a0_0) := (blk_cell BK506.out 0).trans rfl; have hcz9_1 : w7.cell? ⟨gb506, 1, none⟩ = some (.int .i64 a0_1) := (blk_cell BK506.out 1).trans rfl; have hcz9_2 : w7.cell? ⟨gb506, 2, none⟩ = some (.int .i64 a0_2) := (blk_cell BK506.out 2).trans rfl; have hcz9_3 : w7.cell? ⟨gb506, 3, none⟩ = some (.int .i64 a0_3) := (blk_cell BK506.out 3).trans rfl; have hcz9_4 : w7.cell? ⟨gb506, 4, none⟩ = some (.int .i64 a0_4) := (blk_cell BK506.out 4).trans rfl; have hcz9_5 : w7.cell? ⟨gb506, 5, none⟩ = some (.int .i64 a0_5) := (blk_cell BK506.out 5).trans rfl; have hcz9_6 : w7.cell? ⟨gb506, 6, none⟩ = some (.slice A0_6 l0_6.length c0_6) := (blk_cell BK506.out 6).trans rfl; have hfz9_0 := blk_frozen BK506.out 0; have hfz9_1 := blk_frozen BK506.out 1; have hfz9_2 := blk_frozen BK506.out 2; have hfz9_3 := blk_frozen BK506.out 3; have hfz9_4 := blk_frozen BK506.out 4; have hfz9_5 := blk_frozen BK506.out 5; have hfz9_6 := blk_frozen BK506.out 6; have hcz10_0 : w7.cell? ⟨gb507, 0, none⟩ = some (.int .i64 a1_0) := (blk_cell BK507.out 0).trans rfl; have hcz10_1 : w7.cell? ⟨gb507, 1, none⟩ = some (.int .i64 a1_1) := (blk_cell BK507.out 1).trans rfl; have hcz10_2 : w7.cell? ⟨gb507, 2, none⟩ = some (.int .i64 a1_2) := (blk_cell BK507.out 2).trans rfl; have hcz10_3 : w7.cell? ⟨gb507, 3, none⟩ = some (.int .i64 a1_3) := (blk_cell BK507.out 3).trans rfl; have hcz10_4 : w7.cell? ⟨gb507, 4, none⟩ = some (.int .i64 a1_4) := (blk_cell BK507.out 4).trans rfl; have hcz10_5 : w7.cell? ⟨gb507, 5, none⟩ = some (.int .i64 a1_5) := (blk_cell BK507.out 5).trans rfl; have hfz10_0 := blk_frozen BK507.out 0; have hfz10_1 := blk_frozen BK507.out 1; have hfz10_2 := blk_frozen BK507.out 2; have hfz10_3 := blk_frozen BK507.out 3; have hfz10_4 := blk_frozen BK507.out 4; have hfz10_5 := blk_frozen BK507.out 5) | ((with_reducible refine gate_callee (f := 41) rfl ?_); refine goesL_ (some 8) rfl rfl Tryd.func41 (by kernel_rfl) rfl #[.agg #[.int .i64 a0_0, .int .i64 a0_1, .int .i64 a0_2, .int .i64 a0_3, .int .i64 a0_4, .int .i64 a0_5, .slice A0_6 l0_6.length c0_6], .agg #[.int .i64 a1_0, .int .i64 a1_1, .int .i64 a1_2, .int .i64 a1_3, .int .i64 a1_4, .int .i64 a1_5]] rfl qa ?_; (with_reducible refine (spec_SourceOK.calls k a0_0 a0_1 a0_2 a0_3 a0_4 a0_5 _ _ l0_6 a1_0 a1_1 a1_2 a1_3 a1_4 a1_5 true _ ?side1 ?side2 A3.out).mono ?_); (case side1 => repeat (first | exact (Kd.C_below HR0_6.out HB.out) | (with_reducible refine Kd.C_alloc ?_ _) | (with_reducible refine Kd.C_drewN ?_ _) | (with_reducible refine Kd.C_drew ?_))); (case side2 => exact HC0_6.out); rintro e w11 ⟨rfl, hb⟩; refine ⟨_, rfl, ?_⟩; have n0_ := Aside0.mk (blk_below (g := gb506) (o := .cells #[.int .i64 a0_0, .int .i64 a0_1, .int .i64 a0_2, .int .i64 a0_3, .int .i64 a0_4, .int .i64 a0_5, .slice A0_6 l0_6.length c0_6] 46 (0, 0)) (qb BK506.out) hb); have n1_ := Aside0.mk (blk_below (g := gb507) (o := .cells #[.int .i64 a1_0, .int .i64 a1_1, .int .i64 a1_2, .int .i64 a1_3, .int .i64 a1_4, .int .i64 a1_5] 38 (0, 0)) (qb BK507.out) hb); have n2_ := Aside0.mk (below_step (qw HB.out) hb); clear BK506; clear BK507; clear HB; have BK506 := n0_; have BK507 := n1_; have HB := n2_; clear n0_ n1_ n2_; (try clear hb); (try clear hb2); (try clear hk); (try clear hi); have hcz12_0 : w11.cell? ⟨gb506, 0, none⟩ = some (.int .i64 a0_0) := (blk_cell BK506.out 0).trans rfl; have hcz12_1 : w11.cell? ⟨gb506, 1, none⟩ = some (.int .i64 a0_1) := (blk_cell BK506.out 1).trans rfl; have hcz12_2 : w11.cell? ⟨gb506, 2, none⟩ = some (.int .i64 a0_2) := (blk_cell BK506.out 2).trans rfl; have hcz12_3 : w11.cell? ⟨gb506, 3, none⟩ = some (.int .i64 a0_3) := (blk_cell BK506.out 3).trans rfl; have hcz12_4 : w11.cell? ⟨gb506, 4, none⟩ = some (.int .i64 a0_4) := (blk_cell BK506.out 4).trans rfl; have hcz12_5 : w11.cell? ⟨gb506, 5, none⟩ = some (.int .i64 a0_5) := (blk_cell BK506.out 5).trans rfl; have hcz12_6 : w11.cell? ⟨gb506, 6, none⟩ = some (.slice A0_6 l0_6.length c0_6) := (blk_cell BK506.out 6).trans rfl; have hfz12_0 := blk_frozen BK506.out 0; have hfz12_1 := blk_frozen BK506.out 1; have hfz12_2 := blk_frozen BK506.out 2; have hfz12_3 := blk_frozen BK506.out 3; have hfz12_4 := blk_frozen BK506.out 4; have hfz12_5 := blk_frozen BK506.out 5; have hfz12_6 := blk_frozen BK506.out 6) | ((with_reducible refine gate_callee (f := 50) rfl ?_); refine goesL_ (some 11) rfl rfl Tryd.func50 (by kernel_rfl) rfl #[.agg #[.int .i64 a0_0, .int .i64 a0_1, .int .i64 a0_2, .int .i64 a0_3, .int .i64 a0_4, .int .i64 a0_5, .slice A0_6 l0_6.length c0_6]] rfl qa ?_; (with_reducible refine (spec_l10Balance.calls a0_0 a0_1 a0_2 a0_3 a0_4 a0_5 _ _ l0_6 t509 _ ?side1 ?side2 A5.out).mono ?_); (case side1 => repeat (first | exact (Kd.C_below HR0_6.out HB.out) | (with_reducible refine Kd.C_alloc ?_ _) | (with_reducible refine Kd.C_drewN ?_ _) | (with_reducible refine Kd.C_drew ?_))); (case side2 => exact HC0_6.out); rintro e w13 ⟨rfl, hb⟩; refine ⟨_, rfl, ?_⟩; have n0_ := Aside0.mk (blk_below (g := gb506) (o := .cells #[.int .i64 a0_0, .int .i64 a0_1, .int .i64 a0_2, .int .i64 a0_3, .int .i64 a0_4, .int .i64 a0_5, .slice A0_6 l0_6.length c0_6] 46 (0, 0)) (qb BK506.out) hb); have n1_ := Aside0.mk (blk_below (g := gb507) (o := .cells #[.int .i64 a1_0, .int .i64 a1_1, .int .i64 a1_2, .int .i64 a1_3, .int .i64 a1_4, .int .i64 a1_5] 38 (0, 0)) (qb BK507.out) hb); have n2_ := Aside0.mk (below_step (qw HB.out) hb); clear BK506; clear BK507; clear HB; have BK506 := n0_; have BK507 := n1_; have HB := n2_; clear n0_ n1_ n2_; (try clear hb); (try clear hb2); (try clear hk); (try clear hi)))
    go_ret2
    exact ⟨qe, qw HB.out⟩
  · replace c4 := Bool.eq_false_iff.mpr c4
    subst c4
    have H1 : (some (0, 1)) = some (r1, r2) := by rw [if_neg (show ¬ (false = true) by decide)] at H; exact H
    clear H
    have H := H1
    clear H1
    simp only [Option.some.injEq, Prod.mk.injEq] at H
    obtain ⟨rfl, rfl⟩ := H
    go_enter Tryd.func27, Tryd.ntmps27
    go_wp2_with (first | ((with_reducible refine gate_dst (N := 2) rfl ?_); refine box_event ?hg (N := 2) ?hd (cs := #[.int .i64 a0_0, .int .i64 a0_1, .int .i64 a0_2, .int .i64 a0_3, .int .i64 a0_4, .int .i64 a0_5, .slice A0_6 l0_6.length c0_6]) (t := 46) ?hr ?_; (case hd => rfl); (case hg => rfl); (case hr => first | (go_simp; done) | (go_simp; rfl)); intro gb506 hg w14 hbox hb; have n0_ := Aside0.mk (below_step (qw HB.out) hb); have n1_ := Aside0.mk (hbox); have n2_ := Aside0.mk ((by rw [hg]; exact (below_size (qw HB.out)) : w.heap.size ≤ gb506)); have n3_ := Aside0.mk ((by rw [hg]; exact (below_size (qw HB.out)) : w.heap.size ≤ gb506)); clear HB; have HB := n0_; have BK506 := n1_; have GW506 := n2_; have GE506 := n3_; clear n0_ n1_ n2_ n3_; clear hb hbox hg) | ((with_reducible refine gate_dst (N := 3) rfl ?_); refine box_event ?hg (N := 3) ?hd (cs := #[.int .i64 a1_0, .int .i64 a1_1, .int .i64 a1_2, .int .i64 a1_3, .int .i64 a1_4, .int .i64 a1_5]) (t := 38) ?hr ?_; (case hd => rfl); (case hg => rfl); (case hr => first | (go_simp; done) | (go_simp; rfl)); intro gb507 hg w15 hbox hb; have n0_ := Aside0.mk (blk_below (g := gb506) (o := .cells #[.int .i64 a0_0, .int .i64 a0_1, .int .i64 a0_2, .int .i64 a0_3, .int .i64 a0_4, .int .i64 a0_5, .slice A0_6 l0_6.length c0_6] 46 (0, 0)) (qb BK506.out) hb); have n1_ := Aside0.mk (below_step (qw HB.out) hb); have n2_ := Aside0.mk (hbox); have n3_ := Aside0.mk ((by rw [hg]; exact (below_size (qw HB.out)) : w.heap.size ≤ gb507)); have n4_ := Aside0.mk ((by rw [hg]; exact (below_size (qw HB.out)) : w.heap.size ≤ gb507)); have n5_ := Aside0.mk ((by rw [hg]; exact Nat.ne_of_lt (blk_lt (g := gb506) (o := .cells #[.int .i64 a0_0, .int .i64 a0_1, .int .i64 a0_2, .int .i64 a0_3, .int .i64 a0_4, .int .i64 a0_5, .slice A0_6 l0_6.length c0_6] 46 (0, 0)) (qb BK506.out)) : gb506 ≠ gb507)); have n6_ := Aside0.mk ((by rw [hg]; exact Nat.ne_of_gt (blk_lt (g := gb506) (o := .cells #[.int .i64 a0_0, .int .i64 a0_1, .int .i64 a0_2, .int .i64 a0_3, .int .i64 a0_4, .int .i64 a0_5, .slice A0_6 l0_6.length c0_6] 46 (0, 0)) (qb BK506.out)) : gb507 ≠ gb506)); clear BK506; clear HB; have BK506 := n0_; have HB := n1_; have BK507 := n2_; have GW507 := n3_; have GE507 := n4_; have NB506_507 := n5_; have NB507_506 := n6_; clear n0_ n1_ n2_ n3_ n4_ n5_ n6_; clear hb hbox hg; have hnb16 := NB506_507.out; have hnc16 := NB507_506.out; have hcz17_0 : w15.cell? ⟨gb506, 0, none⟩ = some (.int .i64 a0_0) := (blk_cell BK506.out 0).trans rfl; have hcz17_1 : w15.cell? ⟨gb506, 1, none⟩ = some (.int .i64 a0_1) := (blk_cell BK506.out 1).trans rfl; have hcz17_2 : w15.cell? ⟨gb506, 2, none⟩ = some (.int .i64 a0_2) := (blk_cell BK506.out 2).trans rfl; have hcz17_3 : w15.cell? ⟨gb506, 3, none⟩ = some (.int .i64 a0_3) := (blk_cell BK506.out 3).trans rfl; have hcz17_4 : w15.cell? ⟨gb506, 4, none⟩ = some (.int .i64 a0_4) := (blk_cell BK506.out 4).trans rfl; have hcz17_5 : w15.cell? ⟨gb506, 5, none⟩ = some (.int .i64 a0_5) := (blk_cell BK506.out 5).trans rfl; have hcz17_6 : w15.cell? ⟨gb506, 6, none⟩ = some (.slice A0_6 l0_6.length c0_6) := (blk_cell BK506.out 6).trans rfl; have hfz17_0 := blk_frozen BK506.out 0; have hfz17_1 := blk_frozen BK506.out 1; have hfz17_2 := blk_frozen BK506.out 2; have hfz17_3 := blk_frozen BK506.out 3; have hfz17_4 := blk_frozen BK506.out 4; have hfz17_5 := blk_frozen BK506.out 5; have hfz17_6 := blk_frozen BK506.out 6; have hcz18_0 : w15.cell? ⟨gb507, 0, none⟩ = some (.int .i64 a1_0) := (blk_cell BK507.out 0).trans rfl; have hcz18_1 : w15.cell? ⟨gb507, 1, none⟩ = some (.int .i64 a1_1) := (blk_cell BK507.out 1).trans rfl; have hcz18_2 : w15.cell? ⟨gb507, 2, none⟩ = some (.int .i64 a1_2) := (blk_cell BK507.out 2).trans rfl; have hcz18_3 : w15.cell? ⟨gb507, 3, none⟩ = some (.int .i64 a1_3) := (blk_cell BK507.out 3).trans rfl; have hcz18_4 : w15.cell? ⟨gb507, 4, none⟩ = some (.int .i64 a1_4) := (blk_cell BK507.out 4).trans rfl; have hcz18_5 : w15.cell? ⟨gb507, 5, none⟩ = some (.int .i64 a1_5) := (blk_cell BK507.out 5).trans rfl; have hfz18_0 := blk_frozen BK507.out 0; have hfz18_1 := blk_frozen BK507.out 1; have hfz18_2 := blk_frozen BK507.out 2; have hfz18_3 := blk_frozen BK507.out 3; have hfz18_4 := blk_frozen BK507.out 4; have hfz18_5 := blk_frozen BK507.out 5) | ((with_reducible refine gate_callee (f := 41) rfl ?_); refine goesL_ (some 8) rfl rfl Tryd.func41 (by kernel_rfl) rfl #[.agg #[.int .i64 a0_0, .int .i64 a0_1, .int .i64 a0_2, .int .i64 a0_3, .int .i64 a0_4, .int .i64 a0_5, .slice A0_6 l0_6.length c0_6], .agg #[.int .i64 a1_0, .int .i64 a1_1, .int .i64 a1_2, .int .i64 a1_3, .int .i64 a1_4, .int .i64 a1_5]] rfl qa ?_; (with_reducible refine (spec_SourceOK.calls k a0_0 a0_1 a0_2 a0_3 a0_4 a0_5 _ _ l0_6 a1_0 a1_1 a1_2 a1_3 a1_4 a1_5 false _ ?side1 ?side2 A3.out).mono ?_); (case side1 => repeat (first | exact (Kd.C_below HR0_6.out HB.out) | (with_reducible refine Kd.C_alloc ?_ _) | (with_reducible refine Kd.C_drewN ?_ _) | (with_reducible refine Kd.C_drew ?_))); (case side2 => exact HC0_6.out); rintro e w19 ⟨rfl, hb⟩; refine ⟨_, rfl, ?_⟩; have n0_ := Aside0.mk (blk_below (g := gb506) (o := .cells #[.int .i64 a0_0, .int .i64 a0_1, .int .i64 a0_2, .int .i64 a0_3, .int .i64 a0_4, .int .i64 a0_5, .slice A0_6 l0_6.length c0_6] 46 (0, 0)) (qb BK506.out) hb); have n1_ := Aside0.mk (blk_below (g := gb507) (o := .cells #[.int .i64 a1_0, .int .i64 a1_1, .int .i64 a1_2, .int .i64 a1_3, .int .i64 a1_4, .int .i64 a1_5] 38 (0, 0)) (qb BK507.out) hb); have n2_ := Aside0.mk (below_step (qw HB.out) hb); clear BK506; clear BK507; clear HB; have BK506 := n0_; have BK507 := n1_; have HB := n2_; clear n0_ n1_ n2_; (try clear hb); (try clear hb2); (try clear hk); (try clear hi)))
    go_ret2
    exact ⟨qe, qw HB.out⟩

/-! ### slices_Clone_int: function 68 (given) -/
def slices_Clone_int.f (l0 : List Int) : Option (List Int) := if l0.length * 8 ≤ 140737488355328 then some l0 else none
theorem slices_Clone_int.calls (A0 : Option Addr) (c0 : Nat) (l0 : List Int) (r : List Int) (w : World) (hr0 : Kd.C (Kd.int .i64) w A0 l0.length l0) (hc0 : l0.length ≤ c0) (h : slices_Clone_int.f l0 = some r) :
    Calls Tryd.prog 68 #[.slice A0 l0.length c0] w fun e w' => ∃ v0_ : Value, e = .returned (v0_) ∧ Kd.R (Kd.int .i64) 3 w' w.heap.size (fun _ => True) v0_ r ∧ Below w.heap.size w w' := by
  unfold slices_Clone_int.f at h
  split at h
  · rename_i hi
    obtain rfl := Option.some.inj h
    rcases Nat.eq_zero_or_pos l0.length with h0 | h0
    · obtain rfl : l0 = [] := List.length_eq_zero_iff.mp h0
      cases A0 with
      | none => exact (Tryd.slices_Clone_int_nil _ c0 w).mono fun e w' he => ⟨_, he.1, Kd.R_nil _ _ _ _ _, he.2 ▸ Below.refl _ _⟩
      | some a => exact (Tryd.slices_Clone_int_zero a c0 w).mono fun e w' ⟨v, e1, e2, _, e4⟩ => ⟨v, e1, Kd.R_of_own e2 (fun _ _ => trivial), e4⟩
    · obtain ⟨ad, rfl, hc⟩ := GivenW.C_int_at hr0 0 (by omega) (by omega)
      obtain ⟨bk, o, sp⟩ := ad
      have hsp : sp = none := by
        unfold World.cell? Addr.add at hc
        cases sp with
        | none => rfl
        | some s => simp at hc; split at hc <;> simp_all
      subst hsp
      refine (Tryd.slices_Clone_int bk o l0.length c0 l0 w (Nat.le_refl _) hi (fun j hj => ?_)).mono fun e w' ⟨v, e1, e2, _, e4⟩ => ⟨v, e1, Kd.R_of_own (by rw [List.take_length] at e2; exact e2) (fun _ _ => trivial), e4⟩
      obtain ⟨ad2, e2, hc2⟩ := GivenW.C_int_at hr0 (j : Int) (by omega) (by omega)
      obtain rfl := Option.some.inj e2
      have e3 : rd l0 (j : Int) = l0.getD j 0 := by unfold rd; rw [Int.toNat_natCast]
      rw [e3, Int.toNat_natCast] at hc2
      cases j with
      | zero => exact hc2
      | succ j => simpa [Addr.add] using hc2
  · cases h

/-! ### impl_copySource: function 51 -/
def impl_copySource.f (a0_0 : Int) (a0_1 : Int) (a0_2 : Int) (a0_3 : Int) (a0_4 : Int) (a0_5 : Int) (l0_6 : List Int) : Option (Int × Int × Int × Int × Int × Int × List Int) := (slices_Clone_int.f l0_6).bind fun t512 => (some (a0_0, a0_1, a0_2, a0_3, a0_4, a0_5, t512))
set_option maxHeartbeats 8000000 in
set_option maxRecDepth 100000 in
theorem impl_copySource.calls (a0_0 : Int) (a0_1 : Int) (a0_2 : Int) (a0_3 : Int) (a0_4 : Int) (a0_5 : Int) (A0_6 : Option Addr) (c0_6 : Nat) (l0_6 : List Int) (r1 : Int) (r2 : Int) (r3 : Int) (r4 : Int) (r5 : Int) (r6 : Int) (r7 : List Int) (w : World) (hr0_6 : Kd.C (Kd.int .i64) w A0_6 l0_6.length l0_6) (hc0_6 : l0_6.length ≤ c0_6) (h : impl_copySource.f a0_0 a0_1 a0_2 a0_3 a0_4 a0_5 l0_6 = some (r1, r2, r3, r4, r5, r6, r7)) :
    Calls Tryd.prog 51 #[.agg #[.int .i64 a0_0, .int .i64 a0_1, .int .i64 a0_2, .int .i64 a0_3, .int .i64 a0_4, .int .i64 a0_5, .slice A0_6 l0_6.length c0_6]] w fun e w' => ∃ v6_ : Value, e = .returned (.agg #[.int .i64 r1, .int .i64 r2, .int .i64 r3, .int .i64 r4, .int .i64 r5, .int .i64 r6, v6_]) ∧ Kd.R (Kd.int .i64) 3 w' w.heap.size (fun _ => True) v6_ r7 ∧ Below w.heap.size w w' := by
  have hu46 := Tryd.underlying46
  have HR0_6 := Aside0.mk hr0_6
  have HC0_6 := Aside0.mk hc0_6
  clear hr0_6 hc0_6
  have HB := Aside0.mk (Below.refl w.heap.size w)
  have H : ((slices_Clone_int.f l0_6).bind fun t512 => (some (a0_0, a0_1, a0_2, a0_3, a0_4, a0_5, t512))) = some (r1, r2, r3, r4, r5, r6, r7) := h
  clear h
  replace H := Option.bind_eq_some_iff.mp H
  obtain ⟨t512, A20, H⟩ := H
  replace H : (some (a0_0, a0_1, a0_2, a0_3, a0_4, a0_5, t512)) = some (r1, r2, r3, r4, r5, r6, r7) := H
  have A2 := Aside0.mk A20
  clear A20
  simp only [Option.some.injEq, Prod.mk.injEq] at H
  obtain ⟨rfl, rfl, rfl, rfl, rfl, rfl, rfl⟩ := H
  go_enter Tryd.func51, Tryd.ntmps51
  go_wp2_with (first | ((with_reducible refine gate_dst (N := 1) rfl ?_); refine box_event ?hg (N := 1) ?hd (cs := #[.int .i64 a0_0, .int .i64 a0_1, .int .i64 a0_2, .int .i64 a0_3, .int .i64 a0_4, .int .i64 a0_5, .slice A0_6 l0_6.length c0_6]) (t := 46) ?hr ?_; (case hd => rfl); (case hg => rfl); (case hr => first | (go_simp; done) | (go_simp; rfl)); intro gb510 hg w3 hbox hb; have n0_ := Aside0.mk (below_step (qw HB.out) hb); have n1_ := Aside0.mk (hbox); have n2_ := Aside0.mk ((by rw [hg]; exact (below_size (qw HB.out)) : w.heap.size ≤ gb510)); have n3_ := Aside0.mk ((by rw [hg]; exact (below_size (qw HB.out)) : w.heap.size ≤ gb510)); clear HB; have HB := n0_; have BK510 := n1_; have GW510 := n2_; have GE510 := n3_; clear n0_ n1_ n2_ n3_; clear hb hbox hg) | ((with_reducible refine gate_dst (N := 2) rfl ?_); refine box_event ?hg (N := 2) ?hd (cs := #[.int .i64 0, .int .i64 0, .int .i64 0, .int .i64 0, .int .i64 0, .int .i64 0, .slice none 0 0]) (t := 46) ?hr ?_; (case hd => rfl); (case hg => rfl); (case hr => first | (go_simp; done) | (go_simp; rfl)); intro gb511 hg w4 hbox hb; have n0_ := Aside0.mk (blk_below (g := gb510) (o := .cells #[.int .i64 a0_0, .int .i64 a0_1, .int .i64 a0_2, .int .i64 a0_3, .int .i64 a0_4, .int .i64 a0_5, .slice A0_6 l0_6.length c0_6] 46 (0, 0)) (qb BK510.out) hb); have n1_ := Aside0.mk (below_step (qw HB.out) hb); have n2_ := Aside0.mk (hbox); have n3_ := Aside0.mk ((by rw [hg]; exact (below_size (qw HB.out)) : w.heap.size ≤ gb511)); have n4_ := Aside0.mk ((by rw [hg]; exact (below_size (qw HB.out)) : w.heap.size ≤ gb511)); have n5_ := Aside0.mk ((by rw [hg]; exact Nat.ne_of_lt (blk_lt (g := gb510) (o := .cells #[.int .i64 a0_0, .int .i64 a0_1, .int .i64 a0_2, .int .i64 a0_3, .int .i64 a0_4, .int .i64 a0_5, .slice A0_6 l0_6.length c0_6] 46 (0, 0)) (qb BK510.out)) : gb510 ≠ gb511)); have n6_ := Aside0.mk ((by rw [hg]; exact Nat.ne_of_gt (blk_lt (g := gb510) (o := .cells #[.int .i64 a0_0, .int .i64 a0_1, .int .i64 a0_2, .int .i64 a0_3, .int .i64 a0_4, .int .i64 a0_5, .slice A0_6 l0_6.length c0_6] 46 (0, 0)) (qb BK510.out)) : gb511 ≠ gb510)); clear BK510; clear HB; have BK510 := n0_; have HB := n1_; have BK511 := n2_; have GW511 := n3_; have GE511 := n4_; have NB510_511 := n5_; have NB511_510 := n6_; clear n0_ n1_ n2_ n3_ n4_ n5_ n6_; clear hb hbox hg; have hnb5 := NB510_511.out; have hnc5 := NB511_510.out; have hcz6_0 : w4.cell? ⟨gb510, 0, none⟩ = some (.int .i64 a0_0) := (blk_cell BK510.out 0).trans rfl; have hcz6_1 : w4.cell? ⟨gb510, 1, none⟩ = some (.int .i64 a0_1) := (blk_cell BK510.out 1).trans rfl; have hcz6_2 : w4.cell? ⟨gb510, 2, none⟩ = some (.int .i64 a0_2) := (blk_cell BK510.out 2).trans rfl; have hcz6_3 : w4.cell? ⟨gb510, 3, none⟩ = some (.int .i64 a0_3) := (blk_cell BK510.out 3).trans rfl; have hcz6_4 : w4.cell? ⟨gb510, 4, none⟩ = some (.int .i64 a0_4) := (blk_cell BK510.out 4).trans rfl; have hcz6_5 : w4.cell? ⟨gb510, 5, none⟩ = some (.int .i64 a0_5) := (blk_cell BK510.out 5).trans rfl; have hcz6_6 : w4.cell? ⟨gb510, 6, none⟩ = some (.slice A0_6 l0_6.length c0_6) := (blk_cell BK510.out 6).trans rfl; have hfz6_0 := blk_frozen BK510.out 0; have hfz6_1 := blk_frozen BK510.out 1; have hfz6_2 := blk_frozen BK510.out 2; have hfz6_3 := blk_frozen BK510.out 3; have hfz6_4 := blk_frozen BK510.out 4; have hfz6_5 := blk_frozen BK510.out 5; have hfz6_6 := blk_frozen BK510.out 6) | ((with_reducible refine gate_callee (f := 68) rfl ?_); refine goesL_ (some 5) rfl rfl Tryd.func68 (by kernel_rfl) rfl #[.slice A0_6 l0_6.length c0_6] rfl qa ?_; (with_reducible refine (slices_Clone_int.calls _ _ l0_6 t512 _ ?side1 ?side2 A2.out).mono ?_); (case side1 => repeat (first | exact (Kd.C_below HR0_6.out HB.out) | (with_reducible refine Kd.C_alloc ?_ _) | (with_reducible refine Kd.C_drewN ?_ _) | (with_reducible refine Kd.C_drew ?_))); (case side2 => exact HC0_6.out); rintro e w7 ⟨v513, rfl, ho0, hb⟩; refine ⟨_, rfl, ?_⟩; have n0_ := Aside0.mk (Kd.R_lower ho0 (below_size (qw HB.out))); have n1_ := Aside0.mk (blk_below (g := gb510) (o := .cells #[.int .i64 a0_0, .int .i64 a0_1, .int .i64 a0_2, .int .i64 a0_3, .int .i64 a0_4, .int .i64 a0_5, .slice A0_6 l0_6.length c0_6] 46 (0, 0)) (qb BK510.out) hb); have n2_ := Aside0.mk (blk_below (g := gb511) (o := .cells #[.int .i64 0, .int .i64 0, .int .i64 0, .int .i64 0, .int .i64 0, .int .i64 0, .slice none 0 0] 46 (0, 0)) (qb BK511.out) hb); have n3_ := Aside0.mk (below_step (qw HB.out) hb); clear BK510; clear BK511; clear HB; have HO514 := n0_; have BK510 := n1_; have BK511 := n2_; have HB := n3_; clear n0_ n1_ n2_ n3_; (try clear hb); (try clear hb2); (try clear hk); (try clear hi); (try clear ho0); obtain ⟨Ao8, co8, eo8⟩ := Kd.R_slice HO514.out; subst eo8; have hcz9_0 : w7.cell? ⟨gb510, 0, none⟩ = some (.int .i64 a0_0) := (blk_cell BK510.out 0).trans rfl; have hcz9_1 : w7.cell? ⟨gb510, 1, none⟩ = some (.int .i64 a0_1) := (blk_cell BK510.out 1).trans rfl; have hcz9_2 : w7.cell? ⟨gb510, 2, none⟩ = some (.int .i64 a0_2) := (blk_cell BK510.out 2).trans rfl; have hcz9_3 : w7.cell? ⟨gb510, 3, none⟩ = some (.int .i64 a0_3) := (blk_cell BK510.out 3).trans rfl; have hcz9_4 : w7.cell? ⟨gb510, 4, none⟩ = some (.int .i64 a0_4) := (blk_cell BK510.out 4).trans rfl; have hcz9_5 : w7.cell? ⟨gb510, 5, none⟩ = some (.int .i64 a0_5) := (blk_cell BK510.out 5).trans rfl; have hcz9_6 : w7.cell? ⟨gb510, 6, none⟩ = some (.slice A0_6 l0_6.length c0_6) := (blk_cell BK510.out 6).trans rfl; have hfz9_0 := blk_frozen BK510.out 0; have hfz9_1 := blk_frozen BK510.out 1; have hfz9_2 := blk_frozen BK510.out 2; have hfz9_3 := blk_frozen BK510.out 3; have hfz9_4 := blk_frozen BK510.out 4; have hfz9_5 := blk_frozen BK510.out 5; have hfz9_6 := blk_frozen BK510.out 6; have hcz10_0 : w7.cell? ⟨gb511, 0, none⟩ = some (.int .i64 0) := (blk_cell BK511.out 0).trans rfl; have hcz10_1 : w7.cell? ⟨gb511, 1, none⟩ = some (.int .i64 0) := (blk_cell BK511.out 1).trans rfl; have hcz10_2 : w7.cell? ⟨gb511, 2, none⟩ = some (.int .i64 0) := (blk_cell BK511.out 2).trans rfl; have hcz10_3 : w7.cell? ⟨gb511, 3, none⟩ = some (.int .i64 0) := (blk_cell BK511.out 3).trans rfl; have hcz10_4 : w7.cell? ⟨gb511, 4, none⟩ = some (.int .i64 0) := (blk_cell BK511.out 4).trans rfl; have hcz10_5 : w7.cell? ⟨gb511, 5, none⟩ = some (.int .i64 0) := (blk_cell BK511.out 5).trans rfl; have hcz10_6 : w7.cell? ⟨gb511, 6, none⟩ = some (.slice none 0 0) := (blk_cell BK511.out 6).trans rfl; have hfz10_0 := blk_frozen BK511.out 0; have hfz10_1 := blk_frozen BK511.out 1; have hfz10_2 := blk_frozen BK511.out 2; have hfz10_3 := blk_frozen BK511.out 3; have hfz10_4 := blk_frozen BK511.out 4; have hfz10_5 := blk_frozen BK511.out 5; have hfz10_6 := blk_frozen BK511.out 6))
  refine bodyPost_ret (results_cell_row rfl _ _ gb511 46 #[.int .i64 a0_0, .int .i64 a0_1, .int .i64 a0_2, .int .i64 a0_3, .int .i64 a0_4, .int .i64 a0_5, .slice Ao8 t512.length co8] (0, 0) _ rfl (by (with_reducible repeat (first | refine blk_drewN ?_ _ | refine blk_drew ?_ | refine blk_alloc ?_ _)); refine blk_put (cs := #[.int .i64 a0_0, .int .i64 a0_1, .int .i64 a0_2, .int .i64 a0_3, .int .i64 a0_4, .int .i64 a0_5, .slice none 0 0]) ?_ 6 _ rfl; (with_reducible repeat (first | refine blk_drewN ?_ _ | refine blk_drew ?_ | refine blk_alloc ?_ _)); refine blk_put (cs := #[.int .i64 a0_0, .int .i64 a0_1, .int .i64 a0_2, .int .i64 a0_3, .int .i64 a0_4, .int .i64 0, .slice none 0 0]) ?_ 5 _ rfl; (with_reducible repeat (first | refine blk_drewN ?_ _ | refine blk_drew ?_ | refine blk_alloc ?_ _)); refine blk_put (cs := #[.int .i64 a0_0, .int .i64 a0_1, .int .i64 a0_2, .int .i64 a0_3, .int .i64 0, .int .i64 0, .slice none 0 0]) ?_ 4 _ rfl; (with_reducible repeat (first | refine blk_drewN ?_ _ | refine blk_drew ?_ | refine blk_alloc ?_ _)); refine blk_put (cs := #[.int .i64 a0_0, .int .i64 a0_1, .int .i64 a0_2, .int .i64 0, .int .i64 0, .int .i64 0, .slice none 0 0]) ?_ 3 _ rfl; (with_reducible repeat (first | refine blk_drewN ?_ _ | refine blk_drew ?_ | refine blk_alloc ?_ _)); refine blk_put (cs := #[.int .i64 a0_0, .int .i64 a0_1, .int .i64 0, .int .i64 0, .int .i64 0, .int .i64 0, .slice none 0 0]) ?_ 2 _ rfl; (with_reducible repeat (first | refine blk_drewN ?_ _ | refine blk_drew ?_ | refine blk_alloc ?_ _)); refine blk_put (cs := #[.int .i64 a0_0, .int .i64 0, .int .i64 0, .int .i64 0, .int .i64 0, .int .i64 0, .slice none 0 0]) ?_ 1 _ rfl; (with_reducible repeat (first | refine blk_drewN ?_ _ | refine blk_drew ?_ | refine blk_alloc ?_ _)); refine blk_put (cs := #[.int .i64 0, .int .i64 0, .int .i64 0, .int .i64 0, .int .i64 0, .int .i64 0, .slice none 0 0]) ?_ 0 _ rfl; (with_reducible repeat (first | refine blk_drewN ?_ _ | refine blk_drew ?_ | refine blk_alloc ?_ _)); refine blk_far ?_ NB511_510.out _; (with_reducible repeat (first | refine blk_drewN ?_ _ | refine blk_drew ?_ | refine blk_alloc ?_ _)); exact BK511.out) Tryd.underlying46 rfl (by kernel_rfl)) rfl ?_
  exact ⟨_, qe, by (with_reducible repeat (first | apply Kd.R_alloc | apply Kd.R_drewN | apply Kd.R_drew)); exact Kd.R_mono (Kd.R_far (p := ⟨gb511, 6, none⟩) (Kd.R_far (p := ⟨gb511, 5, none⟩) (Kd.R_far (p := ⟨gb511, 4, none⟩) (Kd.R_far (p := ⟨gb511, 3, none⟩) (Kd.R_far (p := ⟨gb511, 2, none⟩) (Kd.R_far (p := ⟨gb511, 1, none⟩) (Kd.R_far (p := ⟨gb511, 0, none⟩) (Kd.R_far (p := ⟨gb510, 6, none⟩) (Kd.R_types (Kd.R_types HO514.out BK510.out (by decide)) BK511.out (by decide)) (fun _ hk => hk.1.2) (.slice Ao8 t512.length co8)) (fun _ hk => hk.2) (.int .i64 a0_0)) (fun _ hk => hk.2) (.int .i64 a0_1)) (fun _ hk => hk.2) (.int .i64 a0_2)) (fun _ hk => hk.2) (.int .i64 a0_3)) (fun _ hk => hk.2) (.int .i64 a0_4)) (fun _ hk => hk.2) (.int .i64 a0_5)) (fun _ hk => hk.2) (.slice Ao8 t512.length co8)) (fun _ hk => trivial), qw HB.out⟩

/-! ### impl_DropEvents: function 28 (given) -/
def impl_DropEvents.f (k : Nat) (a0_0 : Int) (a0_1 : Int) (a0_2 : Int) (a0_3 : Int) (a0_4 : Int) (a0_5 : Int) (l0_6 : List Int) (a1_0 : Int) (a1_1 : Int) (a1_2 : Int) (a1_3 : Int) (a1_4 : Int) (a1_5 : Int) (a2 : Bool) : Option (Int × Int × Int × Int × Int × Int × List Int × Int) :=
  (impl_SourceOK.f k a0_0 a0_1 a0_2 a0_3 a0_4 a0_5 l0_6 a1_0 a1_1 a1_2 a1_3 a1_4 a1_5).bind fun t => if t = true then ((slices_Clone_int.f l0_6).bind fun q => some (a0_0, a0_1, a0_2, a0_3, a0_4, mn (wrap64 (a0_5 + wrap64 ((q.length : Int) + (if a2 then 1 else 0)))) 2147483647, [], 0)) else some (0, 0, 0, 0, 0, 0, [], 1)
theorem impl_DropEvents.mono : ∀ a0 a1 a2 a3 a4 a5 a6 a7 a8 a9 a10 a11 a12 a13 k, LeO (impl_DropEvents.f k a0 a1 a2 a3 a4 a5 a6 a7 a8 a9 a10 a11 a12 a13) (impl_DropEvents.f (k + 1) a0 a1 a2 a3 a4 a5 a6 a7 a8 a9 a10 a11 a12 a13) := by
  intro a0 a1 a2 a3 a4 a5 a6 a7 a8 a9 a10 a11 a12 a13 k
  unfold impl_DropEvents.f
  exact LeO.bind (impl_SourceOK.mono _ _ _ _ _ _ _ _ _ _ _ _ _ _) (fun _ => LeO.refl _)
theorem impl_count.calls (p : Addr) (n b : Int) (w : World) (hc : w.cell? p = some (.int .i64 n)) (hf : w.frozen? p = false) :
    Calls Tryd.prog 69 #[.pointer (some p), .int .i64 b] w fun e w' => e = .returned (.tuple #[]) ∧ w' = w.setCell p (.int .i64 (mn (wrap64 (n + b)) 2147483647)) := by
  go_enter Tryd.func69, Tryd.ntmps69
  have hm : ∀ x : Int, mn x 2147483647 = if x ≤ 2147483647 then x else 2147483647 := fun x => by unfold mn; split <;> omega
  rw [hm]
  go_wp2
  · go_end0
    exact ⟨rfl, rfl⟩
  · go_end0
    exact ⟨rfl, rfl⟩
theorem impl_bitS.calls (b : Bool) (w : World) :
    Calls Tryd.prog 70 #[.bool b] w fun e w' => e = .returned (.int .i64 (if b then 1 else 0)) ∧ w' = w := by
  cases b
  · go_enter Tryd.func70, Tryd.ntmps70
    go_wp2
    go_ret
    exact ⟨rfl, rfl⟩
  · go_enter Tryd.func70, Tryd.ntmps70
    go_wp2
    go_ret
    exact ⟨rfl, rfl⟩
set_option maxRecDepth 100000 in
theorem impl_dropS.calls (g : Nat) (a0 a1 a2 a3 a4 a5 : Int) (A : Option Addr) (n c : Nat) (b : Bool) (w : World) (hb : w.heap[g]? = some (.cells #[.int .i64 a0, .int .i64 a1, .int .i64 a2, .int .i64 a3, .int .i64 a4, .int .i64 a5, .slice A n c] 46 (0, 0))) :
    Calls Tryd.prog 52 #[.pointer (some ⟨g, 0, none⟩), .bool b] w fun e w' => e = .returned (.tuple #[]) ∧ ∃ m, w' = ((w.drewN m).setCell ⟨g, 5, none⟩ (.int .i64 (mn (wrap64 (a5 + wrap64 ((n : Int) + (if b then 1 else 0)))) 2147483647))).setCell ⟨g, 6, none⟩ (.slice none 0 0) := by
  have hc5 : w.cell? ⟨g, 5, none⟩ = some (.int .i64 a5) := (blk_cell hb 5).trans rfl
  have hc6 : w.cell? ⟨g, 6, none⟩ = some (.slice A n c) := (blk_cell hb 6).trans rfl
  have hf5 := blk_frozen hb 5
  have hf6 := blk_frozen hb 6
  clear hb
  go_enter Tryd.func52, Tryd.ntmps52
  go_wp2
  refine GivenW.still_tail 11 (by kernel_rfl) (by kernel_rfl) ?_
  simp only [List.take_succ_cons, List.take_zero, List.drop_succ_cons, List.drop_zero]
  iterate 9 still_step
  still_call (impl_bitS.calls b w.drew)
  still_step
  refine wpStill_nil ?_
  go_wp2_with (go_at_call 69; refine (impl_count.calls ⟨g, 5, none⟩ a5 _ w.drew hc5 hf5).mono ?_; rintro e w' ⟨rfl, rfl⟩)
  all_goals
    go_end0
    exact ⟨rfl, 1, rfl⟩
set_option maxHeartbeats 4000000 in
set_option maxRecDepth 100000 in
theorem impl_DropEvents.calls (k : Nat) (a0_0 : Int) (a0_1 : Int) (a0_2 : Int) (a0_3 : Int) (a0_4 : Int) (a0_5 : Int) (A0_6 : Option Addr) (c0_6 : Nat) (l0_6 : List Int) (a1_0 : Int) (a1_1 : Int) (a1_2 : Int) (a1_3 : Int) (a1_4 : Int) (a1_5 : Int) (a2 : Bool) (r1 : Int) (r2 : Int) (r3 : Int) (r4 : Int) (r5 : Int) (r6 : Int) (r7 : List Int) (r8 : Int) (w : World) (hr0_6 : Kd.C (Kd.int .i64) w A0_6 l0_6.length l0_6) (hc0_6 : l0_6.length ≤ c0_6) (h : impl_DropEvents.f k a0_0 a0_1 a0_2 a0_3 a0_4 a0_5 l0_6 a1_0 a1_1 a1_2 a1_3 a1_4 a1_5 a2 = some (r1, r2, r3, r4, r5, r6, r7, r8)) :
    Calls Tryd.prog 28 #[.agg #[.int .i64 a0_0, .int .i64 a0_1, .int .i64 a0_2, .int .i64 a0_3, .int .i64 a0_4, .int .i64 a0_5, .slice A0_6 l0_6.length c0_6], .agg #[.int .i64 a1_0, .int .i64 a1_1, .int .i64 a1_2, .int .i64 a1_3, .int .i64 a1_4, .int .i64 a1_5], .bool a2] w fun e w' => ∃ v6_ : Value, e = .returned (.tuple #[.agg #[.int .i64 r1, .int .i64 r2, .int .i64 r3, .int .i64 r4, .int .i64 r5, .int .i64 r6, v6_], .int .i64 r8]) ∧ Kd.R (Kd.int .i64) 3 w' w.heap.size (fun _ => True) v6_ r7 ∧ Below w.heap.size w w' := by
  have hu46 := Tryd.underlying46
  have hu38 := Tryd.underlying38
  have HR := Aside0.mk hr0_6
  have HC := Aside0.mk hc0_6
  clear hr0_6 hc0_6
  unfold impl_DropEvents.f at h
  obtain ⟨t, ht, h⟩ := Option.bind_eq_some_iff.mp h
  have HT := Aside0.mk ht
  clear ht
  cases t with
  | false =>
    rw [if_neg (by decide)] at h
    simp only [Option.some.injEq, Prod.mk.injEq] at h
    obtain ⟨rfl, rfl, rfl, rfl, rfl, rfl, rfl, rfl⟩ := h
    go_enter Tryd.func28, Tryd.ntmps28
    go_wp2_with (first
      | (go_at_call 44; refine (impl_SourceOK.calls k a0_0 a0_1 a0_2 a0_3 a0_4 a0_5 _ _ l0_6 a1_0 a1_1 a1_2 a1_3 a1_4 a1_5 false _ (Kd.C_alloc (Kd.C_alloc (Kd.C_alloc HR.out _) _) _) HC.out HT.out).mono ?_; rintro e w1 ⟨rfl, hb⟩
         have B2 := Aside0.mk (show w1.heap[w.heap.size + 1 + 1]? = some (.cells #[.int .i64 0, .int .i64 0, .int .i64 0, .int .i64 0, .int .i64 0, .int .i64 0, .slice none 0 0] 46 (0, 0)) from blk_below (by rw [show w.heap.size + 1 + 1 = ((w.alloc _).alloc _).heap.size from by simp]; exact blk_new _ _) hb)
         have HB := Aside0.mk (show Below w.heap.size w w1 from below_step (below_alloc (below_alloc (below_alloc (Below.refl _ _) _) _) _) hb)
         clear hb
         obtain ⟨x0, x1, x2, x3, x4, x5, x6, f0, f1, f2, f3, f4, f5, f6⟩ := GivenW.cells7 B2.out)
      | fail)
    refine bodyPost_ret (results_ct rfl _ _ (w.heap.size + 1 + 1) 46 #[.int .i64 0, .int .i64 0, .int .i64 0, .int .i64 0, .int .i64 0, .int .i64 0, .slice none 0 0] (0, 0) _ rfl (GivenW.put7 _ _ _ _ _ _ _ B2.out) hu46 rfl (by kernel_rfl)) rfl ?_
    exact ⟨_, rfl, Kd.R_nil _ _ _ _ _, GivenW.below7 HB.out (by omega)⟩
  | true =>
    rw [if_pos rfl] at h
    obtain ⟨q, hq, h⟩ := Option.bind_eq_some_iff.mp h
    simp only [Option.some.injEq, Prod.mk.injEq] at h
    obtain ⟨rfl, rfl, rfl, rfl, rfl, rfl, rfl, rfl⟩ := h
    have HQ := Aside0.mk hq
    clear hq
    go_enter Tryd.func28, Tryd.ntmps28
    obtain ⟨M, hM⟩ : ∃ M, mn (wrap64 (a0_5 + wrap64 ((q.length : Int) + (if a2 then 1 else 0)))) 2147483647 = M := ⟨_, rfl⟩
    rw [hM]
    have HM := Aside0.mk hM
    clear hM
    have HCS := Aside0.mk (show impl_copySource.f a0_0 a0_1 a0_2 a0_3 a0_4 a0_5 l0_6 = some (a0_0, a0_1, a0_2, a0_3, a0_4, a0_5, q) from by unfold impl_copySource.f; rw [HQ.out]; rfl)
    go_wp2_with (first
      | (go_at_call 44; refine (impl_SourceOK.calls k a0_0 a0_1 a0_2 a0_3 a0_4 a0_5 _ _ l0_6 a1_0 a1_1 a1_2 a1_3 a1_4 a1_5 true _ (Kd.C_alloc (Kd.C_alloc (Kd.C_alloc HR.out _) _) _) HC.out HT.out).mono ?_; rintro e w1 ⟨rfl, hb⟩
         have B0 := Aside0.mk (show w1.heap[w.heap.size]? = some (.cells #[.int .i64 a0_0, .int .i64 a0_1, .int .i64 a0_2, .int .i64 a0_3, .int .i64 a0_4, .int .i64 a0_5, .slice A0_6 l0_6.length c0_6] 46 (0, 0)) from blk_below (blk_alloc (blk_alloc (blk_new _ _) _) _) hb)
         have B2 := Aside0.mk (show w1.heap[w.heap.size + 1 + 1]? = some (.cells #[.int .i64 0, .int .i64 0, .int .i64 0, .int .i64 0, .int .i64 0, .int .i64 0, .slice none 0 0] 46 (0, 0)) from blk_below (by rw [show w.heap.size + 1 + 1 = ((w.alloc _).alloc _).heap.size from by simp]; exact blk_new _ _) hb)
         have HB := Aside0.mk (show Below w.heap.size w w1 from below_step (below_alloc (below_alloc (below_alloc (Below.refl _ _) _) _) _) hb)
         clear hb
         obtain ⟨x0, x1, x2, x3, x4, x5, x6, f0, f1, f2, f3, f4, f5, f6⟩ := GivenW.cells7 B0.out)
      | (go_at_call 51; refine (impl_copySource.calls a0_0 a0_1 a0_2 a0_3 a0_4 a0_5 _ _ l0_6 a0_0 a0_1 a0_2 a0_3 a0_4 a0_5 q _ (Kd.C_below HR.out HB.out) HC.out HCS.out).mono ?_; rintro e w2 ⟨v6, rfl, ho, hb⟩
         clear x0 x1 x2 x3 x4 x5 x6 f0 f1 f2 f3 f4 f5 f6
         obtain ⟨A6, c6, rfl⟩ := Kd.R_slice ho
         have B2b := Aside0.mk (blk_below B2.out hb)
         have HB2 := Aside0.mk (below_step HB.out hb)
         clear ho hb)
      | (go_at_call 52; refine (impl_dropS.calls w2.heap.size a0_0 a0_1 a0_2 a0_3 a0_4 a0_5 A6 q.length c6 a2 _ (blk_new _ _)).mono ?_; rintro e w3 ⟨rfl, m, hw3⟩
         rw [HM.out] at hw3
         have hlt := blk_lt B2b.out
         have B8 := Aside0.mk (show w3.heap[w2.heap.size]? = some (.cells #[.int .i64 a0_0, .int .i64 a0_1, .int .i64 a0_2, .int .i64 a0_3, .int .i64 a0_4, .int .i64 M, .slice none 0 0] 46 (0, 0)) from by rw [hw3]; exact blk_put (blk_put (blk_drewN (blk_new w2 (.cells #[.int .i64 a0_0, .int .i64 a0_1, .int .i64 a0_2, .int .i64 a0_3, .int .i64 a0_4, .int .i64 a0_5, .slice A6 q.length c6] 46 (0, 0))) m) 5 _ rfl) 6 _ rfl)
         have B2c := Aside0.mk (show w3.heap[w.heap.size + 1 + 1]? = some (.cells #[.int .i64 0, .int .i64 0, .int .i64 0, .int .i64 0, .int .i64 0, .int .i64 0, .slice none 0 0] 46 (0, 0)) from by rw [hw3]; exact (Below.heap_setCell _ ⟨w2.heap.size, 6, none⟩ _ _ (Nat.ne_of_lt hlt)).trans ((Below.heap_setCell _ ⟨w2.heap.size, 5, none⟩ _ _ (Nat.ne_of_lt hlt)).trans (blk_drewN (blk_alloc B2b.out _) m)))
         have HB3 := Aside0.mk (show Below w.heap.size w w3 from by rw [hw3]; exact below_set (below_set (pw_below_drewN (below_alloc HB2.out _) m) HB2.out.size) HB2.out.size)
         clear hw3 hlt
         obtain ⟨x0, x1, x2, x3, x4, x5, x6, f0, f1, f2, f3, f4, f5, f6⟩ := GivenW.cells7 B8.out
         obtain ⟨y0, y1, y2, y3, y4, y5, y6, g0, g1, g2, g3, g4, g5, g6⟩ := GivenW.cells7 B2c.out)
      | fail)
    refine bodyPost_ret (results_ct rfl _ _ (w.heap.size + 1 + 1) 46 #[.int .i64 a0_0, .int .i64 a0_1, .int .i64 a0_2, .int .i64 a0_3, .int .i64 a0_4, .int .i64 M, .slice none 0 0] (0, 0) _ rfl (GivenW.put7 _ _ _ _ _ _ _ B2c.out) hu46 rfl (by kernel_rfl)) rfl ?_
    exact ⟨_, rfl, Kd.R_nil _ _ _ _ _, GivenW.below7 HB3.out (by omega)⟩

/-! ### spec_l10Own: function 53 -/
def spec_l10Own.f (a0_0 : Int) (a0_1 : Int) (a0_2 : Int) (a0_3 : Int) (a0_4 : Int) (a0_5 : Int) (l0_6 : List Int) : Option (Int × Int × Int × Int × Int × Int × List Int) := (some (([] : List Int) : List Int)).bind fun y517 => (if y517.length + l0_6.length < 17592186044416 then (some (a0_0, a0_1, a0_2, a0_3, a0_4, a0_5, (y517 ++ l0_6))) else (none))
set_option maxHeartbeats 8000000 in
set_option maxRecDepth 100000 in
theorem spec_l10Own.calls (a0_0 : Int) (a0_1 : Int) (a0_2 : Int) (a0_3 : Int) (a0_4 : Int) (a0_5 : Int) (A0_6 : Option Addr) (c0_6 : Nat) (l0_6 : List Int) (r1 : Int) (r2 : Int) (r3 : Int) (r4 : Int) (r5 : Int) (r6 : Int) (r7 : List Int) (w : World) (hr0_6 : Kd.C (Kd.int .i64) w A0_6 l0_6.length l0_6) (hc0_6 : l0_6.length ≤ c0_6) (h : spec_l10Own.f a0_0 a0_1 a0_2 a0_3 a0_4 a0_5 l0_6 = some (r1, r2, r3, r4, r5, r6, r7)) :
    Calls Tryd.prog 53 #[.agg #[.int .i64 a0_0, .int .i64 a0_1, .int .i64 a0_2, .int .i64 a0_3, .int .i64 a0_4, .int .i64 a0_5, .slice A0_6 l0_6.length c0_6]] w fun e w' => ∃ v6_ : Value, e = .returned (.agg #[.int .i64 r1, .int .i64 r2, .int .i64 r3, .int .i64 r4, .int .i64 r5, .int .i64 r6, v6_]) ∧ Kd.R (Kd.int .i64) 3 w' w.heap.size (fun _ => True) v6_ r7 ∧ Below w.heap.size w w' := by
  have hu46 := Tryd.underlying46
  have HR0_6 := Aside0.mk hr0_6
  have HC0_6 := Aside0.mk hc0_6
  clear hr0_6 hc0_6
  have HB := Aside0.mk (Below.refl w.heap.size w)
  have H : ((some (([] : List Int) : List Int)).bind fun y517 => (if y517.length + l0_6.length < 17592186044416 then (some (a0_0, a0_1, a0_2, a0_3, a0_4, a0_5, (y517 ++ l0_6))) else (none))) = some (r1, r2, r3, r4, r5, r6, r7) := h
  clear h
  obtain ⟨y517, hy517⟩ : ∃ y_ : List Int, y_ = (([] : List Int)) := ⟨_, rfl⟩
  replace H : (if y517.length + l0_6.length < 17592186044416 then (some (a0_0, a0_1, a0_2, a0_3, a0_4, a0_5, (y517 ++ l0_6))) else (none)) = some (r1, r2, r3, r4, r5, r6, r7) := by first | (rw [hy517]; with_reducible exact H) | (have H2_ := (Option.bind_some _ _).symm.trans H; rw [hy517]; with_reducible exact H2_) | (have H2_ := (Option.bind_some _ _).symm.trans H; with_reducible exact H2_) | with_reducible exact H | (rw [hy517]; exact H) | exact H
  have Ny517 := Aside0.mk hy517
  clear hy517
  by_cases c2 : y517.length + l0_6.length < 17592186044416
  · rw [if_pos c2] at H
    have LMc2 := Aside0.mk c2
    clear c2
    obtain ⟨y520, hy520⟩ : ∃ y_ : List Int, y_ = (y517 ++ l0_6) := ⟨_, rfl⟩
    replace H : (some (a0_0, a0_1, a0_2, a0_3, a0_4, a0_5, y520)) = some (r1, r2, r3, r4, r5, r6, r7) := by first | (rw [hy520]; with_reducible exact H) | (have H2_ := (Option.bind_some _ _).symm.trans H; rw [hy520]; with_reducible exact H2_) | (have H2_ := (Option.bind_some _ _).symm.trans H; with_reducible exact H2_) | with_reducible exact H | (rw [hy520]; exact H) | exact H
    have Ny520 := Aside0.mk hy520
    clear hy520
    simp only [Option.some.injEq, Prod.mk.injEq] at H
    obtain ⟨rfl, rfl, rfl, rfl, rfl, rfl, rfl⟩ := H
    go_enter Tryd.func53, Tryd.ntmps53
    go_wp2_with (first | ((with_reducible refine gate_dst (N := 1) rfl ?_); refine box_event ?hg (N := 1) ?hd (cs := #[.int .i64 a0_0, .int .i64 a0_1, .int .i64 a0_2, .int .i64 a0_3, .int .i64 a0_4, .int .i64 a0_5, .slice A0_6 l0_6.length c0_6]) (t := 46) ?hr ?_; (case hd => rfl); (case hg => rfl); (case hr => first | (go_simp; done) | (go_simp; rfl)); intro gb515 hg w3 hbox hb; have n0_ := Aside0.mk (below_step (qw HB.out) hb); have n1_ := Aside0.mk (hbox); have n2_ := Aside0.mk ((by rw [hg]; exact (below_size (qw HB.out)) : w.heap.size ≤ gb515)); have n3_ := Aside0.mk ((by rw [hg]; exact (below_size (qw HB.out)) : w.heap.size ≤ gb515)); clear HB; have HB := n0_; have BK515 := n1_; have GW515 := n2_; have GE515 := n3_; clear n0_ n1_ n2_ n3_; clear hb hbox hg) | ((with_reducible refine gate_dst (N := 2) rfl ?_); refine box_event ?hg (N := 2) ?hd (cs := #[.int .i64 0, .int .i64 0, .int .i64 0, .int .i64 0, .int .i64 0, .int .i64 0, .slice none 0 0]) (t := 46) ?hr ?_; (case hd => rfl); (case hg => rfl); (case hr => first | (go_simp; done) | (go_simp; rfl)); intro gb516 hg w4 hbox hb; have n0_ := Aside0.mk (blk_below (g := gb515) (o := .cells #[.int .i64 a0_0, .int .i64 a0_1, .int .i64 a0_2, .int .i64 a0_3, .int .i64 a0_4, .int .i64 a0_5, .slice A0_6 l0_6.length c0_6] 46 (0, 0)) (qb BK515.out) hb); have n1_ := Aside0.mk (below_step (qw HB.out) hb); have n2_ := Aside0.mk (hbox); have n3_ := Aside0.mk ((by rw [hg]; exact (below_size (qw HB.out)) : w.heap.size ≤ gb516)); have n4_ := Aside0.mk ((by rw [hg]; exact (below_size (qw HB.out)) : w.heap.size ≤ gb516)); have n5_ := Aside0.mk ((by rw [hg]; exact Nat.ne_of_lt (blk_lt (g := gb515) (o := .cells #[.int .i64 a0_0, .int .i64 a0_1, .int .i64 a0_2, .int .i64 a0_3, .int .i64 a0_4, .int .i64 a0_5, .slice A0_6 l0_6.length c0_6] 46 (0, 0)) (qb BK515.out)) : gb515 ≠ gb516)); have n6_ := Aside0.mk ((by rw [hg]; exact Nat.ne_of_gt (blk_lt (g := gb515) (o := .cells #[.int .i64 a0_0, .int .i64 a0_1, .int .i64 a0_2, .int .i64 a0_3, .int .i64 a0_4, .int .i64 a0_5, .slice A0_6 l0_6.length c0_6] 46 (0, 0)) (qb BK515.out)) : gb516 ≠ gb515)); clear BK515; clear HB; have BK515 := n0_; have HB := n1_; have BK516 := n2_; have GW516 := n3_; have GE516 := n4_; have NB515_516 := n5_; have NB516_515 := n6_; clear n0_ n1_ n2_ n3_ n4_ n5_ n6_; clear hb hbox hg) | ((with_reducible refine gate_dst (N := 3) rfl ?_); refine Kd.R_lit (Kd.int .i64) _ 3 ?hg (N := 3) ?hd (xs := ([] : List Int)) (inner := []) (ok := fun _ => True) (okp := fun _ => True) ?hr ?hp (fun _ hk => hk) trivial (Below.refl _ _) (Nat.le_refl _) (by simp) ?_; (case hd => rfl); (case hg => rfl); (case hr => first | (go_simp; done) | (go_simp; rfl)); (case hp => exact (Reps.none _ _)); intro v518 w5 ho6 hb hg_ hnew_; clear hg_ hnew_; (first | rw [← Ny517.out] at ho6 | (simp only [Int.reduceToNat] at ho6; rw [← Ny517.out] at ho6)); have n0_ := Aside0.mk (Kd.R_lower ho6 (below_size (qw HB.out))); have n1_ := Aside0.mk (blk_below (g := gb515) (o := .cells #[.int .i64 a0_0, .int .i64 a0_1, .int .i64 a0_2, .int .i64 a0_3, .int .i64 a0_4, .int .i64 a0_5, .slice A0_6 l0_6.length c0_6] 46 (0, 0)) (qb BK515.out) hb); have n2_ := Aside0.mk (blk_below (g := gb516) (o := .cells #[.int .i64 0, .int .i64 0, .int .i64 0, .int .i64 0, .int .i64 0, .int .i64 0, .slice none 0 0] 46 (0, 0)) (qb BK516.out) hb); have n3_ := Aside0.mk (below_step (qw HB.out) hb); clear BK515; clear BK516; clear HB; have HO519 := n0_; have BK515 := n1_; have BK516 := n2_; have HB := n3_; clear n0_ n1_ n2_ n3_; clear hb ho6; have hnb7 := NB515_516.out; have hnc7 := NB516_515.out; have hcz8_0 : w5.cell? ⟨gb515, 0, none⟩ = some (.int .i64 a0_0) := (blk_cell BK515.out 0).trans rfl; have hcz8_1 : w5.cell? ⟨gb515, 1, none⟩ = some (.int .i64 a0_1) := (blk_cell BK515.out 1).trans rfl; have hcz8_2 : w5.cell? ⟨gb515, 2, none⟩ = some (.int .i64 a0_2) := (blk_cell BK515.out 2).trans rfl; have hcz8_3 : w5.cell? ⟨gb515, 3, none⟩ = some (.int .i64 a0_3) := (blk_cell BK515.out 3).trans rfl; have hcz8_4 : w5.cell? ⟨gb515, 4, none⟩ = some (.int .i64 a0_4) := (blk_cell BK515.out 4).trans rfl; have hcz8_5 : w5.cell? ⟨gb515, 5, none⟩ = some (.int .i64 a0_5) := (blk_cell BK515.out 5).trans rfl; have hcz8_6 : w5.cell? ⟨gb515, 6, none⟩ = some (.slice A0_6 l0_6.length c0_6) := (blk_cell BK515.out 6).trans rfl; have hfz8_0 := blk_frozen BK515.out 0; have hfz8_1 := blk_frozen BK515.out 1; have hfz8_2 := blk_frozen BK515.out 2; have hfz8_3 := blk_frozen BK515.out 3; have hfz8_4 := blk_frozen BK515.out 4; have hfz8_5 := blk_frozen BK515.out 5; have hfz8_6 := blk_frozen BK515.out 6) | ((with_reducible refine gate_builtin (b := .append) (xs := #[.tmp 3, .tmp 5]) rfl ?_); at_builtin; refine Kd.R_append_rows (Kd.int .i64) (w0 := w) w.heap.size rfl (.tmp 3) (.tmp 5) 41 3 (.int .i64 0) 8 rfl Tryd.underlying41 info3 rfl (by decide) (by omega) v518 y517 l0_6 _ _ _ (fun _ => True) (fun _ => False) rfl rfl ?aO ?aR (fun _ _ h => h) (fun _ h => h.elim) ?aF ?aB ?aS ?aL ?_; (case aR => repeat (first | exact (Kd.C_below HR0_6.out HB.out) | (with_reducible refine Kd.C_alloc ?_ _) | (with_reducible refine Kd.C_drewN ?_ _) | (with_reducible refine Kd.C_drew ?_))); (case aB => exact (qw HB.out)); (case aF => exact (fun _ _ => trivial)); (case aO => exact (qr HO519.out)); (case aS => exact (below_size (qw HB.out))); (case aL => have := LMc2.out; omega); intro v521 w9 ho hb hg hat; rw [← Ny520.out] at ho; have n0_ := Aside0.mk (blk_grown (g := gb515) (o := .cells #[.int .i64 a0_0, .int .i64 a0_1, .int .i64 a0_2, .int .i64 a0_3, .int .i64 a0_4, .int .i64 a0_5, .slice A0_6 l0_6.length c0_6] 46 (0, 0)) (qb BK515.out) hg (Kd.R_ne HO519.out BK515.out (by decide))); have n1_ := Aside0.mk (blk_grown (g := gb516) (o := .cells #[.int .i64 0, .int .i64 0, .int .i64 0, .int .i64 0, .int .i64 0, .int .i64 0, .slice none 0 0] 46 (0, 0)) (qb BK516.out) hg (Kd.R_ne HO519.out BK516.out (by decide))); have n2_ := Aside0.mk (hb); have n3_ := Aside0.mk (ho); clear BK515; clear BK516; clear HB; clear HO519; have BK515 := n0_; have BK516 := n1_; have HB := n2_; have HO522 := n3_; clear n0_ n1_ n2_ n3_; clear ho hb hg hat; obtain ⟨Ao10, co10, eo10⟩ := Kd.R_slice HO522.out; subst eo10; have hcz11_0 : w9.cell? ⟨gb515, 0, none⟩ = some (.int .i64 a0_0) := (blk_cell BK515.out 0).trans rfl; have hcz11_1 : w9.cell? ⟨gb515, 1, none⟩ = some (.int .i64 a0_1) := (blk_cell BK515.out 1).trans rfl; have hcz11_2 : w9.cell? ⟨gb515, 2, none⟩ = some (.int .i64 a0_2) := (blk_cell BK515.out 2).trans rfl; have hcz11_3 : w9.cell? ⟨gb515, 3, none⟩ = some (.int .i64 a0_3) := (blk_cell BK515.out 3).trans rfl; have hcz11_4 : w9.cell? ⟨gb515, 4, none⟩ = some (.int .i64 a0_4) := (blk_cell BK515.out 4).trans rfl; have hcz11_5 : w9.cell? ⟨gb515, 5, none⟩ = some (.int .i64 a0_5) := (blk_cell BK515.out 5).trans rfl; have hcz11_6 : w9.cell? ⟨gb515, 6, none⟩ = some (.slice A0_6 l0_6.length c0_6) := (blk_cell BK515.out 6).trans rfl; have hfz11_0 := blk_frozen BK515.out 0; have hfz11_1 := blk_frozen BK515.out 1; have hfz11_2 := blk_frozen BK515.out 2; have hfz11_3 := blk_frozen BK515.out 3; have hfz11_4 := blk_frozen BK515.out 4; have hfz11_5 := blk_frozen BK515.out 5; have hfz11_6 := blk_frozen BK515.out 6; have hcz12_0 : w9.cell? ⟨gb516, 0, none⟩ = some (.int .i64 0) := (blk_cell BK516.out 0).trans rfl; have hcz12_1 : w9.cell? ⟨gb516, 1, none⟩ = some (.int .i64 0) := (blk_cell BK516.out 1).trans rfl; have hcz12_2 : w9.cell? ⟨gb516, 2, none⟩ = some (.int .i64 0) := (blk_cell BK516.out 2).trans rfl; have hcz12_3 : w9.cell? ⟨gb516, 3, none⟩ = some (.int .i64 0) := (blk_cell BK516.out 3).trans rfl; have hcz12_4 : w9.cell? ⟨gb516, 4, none⟩ = some (.int .i64 0) := (blk_cell BK516.out 4).trans rfl; have hcz12_5 : w9.cell? ⟨gb516, 5, none⟩ = some (.int .i64 0) := (blk_cell BK516.out 5).trans rfl; have hcz12_6 : w9.cell? ⟨gb516, 6, none⟩ = some (.slice none 0 0) := (blk_cell BK516.out 6).trans rfl; have hfz12_0 := blk_frozen BK516.out 0; have hfz12_1 := blk_frozen BK516.out 1; have hfz12_2 := blk_frozen BK516.out 2; have hfz12_3 := blk_frozen BK516.out 3; have hfz12_4 := blk_frozen BK516.out 4; have hfz12_5 := blk_frozen BK516.out 5; have hfz12_6 := blk_frozen BK516.out 6))
    refine bodyPost_ret (results_cell_row rfl _ _ gb516 46 #[.int .i64 a0_0, .int .i64 a0_1, .int .i64 a0_2, .int .i64 a0_3, .int .i64 a0_4, .int .i64 a0_5, .slice Ao10 y520.length co10] (0, 0) _ rfl (by (with_reducible repeat (first | refine blk_drewN ?_ _ | refine blk_drew ?_ | refine blk_alloc ?_ _)); refine blk_put (cs := #[.int .i64 a0_0, .int .i64 a0_1, .int .i64 a0_2, .int .i64 a0_3, .int .i64 a0_4, .int .i64 a0_5, .slice none 0 0]) ?_ 6 _ rfl; (with_reducible repeat (first | refine blk_drewN ?_ _ | refine blk_drew ?_ | refine blk_alloc ?_ _)); refine blk_put (cs := #[.int .i64 a0_0, .int .i64 a0_1, .int .i64 a0_2, .int .i64 a0_3, .int .i64 a0_4, .int .i64 0, .slice none 0 0]) ?_ 5 _ rfl; (with_reducible repeat (first | refine blk_drewN ?_ _ | refine blk_drew ?_ | refine blk_alloc ?_ _)); refine blk_put (cs := #[.int .i64 a0_0, .int .i64 a0_1, .int .i64 a0_2, .int .i64 a0_3, .int .i64 0, .int .i64 0, .slice none 0 0]) ?_ 4 _ rfl; (with_reducible repeat (first | refine blk_drewN ?_ _ | refine blk_drew ?_ | refine blk_alloc ?_ _)); refine blk_put (cs := #[.int .i64 a0_0, .int .i64 a0_1, .int .i64 a0_2, .int .i64 0, .int .i64 0, .int .i64 0, .slice none 0 0]) ?_ 3 _ rfl; (with_reducible repeat (first | refine blk_drewN ?_ _ | refine blk_drew ?_ | refine blk_alloc ?_ _)); refine blk_put (cs := #[.int .i64 a0_0, .int .i64 a0_1, .int .i64 0, .int .i64 0, .int .i64 0, .int .i64 0, .slice none 0 0]) ?_ 2 _ rfl; (with_reducible repeat (first | refine blk_drewN ?_ _ | refine blk_drew ?_ | refine blk_alloc ?_ _)); refine blk_put (cs := #[.int .i64 a0_0, .int .i64 0, .int .i64 0, .int .i64 0, .int .i64 0, .int .i64 0, .slice none 0 0]) ?_ 1 _ rfl; (with_reducible repeat (first | refine blk_drewN ?_ _ | refine blk_drew ?_ | refine blk_alloc ?_ _)); refine blk_put (cs := #[.int .i64 0, .int .i64 0, .int .i64 0, .int .i64 0, .int .i64 0, .int .i64 0, .slice none 0 0]) ?_ 0 _ rfl; (with_reducible repeat (first | refine blk_drewN ?_ _ | refine blk_drew ?_ | refine blk_alloc ?_ _)); refine blk_far ?_ NB516_515.out _; (with_reducible repeat (first | refine blk_drewN ?_ _ | refine blk_drew ?_ | refine blk_alloc ?_ _)); exact BK516.out) Tryd.underlying46 rfl (by kernel_rfl)) rfl ?_
    exact ⟨_, qe, by (with_reducible repeat (first | apply Kd.R_alloc | apply Kd.R_drewN | apply Kd.R_drew)); exact Kd.R_mono (Kd.R_far (p := ⟨gb516, 6, none⟩) (Kd.R_far (p := ⟨gb516, 5, none⟩) (Kd.R_far (p := ⟨gb516, 4, none⟩) (Kd.R_far (p := ⟨gb516, 3, none⟩) (Kd.R_far (p := ⟨gb516, 2, none⟩) (Kd.R_far (p := ⟨gb516, 1, none⟩) (Kd.R_far (p := ⟨gb516, 0, none⟩) (Kd.R_far (p := ⟨gb515, 6, none⟩) (Kd.R_types (Kd.R_types HO522.out BK515.out (by decide)) BK516.out (by decide)) (fun _ hk => hk.1.2) (.slice Ao10 y520.length co10)) (fun _ hk => hk.2) (.int .i64 a0_0)) (fun _ hk => hk.2) (.int .i64 a0_1)) (fun _ hk => hk.2) (.int .i64 a0_2)) (fun _ hk => hk.2) (.int .i64 a0_3)) (fun _ hk => hk.2) (.int .i64 a0_4)) (fun _ hk => hk.2) (.int .i64 a0_5)) (fun _ hk => hk.2) (.slice Ao10 y520.length co10)) (fun _ hk => trivial), qw HB.out⟩
  · rw [if_neg c2] at H
    exact absurd H (by simp)

/-! ### spec_l06Bit: function 71 -/
def spec_l06Bit.f (a0 : Bool) : Option (Int) := if a0 = true then (some 1) else (some 0)
set_option maxHeartbeats 8000000 in
set_option maxRecDepth 100000 in
theorem spec_l06Bit.calls (a0 : Bool) (r : Int) (w : World) (h : spec_l06Bit.f a0 = some r) :
    Calls Tryd.prog 71 #[.bool a0] w fun e w' => e = .returned (.int .i64 r) ∧ Drawn0 w w' := by
  have H : (if a0 = true then (some 1) else (some 0)) = some r := h
  clear h
  by_cases c2 : a0 = true
  · subst c2
    have H1 : (some 1) = some r := by rw [if_pos rfl] at H; exact H
    clear H
    have H := H1
    clear H1
    obtain rfl := Option.some.inj H
    go_enter Tryd.func71, Tryd.ntmps71
    go_wp2
    go_ret
    exact ⟨by first | rfl | (simp; done) | (simp [*]; done), by repeat (first | exact Drawn0.refl _ | apply Drawn0.step)⟩
  · replace c2 := Bool.eq_false_iff.mpr c2
    subst c2
    have H1 : (some 0) = some r := by rw [if_neg (show ¬ (false = true) by decide)] at H; exact H
    clear H
    have H := H1
    clear H1
    obtain rfl := Option.some.inj H
    go_enter Tryd.func71, Tryd.ntmps71
    go_wp2
    go_ret
    exact ⟨by first | rfl | (simp; done) | (simp [*]; done), by repeat (first | exact Drawn0.refl _ | apply Drawn0.step)⟩

/-! ### spec_l10Drop: function 54 -/
def spec_l10Drop.f (a0_0 : Int) (a0_1 : Int) (a0_2 : Int) (a0_3 : Int) (a0_4 : Int) (a0_5 : Int) (l0_6 : List Int) (a1 : Bool) : Option (Int × Int × Int × Int × Int × Int × List Int) := (spec_l06Bit.f a1).bind fun t525 => (some (a0_0, a0_1, a0_2, a0_3, a0_4, mn (wrap64 ((wrap64 (a0_5 + (l0_6.length : Int))) + t525)) 2147483647, (([] : List Int))))
def spec_l10Drop.T1 : Bool × List (List Nat × List Nat) := (true, [([], []), ([0], [0]), ([], []), ([2], [2]), ([3], [3]), ([1, 4], [1, 4]), ([], []), ([6], [6]), ([5, 7], [5, 7]), ([8], [8]), ([0, 1, 2, 3, 4, 5, 6, 7, 8, 9], []), ([10, 9, 7, 0, 1, 2, 3, 4, 5, 6, 7, 8, 9], [9, 10])])
def spec_l10Drop.B1 : List Nat := [0, 1, 0, 4, 12, 31, 0, 64, 255, 511, 1023, 2047]
theorem spec_l10Drop.tab1 : rtab .any (opsOf Tryd.f54 1) = spec_l10Drop.T1 := by kernel_rfl
theorem spec_l10Drop.bits1 : waitsOk spec_l10Drop.T1.2 spec_l10Drop.B1 = true := by kernel_rfl
set_option maxHeartbeats 8000000 in
set_option maxRecDepth 100000 in
theorem spec_l10Drop.calls (a0_0 : Int) (a0_1 : Int) (a0_2 : Int) (a0_3 : Int) (a0_4 : Int) (a0_5 : Int) (A0_6 : Option Addr) (c0_6 : Nat) (l0_6 : List Int) (a1 : Bool) (r1 : Int) (r2 : Int) (r3 : Int) (r4 : Int) (r5 : Int) (r6 : Int) (r7 : List Int) (w : World) (hr0_6 : Kd.C (Kd.int .i64) w A0_6 l0_6.length l0_6) (hc0_6 : l0_6.length ≤ c0_6) (h : spec_l10Drop.f a0_0 a0_1 a0_2 a0_3 a0_4 a0_5 l0_6 a1 = some (r1, r2, r3, r4, r5, r6, r7)) :
    Calls Tryd.prog 54 #[.agg #[.int .i64 a0_0, .int .i64 a0_1, .int .i64 a0_2, .int .i64 a0_3, .int .i64 a0_4, .int .i64 a0_5, .slice A0_6 l0_6.length c0_6], .bool a1] w fun e w' => ∃ v6_ : Value, e = .returned (.agg #[.int .i64 r1, .int .i64 r2, .int .i64 r3, .int .i64 r4, .int .i64 r5, .int .i64 r6, v6_]) ∧ Kd.R (Kd.int .i64) 3 w' w.heap.size (fun _ => True) v6_ r7 ∧ Below w.heap.size w w' := by
  have hu46 := Tryd.underlying46
  have HR0_6 := Aside0.mk hr0_6
  have HC0_6 := Aside0.mk hc0_6
  clear hr0_6 hc0_6
  have HB := Aside0.mk (Below.refl w.heap.size w)
  have H : ((spec_l06Bit.f a1).bind fun t525 => (some (a0_0, a0_1, a0_2, a0_3, a0_4, mn (wrap64 ((wrap64 (a0_5 + (l0_6.length : Int))) + t525)) 2147483647, (([] : List Int))))) = some (r1, r2, r3, r4, r5, r6, r7) := h
  clear h
  replace H := Option.bind_eq_some_iff.mp H
  obtain ⟨t525, A30, H⟩ := H
  replace H : (some (a0_0, a0_1, a0_2, a0_3, a0_4, mn (wrap64 ((wrap64 (a0_5 + (l0_6.length : Int))) + t525)) 2147483647, (([] : List Int)))) = some (r1, r2, r3, r4, r5, r6, r7) := H
  have A3 := Aside0.mk A30
  clear A30
  obtain ⟨ji4, hji4⟩ : ∃ j_ : Int, (mn (wrap64 ((wrap64 (a0_5 + (l0_6.length : Int))) + t525)) 2147483647) = j_ := ⟨_, rfl⟩
  replace H : (some (a0_0, a0_1, a0_2, a0_3, a0_4, ji4, (([] : List Int)))) = some (r1, r2, r3, r4, r5, r6, r7) := by first | (rw [hji4] at H; exact H) | (simp only [hji4] at H ⊢; exact H)
  (try rw [hji4] at A3)
  (try (have hji4h : ji4 ≤ 2147483647 := by (rw [← hji4]; unfold mn; (repeat' split) <;> omega)))
  (try (have hji4g : ji4 ≤ 64 := by omega))
  have hji4_ : (if 2147483647 < (wrap64 ((wrap64 (a0_5 + (l0_6.length : Int))) + t525)) then 2147483647 else (wrap64 ((wrap64 (a0_5 + (l0_6.length : Int))) + t525))) = ji4 := hji4
  obtain ⟨y526, hy526⟩ : ∃ y_ : List Int, y_ = (([] : List Int)) := ⟨_, rfl⟩
  replace H : (some (a0_0, a0_1, a0_2, a0_3, a0_4, ji4, y526)) = some (r1, r2, r3, r4, r5, r6, r7) := by first | (rw [hy526]; with_reducible exact H) | (have H2_ := (Option.bind_some _ _).symm.trans H; rw [hy526]; with_reducible exact H2_) | (have H2_ := (Option.bind_some _ _).symm.trans H; with_reducible exact H2_) | with_reducible exact H | (rw [hy526]; exact H) | exact H
  have Ny526 := Aside0.mk hy526
  clear hy526
  simp only [Option.some.injEq, Prod.mk.injEq] at H
  obtain ⟨rfl, rfl, rfl, rfl, rfl, rfl, rfl⟩ := H
  go_enter Tryd.func54, Tryd.ntmps54
  try go_wp2_with (first | ((with_reducible refine gate_dst (N := 2) rfl ?_); refine box_event ?hg (N := 2) ?hd (cs := #[.int .i64 a0_0, .int .i64 a0_1, .int .i64 a0_2, .int .i64 a0_3, .int .i64 a0_4, .int .i64 a0_5, .slice A0_6 l0_6.length c0_6]) (t := 46) ?hr ?_; (case hd => rfl); (case hg => rfl); (case hr => first | (go_simp; done) | (go_simp; rfl)); intro gb523 hg w5 hbox hb; have n0_ := Aside0.mk (below_step (qw HB.out) hb); have n1_ := Aside0.mk (hbox); have n2_ := Aside0.mk ((by rw [hg]; exact (below_size (qw HB.out)) : w.heap.size ≤ gb523)); have n3_ := Aside0.mk ((by rw [hg]; exact (below_size (qw HB.out)) : w.heap.size ≤ gb523)); clear HB; have HB := n0_; have BK523 := n1_; have GW523 := n2_; have GE523 := n3_; clear n0_ n1_ n2_ n3_; clear hb hbox hg) | ((with_reducible refine gate_dst (N := 4) rfl ?_); refine box_event ?hg (N := 4) ?hd (cs := #[.int .i64 0, .int .i64 0, .int .i64 0, .int .i64 0, .int .i64 0, .int .i64 0, .slice none 0 0]) (t := 46) ?hr ?_; (case hd => rfl); (case hg => rfl); (case hr => first | (go_simp; done) | (go_simp; rfl)); intro gb524 hg w6 hbox hb; have n0_ := Aside0.mk (blk_below (g := gb523) (o := .cells #[.int .i64 a0_0, .int .i64 a0_1, .int .i64 a0_2, .int .i64 a0_3, .int .i64 a0_4, .int .i64 a0_5, .slice A0_6 l0_6.length c0_6] 46 (0, 0)) (qb BK523.out) hb); have n1_ := Aside0.mk (below_step (qw HB.out) hb); have n2_ := Aside0.mk (hbox); have n3_ := Aside0.mk ((by rw [hg]; exact (below_size (qw HB.out)) : w.heap.size ≤ gb524)); have n4_ := Aside0.mk ((by rw [hg]; exact (below_size (qw HB.out)) : w.heap.size ≤ gb524)); have n5_ := Aside0.mk ((by rw [hg]; exact Nat.ne_of_lt (blk_lt (g := gb523) (o := .cells #[.int .i64 a0_0, .int .i64 a0_1, .int .i64 a0_2, .int .i64 a0_3, .int .i64 a0_4, .int .i64 a0_5, .slice A0_6 l0_6.length c0_6] 46 (0, 0)) (qb BK523.out)) : gb523 ≠ gb524)); have n6_ := Aside0.mk ((by rw [hg]; exact Nat.ne_of_gt (blk_lt (g := gb523) (o := .cells #[.int .i64 a0_0, .int .i64 a0_1, .int .i64 a0_2, .int .i64 a0_3, .int .i64 a0_4, .int .i64 a0_5, .slice A0_6 l0_6.length c0_6] 46 (0, 0)) (qb BK523.out)) : gb524 ≠ gb523)); clear BK523; clear HB; have BK523 := n0_; have HB := n1_; have BK524 := n2_; have GW524 := n3_; have GE524 := n4_; have NB523_524 := n5_; have NB524_523 := n6_; clear n0_ n1_ n2_ n3_ n4_ n5_ n6_; clear hb hbox hg))
  (try (rw [drewN_self w6]; generalize hq_ : World.drewN w6 _ = w6; have n0_ : Aside0 (w6.heap[gb523]? = some (.cells #[.int .i64 a0_0, .int .i64 a0_1, .int .i64 a0_2, .int .i64 a0_3, .int .i64 a0_4, .int .i64 a0_5, .slice A0_6 l0_6.length c0_6] 46 (0, 0))) := ⟨by rw [← hq_]; exact (qb BK523.out)⟩; have n1_ : Aside0 (w6.heap[gb524]? = some (.cells #[.int .i64 0, .int .i64 0, .int .i64 0, .int .i64 0, .int .i64 0, .int .i64 0, .slice none 0 0] 46 (0, 0))) := ⟨by rw [← hq_]; exact (qb BK524.out)⟩; have n2_ : Aside0 (Below w.heap.size w w6) := ⟨by rw [← hq_]; exact (qw HB.out)⟩; clear BK523 BK524 HB hq_; have BK523 := n0_; have BK524 := n1_; have HB := n2_; clear n0_ n1_ n2_))
  have n0_ := Aside0.mk (blk_drew BK523.out)
  have n1_ := Aside0.mk (blk_drew BK524.out)
  have n2_ := Aside0.mk (below_drew1 HB.out)
  clear BK523
  clear BK524
  clear HB
  have BK523 := n0_
  have BK524 := n1_
  have HB := n2_
  clear n0_ n1_ n2_
  refine start_ (n := 12) (S := fun w' => w'.cell? ⟨gb523, 0, none⟩ = some (.int .i64 a0_0) ∧ w'.cell? ⟨gb523, 1, none⟩ = some (.int .i64 a0_1) ∧ w'.cell? ⟨gb523, 2, none⟩ = some (.int .i64 a0_2) ∧ w'.cell? ⟨gb523, 3, none⟩ = some (.int .i64 a0_3) ∧ w'.cell? ⟨gb523, 4, none⟩ = some (.int .i64 a0_4) ∧ w'.cell? ⟨gb523, 5, none⟩ = some (.int .i64 a0_5) ∧ w'.cell? ⟨gb523, 6, none⟩ = some (.slice A0_6 l0_6.length c0_6)) (ds := [11]) #[false, false, false, false, false, false, false, false, false, false, false, false] (by kernel_rfl) rfl rfl ⟨(blk_cell BK523.out 0).trans rfl, (blk_cell BK523.out 1).trans rfl, (blk_cell BK523.out 2).trans rfl, (blk_cell BK523.out 3).trans rfl, (blk_cell BK523.out 4).trans rfl, (blk_cell BK523.out 5).trans rfl, (blk_cell BK523.out 6).trans rfl⟩ (fun hHeld => ?_); refine with_tabW spec_l10Drop.tab1 spec_l10Drop.bits1 (fun HT_ HW_ => ?_)
  generalize w6.drew = w7 at BK523 BK524 HB hHeld ⊢
  refine pure_ (i := 0) (N := some 5) (v := ?_) (a' := ?_) #[true, false, false, false, false, false, false, false, false, false, false, false] rfl rfl (any_of HT_.out (by kernel_rfl)) (fun _ _ _ h => h) (Or.inl ⟨by rfl, ?_⟩) ?_ ?_
  rotate_left
  · intro w'
    go_simp
    with_reducible rfl
  rotate_left
  · simp only [Act.put, List.setIfInBounds_toArray, List.set_cons_zero, List.set_cons_succ, i64_w, i32_w]
    rfl
  refine pure_ (i := 2) (N := some 7) (v := ?_) (a' := ?_) #[true, false, true, false, false, false, false, false, false, false, false, false] rfl rfl (any_of HT_.out (by kernel_rfl)) (fun _ _ _ h => h) (Or.inl ⟨by rfl, ?_⟩) ?_ ?_
  rotate_left
  · intro w'
    go_simp
    with_reducible rfl
  rotate_left
  · simp only [Act.put, List.setIfInBounds_toArray, List.set_cons_zero, List.set_cons_succ, i64_w, i32_w]
    rfl
  refine pure_ (i := 6) (N := some 11) (v := ?_) (a' := ?_) #[true, false, true, false, false, false, true, false, false, false, false, false] rfl rfl (any_of HT_.out (by kernel_rfl)) (fun _ _ _ h => h) (Or.inl ⟨by rfl, ?_⟩) ?_ ?_
  rotate_left
  · intro w'
    go_simp
    with_reducible rfl
  rotate_left
  · simp only [Act.put, List.setIfInBounds_toArray, List.set_cons_zero, List.set_cons_succ, i64_w, i32_w]
    rfl
  refine take_ (i := 1) (N := some 6) (v := ?_) (a' := ?_) #[true, true, true, false, false, false, true, false, false, false, false, false] rfl rfl (take_ofW HT_.out HW_.out (by kernel_rfl)) (fun _ _ _ h => h) (Or.inl ⟨by rfl, ?_⟩) hHeld ?_ ?_
  rotate_left
  · rintro w' ⟨s0, s1, s2, s3, s4, s5, s6⟩
    go_simp
    with_reducible rfl
  rotate_left
  · simp only [Act.put, List.setIfInBounds_toArray, List.set_cons_zero, List.set_cons_succ, i64_w, i32_w]
    rfl
  refine take_ (i := 3) (N := some 8) (v := ?_) (a' := ?_) #[true, true, true, true, false, false, true, false, false, false, false, false] rfl rfl (take_ofW HT_.out HW_.out (by kernel_rfl)) (fun _ _ _ h => h) (Or.inl ⟨by rfl, ?_⟩) hHeld ?_ ?_
  rotate_left
  · rintro w' ⟨s0, s1, s2, s3, s4, s5, s6⟩
    go_simp
    with_reducible rfl
  rotate_left
  · simp only [Act.put, List.setIfInBounds_toArray, List.set_cons_zero, List.set_cons_succ, i64_w, i32_w]
    rfl
  refine pure_ (i := 4) (N := some 9) (v := ?_) (a' := ?_) #[true, true, true, true, true, false, true, false, false, false, false, false] rfl rfl (any_of HT_.out (by kernel_rfl)) (fun _ _ _ h => h) (Or.inl ⟨by rfl, ?_⟩) ?_ ?_
  rotate_left
  · intro w'
    go_simp
    with_reducible rfl
  rotate_left
  · simp only [Act.put, List.setIfInBounds_toArray, List.set_cons_zero, List.set_cons_succ, i64_w, i32_w]
    rfl
  refine pure_ (i := 5) (N := some 10) (v := ?_) (a' := ?_) #[true, true, true, true, true, true, true, false, false, false, false, false] rfl rfl (any_of HT_.out (by kernel_rfl)) (fun _ _ _ h => h) (Or.inl ⟨by rfl, ?_⟩) ?_ ?_
  rotate_left
  · intro w'
    go_simp
    with_reducible rfl
  rotate_left
  · simp only [Act.put, List.setIfInBounds_toArray, List.set_cons_zero, List.set_cons_succ, i64_w, i32_w]
    rfl
  refine one_ (i := 7) (N := some 12) #[true, true, true, true, true, true, true, true, false, false, false, false] rfl rfl (one_of HT_.out (by kernel_rfl)) (by decide) (fun K hK => ?_)
  refine goes_ Tryd.func71 (by kernel_rfl) rfl #[.bool a1] (by rfl) rfl rfl qa ?_
  with_reducible refine (spec_l06Bit.calls a1 t525 _ A3.out).mono ?_
  rintro e w' ⟨rfl, ⟨nd, rfl⟩⟩
  refine ⟨_, rfl, ?_⟩
  refine hK.out _ _ ⟨(blk_cell BK523.out 0).trans rfl, (blk_cell BK523.out 1).trans rfl, (blk_cell BK523.out 2).trans rfl, (blk_cell BK523.out 3).trans rfl, (blk_cell BK523.out 4).trans rfl, (blk_cell BK523.out 5).trans rfl, (blk_cell BK523.out 6).trans rfl⟩ (fun hHeld => ?_)
  clear hK K
  refine norm_ (a' := ?_) ?_ ?_
  rotate_left
  · show Act.put _ (some 12) _ = _
    simp only [Act.put, List.setIfInBounds_toArray, List.set_cons_zero, List.set_cons_succ, i64_w, i32_w]
    rfl
  refine pure_ (i := 8) (N := some 13) (v := ?_) (a' := ?_) #[true, true, true, true, true, true, true, true, true, false, false, false] rfl rfl (any_of HT_.out (by kernel_rfl)) (fun _ _ _ h => h) (Or.inl ⟨by rfl, ?_⟩) ?_ ?_
  rotate_left
  · intro w'
    go_simp
    with_reducible rfl
  rotate_left
  · simp only [Act.put, List.setIfInBounds_toArray, List.set_cons_zero, List.set_cons_succ, i64_w, i32_w]
    rfl
  refine pure_ (i := 9) (N := some 14) (v := ?_) (a' := ?_) #[true, true, true, true, true, true, true, true, true, true, false, false] rfl rfl (any_of HT_.out (by kernel_rfl)) (fun _ _ _ h => h) (Or.inl ⟨by rfl, ?_⟩) ?_ ?_
  rotate_left
  · intro w'
    go_simp
    with_reducible rfl
  rotate_left
  · simp only [Act.put, List.setIfInBounds_toArray, List.set_cons_zero, List.set_cons_succ, i64_w, i32_w]
    rfl
  refine pure_ (i := 10) (N := some 15) (v := ?_) (a' := ?_) #[true, true, true, true, true, true, true, true, true, true, true, false] rfl rfl (any_of HT_.out (by kernel_rfl)) (fun _ _ _ h => h) (Or.inl ⟨by rfl, ?_⟩) ?_ ?_
  rotate_left
  · intro w'
    go_simp
    with_reducible rfl
  rotate_left
  · simp only [Act.put, List.setIfInBounds_toArray, List.set_cons_zero, List.set_cons_succ, i64_w, i32_w]
    rfl
  refine last_ (i := 11) (N := none) #[true, true, true, true, true, true, true, true, true, true, true, true] rfl rfl (one_of HT_.out (by kernel_rfl)) (by decide) (fun K hK => ?_)
  have hs8 : w7.cell? ⟨gb523, 5, none⟩ = some (.int .i64 a0_5) := (blk_cell BK523.out 5).trans rfl
  have hfs8 := blk_frozen BK523.out 5
  have hns8_1 := NB524_523.out
  have hms8_1 := NB523_524.out
  refine skip_ (w1 := ?_) (by rfl) rfl ?_ ?_
  rotate_left
  · go_simp
    rfl
  refine hK.out _ _ ?_
  clear hK K
  refine done_ (done_of HT_.out (by kernel_rfl)) ?_
  try go_wp2_with (first | ((with_reducible refine gate_dst (N := 16) rfl ?_); refine Kd.R_lit (Kd.int .i64) _ 3 ?hg (N := 16) ?hd (xs := ([] : List Int)) (inner := []) (ok := fun _ => True) (okp := fun _ => True) ?hr ?hp (fun _ hk => hk) trivial (Below.refl _ _) (Nat.le_refl _) (by simp) ?_; (case hd => rfl); (case hg => rfl); (case hr => first | (go_simp; done) | (go_simp; rfl)); (case hp => exact (Reps.none _ _)); intro v527 w9 ho10 hb hg_ hnew_; clear hg_ hnew_; (first | rw [← Ny526.out] at ho10 | (simp only [Int.reduceToNat] at ho10; rw [← Ny526.out] at ho10)); have n0_ := Aside0.mk (Kd.R_lower ho10 (below_size (qw HB.out))); have n1_ := Aside0.mk (blk_below (g := gb523) (o := .cells #[.int .i64 a0_0, .int .i64 a0_1, .int .i64 a0_2, .int .i64 a0_3, .int .i64 a0_4, .int .i64 ji4, .slice A0_6 l0_6.length c0_6] 46 (0, 0)) (by (with_reducible repeat (first | refine blk_drewN ?_ _ | refine blk_drew ?_ | refine blk_alloc ?_ _)); refine blk_put (cs := #[.int .i64 a0_0, .int .i64 a0_1, .int .i64 a0_2, .int .i64 a0_3, .int .i64 a0_4, .int .i64 a0_5, .slice A0_6 l0_6.length c0_6]) ?_ 5 _ rfl; (with_reducible repeat (first | refine blk_drewN ?_ _ | refine blk_drew ?_ | refine blk_alloc ?_ _)); exact BK523.out) hb); have n2_ := Aside0.mk (blk_below (g := gb524) (o := .cells #[.int .i64 0, .int .i64 0, .int .i64 0, .int .i64 0, .int .i64 0, .int .i64 0, .slice none 0 0] 46 (0, 0)) (by (with_reducible repeat (first | refine blk_drewN ?_ _ | refine blk_drew ?_ | refine blk_alloc ?_ _)); refine blk_far ?_ NB524_523.out _; (with_reducible repeat (first | refine blk_drewN ?_ _ | refine blk_drew ?_ | refine blk_alloc ?_ _)); exact BK524.out) hb); have n3_ := Aside0.mk (below_step (qw HB.out) hb); clear BK523; clear BK524; clear HB; have HO528 := n0_; have BK523 := n1_; have BK524 := n2_; have HB := n3_; clear n0_ n1_ n2_ n3_; clear hb ho10; obtain ⟨Ao11, co11, eo11⟩ := Kd.R_slice HO528.out; subst eo11; have hnb12 := NB523_524.out; have hnc12 := NB524_523.out; have hcz13_0 : w9.cell? ⟨gb523, 0, none⟩ = some (.int .i64 a0_0) := (blk_cell BK523.out 0).trans rfl; have hcz13_1 : w9.cell? ⟨gb523, 1, none⟩ = some (.int .i64 a0_1) := (blk_cell BK523.out 1).trans rfl; have hcz13_2 : w9.cell? ⟨gb523, 2, none⟩ = some (.int .i64 a0_2) := (blk_cell BK523.out 2).trans rfl; have hcz13_3 : w9.cell? ⟨gb523, 3, none⟩ = some (.int .i64 a0_3) := (blk_cell BK523.out 3).trans rfl; have hcz13_4 : w9.cell? ⟨gb523, 4, none⟩ = some (.int .i64 a0_4) := (blk_cell BK523.out 4).trans rfl; have hcz13_5 : w9.cell? ⟨gb523, 5, none⟩ = some (.int .i64 ji4) := (blk_cell BK523.out 5).trans rfl; have hcz13_6 : w9.cell? ⟨gb523, 6, none⟩ = some (.slice A0_6 l0_6.length c0_6) := (blk_cell BK523.out 6).trans rfl; have hfz13_0 := blk_frozen BK523.out 0; have hfz13_1 := blk_frozen BK523.out 1; have hfz13_2 := blk_frozen BK523.out 2; have hfz13_3 := blk_frozen BK523.out 3; have hfz13_4 := blk_frozen BK523.out 4; have hfz13_5 := blk_frozen BK523.out 5; have hfz13_6 := blk_frozen BK523.out 6; have hcz14_0 : w9.cell? ⟨gb524, 0, none⟩ = some (.int .i64 0) := (blk_cell BK524.out 0).trans rfl; have hcz14_1 : w9.cell? ⟨gb524, 1, none⟩ = some (.int .i64 0) := (blk_cell BK524.out 1).trans rfl; have hcz14_2 : w9.cell? ⟨gb524, 2, none⟩ = some (.int .i64 0) := (blk_cell BK524.out 2).trans rfl; have hcz14_3 : w9.cell? ⟨gb524, 3, none⟩ = some (.int .i64 0) := (blk_cell BK524.out 3).trans rfl; have hcz14_4 : w9.cell? ⟨gb524, 4, none⟩ = some (.int .i64 0) := (blk_cell BK524.out 4).trans rfl; have hcz14_5 : w9.cell? ⟨gb524, 5, none⟩ = some (.int .i64 0) := (blk_cell BK524.out 5).trans rfl; have hcz14_6 : w9.cell? ⟨gb524, 6, none⟩ = some (.slice none 0 0) := (blk_cell BK524.out 6).trans rfl; have hfz14_0 := blk_frozen BK524.out 0; have hfz14_1 := blk_frozen BK524.out 1; have hfz14_2 := blk_frozen BK524.out 2; have hfz14_3 := blk_frozen BK524.out 3; have hfz14_4 := blk_frozen BK524.out 4; have hfz14_5 := blk_frozen BK524.out 5; have hfz14_6 := blk_frozen BK524.out 6))
  refine bodyPost_ret (results_cell_row rfl _ _ gb524 46 #[.int .i64 a0_0, .int .i64 a0_1, .int .i64 a0_2, .int .i64 a0_3, .int .i64 a0_4, .int .i64 ji4, .slice Ao11 y526.length co11] (0, 0) _ rfl (by (with_reducible repeat (first | refine blk_drewN ?_ _ | refine blk_drew ?_ | refine blk_alloc ?_ _)); refine blk_put (cs := #[.int .i64 a0_0, .int .i64 a0_1, .int .i64 a0_2, .int .i64 a0_3, .int .i64 a0_4, .int .i64 ji4, .slice none 0 0]) ?_ 6 _ rfl; (with_reducible repeat (first | refine blk_drewN ?_ _ | refine blk_drew ?_ | refine blk_alloc ?_ _)); refine blk_put (cs := #[.int .i64 a0_0, .int .i64 a0_1, .int .i64 a0_2, .int .i64 a0_3, .int .i64 a0_4, .int .i64 0, .slice none 0 0]) ?_ 5 _ rfl; (with_reducible repeat (first | refine blk_drewN ?_ _ | refine blk_drew ?_ | refine blk_alloc ?_ _)); refine blk_put (cs := #[.int .i64 a0_0, .int .i64 a0_1, .int .i64 a0_2, .int .i64 a0_3, .int .i64 0, .int .i64 0, .slice none 0 0]) ?_ 4 _ rfl; (with_reducible repeat (first | refine blk_drewN ?_ _ | refine blk_drew ?_ | refine blk_alloc ?_ _)); refine blk_put (cs := #[.int .i64 a0_0, .int .i64 a0_1, .int .i64 a0_2, .int .i64 0, .int .i64 0, .int .i64 0, .slice none 0 0]) ?_ 3 _ rfl; (with_reducible repeat (first | refine blk_drewN ?_ _ | refine blk_drew ?_ | refine blk_alloc ?_ _)); refine blk_put (cs := #[.int .i64 a0_0, .int .i64 a0_1, .int .i64 0, .int .i64 0, .int .i64 0, .int .i64 0, .slice none 0 0]) ?_ 2 _ rfl; (with_reducible repeat (first | refine blk_drewN ?_ _ | refine blk_drew ?_ | refine blk_alloc ?_ _)); refine blk_put (cs := #[.int .i64 a0_0, .int .i64 0, .int .i64 0, .int .i64 0, .int .i64 0, .int .i64 0, .slice none 0 0]) ?_ 1 _ rfl; (with_reducible repeat (first | refine blk_drewN ?_ _ | refine blk_drew ?_ | refine blk_alloc ?_ _)); refine blk_put (cs := #[.int .i64 0, .int .i64 0, .int .i64 0, .int .i64 0, .int .i64 0, .int .i64 0, .slice none 0 0]) ?_ 0 _ rfl; (with_reducible repeat (first | refine blk_drewN ?_ _ | refine blk_drew ?_ | refine blk_alloc ?_ _)); refine blk_far ?_ NB524_523.out _; (with_reducible repeat (first | refine blk_drewN ?_ _ | refine blk_drew ?_ | refine blk_alloc ?_ _)); exact BK524.out) Tryd.underlying46 rfl (by kernel_rfl)) rfl ?_
  exact ⟨_, by first | rfl | (simp [errW_none, errW_some] <;> rfl) | (simp only [← hji4]; first | rfl | (simp [errW_none, errW_some] <;> rfl)) | (simp [*, errW_none, errW_some] <;> rfl), by (with_reducible repeat (first | apply Kd.R_alloc | apply Kd.R_drewN | apply Kd.R_drew)); exact Kd.R_mono (Kd.R_far (p := ⟨gb524, 6, none⟩) (Kd.R_far (p := ⟨gb524, 5, none⟩) (Kd.R_far (p := ⟨gb524, 4, none⟩) (Kd.R_far (p := ⟨gb524, 3, none⟩) (Kd.R_far (p := ⟨gb524, 2, none⟩) (Kd.R_far (p := ⟨gb524, 1, none⟩) (Kd.R_far (p := ⟨gb524, 0, none⟩) (Kd.R_far (p := ⟨gb523, 6, none⟩) (Kd.R_types (Kd.R_types HO528.out BK523.out (by decide)) BK524.out (by decide)) (fun _ hk => hk.1.2) (.slice Ao11 y526.length co11)) (fun _ hk => hk.2) (.int .i64 a0_0)) (fun _ hk => hk.2) (.int .i64 a0_1)) (fun _ hk => hk.2) (.int .i64 a0_2)) (fun _ hk => hk.2) (.int .i64 a0_3)) (fun _ hk => hk.2) (.int .i64 a0_4)) (fun _ hk => hk.2) (.int .i64 ji4)) (fun _ hk => hk.2) (.slice Ao11 y526.length co11)) (fun _ hk => trivial), qw HB.out⟩

end Go.Proofs.YtkeoifkdejnpfaaDoor.G
