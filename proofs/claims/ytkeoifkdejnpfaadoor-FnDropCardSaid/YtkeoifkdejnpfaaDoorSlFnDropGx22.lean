-- by gprint.py (a program of this session's own), over the kit's print.py; Lean checks it
import Derived.Test.YtkeoifkdejnpfaaDoorSlFnDropGx0
import Derived.Test.YtkeoifkdejnpfaaDoorSlFnDropGx20
import Derived.Test.YtkeoifkdejnpfaaDoorSlFnDropGx21
namespace Go.Proofs.YtkeoifkdejnpfaaDoor.G
open Go.RowKit Go.Proofs.YtkeoifkdejnpfaaDoorW.PrintWords Go.Proofs.YtkeoifkdejnpfaaDoorW.PrintLast Go.Proofs.YtkeoifkdejnpfaaDoorW.PrintMore
attribute [local go_sem] max2_int min2_int max_two min_two max_three min_three max_four min_four   -- for this text's walks alone
set_option linter.unusedVariables false
set_option linter.unusedSimpArgs false

/-! ### spec_l10Offer: function 65 -/
def spec_l10Offer.j0 : Nat → Int → Bool → Int → Int → Int → Int → Int → Int → List Int → Int → Int → Int → Int → Int → Int → Option (Int × Int × Int × Int × Int × Int × List Int × Int)
  | 0, _, _, _, _, _, _, _, _, _, _, _, _, _, _, _ => none
  | k + 1, x2, x23, x427000, x427001, x427002, x427003, x427004, x427005, x427006, x428000, x428001, x428002, x428003, x428004, x428005 => if x23 = true then ((spec_l10One.f x427003).bind fun t430 => (some (x427000, x427001, x427002, t430, x427004, x427005, x427006, 18))) else (if (x427006.length : Int) = x428004 then ((spec_l10One.f x427004).bind fun t431 => (some (x427000, x427001, x427002, x427003, t431, x427005, x427006, 7))) else ((some (([] : List Int) : List Int)).bind fun y432 => (if y432.length + x427006.length < 17592186044416 then ((some (y432 ++ x427006 : List Int)).bind fun y435 => (if y435.length < 17592186044416 then (some (x2, x427001, x427002, x427003, x427004, x427005, (y435 ++ [x2]), 0)) else (none))) else (none))))
def spec_l10Offer.f (k : Nat) (a0_0 : Int) (a0_1 : Int) (a0_2 : Int) (a0_3 : Int) (a0_4 : Int) (a0_5 : Int) (l0_6 : List Int) (a1_0 : Int) (a1_1 : Int) (a1_2 : Int) (a1_3 : Int) (a1_4 : Int) (a1_5 : Int) (a2 : Int) : Option (Int × Int × Int × Int × Int × Int × List Int × Int) := (spec_l10One.f a0_1).bind fun t429 => (if a0_0 ≥ 0 then (spec_l10Offer.j0 k a2 (decide ((wrap64 (a2 - a0_0)) < a1_1)) a0_0 t429 a0_2 a0_3 a0_4 a0_5 l0_6 a1_0 a1_1 a1_2 a1_3 a1_4 a1_5) else (spec_l10Offer.j0 k a2 false a0_0 t429 a0_2 a0_3 a0_4 a0_5 l0_6 a1_0 a1_1 a1_2 a1_3 a1_4 a1_5))
theorem spec_l10Offer.mono_l : ∀ k, (∀ y0 y1 y2 y3 y4 y5 y6 y7 y8 y9 y10 y11 y12 y13 y14, LeO (spec_l10Offer.j0 k y0 y1 y2 y3 y4 y5 y6 y7 y8 y9 y10 y11 y12 y13 y14) (spec_l10Offer.j0 (k + 1) y0 y1 y2 y3 y4 y5 y6 y7 y8 y9 y10 y11 y12 y13 y14))
  | 0 => fun _ _ _ _ _ _ _ _ _ _ _ _ _ _ _ r h => by simp [spec_l10Offer.j0] at h
  | k + 1 => by
    have ih0 := spec_l10Offer.mono_l k
    · intro y0 y1 y2 y3 y4 y5 y6 y7 y8 y9 y10 y11 y12 y13 y14
      unfold spec_l10Offer.j0
      repeat' first
      | (with_reducible exact ih0 _ _ _ _ _ _ _ _ _ _ _ _ _ _ _)
      | (with_reducible exact LeO.refl _)
      | (with_reducible exact LeO.none _)
      | (with_reducible refine LeO.ite ?_ ?_)
      | (with_reducible refine LeO.bind ?_ (fun _ => ?_))
      | exact ih0 _ _ _ _ _ _ _ _ _ _ _ _ _ _ _
      | exact LeO.none _
      | refine LeO.ite ?_ ?_
      | refine LeO.bind ?_ (fun _ => ?_)
theorem spec_l10Offer.mono : ∀ a0 a1 a2 a3 a4 a5 a6 a7 a8 a9 a10 a11 a12 a13 k, LeO (spec_l10Offer.f k a0 a1 a2 a3 a4 a5 a6 a7 a8 a9 a10 a11 a12 a13) (spec_l10Offer.f (k + 1) a0 a1 a2 a3 a4 a5 a6 a7 a8 a9 a10 a11 a12 a13) := by
  intro a0 a1 a2 a3 a4 a5 a6 a7 a8 a9 a10 a11 a12 a13 k
  have ih0 := spec_l10Offer.mono_l k
  unfold spec_l10Offer.f
  repeat' first
      | (with_reducible exact ih0 _ _ _ _ _ _ _ _ _ _ _ _ _ _ _)
      | (with_reducible exact LeO.refl _)
      | (with_reducible exact LeO.none _)
      | (with_reducible refine LeO.ite ?_ ?_)
      | (with_reducible refine LeO.bind ?_ (fun _ => ?_))
      | exact ih0 _ _ _ _ _ _ _ _ _ _ _ _ _ _ _
      | exact LeO.none _
      | refine LeO.ite ?_ ?_
      | refine LeO.bind ?_ (fun _ => ?_)
set_option maxHeartbeats 8000000 in
set_option maxRecDepth 100000 in
theorem spec_l10Offer.calls (k : Nat) (a0_0 : Int) (a0_1 : Int) (a0_2 : Int) (a0_3 : Int) (a0_4 : Int) (a0_5 : Int) (P0_6_ : Nat → Prop) (u9000_ : Value) (l0_6 : List Int) (a1_0 : Int) (a1_1 : Int) (a1_2 : Int) (a1_3 : Int) (a1_4 : Int) (a1_5 : Int) (a2 : Int) (r1 : Int) (r2 : Int) (r3 : Int) (r4 : Int) (r5 : Int) (r6 : Int) (r7 : List Int) (r8 : Int) (w0 w : World) (hB : Below w0.heap.size w0 w) (ho0_6 : Kd.R (Kd.int .i64) 3 w w0.heap.size P0_6_ u9000_ l0_6) (h : spec_l10Offer.f k a0_0 a0_1 a0_2 a0_3 a0_4 a0_5 l0_6 a1_0 a1_1 a1_2 a1_3 a1_4 a1_5 a2 = some (r1, r2, r3, r4, r5, r6, r7, r8)) :
    Calls Tryd.prog 65 #[.agg #[.int .i64 a0_0, .int .i64 a0_1, .int .i64 a0_2, .int .i64 a0_3, .int .i64 a0_4, .int .i64 a0_5, u9000_], .agg #[.int .i64 a1_0, .int .i64 a1_1, .int .i64 a1_2, .int .i64 a1_3, .int .i64 a1_4, .int .i64 a1_5], .int .i64 a2] w fun e w' => ∃ v6_ : Value, e = .returned (.tuple #[.agg #[.int .i64 r1, .int .i64 r2, .int .i64 r3, .int .i64 r4, .int .i64 r5, .int .i64 r6, v6_], .int .i64 r8]) ∧ Kd.R (Kd.int .i64) 3 w' w0.heap.size (fun k_ => (P0_6_ k_ ∨ w.heap.size ≤ k_)) v6_ r7 ∧ Below w0.heap.size w0 w' ∧ Kept w w' (fun k_ => P0_6_ k_) := by
  have hu46 := Tryd.underlying46
  have hu38 := Tryd.underlying38
  have HO0_6 := Aside0.mk (show Kd.R (Kd.int .i64) 3 w w0.heap.size (fun k_ => (P0_6_ k_ ∨ w.heap.size ≤ k_)) u9000_ l0_6 from Kd.R_mono ho0_6 (fun k_ hk => (.inl hk)))
  have HK := Aside0.mk (Kept.refl w (fun k_ => P0_6_ k_))
  have HW0 := Aside0.mk hB.size
  have HB := Aside0.mk hB
  clear hB
  have H : ((spec_l10One.f a0_1).bind fun t429 => (if a0_0 ≥ 0 then (spec_l10Offer.j0 k a2 (decide ((wrap64 (a2 - a0_0)) < a1_1)) a0_0 t429 a0_2 a0_3 a0_4 a0_5 l0_6 a1_0 a1_1 a1_2 a1_3 a1_4 a1_5) else (spec_l10Offer.j0 k a2 false a0_0 t429 a0_2 a0_3 a0_4 a0_5 l0_6 a1_0 a1_1 a1_2 a1_3 a1_4 a1_5))) = some (r1, r2, r3, r4, r5, r6, r7, r8) := h
  clear h
  replace H := Option.bind_eq_some_iff.mp H
  obtain ⟨t429, A40, H⟩ := H
  replace H : (if a0_0 ≥ 0 then (spec_l10Offer.j0 k a2 (decide ((wrap64 (a2 - a0_0)) < a1_1)) a0_0 t429 a0_2 a0_3 a0_4 a0_5 l0_6 a1_0 a1_1 a1_2 a1_3 a1_4 a1_5) else (spec_l10Offer.j0 k a2 false a0_0 t429 a0_2 a0_3 a0_4 a0_5 l0_6 a1_0 a1_1 a1_2 a1_3 a1_4 a1_5)) = some (r1, r2, r3, r4, r5, r6, r7, r8) := H
  have A4 := Aside0.mk A40
  clear A40
  have HC5 := Aside0.mk H
  clear H
  obtain ⟨Ao6, co6, eo6⟩ := Kd.R_slice HO0_6.out
  subst eo6
  go_enter Tryd.func65, Tryd.ntmps65
  go_upto_region 2 with (first | ((with_reducible refine gate_dst (N := 3) rfl ?_); refine box_event ?hg (N := 3) ?hd (cs := #[.int .i64 a0_0, .int .i64 a0_1, .int .i64 a0_2, .int .i64 a0_3, .int .i64 a0_4, .int .i64 a0_5, .slice Ao6 l0_6.length co6]) (t := 46) ?hr ?_; (case hd => rfl); (case hg => rfl); (case hr => first | (go_simp; done) | (go_simp; rfl)); intro gb426 hg w7 hbox hb; have n0_ := Aside0.mk (Kd.R_below (qr HO0_6.out) hb); have n1_ := Aside0.mk (Kept.below (S := (fun k_ => P0_6_ k_)) (by repeat (first | (with_reducible first | exact HK.out | apply Kept.alloc | apply Kept.drewN | apply Kept.drew) | exact HK.out)) hb); have n2_ := Aside0.mk (below_step (qw HB.out) hb); have n3_ := Aside0.mk (hbox); have n4_ := Aside0.mk ((by rw [hg]; exact (by first | exact HK.out.1 | exact (show Kept w _ (fun k_ => P0_6_ k_) from by repeat (first | (with_reducible first | exact HK.out | apply Kept.alloc | apply Kept.drewN | apply Kept.drew) | exact HK.out)).1) : w.heap.size ≤ gb426)); have n5_ := Aside0.mk ((by rw [hg]; exact (below_size (qw HB.out)) : w0.heap.size ≤ gb426)); clear HO0_6; clear HK; clear HB; have HO0_6 := n0_; have HK := n1_; have HB := n2_; have BK426 := n3_; have GW426 := n4_; have GE426 := n5_; clear n0_ n1_ n2_ n3_ n4_ n5_; clear hb hbox hg) | ((with_reducible refine gate_dst (N := 4) rfl ?_); refine box_event ?hg (N := 4) ?hd (cs := #[.int .i64 a1_0, .int .i64 a1_1, .int .i64 a1_2, .int .i64 a1_3, .int .i64 a1_4, .int .i64 a1_5]) (t := 38) ?hr ?_; (case hd => rfl); (case hg => rfl); (case hr => first | (go_simp; done) | (go_simp; rfl)); intro gb427 hg w8 hbox hb; have n0_ := Aside0.mk (Kd.R_below (qr HO0_6.out) hb); have n1_ := Aside0.mk (blk_below (g := gb426) (o := .cells #[.int .i64 a0_0, .int .i64 a0_1, .int .i64 a0_2, .int .i64 a0_3, .int .i64 a0_4, .int .i64 a0_5, .slice Ao6 l0_6.length co6] 46 (0, 0)) (qb BK426.out) hb); have n2_ := Aside0.mk (Kept.below (S := (fun k_ => P0_6_ k_)) (by repeat (first | (with_reducible first | exact HK.out | apply Kept.alloc | apply Kept.drewN | apply Kept.drew | refine Kept.setCell ?_ (.inr GW426.out) _) | exact HK.out)) hb); have n3_ := Aside0.mk (below_step (qw HB.out) hb); have n4_ := Aside0.mk (hbox); have n5_ := Aside0.mk ((by rw [hg]; exact (by first | exact HK.out.1 | exact (show Kept w _ (fun k_ => P0_6_ k_) from by repeat (first | (with_reducible first | exact HK.out | apply Kept.alloc | apply Kept.drewN | apply Kept.drew | refine Kept.setCell ?_ (.inr GW426.out) _) | exact HK.out)).1) : w.heap.size ≤ gb427)); have n6_ := Aside0.mk ((by rw [hg]; exact (below_size (qw HB.out)) : w0.heap.size ≤ gb427)); have n7_ := Aside0.mk ((by rw [hg]; exact Nat.ne_of_lt (blk_lt (g := gb426) (o := .cells #[.int .i64 a0_0, .int .i64 a0_1, .int .i64 a0_2, .int .i64 a0_3, .int .i64 a0_4, .int .i64 a0_5, .slice Ao6 l0_6.length co6] 46 (0, 0)) (qb BK426.out)) : gb426 ≠ gb427)); have n8_ := Aside0.mk ((by rw [hg]; exact Nat.ne_of_gt (blk_lt (g := gb426) (o := .cells #[.int .i64 a0_0, .int .i64 a0_1, .int .i64 a0_2, .int .i64 a0_3, .int .i64 a0_4, .int .i64 a0_5, .slice Ao6 l0_6.length co6] 46 (0, 0)) (qb BK426.out)) : gb427 ≠ gb426)); clear HO0_6; clear BK426; clear HK; clear HB; have HO0_6 := n0_; have BK426 := n1_; have HK := n2_; have HB := n3_; have BK427 := n4_; have GW427 := n5_; have GE427 := n6_; have NB426_427 := n7_; have NB427_426 := n8_; clear n0_ n1_ n2_ n3_ n4_ n5_ n6_ n7_ n8_; clear hb hbox hg) | ((with_reducible refine gate_dst (N := 6) rfl ?_); refine box_event ?hg (N := 6) ?hd (cs := #[.int .i64 0, .int .i64 0, .int .i64 0, .int .i64 0, .int .i64 0, .int .i64 0, .slice none 0 0]) (t := 46) ?hr ?_; (case hd => rfl); (case hg => rfl); (case hr => first | (go_simp; done) | (go_simp; rfl)); intro gb428 hg w9 hbox hb; have n0_ := Aside0.mk (Kd.R_below (qr HO0_6.out) hb); have n1_ := Aside0.mk (blk_below (g := gb426) (o := .cells #[.int .i64 a0_0, .int .i64 a0_1, .int .i64 a0_2, .int .i64 a0_3, .int .i64 a0_4, .int .i64 a0_5, .slice Ao6 l0_6.length co6] 46 (0, 0)) (qb BK426.out) hb); have n2_ := Aside0.mk (blk_below (g := gb427) (o := .cells #[.int .i64 a1_0, .int .i64 a1_1, .int .i64 a1_2, .int .i64 a1_3, .int .i64 a1_4, .int .i64 a1_5] 38 (0, 0)) (qb BK427.out) hb); have n3_ := Aside0.mk (Kept.below (S := (fun k_ => P0_6_ k_)) (by repeat (first | (with_reducible first | exact HK.out | apply Kept.alloc | apply Kept.drewN | apply Kept.drew | refine Kept.setCell ?_ (.inr GW426.out) _ | refine Kept.setCell ?_ (.inr GW427.out) _) | exact HK.out)) hb); have n4_ := Aside0.mk (below_step (qw HB.out) hb); have n5_ := Aside0.mk (hbox); have n6_ := Aside0.mk ((by rw [hg]; exact (by first | exact HK.out.1 | exact (show Kept w _ (fun k_ => P0_6_ k_) from by repeat (first | (with_reducible first | exact HK.out | apply Kept.alloc | apply Kept.drewN | apply Kept.drew | refine Kept.setCell ?_ (.inr GW426.out) _ | refine Kept.setCell ?_ (.inr GW427.out) _) | exact HK.out)).1) : w.heap.size ≤ gb428)); have n7_ := Aside0.mk ((by rw [hg]; exact (below_size (qw HB.out)) : w0.heap.size ≤ gb428)); have n8_ := Aside0.mk ((by rw [hg]; exact Nat.ne_of_lt (blk_lt (g := gb426) (o := .cells #[.int .i64 a0_0, .int .i64 a0_1, .int .i64 a0_2, .int .i64 a0_3, .int .i64 a0_4, .int .i64 a0_5, .slice Ao6 l0_6.length co6] 46 (0, 0)) (qb BK426.out)) : gb426 ≠ gb428)); have n9_ := Aside0.mk ((by rw [hg]; exact Nat.ne_of_gt (blk_lt (g := gb426) (o := .cells #[.int .i64 a0_0, .int .i64 a0_1, .int .i64 a0_2, .int .i64 a0_3, .int .i64 a0_4, .int .i64 a0_5, .slice Ao6 l0_6.length co6] 46 (0, 0)) (qb BK426.out)) : gb428 ≠ gb426)); have n10_ := Aside0.mk ((by rw [hg]; exact Nat.ne_of_lt (blk_lt (g := gb427) (o := .cells #[.int .i64 a1_0, .int .i64 a1_1, .int .i64 a1_2, .int .i64 a1_3, .int .i64 a1_4, .int .i64 a1_5] 38 (0, 0)) (qb BK427.out)) : gb427 ≠ gb428)); have n11_ := Aside0.mk ((by rw [hg]; exact Nat.ne_of_gt (blk_lt (g := gb427) (o := .cells #[.int .i64 a1_0, .int .i64 a1_1, .int .i64 a1_2, .int .i64 a1_3, .int .i64 a1_4, .int .i64 a1_5] 38 (0, 0)) (qb BK427.out)) : gb428 ≠ gb427)); clear HO0_6; clear BK426; clear BK427; clear HK; clear HB; have HO0_6 := n0_; have BK426 := n1_; have BK427 := n2_; have HK := n3_; have HB := n4_; have BK428 := n5_; have GW428 := n6_; have GE428 := n7_; have NB426_428 := n8_; have NB428_426 := n9_; have NB427_428 := n10_; have NB428_427 := n11_; clear n0_ n1_ n2_ n3_ n4_ n5_ n6_ n7_ n8_ n9_ n10_ n11_; clear hb hbox hg; have hnb10 := NB426_427.out; have hnc10 := NB427_426.out; have hnb11 := NB426_428.out; have hnc11 := NB428_426.out; have hcz12_0 : w9.cell? ⟨gb426, 0, none⟩ = some (.int .i64 a0_0) := (blk_cell BK426.out 0).trans rfl; have hcz12_1 : w9.cell? ⟨gb426, 1, none⟩ = some (.int .i64 a0_1) := (blk_cell BK426.out 1).trans rfl; have hcz12_2 : w9.cell? ⟨gb426, 2, none⟩ = some (.int .i64 a0_2) := (blk_cell BK426.out 2).trans rfl; have hcz12_3 : w9.cell? ⟨gb426, 3, none⟩ = some (.int .i64 a0_3) := (blk_cell BK426.out 3).trans rfl; have hcz12_4 : w9.cell? ⟨gb426, 4, none⟩ = some (.int .i64 a0_4) := (blk_cell BK426.out 4).trans rfl; have hcz12_5 : w9.cell? ⟨gb426, 5, none⟩ = some (.int .i64 a0_5) := (blk_cell BK426.out 5).trans rfl; have hcz12_6 : w9.cell? ⟨gb426, 6, none⟩ = some (.slice Ao6 l0_6.length co6) := (blk_cell BK426.out 6).trans rfl; have hfz12_0 := blk_frozen BK426.out 0; have hfz12_1 := blk_frozen BK426.out 1; have hfz12_2 := blk_frozen BK426.out 2; have hfz12_3 := blk_frozen BK426.out 3; have hfz12_4 := blk_frozen BK426.out 4; have hfz12_5 := blk_frozen BK426.out 5; have hfz12_6 := blk_frozen BK426.out 6) | ((with_reducible refine gate_callee (f := 77) rfl ?_); refine goesL_ (some 10) rfl rfl Tryd.func77 (by kernel_rfl) rfl #[.int .i64 a0_1] rfl qa ?_; (with_reducible refine (spec_l10One.calls a0_1 t429 _ A4.out).mono ?_); rintro e w13 ⟨rfl, hb⟩; refine ⟨_, rfl, ?_⟩; have n0_ := Aside0.mk (Kd.R_below (qr HO0_6.out) hb); have n1_ := Aside0.mk (blk_below (g := gb426) (o := .cells #[.int .i64 a0_0, .int .i64 a0_1, .int .i64 a0_2, .int .i64 a0_3, .int .i64 a0_4, .int .i64 a0_5, .slice Ao6 l0_6.length co6] 46 (0, 0)) (qb BK426.out) hb); have n2_ := Aside0.mk (blk_below (g := gb427) (o := .cells #[.int .i64 a1_0, .int .i64 a1_1, .int .i64 a1_2, .int .i64 a1_3, .int .i64 a1_4, .int .i64 a1_5] 38 (0, 0)) (qb BK427.out) hb); have n3_ := Aside0.mk (blk_below (g := gb428) (o := .cells #[.int .i64 0, .int .i64 0, .int .i64 0, .int .i64 0, .int .i64 0, .int .i64 0, .slice none 0 0] 46 (0, 0)) (qb BK428.out) hb); have n4_ := Aside0.mk (Kept.below (S := (fun k_ => P0_6_ k_)) (by repeat (first | (with_reducible first | exact HK.out | apply Kept.alloc | apply Kept.drewN | apply Kept.drew | refine Kept.setCell ?_ (.inr GW426.out) _ | refine Kept.setCell ?_ (.inr GW427.out) _ | refine Kept.setCell ?_ (.inr GW428.out) _) | exact HK.out)) hb); have n5_ := Aside0.mk (below_step (qw HB.out) hb); clear HO0_6; clear BK426; clear BK427; clear BK428; clear HK; clear HB; have HO0_6 := n0_; have BK426 := n1_; have BK427 := n2_; have BK428 := n3_; have HK := n4_; have HB := n5_; clear n0_ n1_ n2_ n3_ n4_ n5_; (try clear hb); (try clear hb2); (try clear hk); (try clear hi); have hcz14_0 : w13.cell? ⟨gb426, 0, none⟩ = some (.int .i64 a0_0) := (blk_cell BK426.out 0).trans rfl; have hcz14_1 : w13.cell? ⟨gb426, 1, none⟩ = some (.int .i64 a0_1) := (blk_cell BK426.out 1).trans rfl; have hcz14_2 : w13.cell? ⟨gb426, 2, none⟩ = some (.int .i64 a0_2) := (blk_cell BK426.out 2).trans rfl; have hcz14_3 : w13.cell? ⟨gb426, 3, none⟩ = some (.int .i64 a0_3) := (blk_cell BK426.out 3).trans rfl; have hcz14_4 : w13.cell? ⟨gb426, 4, none⟩ = some (.int .i64 a0_4) := (blk_cell BK426.out 4).trans rfl; have hcz14_5 : w13.cell? ⟨gb426, 5, none⟩ = some (.int .i64 a0_5) := (blk_cell BK426.out 5).trans rfl; have hcz14_6 : w13.cell? ⟨gb426, 6, none⟩ = some (.slice Ao6 l0_6.length co6) := (blk_cell BK426.out 6).trans rfl; have hfz14_0 := blk_frozen BK426.out 0; have hfz14_1 := blk_frozen BK426.out 1; have hfz14_2 := blk_frozen BK426.out 2; have hfz14_3 := blk_frozen BK426.out 3; have hfz14_4 := blk_frozen BK426.out 4; have hfz14_5 := blk_frozen BK426.out 5; have hfz14_6 := blk_frozen BK426.out 6))
  (try simp only [Act.put, List.setIfInBounds_toArray, List.set_cons_zero, List.set_cons_succ])
  go_cut [23] (fun v23 wc => ∃ (kq : Nat) (x23_4 : Bool), v23 = .bool x23_4 ∧ Aside0 (spec_l10Offer.j0 kq a2 x23_4 a0_0 t429 a0_2 a0_3 a0_4 a0_5 l0_6 a1_0 a1_1 a1_2 a1_3 a1_4 a1_5 = some (r1, r2, r3, r4, r5, r6, r7, r8)) ∧ Aside0 (kq ≤ k) ∧ Aside0 (Kd.R (Kd.int .i64) 3 wc w0.heap.size (fun k_ => (P0_6_ k_ ∨ w.heap.size ≤ k_)) (.slice Ao6 l0_6.length co6) l0_6) ∧ Aside0 (wc.heap[gb426]? = some (.cells #[.int .i64 a0_0, .int .i64 t429, .int .i64 a0_2, .int .i64 a0_3, .int .i64 a0_4, .int .i64 a0_5, (.slice Ao6 l0_6.length co6)] 46 (0, 0))) ∧ Aside0 (wc.heap[gb427]? = some (.cells #[.int .i64 a1_0, .int .i64 a1_1, .int .i64 a1_2, .int .i64 a1_3, .int .i64 a1_4, .int .i64 a1_5] 38 (0, 0))) ∧ Aside0 (wc.heap[gb428]? = some (.cells #[.int .i64 0, .int .i64 0, .int .i64 0, .int .i64 0, .int .i64 0, .int .i64 0, (.slice none 0 0)] 46 (0, 0))) ∧ Aside0 (Kept w wc (fun k_ => P0_6_ k_)) ∧ Aside0 (Below w0.heap.size w0 wc))
  case first =>
    have H := HC5.out
    clear HC5
    by_cases c15 : a0_0 ≥ 0
    · rw [if_pos c15] at H
      have c15b0 : decide (0 ≤ a0_0) = true := decide_eq_true c15
      clear c15
      (first | rw [c15b0] | (simp only [i64_w, i32_w]; rw [c15b0]) | rw [c15x0] | (simp only [i64_w, i32_w]; rw [c15x0]) | skip)
      have H' := Aside0.mk H
      clear H
      have hnb16 := NB426_427.out
      have hnc16 := NB427_426.out
      have hnb17 := NB426_428.out
      have hnc17 := NB428_426.out
      have hcz18_0 : w13.cell? ⟨gb426, 0, none⟩ = some (.int .i64 a0_0) := (blk_cell BK426.out 0).trans rfl
      have hcz18_1 : w13.cell? ⟨gb426, 1, none⟩ = some (.int .i64 a0_1) := (blk_cell BK426.out 1).trans rfl
      have hcz18_2 : w13.cell? ⟨gb426, 2, none⟩ = some (.int .i64 a0_2) := (blk_cell BK426.out 2).trans rfl
      have hcz18_3 : w13.cell? ⟨gb426, 3, none⟩ = some (.int .i64 a0_3) := (blk_cell BK426.out 3).trans rfl
      have hcz18_4 : w13.cell? ⟨gb426, 4, none⟩ = some (.int .i64 a0_4) := (blk_cell BK426.out 4).trans rfl
      have hcz18_5 : w13.cell? ⟨gb426, 5, none⟩ = some (.int .i64 a0_5) := (blk_cell BK426.out 5).trans rfl
      have hcz18_6 : w13.cell? ⟨gb426, 6, none⟩ = some (.slice Ao6 l0_6.length co6) := (blk_cell BK426.out 6).trans rfl
      have hfz18_0 := blk_frozen BK426.out 0
      have hfz18_1 := blk_frozen BK426.out 1
      have hfz18_2 := blk_frozen BK426.out 2
      have hfz18_3 := blk_frozen BK426.out 3
      have hfz18_4 := blk_frozen BK426.out 4
      have hfz18_5 := blk_frozen BK426.out 5
      have hfz18_6 := blk_frozen BK426.out 6
      have hnb19 := NB427_428.out
      have hnc19 := NB428_427.out
      have hcz20_0 : w13.cell? ⟨gb427, 0, none⟩ = some (.int .i64 a1_0) := (blk_cell BK427.out 0).trans rfl
      have hcz20_1 : w13.cell? ⟨gb427, 1, none⟩ = some (.int .i64 a1_1) := (blk_cell BK427.out 1).trans rfl
      have hcz20_2 : w13.cell? ⟨gb427, 2, none⟩ = some (.int .i64 a1_2) := (blk_cell BK427.out 2).trans rfl
      have hcz20_3 : w13.cell? ⟨gb427, 3, none⟩ = some (.int .i64 a1_3) := (blk_cell BK427.out 3).trans rfl
      have hcz20_4 : w13.cell? ⟨gb427, 4, none⟩ = some (.int .i64 a1_4) := (blk_cell BK427.out 4).trans rfl
      have hcz20_5 : w13.cell? ⟨gb427, 5, none⟩ = some (.int .i64 a1_5) := (blk_cell BK427.out 5).trans rfl
      have hfz20_0 := blk_frozen BK427.out 0
      have hfz20_1 := blk_frozen BK427.out 1
      have hfz20_2 := blk_frozen BK427.out 2
      have hfz20_3 := blk_frozen BK427.out 3
      have hfz20_4 := blk_frozen BK427.out 4
      have hfz20_5 := blk_frozen BK427.out 5
      go_wp2
      go_meet
      case rel => exact ⟨_, (decide ((wrap64 (a2 - a0_0)) < a1_1)), (by first | rfl | (simp; done) | (simp [*]; done)), H', ⟨by first | omega | exact Nat.le_refl _⟩, ⟨by (with_reducible repeat (first | apply Kd.R_alloc | apply Kd.R_drewN | apply Kd.R_drew)); exact Kd.R_mono (Kd.R_far (p := ⟨gb426, 1, none⟩) (Kd.R_types HO0_6.out BK426.out (by decide)) (fun _ hk => hk.2) (.int .i64 t429)) (fun _ hk => hk.1)⟩, ⟨by (with_reducible repeat (first | refine blk_drewN ?_ _ | refine blk_drew ?_ | refine blk_alloc ?_ _)); refine blk_put (cs := #[.int .i64 a0_0, .int .i64 a0_1, .int .i64 a0_2, .int .i64 a0_3, .int .i64 a0_4, .int .i64 a0_5, .slice Ao6 l0_6.length co6]) ?_ 1 _ rfl; (with_reducible repeat (first | refine blk_drewN ?_ _ | refine blk_drew ?_ | refine blk_alloc ?_ _)); exact BK426.out⟩, ⟨by (with_reducible repeat (first | refine blk_drewN ?_ _ | refine blk_drew ?_ | refine blk_alloc ?_ _)); refine blk_far ?_ NB427_426.out _; (with_reducible repeat (first | refine blk_drewN ?_ _ | refine blk_drew ?_ | refine blk_alloc ?_ _)); exact BK427.out⟩, ⟨by (with_reducible repeat (first | refine blk_drewN ?_ _ | refine blk_drew ?_ | refine blk_alloc ?_ _)); refine blk_far ?_ NB428_426.out _; (with_reducible repeat (first | refine blk_drewN ?_ _ | refine blk_drew ?_ | refine blk_alloc ?_ _)); exact BK428.out⟩, ⟨by repeat (first | (with_reducible first | exact HK.out | apply Kept.alloc | apply Kept.drewN | apply Kept.drew | refine Kept.setCell ?_ (.inr GW426.out) _ | refine Kept.setCell ?_ (.inr GW427.out) _ | refine Kept.setCell ?_ (.inr GW428.out) _) | exact HK.out)⟩, ⟨qw HB.out⟩⟩
    · rw [if_neg c15] at H
      have c15b0 : decide (0 ≤ a0_0) = false := decide_eq_false c15
      clear c15
      (first | rw [c15b0] | (simp only [i64_w, i32_w]; rw [c15b0]) | rw [c15x0] | (simp only [i64_w, i32_w]; rw [c15x0]) | skip)
      have H' := Aside0.mk H
      clear H
      have hnb21 := NB426_427.out
      have hnc21 := NB427_426.out
      have hnb22 := NB426_428.out
      have hnc22 := NB428_426.out
      have hcz23_0 : w13.cell? ⟨gb426, 0, none⟩ = some (.int .i64 a0_0) := (blk_cell BK426.out 0).trans rfl
      have hcz23_1 : w13.cell? ⟨gb426, 1, none⟩ = some (.int .i64 a0_1) := (blk_cell BK426.out 1).trans rfl
      have hcz23_2 : w13.cell? ⟨gb426, 2, none⟩ = some (.int .i64 a0_2) := (blk_cell BK426.out 2).trans rfl
      have hcz23_3 : w13.cell? ⟨gb426, 3, none⟩ = some (.int .i64 a0_3) := (blk_cell BK426.out 3).trans rfl
      have hcz23_4 : w13.cell? ⟨gb426, 4, none⟩ = some (.int .i64 a0_4) := (blk_cell BK426.out 4).trans rfl
      have hcz23_5 : w13.cell? ⟨gb426, 5, none⟩ = some (.int .i64 a0_5) := (blk_cell BK426.out 5).trans rfl
      have hcz23_6 : w13.cell? ⟨gb426, 6, none⟩ = some (.slice Ao6 l0_6.length co6) := (blk_cell BK426.out 6).trans rfl
      have hfz23_0 := blk_frozen BK426.out 0
      have hfz23_1 := blk_frozen BK426.out 1
      have hfz23_2 := blk_frozen BK426.out 2
      have hfz23_3 := blk_frozen BK426.out 3
      have hfz23_4 := blk_frozen BK426.out 4
      have hfz23_5 := blk_frozen BK426.out 5
      have hfz23_6 := blk_frozen BK426.out 6
      go_wp2
      go_meet
      case rel => exact ⟨_, (false), (by first | rfl | (simp; done) | (simp [*]; done)), H', ⟨by first | omega | exact Nat.le_refl _⟩, ⟨by (with_reducible repeat (first | apply Kd.R_alloc | apply Kd.R_drewN | apply Kd.R_drew)); exact Kd.R_mono (Kd.R_far (p := ⟨gb426, 1, none⟩) (Kd.R_types HO0_6.out BK426.out (by decide)) (fun _ hk => hk.2) (.int .i64 t429)) (fun _ hk => hk.1)⟩, ⟨by (with_reducible repeat (first | refine blk_drewN ?_ _ | refine blk_drew ?_ | refine blk_alloc ?_ _)); refine blk_put (cs := #[.int .i64 a0_0, .int .i64 a0_1, .int .i64 a0_2, .int .i64 a0_3, .int .i64 a0_4, .int .i64 a0_5, .slice Ao6 l0_6.length co6]) ?_ 1 _ rfl; (with_reducible repeat (first | refine blk_drewN ?_ _ | refine blk_drew ?_ | refine blk_alloc ?_ _)); exact BK426.out⟩, ⟨by (with_reducible repeat (first | refine blk_drewN ?_ _ | refine blk_drew ?_ | refine blk_alloc ?_ _)); refine blk_far ?_ NB427_426.out _; (with_reducible repeat (first | refine blk_drewN ?_ _ | refine blk_drew ?_ | refine blk_alloc ?_ _)); exact BK427.out⟩, ⟨by (with_reducible repeat (first | refine blk_drewN ?_ _ | refine blk_drew ?_ | refine blk_alloc ?_ _)); refine blk_far ?_ NB428_426.out _; (with_reducible repeat (first | refine blk_drewN ?_ _ | refine blk_drew ?_ | refine blk_alloc ?_ _)); exact BK428.out⟩, ⟨by repeat (first | (with_reducible first | exact HK.out | apply Kept.alloc | apply Kept.drewN | apply Kept.drew | refine Kept.setCell ?_ (.inr GW426.out) _ | refine Kept.setCell ?_ (.inr GW427.out) _ | refine Kept.setCell ?_ (.inr GW428.out) _) | exact HK.out)⟩, ⟨qw HB.out⟩⟩
  case rest =>
    clear HC5
    try clear c1
    try clear c2
    try clear p2
    try clear c6
    try clear p6
    try clear c7
    try clear c10
    try clear c11
    try clear c15
    try clear c15b0
    try clear c16
    try clear c17
    try clear c19
    try clear c21
    try clear c22
    try clear hcz12_0
    try clear hcz12_1
    try clear hcz12_2
    try clear hcz12_3
    try clear hcz12_4
    try clear hcz12_5
    try clear hcz12_6
    try clear hcz14_0
    try clear hcz14_1
    try clear hcz14_2
    try clear hcz14_3
    try clear hcz14_4
    try clear hcz14_5
    try clear hcz14_6
    try clear hcz18_0
    try clear hcz18_1
    try clear hcz18_2
    try clear hcz18_3
    try clear hcz18_4
    try clear hcz18_5
    try clear hcz18_6
    try clear hcz20_0
    try clear hcz20_1
    try clear hcz20_2
    try clear hcz20_3
    try clear hcz20_4
    try clear hcz20_5
    try clear hcz23_0
    try clear hcz23_1
    try clear hcz23_2
    try clear hcz23_3
    try clear hcz23_4
    try clear hcz23_5
    try clear hcz23_6
    try clear hfz12_0
    try clear hfz12_1
    try clear hfz12_2
    try clear hfz12_3
    try clear hfz12_4
    try clear hfz12_5
    try clear hfz12_6
    try clear hfz14_0
    try clear hfz14_1
    try clear hfz14_2
    try clear hfz14_3
    try clear hfz14_4
    try clear hfz14_5
    try clear hfz14_6
    try clear hfz18_0
    try clear hfz18_1
    try clear hfz18_2
    try clear hfz18_3
    try clear hfz18_4
    try clear hfz18_5
    try clear hfz18_6
    try clear hfz20_0
    try clear hfz20_1
    try clear hfz20_2
    try clear hfz20_3
    try clear hfz20_4
    try clear hfz20_5
    try clear hfz23_0
    try clear hfz23_1
    try clear hfz23_2
    try clear hfz23_3
    try clear hfz23_4
    try clear hfz23_5
    try clear hfz23_6
    obtain ⟨kq, x23_4, rfl, HA, HJ4, HO_427006, BK426, BK427, BK428, HK, HB⟩ := hcut
    cases kq with
    | zero => exact absurd HA.out (by simp [spec_l10Offer.j0])
    | succ kj4 =>
      have H := HA.out
      clear HA
      simp only [spec_l10Offer.j0] at H
      by_cases c24 : x23_4 = true
      · subst c24
        have H1 : ((spec_l10One.f a0_3).bind fun t430 => (some (a0_0, t429, a0_2, t430, a0_4, a0_5, l0_6, 18))) = some (r1, r2, r3, r4, r5, r6, r7, r8) := by rw [if_pos rfl] at H; exact H
        clear H
        have H := H1
        clear H1
        replace H := Option.bind_eq_some_iff.mp H
        obtain ⟨t430, A250, H⟩ := H
        replace H : (some (a0_0, t429, a0_2, t430, a0_4, a0_5, l0_6, 18)) = some (r1, r2, r3, r4, r5, r6, r7, r8) := H
        have A25 := Aside0.mk A250
        clear A250
        simp only [Option.some.injEq, Prod.mk.injEq] at H
        obtain ⟨rfl, rfl, rfl, rfl, rfl, rfl, rfl, rfl⟩ := H
        have hnb26 := NB426_427.out
        have hnc26 := NB427_426.out
        have hnb27 := NB426_428.out
        have hnc27 := NB428_426.out
        have hcz28_0 : wc.cell? ⟨gb426, 0, none⟩ = some (.int .i64 a0_0) := (blk_cell BK426.out 0).trans rfl
        have hcz28_1 : wc.cell? ⟨gb426, 1, none⟩ = some (.int .i64 t429) := (blk_cell BK426.out 1).trans rfl
        have hcz28_2 : wc.cell? ⟨gb426, 2, none⟩ = some (.int .i64 a0_2) := (blk_cell BK426.out 2).trans rfl
        have hcz28_3 : wc.cell? ⟨gb426, 3, none⟩ = some (.int .i64 a0_3) := (blk_cell BK426.out 3).trans rfl
        have hcz28_4 : wc.cell? ⟨gb426, 4, none⟩ = some (.int .i64 a0_4) := (blk_cell BK426.out 4).trans rfl
        have hcz28_5 : wc.cell? ⟨gb426, 5, none⟩ = some (.int .i64 a0_5) := (blk_cell BK426.out 5).trans rfl
        have hcz28_6 : wc.cell? ⟨gb426, 6, none⟩ = some (.slice Ao6 l0_6.length co6) := (blk_cell BK426.out 6).trans rfl
        have hfz28_0 := blk_frozen BK426.out 0
        have hfz28_1 := blk_frozen BK426.out 1
        have hfz28_2 := blk_frozen BK426.out 2
        have hfz28_3 := blk_frozen BK426.out 3
        have hfz28_4 := blk_frozen BK426.out 4
        have hfz28_5 := blk_frozen BK426.out 5
        have hfz28_6 := blk_frozen BK426.out 6
        go_wp2_with (first | ((with_reducible refine gate_callee (f := 77) rfl ?_); refine goesL_ (some 26) rfl rfl Tryd.func77 (by kernel_rfl) rfl #[.int .i64 a0_3] rfl qa ?_; (with_reducible refine (spec_l10One.calls a0_3 t430 _ A25.out).mono ?_); rintro e w29 ⟨rfl, hb⟩; refine ⟨_, rfl, ?_⟩; have n0_ := Aside0.mk (Kd.R_below (qr HO_427006.out) hb); have n1_ := Aside0.mk (blk_below (g := gb426) (o := .cells #[.int .i64 a0_0, .int .i64 t429, .int .i64 a0_2, .int .i64 a0_3, .int .i64 a0_4, .int .i64 a0_5, .slice Ao6 l0_6.length co6] 46 (0, 0)) (qb BK426.out) hb); have n2_ := Aside0.mk (blk_below (g := gb427) (o := .cells #[.int .i64 a1_0, .int .i64 a1_1, .int .i64 a1_2, .int .i64 a1_3, .int .i64 a1_4, .int .i64 a1_5] 38 (0, 0)) (qb BK427.out) hb); have n3_ := Aside0.mk (blk_below (g := gb428) (o := .cells #[.int .i64 0, .int .i64 0, .int .i64 0, .int .i64 0, .int .i64 0, .int .i64 0, .slice none 0 0] 46 (0, 0)) (qb BK428.out) hb); have n4_ := Aside0.mk (Kept.below (S := (fun k_ => P0_6_ k_)) (by repeat (first | (with_reducible first | exact HK.out | apply Kept.alloc | apply Kept.drewN | apply Kept.drew | refine Kept.setCell ?_ (.inr GW426.out) _ | refine Kept.setCell ?_ (.inr GW427.out) _ | refine Kept.setCell ?_ (.inr GW428.out) _) | exact HK.out)) hb); have n5_ := Aside0.mk (below_step (qw HB.out) hb); clear HO_427006; clear BK426; clear BK427; clear BK428; clear HK; clear HB; have HO_427006 := n0_; have BK426 := n1_; have BK427 := n2_; have BK428 := n3_; have HK := n4_; have HB := n5_; clear n0_ n1_ n2_ n3_ n4_ n5_; (try clear hb); (try clear hb2); (try clear hk); (try clear hi); have hcz30_0 : w29.cell? ⟨gb426, 0, none⟩ = some (.int .i64 a0_0) := (blk_cell BK426.out 0).trans rfl; have hcz30_1 : w29.cell? ⟨gb426, 1, none⟩ = some (.int .i64 t429) := (blk_cell BK426.out 1).trans rfl; have hcz30_2 : w29.cell? ⟨gb426, 2, none⟩ = some (.int .i64 a0_2) := (blk_cell BK426.out 2).trans rfl; have hcz30_3 : w29.cell? ⟨gb426, 3, none⟩ = some (.int .i64 a0_3) := (blk_cell BK426.out 3).trans rfl; have hcz30_4 : w29.cell? ⟨gb426, 4, none⟩ = some (.int .i64 a0_4) := (blk_cell BK426.out 4).trans rfl; have hcz30_5 : w29.cell? ⟨gb426, 5, none⟩ = some (.int .i64 a0_5) := (blk_cell BK426.out 5).trans rfl; have hcz30_6 : w29.cell? ⟨gb426, 6, none⟩ = some (.slice Ao6 l0_6.length co6) := (blk_cell BK426.out 6).trans rfl; have hfz30_0 := blk_frozen BK426.out 0; have hfz30_1 := blk_frozen BK426.out 1; have hfz30_2 := blk_frozen BK426.out 2; have hfz30_3 := blk_frozen BK426.out 3; have hfz30_4 := blk_frozen BK426.out 4; have hfz30_5 := blk_frozen BK426.out 5; have hfz30_6 := blk_frozen BK426.out 6; have hnb31 := NB428_427.out; have hnc31 := NB427_428.out; have hcz32_0 : w29.cell? ⟨gb428, 0, none⟩ = some (.int .i64 0) := (blk_cell BK428.out 0).trans rfl; have hcz32_1 : w29.cell? ⟨gb428, 1, none⟩ = some (.int .i64 0) := (blk_cell BK428.out 1).trans rfl; have hcz32_2 : w29.cell? ⟨gb428, 2, none⟩ = some (.int .i64 0) := (blk_cell BK428.out 2).trans rfl; have hcz32_3 : w29.cell? ⟨gb428, 3, none⟩ = some (.int .i64 0) := (blk_cell BK428.out 3).trans rfl; have hcz32_4 : w29.cell? ⟨gb428, 4, none⟩ = some (.int .i64 0) := (blk_cell BK428.out 4).trans rfl; have hcz32_5 : w29.cell? ⟨gb428, 5, none⟩ = some (.int .i64 0) := (blk_cell BK428.out 5).trans rfl; have hcz32_6 : w29.cell? ⟨gb428, 6, none⟩ = some (.slice none 0 0) := (blk_cell BK428.out 6).trans rfl; have hfz32_0 := blk_frozen BK428.out 0; have hfz32_1 := blk_frozen BK428.out 1; have hfz32_2 := blk_frozen BK428.out 2; have hfz32_3 := blk_frozen BK428.out 3; have hfz32_4 := blk_frozen BK428.out 4; have hfz32_5 := blk_frozen BK428.out 5; have hfz32_6 := blk_frozen BK428.out 6))
        refine bodyPost_ret (results_ct rfl _ _ gb428 46 #[.int .i64 a0_0, .int .i64 t429, .int .i64 a0_2, .int .i64 t430, .int .i64 a0_4, .int .i64 a0_5, .slice Ao6 l0_6.length co6] (0, 0) _ rfl (by (with_reducible repeat (first | refine blk_drewN ?_ _ | refine blk_drew ?_ | refine blk_alloc ?_ _)); refine blk_put (cs := #[.int .i64 a0_0, .int .i64 t429, .int .i64 a0_2, .int .i64 t430, .int .i64 a0_4, .int .i64 a0_5, .slice none 0 0]) ?_ 6 _ rfl; (with_reducible repeat (first | refine blk_drewN ?_ _ | refine blk_drew ?_ | refine blk_alloc ?_ _)); refine blk_put (cs := #[.int .i64 a0_0, .int .i64 t429, .int .i64 a0_2, .int .i64 t430, .int .i64 a0_4, .int .i64 0, .slice none 0 0]) ?_ 5 _ rfl; (with_reducible repeat (first | refine blk_drewN ?_ _ | refine blk_drew ?_ | refine blk_alloc ?_ _)); refine blk_put (cs := #[.int .i64 a0_0, .int .i64 t429, .int .i64 a0_2, .int .i64 t430, .int .i64 0, .int .i64 0, .slice none 0 0]) ?_ 4 _ rfl; (with_reducible repeat (first | refine blk_drewN ?_ _ | refine blk_drew ?_ | refine blk_alloc ?_ _)); refine blk_put (cs := #[.int .i64 a0_0, .int .i64 t429, .int .i64 a0_2, .int .i64 0, .int .i64 0, .int .i64 0, .slice none 0 0]) ?_ 3 _ rfl; (with_reducible repeat (first | refine blk_drewN ?_ _ | refine blk_drew ?_ | refine blk_alloc ?_ _)); refine blk_put (cs := #[.int .i64 a0_0, .int .i64 t429, .int .i64 0, .int .i64 0, .int .i64 0, .int .i64 0, .slice none 0 0]) ?_ 2 _ rfl; (with_reducible repeat (first | refine blk_drewN ?_ _ | refine blk_drew ?_ | refine blk_alloc ?_ _)); refine blk_put (cs := #[.int .i64 a0_0, .int .i64 0, .int .i64 0, .int .i64 0, .int .i64 0, .int .i64 0, .slice none 0 0]) ?_ 1 _ rfl; (with_reducible repeat (first | refine blk_drewN ?_ _ | refine blk_drew ?_ | refine blk_alloc ?_ _)); refine blk_put (cs := #[.int .i64 0, .int .i64 0, .int .i64 0, .int .i64 0, .int .i64 0, .int .i64 0, .slice none 0 0]) ?_ 0 _ rfl; (with_reducible repeat (first | refine blk_drewN ?_ _ | refine blk_drew ?_ | refine blk_alloc ?_ _)); refine blk_far ?_ NB428_426.out _; (with_reducible repeat (first | refine blk_drewN ?_ _ | refine blk_drew ?_ | refine blk_alloc ?_ _)); exact BK428.out) Tryd.underlying46 rfl (by kernel_rfl)) rfl ?_
        exact ⟨_, qe, by (with_reducible repeat (first | apply Kd.R_alloc | apply Kd.R_drewN | apply Kd.R_drew)); exact Kd.R_mono (Kd.R_far (p := ⟨gb428, 6, none⟩) (Kd.R_far (p := ⟨gb428, 5, none⟩) (Kd.R_far (p := ⟨gb428, 4, none⟩) (Kd.R_far (p := ⟨gb428, 3, none⟩) (Kd.R_far (p := ⟨gb428, 2, none⟩) (Kd.R_far (p := ⟨gb428, 1, none⟩) (Kd.R_far (p := ⟨gb428, 0, none⟩) (Kd.R_far (p := ⟨gb426, 3, none⟩) (Kd.R_types (Kd.R_types HO_427006.out BK426.out (by decide)) BK428.out (by decide)) (fun _ hk => hk.1.2) (.int .i64 t430)) (fun _ hk => hk.2) (.int .i64 a0_0)) (fun _ hk => hk.2) (.int .i64 t429)) (fun _ hk => hk.2) (.int .i64 a0_2)) (fun _ hk => hk.2) (.int .i64 t430)) (fun _ hk => hk.2) (.int .i64 a0_4)) (fun _ hk => hk.2) (.int .i64 a0_5)) (fun _ hk => hk.2) (.slice Ao6 l0_6.length co6)) (fun _ hk => hk.1.1), qw HB.out, by repeat (first | (with_reducible first | exact HK.out | apply Kept.alloc | apply Kept.drewN | apply Kept.drew | refine Kept.setCell ?_ (.inr GW426.out) _ | refine Kept.setCell ?_ (.inr GW427.out) _ | refine Kept.setCell ?_ (.inr GW428.out) _) | exact HK.out)⟩
      · replace c24 := Bool.eq_false_iff.mpr c24
        subst c24
        have H1 : (if (l0_6.length : Int) = a1_4 then ((spec_l10One.f a0_4).bind fun t431 => (some (a0_0, t429, a0_2, a0_3, t431, a0_5, l0_6, 7))) else ((some (([] : List Int) : List Int)).bind fun y432 => (if y432.length + l0_6.length < 17592186044416 then ((some (y432 ++ l0_6 : List Int)).bind fun y435 => (if y435.length < 17592186044416 then (some (a2, t429, a0_2, a0_3, a0_4, a0_5, (y435 ++ [a2]), 0)) else (none))) else (none)))) = some (r1, r2, r3, r4, r5, r6, r7, r8) := by rw [if_neg (show ¬ (false = true) by decide)] at H; exact H
        clear H
        have H := H1
        clear H1
        by_cases c33 : (l0_6.length : Int) = a1_4
        · rw [if_pos c33] at H
          have c33b0 : ((l0_6.length : Int) == a1_4) = true := beq_iff_eq.mpr c33
          have c33b1 : ((l0_6.length : Int) != a1_4) = false := bne_eq_false_iff_eq.mpr c33
          clear c33
          replace H := Option.bind_eq_some_iff.mp H
          obtain ⟨t431, A340, H⟩ := H
          replace H : (some (a0_0, t429, a0_2, a0_3, t431, a0_5, l0_6, 7)) = some (r1, r2, r3, r4, r5, r6, r7, r8) := H
          have A34 := Aside0.mk A340
          clear A340
          simp only [Option.some.injEq, Prod.mk.injEq] at H
          obtain ⟨rfl, rfl, rfl, rfl, rfl, rfl, rfl, rfl⟩ := H
          have hnb35 := NB426_427.out
          have hnc35 := NB427_426.out
          have hnb36 := NB426_428.out
          have hnc36 := NB428_426.out
          have hcz37_0 : wc.cell? ⟨gb426, 0, none⟩ = some (.int .i64 a0_0) := (blk_cell BK426.out 0).trans rfl
          have hcz37_1 : wc.cell? ⟨gb426, 1, none⟩ = some (.int .i64 t429) := (blk_cell BK426.out 1).trans rfl
          have hcz37_2 : wc.cell? ⟨gb426, 2, none⟩ = some (.int .i64 a0_2) := (blk_cell BK426.out 2).trans rfl
          have hcz37_3 : wc.cell? ⟨gb426, 3, none⟩ = some (.int .i64 a0_3) := (blk_cell BK426.out 3).trans rfl
          have hcz37_4 : wc.cell? ⟨gb426, 4, none⟩ = some (.int .i64 a0_4) := (blk_cell BK426.out 4).trans rfl
          have hcz37_5 : wc.cell? ⟨gb426, 5, none⟩ = some (.int .i64 a0_5) := (blk_cell BK426.out 5).trans rfl
          have hcz37_6 : wc.cell? ⟨gb426, 6, none⟩ = some (.slice Ao6 l0_6.length co6) := (blk_cell BK426.out 6).trans rfl
          have hfz37_0 := blk_frozen BK426.out 0
          have hfz37_1 := blk_frozen BK426.out 1
          have hfz37_2 := blk_frozen BK426.out 2
          have hfz37_3 := blk_frozen BK426.out 3
          have hfz37_4 := blk_frozen BK426.out 4
          have hfz37_5 := blk_frozen BK426.out 5
          have hfz37_6 := blk_frozen BK426.out 6
          have hnb38 := NB427_428.out
          have hnc38 := NB428_427.out
          have hcz39_0 : wc.cell? ⟨gb427, 0, none⟩ = some (.int .i64 a1_0) := (blk_cell BK427.out 0).trans rfl
          have hcz39_1 : wc.cell? ⟨gb427, 1, none⟩ = some (.int .i64 a1_1) := (blk_cell BK427.out 1).trans rfl
          have hcz39_2 : wc.cell? ⟨gb427, 2, none⟩ = some (.int .i64 a1_2) := (blk_cell BK427.out 2).trans rfl
          have hcz39_3 : wc.cell? ⟨gb427, 3, none⟩ = some (.int .i64 a1_3) := (blk_cell BK427.out 3).trans rfl
          have hcz39_4 : wc.cell? ⟨gb427, 4, none⟩ = some (.int .i64 a1_4) := (blk_cell BK427.out 4).trans rfl
          have hcz39_5 : wc.cell? ⟨gb427, 5, none⟩ = some (.int .i64 a1_5) := (blk_cell BK427.out 5).trans rfl
          have hfz39_0 := blk_frozen BK427.out 0
          have hfz39_1 := blk_frozen BK427.out 1
          have hfz39_2 := blk_frozen BK427.out 2
          have hfz39_3 := blk_frozen BK427.out 3
          have hfz39_4 := blk_frozen BK427.out 4
          have hfz39_5 := blk_frozen BK427.out 5
          go_wp2_with (first | ((with_reducible refine gate_callee (f := 77) rfl ?_); refine goesL_ (some 37) rfl rfl Tryd.func77 (by kernel_rfl) rfl #[.int .i64 a0_4] rfl qa ?_; (with_reducible refine (spec_l10One.calls a0_4 t431 _ A34.out).mono ?_); rintro e w40 ⟨rfl, hb⟩; refine ⟨_, rfl, ?_⟩; have n0_ := Aside0.mk (Kd.R_below (qr HO_427006.out) hb); have n1_ := Aside0.mk (blk_below (g := gb426) (o := .cells #[.int .i64 a0_0, .int .i64 t429, .int .i64 a0_2, .int .i64 a0_3, .int .i64 a0_4, .int .i64 a0_5, .slice Ao6 l0_6.length co6] 46 (0, 0)) (qb BK426.out) hb); have n2_ := Aside0.mk (blk_below (g := gb427) (o := .cells #[.int .i64 a1_0, .int .i64 a1_1, .int .i64 a1_2, .int .i64 a1_3, .int .i64 a1_4, .int .i64 a1_5] 38 (0, 0)) (qb BK427.out) hb); have n3_ := Aside0.mk (blk_below (g := gb428) (o := .cells #[.int .i64 0, .int .i64 0, .int .i64 0, .int .i64 0, .int .i64 0, .int .i64 0, .slice none 0 0] 46 (0, 0)) (qb BK428.out) hb); have n4_ := Aside0.mk (Kept.below (S := (fun k_ => P0_6_ k_)) (by repeat (first | (with_reducible first | exact HK.out | apply Kept.alloc | apply Kept.drewN | apply Kept.drew | refine Kept.setCell ?_ (.inr GW426.out) _ | refine Kept.setCell ?_ (.inr GW427.out) _ | refine Kept.setCell ?_ (.inr GW428.out) _) | exact HK.out)) hb); have n5_ := Aside0.mk (below_step (qw HB.out) hb); clear HO_427006; clear BK426; clear BK427; clear BK428; clear HK; clear HB; have HO_427006 := n0_; have BK426 := n1_; have BK427 := n2_; have BK428 := n3_; have HK := n4_; have HB := n5_; clear n0_ n1_ n2_ n3_ n4_ n5_; (try clear hb); (try clear hb2); (try clear hk); (try clear hi); have hcz41_0 : w40.cell? ⟨gb426, 0, none⟩ = some (.int .i64 a0_0) := (blk_cell BK426.out 0).trans rfl; have hcz41_1 : w40.cell? ⟨gb426, 1, none⟩ = some (.int .i64 t429) := (blk_cell BK426.out 1).trans rfl; have hcz41_2 : w40.cell? ⟨gb426, 2, none⟩ = some (.int .i64 a0_2) := (blk_cell BK426.out 2).trans rfl; have hcz41_3 : w40.cell? ⟨gb426, 3, none⟩ = some (.int .i64 a0_3) := (blk_cell BK426.out 3).trans rfl; have hcz41_4 : w40.cell? ⟨gb426, 4, none⟩ = some (.int .i64 a0_4) := (blk_cell BK426.out 4).trans rfl; have hcz41_5 : w40.cell? ⟨gb426, 5, none⟩ = some (.int .i64 a0_5) := (blk_cell BK426.out 5).trans rfl; have hcz41_6 : w40.cell? ⟨gb426, 6, none⟩ = some (.slice Ao6 l0_6.length co6) := (blk_cell BK426.out 6).trans rfl; have hfz41_0 := blk_frozen BK426.out 0; have hfz41_1 := blk_frozen BK426.out 1; have hfz41_2 := blk_frozen BK426.out 2; have hfz41_3 := blk_frozen BK426.out 3; have hfz41_4 := blk_frozen BK426.out 4; have hfz41_5 := blk_frozen BK426.out 5; have hfz41_6 := blk_frozen BK426.out 6; have hcz42_0 : w40.cell? ⟨gb428, 0, none⟩ = some (.int .i64 0) := (blk_cell BK428.out 0).trans rfl; have hcz42_1 : w40.cell? ⟨gb428, 1, none⟩ = some (.int .i64 0) := (blk_cell BK428.out 1).trans rfl; have hcz42_2 : w40.cell? ⟨gb428, 2, none⟩ = some (.int .i64 0) := (blk_cell BK428.out 2).trans rfl; have hcz42_3 : w40.cell? ⟨gb428, 3, none⟩ = some (.int .i64 0) := (blk_cell BK428.out 3).trans rfl; have hcz42_4 : w40.cell? ⟨gb428, 4, none⟩ = some (.int .i64 0) := (blk_cell BK428.out 4).trans rfl; have hcz42_5 : w40.cell? ⟨gb428, 5, none⟩ = some (.int .i64 0) := (blk_cell BK428.out 5).trans rfl; have hcz42_6 : w40.cell? ⟨gb428, 6, none⟩ = some (.slice none 0 0) := (blk_cell BK428.out 6).trans rfl; have hfz42_0 := blk_frozen BK428.out 0; have hfz42_1 := blk_frozen BK428.out 1; have hfz42_2 := blk_frozen BK428.out 2; have hfz42_3 := blk_frozen BK428.out 3; have hfz42_4 := blk_frozen BK428.out 4; have hfz42_5 := blk_frozen BK428.out 5; have hfz42_6 := blk_frozen BK428.out 6))
          refine bodyPost_ret (results_ct rfl _ _ gb428 46 #[.int .i64 a0_0, .int .i64 t429, .int .i64 a0_2, .int .i64 a0_3, .int .i64 t431, .int .i64 a0_5, .slice Ao6 l0_6.length co6] (0, 0) _ rfl (by (with_reducible repeat (first | refine blk_drewN ?_ _ | refine blk_drew ?_ | refine blk_alloc ?_ _)); refine blk_put (cs := #[.int .i64 a0_0, .int .i64 t429, .int .i64 a0_2, .int .i64 a0_3, .int .i64 t431, .int .i64 a0_5, .slice none 0 0]) ?_ 6 _ rfl; (with_reducible repeat (first | refine blk_drewN ?_ _ | refine blk_drew ?_ | refine blk_alloc ?_ _)); refine blk_put (cs := #[.int .i64 a0_0, .int .i64 t429, .int .i64 a0_2, .int .i64 a0_3, .int .i64 t431, .int .i64 0, .slice none 0 0]) ?_ 5 _ rfl; (with_reducible repeat (first | refine blk_drewN ?_ _ | refine blk_drew ?_ | refine blk_alloc ?_ _)); refine blk_put (cs := #[.int .i64 a0_0, .int .i64 t429, .int .i64 a0_2, .int .i64 a0_3, .int .i64 0, .int .i64 0, .slice none 0 0]) ?_ 4 _ rfl; (with_reducible repeat (first | refine blk_drewN ?_ _ | refine blk_drew ?_ | refine blk_alloc ?_ _)); refine blk_put (cs := #[.int .i64 a0_0, .int .i64 t429, .int .i64 a0_2, .int .i64 0, .int .i64 0, .int .i64 0, .slice none 0 0]) ?_ 3 _ rfl; (with_reducible repeat (first | refine blk_drewN ?_ _ | refine blk_drew ?_ | refine blk_alloc ?_ _)); refine blk_put (cs := #[.int .i64 a0_0, .int .i64 t429, .int .i64 0, .int .i64 0, .int .i64 0, .int .i64 0, .slice none 0 0]) ?_ 2 _ rfl; (with_reducible repeat (first | refine blk_drewN ?_ _ | refine blk_drew ?_ | refine blk_alloc ?_ _)); refine blk_put (cs := #[.int .i64 a0_0, .int .i64 0, .int .i64 0, .int .i64 0, .int .i64 0, .int .i64 0, .slice none 0 0]) ?_ 1 _ rfl; (with_reducible repeat (first | refine blk_drewN ?_ _ | refine blk_drew ?_ | refine blk_alloc ?_ _)); refine blk_put (cs := #[.int .i64 0, .int .i64 0, .int .i64 0, .int .i64 0, .int .i64 0, .int .i64 0, .slice none 0 0]) ?_ 0 _ rfl; (with_reducible repeat (first | refine blk_drewN ?_ _ | refine blk_drew ?_ | refine blk_alloc ?_ _)); refine blk_far ?_ NB428_426.out _; (with_reducible repeat (first | refine blk_drewN ?_ _ | refine blk_drew ?_ | refine blk_alloc ?_ _)); exact BK428.out) Tryd.underlying46 rfl (by kernel_rfl)) rfl ?_
          exact ⟨_, qe, by (with_reducible repeat (first | apply Kd.R_alloc | apply Kd.R_drewN | apply Kd.R_drew)); exact Kd.R_mono (Kd.R_far (p := ⟨gb428, 6, none⟩) (Kd.R_far (p := ⟨gb428, 5, none⟩) (Kd.R_far (p := ⟨gb428, 4, none⟩) (Kd.R_far (p := ⟨gb428, 3, none⟩) (Kd.R_far (p := ⟨gb428, 2, none⟩) (Kd.R_far (p := ⟨gb428, 1, none⟩) (Kd.R_far (p := ⟨gb428, 0, none⟩) (Kd.R_far (p := ⟨gb426, 4, none⟩) (Kd.R_types (Kd.R_types HO_427006.out BK426.out (by decide)) BK428.out (by decide)) (fun _ hk => hk.1.2) (.int .i64 t431)) (fun _ hk => hk.2) (.int .i64 a0_0)) (fun _ hk => hk.2) (.int .i64 t429)) (fun _ hk => hk.2) (.int .i64 a0_2)) (fun _ hk => hk.2) (.int .i64 a0_3)) (fun _ hk => hk.2) (.int .i64 t431)) (fun _ hk => hk.2) (.int .i64 a0_5)) (fun _ hk => hk.2) (.slice Ao6 l0_6.length co6)) (fun _ hk => hk.1.1), qw HB.out, by repeat (first | (with_reducible first | exact HK.out | apply Kept.alloc | apply Kept.drewN | apply Kept.drew | refine Kept.setCell ?_ (.inr GW426.out) _ | refine Kept.setCell ?_ (.inr GW427.out) _ | refine Kept.setCell ?_ (.inr GW428.out) _) | exact HK.out)⟩
        · rw [if_neg c33] at H
          have c33b0 : ((l0_6.length : Int) == a1_4) = false := beq_eq_false_iff_ne.mpr c33
          have c33b1 : ((l0_6.length : Int) != a1_4) = true := bne_iff_ne.mpr c33
          obtain ⟨y432, hy432⟩ : ∃ y_ : List Int, y_ = (([] : List Int)) := ⟨_, rfl⟩
          replace H : (if y432.length + l0_6.length < 17592186044416 then ((some (y432 ++ l0_6 : List Int)).bind fun y435 => (if y435.length < 17592186044416 then (some (a2, t429, a0_2, a0_3, a0_4, a0_5, (y435 ++ [a2]), 0)) else (none))) else (none)) = some (r1, r2, r3, r4, r5, r6, r7, r8) := by first | (rw [hy432]; with_reducible exact H) | (have H2_ := (Option.bind_some _ _).symm.trans H; rw [hy432]; with_reducible exact H2_) | (have H2_ := (Option.bind_some _ _).symm.trans H; with_reducible exact H2_) | with_reducible exact H | (rw [hy432]; exact H) | exact H
          have Ny432 := Aside0.mk hy432
          clear hy432
          by_cases c43 : y432.length + l0_6.length < 17592186044416
          · rw [if_pos c43] at H
            have LMc43 := Aside0.mk c43
            clear c43
            obtain ⟨y435, hy435⟩ : ∃ y_ : List Int, y_ = (y432 ++ l0_6) := ⟨_, rfl⟩
            replace H : (if y435.length < 17592186044416 then (some (a2, t429, a0_2, a0_3, a0_4, a0_5, (y435 ++ [a2]), 0)) else (none)) = some (r1, r2, r3, r4, r5, r6, r7, r8) := by first | (rw [hy435]; with_reducible exact H) | (have H2_ := (Option.bind_some _ _).symm.trans H; rw [hy435]; with_reducible exact H2_) | (have H2_ := (Option.bind_some _ _).symm.trans H; with_reducible exact H2_) | with_reducible exact H | (rw [hy435]; exact H) | exact H
            have Ny435 := Aside0.mk hy435
            clear hy435
            by_cases c44 : y435.length < 17592186044416
            · rw [if_pos c44] at H
              have LMc44 := Aside0.mk c44
              clear c44
              obtain ⟨y438, hy438⟩ : ∃ y_ : List Int, y_ = (y435 ++ [a2]) := ⟨_, rfl⟩
              replace H : (some (a2, t429, a0_2, a0_3, a0_4, a0_5, y438, 0)) = some (r1, r2, r3, r4, r5, r6, r7, r8) := by first | (rw [hy438]; with_reducible exact H) | (have H2_ := (Option.bind_some _ _).symm.trans H; rw [hy438]; with_reducible exact H2_) | (have H2_ := (Option.bind_some _ _).symm.trans H; with_reducible exact H2_) | with_reducible exact H | (rw [hy438]; exact H) | exact H
              have Ny438 := Aside0.mk hy438
              clear hy438
              simp only [Option.some.injEq, Prod.mk.injEq] at H
              obtain ⟨rfl, rfl, rfl, rfl, rfl, rfl, rfl, rfl⟩ := H
              have hnb45 := NB426_427.out
              have hnc45 := NB427_426.out
              have hnb46 := NB426_428.out
              have hnc46 := NB428_426.out
              have hcz47_0 : wc.cell? ⟨gb426, 0, none⟩ = some (.int .i64 a0_0) := (blk_cell BK426.out 0).trans rfl
              have hcz47_1 : wc.cell? ⟨gb426, 1, none⟩ = some (.int .i64 t429) := (blk_cell BK426.out 1).trans rfl
              have hcz47_2 : wc.cell? ⟨gb426, 2, none⟩ = some (.int .i64 a0_2) := (blk_cell BK426.out 2).trans rfl
              have hcz47_3 : wc.cell? ⟨gb426, 3, none⟩ = some (.int .i64 a0_3) := (blk_cell BK426.out 3).trans rfl
              have hcz47_4 : wc.cell? ⟨gb426, 4, none⟩ = some (.int .i64 a0_4) := (blk_cell BK426.out 4).trans rfl
              have hcz47_5 : wc.cell? ⟨gb426, 5, none⟩ = some (.int .i64 a0_5) := (blk_cell BK426.out 5).trans rfl
              have hcz47_6 : wc.cell? ⟨gb426, 6, none⟩ = some (.slice Ao6 l0_6.length co6) := (blk_cell BK426.out 6).trans rfl
              have hfz47_0 := blk_frozen BK426.out 0
              have hfz47_1 := blk_frozen BK426.out 1
              have hfz47_2 := blk_frozen BK426.out 2
              have hfz47_3 := blk_frozen BK426.out 3
              have hfz47_4 := blk_frozen BK426.out 4
              have hfz47_5 := blk_frozen BK426.out 5
              have hfz47_6 := blk_frozen BK426.out 6
              have hnb48 := NB427_428.out
              have hnc48 := NB428_427.out
              have hcz49_0 : wc.cell? ⟨gb427, 0, none⟩ = some (.int .i64 a1_0) := (blk_cell BK427.out 0).trans rfl
              have hcz49_1 : wc.cell? ⟨gb427, 1, none⟩ = some (.int .i64 a1_1) := (blk_cell BK427.out 1).trans rfl
              have hcz49_2 : wc.cell? ⟨gb427, 2, none⟩ = some (.int .i64 a1_2) := (blk_cell BK427.out 2).trans rfl
              have hcz49_3 : wc.cell? ⟨gb427, 3, none⟩ = some (.int .i64 a1_3) := (blk_cell BK427.out 3).trans rfl
              have hcz49_4 : wc.cell? ⟨gb427, 4, none⟩ = some (.int .i64 a1_4) := (blk_cell BK427.out 4).trans rfl
              have hcz49_5 : wc.cell? ⟨gb427, 5, none⟩ = some (.int .i64 a1_5) := (blk_cell BK427.out 5).trans rfl
              have hfz49_0 := blk_frozen BK427.out 0
              have hfz49_1 := blk_frozen BK427.out 1
              have hfz49_2 := blk_frozen BK427.out 2
              have hfz49_3 := blk_frozen BK427.out 3
              have hfz49_4 := blk_frozen BK427.out 4
              have hfz49_5 := blk_frozen BK427.out 5
              go_wp2_with (first | ((with_reducible refine gate_dst (N := 42) rfl ?_); refine Kd.R_lit (Kd.int .i64) _ 3 ?hg (N := 42) ?hd (xs := ([] : List Int)) (inner := []) (ok := fun _ => True) (okp := fun _ => True) ?hr ?hp (fun _ hk => hk) trivial (Below.refl _ _) (Nat.le_refl _) (by simp) ?_; (case hd => rfl); (case hg => rfl); (case hr => first | (go_simp; done) | (go_simp; rfl)); (case hp => exact (Reps.none _ _)); intro v433 w50 ho51 hb hg_ hnew_; clear hg_ hnew_; (first | rw [← Ny432.out] at ho51 | (simp only [Int.reduceToNat] at ho51; rw [← Ny432.out] at ho51)); have n0_ := Aside0.mk (Kd.R_elder' (by (with_reducible repeat (first | apply Kd.R_alloc | apply Kd.R_drewN | apply Kd.R_drew)); exact (Kd.R_mono (Kd.R_far (p := ⟨gb426, 0, none⟩) (Kd.R_types HO_427006.out BK426.out (by decide)) (fun _ hk => hk.2) (.int .i64 a2)) (fun _ h_ => h_.1))) (Kd.R_base ho51) hb); have n1_ := Aside0.mk (Kd.R_lower (Kd.R_new' (Kd.R_newM (M := fun k_ => (P0_6_ k_ ∨ w.heap.size ≤ k_)) ho51 (show Kept w _ (fun k_ => P0_6_ k_) from by repeat (first | (with_reducible first | exact HK.out | apply Kept.alloc | apply Kept.drewN | apply Kept.drew | refine Kept.setCell ?_ (.inr GW426.out) _ | refine Kept.setCell ?_ (.inr GW427.out) _ | refine Kept.setCell ?_ (.inr GW428.out) _) | exact HK.out)).1 (fun k_ h_ => .inr h_)) (Kd.R_lt (by (with_reducible repeat (first | apply Kd.R_alloc | apply Kd.R_drewN | apply Kd.R_drew)); exact (Kd.R_mono (Kd.R_far (p := ⟨gb426, 0, none⟩) (Kd.R_types HO_427006.out BK426.out (by decide)) (fun _ hk => hk.2) (.int .i64 a2)) (fun _ h_ => h_.1))))) (below_size (qw HB.out))); have n2_ := Aside0.mk (blk_below (g := gb426) (o := .cells #[.int .i64 a2, .int .i64 t429, .int .i64 a0_2, .int .i64 a0_3, .int .i64 a0_4, .int .i64 a0_5, .slice Ao6 l0_6.length co6] 46 (0, 0)) (by (with_reducible repeat (first | refine blk_drewN ?_ _ | refine blk_drew ?_ | refine blk_alloc ?_ _)); refine blk_put (cs := #[.int .i64 a0_0, .int .i64 t429, .int .i64 a0_2, .int .i64 a0_3, .int .i64 a0_4, .int .i64 a0_5, .slice Ao6 l0_6.length co6]) ?_ 0 _ rfl; (with_reducible repeat (first | refine blk_drewN ?_ _ | refine blk_drew ?_ | refine blk_alloc ?_ _)); exact BK426.out) hb); have n3_ := Aside0.mk (blk_below (g := gb427) (o := .cells #[.int .i64 a1_0, .int .i64 a1_1, .int .i64 a1_2, .int .i64 a1_3, .int .i64 a1_4, .int .i64 a1_5] 38 (0, 0)) (by (with_reducible repeat (first | refine blk_drewN ?_ _ | refine blk_drew ?_ | refine blk_alloc ?_ _)); refine blk_far ?_ NB427_426.out _; (with_reducible repeat (first | refine blk_drewN ?_ _ | refine blk_drew ?_ | refine blk_alloc ?_ _)); exact BK427.out) hb); have n4_ := Aside0.mk (blk_below (g := gb428) (o := .cells #[.int .i64 0, .int .i64 0, .int .i64 0, .int .i64 0, .int .i64 0, .int .i64 0, .slice none 0 0] 46 (0, 0)) (by (with_reducible repeat (first | refine blk_drewN ?_ _ | refine blk_drew ?_ | refine blk_alloc ?_ _)); refine blk_far ?_ NB428_426.out _; (with_reducible repeat (first | refine blk_drewN ?_ _ | refine blk_drew ?_ | refine blk_alloc ?_ _)); exact BK428.out) hb); have n5_ := Aside0.mk (Kept.below (S := (fun k_ => P0_6_ k_)) (by repeat (first | (with_reducible first | exact HK.out | apply Kept.alloc | apply Kept.drewN | apply Kept.drew | refine Kept.setCell ?_ (.inr GW426.out) _ | refine Kept.setCell ?_ (.inr GW427.out) _ | refine Kept.setCell ?_ (.inr GW428.out) _) | exact HK.out)) hb); have n6_ := Aside0.mk (below_step (qw HB.out) hb); clear HO_427006; clear BK426; clear BK427; clear BK428; clear HK; clear HB; have HO_427006 := n0_; have HO434 := n1_; have BK426 := n2_; have BK427 := n3_; have BK428 := n4_; have HK := n5_; have HB := n6_; clear n0_ n1_ n2_ n3_ n4_ n5_ n6_; clear hb ho51; have hcz52_0 : w50.cell? ⟨gb426, 0, none⟩ = some (.int .i64 a2) := (blk_cell BK426.out 0).trans rfl; have hcz52_1 : w50.cell? ⟨gb426, 1, none⟩ = some (.int .i64 t429) := (blk_cell BK426.out 1).trans rfl; have hcz52_2 : w50.cell? ⟨gb426, 2, none⟩ = some (.int .i64 a0_2) := (blk_cell BK426.out 2).trans rfl; have hcz52_3 : w50.cell? ⟨gb426, 3, none⟩ = some (.int .i64 a0_3) := (blk_cell BK426.out 3).trans rfl; have hcz52_4 : w50.cell? ⟨gb426, 4, none⟩ = some (.int .i64 a0_4) := (blk_cell BK426.out 4).trans rfl; have hcz52_5 : w50.cell? ⟨gb426, 5, none⟩ = some (.int .i64 a0_5) := (blk_cell BK426.out 5).trans rfl; have hcz52_6 : w50.cell? ⟨gb426, 6, none⟩ = some (.slice Ao6 l0_6.length co6) := (blk_cell BK426.out 6).trans rfl; have hfz52_0 := blk_frozen BK426.out 0; have hfz52_1 := blk_frozen BK426.out 1; have hfz52_2 := blk_frozen BK426.out 2; have hfz52_3 := blk_frozen BK426.out 3; have hfz52_4 := blk_frozen BK426.out 4; have hfz52_5 := blk_frozen BK426.out 5; have hfz52_6 := blk_frozen BK426.out 6) | ((with_reducible refine gate_builtin (b := .append) (xs := #[.tmp 42, .tmp 44]) rfl ?_); at_builtin; refine Kd.R_append_rows (Kd.int .i64) (w0 := w0) w0.heap.size rfl (.tmp 42) (.tmp 44) 41 3 (.int .i64 0) 8 rfl Tryd.underlying41 info3 rfl (by decide) (by omega) v433 y432 l0_6 _ _ _ (fun k_ => (P0_6_ k_ ∨ w.heap.size ≤ k_) ∧ some k_ ≠ (.slice Ao6 l0_6.length co6 : Value).ownBlock) (fun _ => False) rfl rfl ?aO ?aR (fun _ _ h => h) (fun _ h => h.elim) ?aF ?aB ?aS ?aL ?_; (case aR => repeat (first | exact (Kd.R_reads' HO_427006.out).2.2 | (with_reducible refine Kd.C_alloc ?_ _) | (with_reducible refine Kd.C_drewN ?_ _) | (with_reducible refine Kd.C_drew ?_))); (case aB => exact (qw HB.out)); (case aF => exact (fun k_ hk => ⟨(.inr (Nat.le_trans (by first | exact HK.out.1 | exact (show Kept w _ (fun k_ => P0_6_ k_) from by repeat (first | (with_reducible first | exact HK.out | apply Kept.alloc | apply Kept.drewN | apply Kept.drew | refine Kept.setCell ?_ (.inr GW426.out) _ | refine Kept.setCell ?_ (.inr GW427.out) _ | refine Kept.setCell ?_ (.inr GW428.out) _) | exact HK.out)).1) hk)), Kd.fresh' (Kd.R_lt (qr HO_427006.out)) k_ hk⟩)); (case aO => exact (by (with_reducible repeat (first | apply Kd.R_alloc | apply Kd.R_drewN | apply Kd.R_drew)); exact Kd.R_mono HO434.out (fun _ hk => ⟨hk.1.1, hk.2⟩))); (case aS => exact (below_size (qw HB.out))); (case aL => have := LMc43.out; omega); intro v436 w53 ho hb hg hat; rw [← Ny435.out] at ho; have n0_ := Aside0.mk (Kd.R_after (ok := (fun k_ => (P0_6_ k_ ∨ w.heap.size ≤ k_))) (qr HO_427006.out) hg hat); have n1_ := Aside0.mk (blk_grown (g := gb426) (o := .cells #[.int .i64 a2, .int .i64 t429, .int .i64 a0_2, .int .i64 a0_3, .int .i64 a0_4, .int .i64 a0_5, .slice Ao6 l0_6.length co6] 46 (0, 0)) (qb BK426.out) hg (Kd.R_ne HO434.out BK426.out (by decide))); have n2_ := Aside0.mk (blk_grown (g := gb427) (o := .cells #[.int .i64 a1_0, .int .i64 a1_1, .int .i64 a1_2, .int .i64 a1_3, .int .i64 a1_4, .int .i64 a1_5] 38 (0, 0)) (qb BK427.out) hg (Kd.R_ne HO434.out BK427.out (by decide))); have n3_ := Aside0.mk (blk_grown (g := gb428) (o := .cells #[.int .i64 0, .int .i64 0, .int .i64 0, .int .i64 0, .int .i64 0, .int .i64 0, .slice none 0 0] 46 (0, 0)) (qb BK428.out) hg (Kd.R_ne HO434.out BK428.out (by decide))); have n4_ := Aside0.mk (hb); have n5_ := Aside0.mk (Kept.of_grown (S := (fun k_ => P0_6_ k_)) hg (by repeat (first | (with_reducible first | exact HK.out | apply Kept.alloc | apply Kept.drewN | apply Kept.drew | refine Kept.setCell ?_ (.inr GW426.out) _ | refine Kept.setCell ?_ (.inr GW427.out) _ | refine Kept.setCell ?_ (.inr GW428.out) _) | exact HK.out)) (fun k_ e_ => (HO434.out.1 k_ e_).1.1)); have n6_ := Aside0.mk (ho); clear HO_427006; clear BK426; clear BK427; clear BK428; clear HB; clear HK; clear HO434; have HO_427006 := n0_; have BK426 := n1_; have BK427 := n2_; have BK428 := n3_; have HB := n4_; have HK := n5_; have HO437 := n6_; clear n0_ n1_ n2_ n3_ n4_ n5_ n6_; clear ho hb hg hat) | ((with_reducible refine gate_builtin (b := .append) (xs := #[.tmp 45, .tmp 47]) rfl ?_); at_builtin; refine Kd.R_append (Kd.int .i64) (w0 := w0) w0.heap.size rfl (.tmp 45) (.tmp 47) 41 3 (.int .i64 0) 8 rfl Tryd.underlying41 info3 rfl (by decide) (by omega) v436 y435 a2 [.int .i64 a2] (fun k_ => (P0_6_ k_ ∨ w.heap.size ≤ k_) ∧ some k_ ≠ (.slice Ao6 l0_6.length co6 : Value).ownBlock) (fun _ => False) rfl rfl ?aP (fun _ hk => hk.elim) ?aF ?aO ?aB ?aS ?aL ?_; (case aP => exact rfl); (case aB => exact (qw HB.out)); (case aF => exact (fun k_ hk => ⟨(.inr (Nat.le_trans (by first | exact HK.out.1 | exact (show Kept w _ (fun k_ => P0_6_ k_) from by repeat (first | (with_reducible first | exact HK.out | apply Kept.alloc | apply Kept.drewN | apply Kept.drew | refine Kept.setCell ?_ (.inr GW426.out) _ | refine Kept.setCell ?_ (.inr GW427.out) _ | refine Kept.setCell ?_ (.inr GW428.out) _) | exact HK.out)).1) hk)), Kd.fresh' (Kd.R_lt (qr HO_427006.out)) k_ hk⟩)); (case aO => exact (qr HO437.out)); (case aS => exact (below_size (qw HB.out))); (case aL => have := LMc44.out; omega); intro v439 w54 ho hb hg hat; rw [← Ny438.out] at ho; have n0_ := Aside0.mk (Kd.R_after (ok := (fun k_ => (P0_6_ k_ ∨ w.heap.size ≤ k_))) (qr HO_427006.out) hg hat); have n1_ := Aside0.mk (blk_grown (g := gb426) (o := .cells #[.int .i64 a2, .int .i64 t429, .int .i64 a0_2, .int .i64 a0_3, .int .i64 a0_4, .int .i64 a0_5, .slice Ao6 l0_6.length co6] 46 (0, 0)) (qb BK426.out) hg (Kd.R_ne HO437.out BK426.out (by decide))); have n2_ := Aside0.mk (blk_grown (g := gb427) (o := .cells #[.int .i64 a1_0, .int .i64 a1_1, .int .i64 a1_2, .int .i64 a1_3, .int .i64 a1_4, .int .i64 a1_5] 38 (0, 0)) (qb BK427.out) hg (Kd.R_ne HO437.out BK427.out (by decide))); have n3_ := Aside0.mk (blk_grown (g := gb428) (o := .cells #[.int .i64 0, .int .i64 0, .int .i64 0, .int .i64 0, .int .i64 0, .int .i64 0, .slice none 0 0] 46 (0, 0)) (qb BK428.out) hg (Kd.R_ne HO437.out BK428.out (by decide))); have n4_ := Aside0.mk (hb); have n5_ := Aside0.mk (Kept.of_grown (S := (fun k_ => P0_6_ k_)) hg (by repeat (first | (with_reducible first | exact HK.out | apply Kept.alloc | apply Kept.drewN | apply Kept.drew | refine Kept.setCell ?_ (.inr GW426.out) _ | refine Kept.setCell ?_ (.inr GW427.out) _ | refine Kept.setCell ?_ (.inr GW428.out) _) | exact HK.out)) (fun k_ e_ => (HO437.out.1 k_ e_).1)); have n6_ := Aside0.mk (ho); clear HO_427006; clear BK426; clear BK427; clear BK428; clear HB; clear HK; clear HO437; have HO_427006 := n0_; have BK426 := n1_; have BK427 := n2_; have BK428 := n3_; have HB := n4_; have HK := n5_; have HO440 := n6_; clear n0_ n1_ n2_ n3_ n4_ n5_ n6_; clear ho hb hg hat; obtain ⟨Ao55, co55, eo55⟩ := Kd.R_slice HO440.out; subst eo55; have hcz56_0 : w54.cell? ⟨gb426, 0, none⟩ = some (.int .i64 a2) := (blk_cell BK426.out 0).trans rfl; have hcz56_1 : w54.cell? ⟨gb426, 1, none⟩ = some (.int .i64 t429) := (blk_cell BK426.out 1).trans rfl; have hcz56_2 : w54.cell? ⟨gb426, 2, none⟩ = some (.int .i64 a0_2) := (blk_cell BK426.out 2).trans rfl; have hcz56_3 : w54.cell? ⟨gb426, 3, none⟩ = some (.int .i64 a0_3) := (blk_cell BK426.out 3).trans rfl; have hcz56_4 : w54.cell? ⟨gb426, 4, none⟩ = some (.int .i64 a0_4) := (blk_cell BK426.out 4).trans rfl; have hcz56_5 : w54.cell? ⟨gb426, 5, none⟩ = some (.int .i64 a0_5) := (blk_cell BK426.out 5).trans rfl; have hcz56_6 : w54.cell? ⟨gb426, 6, none⟩ = some (.slice Ao6 l0_6.length co6) := (blk_cell BK426.out 6).trans rfl; have hfz56_0 := blk_frozen BK426.out 0; have hfz56_1 := blk_frozen BK426.out 1; have hfz56_2 := blk_frozen BK426.out 2; have hfz56_3 := blk_frozen BK426.out 3; have hfz56_4 := blk_frozen BK426.out 4; have hfz56_5 := blk_frozen BK426.out 5; have hfz56_6 := blk_frozen BK426.out 6; have hcz57_0 : w54.cell? ⟨gb428, 0, none⟩ = some (.int .i64 0) := (blk_cell BK428.out 0).trans rfl; have hcz57_1 : w54.cell? ⟨gb428, 1, none⟩ = some (.int .i64 0) := (blk_cell BK428.out 1).trans rfl; have hcz57_2 : w54.cell? ⟨gb428, 2, none⟩ = some (.int .i64 0) := (blk_cell BK428.out 2).trans rfl; have hcz57_3 : w54.cell? ⟨gb428, 3, none⟩ = some (.int .i64 0) := (blk_cell BK428.out 3).trans rfl; have hcz57_4 : w54.cell? ⟨gb428, 4, none⟩ = some (.int .i64 0) := (blk_cell BK428.out 4).trans rfl; have hcz57_5 : w54.cell? ⟨gb428, 5, none⟩ = some (.int .i64 0) := (blk_cell BK428.out 5).trans rfl; have hcz57_6 : w54.cell? ⟨gb428, 6, none⟩ = some (.slice none 0 0) := (blk_cell BK428.out 6).trans rfl; have hfz57_0 := blk_frozen BK428.out 0; have hfz57_1 := blk_frozen BK428.out 1; have hfz57_2 := blk_frozen BK428.out 2; have hfz57_3 := blk_frozen BK428.out 3; have hfz57_4 := blk_frozen BK428.out 4; have hfz57_5 := blk_frozen BK428.out 5; have hfz57_6 := blk_frozen BK428.out 6))
              refine bodyPost_ret (results_ct rfl _ _ gb428 46 #[.int .i64 a2, .int .i64 t429, .int .i64 a0_2, .int .i64 a0_3, .int .i64 a0_4, .int .i64 a0_5, .slice Ao55 y438.length co55] (0, 0) _ rfl (by (with_reducible repeat (first | refine blk_drewN ?_ _ | refine blk_drew ?_ | refine blk_alloc ?_ _)); refine blk_put (cs := #[.int .i64 a2, .int .i64 t429, .int .i64 a0_2, .int .i64 a0_3, .int .i64 a0_4, .int .i64 a0_5, .slice none 0 0]) ?_ 6 _ rfl; (with_reducible repeat (first | refine blk_drewN ?_ _ | refine blk_drew ?_ | refine blk_alloc ?_ _)); refine blk_put (cs := #[.int .i64 a2, .int .i64 t429, .int .i64 a0_2, .int .i64 a0_3, .int .i64 a0_4, .int .i64 0, .slice none 0 0]) ?_ 5 _ rfl; (with_reducible repeat (first | refine blk_drewN ?_ _ | refine blk_drew ?_ | refine blk_alloc ?_ _)); refine blk_put (cs := #[.int .i64 a2, .int .i64 t429, .int .i64 a0_2, .int .i64 a0_3, .int .i64 0, .int .i64 0, .slice none 0 0]) ?_ 4 _ rfl; (with_reducible repeat (first | refine blk_drewN ?_ _ | refine blk_drew ?_ | refine blk_alloc ?_ _)); refine blk_put (cs := #[.int .i64 a2, .int .i64 t429, .int .i64 a0_2, .int .i64 0, .int .i64 0, .int .i64 0, .slice none 0 0]) ?_ 3 _ rfl; (with_reducible repeat (first | refine blk_drewN ?_ _ | refine blk_drew ?_ | refine blk_alloc ?_ _)); refine blk_put (cs := #[.int .i64 a2, .int .i64 t429, .int .i64 0, .int .i64 0, .int .i64 0, .int .i64 0, .slice none 0 0]) ?_ 2 _ rfl; (with_reducible repeat (first | refine blk_drewN ?_ _ | refine blk_drew ?_ | refine blk_alloc ?_ _)); refine blk_put (cs := #[.int .i64 a2, .int .i64 0, .int .i64 0, .int .i64 0, .int .i64 0, .int .i64 0, .slice none 0 0]) ?_ 1 _ rfl; (with_reducible repeat (first | refine blk_drewN ?_ _ | refine blk_drew ?_ | refine blk_alloc ?_ _)); refine blk_put (cs := #[.int .i64 0, .int .i64 0, .int .i64 0, .int .i64 0, .int .i64 0, .int .i64 0, .slice none 0 0]) ?_ 0 _ rfl; (with_reducible repeat (first | refine blk_drewN ?_ _ | refine blk_drew ?_ | refine blk_alloc ?_ _)); refine blk_far ?_ NB428_426.out _; (with_reducible repeat (first | refine blk_drewN ?_ _ | refine blk_drew ?_ | refine blk_alloc ?_ _)); exact BK428.out) Tryd.underlying46 rfl (by kernel_rfl)) rfl ?_
              exact ⟨_, qe, by (with_reducible repeat (first | apply Kd.R_alloc | apply Kd.R_drewN | apply Kd.R_drew)); exact Kd.R_mono (Kd.R_far (p := ⟨gb428, 6, none⟩) (Kd.R_far (p := ⟨gb428, 5, none⟩) (Kd.R_far (p := ⟨gb428, 4, none⟩) (Kd.R_far (p := ⟨gb428, 3, none⟩) (Kd.R_far (p := ⟨gb428, 2, none⟩) (Kd.R_far (p := ⟨gb428, 1, none⟩) (Kd.R_far (p := ⟨gb428, 0, none⟩) (Kd.R_far (p := ⟨gb426, 6, none⟩) (Kd.R_types (Kd.R_types HO440.out BK426.out (by decide)) BK428.out (by decide)) (fun _ hk => hk.1.2) (.slice Ao55 y438.length co55)) (fun _ hk => hk.2) (.int .i64 a2)) (fun _ hk => hk.2) (.int .i64 t429)) (fun _ hk => hk.2) (.int .i64 a0_2)) (fun _ hk => hk.2) (.int .i64 a0_3)) (fun _ hk => hk.2) (.int .i64 a0_4)) (fun _ hk => hk.2) (.int .i64 a0_5)) (fun _ hk => hk.2) (.slice Ao55 y438.length co55)) (fun _ hk => hk.1.1.1), qw HB.out, by repeat (first | (with_reducible first | exact HK.out | apply Kept.alloc | apply Kept.drewN | apply Kept.drew | refine Kept.setCell ?_ (.inr GW426.out) _ | refine Kept.setCell ?_ (.inr GW427.out) _ | refine Kept.setCell ?_ (.inr GW428.out) _) | exact HK.out)⟩
            · rw [if_neg c44] at H
              exact absurd H (by simp)
          · rw [if_neg c43] at H
            exact absurd H (by simp)

/-! ### spec_l00Src_chance: function 66 -/
def spec_l00Src_chance.f (s0_0 : List Int) (s0_1 : Int) (s0_2 : Int) (a1 : Int) : Option (Bool × Int × Int) := (spec_l00Src_next.f s0_0 s0_1 s0_2 a1).bind fun bt441 => (some ((bt441.1 == (wrap64 (a1 - 1))), bt441.2.1, bt441.2.2))
set_option maxHeartbeats 8000000 in
set_option maxRecDepth 100000 in
theorem spec_l00Src_chance.calls (g : Nat) (s0_0 : List Int) (s0_1 : Int) (s0_2 : Int) (a1 : Int) (r1 : Bool) (r2 : Int) (r3 : Int) (w0 w : World) (hI : IsS88 w0 w g s0_0 s0_1 s0_2) (hB : Below w0.heap.size w0 w) (h : spec_l00Src_chance.f s0_0 s0_1 s0_2 a1 = some (r1, r2, r3)) :
    Calls Tryd.prog 66 #[.pointer (some ⟨g, 0, none⟩), .int .i64 a1] w fun e w' => e = .returned (.bool r1) ∧ IsS88 w0 w' g s0_0 r2 r3 ∧ Below w0.heap.size w0 w' ∧ KeepBut w w' g none := by
  have HI0 := Aside0.mk hI
  have HK := Aside0.mk (KeepBut.refl w g none)
  have HL := Aside0.mk hB.size
  clear hI
  have HW0 := Aside0.mk hB.size
  have HB := Aside0.mk hB
  clear hB
  have H : ((spec_l00Src_next.f s0_0 s0_1 s0_2 a1).bind fun bt441 => (some ((bt441.1 == (wrap64 (a1 - 1))), bt441.2.1, bt441.2.2))) = some (r1, r2, r3) := h
  clear h
  replace H := Option.bind_eq_some_iff.mp H
  obtain ⟨⟨t441, t442, t443⟩, A30, H⟩ := H
  replace H : (some ((t441 == (wrap64 (a1 - 1))), t442, t443)) = some (r1, r2, r3) := H
  have A3 := Aside0.mk A30
  clear A30
  simp only [Option.some.injEq, Prod.mk.injEq] at H
  obtain ⟨rfl, rfl, rfl⟩ := H
  go_enter Tryd.func66, Tryd.ntmps66
  go_wp2_with (first | ((with_reducible refine gate_callee (f := 63) rfl ?_); refine goesL_ (some 7) rfl rfl Tryd.func63 (by kernel_rfl) rfl #[.pointer (some ⟨g, 0, none⟩), .int .i64 a1] rfl qa ?_; (with_reducible refine (spec_l00Src_next.calls g s0_0 s0_1 s0_2 a1 t441 t442 t443 w0 _ ?side1 ?side2 A3.out).mono ?_); (case side1 => repeat (first | (with_reducible first | exact HI0.out | apply IsS88.alloc | apply IsS88.drewN | apply IsS88.drew | apply IsS88.set_1 | apply IsS88.set_2) | exact HI0.out)); (case side2 => repeat (first | (with_reducible first | exact HB.out | apply below_alloc | apply pw_below_drewN | apply below_drew1 | refine below_set ?_ (IsS88.ge HI0.out)) | exact HB.out)); rintro e w4 ⟨rfl, hi, hb, hk⟩; refine ⟨_, rfl, ?_⟩; have n0_ := Aside0.mk (KeepBut.trans (by repeat (first | (with_reducible first | exact HK.out | apply KeepBut.set_ | apply keep_drewN | apply keep_drew | apply keep_alloc) | exact HK.out)) hk (.inl rfl)); have n1_ := Aside0.mk (hb); have n2_ := Aside0.mk (hi); clear HK; clear HB; clear HI0; have HK := n0_; have HB := n1_; have HI0 := n2_; clear n0_ n1_ n2_; (try clear hb); (try clear hb2); (try clear hk); (try clear hi)))
  go_ret
  exact ⟨qe, by repeat (first | (with_reducible first | exact HI0.out | apply IsS88.alloc | apply IsS88.drewN | apply IsS88.drew | apply IsS88.set_1 | apply IsS88.set_2) | exact HI0.out), by repeat (first | (with_reducible first | exact HB.out | apply below_alloc | apply pw_below_drewN | apply below_drew1 | refine below_set ?_ (IsS88.ge HI0.out)) | exact HB.out), by repeat (first | (with_reducible first | exact HK.out | apply KeepBut.set_ | apply keep_drewN | apply keep_drew | apply keep_alloc) | exact HK.out)⟩

/-! ### spec_l10Take: function 67 -/
def spec_l10Take.f (a0_0 : Int) (a0_1 : Int) (a0_2 : Int) (a0_3 : Int) (a0_4 : Int) (a0_5 : Int) (l0_6 : List Int) : Option (Int × Int × Int × Int × Int × Int × List Int × Int) := if 0 < (l0_6.length : Int) then ((some (([] : List Int) : List Int)).bind fun y447 => (if 1 ≤ (l0_6.length : Int) then (if y447.length + (l0_6.drop 1).length < 17592186044416 then (some (a0_0, a0_1, a0_2, a0_3, a0_4, a0_5, (y447 ++ (l0_6.drop 1)), rd l0_6 0)) else (none)) else (none))) else (none)
set_option maxHeartbeats 8000000 in
set_option maxRecDepth 100000 in
theorem spec_l10Take.calls (a0_0 : Int) (a0_1 : Int) (a0_2 : Int) (a0_3 : Int) (a0_4 : Int) (a0_5 : Int) (A0_6 : Option Addr) (c0_6 : Nat) (l0_6 : List Int) (r1 : Int) (r2 : Int) (r3 : Int) (r4 : Int) (r5 : Int) (r6 : Int) (r7 : List Int) (r8 : Int) (w : World) (hr0_6 : Kd.C (Kd.int .i64) w A0_6 l0_6.length l0_6) (hc0_6 : l0_6.length ≤ c0_6) (h : spec_l10Take.f a0_0 a0_1 a0_2 a0_3 a0_4 a0_5 l0_6 = some (r1, r2, r3, r4, r5, r6, r7, r8)) :
    Calls Tryd.prog 67 #[.agg #[.int .i64 a0_0, .int .i64 a0_1, .int .i64 a0_2, .int .i64 a0_3, .int .i64 a0_4, .int .i64 a0_5, .slice A0_6 l0_6.length c0_6]] w fun e w' => ∃ v6_ : Value, e = .returned (.tuple #[.agg #[.int .i64 r1, .int .i64 r2, .int .i64 r3, .int .i64 r4, .int .i64 r5, .int .i64 r6, v6_], .int .i64 r8]) ∧ Kd.R (Kd.int .i64) 3 w' w.heap.size (fun _ => True) v6_ r7 ∧ Below w.heap.size w w' := by
  have hu46 := Tryd.underlying46
  have HR0_6 := Aside0.mk hr0_6
  have HC0_6 := Aside0.mk hc0_6
  clear hr0_6 hc0_6
  have HB := Aside0.mk (Below.refl w.heap.size w)
  have H : (if 0 < (l0_6.length : Int) then ((some (([] : List Int) : List Int)).bind fun y447 => (if 1 ≤ (l0_6.length : Int) then (if y447.length + (l0_6.drop 1).length < 17592186044416 then (some (a0_0, a0_1, a0_2, a0_3, a0_4, a0_5, (y447 ++ (l0_6.drop 1)), rd l0_6 0)) else (none)) else (none))) else (none)) = some (r1, r2, r3, r4, r5, r6, r7, r8) := h
  clear h
  by_cases c2 : 0 < (l0_6.length : Int)
  · rw [if_pos c2] at H
    have c2b0 : decide (0 < (l0_6.length : Int)) = true := decide_eq_true c2
    have c2b1 : decide (0 < l0_6.length) = true := decide_eq_true (by omega)
    clear c2
    obtain ⟨y447, hy447⟩ : ∃ y_ : List Int, y_ = (([] : List Int)) := ⟨_, rfl⟩
    replace H : (if 1 ≤ (l0_6.length : Int) then (if y447.length + (l0_6.drop 1).length < 17592186044416 then (some (a0_0, a0_1, a0_2, a0_3, a0_4, a0_5, (y447 ++ (l0_6.drop 1)), rd l0_6 0)) else (none)) else (none)) = some (r1, r2, r3, r4, r5, r6, r7, r8) := by first | (rw [hy447]; with_reducible exact H) | (have H2_ := (Option.bind_some _ _).symm.trans H; rw [hy447]; with_reducible exact H2_) | (have H2_ := (Option.bind_some _ _).symm.trans H; with_reducible exact H2_) | with_reducible exact H | (rw [hy447]; exact H) | exact H
    have Ny447 := Aside0.mk hy447
    clear hy447
    by_cases c3 : 1 ≤ (l0_6.length : Int)
    · rw [if_pos c3] at H
      have c3b0 := eq_true c3
      have c3b1 : decide (1 ≤ (l0_6.length : Int)) = true := decide_eq_true c3
      clear c3
      by_cases c4 : y447.length + (l0_6.drop 1).length < 17592186044416
      · rw [if_pos c4] at H
        have LMc4 := Aside0.mk c4
        clear c4
        obtain ⟨y451, hy451⟩ : ∃ y_ : List Int, y_ = (y447 ++ (l0_6.drop 1)) := ⟨_, rfl⟩
        replace H : (some (a0_0, a0_1, a0_2, a0_3, a0_4, a0_5, y451, rd l0_6 0)) = some (r1, r2, r3, r4, r5, r6, r7, r8) := by first | (rw [hy451]; with_reducible exact H) | (have H2_ := (Option.bind_some _ _).symm.trans H; rw [hy451]; with_reducible exact H2_) | (have H2_ := (Option.bind_some _ _).symm.trans H; with_reducible exact H2_) | with_reducible exact H | (rw [hy451]; exact H) | exact H
        have Ny451 := Aside0.mk hy451
        clear hy451
        simp only [Option.some.injEq, Prod.mk.injEq] at H
        obtain ⟨rfl, rfl, rfl, rfl, rfl, rfl, rfl, rfl⟩ := H
        go_enter Tryd.func67, Tryd.ntmps67
        go_wp2_with (first | ((with_reducible refine gate_dst (N := 1) rfl ?_); refine box_event ?hg (N := 1) ?hd (cs := #[.int .i64 a0_0, .int .i64 a0_1, .int .i64 a0_2, .int .i64 a0_3, .int .i64 a0_4, .int .i64 a0_5, .slice A0_6 l0_6.length c0_6]) (t := 46) ?hr ?_; (case hd => rfl); (case hg => rfl); (case hr => first | (go_simp; done) | (go_simp; rfl)); intro gb444 hg w5 hbox hb; have n0_ := Aside0.mk (below_step (qw HB.out) hb); have n1_ := Aside0.mk (hbox); have n2_ := Aside0.mk ((by rw [hg]; exact (below_size (qw HB.out)) : w.heap.size ≤ gb444)); have n3_ := Aside0.mk ((by rw [hg]; exact (below_size (qw HB.out)) : w.heap.size ≤ gb444)); clear HB; have HB := n0_; have BK444 := n1_; have GW444 := n2_; have GE444 := n3_; clear n0_ n1_ n2_ n3_; clear hb hbox hg) | ((with_reducible refine gate_dst (N := 2) rfl ?_); refine box_event ?hg (N := 2) ?hd (cs := #[.int .i64 0, .int .i64 0, .int .i64 0, .int .i64 0, .int .i64 0, .int .i64 0, .slice none 0 0]) (t := 46) ?hr ?_; (case hd => rfl); (case hg => rfl); (case hr => first | (go_simp; done) | (go_simp; rfl)); intro gb445 hg w6 hbox hb; have n0_ := Aside0.mk (blk_below (g := gb444) (o := .cells #[.int .i64 a0_0, .int .i64 a0_1, .int .i64 a0_2, .int .i64 a0_3, .int .i64 a0_4, .int .i64 a0_5, .slice A0_6 l0_6.length c0_6] 46 (0, 0)) (qb BK444.out) hb); have n1_ := Aside0.mk (below_step (qw HB.out) hb); have n2_ := Aside0.mk (hbox); have n3_ := Aside0.mk ((by rw [hg]; exact (below_size (qw HB.out)) : w.heap.size ≤ gb445)); have n4_ := Aside0.mk ((by rw [hg]; exact (below_size (qw HB.out)) : w.heap.size ≤ gb445)); have n5_ := Aside0.mk ((by rw [hg]; exact Nat.ne_of_lt (blk_lt (g := gb444) (o := .cells #[.int .i64 a0_0, .int .i64 a0_1, .int .i64 a0_2, .int .i64 a0_3, .int .i64 a0_4, .int .i64 a0_5, .slice A0_6 l0_6.length c0_6] 46 (0, 0)) (qb BK444.out)) : gb444 ≠ gb445)); have n6_ := Aside0.mk ((by rw [hg]; exact Nat.ne_of_gt (blk_lt (g := gb444) (o := .cells #[.int .i64 a0_0, .int .i64 a0_1, .int .i64 a0_2, .int .i64 a0_3, .int .i64 a0_4, .int .i64 a0_5, .slice A0_6 l0_6.length c0_6] 46 (0, 0)) (qb BK444.out)) : gb445 ≠ gb444)); clear BK444; clear HB; have BK444 := n0_; have HB := n1_; have BK445 := n2_; have GW445 := n3_; have GE445 := n4_; have NB444_445 := n5_; have NB445_444 := n6_; clear n0_ n1_ n2_ n3_ n4_ n5_ n6_; clear hb hbox hg; have hnb7 := NB444_445.out; have hnc7 := NB445_444.out; have hcz8_0 : w6.cell? ⟨gb444, 0, none⟩ = some (.int .i64 a0_0) := (blk_cell BK444.out 0).trans rfl; have hcz8_1 : w6.cell? ⟨gb444, 1, none⟩ = some (.int .i64 a0_1) := (blk_cell BK444.out 1).trans rfl; have hcz8_2 : w6.cell? ⟨gb444, 2, none⟩ = some (.int .i64 a0_2) := (blk_cell BK444.out 2).trans rfl; have hcz8_3 : w6.cell? ⟨gb444, 3, none⟩ = some (.int .i64 a0_3) := (blk_cell BK444.out 3).trans rfl; have hcz8_4 : w6.cell? ⟨gb444, 4, none⟩ = some (.int .i64 a0_4) := (blk_cell BK444.out 4).trans rfl; have hcz8_5 : w6.cell? ⟨gb444, 5, none⟩ = some (.int .i64 a0_5) := (blk_cell BK444.out 5).trans rfl; have hcz8_6 : w6.cell? ⟨gb444, 6, none⟩ = some (.slice A0_6 l0_6.length c0_6) := (blk_cell BK444.out 6).trans rfl; have hfz8_0 := blk_frozen BK444.out 0; have hfz8_1 := blk_frozen BK444.out 1; have hfz8_2 := blk_frozen BK444.out 2; have hfz8_3 := blk_frozen BK444.out 3; have hfz8_4 := blk_frozen BK444.out 4; have hfz8_5 := blk_frozen BK444.out 5; have hfz8_6 := blk_frozen BK444.out 6; have p446 : 0 ≤ (0 : Int) := (by omega); have q446 : 0 < (l0_6.length : Int) := of_decide_eq_true qs; obtain ⟨ad446, e446, hx446_0⟩ := Kd.at_int HR0_6.out 0 p446 q446; cases e446; have qi446 : (0 < l0_6.length) = True := eq_true (by omega); (try rw [show ((0 : Int)).toNat = 0 from rfl] at hx446_0); (try rw [Addr.add_zero'] at hx446_0); replace hx446_0 := (HB.out.cell (World.block_lt_of_cell? w _ hx446_0)).trans hx446_0; replace p446 := eq_true p446; replace q446 := eq_true q446) | ((with_reducible refine gate_dst (N := 9) rfl ?_); refine Kd.R_lit (Kd.int .i64) _ 3 ?hg (N := 9) ?hd (xs := ([] : List Int)) (inner := []) (ok := fun _ => True) (okp := fun _ => True) ?hr ?hp (fun _ hk => hk) trivial (Below.refl _ _) (Nat.le_refl _) (by simp) ?_; (case hd => rfl); (case hg => rfl); (case hr => first | (go_simp; done) | (go_simp; rfl)); (case hp => exact (Reps.none _ _)); intro v448 w9 ho10 hb hg_ hnew_; clear hg_ hnew_; (first | rw [← Ny447.out] at ho10 | (simp only [Int.reduceToNat] at ho10; rw [← Ny447.out] at ho10)); have n0_ := Aside0.mk (Kd.R_lower ho10 (below_size (qw HB.out))); have n1_ := Aside0.mk (blk_below (g := gb444) (o := .cells #[.int .i64 a0_0, .int .i64 a0_1, .int .i64 a0_2, .int .i64 a0_3, .int .i64 a0_4, .int .i64 a0_5, .slice (some ad446) l0_6.length c0_6] 46 (0, 0)) (qb BK444.out) hb); have n2_ := Aside0.mk (blk_below (g := gb445) (o := .cells #[.int .i64 0, .int .i64 0, .int .i64 0, .int .i64 0, .int .i64 0, .int .i64 0, .slice none 0 0] 46 (0, 0)) (qb BK445.out) hb); have n3_ := Aside0.mk (below_step (qw HB.out) hb); clear BK444; clear BK445; clear HB; have HO449 := n0_; have BK444 := n1_; have BK445 := n2_; have HB := n3_; clear n0_ n1_ n2_ n3_; clear hb ho10; have hcz11_0 : w9.cell? ⟨gb444, 0, none⟩ = some (.int .i64 a0_0) := (blk_cell BK444.out 0).trans rfl; have hcz11_1 : w9.cell? ⟨gb444, 1, none⟩ = some (.int .i64 a0_1) := (blk_cell BK444.out 1).trans rfl; have hcz11_2 : w9.cell? ⟨gb444, 2, none⟩ = some (.int .i64 a0_2) := (blk_cell BK444.out 2).trans rfl; have hcz11_3 : w9.cell? ⟨gb444, 3, none⟩ = some (.int .i64 a0_3) := (blk_cell BK444.out 3).trans rfl; have hcz11_4 : w9.cell? ⟨gb444, 4, none⟩ = some (.int .i64 a0_4) := (blk_cell BK444.out 4).trans rfl; have hcz11_5 : w9.cell? ⟨gb444, 5, none⟩ = some (.int .i64 a0_5) := (blk_cell BK444.out 5).trans rfl; have hcz11_6 : w9.cell? ⟨gb444, 6, none⟩ = some (.slice (some ad446) l0_6.length c0_6) := (blk_cell BK444.out 6).trans rfl; have hfz11_0 := blk_frozen BK444.out 0; have hfz11_1 := blk_frozen BK444.out 1; have hfz11_2 := blk_frozen BK444.out 2; have hfz11_3 := blk_frozen BK444.out 3; have hfz11_4 := blk_frozen BK444.out 4; have hfz11_5 := blk_frozen BK444.out 5; have hfz11_6 := blk_frozen BK444.out 6; obtain ⟨i012, hi012, _, hsz12, _⟩ := info_parts info3; obtain ⟨A12, hcut12, hA12, hC12⟩ := print_drop_of (P := Tryd.prog) (Value.int .i64) 0 41 3 .i64 Tryd.underlying41 hi012 hsz12 (some ad446) c0_6 l0_6 1 (by omega) (of_decide_eq_true qs) HC0_6.out; have HR450 := Aside0.mk (Kd.C_of_reads (h1 := fun _ => rfl) (hA12 _ (Kd.reads_of_C HR0_6.out))); have HC450 := Aside0.mk hC12; clear hA12 hC12 hi012 hsz12) | ((with_reducible refine gate_builtin (b := .append) (xs := #[.tmp 9, .tmp 12]) rfl ?_); at_builtin; refine Kd.R_append_rows (Kd.int .i64) (w0 := w) w.heap.size rfl (.tmp 9) (.tmp 12) 41 3 (.int .i64 0) 8 rfl Tryd.underlying41 info3 rfl (by decide) (by omega) v448 y447 (l0_6.drop 1) _ _ _ (fun _ => True) (fun _ => False) rfl rfl ?aO ?aR (fun _ _ h => h) (fun _ h => h.elim) ?aF ?aB ?aS ?aL ?_; (case aR => first | (rw [← show (l0_6.drop 1).length = (l0_6.length - 1) from List.length_drop]; repeat (first | exact (Kd.C_below HR450.out HB.out) | (with_reducible refine Kd.C_alloc ?_ _) | (with_reducible refine Kd.C_drewN ?_ _) | (with_reducible refine Kd.C_drew ?_))) | (repeat (first | exact (Kd.C_below HR450.out HB.out) | (with_reducible refine Kd.C_alloc ?_ _) | (with_reducible refine Kd.C_drewN ?_ _) | (with_reducible refine Kd.C_drew ?_)))); (case aB => exact (qw HB.out)); (case aF => exact (fun _ _ => trivial)); (case aO => exact (qr HO449.out)); (case aS => exact (below_size (qw HB.out))); (case aL => have := LMc4.out; have hlx_ := (show (l0_6.drop 1).length = (l0_6.length - 1) from List.length_drop); omega); intro v452 w13 ho hb hg hat; rw [← Ny451.out] at ho; have n0_ := Aside0.mk (blk_grown (g := gb444) (o := .cells #[.int .i64 a0_0, .int .i64 a0_1, .int .i64 a0_2, .int .i64 a0_3, .int .i64 a0_4, .int .i64 a0_5, .slice (some ad446) l0_6.length c0_6] 46 (0, 0)) (qb BK444.out) hg (Kd.R_ne HO449.out BK444.out (by decide))); have n1_ := Aside0.mk (blk_grown (g := gb445) (o := .cells #[.int .i64 0, .int .i64 0, .int .i64 0, .int .i64 0, .int .i64 0, .int .i64 0, .slice none 0 0] 46 (0, 0)) (qb BK445.out) hg (Kd.R_ne HO449.out BK445.out (by decide))); have n2_ := Aside0.mk (hb); have n3_ := Aside0.mk (ho); clear BK444; clear BK445; clear HB; clear HO449; have BK444 := n0_; have BK445 := n1_; have HB := n2_; have HO453 := n3_; clear n0_ n1_ n2_ n3_; clear ho hb hg hat; obtain ⟨Ao14, co14, eo14⟩ := Kd.R_slice HO453.out; subst eo14; have hcz15_0 : w13.cell? ⟨gb444, 0, none⟩ = some (.int .i64 a0_0) := (blk_cell BK444.out 0).trans rfl; have hcz15_1 : w13.cell? ⟨gb444, 1, none⟩ = some (.int .i64 a0_1) := (blk_cell BK444.out 1).trans rfl; have hcz15_2 : w13.cell? ⟨gb444, 2, none⟩ = some (.int .i64 a0_2) := (blk_cell BK444.out 2).trans rfl; have hcz15_3 : w13.cell? ⟨gb444, 3, none⟩ = some (.int .i64 a0_3) := (blk_cell BK444.out 3).trans rfl; have hcz15_4 : w13.cell? ⟨gb444, 4, none⟩ = some (.int .i64 a0_4) := (blk_cell BK444.out 4).trans rfl; have hcz15_5 : w13.cell? ⟨gb444, 5, none⟩ = some (.int .i64 a0_5) := (blk_cell BK444.out 5).trans rfl; have hcz15_6 : w13.cell? ⟨gb444, 6, none⟩ = some (.slice (some ad446) l0_6.length c0_6) := (blk_cell BK444.out 6).trans rfl; have hfz15_0 := blk_frozen BK444.out 0; have hfz15_1 := blk_frozen BK444.out 1; have hfz15_2 := blk_frozen BK444.out 2; have hfz15_3 := blk_frozen BK444.out 3; have hfz15_4 := blk_frozen BK444.out 4; have hfz15_5 := blk_frozen BK444.out 5; have hfz15_6 := blk_frozen BK444.out 6; have hcz16_0 : w13.cell? ⟨gb445, 0, none⟩ = some (.int .i64 0) := (blk_cell BK445.out 0).trans rfl; have hcz16_1 : w13.cell? ⟨gb445, 1, none⟩ = some (.int .i64 0) := (blk_cell BK445.out 1).trans rfl; have hcz16_2 : w13.cell? ⟨gb445, 2, none⟩ = some (.int .i64 0) := (blk_cell BK445.out 2).trans rfl; have hcz16_3 : w13.cell? ⟨gb445, 3, none⟩ = some (.int .i64 0) := (blk_cell BK445.out 3).trans rfl; have hcz16_4 : w13.cell? ⟨gb445, 4, none⟩ = some (.int .i64 0) := (blk_cell BK445.out 4).trans rfl; have hcz16_5 : w13.cell? ⟨gb445, 5, none⟩ = some (.int .i64 0) := (blk_cell BK445.out 5).trans rfl; have hcz16_6 : w13.cell? ⟨gb445, 6, none⟩ = some (.slice none 0 0) := (blk_cell BK445.out 6).trans rfl; have hfz16_0 := blk_frozen BK445.out 0; have hfz16_1 := blk_frozen BK445.out 1; have hfz16_2 := blk_frozen BK445.out 2; have hfz16_3 := blk_frozen BK445.out 3; have hfz16_4 := blk_frozen BK445.out 4; have hfz16_5 := blk_frozen BK445.out 5; have hfz16_6 := blk_frozen BK445.out 6))
        refine bodyPost_ret (results_ct rfl _ _ gb445 46 #[.int .i64 a0_0, .int .i64 a0_1, .int .i64 a0_2, .int .i64 a0_3, .int .i64 a0_4, .int .i64 a0_5, .slice Ao14 y451.length co14] (0, 0) _ rfl (by (with_reducible repeat (first | refine blk_drewN ?_ _ | refine blk_drew ?_ | refine blk_alloc ?_ _)); refine blk_put (cs := #[.int .i64 a0_0, .int .i64 a0_1, .int .i64 a0_2, .int .i64 a0_3, .int .i64 a0_4, .int .i64 a0_5, .slice none 0 0]) ?_ 6 _ rfl; (with_reducible repeat (first | refine blk_drewN ?_ _ | refine blk_drew ?_ | refine blk_alloc ?_ _)); refine blk_put (cs := #[.int .i64 a0_0, .int .i64 a0_1, .int .i64 a0_2, .int .i64 a0_3, .int .i64 a0_4, .int .i64 0, .slice none 0 0]) ?_ 5 _ rfl; (with_reducible repeat (first | refine blk_drewN ?_ _ | refine blk_drew ?_ | refine blk_alloc ?_ _)); refine blk_put (cs := #[.int .i64 a0_0, .int .i64 a0_1, .int .i64 a0_2, .int .i64 a0_3, .int .i64 0, .int .i64 0, .slice none 0 0]) ?_ 4 _ rfl; (with_reducible repeat (first | refine blk_drewN ?_ _ | refine blk_drew ?_ | refine blk_alloc ?_ _)); refine blk_put (cs := #[.int .i64 a0_0, .int .i64 a0_1, .int .i64 a0_2, .int .i64 0, .int .i64 0, .int .i64 0, .slice none 0 0]) ?_ 3 _ rfl; (with_reducible repeat (first | refine blk_drewN ?_ _ | refine blk_drew ?_ | refine blk_alloc ?_ _)); refine blk_put (cs := #[.int .i64 a0_0, .int .i64 a0_1, .int .i64 0, .int .i64 0, .int .i64 0, .int .i64 0, .slice none 0 0]) ?_ 2 _ rfl; (with_reducible repeat (first | refine blk_drewN ?_ _ | refine blk_drew ?_ | refine blk_alloc ?_ _)); refine blk_put (cs := #[.int .i64 a0_0, .int .i64 0, .int .i64 0, .int .i64 0, .int .i64 0, .int .i64 0, .slice none 0 0]) ?_ 1 _ rfl; (with_reducible repeat (first | refine blk_drewN ?_ _ | refine blk_drew ?_ | refine blk_alloc ?_ _)); refine blk_put (cs := #[.int .i64 0, .int .i64 0, .int .i64 0, .int .i64 0, .int .i64 0, .int .i64 0, .slice none 0 0]) ?_ 0 _ rfl; (with_reducible repeat (first | refine blk_drewN ?_ _ | refine blk_drew ?_ | refine blk_alloc ?_ _)); refine blk_far ?_ NB445_444.out _; (with_reducible repeat (first | refine blk_drewN ?_ _ | refine blk_drew ?_ | refine blk_alloc ?_ _)); exact BK445.out) Tryd.underlying46 rfl (by kernel_rfl)) rfl ?_
        exact ⟨_, qe, by (with_reducible repeat (first | apply Kd.R_alloc | apply Kd.R_drewN | apply Kd.R_drew)); exact Kd.R_mono (Kd.R_far (p := ⟨gb445, 6, none⟩) (Kd.R_far (p := ⟨gb445, 5, none⟩) (Kd.R_far (p := ⟨gb445, 4, none⟩) (Kd.R_far (p := ⟨gb445, 3, none⟩) (Kd.R_far (p := ⟨gb445, 2, none⟩) (Kd.R_far (p := ⟨gb445, 1, none⟩) (Kd.R_far (p := ⟨gb445, 0, none⟩) (Kd.R_far (p := ⟨gb444, 6, none⟩) (Kd.R_types (Kd.R_types HO453.out BK444.out (by decide)) BK445.out (by decide)) (fun _ hk => hk.1.2) (.slice Ao14 y451.length co14)) (fun _ hk => hk.2) (.int .i64 a0_0)) (fun _ hk => hk.2) (.int .i64 a0_1)) (fun _ hk => hk.2) (.int .i64 a0_2)) (fun _ hk => hk.2) (.int .i64 a0_3)) (fun _ hk => hk.2) (.int .i64 a0_4)) (fun _ hk => hk.2) (.int .i64 a0_5)) (fun _ hk => hk.2) (.slice Ao14 y451.length co14)) (fun _ hk => trivial), qw HB.out⟩
      · rw [if_neg c4] at H
        exact absurd H (by simp)
    · rw [if_neg c3] at H
      exact absurd H (by simp)
  · rw [if_neg c2] at H
    exact absurd H (by simp)

end Go.Proofs.YtkeoifkdejnpfaaDoor.G
