-- by gprint.py (a program of this session's own), over the kit's print.py; Lean checks it
import Derived.Test.YtppfcmkadcoboaaDoorSlFnExactDataLinesGx0
import Derived.Test.YtppfcmkadcoboaaDoorSlFnExactDataLinesGx1
import Derived.Test.YtppfcmkadcoboaaDoorSlFnExactDataLinesGx6
import Derived.Test.YtppfcmkadcoboaaDoorSlFnExactDataLinesGx9
import Derived.Test.YtppfcmkadcoboaaDoorSlFnExactDataLinesGx10
import Derived.Test.YtppfcmkadcoboaaDoorSlFnExactDataLinesGx12
import Derived.Test.YtppfcmkadcoboaaDoorSlFnExactDataLinesGx13
namespace Go.Proofs.YtppfcmkadcoboaaDoor.G
open Go.RowKit Go.Proofs.YtppfcmkadcoboaaDoorW.PrintWords Go.Proofs.YtppfcmkadcoboaaDoorW.PrintLast Go.Proofs.YtppfcmkadcoboaaDoorW.PrintMore
attribute [local go_sem] max2_int min2_int max_two min_two max_three min_three max_four min_four   -- for this text's walks alone
set_option linter.unusedVariables false
set_option linter.unusedSimpArgs false

/-! ### laws_FnExactDataLines: function 3 -/
mutual
def laws_FnExactDataLines.j0 : Nat → List ByteArray → Int → List ByteArray → Int → Bool → List Int → List (S77) → List Bool → List Bool → List Bool → List Bool → Int → List Int → List (S61) → List Bool → List Bool → List Bool → List Bool → Int → Option (Bool)
  | 0, _, _, _, _, _, _, _, _, _, _, _, _, _, _, _, _, _, _, _ => none
  | k + 1, x4, x5, x7, x8, x40, x286000, x286001, x286002, x286003, x286004, x286005, x286006, x330000, x330001, x330002, x330003, x330004, x330005, x330006 => if x40 = true then (none) else ((laws_toData.f k x286000 x286001 x286002 x286003 x286004 x286005 x286006).bind fun bt335 => ((laws_eqData.f k x330000 x330001 x330002 x330003 x330004 x330005 x330006 bt335.1 bt335.2.1 bt335.2.2.1 bt335.2.2.2.1 bt335.2.2.2.2.1 bt335.2.2.2.2.2.1 bt335.2.2.2.2.2.2).bind fun t354 => (if t354 = true then ((laws_markData.f k x330000 x330001 x330002 x330003 x330004 x330005 x330006 1).bind fun bt355 => (if bt355.1 < 0 then (none) else ((laws_eqStringS.f k x7 x4).bind fun t362 => (if t362 = true then (laws_FnExactDataLines.j1 k x4 x5 x7 (x8 != x5) x286000 x286001 x286002 x286003 x286004 x286005 x286006) else (none))))) else (none))))
def laws_FnExactDataLines.j1 : Nat → List ByteArray → Int → List ByteArray → Bool → List Int → List (S77) → List Bool → List Bool → List Bool → List Bool → Int → Option (Bool)
  | 0, _, _, _, _, _, _, _, _, _, _, _ => none
  | k + 1, x4, x5, x7, x61, x286000, x286001, x286002, x286003, x286004, x286005, x286006 => if x61 = true then (none) else ((laws_markStringS.f k x7 1).bind fun bt363 => ((laws_heldStringS.f k bt363.2 1).bind fun t365 => (if t365 < 0 then (none) else (if t365 = bt363.1 then ((laws_toData.f k x286000 x286001 x286002 x286003 x286004 x286005 x286006).bind fun bt366 => ((impl_DataLines.f k bt366.1 bt366.2.1 bt366.2.2.1 bt366.2.2.2.1 bt366.2.2.2.2.1 bt366.2.2.2.2.2.1 bt366.2.2.2.2.2.2).bind fun bt385 => ((laws_eqStringS.f k bt385.1 x4).bind fun t389 => (if t389 = true then (laws_FnExactDataLines.j2 k bt363.2 bt363.1 (bt385.2 != x5)) else (none))))) else (none)))))
def laws_FnExactDataLines.j2 : Nat → List ByteArray → Int → Bool → Option (Bool)
  | 0, _, _, _ => none
  | k + 1, x7, x10, x87 => if x87 = true then (none) else ((laws_heldStringS.f k x7 1).bind fun t390 => (if t390 < 0 then (none) else (if t390 = x10 then (some true) else (none))))
end
def laws_FnExactDataLines.f (k : Nat) (l0_0 : List Int) (l0_1 : List (S77)) (l0_2 : List Bool) (l0_3 : List Bool) (l0_4 : List Bool) (l0_5 : List Bool) (a0_6 : Int) : Option (Bool) := (laws_szData.f l0_0 l0_1 l0_2 l0_3 l0_4 l0_5 a0_6 1048576).bind fun t286 => (if t286 < 0 then (some true) else ((laws_toData.f k l0_0 l0_1 l0_2 l0_3 l0_4 l0_5 a0_6).bind fun bt287 => ((spec_DataLines.f k bt287.1 bt287.2.1 bt287.2.2.1 bt287.2.2.2.1 bt287.2.2.2.2.1 bt287.2.2.2.2.2.1 bt287.2.2.2.2.2.2).bind fun bt306 => ((laws_toData.f k l0_0 l0_1 l0_2 l0_3 l0_4 l0_5 a0_6).bind fun bt310 => ((impl_DataLines.f k bt310.1 bt310.2.1 bt310.2.2.1 bt310.2.2.2.1 bt310.2.2.2.2.1 bt310.2.2.2.2.2.1 bt310.2.2.2.2.2.2).bind fun bt330 => ((laws_eqStringS.f k bt330.1 bt306.1).bind fun t334 => (if t334 = true then (laws_FnExactDataLines.j0 k bt306.1 bt306.2 bt330.1 bt330.2 (bt330.2 != bt306.2) l0_0 l0_1 l0_2 l0_3 l0_4 l0_5 a0_6 bt310.1 bt310.2.1 bt310.2.2.1 bt310.2.2.2.1 bt310.2.2.2.2.1 bt310.2.2.2.2.2.1 bt310.2.2.2.2.2.2) else (none))))))))
theorem laws_FnExactDataLines.mono_l : ∀ k, (∀ y0 y1 y2 y3 y4 y5 y6 y7 y8 y9 y10 y11 y12 y13 y14 y15 y16 y17 y18, LeO (laws_FnExactDataLines.j0 k y0 y1 y2 y3 y4 y5 y6 y7 y8 y9 y10 y11 y12 y13 y14 y15 y16 y17 y18) (laws_FnExactDataLines.j0 (k + 1) y0 y1 y2 y3 y4 y5 y6 y7 y8 y9 y10 y11 y12 y13 y14 y15 y16 y17 y18)) ∧ (∀ y0 y1 y2 y3 y4 y5 y6 y7 y8 y9 y10, LeO (laws_FnExactDataLines.j1 k y0 y1 y2 y3 y4 y5 y6 y7 y8 y9 y10) (laws_FnExactDataLines.j1 (k + 1) y0 y1 y2 y3 y4 y5 y6 y7 y8 y9 y10)) ∧ (∀ y0 y1 y2, LeO (laws_FnExactDataLines.j2 k y0 y1 y2) (laws_FnExactDataLines.j2 (k + 1) y0 y1 y2))
  | 0 => ⟨fun _ _ _ _ _ _ _ _ _ _ _ _ _ _ _ _ _ _ _ r h => by simp [laws_FnExactDataLines.j0] at h, fun _ _ _ _ _ _ _ _ _ _ _ r h => by simp [laws_FnExactDataLines.j1] at h, fun _ _ _ r h => by simp [laws_FnExactDataLines.j2] at h⟩
  | k + 1 => by
    obtain ⟨ih0, ih1, ih2⟩ := laws_FnExactDataLines.mono_l k
    refine ⟨?_, ?_, ?_⟩
    · intro y0 y1 y2 y3 y4 y5 y6 y7 y8 y9 y10 y11 y12 y13 y14 y15 y16 y17 y18
      unfold laws_FnExactDataLines.j0
      repeat' first
      | (with_reducible exact ih0 _ _ _ _ _ _ _ _ _ _ _ _ _ _ _ _ _ _ _)
      | (with_reducible exact ih1 _ _ _ _ _ _ _ _ _ _ _)
      | (with_reducible exact ih2 _ _ _)
      | (with_reducible exact impl_DataLines.mono _ _ _ _ _ _ _ _)
      | (with_reducible exact laws_eqData.mono _ _ _ _ _ _ _ _ _ _ _ _ _ _ _)
      | (with_reducible exact laws_eqStringS.mono _ _ _)
      | (with_reducible exact laws_heldStringS.mono _ _ _)
      | (with_reducible exact laws_markData.mono _ _ _ _ _ _ _ _ _)
      | (with_reducible exact laws_markStringS.mono _ _ _)
      | (with_reducible exact laws_toData.mono _ _ _ _ _ _ _ _)
      | (with_reducible exact spec_DataLines.mono _ _ _ _ _ _ _ _)
      | (with_reducible exact LeO.refl _)
      | (with_reducible exact LeO.none _)
      | (with_reducible refine LeO.ite ?_ ?_)
      | (with_reducible refine LeO.bind ?_ (fun _ => ?_))
      | exact ih0 _ _ _ _ _ _ _ _ _ _ _ _ _ _ _ _ _ _ _
      | exact ih1 _ _ _ _ _ _ _ _ _ _ _
      | exact ih2 _ _ _
      | exact impl_DataLines.mono _ _ _ _ _ _ _ _
      | exact laws_eqData.mono _ _ _ _ _ _ _ _ _ _ _ _ _ _ _
      | exact laws_eqStringS.mono _ _ _
      | exact laws_heldStringS.mono _ _ _
      | exact laws_markData.mono _ _ _ _ _ _ _ _ _
      | exact laws_markStringS.mono _ _ _
      | exact laws_toData.mono _ _ _ _ _ _ _ _
      | exact spec_DataLines.mono _ _ _ _ _ _ _ _
      | exact LeO.none _
      | refine LeO.ite ?_ ?_
      | refine LeO.bind ?_ (fun _ => ?_)
    · intro y0 y1 y2 y3 y4 y5 y6 y7 y8 y9 y10
      unfold laws_FnExactDataLines.j1
      repeat' first
      | (with_reducible exact ih0 _ _ _ _ _ _ _ _ _ _ _ _ _ _ _ _ _ _ _)
      | (with_reducible exact ih1 _ _ _ _ _ _ _ _ _ _ _)
      | (with_reducible exact ih2 _ _ _)
      | (with_reducible exact impl_DataLines.mono _ _ _ _ _ _ _ _)
      | (with_reducible exact laws_eqData.mono _ _ _ _ _ _ _ _ _ _ _ _ _ _ _)
      | (with_reducible exact laws_eqStringS.mono _ _ _)
      | (with_reducible exact laws_heldStringS.mono _ _ _)
      | (with_reducible exact laws_markData.mono _ _ _ _ _ _ _ _ _)
      | (with_reducible exact laws_markStringS.mono _ _ _)
      | (with_reducible exact laws_toData.mono _ _ _ _ _ _ _ _)
      | (with_reducible exact spec_DataLines.mono _ _ _ _ _ _ _ _)
      | (with_reducible exact LeO.refl _)
      | (with_reducible exact LeO.none _)
      | (with_reducible refine LeO.ite ?_ ?_)
      | (with_reducible refine LeO.bind ?_ (fun _ => ?_))
      | exact ih0 _ _ _ _ _ _ _ _ _ _ _ _ _ _ _ _ _ _ _
      | exact ih1 _ _ _ _ _ _ _ _ _ _ _
      | exact ih2 _ _ _
      | exact impl_DataLines.mono _ _ _ _ _ _ _ _
      | exact laws_eqData.mono _ _ _ _ _ _ _ _ _ _ _ _ _ _ _
      | exact laws_eqStringS.mono _ _ _
      | exact laws_heldStringS.mono _ _ _
      | exact laws_markData.mono _ _ _ _ _ _ _ _ _
      | exact laws_markStringS.mono _ _ _
      | exact laws_toData.mono _ _ _ _ _ _ _ _
      | exact spec_DataLines.mono _ _ _ _ _ _ _ _
      | exact LeO.none _
      | refine LeO.ite ?_ ?_
      | refine LeO.bind ?_ (fun _ => ?_)
    · intro y0 y1 y2
      unfold laws_FnExactDataLines.j2
      repeat' first
      | (with_reducible exact ih0 _ _ _ _ _ _ _ _ _ _ _ _ _ _ _ _ _ _ _)
      | (with_reducible exact ih1 _ _ _ _ _ _ _ _ _ _ _)
      | (with_reducible exact ih2 _ _ _)
      | (with_reducible exact impl_DataLines.mono _ _ _ _ _ _ _ _)
      | (with_reducible exact laws_eqData.mono _ _ _ _ _ _ _ _ _ _ _ _ _ _ _)
      | (with_reducible exact laws_eqStringS.mono _ _ _)
      | (with_reducible exact laws_heldStringS.mono _ _ _)
      | (with_reducible exact laws_markData.mono _ _ _ _ _ _ _ _ _)
      | (with_reducible exact laws_markStringS.mono _ _ _)
      | (with_reducible exact laws_toData.mono _ _ _ _ _ _ _ _)
      | (with_reducible exact spec_DataLines.mono _ _ _ _ _ _ _ _)
      | (with_reducible exact LeO.refl _)
      | (with_reducible exact LeO.none _)
      | (with_reducible refine LeO.ite ?_ ?_)
      | (with_reducible refine LeO.bind ?_ (fun _ => ?_))
      | exact ih0 _ _ _ _ _ _ _ _ _ _ _ _ _ _ _ _ _ _ _
      | exact ih1 _ _ _ _ _ _ _ _ _ _ _
      | exact ih2 _ _ _
      | exact impl_DataLines.mono _ _ _ _ _ _ _ _
      | exact laws_eqData.mono _ _ _ _ _ _ _ _ _ _ _ _ _ _ _
      | exact laws_eqStringS.mono _ _ _
      | exact laws_heldStringS.mono _ _ _
      | exact laws_markData.mono _ _ _ _ _ _ _ _ _
      | exact laws_markStringS.mono _ _ _
      | exact laws_toData.mono _ _ _ _ _ _ _ _
      | exact spec_DataLines.mono _ _ _ _ _ _ _ _
      | exact LeO.none _
      | refine LeO.ite ?_ ?_
      | refine LeO.bind ?_ (fun _ => ?_)
theorem laws_FnExactDataLines.mono : ∀ a0 a1 a2 a3 a4 a5 a6 k, LeO (laws_FnExactDataLines.f k a0 a1 a2 a3 a4 a5 a6) (laws_FnExactDataLines.f (k + 1) a0 a1 a2 a3 a4 a5 a6) := by
  intro a0 a1 a2 a3 a4 a5 a6 k
  obtain ⟨ih0, ih1, ih2⟩ := laws_FnExactDataLines.mono_l k
  unfold laws_FnExactDataLines.f
  repeat' first
      | (with_reducible exact ih0 _ _ _ _ _ _ _ _ _ _ _ _ _ _ _ _ _ _ _)
      | (with_reducible exact ih1 _ _ _ _ _ _ _ _ _ _ _)
      | (with_reducible exact ih2 _ _ _)
      | (with_reducible exact impl_DataLines.mono _ _ _ _ _ _ _ _)
      | (with_reducible exact laws_eqData.mono _ _ _ _ _ _ _ _ _ _ _ _ _ _ _)
      | (with_reducible exact laws_eqStringS.mono _ _ _)
      | (with_reducible exact laws_heldStringS.mono _ _ _)
      | (with_reducible exact laws_markData.mono _ _ _ _ _ _ _ _ _)
      | (with_reducible exact laws_markStringS.mono _ _ _)
      | (with_reducible exact laws_toData.mono _ _ _ _ _ _ _ _)
      | (with_reducible exact spec_DataLines.mono _ _ _ _ _ _ _ _)
      | (with_reducible exact LeO.refl _)
      | (with_reducible exact LeO.none _)
      | (with_reducible refine LeO.ite ?_ ?_)
      | (with_reducible refine LeO.bind ?_ (fun _ => ?_))
      | exact ih0 _ _ _ _ _ _ _ _ _ _ _ _ _ _ _ _ _ _ _
      | exact ih1 _ _ _ _ _ _ _ _ _ _ _
      | exact ih2 _ _ _
      | exact impl_DataLines.mono _ _ _ _ _ _ _ _
      | exact laws_eqData.mono _ _ _ _ _ _ _ _ _ _ _ _ _ _ _
      | exact laws_eqStringS.mono _ _ _
      | exact laws_heldStringS.mono _ _ _
      | exact laws_markData.mono _ _ _ _ _ _ _ _ _
      | exact laws_markStringS.mono _ _ _
      | exact laws_toData.mono _ _ _ _ _ _ _ _
      | exact spec_DataLines.mono _ _ _ _ _ _ _ _
      | exact LeO.none _
      | refine LeO.ite ?_ ?_
      | refine LeO.bind ?_ (fun _ => ?_)
set_option maxHeartbeats 8000000 in
set_option maxRecDepth 100000 in
theorem laws_FnExactDataLines.calls (k : Nat) (A0_0 : Option Addr) (c0_0 : Nat) (l0_0 : List Int) (A0_1 : Option Addr) (c0_1 : Nat) (l0_1 : List (S77)) (A0_2 : Option Addr) (c0_2 : Nat) (l0_2 : List Bool) (A0_3 : Option Addr) (c0_3 : Nat) (l0_3 : List Bool) (A0_4 : Option Addr) (c0_4 : Nat) (l0_4 : List Bool) (A0_5 : Option Addr) (c0_5 : Nat) (l0_5 : List Bool) (a0_6 : Int) (r : Bool) (w : World) (hr0_0 : Kd.C (Kd.int .i64) w A0_0 l0_0.length l0_0) (hc0_0 : l0_0.length ≤ c0_0) (hr0_1 : Kd.C k77 w A0_1 l0_1.length l0_1) (hc0_1 : l0_1.length ≤ c0_1) (hr0_2 : Kd.C Kd.bool w A0_2 l0_2.length l0_2) (hc0_2 : l0_2.length ≤ c0_2) (hr0_3 : Kd.C Kd.bool w A0_3 l0_3.length l0_3) (hc0_3 : l0_3.length ≤ c0_3) (hr0_4 : Kd.C Kd.bool w A0_4 l0_4.length l0_4) (hc0_4 : l0_4.length ≤ c0_4) (hr0_5 : Kd.C Kd.bool w A0_5 l0_5.length l0_5) (hc0_5 : l0_5.length ≤ c0_5) (hG : Glob w) (h : laws_FnExactDataLines.f k l0_0 l0_1 l0_2 l0_3 l0_4 l0_5 a0_6 = some r) :
    Calls Tryd.prog 3 #[.agg #[.slice A0_0 l0_0.length c0_0, .slice A0_1 l0_1.length c0_1, .slice A0_2 l0_2.length c0_2, .slice A0_3 l0_3.length c0_3, .slice A0_4 l0_4.length c0_4, .slice A0_5 l0_5.length c0_5, .int .i64 a0_6]] w fun e w' => e = .returned (.bool r) ∧ Below w.heap.size w w' := by
  have hu26 := Tryd.underlying26
  have hu33 := Tryd.underlying33
  have HG := Aside0.mk hG
  clear hG
  have HR0_0 := Aside0.mk hr0_0
  have HC0_0 := Aside0.mk hc0_0
  clear hr0_0 hc0_0
  have HR0_1 := Aside0.mk hr0_1
  have HC0_1 := Aside0.mk hc0_1
  clear hr0_1 hc0_1
  have HR0_2 := Aside0.mk hr0_2
  have HC0_2 := Aside0.mk hc0_2
  clear hr0_2 hc0_2
  have HR0_3 := Aside0.mk hr0_3
  have HC0_3 := Aside0.mk hc0_3
  clear hr0_3 hc0_3
  have HR0_4 := Aside0.mk hr0_4
  have HC0_4 := Aside0.mk hc0_4
  clear hr0_4 hc0_4
  have HR0_5 := Aside0.mk hr0_5
  have HC0_5 := Aside0.mk hc0_5
  clear hr0_5 hc0_5
  have HB := Aside0.mk (Below.refl w.heap.size w)
  have H : ((laws_szData.f l0_0 l0_1 l0_2 l0_3 l0_4 l0_5 a0_6 1048576).bind fun t286 => (if t286 < 0 then (some true) else ((laws_toData.f k l0_0 l0_1 l0_2 l0_3 l0_4 l0_5 a0_6).bind fun bt287 => ((spec_DataLines.f k bt287.1 bt287.2.1 bt287.2.2.1 bt287.2.2.2.1 bt287.2.2.2.2.1 bt287.2.2.2.2.2.1 bt287.2.2.2.2.2.2).bind fun bt306 => ((laws_toData.f k l0_0 l0_1 l0_2 l0_3 l0_4 l0_5 a0_6).bind fun bt310 => ((impl_DataLines.f k bt310.1 bt310.2.1 bt310.2.2.1 bt310.2.2.2.1 bt310.2.2.2.2.1 bt310.2.2.2.2.2.1 bt310.2.2.2.2.2.2).bind fun bt330 => ((laws_eqStringS.f k bt330.1 bt306.1).bind fun t334 => (if t334 = true then (laws_FnExactDataLines.j0 k bt306.1 bt306.2 bt330.1 bt330.2 (bt330.2 != bt306.2) l0_0 l0_1 l0_2 l0_3 l0_4 l0_5 a0_6 bt310.1 bt310.2.1 bt310.2.2.1 bt310.2.2.2.1 bt310.2.2.2.2.1 bt310.2.2.2.2.2.1 bt310.2.2.2.2.2.2) else (none))))))))) = some r := h
  clear h
  replace H := Option.bind_eq_some_iff.mp H
  obtain ⟨t286, A20, H⟩ := H
  replace H : (if t286 < 0 then (some true) else ((laws_toData.f k l0_0 l0_1 l0_2 l0_3 l0_4 l0_5 a0_6).bind fun bt287 => ((spec_DataLines.f k bt287.1 bt287.2.1 bt287.2.2.1 bt287.2.2.2.1 bt287.2.2.2.2.1 bt287.2.2.2.2.2.1 bt287.2.2.2.2.2.2).bind fun bt306 => ((laws_toData.f k l0_0 l0_1 l0_2 l0_3 l0_4 l0_5 a0_6).bind fun bt310 => ((impl_DataLines.f k bt310.1 bt310.2.1 bt310.2.2.1 bt310.2.2.2.1 bt310.2.2.2.2.1 bt310.2.2.2.2.2.1 bt310.2.2.2.2.2.2).bind fun bt330 => ((laws_eqStringS.f k bt330.1 bt306.1).bind fun t334 => (if t334 = true then (laws_FnExactDataLines.j0 k bt306.1 bt306.2 bt330.1 bt330.2 (bt330.2 != bt306.2) l0_0 l0_1 l0_2 l0_3 l0_4 l0_5 a0_6 bt310.1 bt310.2.1 bt310.2.2.1 bt310.2.2.2.1 bt310.2.2.2.2.1 bt310.2.2.2.2.2.1 bt310.2.2.2.2.2.2) else (none)))))))) = some r := H
  have A2 := Aside0.mk A20
  clear A20
  by_cases c3 : t286 < 0
  · rw [if_pos c3] at H
    have c3b0 : decide (t286 < 0) = true := decide_eq_true c3
    clear c3
    obtain rfl := Option.some.inj H
    go_enter Tryd.func3, Tryd.ntmps3
    go_wp2_with (first | ((with_reducible refine gate_dst (N := 1) rfl ?_); refine box_event ?hg (N := 1) ?hd (cs := #[.slice A0_0 l0_0.length c0_0, .slice A0_1 l0_1.length c0_1, .slice A0_2 l0_2.length c0_2, .slice A0_3 l0_3.length c0_3, .slice A0_4 l0_4.length c0_4, .slice A0_5 l0_5.length c0_5, .int .i64 a0_6]) (t := 26) ?hr ?_; (case hd => rfl); (case hg => rfl); (case hr => first | (go_simp; done) | (go_simp; rfl)); intro gb285 hg w4 hbox hb; have n0_ := Aside0.mk (below_step (qw HB.out) hb); have n1_ := Aside0.mk (hbox); have n2_ := Aside0.mk ((by rw [hg]; exact (below_size (qw HB.out)) : w.heap.size ≤ gb285)); have n3_ := Aside0.mk ((by rw [hg]; exact (below_size (qw HB.out)) : w.heap.size ≤ gb285)); clear HB; have HB := n0_; have BK285 := n1_; have GW285 := n2_; have GE285 := n3_; clear n0_ n1_ n2_ n3_; clear hb hbox hg; have hcz5_0 : w4.cell? ⟨gb285, 0, none⟩ = some (.slice A0_0 l0_0.length c0_0) := (blk_cell BK285.out 0).trans rfl; have hcz5_1 : w4.cell? ⟨gb285, 1, none⟩ = some (.slice A0_1 l0_1.length c0_1) := (blk_cell BK285.out 1).trans rfl; have hcz5_2 : w4.cell? ⟨gb285, 2, none⟩ = some (.slice A0_2 l0_2.length c0_2) := (blk_cell BK285.out 2).trans rfl; have hcz5_3 : w4.cell? ⟨gb285, 3, none⟩ = some (.slice A0_3 l0_3.length c0_3) := (blk_cell BK285.out 3).trans rfl; have hcz5_4 : w4.cell? ⟨gb285, 4, none⟩ = some (.slice A0_4 l0_4.length c0_4) := (blk_cell BK285.out 4).trans rfl; have hcz5_5 : w4.cell? ⟨gb285, 5, none⟩ = some (.slice A0_5 l0_5.length c0_5) := (blk_cell BK285.out 5).trans rfl; have hcz5_6 : w4.cell? ⟨gb285, 6, none⟩ = some (.int .i64 a0_6) := (blk_cell BK285.out 6).trans rfl; have hfz5_0 := blk_frozen BK285.out 0; have hfz5_1 := blk_frozen BK285.out 1; have hfz5_2 := blk_frozen BK285.out 2; have hfz5_3 := blk_frozen BK285.out 3; have hfz5_4 := blk_frozen BK285.out 4; have hfz5_5 := blk_frozen BK285.out 5; have hfz5_6 := blk_frozen BK285.out 6) | ((with_reducible refine gate_callee (f := 6) rfl ?_); refine goesL_ (some 16) rfl rfl Tryd.func6 (by kernel_rfl) rfl #[.agg #[.slice A0_0 l0_0.length c0_0, .slice A0_1 l0_1.length c0_1, .slice A0_2 l0_2.length c0_2, .slice A0_3 l0_3.length c0_3, .slice A0_4 l0_4.length c0_4, .slice A0_5 l0_5.length c0_5, .int .i64 a0_6], .int .i64 1048576] rfl qa ?_; (with_reducible refine (laws_szData.calls _ _ l0_0 _ _ l0_1 _ _ l0_2 _ _ l0_3 _ _ l0_4 _ _ l0_5 a0_6 1048576 t286 _ ?side1 ?side2 ?side3 ?side4 ?side5 ?side6 ?side7 ?side8 ?side9 ?side10 ?side11 ?side12 A2.out).mono ?_); (case side1 => repeat (first | exact (Kd.C_below HR0_0.out HB.out) | (with_reducible refine Kd.C_alloc ?_ _) | (with_reducible refine Kd.C_drewN ?_ _) | (with_reducible refine Kd.C_drew ?_))); (case side2 => exact HC0_0.out); (case side3 => repeat (first | exact (Kd.C_below HR0_1.out HB.out) | (with_reducible refine Kd.C_alloc ?_ _) | (with_reducible refine Kd.C_drewN ?_ _) | (with_reducible refine Kd.C_drew ?_))); (case side4 => exact HC0_1.out); (case side5 => repeat (first | exact (Kd.C_below HR0_2.out HB.out) | (with_reducible refine Kd.C_alloc ?_ _) | (with_reducible refine Kd.C_drewN ?_ _) | (with_reducible refine Kd.C_drew ?_))); (case side6 => exact HC0_2.out); (case side7 => repeat (first | exact (Kd.C_below HR0_3.out HB.out) | (with_reducible refine Kd.C_alloc ?_ _) | (with_reducible refine Kd.C_drewN ?_ _) | (with_reducible refine Kd.C_drew ?_))); (case side8 => exact HC0_3.out); (case side9 => repeat (first | exact (Kd.C_below HR0_4.out HB.out) | (with_reducible refine Kd.C_alloc ?_ _) | (with_reducible refine Kd.C_drewN ?_ _) | (with_reducible refine Kd.C_drew ?_))); (case side10 => exact HC0_4.out); (case side11 => repeat (first | exact (Kd.C_below HR0_5.out HB.out) | (with_reducible refine Kd.C_alloc ?_ _) | (with_reducible refine Kd.C_drewN ?_ _) | (with_reducible refine Kd.C_drew ?_))); (case side12 => exact HC0_5.out); rintro e w6 ⟨rfl, hb⟩; refine ⟨_, rfl, ?_⟩; have n0_ := Aside0.mk (blk_below (g := gb285) (o := .cells #[.slice A0_0 l0_0.length c0_0, .slice A0_1 l0_1.length c0_1, .slice A0_2 l0_2.length c0_2, .slice A0_3 l0_3.length c0_3, .slice A0_4 l0_4.length c0_4, .slice A0_5 l0_5.length c0_5, .int .i64 a0_6] 26 (0, 0)) (qb BK285.out) hb); have n1_ := Aside0.mk (below_step (qw HB.out) hb); clear BK285; clear HB; have BK285 := n0_; have HB := n1_; clear n0_ n1_; (try clear hb); (try clear hb2); (try clear hk); (try clear hi)))
    go_ret
    exact ⟨qe, qw HB.out⟩
  · rw [if_neg c3] at H
    have c3b0 : decide (t286 < 0) = false := decide_eq_false c3
    clear c3
    replace H := Option.bind_eq_some_iff.mp H
    obtain ⟨⟨t287, t290, t293, t296, t299, t302, t305⟩, A70, H⟩ := H
    replace H : ((spec_DataLines.f k t287 t290 t293 t296 t299 t302 t305).bind fun bt306 => ((laws_toData.f k l0_0 l0_1 l0_2 l0_3 l0_4 l0_5 a0_6).bind fun bt310 => ((impl_DataLines.f k bt310.1 bt310.2.1 bt310.2.2.1 bt310.2.2.2.1 bt310.2.2.2.2.1 bt310.2.2.2.2.2.1 bt310.2.2.2.2.2.2).bind fun bt330 => ((laws_eqStringS.f k bt330.1 bt306.1).bind fun t334 => (if t334 = true then (laws_FnExactDataLines.j0 k bt306.1 bt306.2 bt330.1 bt330.2 (bt330.2 != bt306.2) l0_0 l0_1 l0_2 l0_3 l0_4 l0_5 a0_6 bt310.1 bt310.2.1 bt310.2.2.1 bt310.2.2.2.1 bt310.2.2.2.2.1 bt310.2.2.2.2.2.1 bt310.2.2.2.2.2.2) else (none)))))) = some r := H
    have A7 := Aside0.mk A70
    clear A70
    replace H := Option.bind_eq_some_iff.mp H
    obtain ⟨⟨t306, t309⟩, A80, H⟩ := H
    replace H : ((laws_toData.f k l0_0 l0_1 l0_2 l0_3 l0_4 l0_5 a0_6).bind fun bt310 => ((impl_DataLines.f k bt310.1 bt310.2.1 bt310.2.2.1 bt310.2.2.2.1 bt310.2.2.2.2.1 bt310.2.2.2.2.2.1 bt310.2.2.2.2.2.2).bind fun bt330 => ((laws_eqStringS.f k bt330.1 t306).bind fun t334 => (if t334 = true then (laws_FnExactDataLines.j0 k t306 t309 bt330.1 bt330.2 (bt330.2 != t309) l0_0 l0_1 l0_2 l0_3 l0_4 l0_5 a0_6 bt310.1 bt310.2.1 bt310.2.2.1 bt310.2.2.2.1 bt310.2.2.2.2.1 bt310.2.2.2.2.2.1 bt310.2.2.2.2.2.2) else (none))))) = some r := H
    have A8 := Aside0.mk A80
    clear A80
    replace H := Option.bind_eq_some_iff.mp H
    obtain ⟨⟨t310, t313, t316, t319, t322, t325, t328⟩, A90, H⟩ := H
    replace H : ((impl_DataLines.f k t310 t313 t316 t319 t322 t325 t328).bind fun bt330 => ((laws_eqStringS.f k bt330.1 t306).bind fun t334 => (if t334 = true then (laws_FnExactDataLines.j0 k t306 t309 bt330.1 bt330.2 (bt330.2 != t309) l0_0 l0_1 l0_2 l0_3 l0_4 l0_5 a0_6 t310 t313 t316 t319 t322 t325 t328) else (none)))) = some r := H
    have A9 := Aside0.mk A90
    clear A90
    replace H := Option.bind_eq_some_iff.mp H
    obtain ⟨⟨t330, t333⟩, A100, H⟩ := H
    replace H : ((laws_eqStringS.f k t330 t306).bind fun t334 => (if t334 = true then (laws_FnExactDataLines.j0 k t306 t309 t330 t333 (t333 != t309) l0_0 l0_1 l0_2 l0_3 l0_4 l0_5 a0_6 t310 t313 t316 t319 t322 t325 t328) else (none))) = some r := H
    have A10 := Aside0.mk A100
    clear A100
    have HC11 := Aside0.mk H
    clear H
    go_enter Tryd.func3, Tryd.ntmps3
    go_upto_region 8 with (first | ((with_reducible refine gate_dst (N := 1) rfl ?_); refine box_event ?hg (N := 1) ?hd (cs := #[.slice A0_0 l0_0.length c0_0, .slice A0_1 l0_1.length c0_1, .slice A0_2 l0_2.length c0_2, .slice A0_3 l0_3.length c0_3, .slice A0_4 l0_4.length c0_4, .slice A0_5 l0_5.length c0_5, .int .i64 a0_6]) (t := 26) ?hr ?_; (case hd => rfl); (case hg => rfl); (case hr => first | (go_simp; done) | (go_simp; rfl)); intro gb285 hg w12 hbox hb; have n0_ := Aside0.mk (below_step (qw HB.out) hb); have n1_ := Aside0.mk (hbox); have n2_ := Aside0.mk ((by rw [hg]; exact (below_size (qw HB.out)) : w.heap.size ≤ gb285)); have n3_ := Aside0.mk ((by rw [hg]; exact (below_size (qw HB.out)) : w.heap.size ≤ gb285)); clear HB; have HB := n0_; have BK285 := n1_; have GW285 := n2_; have GE285 := n3_; clear n0_ n1_ n2_ n3_; clear hb hbox hg; have hcz13_0 : w12.cell? ⟨gb285, 0, none⟩ = some (.slice A0_0 l0_0.length c0_0) := (blk_cell BK285.out 0).trans rfl; have hcz13_1 : w12.cell? ⟨gb285, 1, none⟩ = some (.slice A0_1 l0_1.length c0_1) := (blk_cell BK285.out 1).trans rfl; have hcz13_2 : w12.cell? ⟨gb285, 2, none⟩ = some (.slice A0_2 l0_2.length c0_2) := (blk_cell BK285.out 2).trans rfl; have hcz13_3 : w12.cell? ⟨gb285, 3, none⟩ = some (.slice A0_3 l0_3.length c0_3) := (blk_cell BK285.out 3).trans rfl; have hcz13_4 : w12.cell? ⟨gb285, 4, none⟩ = some (.slice A0_4 l0_4.length c0_4) := (blk_cell BK285.out 4).trans rfl; have hcz13_5 : w12.cell? ⟨gb285, 5, none⟩ = some (.slice A0_5 l0_5.length c0_5) := (blk_cell BK285.out 5).trans rfl; have hcz13_6 : w12.cell? ⟨gb285, 6, none⟩ = some (.int .i64 a0_6) := (blk_cell BK285.out 6).trans rfl; have hfz13_0 := blk_frozen BK285.out 0; have hfz13_1 := blk_frozen BK285.out 1; have hfz13_2 := blk_frozen BK285.out 2; have hfz13_3 := blk_frozen BK285.out 3; have hfz13_4 := blk_frozen BK285.out 4; have hfz13_5 := blk_frozen BK285.out 5; have hfz13_6 := blk_frozen BK285.out 6) | ((with_reducible refine gate_callee (f := 6) rfl ?_); refine goesL_ (some 16) rfl rfl Tryd.func6 (by kernel_rfl) rfl #[.agg #[.slice A0_0 l0_0.length c0_0, .slice A0_1 l0_1.length c0_1, .slice A0_2 l0_2.length c0_2, .slice A0_3 l0_3.length c0_3, .slice A0_4 l0_4.length c0_4, .slice A0_5 l0_5.length c0_5, .int .i64 a0_6], .int .i64 1048576] rfl qa ?_; (with_reducible refine (laws_szData.calls _ _ l0_0 _ _ l0_1 _ _ l0_2 _ _ l0_3 _ _ l0_4 _ _ l0_5 a0_6 1048576 t286 _ ?side1 ?side2 ?side3 ?side4 ?side5 ?side6 ?side7 ?side8 ?side9 ?side10 ?side11 ?side12 A2.out).mono ?_); (case side1 => repeat (first | exact (Kd.C_below HR0_0.out HB.out) | (with_reducible refine Kd.C_alloc ?_ _) | (with_reducible refine Kd.C_drewN ?_ _) | (with_reducible refine Kd.C_drew ?_))); (case side2 => exact HC0_0.out); (case side3 => repeat (first | exact (Kd.C_below HR0_1.out HB.out) | (with_reducible refine Kd.C_alloc ?_ _) | (with_reducible refine Kd.C_drewN ?_ _) | (with_reducible refine Kd.C_drew ?_))); (case side4 => exact HC0_1.out); (case side5 => repeat (first | exact (Kd.C_below HR0_2.out HB.out) | (with_reducible refine Kd.C_alloc ?_ _) | (with_reducible refine Kd.C_drewN ?_ _) | (with_reducible refine Kd.C_drew ?_))); (case side6 => exact HC0_2.out); (case side7 => repeat (first | exact (Kd.C_below HR0_3.out HB.out) | (with_reducible refine Kd.C_alloc ?_ _) | (with_reducible refine Kd.C_drewN ?_ _) | (with_reducible refine Kd.C_drew ?_))); (case side8 => exact HC0_3.out); (case side9 => repeat (first | exact (Kd.C_below HR0_4.out HB.out) | (with_reducible refine Kd.C_alloc ?_ _) | (with_reducible refine Kd.C_drewN ?_ _) | (with_reducible refine Kd.C_drew ?_))); (case side10 => exact HC0_4.out); (case side11 => repeat (first | exact (Kd.C_below HR0_5.out HB.out) | (with_reducible refine Kd.C_alloc ?_ _) | (with_reducible refine Kd.C_drewN ?_ _) | (with_reducible refine Kd.C_drew ?_))); (case side12 => exact HC0_5.out); rintro e w14 ⟨rfl, hb⟩; refine ⟨_, rfl, ?_⟩; have n0_ := Aside0.mk (blk_below (g := gb285) (o := .cells #[.slice A0_0 l0_0.length c0_0, .slice A0_1 l0_1.length c0_1, .slice A0_2 l0_2.length c0_2, .slice A0_3 l0_3.length c0_3, .slice A0_4 l0_4.length c0_4, .slice A0_5 l0_5.length c0_5, .int .i64 a0_6] 26 (0, 0)) (qb BK285.out) hb); have n1_ := Aside0.mk (below_step (qw HB.out) hb); clear BK285; clear HB; have BK285 := n0_; have HB := n1_; clear n0_ n1_; (try clear hb); (try clear hb2); (try clear hk); (try clear hi); have hcz15_0 : w14.cell? ⟨gb285, 0, none⟩ = some (.slice A0_0 l0_0.length c0_0) := (blk_cell BK285.out 0).trans rfl; have hcz15_1 : w14.cell? ⟨gb285, 1, none⟩ = some (.slice A0_1 l0_1.length c0_1) := (blk_cell BK285.out 1).trans rfl; have hcz15_2 : w14.cell? ⟨gb285, 2, none⟩ = some (.slice A0_2 l0_2.length c0_2) := (blk_cell BK285.out 2).trans rfl; have hcz15_3 : w14.cell? ⟨gb285, 3, none⟩ = some (.slice A0_3 l0_3.length c0_3) := (blk_cell BK285.out 3).trans rfl; have hcz15_4 : w14.cell? ⟨gb285, 4, none⟩ = some (.slice A0_4 l0_4.length c0_4) := (blk_cell BK285.out 4).trans rfl; have hcz15_5 : w14.cell? ⟨gb285, 5, none⟩ = some (.slice A0_5 l0_5.length c0_5) := (blk_cell BK285.out 5).trans rfl; have hcz15_6 : w14.cell? ⟨gb285, 6, none⟩ = some (.int .i64 a0_6) := (blk_cell BK285.out 6).trans rfl; have hfz15_0 := blk_frozen BK285.out 0; have hfz15_1 := blk_frozen BK285.out 1; have hfz15_2 := blk_frozen BK285.out 2; have hfz15_3 := blk_frozen BK285.out 3; have hfz15_4 := blk_frozen BK285.out 4; have hfz15_5 := blk_frozen BK285.out 5; have hfz15_6 := blk_frozen BK285.out 6) | ((with_reducible refine gate_callee (f := 8) rfl ?_); refine goesL_ (some 21) rfl rfl Tryd.func8 (by kernel_rfl) rfl #[.agg #[.slice A0_0 l0_0.length c0_0, .slice A0_1 l0_1.length c0_1, .slice A0_2 l0_2.length c0_2, .slice A0_3 l0_3.length c0_3, .slice A0_4 l0_4.length c0_4, .slice A0_5 l0_5.length c0_5, .int .i64 a0_6]] rfl qa ?_; (with_reducible refine (laws_toData.calls k _ _ l0_0 _ _ l0_1 _ _ l0_2 _ _ l0_3 _ _ l0_4 _ _ l0_5 a0_6 t287 t290 t293 t296 t299 t302 t305 _ ?side1 ?side2 ?side3 ?side4 ?side5 ?side6 ?side7 ?side8 ?side9 ?side10 ?side11 ?side12 A7.out).mono ?_); (case side1 => repeat (first | exact (Kd.C_below HR0_0.out HB.out) | (with_reducible refine Kd.C_alloc ?_ _) | (with_reducible refine Kd.C_drewN ?_ _) | (with_reducible refine Kd.C_drew ?_))); (case side2 => exact HC0_0.out); (case side3 => repeat (first | exact (Kd.C_below HR0_1.out HB.out) | (with_reducible refine Kd.C_alloc ?_ _) | (with_reducible refine Kd.C_drewN ?_ _) | (with_reducible refine Kd.C_drew ?_))); (case side4 => exact HC0_1.out); (case side5 => repeat (first | exact (Kd.C_below HR0_2.out HB.out) | (with_reducible refine Kd.C_alloc ?_ _) | (with_reducible refine Kd.C_drewN ?_ _) | (with_reducible refine Kd.C_drew ?_))); (case side6 => exact HC0_2.out); (case side7 => repeat (first | exact (Kd.C_below HR0_3.out HB.out) | (with_reducible refine Kd.C_alloc ?_ _) | (with_reducible refine Kd.C_drewN ?_ _) | (with_reducible refine Kd.C_drew ?_))); (case side8 => exact HC0_3.out); (case side9 => repeat (first | exact (Kd.C_below HR0_4.out HB.out) | (with_reducible refine Kd.C_alloc ?_ _) | (with_reducible refine Kd.C_drewN ?_ _) | (with_reducible refine Kd.C_drew ?_))); (case side10 => exact HC0_4.out); (case side11 => repeat (first | exact (Kd.C_below HR0_5.out HB.out) | (with_reducible refine Kd.C_alloc ?_ _) | (with_reducible refine Kd.C_drewN ?_ _) | (with_reducible refine Kd.C_drew ?_))); (case side12 => exact HC0_5.out); rintro e w16 ⟨v288, v291, v294, v297, v300, v303, rfl, ho0, ho1, ho2, ho3, ho4, ho5, hb⟩; refine ⟨_, rfl, ?_⟩; have n0_ := Aside0.mk (Kd.R_lower ho0 (below_size (qw HB.out))); have n1_ := Aside0.mk (Kd.R_lower ho1 (below_size (qw HB.out))); have n2_ := Aside0.mk (Kd.R_lower ho2 (below_size (qw HB.out))); have n3_ := Aside0.mk (Kd.R_lower ho3 (below_size (qw HB.out))); have n4_ := Aside0.mk (Kd.R_lower ho4 (below_size (qw HB.out))); have n5_ := Aside0.mk (Kd.R_lower ho5 (below_size (qw HB.out))); have n6_ := Aside0.mk (blk_below (g := gb285) (o := .cells #[.slice A0_0 l0_0.length c0_0, .slice A0_1 l0_1.length c0_1, .slice A0_2 l0_2.length c0_2, .slice A0_3 l0_3.length c0_3, .slice A0_4 l0_4.length c0_4, .slice A0_5 l0_5.length c0_5, .int .i64 a0_6] 26 (0, 0)) (qb BK285.out) hb); have n7_ := Aside0.mk (below_step (qw HB.out) hb); clear BK285; clear HB; have HO289 := n0_; have HO292 := n1_; have HO295 := n2_; have HO298 := n3_; have HO301 := n4_; have HO304 := n5_; have BK285 := n6_; have HB := n7_; clear n0_ n1_ n2_ n3_ n4_ n5_ n6_ n7_; (try clear hb); (try clear hb2); (try clear hk); (try clear hi); (try clear ho0); (try clear ho1); (try clear ho2); (try clear ho3); (try clear ho4); (try clear ho5); obtain ⟨Ao17, co17, eo17⟩ := Kd.R_slice HO289.out; subst eo17; obtain ⟨Ao18, co18, eo18⟩ := Kd.R_slice HO292.out; subst eo18; obtain ⟨Ao19, co19, eo19⟩ := Kd.R_slice HO295.out; subst eo19; obtain ⟨Ao20, co20, eo20⟩ := Kd.R_slice HO298.out; subst eo20; obtain ⟨Ao21, co21, eo21⟩ := Kd.R_slice HO301.out; subst eo21; obtain ⟨Ao22, co22, eo22⟩ := Kd.R_slice HO304.out; subst eo22) | ((with_reducible refine gate_callee (f := 7) rfl ?_); refine goesL_ (some 22) rfl rfl Tryd.func7 (by kernel_rfl) rfl #[.agg #[.slice Ao17 t287.length co17, .slice Ao18 t290.length co18, .slice Ao19 t293.length co19, .slice Ao20 t296.length co20, .slice Ao21 t299.length co21, .slice Ao22 t302.length co22, .int .i64 t305]] rfl qa ?_; (with_reducible refine (spec_DataLines.calls k _ _ t287 _ _ t290 _ _ t293 _ _ t296 _ _ t299 _ _ t302 t305 t306 t309 _ ?side1 ?side2 ?side3 ?side4 ?side5 ?side6 ?side7 ?side8 ?side9 ?side10 ?side11 ?side12 A8.out).mono ?_); (case side1 => repeat (first | exact (Kd.R_reads' HO289.out).2.2 | (with_reducible refine Kd.C_alloc ?_ _) | (with_reducible refine Kd.C_drewN ?_ _) | (with_reducible refine Kd.C_drew ?_))); (case side2 => exact (Kd.R_reads' HO289.out).2.1); (case side3 => repeat (first | exact (Kd.R_reads' HO292.out).2.2 | (with_reducible refine Kd.C_alloc ?_ _) | (with_reducible refine Kd.C_drewN ?_ _) | (with_reducible refine Kd.C_drew ?_))); (case side4 => exact (Kd.R_reads' HO292.out).2.1); (case side5 => repeat (first | exact (Kd.R_reads' HO295.out).2.2 | (with_reducible refine Kd.C_alloc ?_ _) | (with_reducible refine Kd.C_drewN ?_ _) | (with_reducible refine Kd.C_drew ?_))); (case side6 => exact (Kd.R_reads' HO295.out).2.1); (case side7 => repeat (first | exact (Kd.R_reads' HO298.out).2.2 | (with_reducible refine Kd.C_alloc ?_ _) | (with_reducible refine Kd.C_drewN ?_ _) | (with_reducible refine Kd.C_drew ?_))); (case side8 => exact (Kd.R_reads' HO298.out).2.1); (case side9 => repeat (first | exact (Kd.R_reads' HO301.out).2.2 | (with_reducible refine Kd.C_alloc ?_ _) | (with_reducible refine Kd.C_drewN ?_ _) | (with_reducible refine Kd.C_drew ?_))); (case side10 => exact (Kd.R_reads' HO301.out).2.1); (case side11 => repeat (first | exact (Kd.R_reads' HO304.out).2.2 | (with_reducible refine Kd.C_alloc ?_ _) | (with_reducible refine Kd.C_drewN ?_ _) | (with_reducible refine Kd.C_drew ?_))); (case side12 => exact (Kd.R_reads' HO304.out).2.1); rintro e w23 ⟨v307, rfl, ho0, hb⟩; refine ⟨_, rfl, ?_⟩; have n0_ := Aside0.mk (Kd.R_below (qr HO289.out) hb); have n1_ := Aside0.mk (Kd.R_below (qr HO292.out) hb); have n2_ := Aside0.mk (Kd.R_below (qr HO295.out) hb); have n3_ := Aside0.mk (Kd.R_below (qr HO298.out) hb); have n4_ := Aside0.mk (Kd.R_below (qr HO301.out) hb); have n5_ := Aside0.mk (Kd.R_below (qr HO304.out) hb); have n6_ := Aside0.mk (Kd.R_lower ho0 (below_size (qw HB.out))); have n7_ := Aside0.mk (blk_below (g := gb285) (o := .cells #[.slice A0_0 l0_0.length c0_0, .slice A0_1 l0_1.length c0_1, .slice A0_2 l0_2.length c0_2, .slice A0_3 l0_3.length c0_3, .slice A0_4 l0_4.length c0_4, .slice A0_5 l0_5.length c0_5, .int .i64 a0_6] 26 (0, 0)) (qb BK285.out) hb); have n8_ := Aside0.mk (below_step (qw HB.out) hb); clear HO289; clear HO292; clear HO295; clear HO298; clear HO301; clear HO304; clear BK285; clear HB; have HO289 := n0_; have HO292 := n1_; have HO295 := n2_; have HO298 := n3_; have HO301 := n4_; have HO304 := n5_; have HO308 := n6_; have BK285 := n7_; have HB := n8_; clear n0_ n1_ n2_ n3_ n4_ n5_ n6_ n7_ n8_; (try clear hb); (try clear hb2); (try clear hk); (try clear hi); (try clear ho0); have hcz24_0 : w23.cell? ⟨gb285, 0, none⟩ = some (.slice A0_0 l0_0.length c0_0) := (blk_cell BK285.out 0).trans rfl; have hcz24_1 : w23.cell? ⟨gb285, 1, none⟩ = some (.slice A0_1 l0_1.length c0_1) := (blk_cell BK285.out 1).trans rfl; have hcz24_2 : w23.cell? ⟨gb285, 2, none⟩ = some (.slice A0_2 l0_2.length c0_2) := (blk_cell BK285.out 2).trans rfl; have hcz24_3 : w23.cell? ⟨gb285, 3, none⟩ = some (.slice A0_3 l0_3.length c0_3) := (blk_cell BK285.out 3).trans rfl; have hcz24_4 : w23.cell? ⟨gb285, 4, none⟩ = some (.slice A0_4 l0_4.length c0_4) := (blk_cell BK285.out 4).trans rfl; have hcz24_5 : w23.cell? ⟨gb285, 5, none⟩ = some (.slice A0_5 l0_5.length c0_5) := (blk_cell BK285.out 5).trans rfl; have hcz24_6 : w23.cell? ⟨gb285, 6, none⟩ = some (.int .i64 a0_6) := (blk_cell BK285.out 6).trans rfl; have hfz24_0 := blk_frozen BK285.out 0; have hfz24_1 := blk_frozen BK285.out 1; have hfz24_2 := blk_frozen BK285.out 2; have hfz24_3 := blk_frozen BK285.out 3; have hfz24_4 := blk_frozen BK285.out 4; have hfz24_5 := blk_frozen BK285.out 5; have hfz24_6 := blk_frozen BK285.out 6) | ((with_reducible refine gate_callee (f := 8) rfl ?_); refine goesL_ (some 26) rfl rfl Tryd.func8 (by kernel_rfl) rfl #[.agg #[.slice A0_0 l0_0.length c0_0, .slice A0_1 l0_1.length c0_1, .slice A0_2 l0_2.length c0_2, .slice A0_3 l0_3.length c0_3, .slice A0_4 l0_4.length c0_4, .slice A0_5 l0_5.length c0_5, .int .i64 a0_6]] rfl qa ?_; (with_reducible refine (laws_toData.calls k _ _ l0_0 _ _ l0_1 _ _ l0_2 _ _ l0_3 _ _ l0_4 _ _ l0_5 a0_6 t310 t313 t316 t319 t322 t325 t328 _ ?side1 ?side2 ?side3 ?side4 ?side5 ?side6 ?side7 ?side8 ?side9 ?side10 ?side11 ?side12 A9.out).mono ?_); (case side1 => repeat (first | exact (Kd.C_below HR0_0.out HB.out) | (with_reducible refine Kd.C_alloc ?_ _) | (with_reducible refine Kd.C_drewN ?_ _) | (with_reducible refine Kd.C_drew ?_))); (case side2 => exact HC0_0.out); (case side3 => repeat (first | exact (Kd.C_below HR0_1.out HB.out) | (with_reducible refine Kd.C_alloc ?_ _) | (with_reducible refine Kd.C_drewN ?_ _) | (with_reducible refine Kd.C_drew ?_))); (case side4 => exact HC0_1.out); (case side5 => repeat (first | exact (Kd.C_below HR0_2.out HB.out) | (with_reducible refine Kd.C_alloc ?_ _) | (with_reducible refine Kd.C_drewN ?_ _) | (with_reducible refine Kd.C_drew ?_))); (case side6 => exact HC0_2.out); (case side7 => repeat (first | exact (Kd.C_below HR0_3.out HB.out) | (with_reducible refine Kd.C_alloc ?_ _) | (with_reducible refine Kd.C_drewN ?_ _) | (with_reducible refine Kd.C_drew ?_))); (case side8 => exact HC0_3.out); (case side9 => repeat (first | exact (Kd.C_below HR0_4.out HB.out) | (with_reducible refine Kd.C_alloc ?_ _) | (with_reducible refine Kd.C_drewN ?_ _) | (with_reducible refine Kd.C_drew ?_))); (case side10 => exact HC0_4.out); (case side11 => repeat (first | exact (Kd.C_below HR0_5.out HB.out) | (with_reducible refine Kd.C_alloc ?_ _) | (with_reducible refine Kd.C_drewN ?_ _) | (with_reducible refine Kd.C_drew ?_))); (case side12 => exact HC0_5.out); rintro e w25 ⟨v311, v314, v317, v320, v323, v326, rfl, ho0, ho1, ho2, ho3, ho4, ho5, hb⟩; refine ⟨_, rfl, ?_⟩; have n0_ := Aside0.mk (Kd.R_elder' (qr HO289.out) (Kd.R_base ho0) hb); have n1_ := Aside0.mk (Kd.R_elder' (qr HO292.out) (Kd.R_base ho1) hb); have n2_ := Aside0.mk (Kd.R_mono (Kd.R_told (Kd.R_told (Kd.R_told (Kd.R_told (Kd.R_old (qr HO295.out) hb) (Kd.R_base ho2)) (Kd.R_base ho3)) (Kd.R_base ho4)) (Kd.R_base ho5)) (fun _ h_ => h_.1)); have n3_ := Aside0.mk (Kd.R_mono (Kd.R_told (Kd.R_told (Kd.R_told (Kd.R_told (Kd.R_old (qr HO298.out) hb) (Kd.R_base ho2)) (Kd.R_base ho3)) (Kd.R_base ho4)) (Kd.R_base ho5)) (fun _ h_ => h_.1)); have n4_ := Aside0.mk (Kd.R_mono (Kd.R_told (Kd.R_told (Kd.R_told (Kd.R_told (Kd.R_old (qr HO301.out) hb) (Kd.R_base ho2)) (Kd.R_base ho3)) (Kd.R_base ho4)) (Kd.R_base ho5)) (fun _ h_ => h_.1)); have n5_ := Aside0.mk (Kd.R_mono (Kd.R_told (Kd.R_told (Kd.R_told (Kd.R_told (Kd.R_old (qr HO304.out) hb) (Kd.R_base ho2)) (Kd.R_base ho3)) (Kd.R_base ho4)) (Kd.R_base ho5)) (fun _ h_ => h_.1)); have n6_ := Aside0.mk (Kd.R_below (qr HO308.out) hb); have n7_ := Aside0.mk (Kd.R_lower (Kd.R_new' ho0 (Kd.R_lt (qr HO289.out))) (below_size (qw HB.out))); have n8_ := Aside0.mk (Kd.R_lower (Kd.R_new' ho1 (Kd.R_lt (qr HO292.out))) (below_size (qw HB.out))); have n9_ := Aside0.mk (Kd.R_lower (Kd.R_new' (Kd.R_new' (Kd.R_new' (Kd.R_new' ho2 (Kd.R_lt (qr HO295.out))) (Kd.R_lt (qr HO298.out))) (Kd.R_lt (qr HO301.out))) (Kd.R_lt (qr HO304.out))) (below_size (qw HB.out))); have n10_ := Aside0.mk (Kd.R_lower (Kd.R_new' (Kd.R_new' (Kd.R_new' (Kd.R_new' ho3 (Kd.R_lt (qr HO295.out))) (Kd.R_lt (qr HO298.out))) (Kd.R_lt (qr HO301.out))) (Kd.R_lt (qr HO304.out))) (below_size (qw HB.out))); have n11_ := Aside0.mk (Kd.R_lower (Kd.R_new' (Kd.R_new' (Kd.R_new' (Kd.R_new' ho4 (Kd.R_lt (qr HO295.out))) (Kd.R_lt (qr HO298.out))) (Kd.R_lt (qr HO301.out))) (Kd.R_lt (qr HO304.out))) (below_size (qw HB.out))); have n12_ := Aside0.mk (Kd.R_lower (Kd.R_new' (Kd.R_new' (Kd.R_new' (Kd.R_new' ho5 (Kd.R_lt (qr HO295.out))) (Kd.R_lt (qr HO298.out))) (Kd.R_lt (qr HO301.out))) (Kd.R_lt (qr HO304.out))) (below_size (qw HB.out))); have n13_ := Aside0.mk (blk_below (g := gb285) (o := .cells #[.slice A0_0 l0_0.length c0_0, .slice A0_1 l0_1.length c0_1, .slice A0_2 l0_2.length c0_2, .slice A0_3 l0_3.length c0_3, .slice A0_4 l0_4.length c0_4, .slice A0_5 l0_5.length c0_5, .int .i64 a0_6] 26 (0, 0)) (qb BK285.out) hb); have n14_ := Aside0.mk (below_step (qw HB.out) hb); clear HO289; clear HO292; clear HO295; clear HO298; clear HO301; clear HO304; clear HO308; clear BK285; clear HB; have HO289 := n0_; have HO292 := n1_; have HO295 := n2_; have HO298 := n3_; have HO301 := n4_; have HO304 := n5_; have HO308 := n6_; have HO312 := n7_; have HO315 := n8_; have HO318 := n9_; have HO321 := n10_; have HO324 := n11_; have HO327 := n12_; have BK285 := n13_; have HB := n14_; clear n0_ n1_ n2_ n3_ n4_ n5_ n6_ n7_ n8_ n9_ n10_ n11_ n12_ n13_ n14_; (try clear hb); (try clear hb2); (try clear hk); (try clear hi); (try clear ho0); (try clear ho1); (try clear ho2); (try clear ho3); (try clear ho4); (try clear ho5)) | ((with_reducible refine gate_dst (N := 6) rfl ?_); refine box_event ?hg (N := 6) ?hd (cs := #[.slice none 0 0, .slice none 0 0, .slice none 0 0, .slice none 0 0, .slice none 0 0, .slice none 0 0, .int .i64 0]) (t := 33) ?hr ?_; (case hd => rfl); (case hg => rfl); (case hr => first | (go_simp; done) | (go_simp; rfl)); intro gb329 hg w26 hbox hb; have n0_ := Aside0.mk (Kd.R_below (qr HO289.out) hb); have n1_ := Aside0.mk (Kd.R_below (qr HO292.out) hb); have n2_ := Aside0.mk (Kd.R_below (qr HO295.out) hb); have n3_ := Aside0.mk (Kd.R_below (qr HO298.out) hb); have n4_ := Aside0.mk (Kd.R_below (qr HO301.out) hb); have n5_ := Aside0.mk (Kd.R_below (qr HO304.out) hb); have n6_ := Aside0.mk (Kd.R_below (qr HO308.out) hb); have n7_ := Aside0.mk (Kd.R_below (qr HO312.out) hb); have n8_ := Aside0.mk (Kd.R_below (qr HO315.out) hb); have n9_ := Aside0.mk (Kd.R_below (qr HO318.out) hb); have n10_ := Aside0.mk (Kd.R_below (qr HO321.out) hb); have n11_ := Aside0.mk (Kd.R_below (qr HO324.out) hb); have n12_ := Aside0.mk (Kd.R_below (qr HO327.out) hb); have n13_ := Aside0.mk (blk_below (g := gb285) (o := .cells #[.slice A0_0 l0_0.length c0_0, .slice A0_1 l0_1.length c0_1, .slice A0_2 l0_2.length c0_2, .slice A0_3 l0_3.length c0_3, .slice A0_4 l0_4.length c0_4, .slice A0_5 l0_5.length c0_5, .int .i64 a0_6] 26 (0, 0)) (qb BK285.out) hb); have n14_ := Aside0.mk (below_step (qw HB.out) hb); have n15_ := Aside0.mk (hbox); have n16_ := Aside0.mk ((by rw [hg]; exact (below_size (qw HB.out)) : w.heap.size ≤ gb329)); have n17_ := Aside0.mk ((by rw [hg]; exact (below_size (qw HB.out)) : w.heap.size ≤ gb329)); have n18_ := Aside0.mk ((by rw [hg]; exact Nat.ne_of_lt (blk_lt (g := gb285) (o := .cells #[.slice A0_0 l0_0.length c0_0, .slice A0_1 l0_1.length c0_1, .slice A0_2 l0_2.length c0_2, .slice A0_3 l0_3.length c0_3, .slice A0_4 l0_4.length c0_4, .slice A0_5 l0_5.length c0_5, .int .i64 a0_6] 26 (0, 0)) (qb BK285.out)) : gb285 ≠ gb329)); have n19_ := Aside0.mk ((by rw [hg]; exact Nat.ne_of_gt (blk_lt (g := gb285) (o := .cells #[.slice A0_0 l0_0.length c0_0, .slice A0_1 l0_1.length c0_1, .slice A0_2 l0_2.length c0_2, .slice A0_3 l0_3.length c0_3, .slice A0_4 l0_4.length c0_4, .slice A0_5 l0_5.length c0_5, .int .i64 a0_6] 26 (0, 0)) (qb BK285.out)) : gb329 ≠ gb285)); clear HO289; clear HO292; clear HO295; clear HO298; clear HO301; clear HO304; clear HO308; clear HO312; clear HO315; clear HO318; clear HO321; clear HO324; clear HO327; clear BK285; clear HB; have HO289 := n0_; have HO292 := n1_; have HO295 := n2_; have HO298 := n3_; have HO301 := n4_; have HO304 := n5_; have HO308 := n6_; have HO312 := n7_; have HO315 := n8_; have HO318 := n9_; have HO321 := n10_; have HO324 := n11_; have HO327 := n12_; have BK285 := n13_; have HB := n14_; have BK329 := n15_; have GW329 := n16_; have GE329 := n17_; have NB285_329 := n18_; have NB329_285 := n19_; clear n0_ n1_ n2_ n3_ n4_ n5_ n6_ n7_ n8_ n9_ n10_ n11_ n12_ n13_ n14_ n15_ n16_ n17_ n18_ n19_; clear hb hbox hg; obtain ⟨Ao27, co27, eo27⟩ := Kd.R_slice HO312.out; subst eo27; have hnb28 := NB329_285.out; have hnc28 := NB285_329.out; have hcz29_0 : w26.cell? ⟨gb329, 0, none⟩ = some (.slice none 0 0) := (blk_cell BK329.out 0).trans rfl; have hcz29_1 : w26.cell? ⟨gb329, 1, none⟩ = some (.slice none 0 0) := (blk_cell BK329.out 1).trans rfl; have hcz29_2 : w26.cell? ⟨gb329, 2, none⟩ = some (.slice none 0 0) := (blk_cell BK329.out 2).trans rfl; have hcz29_3 : w26.cell? ⟨gb329, 3, none⟩ = some (.slice none 0 0) := (blk_cell BK329.out 3).trans rfl; have hcz29_4 : w26.cell? ⟨gb329, 4, none⟩ = some (.slice none 0 0) := (blk_cell BK329.out 4).trans rfl; have hcz29_5 : w26.cell? ⟨gb329, 5, none⟩ = some (.slice none 0 0) := (blk_cell BK329.out 5).trans rfl; have hcz29_6 : w26.cell? ⟨gb329, 6, none⟩ = some (.int .i64 0) := (blk_cell BK329.out 6).trans rfl; have hfz29_0 := blk_frozen BK329.out 0; have hfz29_1 := blk_frozen BK329.out 1; have hfz29_2 := blk_frozen BK329.out 2; have hfz29_3 := blk_frozen BK329.out 3; have hfz29_4 := blk_frozen BK329.out 4; have hfz29_5 := blk_frozen BK329.out 5; have hfz29_6 := blk_frozen BK329.out 6; obtain ⟨Ao30, co30, eo30⟩ := Kd.R_slice HO315.out; subst eo30; obtain ⟨Ao31, co31, eo31⟩ := Kd.R_slice HO318.out; subst eo31; obtain ⟨Ao32, co32, eo32⟩ := Kd.R_slice HO321.out; subst eo32; obtain ⟨Ao33, co33, eo33⟩ := Kd.R_slice HO324.out; subst eo33; obtain ⟨Ao34, co34, eo34⟩ := Kd.R_slice HO327.out; subst eo34) | ((with_reducible refine gate_callee (f := 9) rfl ?_); refine goesL_ (some 29) rfl rfl Tryd.func9 (by kernel_rfl) rfl #[.agg #[.slice Ao27 t310.length co27, .slice Ao30 t313.length co30, .slice Ao31 t316.length co31, .slice Ao32 t319.length co32, .slice Ao33 t322.length co33, .slice Ao34 t325.length co34, .int .i64 t328]] rfl qa ?_; (with_reducible refine (impl_DataLines.calls k _ _ t310 _ _ t313 _ _ t316 _ _ t319 _ _ t322 _ _ t325 t328 t330 t333 _ ?side1 ?side2 ?side3 ?side4 ?side5 ?side6 ?side7 ?side8 ?side9 ?side10 ?side11 ?side12 ?side13 A10.out).mono ?_); (case side1 => refine (Kd.R_reads' (e := 3) (base := w.heap.size) (ok := fun k_ => (True ∧ some k_ ≠ (.slice Ao17 t287.length co17 : Value).ownBlock)) (n := t310.length) (c := co27) ?_).2.2; exact (by (with_reducible repeat (first | apply Kd.R_alloc | apply Kd.R_drewN | apply Kd.R_drew)); exact (Kd.R_mono (Kd.R_far (p := ⟨gb329, 6, none⟩) (Kd.R_far (p := ⟨gb329, 5, none⟩) (Kd.R_far (p := ⟨gb329, 4, none⟩) (Kd.R_far (p := ⟨gb329, 3, none⟩) (Kd.R_far (p := ⟨gb329, 2, none⟩) (Kd.R_far (p := ⟨gb329, 1, none⟩) (Kd.R_far (p := ⟨gb329, 0, none⟩) (Kd.R_types HO312.out BK329.out (by decide)) (fun _ hk => hk.2) (.slice Ao27 t310.length co27)) (fun _ hk => hk.2) (.slice Ao30 t313.length co30)) (fun _ hk => hk.2) (.slice Ao31 t316.length co31)) (fun _ hk => hk.2) (.slice Ao32 t319.length co32)) (fun _ hk => hk.2) (.slice Ao33 t322.length co33)) (fun _ hk => hk.2) (.slice Ao34 t325.length co34)) (fun _ hk => hk.2) (.int .i64 t328)) (fun _ h_ => h_.1)))); (case side2 => exact (Kd.R_reads' HO312.out).2.1); (case side3 => refine (Kd.R_reads' (e := 61) (base := w.heap.size) (ok := fun k_ => (True ∧ some k_ ≠ (.slice Ao18 t290.length co18 : Value).ownBlock)) (n := t313.length) (c := co30) ?_).2.2; exact (by (with_reducible repeat (first | apply Kd.R_alloc | apply Kd.R_drewN | apply Kd.R_drew)); exact (Kd.R_mono (Kd.R_far (p := ⟨gb329, 6, none⟩) (Kd.R_far (p := ⟨gb329, 5, none⟩) (Kd.R_far (p := ⟨gb329, 4, none⟩) (Kd.R_far (p := ⟨gb329, 3, none⟩) (Kd.R_far (p := ⟨gb329, 2, none⟩) (Kd.R_far (p := ⟨gb329, 1, none⟩) (Kd.R_far (p := ⟨gb329, 0, none⟩) (Kd.R_types HO315.out BK329.out (by decide)) (fun _ hk => hk.2) (.slice Ao27 t310.length co27)) (fun _ hk => hk.2) (.slice Ao30 t313.length co30)) (fun _ hk => hk.2) (.slice Ao31 t316.length co31)) (fun _ hk => hk.2) (.slice Ao32 t319.length co32)) (fun _ hk => hk.2) (.slice Ao33 t322.length co33)) (fun _ hk => hk.2) (.slice Ao34 t325.length co34)) (fun _ hk => hk.2) (.int .i64 t328)) (fun _ h_ => h_.1)))); (case side4 => exact (Kd.R_reads' HO315.out).2.1); (case side5 => refine (Kd.R_reads' (e := 4) (base := w.heap.size) (ok := fun k_ => (((((some k_ ≠ (.slice Ao32 t319.length co32 : Value).ownBlock ∧ (some k_ ≠ (.slice Ao33 t322.length co33 : Value).ownBlock ∧ some k_ ≠ (.slice Ao34 t325.length co34 : Value).ownBlock)) ∧ some k_ ≠ (.slice Ao19 t293.length co19 : Value).ownBlock) ∧ some k_ ≠ (.slice Ao20 t296.length co20 : Value).ownBlock) ∧ some k_ ≠ (.slice Ao21 t299.length co21 : Value).ownBlock) ∧ some k_ ≠ (.slice Ao22 t302.length co22 : Value).ownBlock)) (n := t316.length) (c := co31) ?_).2.2; exact (by (with_reducible repeat (first | apply Kd.R_alloc | apply Kd.R_drewN | apply Kd.R_drew)); exact (Kd.R_mono (Kd.R_far (p := ⟨gb329, 6, none⟩) (Kd.R_far (p := ⟨gb329, 5, none⟩) (Kd.R_far (p := ⟨gb329, 4, none⟩) (Kd.R_far (p := ⟨gb329, 3, none⟩) (Kd.R_far (p := ⟨gb329, 2, none⟩) (Kd.R_far (p := ⟨gb329, 1, none⟩) (Kd.R_far (p := ⟨gb329, 0, none⟩) (Kd.R_types HO318.out BK329.out (by decide)) (fun _ hk => hk.2) (.slice Ao27 t310.length co27)) (fun _ hk => hk.2) (.slice Ao30 t313.length co30)) (fun _ hk => hk.2) (.slice Ao31 t316.length co31)) (fun _ hk => hk.2) (.slice Ao32 t319.length co32)) (fun _ hk => hk.2) (.slice Ao33 t322.length co33)) (fun _ hk => hk.2) (.slice Ao34 t325.length co34)) (fun _ hk => hk.2) (.int .i64 t328)) (fun _ h_ => h_.1)))); (case side6 => exact (Kd.R_reads' HO318.out).2.1); (case side7 => refine (Kd.R_reads' (e := 4) (base := w.heap.size) (ok := fun k_ => (((((some k_ ≠ (.slice Ao31 t316.length co31 : Value).ownBlock ∧ (some k_ ≠ (.slice Ao33 t322.length co33 : Value).ownBlock ∧ some k_ ≠ (.slice Ao34 t325.length co34 : Value).ownBlock)) ∧ some k_ ≠ (.slice Ao19 t293.length co19 : Value).ownBlock) ∧ some k_ ≠ (.slice Ao20 t296.length co20 : Value).ownBlock) ∧ some k_ ≠ (.slice Ao21 t299.length co21 : Value).ownBlock) ∧ some k_ ≠ (.slice Ao22 t302.length co22 : Value).ownBlock)) (n := t319.length) (c := co32) ?_).2.2; exact (by (with_reducible repeat (first | apply Kd.R_alloc | apply Kd.R_drewN | apply Kd.R_drew)); exact (Kd.R_mono (Kd.R_far (p := ⟨gb329, 6, none⟩) (Kd.R_far (p := ⟨gb329, 5, none⟩) (Kd.R_far (p := ⟨gb329, 4, none⟩) (Kd.R_far (p := ⟨gb329, 3, none⟩) (Kd.R_far (p := ⟨gb329, 2, none⟩) (Kd.R_far (p := ⟨gb329, 1, none⟩) (Kd.R_far (p := ⟨gb329, 0, none⟩) (Kd.R_types HO321.out BK329.out (by decide)) (fun _ hk => hk.2) (.slice Ao27 t310.length co27)) (fun _ hk => hk.2) (.slice Ao30 t313.length co30)) (fun _ hk => hk.2) (.slice Ao31 t316.length co31)) (fun _ hk => hk.2) (.slice Ao32 t319.length co32)) (fun _ hk => hk.2) (.slice Ao33 t322.length co33)) (fun _ hk => hk.2) (.slice Ao34 t325.length co34)) (fun _ hk => hk.2) (.int .i64 t328)) (fun _ h_ => h_.1)))); (case side8 => exact (Kd.R_reads' HO321.out).2.1); (case side9 => refine (Kd.R_reads' (e := 4) (base := w.heap.size) (ok := fun k_ => (((((some k_ ≠ (.slice Ao31 t316.length co31 : Value).ownBlock ∧ (some k_ ≠ (.slice Ao32 t319.length co32 : Value).ownBlock ∧ some k_ ≠ (.slice Ao34 t325.length co34 : Value).ownBlock)) ∧ some k_ ≠ (.slice Ao19 t293.length co19 : Value).ownBlock) ∧ some k_ ≠ (.slice Ao20 t296.length co20 : Value).ownBlock) ∧ some k_ ≠ (.slice Ao21 t299.length co21 : Value).ownBlock) ∧ some k_ ≠ (.slice Ao22 t302.length co22 : Value).ownBlock)) (n := t322.length) (c := co33) ?_).2.2; exact (by (with_reducible repeat (first | apply Kd.R_alloc | apply Kd.R_drewN | apply Kd.R_drew)); exact (Kd.R_mono (Kd.R_far (p := ⟨gb329, 6, none⟩) (Kd.R_far (p := ⟨gb329, 5, none⟩) (Kd.R_far (p := ⟨gb329, 4, none⟩) (Kd.R_far (p := ⟨gb329, 3, none⟩) (Kd.R_far (p := ⟨gb329, 2, none⟩) (Kd.R_far (p := ⟨gb329, 1, none⟩) (Kd.R_far (p := ⟨gb329, 0, none⟩) (Kd.R_types HO324.out BK329.out (by decide)) (fun _ hk => hk.2) (.slice Ao27 t310.length co27)) (fun _ hk => hk.2) (.slice Ao30 t313.length co30)) (fun _ hk => hk.2) (.slice Ao31 t316.length co31)) (fun _ hk => hk.2) (.slice Ao32 t319.length co32)) (fun _ hk => hk.2) (.slice Ao33 t322.length co33)) (fun _ hk => hk.2) (.slice Ao34 t325.length co34)) (fun _ hk => hk.2) (.int .i64 t328)) (fun _ h_ => h_.1)))); (case side10 => exact (Kd.R_reads' HO324.out).2.1); (case side11 => refine (Kd.R_reads' (e := 4) (base := w.heap.size) (ok := fun k_ => (((((some k_ ≠ (.slice Ao31 t316.length co31 : Value).ownBlock ∧ (some k_ ≠ (.slice Ao32 t319.length co32 : Value).ownBlock ∧ some k_ ≠ (.slice Ao33 t322.length co33 : Value).ownBlock)) ∧ some k_ ≠ (.slice Ao19 t293.length co19 : Value).ownBlock) ∧ some k_ ≠ (.slice Ao20 t296.length co20 : Value).ownBlock) ∧ some k_ ≠ (.slice Ao21 t299.length co21 : Value).ownBlock) ∧ some k_ ≠ (.slice Ao22 t302.length co22 : Value).ownBlock)) (n := t325.length) (c := co34) ?_).2.2; exact (by (with_reducible repeat (first | apply Kd.R_alloc | apply Kd.R_drewN | apply Kd.R_drew)); exact (Kd.R_mono (Kd.R_far (p := ⟨gb329, 6, none⟩) (Kd.R_far (p := ⟨gb329, 5, none⟩) (Kd.R_far (p := ⟨gb329, 4, none⟩) (Kd.R_far (p := ⟨gb329, 3, none⟩) (Kd.R_far (p := ⟨gb329, 2, none⟩) (Kd.R_far (p := ⟨gb329, 1, none⟩) (Kd.R_far (p := ⟨gb329, 0, none⟩) (Kd.R_types HO327.out BK329.out (by decide)) (fun _ hk => hk.2) (.slice Ao27 t310.length co27)) (fun _ hk => hk.2) (.slice Ao30 t313.length co30)) (fun _ hk => hk.2) (.slice Ao31 t316.length co31)) (fun _ hk => hk.2) (.slice Ao32 t319.length co32)) (fun _ hk => hk.2) (.slice Ao33 t322.length co33)) (fun _ hk => hk.2) (.slice Ao34 t325.length co34)) (fun _ hk => hk.2) (.int .i64 t328)) (fun _ h_ => h_.1)))); (case side12 => exact (Kd.R_reads' HO327.out).2.1); (case side13 => exact Glob.below HG.out (qw HB.out)); rintro e w35 ⟨v331, rfl, ho0, hb⟩; refine ⟨_, rfl, ?_⟩; have n0_ := Aside0.mk (Kd.R_below (by (with_reducible repeat (first | apply Kd.R_alloc | apply Kd.R_drewN | apply Kd.R_drew)); exact (Kd.R_mono (Kd.R_far (p := ⟨gb329, 6, none⟩) (Kd.R_far (p := ⟨gb329, 5, none⟩) (Kd.R_far (p := ⟨gb329, 4, none⟩) (Kd.R_far (p := ⟨gb329, 3, none⟩) (Kd.R_far (p := ⟨gb329, 2, none⟩) (Kd.R_far (p := ⟨gb329, 1, none⟩) (Kd.R_far (p := ⟨gb329, 0, none⟩) (Kd.R_types HO289.out BK329.out (by decide)) (fun _ hk => hk.2) (.slice Ao27 t310.length co27)) (fun _ hk => hk.2) (.slice Ao30 t313.length co30)) (fun _ hk => hk.2) (.slice Ao31 t316.length co31)) (fun _ hk => hk.2) (.slice Ao32 t319.length co32)) (fun _ hk => hk.2) (.slice Ao33 t322.length co33)) (fun _ hk => hk.2) (.slice Ao34 t325.length co34)) (fun _ hk => hk.2) (.int .i64 t328)) (fun _ h_ => h_.1))) hb); have n1_ := Aside0.mk (Kd.R_below (by (with_reducible repeat (first | apply Kd.R_alloc | apply Kd.R_drewN | apply Kd.R_drew)); exact (Kd.R_mono (Kd.R_far (p := ⟨gb329, 6, none⟩) (Kd.R_far (p := ⟨gb329, 5, none⟩) (Kd.R_far (p := ⟨gb329, 4, none⟩) (Kd.R_far (p := ⟨gb329, 3, none⟩) (Kd.R_far (p := ⟨gb329, 2, none⟩) (Kd.R_far (p := ⟨gb329, 1, none⟩) (Kd.R_far (p := ⟨gb329, 0, none⟩) (Kd.R_types HO292.out BK329.out (by decide)) (fun _ hk => hk.2) (.slice Ao27 t310.length co27)) (fun _ hk => hk.2) (.slice Ao30 t313.length co30)) (fun _ hk => hk.2) (.slice Ao31 t316.length co31)) (fun _ hk => hk.2) (.slice Ao32 t319.length co32)) (fun _ hk => hk.2) (.slice Ao33 t322.length co33)) (fun _ hk => hk.2) (.slice Ao34 t325.length co34)) (fun _ hk => hk.2) (.int .i64 t328)) (fun _ h_ => h_.1))) hb); have n2_ := Aside0.mk (Kd.R_below (by (with_reducible repeat (first | apply Kd.R_alloc | apply Kd.R_drewN | apply Kd.R_drew)); exact (Kd.R_mono (Kd.R_far (p := ⟨gb329, 6, none⟩) (Kd.R_far (p := ⟨gb329, 5, none⟩) (Kd.R_far (p := ⟨gb329, 4, none⟩) (Kd.R_far (p := ⟨gb329, 3, none⟩) (Kd.R_far (p := ⟨gb329, 2, none⟩) (Kd.R_far (p := ⟨gb329, 1, none⟩) (Kd.R_far (p := ⟨gb329, 0, none⟩) (Kd.R_types HO295.out BK329.out (by decide)) (fun _ hk => hk.2) (.slice Ao27 t310.length co27)) (fun _ hk => hk.2) (.slice Ao30 t313.length co30)) (fun _ hk => hk.2) (.slice Ao31 t316.length co31)) (fun _ hk => hk.2) (.slice Ao32 t319.length co32)) (fun _ hk => hk.2) (.slice Ao33 t322.length co33)) (fun _ hk => hk.2) (.slice Ao34 t325.length co34)) (fun _ hk => hk.2) (.int .i64 t328)) (fun _ h_ => h_.1))) hb); have n3_ := Aside0.mk (Kd.R_below (by (with_reducible repeat (first | apply Kd.R_alloc | apply Kd.R_drewN | apply Kd.R_drew)); exact (Kd.R_mono (Kd.R_far (p := ⟨gb329, 6, none⟩) (Kd.R_far (p := ⟨gb329, 5, none⟩) (Kd.R_far (p := ⟨gb329, 4, none⟩) (Kd.R_far (p := ⟨gb329, 3, none⟩) (Kd.R_far (p := ⟨gb329, 2, none⟩) (Kd.R_far (p := ⟨gb329, 1, none⟩) (Kd.R_far (p := ⟨gb329, 0, none⟩) (Kd.R_types HO298.out BK329.out (by decide)) (fun _ hk => hk.2) (.slice Ao27 t310.length co27)) (fun _ hk => hk.2) (.slice Ao30 t313.length co30)) (fun _ hk => hk.2) (.slice Ao31 t316.length co31)) (fun _ hk => hk.2) (.slice Ao32 t319.length co32)) (fun _ hk => hk.2) (.slice Ao33 t322.length co33)) (fun _ hk => hk.2) (.slice Ao34 t325.length co34)) (fun _ hk => hk.2) (.int .i64 t328)) (fun _ h_ => h_.1))) hb); have n4_ := Aside0.mk (Kd.R_below (by (with_reducible repeat (first | apply Kd.R_alloc | apply Kd.R_drewN | apply Kd.R_drew)); exact (Kd.R_mono (Kd.R_far (p := ⟨gb329, 6, none⟩) (Kd.R_far (p := ⟨gb329, 5, none⟩) (Kd.R_far (p := ⟨gb329, 4, none⟩) (Kd.R_far (p := ⟨gb329, 3, none⟩) (Kd.R_far (p := ⟨gb329, 2, none⟩) (Kd.R_far (p := ⟨gb329, 1, none⟩) (Kd.R_far (p := ⟨gb329, 0, none⟩) (Kd.R_types HO301.out BK329.out (by decide)) (fun _ hk => hk.2) (.slice Ao27 t310.length co27)) (fun _ hk => hk.2) (.slice Ao30 t313.length co30)) (fun _ hk => hk.2) (.slice Ao31 t316.length co31)) (fun _ hk => hk.2) (.slice Ao32 t319.length co32)) (fun _ hk => hk.2) (.slice Ao33 t322.length co33)) (fun _ hk => hk.2) (.slice Ao34 t325.length co34)) (fun _ hk => hk.2) (.int .i64 t328)) (fun _ h_ => h_.1))) hb); have n5_ := Aside0.mk (Kd.R_below (by (with_reducible repeat (first | apply Kd.R_alloc | apply Kd.R_drewN | apply Kd.R_drew)); exact (Kd.R_mono (Kd.R_far (p := ⟨gb329, 6, none⟩) (Kd.R_far (p := ⟨gb329, 5, none⟩) (Kd.R_far (p := ⟨gb329, 4, none⟩) (Kd.R_far (p := ⟨gb329, 3, none⟩) (Kd.R_far (p := ⟨gb329, 2, none⟩) (Kd.R_far (p := ⟨gb329, 1, none⟩) (Kd.R_far (p := ⟨gb329, 0, none⟩) (Kd.R_types HO304.out BK329.out (by decide)) (fun _ hk => hk.2) (.slice Ao27 t310.length co27)) (fun _ hk => hk.2) (.slice Ao30 t313.length co30)) (fun _ hk => hk.2) (.slice Ao31 t316.length co31)) (fun _ hk => hk.2) (.slice Ao32 t319.length co32)) (fun _ hk => hk.2) (.slice Ao33 t322.length co33)) (fun _ hk => hk.2) (.slice Ao34 t325.length co34)) (fun _ hk => hk.2) (.int .i64 t328)) (fun _ h_ => h_.1))) hb); have n6_ := Aside0.mk (Kd.R_elder' (by (with_reducible repeat (first | apply Kd.R_alloc | apply Kd.R_drewN | apply Kd.R_drew)); exact (Kd.R_mono (Kd.R_far (p := ⟨gb329, 6, none⟩) (Kd.R_far (p := ⟨gb329, 5, none⟩) (Kd.R_far (p := ⟨gb329, 4, none⟩) (Kd.R_far (p := ⟨gb329, 3, none⟩) (Kd.R_far (p := ⟨gb329, 2, none⟩) (Kd.R_far (p := ⟨gb329, 1, none⟩) (Kd.R_far (p := ⟨gb329, 0, none⟩) (Kd.R_types HO308.out BK329.out (by decide)) (fun _ hk => hk.2) (.slice Ao27 t310.length co27)) (fun _ hk => hk.2) (.slice Ao30 t313.length co30)) (fun _ hk => hk.2) (.slice Ao31 t316.length co31)) (fun _ hk => hk.2) (.slice Ao32 t319.length co32)) (fun _ hk => hk.2) (.slice Ao33 t322.length co33)) (fun _ hk => hk.2) (.slice Ao34 t325.length co34)) (fun _ hk => hk.2) (.int .i64 t328)) (fun _ h_ => h_.1))) (Kd.R_base ho0) hb); have n7_ := Aside0.mk (Kd.R_below (by (with_reducible repeat (first | apply Kd.R_alloc | apply Kd.R_drewN | apply Kd.R_drew)); exact (Kd.R_mono (Kd.R_far (p := ⟨gb329, 6, none⟩) (Kd.R_far (p := ⟨gb329, 5, none⟩) (Kd.R_far (p := ⟨gb329, 4, none⟩) (Kd.R_far (p := ⟨gb329, 3, none⟩) (Kd.R_far (p := ⟨gb329, 2, none⟩) (Kd.R_far (p := ⟨gb329, 1, none⟩) (Kd.R_far (p := ⟨gb329, 0, none⟩) (Kd.R_types HO312.out BK329.out (by decide)) (fun _ hk => hk.2) (.slice Ao27 t310.length co27)) (fun _ hk => hk.2) (.slice Ao30 t313.length co30)) (fun _ hk => hk.2) (.slice Ao31 t316.length co31)) (fun _ hk => hk.2) (.slice Ao32 t319.length co32)) (fun _ hk => hk.2) (.slice Ao33 t322.length co33)) (fun _ hk => hk.2) (.slice Ao34 t325.length co34)) (fun _ hk => hk.2) (.int .i64 t328)) (fun _ h_ => h_.1))) hb); have n8_ := Aside0.mk (Kd.R_below (by (with_reducible repeat (first | apply Kd.R_alloc | apply Kd.R_drewN | apply Kd.R_drew)); exact (Kd.R_mono (Kd.R_far (p := ⟨gb329, 6, none⟩) (Kd.R_far (p := ⟨gb329, 5, none⟩) (Kd.R_far (p := ⟨gb329, 4, none⟩) (Kd.R_far (p := ⟨gb329, 3, none⟩) (Kd.R_far (p := ⟨gb329, 2, none⟩) (Kd.R_far (p := ⟨gb329, 1, none⟩) (Kd.R_far (p := ⟨gb329, 0, none⟩) (Kd.R_types HO315.out BK329.out (by decide)) (fun _ hk => hk.2) (.slice Ao27 t310.length co27)) (fun _ hk => hk.2) (.slice Ao30 t313.length co30)) (fun _ hk => hk.2) (.slice Ao31 t316.length co31)) (fun _ hk => hk.2) (.slice Ao32 t319.length co32)) (fun _ hk => hk.2) (.slice Ao33 t322.length co33)) (fun _ hk => hk.2) (.slice Ao34 t325.length co34)) (fun _ hk => hk.2) (.int .i64 t328)) (fun _ h_ => h_.1))) hb); have n9_ := Aside0.mk (Kd.R_below (by (with_reducible repeat (first | apply Kd.R_alloc | apply Kd.R_drewN | apply Kd.R_drew)); exact (Kd.R_mono (Kd.R_far (p := ⟨gb329, 6, none⟩) (Kd.R_far (p := ⟨gb329, 5, none⟩) (Kd.R_far (p := ⟨gb329, 4, none⟩) (Kd.R_far (p := ⟨gb329, 3, none⟩) (Kd.R_far (p := ⟨gb329, 2, none⟩) (Kd.R_far (p := ⟨gb329, 1, none⟩) (Kd.R_far (p := ⟨gb329, 0, none⟩) (Kd.R_types HO318.out BK329.out (by decide)) (fun _ hk => hk.2) (.slice Ao27 t310.length co27)) (fun _ hk => hk.2) (.slice Ao30 t313.length co30)) (fun _ hk => hk.2) (.slice Ao31 t316.length co31)) (fun _ hk => hk.2) (.slice Ao32 t319.length co32)) (fun _ hk => hk.2) (.slice Ao33 t322.length co33)) (fun _ hk => hk.2) (.slice Ao34 t325.length co34)) (fun _ hk => hk.2) (.int .i64 t328)) (fun _ h_ => h_.1))) hb); have n10_ := Aside0.mk (Kd.R_below (by (with_reducible repeat (first | apply Kd.R_alloc | apply Kd.R_drewN | apply Kd.R_drew)); exact (Kd.R_mono (Kd.R_far (p := ⟨gb329, 6, none⟩) (Kd.R_far (p := ⟨gb329, 5, none⟩) (Kd.R_far (p := ⟨gb329, 4, none⟩) (Kd.R_far (p := ⟨gb329, 3, none⟩) (Kd.R_far (p := ⟨gb329, 2, none⟩) (Kd.R_far (p := ⟨gb329, 1, none⟩) (Kd.R_far (p := ⟨gb329, 0, none⟩) (Kd.R_types HO321.out BK329.out (by decide)) (fun _ hk => hk.2) (.slice Ao27 t310.length co27)) (fun _ hk => hk.2) (.slice Ao30 t313.length co30)) (fun _ hk => hk.2) (.slice Ao31 t316.length co31)) (fun _ hk => hk.2) (.slice Ao32 t319.length co32)) (fun _ hk => hk.2) (.slice Ao33 t322.length co33)) (fun _ hk => hk.2) (.slice Ao34 t325.length co34)) (fun _ hk => hk.2) (.int .i64 t328)) (fun _ h_ => h_.1))) hb); have n11_ := Aside0.mk (Kd.R_below (by (with_reducible repeat (first | apply Kd.R_alloc | apply Kd.R_drewN | apply Kd.R_drew)); exact (Kd.R_mono (Kd.R_far (p := ⟨gb329, 6, none⟩) (Kd.R_far (p := ⟨gb329, 5, none⟩) (Kd.R_far (p := ⟨gb329, 4, none⟩) (Kd.R_far (p := ⟨gb329, 3, none⟩) (Kd.R_far (p := ⟨gb329, 2, none⟩) (Kd.R_far (p := ⟨gb329, 1, none⟩) (Kd.R_far (p := ⟨gb329, 0, none⟩) (Kd.R_types HO324.out BK329.out (by decide)) (fun _ hk => hk.2) (.slice Ao27 t310.length co27)) (fun _ hk => hk.2) (.slice Ao30 t313.length co30)) (fun _ hk => hk.2) (.slice Ao31 t316.length co31)) (fun _ hk => hk.2) (.slice Ao32 t319.length co32)) (fun _ hk => hk.2) (.slice Ao33 t322.length co33)) (fun _ hk => hk.2) (.slice Ao34 t325.length co34)) (fun _ hk => hk.2) (.int .i64 t328)) (fun _ h_ => h_.1))) hb); have n12_ := Aside0.mk (Kd.R_below (by (with_reducible repeat (first | apply Kd.R_alloc | apply Kd.R_drewN | apply Kd.R_drew)); exact (Kd.R_mono (Kd.R_far (p := ⟨gb329, 6, none⟩) (Kd.R_far (p := ⟨gb329, 5, none⟩) (Kd.R_far (p := ⟨gb329, 4, none⟩) (Kd.R_far (p := ⟨gb329, 3, none⟩) (Kd.R_far (p := ⟨gb329, 2, none⟩) (Kd.R_far (p := ⟨gb329, 1, none⟩) (Kd.R_far (p := ⟨gb329, 0, none⟩) (Kd.R_types HO327.out BK329.out (by decide)) (fun _ hk => hk.2) (.slice Ao27 t310.length co27)) (fun _ hk => hk.2) (.slice Ao30 t313.length co30)) (fun _ hk => hk.2) (.slice Ao31 t316.length co31)) (fun _ hk => hk.2) (.slice Ao32 t319.length co32)) (fun _ hk => hk.2) (.slice Ao33 t322.length co33)) (fun _ hk => hk.2) (.slice Ao34 t325.length co34)) (fun _ hk => hk.2) (.int .i64 t328)) (fun _ h_ => h_.1))) hb); have n13_ := Aside0.mk (Kd.R_lower (Kd.R_new' ho0 (Kd.R_lt (by (with_reducible repeat (first | apply Kd.R_alloc | apply Kd.R_drewN | apply Kd.R_drew)); exact (Kd.R_mono (Kd.R_far (p := ⟨gb329, 6, none⟩) (Kd.R_far (p := ⟨gb329, 5, none⟩) (Kd.R_far (p := ⟨gb329, 4, none⟩) (Kd.R_far (p := ⟨gb329, 3, none⟩) (Kd.R_far (p := ⟨gb329, 2, none⟩) (Kd.R_far (p := ⟨gb329, 1, none⟩) (Kd.R_far (p := ⟨gb329, 0, none⟩) (Kd.R_types HO308.out BK329.out (by decide)) (fun _ hk => hk.2) (.slice Ao27 t310.length co27)) (fun _ hk => hk.2) (.slice Ao30 t313.length co30)) (fun _ hk => hk.2) (.slice Ao31 t316.length co31)) (fun _ hk => hk.2) (.slice Ao32 t319.length co32)) (fun _ hk => hk.2) (.slice Ao33 t322.length co33)) (fun _ hk => hk.2) (.slice Ao34 t325.length co34)) (fun _ hk => hk.2) (.int .i64 t328)) (fun _ h_ => h_.1))))) (below_size (qw HB.out))); have n14_ := Aside0.mk (blk_below (g := gb285) (o := .cells #[.slice A0_0 l0_0.length c0_0, .slice A0_1 l0_1.length c0_1, .slice A0_2 l0_2.length c0_2, .slice A0_3 l0_3.length c0_3, .slice A0_4 l0_4.length c0_4, .slice A0_5 l0_5.length c0_5, .int .i64 a0_6] 26 (0, 0)) (by (with_reducible repeat (first | refine blk_drewN ?_ _ | refine blk_drew ?_ | refine blk_alloc ?_ _)); refine blk_far ?_ NB285_329.out _; (with_reducible repeat (first | refine blk_drewN ?_ _ | refine blk_drew ?_ | refine blk_alloc ?_ _)); refine blk_far ?_ NB285_329.out _; (with_reducible repeat (first | refine blk_drewN ?_ _ | refine blk_drew ?_ | refine blk_alloc ?_ _)); refine blk_far ?_ NB285_329.out _; (with_reducible repeat (first | refine blk_drewN ?_ _ | refine blk_drew ?_ | refine blk_alloc ?_ _)); refine blk_far ?_ NB285_329.out _; (with_reducible repeat (first | refine blk_drewN ?_ _ | refine blk_drew ?_ | refine blk_alloc ?_ _)); refine blk_far ?_ NB285_329.out _; (with_reducible repeat (first | refine blk_drewN ?_ _ | refine blk_drew ?_ | refine blk_alloc ?_ _)); refine blk_far ?_ NB285_329.out _; (with_reducible repeat (first | refine blk_drewN ?_ _ | refine blk_drew ?_ | refine blk_alloc ?_ _)); refine blk_far ?_ NB285_329.out _; (with_reducible repeat (first | refine blk_drewN ?_ _ | refine blk_drew ?_ | refine blk_alloc ?_ _)); exact BK285.out) hb); have n15_ := Aside0.mk (blk_below (g := gb329) (o := .cells #[.slice Ao27 t310.length co27, .slice Ao30 t313.length co30, .slice Ao31 t316.length co31, .slice Ao32 t319.length co32, .slice Ao33 t322.length co33, .slice Ao34 t325.length co34, .int .i64 t328] 33 (0, 0)) (by (with_reducible repeat (first | refine blk_drewN ?_ _ | refine blk_drew ?_ | refine blk_alloc ?_ _)); refine blk_put (cs := #[.slice Ao27 t310.length co27, .slice Ao30 t313.length co30, .slice Ao31 t316.length co31, .slice Ao32 t319.length co32, .slice Ao33 t322.length co33, .slice Ao34 t325.length co34, .int .i64 0]) ?_ 6 _ rfl; (with_reducible repeat (first | refine blk_drewN ?_ _ | refine blk_drew ?_ | refine blk_alloc ?_ _)); refine blk_put (cs := #[.slice Ao27 t310.length co27, .slice Ao30 t313.length co30, .slice Ao31 t316.length co31, .slice Ao32 t319.length co32, .slice Ao33 t322.length co33, .slice none 0 0, .int .i64 0]) ?_ 5 _ rfl; (with_reducible repeat (first | refine blk_drewN ?_ _ | refine blk_drew ?_ | refine blk_alloc ?_ _)); refine blk_put (cs := #[.slice Ao27 t310.length co27, .slice Ao30 t313.length co30, .slice Ao31 t316.length co31, .slice Ao32 t319.length co32, .slice none 0 0, .slice none 0 0, .int .i64 0]) ?_ 4 _ rfl; (with_reducible repeat (first | refine blk_drewN ?_ _ | refine blk_drew ?_ | refine blk_alloc ?_ _)); refine blk_put (cs := #[.slice Ao27 t310.length co27, .slice Ao30 t313.length co30, .slice Ao31 t316.length co31, .slice none 0 0, .slice none 0 0, .slice none 0 0, .int .i64 0]) ?_ 3 _ rfl; (with_reducible repeat (first | refine blk_drewN ?_ _ | refine blk_drew ?_ | refine blk_alloc ?_ _)); refine blk_put (cs := #[.slice Ao27 t310.length co27, .slice Ao30 t313.length co30, .slice none 0 0, .slice none 0 0, .slice none 0 0, .slice none 0 0, .int .i64 0]) ?_ 2 _ rfl; (with_reducible repeat (first | refine blk_drewN ?_ _ | refine blk_drew ?_ | refine blk_alloc ?_ _)); refine blk_put (cs := #[.slice Ao27 t310.length co27, .slice none 0 0, .slice none 0 0, .slice none 0 0, .slice none 0 0, .slice none 0 0, .int .i64 0]) ?_ 1 _ rfl; (with_reducible repeat (first | refine blk_drewN ?_ _ | refine blk_drew ?_ | refine blk_alloc ?_ _)); refine blk_put (cs := #[.slice none 0 0, .slice none 0 0, .slice none 0 0, .slice none 0 0, .slice none 0 0, .slice none 0 0, .int .i64 0]) ?_ 0 _ rfl; (with_reducible repeat (first | refine blk_drewN ?_ _ | refine blk_drew ?_ | refine blk_alloc ?_ _)); exact BK329.out) hb); have n16_ := Aside0.mk (below_step (qw HB.out) hb); clear HO289; clear HO292; clear HO295; clear HO298; clear HO301; clear HO304; clear HO308; clear HO312; clear HO315; clear HO318; clear HO321; clear HO324; clear HO327; clear BK285; clear BK329; clear HB; have HO289 := n0_; have HO292 := n1_; have HO295 := n2_; have HO298 := n3_; have HO301 := n4_; have HO304 := n5_; have HO308 := n6_; have HO312 := n7_; have HO315 := n8_; have HO318 := n9_; have HO321 := n10_; have HO324 := n11_; have HO327 := n12_; have HO332 := n13_; have BK285 := n14_; have BK329 := n15_; have HB := n16_; clear n0_ n1_ n2_ n3_ n4_ n5_ n6_ n7_ n8_ n9_ n10_ n11_ n12_ n13_ n14_ n15_ n16_; (try clear hb); (try clear hb2); (try clear hk); (try clear hi); (try clear ho0)))
    (try simp only [Act.put, List.setIfInBounds_toArray, List.set_cons_zero, List.set_cons_succ])
    go_cut [40] (fun v40 wc => ∃ (kq : Nat) (x40_10 : Bool), v40 = .bool x40_10 ∧ Aside0 (laws_FnExactDataLines.j0 kq t306 t309 t330 t333 x40_10 l0_0 l0_1 l0_2 l0_3 l0_4 l0_5 a0_6 t310 t313 t316 t319 t322 t325 t328 = some r) ∧ Aside0 (kq ≤ k) ∧ Aside0 (Kd.R Kd.string 9 wc w.heap.size (fun k_ => some k_ ≠ (v331 : Value).ownBlock) v307 t306) ∧ Aside0 (Kd.R Kd.string 9 wc w.heap.size (fun k_ => some k_ ≠ (v307 : Value).ownBlock) v331 t330) ∧ Aside0 (Kd.R (Kd.int .i64) 3 wc w.heap.size (fun _ => True) (.slice Ao27 t310.length co27) t310) ∧ Aside0 (Kd.R k61 61 wc w.heap.size (fun _ => True) (.slice Ao30 t313.length co30) t313) ∧ Aside0 (Kd.R Kd.bool 4 wc w.heap.size (fun k_ => some k_ ≠ ((.slice Ao32 t319.length co32) : Value).ownBlock ∧ some k_ ≠ ((.slice Ao33 t322.length co33) : Value).ownBlock ∧ some k_ ≠ ((.slice Ao34 t325.length co34) : Value).ownBlock) (.slice Ao31 t316.length co31) t316) ∧ Aside0 (Kd.R Kd.bool 4 wc w.heap.size (fun k_ => some k_ ≠ ((.slice Ao31 t316.length co31) : Value).ownBlock ∧ some k_ ≠ ((.slice Ao33 t322.length co33) : Value).ownBlock ∧ some k_ ≠ ((.slice Ao34 t325.length co34) : Value).ownBlock) (.slice Ao32 t319.length co32) t319) ∧ Aside0 (Kd.R Kd.bool 4 wc w.heap.size (fun k_ => some k_ ≠ ((.slice Ao31 t316.length co31) : Value).ownBlock ∧ some k_ ≠ ((.slice Ao32 t319.length co32) : Value).ownBlock ∧ some k_ ≠ ((.slice Ao34 t325.length co34) : Value).ownBlock) (.slice Ao33 t322.length co33) t322) ∧ Aside0 (Kd.R Kd.bool 4 wc w.heap.size (fun k_ => some k_ ≠ ((.slice Ao31 t316.length co31) : Value).ownBlock ∧ some k_ ≠ ((.slice Ao32 t319.length co32) : Value).ownBlock ∧ some k_ ≠ ((.slice Ao33 t322.length co33) : Value).ownBlock) (.slice Ao34 t325.length co34) t325) ∧ Aside0 (wc.heap[gb285]? = some (.cells #[(.slice A0_0 l0_0.length c0_0), (.slice A0_1 l0_1.length c0_1), (.slice A0_2 l0_2.length c0_2), (.slice A0_3 l0_3.length c0_3), (.slice A0_4 l0_4.length c0_4), (.slice A0_5 l0_5.length c0_5), .int .i64 a0_6] 26 (0, 0))) ∧ Aside0 (wc.heap[gb329]? = some (.cells #[(.slice Ao27 t310.length co27), (.slice Ao30 t313.length co30), (.slice Ao31 t316.length co31), (.slice Ao32 t319.length co32), (.slice Ao33 t322.length co33), (.slice Ao34 t325.length co34), .int .i64 t328] 33 (0, 0))) ∧ Aside0 (Below w.heap.size w wc))
    case first =>
      have H := HC11.out
      clear HC11
      replace H := Option.bind_eq_some_iff.mp H
      obtain ⟨t334, A360, H⟩ := H
      replace H : (if t334 = true then (laws_FnExactDataLines.j0 k t306 t309 t330 t333 (t333 != t309) l0_0 l0_1 l0_2 l0_3 l0_4 l0_5 a0_6 t310 t313 t316 t319 t322 t325 t328) else (none)) = some r := H
      have A36 := Aside0.mk A360
      clear A360
      by_cases c37 : t334 = true
      · subst c37
        have H1 : (laws_FnExactDataLines.j0 k t306 t309 t330 t333 (t333 != t309) l0_0 l0_1 l0_2 l0_3 l0_4 l0_5 a0_6 t310 t313 t316 t319 t322 t325 t328) = some r := by rw [if_pos rfl] at H; exact H
        clear H
        have H := H1
        clear H1
        have H' := Aside0.mk H
        clear H
        obtain ⟨Ao38, co38, eo38⟩ := Kd.R_slice HO332.out
        subst eo38
        obtain ⟨Ao39, co39, eo39⟩ := Kd.R_slice HO308.out
        subst eo39
        go_wp2_with (first | ((with_reducible refine gate_callee (f := 10) rfl ?_); refine goesL_ (some 34) rfl rfl Tryd.func10 (by kernel_rfl) rfl #[.slice Ao38 t330.length co38, .slice Ao39 t306.length co39] rfl qa ?_; (with_reducible refine (laws_eqStringS.calls k _ _ t330 _ _ t306 true _ ?side1 ?side2 ?side3 ?side4 A36.out).mono ?_); (case side1 => repeat (first | exact (Kd.R_reads' HO332.out).2.2 | (with_reducible refine Kd.C_alloc ?_ _) | (with_reducible refine Kd.C_drewN ?_ _) | (with_reducible refine Kd.C_drew ?_))); (case side2 => exact (Kd.R_reads' HO332.out).2.1); (case side3 => repeat (first | exact (Kd.R_reads' HO308.out).2.2 | (with_reducible refine Kd.C_alloc ?_ _) | (with_reducible refine Kd.C_drewN ?_ _) | (with_reducible refine Kd.C_drew ?_))); (case side4 => exact (Kd.R_reads' HO308.out).2.1); rintro e w' ⟨rfl, ⟨nd, rfl⟩⟩; refine ⟨_, rfl, ?_⟩))
        go_meet
        case rel => exact ⟨_, ((t333 != t309)), (by first | rfl | (simp; done) | (simp [*]; done)), H', ⟨by first | omega | exact Nat.le_refl _⟩, ⟨by (with_reducible repeat (first | apply Kd.R_alloc | apply Kd.R_drewN | apply Kd.R_drew)); exact Kd.R_mono HO308.out (fun _ hk => hk.2)⟩, ⟨by (with_reducible repeat (first | apply Kd.R_alloc | apply Kd.R_drewN | apply Kd.R_drew)); exact Kd.R_mono HO332.out (fun _ hk => hk.2)⟩, ⟨by (with_reducible repeat (first | apply Kd.R_alloc | apply Kd.R_drewN | apply Kd.R_drew)); exact Kd.R_mono HO312.out (fun _ hk => trivial)⟩, ⟨by (with_reducible repeat (first | apply Kd.R_alloc | apply Kd.R_drewN | apply Kd.R_drew)); exact Kd.R_mono HO315.out (fun _ hk => trivial)⟩, ⟨by (with_reducible repeat (first | apply Kd.R_alloc | apply Kd.R_drewN | apply Kd.R_drew)); exact Kd.R_mono HO318.out (fun _ hk => ⟨hk.1.1.1.1.1, ⟨hk.1.1.1.1.2.1, hk.1.1.1.1.2.2⟩⟩)⟩, ⟨by (with_reducible repeat (first | apply Kd.R_alloc | apply Kd.R_drewN | apply Kd.R_drew)); exact Kd.R_mono HO321.out (fun _ hk => ⟨hk.1.1.1.1.1, ⟨hk.1.1.1.1.2.1, hk.1.1.1.1.2.2⟩⟩)⟩, ⟨by (with_reducible repeat (first | apply Kd.R_alloc | apply Kd.R_drewN | apply Kd.R_drew)); exact Kd.R_mono HO324.out (fun _ hk => ⟨hk.1.1.1.1.1, ⟨hk.1.1.1.1.2.1, hk.1.1.1.1.2.2⟩⟩)⟩, ⟨by (with_reducible repeat (first | apply Kd.R_alloc | apply Kd.R_drewN | apply Kd.R_drew)); exact Kd.R_mono HO327.out (fun _ hk => ⟨hk.1.1.1.1.1, ⟨hk.1.1.1.1.2.1, hk.1.1.1.1.2.2⟩⟩)⟩, ⟨qb BK285.out⟩, ⟨qb BK329.out⟩, ⟨qw HB.out⟩⟩
      · replace c37 := Bool.eq_false_iff.mpr c37
        subst c37
        have H1 : (none) = some r := by rw [if_neg (show ¬ (false = true) by decide)] at H; exact H
        clear H
        have H := H1
        clear H1
        exact absurd H (by simp)
    case rest =>
      clear HC11
      try clear c1
      try clear c2
      try clear p2
      try clear c3
      try clear c3b0
      try clear c6
      try clear c7
      try clear c8
      try clear c9
      try clear c10
      try clear c28
      try clear c37
      try clear hcz13_0
      try clear hcz13_1
      try clear hcz13_2
      try clear hcz13_3
      try clear hcz13_4
      try clear hcz13_5
      try clear hcz13_6
      try clear hcz15_0
      try clear hcz15_1
      try clear hcz15_2
      try clear hcz15_3
      try clear hcz15_4
      try clear hcz15_5
      try clear hcz15_6
      try clear hcz24_0
      try clear hcz24_1
      try clear hcz24_2
      try clear hcz24_3
      try clear hcz24_4
      try clear hcz24_5
      try clear hcz24_6
      try clear hcz29_0
      try clear hcz29_1
      try clear hcz29_2
      try clear hcz29_3
      try clear hcz29_4
      try clear hcz29_5
      try clear hcz29_6
      try clear hcz5_0
      try clear hcz5_1
      try clear hcz5_2
      try clear hcz5_3
      try clear hcz5_4
      try clear hcz5_5
      try clear hcz5_6
      try clear hfz13_0
      try clear hfz13_1
      try clear hfz13_2
      try clear hfz13_3
      try clear hfz13_4
      try clear hfz13_5
      try clear hfz13_6
      try clear hfz15_0
      try clear hfz15_1
      try clear hfz15_2
      try clear hfz15_3
      try clear hfz15_4
      try clear hfz15_5
      try clear hfz15_6
      try clear hfz24_0
      try clear hfz24_1
      try clear hfz24_2
      try clear hfz24_3
      try clear hfz24_4
      try clear hfz24_5
      try clear hfz24_6
      try clear hfz29_0
      try clear hfz29_1
      try clear hfz29_2
      try clear hfz29_3
      try clear hfz29_4
      try clear hfz29_5
      try clear hfz29_6
      try clear hfz5_0
      try clear hfz5_1
      try clear hfz5_2
      try clear hfz5_3
      try clear hfz5_4
      try clear hfz5_5
      try clear hfz5_6
      obtain ⟨kq, x40_10, rfl, HA, HJ10, HO_4, HO_7, HO_330000, HO_330001, HO_330002, HO_330003, HO_330004, HO_330005, BK285, BK329, HB⟩ := hcut
      cases kq with
      | zero => exact absurd HA.out (by simp [laws_FnExactDataLines.j0])
      | succ kj10 =>
        have H := HA.out
        clear HA
        simp only [laws_FnExactDataLines.j0] at H
        by_cases c40 : x40_10 = true
        · subst c40
          have H1 : (none) = some r := by rw [if_pos rfl] at H; exact H
          clear H
          have H := H1
          clear H1
          exact absurd H (by simp)
        · replace c40 := Bool.eq_false_iff.mpr c40
          subst c40
          have H1 : ((laws_toData.f kj10 l0_0 l0_1 l0_2 l0_3 l0_4 l0_5 a0_6).bind fun bt335 => ((laws_eqData.f kj10 t310 t313 t316 t319 t322 t325 t328 bt335.1 bt335.2.1 bt335.2.2.1 bt335.2.2.2.1 bt335.2.2.2.2.1 bt335.2.2.2.2.2.1 bt335.2.2.2.2.2.2).bind fun t354 => (if t354 = true then ((laws_markData.f kj10 t310 t313 t316 t319 t322 t325 t328 1).bind fun bt355 => (if bt355.1 < 0 then (none) else ((laws_eqStringS.f kj10 t330 t306).bind fun t362 => (if t362 = true then (laws_FnExactDataLines.j1 kj10 t306 t309 t330 (t333 != t309) l0_0 l0_1 l0_2 l0_3 l0_4 l0_5 a0_6) else (none))))) else (none)))) = some r := by rw [if_neg (show ¬ (false = true) by decide)] at H; exact H
          clear H
          have H := H1
          clear H1
          replace H := Option.bind_eq_some_iff.mp H
          obtain ⟨⟨t335, t338, t341, t344, t347, t350, t353⟩, A410, H⟩ := H
          replace H : ((laws_eqData.f kj10 t310 t313 t316 t319 t322 t325 t328 t335 t338 t341 t344 t347 t350 t353).bind fun t354 => (if t354 = true then ((laws_markData.f kj10 t310 t313 t316 t319 t322 t325 t328 1).bind fun bt355 => (if bt355.1 < 0 then (none) else ((laws_eqStringS.f kj10 t330 t306).bind fun t362 => (if t362 = true then (laws_FnExactDataLines.j1 kj10 t306 t309 t330 (t333 != t309) l0_0 l0_1 l0_2 l0_3 l0_4 l0_5 a0_6) else (none))))) else (none))) = some r := H
          have A41 := Aside0.mk A410
          clear A410
          replace H := Option.bind_eq_some_iff.mp H
          obtain ⟨t354, A420, H⟩ := H
          replace H : (if t354 = true then ((laws_markData.f kj10 t310 t313 t316 t319 t322 t325 t328 1).bind fun bt355 => (if bt355.1 < 0 then (none) else ((laws_eqStringS.f kj10 t330 t306).bind fun t362 => (if t362 = true then (laws_FnExactDataLines.j1 kj10 t306 t309 t330 (t333 != t309) l0_0 l0_1 l0_2 l0_3 l0_4 l0_5 a0_6) else (none))))) else (none)) = some r := H
          have A42 := Aside0.mk A420
          clear A420
          by_cases c43 : t354 = true
          · subst c43
            have H1 : ((laws_markData.f kj10 t310 t313 t316 t319 t322 t325 t328 1).bind fun bt355 => (if bt355.1 < 0 then (none) else ((laws_eqStringS.f kj10 t330 t306).bind fun t362 => (if t362 = true then (laws_FnExactDataLines.j1 kj10 t306 t309 t330 (t333 != t309) l0_0 l0_1 l0_2 l0_3 l0_4 l0_5 a0_6) else (none))))) = some r := by rw [if_pos rfl] at H; exact H
            clear H
            have H := H1
            clear H1
            replace H := Option.bind_eq_some_iff.mp H
            obtain ⟨⟨t355, t356, t357, t358, t359, t360, t361⟩, A440, H⟩ := H
            replace H : (if t355 < 0 then (none) else ((laws_eqStringS.f kj10 t330 t306).bind fun t362 => (if t362 = true then (laws_FnExactDataLines.j1 kj10 t306 t309 t330 (t333 != t309) l0_0 l0_1 l0_2 l0_3 l0_4 l0_5 a0_6) else (none)))) = some r := H
            have A44 := Aside0.mk A440
            clear A440
            have HC45 := Aside0.mk H
            clear H
            try go_wp2
            (try (rw [drewN_self wc]; generalize hq_ : World.drewN wc _ = wc; have n0_ : Aside0 (Kd.R (Kd.int .i64) 3 wc w.heap.size (fun _ => True) (.slice Ao27 t310.length co27) t310) := ⟨by rw [← hq_]; exact (qr HO_330000.out)⟩; have n1_ : Aside0 (Kd.R k61 61 wc w.heap.size (fun _ => True) (.slice Ao30 t313.length co30) t313) := ⟨by rw [← hq_]; exact (qr HO_330001.out)⟩; have n2_ : Aside0 (Kd.R Kd.bool 4 wc w.heap.size (fun k_ => some k_ ≠ (.slice Ao32 t319.length co32 : Value).ownBlock ∧ some k_ ≠ (.slice Ao33 t322.length co33 : Value).ownBlock ∧ some k_ ≠ (.slice Ao34 t325.length co34 : Value).ownBlock) (.slice Ao31 t316.length co31) t316) := ⟨by rw [← hq_]; exact (qr HO_330002.out)⟩; have n3_ : Aside0 (Kd.R Kd.bool 4 wc w.heap.size (fun k_ => some k_ ≠ (.slice Ao31 t316.length co31 : Value).ownBlock ∧ some k_ ≠ (.slice Ao33 t322.length co33 : Value).ownBlock ∧ some k_ ≠ (.slice Ao34 t325.length co34 : Value).ownBlock) (.slice Ao32 t319.length co32) t319) := ⟨by rw [← hq_]; exact (qr HO_330003.out)⟩; have n4_ : Aside0 (Kd.R Kd.bool 4 wc w.heap.size (fun k_ => some k_ ≠ (.slice Ao31 t316.length co31 : Value).ownBlock ∧ some k_ ≠ (.slice Ao32 t319.length co32 : Value).ownBlock ∧ some k_ ≠ (.slice Ao34 t325.length co34 : Value).ownBlock) (.slice Ao33 t322.length co33) t322) := ⟨by rw [← hq_]; exact (qr HO_330004.out)⟩; have n5_ : Aside0 (Kd.R Kd.bool 4 wc w.heap.size (fun k_ => some k_ ≠ (.slice Ao31 t316.length co31 : Value).ownBlock ∧ some k_ ≠ (.slice Ao32 t319.length co32 : Value).ownBlock ∧ some k_ ≠ (.slice Ao33 t322.length co33 : Value).ownBlock) (.slice Ao34 t325.length co34) t325) := ⟨by rw [← hq_]; exact (qr HO_330005.out)⟩; have n6_ : Aside0 (Kd.R Kd.string 9 wc w.heap.size (fun k_ => some k_ ≠ (v331 : Value).ownBlock) v307 t306) := ⟨by rw [← hq_]; exact (qr HO_4.out)⟩; have n7_ : Aside0 (Kd.R Kd.string 9 wc w.heap.size (fun k_ => some k_ ≠ (v307 : Value).ownBlock) v331 t330) := ⟨by rw [← hq_]; exact (qr HO_7.out)⟩; have n8_ : Aside0 (wc.heap[gb285]? = some (.cells #[.slice A0_0 l0_0.length c0_0, .slice A0_1 l0_1.length c0_1, .slice A0_2 l0_2.length c0_2, .slice A0_3 l0_3.length c0_3, .slice A0_4 l0_4.length c0_4, .slice A0_5 l0_5.length c0_5, .int .i64 a0_6] 26 (0, 0))) := ⟨by rw [← hq_]; exact (qb BK285.out)⟩; have n9_ : Aside0 (wc.heap[gb329]? = some (.cells #[.slice Ao27 t310.length co27, .slice Ao30 t313.length co30, .slice Ao31 t316.length co31, .slice Ao32 t319.length co32, .slice Ao33 t322.length co33, .slice Ao34 t325.length co34, .int .i64 t328] 33 (0, 0))) := ⟨by rw [← hq_]; exact (qb BK329.out)⟩; have n10_ : Aside0 (Below w.heap.size w wc) := ⟨by rw [← hq_]; exact (qw HB.out)⟩; clear HO_330000 HO_330001 HO_330002 HO_330003 HO_330004 HO_330005 HO_4 HO_7 BK285 BK329 HB hq_; have HO_330000 := n0_; have HO_330001 := n1_; have HO_330002 := n2_; have HO_330003 := n3_; have HO_330004 := n4_; have HO_330005 := n5_; have HO_4 := n6_; have HO_7 := n7_; have BK285 := n8_; have BK329 := n9_; have HB := n10_; clear n0_ n1_ n2_ n3_ n4_ n5_ n6_ n7_ n8_ n9_ n10_))
            have n0_ := Aside0.mk (Kd.R_drew HO_4.out)
            have n1_ := Aside0.mk (Kd.R_drew HO_7.out)
            have n2_ := Aside0.mk (Kd.R_drew HO_330000.out)
            have n3_ := Aside0.mk (Kd.R_drew HO_330001.out)
            have n4_ := Aside0.mk (Kd.R_drew HO_330002.out)
            have n5_ := Aside0.mk (Kd.R_drew HO_330003.out)
            have n6_ := Aside0.mk (Kd.R_drew HO_330004.out)
            have n7_ := Aside0.mk (Kd.R_drew HO_330005.out)
            have n8_ := Aside0.mk (blk_drew BK285.out)
            have n9_ := Aside0.mk (blk_drew BK329.out)
            have n10_ := Aside0.mk (below_drew1 HB.out)
            clear HO_4
            clear HO_7
            clear HO_330000
            clear HO_330001
            clear HO_330002
            clear HO_330003
            clear HO_330004
            clear HO_330005
            clear BK285
            clear BK329
            clear HB
            have HO_4 := n0_
            have HO_7 := n1_
            have HO_330000 := n2_
            have HO_330001 := n3_
            have HO_330002 := n4_
            have HO_330003 := n5_
            have HO_330004 := n6_
            have HO_330005 := n7_
            have BK285 := n8_
            have BK329 := n9_
            have HB := n10_
            clear n0_ n1_ n2_ n3_ n4_ n5_ n6_ n7_ n8_ n9_ n10_
            refine start_ (n := 5) (S := fun w' => w'.cell? ⟨gb329, 0, none⟩ = some (.slice Ao27 t310.length co27) ∧ w'.cell? ⟨gb329, 1, none⟩ = some (.slice Ao30 t313.length co30) ∧ w'.cell? ⟨gb329, 2, none⟩ = some (.slice Ao31 t316.length co31) ∧ w'.cell? ⟨gb329, 3, none⟩ = some (.slice Ao32 t319.length co32) ∧ w'.cell? ⟨gb329, 4, none⟩ = some (.slice Ao33 t322.length co33) ∧ w'.cell? ⟨gb329, 5, none⟩ = some (.slice Ao34 t325.length co34) ∧ w'.cell? ⟨gb329, 6, none⟩ = some (.int .i64 t328) ∧ w'.cell? ⟨gb285, 0, none⟩ = some (.slice A0_0 l0_0.length c0_0) ∧ w'.cell? ⟨gb285, 1, none⟩ = some (.slice A0_1 l0_1.length c0_1) ∧ w'.cell? ⟨gb285, 2, none⟩ = some (.slice A0_2 l0_2.length c0_2) ∧ w'.cell? ⟨gb285, 3, none⟩ = some (.slice A0_3 l0_3.length c0_3) ∧ w'.cell? ⟨gb285, 4, none⟩ = some (.slice A0_4 l0_4.length c0_4) ∧ w'.cell? ⟨gb285, 5, none⟩ = some (.slice A0_5 l0_5.length c0_5) ∧ w'.cell? ⟨gb285, 6, none⟩ = some (.int .i64 a0_6)) (ds := []) #[false, false, false, false, false] (by kernel_rfl) rfl rfl ⟨(blk_cell BK329.out 0).trans rfl, (blk_cell BK329.out 1).trans rfl, (blk_cell BK329.out 2).trans rfl, (blk_cell BK329.out 3).trans rfl, (blk_cell BK329.out 4).trans rfl, (blk_cell BK329.out 5).trans rfl, (blk_cell BK329.out 6).trans rfl, (blk_cell BK285.out 0).trans rfl, (blk_cell BK285.out 1).trans rfl, (blk_cell BK285.out 2).trans rfl, (blk_cell BK285.out 3).trans rfl, (blk_cell BK285.out 4).trans rfl, (blk_cell BK285.out 5).trans rfl, (blk_cell BK285.out 6).trans rfl⟩ (fun hHeld => ?_)
            generalize wc.drew = w46 at HO_4 HO_7 HO_330000 HO_330001 HO_330002 HO_330003 HO_330004 HO_330005 BK285 BK329 HB hHeld ⊢
            refine take_ (i := 0) (N := some 41) (v := ?_) (a' := ?_) #[true, false, false, false, false] rfl rfl (by kernel_rfl) (fun _ _ _ h => h) (Or.inl ⟨by rfl, ?_⟩) hHeld ?_ ?_
            rotate_left
            · rintro w' ⟨s0, s1, s2, s3, s4, s5, s6, s7, s8, s9, s10, s11, s12, s13⟩
              go_simp
              with_reducible rfl
            rotate_left
            · simp only [Act.put, List.setIfInBounds_toArray, List.set_cons_zero, List.set_cons_succ, i64_w, i32_w]
              rfl
            refine take_ (i := 1) (N := some 42) (v := ?_) (a' := ?_) #[true, true, false, false, false] rfl rfl (by kernel_rfl) (fun _ _ _ h => h) (Or.inl ⟨by rfl, ?_⟩) hHeld ?_ ?_
            rotate_left
            · rintro w' ⟨s0, s1, s2, s3, s4, s5, s6, s7, s8, s9, s10, s11, s12, s13⟩
              go_simp
              with_reducible rfl
            rotate_left
            · simp only [Act.put, List.setIfInBounds_toArray, List.set_cons_zero, List.set_cons_succ, i64_w, i32_w]
              rfl
            refine one_ (i := 2) (N := some 43) #[true, true, true, false, false] rfl rfl (by kernel_rfl) (by decide) (fun K hK => ?_)
            refine goes_ Tryd.func8 (by kernel_rfl) rfl #[.agg #[.slice A0_0 l0_0.length c0_0, .slice A0_1 l0_1.length c0_1, .slice A0_2 l0_2.length c0_2, .slice A0_3 l0_3.length c0_3, .slice A0_4 l0_4.length c0_4, .slice A0_5 l0_5.length c0_5, .int .i64 a0_6]] (by rfl) rfl rfl qa ?_
            with_reducible refine (laws_toData.calls kj10 _ _ l0_0 _ _ l0_1 _ _ l0_2 _ _ l0_3 _ _ l0_4 _ _ l0_5 a0_6 t335 t338 t341 t344 t347 t350 t353 _ ?side1 ?side2 ?side3 ?side4 ?side5 ?side6 ?side7 ?side8 ?side9 ?side10 ?side11 ?side12 A41.out).mono ?_
            (case side1 => repeat (first | exact (Kd.C_below HR0_0.out HB.out) | (with_reducible refine Kd.C_alloc ?_ _) | (with_reducible refine Kd.C_drewN ?_ _) | (with_reducible refine Kd.C_drew ?_)))
            (case side2 => exact HC0_0.out)
            (case side3 => repeat (first | exact (Kd.C_below HR0_1.out HB.out) | (with_reducible refine Kd.C_alloc ?_ _) | (with_reducible refine Kd.C_drewN ?_ _) | (with_reducible refine Kd.C_drew ?_)))
            (case side4 => exact HC0_1.out)
            (case side5 => repeat (first | exact (Kd.C_below HR0_2.out HB.out) | (with_reducible refine Kd.C_alloc ?_ _) | (with_reducible refine Kd.C_drewN ?_ _) | (with_reducible refine Kd.C_drew ?_)))
            (case side6 => exact HC0_2.out)
            (case side7 => repeat (first | exact (Kd.C_below HR0_3.out HB.out) | (with_reducible refine Kd.C_alloc ?_ _) | (with_reducible refine Kd.C_drewN ?_ _) | (with_reducible refine Kd.C_drew ?_)))
            (case side8 => exact HC0_3.out)
            (case side9 => repeat (first | exact (Kd.C_below HR0_4.out HB.out) | (with_reducible refine Kd.C_alloc ?_ _) | (with_reducible refine Kd.C_drewN ?_ _) | (with_reducible refine Kd.C_drew ?_)))
            (case side10 => exact HC0_4.out)
            (case side11 => repeat (first | exact (Kd.C_below HR0_5.out HB.out) | (with_reducible refine Kd.C_alloc ?_ _) | (with_reducible refine Kd.C_drewN ?_ _) | (with_reducible refine Kd.C_drew ?_)))
            (case side12 => exact HC0_5.out)
            rintro e w47 ⟨v336, v339, v342, v345, v348, v351, rfl, ho0, ho1, ho2, ho3, ho4, ho5, hb⟩
            refine ⟨_, rfl, ?_⟩
            have n0_ := Aside0.mk (Kd.R_below (qr HO_4.out) hb)
            have n1_ := Aside0.mk (Kd.R_below (qr HO_7.out) hb)
            have n2_ := Aside0.mk (Kd.R_elder' (qr HO_330000.out) (Kd.R_base ho0) hb)
            have n3_ := Aside0.mk (Kd.R_elder' (qr HO_330001.out) (Kd.R_base ho1) hb)
            have n4_ := Aside0.mk (Kd.R_mono (Kd.R_told (Kd.R_told (Kd.R_told (Kd.R_told (Kd.R_old (qr HO_330002.out) hb) (Kd.R_base ho2)) (Kd.R_base ho3)) (Kd.R_base ho4)) (Kd.R_base ho5)) (fun _ h_ => h_.1))
            have n5_ := Aside0.mk (Kd.R_mono (Kd.R_told (Kd.R_told (Kd.R_told (Kd.R_told (Kd.R_old (qr HO_330003.out) hb) (Kd.R_base ho2)) (Kd.R_base ho3)) (Kd.R_base ho4)) (Kd.R_base ho5)) (fun _ h_ => h_.1))
            have n6_ := Aside0.mk (Kd.R_mono (Kd.R_told (Kd.R_told (Kd.R_told (Kd.R_told (Kd.R_old (qr HO_330004.out) hb) (Kd.R_base ho2)) (Kd.R_base ho3)) (Kd.R_base ho4)) (Kd.R_base ho5)) (fun _ h_ => h_.1))
            have n7_ := Aside0.mk (Kd.R_mono (Kd.R_told (Kd.R_told (Kd.R_told (Kd.R_told (Kd.R_old (qr HO_330005.out) hb) (Kd.R_base ho2)) (Kd.R_base ho3)) (Kd.R_base ho4)) (Kd.R_base ho5)) (fun _ h_ => h_.1))
            have n8_ := Aside0.mk (Kd.R_lower (Kd.R_new' ho0 (Kd.R_lt (qr HO_330000.out))) (below_size (qw HB.out)))
            have n9_ := Aside0.mk (Kd.R_lower (Kd.R_new' ho1 (Kd.R_lt (qr HO_330001.out))) (below_size (qw HB.out)))
            have n10_ := Aside0.mk (Kd.R_lower (Kd.R_new' (Kd.R_new' (Kd.R_new' (Kd.R_new' ho2 (Kd.R_lt (qr HO_330002.out))) (Kd.R_lt (qr HO_330003.out))) (Kd.R_lt (qr HO_330004.out))) (Kd.R_lt (qr HO_330005.out))) (below_size (qw HB.out)))
            have n11_ := Aside0.mk (Kd.R_lower (Kd.R_new' (Kd.R_new' (Kd.R_new' (Kd.R_new' ho3 (Kd.R_lt (qr HO_330002.out))) (Kd.R_lt (qr HO_330003.out))) (Kd.R_lt (qr HO_330004.out))) (Kd.R_lt (qr HO_330005.out))) (below_size (qw HB.out)))
            have n12_ := Aside0.mk (Kd.R_lower (Kd.R_new' (Kd.R_new' (Kd.R_new' (Kd.R_new' ho4 (Kd.R_lt (qr HO_330002.out))) (Kd.R_lt (qr HO_330003.out))) (Kd.R_lt (qr HO_330004.out))) (Kd.R_lt (qr HO_330005.out))) (below_size (qw HB.out)))
            have n13_ := Aside0.mk (Kd.R_lower (Kd.R_new' (Kd.R_new' (Kd.R_new' (Kd.R_new' ho5 (Kd.R_lt (qr HO_330002.out))) (Kd.R_lt (qr HO_330003.out))) (Kd.R_lt (qr HO_330004.out))) (Kd.R_lt (qr HO_330005.out))) (below_size (qw HB.out)))
            have n14_ := Aside0.mk (blk_below (g := gb285) (o := .cells #[.slice A0_0 l0_0.length c0_0, .slice A0_1 l0_1.length c0_1, .slice A0_2 l0_2.length c0_2, .slice A0_3 l0_3.length c0_3, .slice A0_4 l0_4.length c0_4, .slice A0_5 l0_5.length c0_5, .int .i64 a0_6] 26 (0, 0)) (qb BK285.out) hb)
            have n15_ := Aside0.mk (blk_below (g := gb329) (o := .cells #[.slice Ao27 t310.length co27, .slice Ao30 t313.length co30, .slice Ao31 t316.length co31, .slice Ao32 t319.length co32, .slice Ao33 t322.length co33, .slice Ao34 t325.length co34, .int .i64 t328] 33 (0, 0)) (qb BK329.out) hb)
            have n16_ := Aside0.mk (below_step (qw HB.out) hb)
            clear HO_4
            clear HO_7
            clear HO_330000
            clear HO_330001
            clear HO_330002
            clear HO_330003
            clear HO_330004
            clear HO_330005
            clear BK285
            clear BK329
            clear HB
            have HO_4 := n0_
            have HO_7 := n1_
            have HO_330000 := n2_
            have HO_330001 := n3_
            have HO_330002 := n4_
            have HO_330003 := n5_
            have HO_330004 := n6_
            have HO_330005 := n7_
            have HO337 := n8_
            have HO340 := n9_
            have HO343 := n10_
            have HO346 := n11_
            have HO349 := n12_
            have HO352 := n13_
            have BK285 := n14_
            have BK329 := n15_
            have HB := n16_
            clear n0_ n1_ n2_ n3_ n4_ n5_ n6_ n7_ n8_ n9_ n10_ n11_ n12_ n13_ n14_ n15_ n16_
            (try clear hb)
            (try clear hb2)
            (try clear hk)
            (try clear hi)
            (try clear ho0)
            (try clear ho1)
            (try clear ho2)
            (try clear ho3)
            (try clear ho4)
            (try clear ho5)
            obtain ⟨Ao48, co48, eo48⟩ := Kd.R_slice HO337.out
            (first | subst eo48 | (injection eo48 with f1_ f2_ f3_; have f4_ := f1_.symm; have f5_ := f3_.symm; clear f1_ f2_ f3_; subst f4_; subst f5_))
            obtain ⟨Ao49, co49, eo49⟩ := Kd.R_slice HO340.out
            (first | subst eo49 | (injection eo49 with f1_ f2_ f3_; have f4_ := f1_.symm; have f5_ := f3_.symm; clear f1_ f2_ f3_; subst f4_; subst f5_))
            obtain ⟨Ao50, co50, eo50⟩ := Kd.R_slice HO343.out
            (first | subst eo50 | (injection eo50 with f1_ f2_ f3_; have f4_ := f1_.symm; have f5_ := f3_.symm; clear f1_ f2_ f3_; subst f4_; subst f5_))
            obtain ⟨Ao51, co51, eo51⟩ := Kd.R_slice HO346.out
            (first | subst eo51 | (injection eo51 with f1_ f2_ f3_; have f4_ := f1_.symm; have f5_ := f3_.symm; clear f1_ f2_ f3_; subst f4_; subst f5_))
            obtain ⟨Ao52, co52, eo52⟩ := Kd.R_slice HO349.out
            (first | subst eo52 | (injection eo52 with f1_ f2_ f3_; have f4_ := f1_.symm; have f5_ := f3_.symm; clear f1_ f2_ f3_; subst f4_; subst f5_))
            obtain ⟨Ao53, co53, eo53⟩ := Kd.R_slice HO352.out
            (first | subst eo53 | (injection eo53 with f1_ f2_ f3_; have f4_ := f1_.symm; have f5_ := f3_.symm; clear f1_ f2_ f3_; subst f4_; subst f5_))
            refine hK.out _ _ ⟨(blk_cell BK329.out 0).trans rfl, (blk_cell BK329.out 1).trans rfl, (blk_cell BK329.out 2).trans rfl, (blk_cell BK329.out 3).trans rfl, (blk_cell BK329.out 4).trans rfl, (blk_cell BK329.out 5).trans rfl, (blk_cell BK329.out 6).trans rfl, (blk_cell BK285.out 0).trans rfl, (blk_cell BK285.out 1).trans rfl, (blk_cell BK285.out 2).trans rfl, (blk_cell BK285.out 3).trans rfl, (blk_cell BK285.out 4).trans rfl, (blk_cell BK285.out 5).trans rfl, (blk_cell BK285.out 6).trans rfl⟩ (fun hHeld => ?_)
            clear hK K
            refine norm_ (a' := ?_) ?_ ?_
            rotate_left
            · show Act.put _ (some 43) _ = _
              simp only [Act.put, List.setIfInBounds_toArray, List.set_cons_zero, List.set_cons_succ, i64_w, i32_w]
              rfl
            refine one_ (i := 3) (N := some 44) #[true, true, true, true, false] rfl rfl (by kernel_rfl) (by decide) (fun K hK => ?_)
            refine goes_ Tryd.func11 (by kernel_rfl) rfl #[.agg #[.slice Ao27 t310.length co27, .slice Ao30 t313.length co30, .slice Ao31 t316.length co31, .slice Ao32 t319.length co32, .slice Ao33 t322.length co33, .slice Ao34 t325.length co34, .int .i64 t328], .agg #[.slice Ao48 t335.length co48, .slice Ao49 t338.length co49, .slice Ao50 t341.length co50, .slice Ao51 t344.length co51, .slice Ao52 t347.length co52, .slice Ao53 t350.length co53, .int .i64 t353]] (by rfl) rfl rfl qa ?_
            with_reducible refine (laws_eqData.calls kj10 _ _ t310 _ _ t313 _ _ t316 _ _ t319 _ _ t322 _ _ t325 t328 _ _ t335 _ _ t338 _ _ t341 _ _ t344 _ _ t347 _ _ t350 t353 true _ ?side1 ?side2 ?side3 ?side4 ?side5 ?side6 ?side7 ?side8 ?side9 ?side10 ?side11 ?side12 ?side13 ?side14 ?side15 ?side16 ?side17 ?side18 ?side19 ?side20 ?side21 ?side22 ?side23 ?side24 A42.out).mono ?_
            (case side1 => repeat (first | exact (Kd.R_reads' HO_330000.out).2.2 | (with_reducible refine Kd.C_alloc ?_ _) | (with_reducible refine Kd.C_drewN ?_ _) | (with_reducible refine Kd.C_drew ?_)))
            (case side2 => exact (Kd.R_reads' HO_330000.out).2.1)
            (case side3 => repeat (first | exact (Kd.R_reads' HO_330001.out).2.2 | (with_reducible refine Kd.C_alloc ?_ _) | (with_reducible refine Kd.C_drewN ?_ _) | (with_reducible refine Kd.C_drew ?_)))
            (case side4 => exact (Kd.R_reads' HO_330001.out).2.1)
            (case side5 => repeat (first | exact (Kd.R_reads' HO_330002.out).2.2 | (with_reducible refine Kd.C_alloc ?_ _) | (with_reducible refine Kd.C_drewN ?_ _) | (with_reducible refine Kd.C_drew ?_)))
            (case side6 => exact (Kd.R_reads' HO_330002.out).2.1)
            (case side7 => repeat (first | exact (Kd.R_reads' HO_330003.out).2.2 | (with_reducible refine Kd.C_alloc ?_ _) | (with_reducible refine Kd.C_drewN ?_ _) | (with_reducible refine Kd.C_drew ?_)))
            (case side8 => exact (Kd.R_reads' HO_330003.out).2.1)
            (case side9 => repeat (first | exact (Kd.R_reads' HO_330004.out).2.2 | (with_reducible refine Kd.C_alloc ?_ _) | (with_reducible refine Kd.C_drewN ?_ _) | (with_reducible refine Kd.C_drew ?_)))
            (case side10 => exact (Kd.R_reads' HO_330004.out).2.1)
            (case side11 => repeat (first | exact (Kd.R_reads' HO_330005.out).2.2 | (with_reducible refine Kd.C_alloc ?_ _) | (with_reducible refine Kd.C_drewN ?_ _) | (with_reducible refine Kd.C_drew ?_)))
            (case side12 => exact (Kd.R_reads' HO_330005.out).2.1)
            (case side13 => repeat (first | exact (Kd.R_reads' HO337.out).2.2 | (with_reducible refine Kd.C_alloc ?_ _) | (with_reducible refine Kd.C_drewN ?_ _) | (with_reducible refine Kd.C_drew ?_)))
            (case side14 => exact (Kd.R_reads' HO337.out).2.1)
            (case side15 => repeat (first | exact (Kd.R_reads' HO340.out).2.2 | (with_reducible refine Kd.C_alloc ?_ _) | (with_reducible refine Kd.C_drewN ?_ _) | (with_reducible refine Kd.C_drew ?_)))
            (case side16 => exact (Kd.R_reads' HO340.out).2.1)
            (case side17 => repeat (first | exact (Kd.R_reads' HO343.out).2.2 | (with_reducible refine Kd.C_alloc ?_ _) | (with_reducible refine Kd.C_drewN ?_ _) | (with_reducible refine Kd.C_drew ?_)))
            (case side18 => exact (Kd.R_reads' HO343.out).2.1)
            (case side19 => repeat (first | exact (Kd.R_reads' HO346.out).2.2 | (with_reducible refine Kd.C_alloc ?_ _) | (with_reducible refine Kd.C_drewN ?_ _) | (with_reducible refine Kd.C_drew ?_)))
            (case side20 => exact (Kd.R_reads' HO346.out).2.1)
            (case side21 => repeat (first | exact (Kd.R_reads' HO349.out).2.2 | (with_reducible refine Kd.C_alloc ?_ _) | (with_reducible refine Kd.C_drewN ?_ _) | (with_reducible refine Kd.C_drew ?_)))
            (case side22 => exact (Kd.R_reads' HO349.out).2.1)
            (case side23 => repeat (first | exact (Kd.R_reads' HO352.out).2.2 | (with_reducible refine Kd.C_alloc ?_ _) | (with_reducible refine Kd.C_drewN ?_ _) | (with_reducible refine Kd.C_drew ?_)))
            (case side24 => exact (Kd.R_reads' HO352.out).2.1)
            rintro e w54 ⟨rfl, hb⟩
            refine ⟨_, rfl, ?_⟩
            have n0_ := Aside0.mk (Kd.R_below (qr HO_4.out) hb)
            have n1_ := Aside0.mk (Kd.R_below (qr HO_7.out) hb)
            have n2_ := Aside0.mk (Kd.R_below (qr HO_330000.out) hb)
            have n3_ := Aside0.mk (Kd.R_below (qr HO_330001.out) hb)
            have n4_ := Aside0.mk (Kd.R_below (qr HO_330002.out) hb)
            have n5_ := Aside0.mk (Kd.R_below (qr HO_330003.out) hb)
            have n6_ := Aside0.mk (Kd.R_below (qr HO_330004.out) hb)
            have n7_ := Aside0.mk (Kd.R_below (qr HO_330005.out) hb)
            have n8_ := Aside0.mk (Kd.R_below (qr HO337.out) hb)
            have n9_ := Aside0.mk (Kd.R_below (qr HO340.out) hb)
            have n10_ := Aside0.mk (Kd.R_below (qr HO343.out) hb)
            have n11_ := Aside0.mk (Kd.R_below (qr HO346.out) hb)
            have n12_ := Aside0.mk (Kd.R_below (qr HO349.out) hb)
            have n13_ := Aside0.mk (Kd.R_below (qr HO352.out) hb)
            have n14_ := Aside0.mk (blk_below (g := gb285) (o := .cells #[.slice A0_0 l0_0.length c0_0, .slice A0_1 l0_1.length c0_1, .slice A0_2 l0_2.length c0_2, .slice A0_3 l0_3.length c0_3, .slice A0_4 l0_4.length c0_4, .slice A0_5 l0_5.length c0_5, .int .i64 a0_6] 26 (0, 0)) (qb BK285.out) hb)
            have n15_ := Aside0.mk (blk_below (g := gb329) (o := .cells #[.slice Ao27 t310.length co27, .slice Ao30 t313.length co30, .slice Ao31 t316.length co31, .slice Ao32 t319.length co32, .slice Ao33 t322.length co33, .slice Ao34 t325.length co34, .int .i64 t328] 33 (0, 0)) (qb BK329.out) hb)
            have n16_ := Aside0.mk (below_step (qw HB.out) hb)
            clear HO_4
            clear HO_7
            clear HO_330000
            clear HO_330001
            clear HO_330002
            clear HO_330003
            clear HO_330004
            clear HO_330005
            clear HO337
            clear HO340
            clear HO343
            clear HO346
            clear HO349
            clear HO352
            clear BK285
            clear BK329
            clear HB
            have HO_4 := n0_
            have HO_7 := n1_
            have HO_330000 := n2_
            have HO_330001 := n3_
            have HO_330002 := n4_
            have HO_330003 := n5_
            have HO_330004 := n6_
            have HO_330005 := n7_
            have HO337 := n8_
            have HO340 := n9_
            have HO343 := n10_
            have HO346 := n11_
            have HO349 := n12_
            have HO352 := n13_
            have BK285 := n14_
            have BK329 := n15_
            have HB := n16_
            clear n0_ n1_ n2_ n3_ n4_ n5_ n6_ n7_ n8_ n9_ n10_ n11_ n12_ n13_ n14_ n15_ n16_
            (try clear hb)
            (try clear hb2)
            (try clear hk)
            (try clear hi)
            refine hK.out _ _ ⟨(blk_cell BK329.out 0).trans rfl, (blk_cell BK329.out 1).trans rfl, (blk_cell BK329.out 2).trans rfl, (blk_cell BK329.out 3).trans rfl, (blk_cell BK329.out 4).trans rfl, (blk_cell BK329.out 5).trans rfl, (blk_cell BK329.out 6).trans rfl, (blk_cell BK285.out 0).trans rfl, (blk_cell BK285.out 1).trans rfl, (blk_cell BK285.out 2).trans rfl, (blk_cell BK285.out 3).trans rfl, (blk_cell BK285.out 4).trans rfl, (blk_cell BK285.out 5).trans rfl, (blk_cell BK285.out 6).trans rfl⟩ (fun hHeld => ?_)
            clear hK K
            refine norm_ (a' := ?_) ?_ ?_
            rotate_left
            · show Act.put _ (some 44) _ = _
              simp only [Act.put, List.setIfInBounds_toArray, List.set_cons_zero, List.set_cons_succ, i64_w, i32_w]
              rfl
            refine pure_ (i := 4) (N := some 45) (v := ?_) (a' := ?_) #[true, true, true, true, true] rfl rfl (by kernel_rfl) (fun _ _ _ h => h) (Or.inl ⟨by rfl, ?_⟩) ?_ ?_
            rotate_left
            · intro w'
              go_simp
              with_reducible rfl
            rotate_left
            · simp only [Act.put, List.setIfInBounds_toArray, List.set_cons_zero, List.set_cons_succ, i64_w, i32_w]
              rfl
            refine done_ (by kernel_rfl) ?_
            have hnb55 := NB329_285.out
            have hnc55 := NB285_329.out
            have hcz56_0 : w54.cell? ⟨gb329, 0, none⟩ = some (.slice Ao27 t310.length co27) := (blk_cell BK329.out 0).trans rfl
            have hcz56_1 : w54.cell? ⟨gb329, 1, none⟩ = some (.slice Ao30 t313.length co30) := (blk_cell BK329.out 1).trans rfl
            have hcz56_2 : w54.cell? ⟨gb329, 2, none⟩ = some (.slice Ao31 t316.length co31) := (blk_cell BK329.out 2).trans rfl
            have hcz56_3 : w54.cell? ⟨gb329, 3, none⟩ = some (.slice Ao32 t319.length co32) := (blk_cell BK329.out 3).trans rfl
            have hcz56_4 : w54.cell? ⟨gb329, 4, none⟩ = some (.slice Ao33 t322.length co33) := (blk_cell BK329.out 4).trans rfl
            have hcz56_5 : w54.cell? ⟨gb329, 5, none⟩ = some (.slice Ao34 t325.length co34) := (blk_cell BK329.out 5).trans rfl
            have hcz56_6 : w54.cell? ⟨gb329, 6, none⟩ = some (.int .i64 t328) := (blk_cell BK329.out 6).trans rfl
            have hfz56_0 := blk_frozen BK329.out 0
            have hfz56_1 := blk_frozen BK329.out 1
            have hfz56_2 := blk_frozen BK329.out 2
            have hfz56_3 := blk_frozen BK329.out 3
            have hfz56_4 := blk_frozen BK329.out 4
            have hfz56_5 := blk_frozen BK329.out 5
            have hfz56_6 := blk_frozen BK329.out 6
            go_upto_region 14 with (first | ((with_reducible refine gate_callee (f := 12) rfl ?_); refine goesL_ (some 48) rfl rfl Tryd.func12 (by kernel_rfl) rfl #[.agg #[.slice Ao27 t310.length co27, .slice Ao30 t313.length co30, .slice Ao31 t316.length co31, .slice Ao32 t319.length co32, .slice Ao33 t322.length co33, .slice Ao34 t325.length co34, .int .i64 t328], .int .i64 1] rfl qa ?_; (with_reducible refine (laws_markData.calls kj10 (fun k_ => some k_ = (.slice Ao27 t310.length co27 : Value).ownBlock) (.slice Ao27 t310.length co27) t310 (fun k_ => some k_ = (.slice Ao30 t313.length co30 : Value).ownBlock) (.slice Ao30 t313.length co30) t313 (fun k_ => some k_ = (.slice Ao31 t316.length co31 : Value).ownBlock) (.slice Ao31 t316.length co31) t316 (fun k_ => some k_ = (.slice Ao32 t319.length co32 : Value).ownBlock) (.slice Ao32 t319.length co32) t319 (fun k_ => some k_ = (.slice Ao33 t322.length co33 : Value).ownBlock) (.slice Ao33 t322.length co33) t322 (fun k_ => some k_ = (.slice Ao34 t325.length co34 : Value).ownBlock) (.slice Ao34 t325.length co34) t325 t328 1 t355 t356 t357 t358 t359 t360 t361 w _ ?side1 ?side2 ?side3 ?side4 ?side5 ?side6 ?side7 ?side8 ?side9 ?side10 ?side11 ?side12 ?side13 ?side14 ?side15 ?side16 ?side17 ?side18 ?side19 A44.out).mono ?_); (case side1 => repeat (first | (with_reducible first | exact HB.out | apply below_alloc | apply pw_below_drewN | apply below_drew1 | refine below_set ?_ GE285.out | refine below_set ?_ GE329.out) | exact HB.out)); (case side2 => exact Kd.R_tight rfl HO_330000.out); (case side3 => exact Kd.R_tight rfl HO_330001.out); (case side4 => exact Kd.R_tight rfl HO_330002.out); (case side5 => exact fun k_ e_ => (HO_330002.out.1 k_ e_.symm).1.1.1.1.1); (case side6 => exact fun k_ e_ => (HO_330002.out.1 k_ e_.symm).1.1.1.1.2.1); (case side7 => exact fun k_ e_ => (HO_330002.out.1 k_ e_.symm).1.1.1.1.2.2); (case side8 => exact Kd.R_tight rfl HO_330003.out); (case side9 => exact fun k_ e_ => (HO_330003.out.1 k_ e_.symm).1.1.1.1.1); (case side10 => exact fun k_ e_ => (HO_330003.out.1 k_ e_.symm).1.1.1.1.2.1); (case side11 => exact fun k_ e_ => (HO_330003.out.1 k_ e_.symm).1.1.1.1.2.2); (case side12 => exact Kd.R_tight rfl HO_330004.out); (case side13 => exact fun k_ e_ => (HO_330004.out.1 k_ e_.symm).1.1.1.1.1); (case side14 => exact fun k_ e_ => (HO_330004.out.1 k_ e_.symm).1.1.1.1.2.1); (case side15 => exact fun k_ e_ => (HO_330004.out.1 k_ e_.symm).1.1.1.1.2.2); (case side16 => exact Kd.R_tight rfl HO_330005.out); (case side17 => exact fun k_ e_ => (HO_330005.out.1 k_ e_.symm).1.1.1.1.1); (case side18 => exact fun k_ e_ => (HO_330005.out.1 k_ e_.symm).1.1.1.1.2.1); (case side19 => exact fun k_ e_ => (HO_330005.out.1 k_ e_.symm).1.1.1.1.2.2); rintro e w57 ⟨rfl, hy0, hy1, hy2, hy3, hy4, hy5, hb, hkp⟩; refine ⟨_, rfl, ?_⟩; have n0_ := Aside0.mk (Kd.R_mono (ok' := fun k_ => some k_ ≠ (v331 : Value).ownBlock) (Kd.R_keptB ((Kd.R_apart' (Kd.R_apart' (Kd.R_apart' (Kd.R_apart' (Kd.R_apart' (Kd.R_apart' HO_4.out (Kd.R_typed HO_330000.out) (by decide)) (Kd.R_typed HO_330001.out) (by decide)) (Kd.R_typed HO_330002.out) (by decide)) (Kd.R_typed HO_330003.out) (by decide)) (Kd.R_typed HO_330004.out) (by decide)) (Kd.R_typed HO_330005.out) (by decide))) hkp (fun k_ hk_ hs_ => Or.elim hs_ (fun e_ => (hk_.1.1.1.1.1.2) e_) (fun e_ => Or.elim e_ (fun e_ => (hk_.1.1.1.1.2) e_) (fun e_ => Or.elim e_ (fun e_ => (hk_.1.1.1.2) e_) (fun e_ => Or.elim e_ (fun e_ => (hk_.1.1.2) e_) (fun e_ => Or.elim e_ (fun e_ => (hk_.1.2) e_) (fun e_ => (hk_.2) e_))))))) (fun k_ hk_ => hk_.1.1.1.1.1.1.1)); have n1_ := Aside0.mk (Kd.R_mono (ok' := fun k_ => some k_ ≠ (v307 : Value).ownBlock) (Kd.R_keptB ((Kd.R_apart' (Kd.R_apart' (Kd.R_apart' (Kd.R_apart' (Kd.R_apart' (Kd.R_apart' HO_7.out (Kd.R_typed HO_330000.out) (by decide)) (Kd.R_typed HO_330001.out) (by decide)) (Kd.R_typed HO_330002.out) (by decide)) (Kd.R_typed HO_330003.out) (by decide)) (Kd.R_typed HO_330004.out) (by decide)) (Kd.R_typed HO_330005.out) (by decide))) hkp (fun k_ hk_ hs_ => Or.elim hs_ (fun e_ => (hk_.1.1.1.1.1.2) e_) (fun e_ => Or.elim e_ (fun e_ => (hk_.1.1.1.1.2) e_) (fun e_ => Or.elim e_ (fun e_ => (hk_.1.1.1.2) e_) (fun e_ => Or.elim e_ (fun e_ => (hk_.1.1.2) e_) (fun e_ => Or.elim e_ (fun e_ => (hk_.1.2) e_) (fun e_ => (hk_.2) e_))))))) (fun k_ hk_ => hk_.1.1.1.1.1.1.1)); have n2_ := Aside0.mk (Kd.R_reok rfl hy0 (fun k_ e_ => HO_330000.out.1 k_ e_)); have n3_ := Aside0.mk (Kd.R_reok rfl hy1 (fun k_ e_ => HO_330001.out.1 k_ e_)); have n4_ := Aside0.mk (Kd.R_reok rfl hy2 (fun k_ e_ => HO_330002.out.1 k_ e_)); have n5_ := Aside0.mk (Kd.R_reok rfl hy3 (fun k_ e_ => HO_330003.out.1 k_ e_)); have n6_ := Aside0.mk (Kd.R_reok rfl hy4 (fun k_ e_ => HO_330004.out.1 k_ e_)); have n7_ := Aside0.mk (Kd.R_reok rfl hy5 (fun k_ e_ => HO_330005.out.1 k_ e_)); have n8_ := Aside0.mk (blk_kept (qb BK285.out) hkp (fun hs_ => Or.elim hs_ (fun e_ => (fun e_ => (Kd.R_ne HO_330000.out BK285.out (by decide)) e_) e_) (fun e_ => Or.elim e_ (fun e_ => (fun e_ => (Kd.R_ne HO_330001.out BK285.out (by decide)) e_) e_) (fun e_ => Or.elim e_ (fun e_ => (fun e_ => (Kd.R_ne HO_330002.out BK285.out (by decide)) e_) e_) (fun e_ => Or.elim e_ (fun e_ => (fun e_ => (Kd.R_ne HO_330003.out BK285.out (by decide)) e_) e_) (fun e_ => Or.elim e_ (fun e_ => (fun e_ => (Kd.R_ne HO_330004.out BK285.out (by decide)) e_) e_) (fun e_ => (fun e_ => (Kd.R_ne HO_330005.out BK285.out (by decide)) e_) e_))))))); have n9_ := Aside0.mk (blk_kept (qb BK329.out) hkp (fun hs_ => Or.elim hs_ (fun e_ => (fun e_ => (Kd.R_ne HO_330000.out BK329.out (by decide)) e_) e_) (fun e_ => Or.elim e_ (fun e_ => (fun e_ => (Kd.R_ne HO_330001.out BK329.out (by decide)) e_) e_) (fun e_ => Or.elim e_ (fun e_ => (fun e_ => (Kd.R_ne HO_330002.out BK329.out (by decide)) e_) e_) (fun e_ => Or.elim e_ (fun e_ => (fun e_ => (Kd.R_ne HO_330003.out BK329.out (by decide)) e_) e_) (fun e_ => Or.elim e_ (fun e_ => (fun e_ => (Kd.R_ne HO_330004.out BK329.out (by decide)) e_) e_) (fun e_ => (fun e_ => (Kd.R_ne HO_330005.out BK329.out (by decide)) e_) e_))))))); have n10_ := Aside0.mk (Kd.R_mono (ok' := fun k_ => some k_ ≠ (.slice Ao27 t310.length co27 : Value).ownBlock) (Kd.R_keptB ((Kd.R_apart' (Kd.R_apart' (Kd.R_apart' (Kd.R_apart' (Kd.R_apart' HO337.out (Kd.R_typed HO_330001.out) (by decide)) (Kd.R_typed HO_330002.out) (by decide)) (Kd.R_typed HO_330003.out) (by decide)) (Kd.R_typed HO_330004.out) (by decide)) (Kd.R_typed HO_330005.out) (by decide))) hkp (fun k_ hk_ hs_ => Or.elim hs_ (fun e_ => (hk_.1.1.1.1.1.2) e_) (fun e_ => Or.elim e_ (fun e_ => (hk_.1.1.1.1.2) e_) (fun e_ => Or.elim e_ (fun e_ => (hk_.1.1.1.2) e_) (fun e_ => Or.elim e_ (fun e_ => (hk_.1.1.2) e_) (fun e_ => Or.elim e_ (fun e_ => (hk_.1.2) e_) (fun e_ => (hk_.2) e_))))))) (fun k_ hk_ => hk_.1.1.1.1.1.1.2)); have n11_ := Aside0.mk (Kd.R_mono (ok' := fun k_ => some k_ ≠ (.slice Ao30 t313.length co30 : Value).ownBlock) (Kd.R_keptB ((Kd.R_apart' (Kd.R_apart' (Kd.R_apart' (Kd.R_apart' (Kd.R_apart' HO340.out (Kd.R_typed HO_330000.out) (by decide)) (Kd.R_typed HO_330002.out) (by decide)) (Kd.R_typed HO_330003.out) (by decide)) (Kd.R_typed HO_330004.out) (by decide)) (Kd.R_typed HO_330005.out) (by decide))) hkp (fun k_ hk_ hs_ => Or.elim hs_ (fun e_ => (hk_.1.1.1.1.2) e_) (fun e_ => Or.elim e_ (fun e_ => (hk_.1.1.1.1.1.2) e_) (fun e_ => Or.elim e_ (fun e_ => (hk_.1.1.1.2) e_) (fun e_ => Or.elim e_ (fun e_ => (hk_.1.1.2) e_) (fun e_ => Or.elim e_ (fun e_ => (hk_.1.2) e_) (fun e_ => (hk_.2) e_))))))) (fun k_ hk_ => hk_.1.1.1.1.1.1.2)); have n12_ := Aside0.mk (Kd.R_mono (ok' := fun k_ => some k_ ≠ (.slice Ao31 t316.length co31 : Value).ownBlock ∧ some k_ ≠ (.slice Ao32 t319.length co32 : Value).ownBlock ∧ some k_ ≠ (.slice Ao33 t322.length co33 : Value).ownBlock ∧ some k_ ≠ (.slice Ao34 t325.length co34 : Value).ownBlock ∧ some k_ ≠ (.slice Ao51 t344.length co51 : Value).ownBlock ∧ some k_ ≠ (.slice Ao52 t347.length co52 : Value).ownBlock ∧ some k_ ≠ (.slice Ao53 t350.length co53 : Value).ownBlock) (Kd.R_keptB ((Kd.R_apart' (Kd.R_apart' HO343.out (Kd.R_typed HO_330000.out) (by decide)) (Kd.R_typed HO_330001.out) (by decide))) hkp (fun k_ hk_ hs_ => Or.elim hs_ (fun e_ => (hk_.1.2) e_) (fun e_ => Or.elim e_ (fun e_ => (hk_.2) e_) (fun e_ => Or.elim e_ (fun e_ => (hk_.1.1.1.1.1.2) e_) (fun e_ => Or.elim e_ (fun e_ => (hk_.1.1.1.1.2) e_) (fun e_ => Or.elim e_ (fun e_ => (hk_.1.1.1.2) e_) (fun e_ => (hk_.1.1.2) e_))))))) (fun k_ hk_ => ⟨hk_.1.1.1.1.1.1.2, hk_.1.1.1.1.1.2, hk_.1.1.1.1.2, hk_.1.1.1.2, hk_.1.1.1.1.1.1.1.1, hk_.1.1.1.1.1.1.1.2.1, hk_.1.1.1.1.1.1.1.2.2⟩)); have n13_ := Aside0.mk (Kd.R_mono (ok' := fun k_ => some k_ ≠ (.slice Ao31 t316.length co31 : Value).ownBlock ∧ some k_ ≠ (.slice Ao32 t319.length co32 : Value).ownBlock ∧ some k_ ≠ (.slice Ao33 t322.length co33 : Value).ownBlock ∧ some k_ ≠ (.slice Ao34 t325.length co34 : Value).ownBlock ∧ some k_ ≠ (.slice Ao50 t341.length co50 : Value).ownBlock ∧ some k_ ≠ (.slice Ao52 t347.length co52 : Value).ownBlock ∧ some k_ ≠ (.slice Ao53 t350.length co53 : Value).ownBlock) (Kd.R_keptB ((Kd.R_apart' (Kd.R_apart' HO346.out (Kd.R_typed HO_330000.out) (by decide)) (Kd.R_typed HO_330001.out) (by decide))) hkp (fun k_ hk_ hs_ => Or.elim hs_ (fun e_ => (hk_.1.2) e_) (fun e_ => Or.elim e_ (fun e_ => (hk_.2) e_) (fun e_ => Or.elim e_ (fun e_ => (hk_.1.1.1.1.1.2) e_) (fun e_ => Or.elim e_ (fun e_ => (hk_.1.1.1.1.2) e_) (fun e_ => Or.elim e_ (fun e_ => (hk_.1.1.1.2) e_) (fun e_ => (hk_.1.1.2) e_))))))) (fun k_ hk_ => ⟨hk_.1.1.1.1.1.1.2, hk_.1.1.1.1.1.2, hk_.1.1.1.1.2, hk_.1.1.1.2, hk_.1.1.1.1.1.1.1.1, hk_.1.1.1.1.1.1.1.2.1, hk_.1.1.1.1.1.1.1.2.2⟩)); have n14_ := Aside0.mk (Kd.R_mono (ok' := fun k_ => some k_ ≠ (.slice Ao31 t316.length co31 : Value).ownBlock ∧ some k_ ≠ (.slice Ao32 t319.length co32 : Value).ownBlock ∧ some k_ ≠ (.slice Ao33 t322.length co33 : Value).ownBlock ∧ some k_ ≠ (.slice Ao34 t325.length co34 : Value).ownBlock ∧ some k_ ≠ (.slice Ao50 t341.length co50 : Value).ownBlock ∧ some k_ ≠ (.slice Ao51 t344.length co51 : Value).ownBlock ∧ some k_ ≠ (.slice Ao53 t350.length co53 : Value).ownBlock) (Kd.R_keptB ((Kd.R_apart' (Kd.R_apart' HO349.out (Kd.R_typed HO_330000.out) (by decide)) (Kd.R_typed HO_330001.out) (by decide))) hkp (fun k_ hk_ hs_ => Or.elim hs_ (fun e_ => (hk_.1.2) e_) (fun e_ => Or.elim e_ (fun e_ => (hk_.2) e_) (fun e_ => Or.elim e_ (fun e_ => (hk_.1.1.1.1.1.2) e_) (fun e_ => Or.elim e_ (fun e_ => (hk_.1.1.1.1.2) e_) (fun e_ => Or.elim e_ (fun e_ => (hk_.1.1.1.2) e_) (fun e_ => (hk_.1.1.2) e_))))))) (fun k_ hk_ => ⟨hk_.1.1.1.1.1.1.2, hk_.1.1.1.1.1.2, hk_.1.1.1.1.2, hk_.1.1.1.2, hk_.1.1.1.1.1.1.1.1, hk_.1.1.1.1.1.1.1.2.1, hk_.1.1.1.1.1.1.1.2.2⟩)); have n15_ := Aside0.mk (Kd.R_mono (ok' := fun k_ => some k_ ≠ (.slice Ao31 t316.length co31 : Value).ownBlock ∧ some k_ ≠ (.slice Ao32 t319.length co32 : Value).ownBlock ∧ some k_ ≠ (.slice Ao33 t322.length co33 : Value).ownBlock ∧ some k_ ≠ (.slice Ao34 t325.length co34 : Value).ownBlock ∧ some k_ ≠ (.slice Ao50 t341.length co50 : Value).ownBlock ∧ some k_ ≠ (.slice Ao51 t344.length co51 : Value).ownBlock ∧ some k_ ≠ (.slice Ao52 t347.length co52 : Value).ownBlock) (Kd.R_keptB ((Kd.R_apart' (Kd.R_apart' HO352.out (Kd.R_typed HO_330000.out) (by decide)) (Kd.R_typed HO_330001.out) (by decide))) hkp (fun k_ hk_ hs_ => Or.elim hs_ (fun e_ => (hk_.1.2) e_) (fun e_ => Or.elim e_ (fun e_ => (hk_.2) e_) (fun e_ => Or.elim e_ (fun e_ => (hk_.1.1.1.1.1.2) e_) (fun e_ => Or.elim e_ (fun e_ => (hk_.1.1.1.1.2) e_) (fun e_ => Or.elim e_ (fun e_ => (hk_.1.1.1.2) e_) (fun e_ => (hk_.1.1.2) e_))))))) (fun k_ hk_ => ⟨hk_.1.1.1.1.1.1.2, hk_.1.1.1.1.1.2, hk_.1.1.1.1.2, hk_.1.1.1.2, hk_.1.1.1.1.1.1.1.1, hk_.1.1.1.1.1.1.1.2.1, hk_.1.1.1.1.1.1.1.2.2⟩)); have n16_ := Aside0.mk (hb); clear HO_4; clear HO_7; clear HO_330000; clear HO_330001; clear HO_330002; clear HO_330003; clear HO_330004; clear HO_330005; clear BK285; clear BK329; clear HO337; clear HO340; clear HO343; clear HO346; clear HO349; clear HO352; clear HB; have HO_4 := n0_; have HO_7 := n1_; have HO_330000 := n2_; have HO_330001 := n3_; have HO_330002 := n4_; have HO_330003 := n5_; have HO_330004 := n6_; have HO_330005 := n7_; have BK285 := n8_; have BK329 := n9_; have HO337 := n10_; have HO340 := n11_; have HO343 := n12_; have HO346 := n13_; have HO349 := n14_; have HO352 := n15_; have HB := n16_; clear n0_ n1_ n2_ n3_ n4_ n5_ n6_ n7_ n8_ n9_ n10_ n11_ n12_ n13_ n14_ n15_ n16_; (try clear hb); (try clear hkp); (try clear hy0); (try clear hy1); (try clear hy2); (try clear hy3); (try clear hy4); (try clear hy5)))
            (try simp only [Act.put, List.setIfInBounds_toArray, List.set_cons_zero, List.set_cons_succ])
            go_cut [61] (fun v61 wc => ∃ (kq : Nat) (x61_44 : Bool), v61 = .bool x61_44 ∧ Aside0 (laws_FnExactDataLines.j1 kq t306 t309 t330 x61_44 l0_0 l0_1 l0_2 l0_3 l0_4 l0_5 a0_6 = some r) ∧ Aside0 (kq ≤ kj10) ∧ Aside0 (Kd.R Kd.string 9 wc w.heap.size (fun k_ => some k_ ≠ (v331 : Value).ownBlock) v307 t306) ∧ Aside0 (Kd.R Kd.string 9 wc w.heap.size (fun k_ => some k_ ≠ (v307 : Value).ownBlock) v331 t330) ∧ Aside0 (Kd.R (Kd.int .i64) 3 wc w.heap.size (fun _ => True) (.slice Ao27 t310.length co27) t356) ∧ Aside0 (Kd.R k61 61 wc w.heap.size (fun _ => True) (.slice Ao30 t313.length co30) t357) ∧ Aside0 (Kd.R Kd.bool 4 wc w.heap.size (fun k_ => some k_ ≠ ((.slice Ao32 t319.length co32) : Value).ownBlock ∧ some k_ ≠ ((.slice Ao33 t322.length co33) : Value).ownBlock ∧ some k_ ≠ ((.slice Ao34 t325.length co34) : Value).ownBlock) (.slice Ao31 t316.length co31) t358) ∧ Aside0 (Kd.R Kd.bool 4 wc w.heap.size (fun k_ => some k_ ≠ ((.slice Ao31 t316.length co31) : Value).ownBlock ∧ some k_ ≠ ((.slice Ao33 t322.length co33) : Value).ownBlock ∧ some k_ ≠ ((.slice Ao34 t325.length co34) : Value).ownBlock) (.slice Ao32 t319.length co32) t359) ∧ Aside0 (Kd.R Kd.bool 4 wc w.heap.size (fun k_ => some k_ ≠ ((.slice Ao31 t316.length co31) : Value).ownBlock ∧ some k_ ≠ ((.slice Ao32 t319.length co32) : Value).ownBlock ∧ some k_ ≠ ((.slice Ao34 t325.length co34) : Value).ownBlock) (.slice Ao33 t322.length co33) t360) ∧ Aside0 (Kd.R Kd.bool 4 wc w.heap.size (fun k_ => some k_ ≠ ((.slice Ao31 t316.length co31) : Value).ownBlock ∧ some k_ ≠ ((.slice Ao32 t319.length co32) : Value).ownBlock ∧ some k_ ≠ ((.slice Ao33 t322.length co33) : Value).ownBlock) (.slice Ao34 t325.length co34) t361) ∧ Aside0 (wc.heap[gb285]? = some (.cells #[(.slice A0_0 l0_0.length c0_0), (.slice A0_1 l0_1.length c0_1), (.slice A0_2 l0_2.length c0_2), (.slice A0_3 l0_3.length c0_3), (.slice A0_4 l0_4.length c0_4), (.slice A0_5 l0_5.length c0_5), .int .i64 a0_6] 26 (0, 0))) ∧ Aside0 (wc.heap[gb329]? = some (.cells #[(.slice Ao27 t310.length co27), (.slice Ao30 t313.length co30), (.slice Ao31 t316.length co31), (.slice Ao32 t319.length co32), (.slice Ao33 t322.length co33), (.slice Ao34 t325.length co34), .int .i64 t328] 33 (0, 0))) ∧ Aside0 (Below w.heap.size w wc))
            case first =>
              have H := HC45.out
              clear HC45
              by_cases c58 : t355 < 0
              · rw [if_pos c58] at H
                exact absurd H (by simp)
              · rw [if_neg c58] at H
                have c58b0 : decide (t355 < 0) = false := decide_eq_false c58
                clear c58
                (first | rw [c58b0] | (simp only [i64_w, i32_w]; rw [c58b0]) | rw [c58x0] | (simp only [i64_w, i32_w]; rw [c58x0]) | skip)
                replace H := Option.bind_eq_some_iff.mp H
                obtain ⟨t362, A590, H⟩ := H
                replace H : (if t362 = true then (laws_FnExactDataLines.j1 kj10 t306 t309 t330 (t333 != t309) l0_0 l0_1 l0_2 l0_3 l0_4 l0_5 a0_6) else (none)) = some r := H
                have A59 := Aside0.mk A590
                clear A590
                by_cases c60 : t362 = true
                · subst c60
                  have H1 : (laws_FnExactDataLines.j1 kj10 t306 t309 t330 (t333 != t309) l0_0 l0_1 l0_2 l0_3 l0_4 l0_5 a0_6) = some r := by rw [if_pos rfl] at H; exact H
                  clear H
                  have H := H1
                  clear H1
                  have H' := Aside0.mk H
                  clear H
                  obtain ⟨Ao61, co61, eo61⟩ := Kd.R_slice HO_7.out
                  subst eo61
                  obtain ⟨Ao62, co62, eo62⟩ := Kd.R_slice HO_4.out
                  subst eo62
                  go_wp2_with (first | (go_at_call 10; (with_reducible refine (laws_eqStringS.calls kj10 _ _ t330 _ _ t306 true _ ?side1 ?side2 ?side3 ?side4 A59.out).mono ?_); (case side1 => repeat (first | exact (Kd.R_reads' HO_7.out).2.2 | (with_reducible refine Kd.C_alloc ?_ _) | (with_reducible refine Kd.C_drewN ?_ _) | (with_reducible refine Kd.C_drew ?_))); (case side2 => exact (Kd.R_reads' HO_7.out).2.1); (case side3 => repeat (first | exact (Kd.R_reads' HO_4.out).2.2 | (with_reducible refine Kd.C_alloc ?_ _) | (with_reducible refine Kd.C_drewN ?_ _) | (with_reducible refine Kd.C_drew ?_))); (case side4 => exact (Kd.R_reads' HO_4.out).2.1); rintro e w' ⟨rfl, ⟨nd, rfl⟩⟩))
                  go_meet
                  case rel => exact ⟨_, ((t333 != t309)), (by first | rfl | (simp; done) | (simp [*]; done)), H', ⟨by have := HJ10.out; first | omega | exact Nat.le_refl _⟩, ⟨qr HO_4.out⟩, ⟨qr HO_7.out⟩, ⟨by (with_reducible repeat (first | apply Kd.R_alloc | apply Kd.R_drewN | apply Kd.R_drew)); exact Kd.R_mono HO_330000.out (fun _ hk => trivial)⟩, ⟨by (with_reducible repeat (first | apply Kd.R_alloc | apply Kd.R_drewN | apply Kd.R_drew)); exact Kd.R_mono HO_330001.out (fun _ hk => trivial)⟩, ⟨by (with_reducible repeat (first | apply Kd.R_alloc | apply Kd.R_drewN | apply Kd.R_drew)); exact Kd.R_mono HO_330002.out (fun _ hk => ⟨hk.1.1.1.1.1, ⟨hk.1.1.1.1.2.1, hk.1.1.1.1.2.2⟩⟩)⟩, ⟨by (with_reducible repeat (first | apply Kd.R_alloc | apply Kd.R_drewN | apply Kd.R_drew)); exact Kd.R_mono HO_330003.out (fun _ hk => ⟨hk.1.1.1.1.1, ⟨hk.1.1.1.1.2.1, hk.1.1.1.1.2.2⟩⟩)⟩, ⟨by (with_reducible repeat (first | apply Kd.R_alloc | apply Kd.R_drewN | apply Kd.R_drew)); exact Kd.R_mono HO_330004.out (fun _ hk => ⟨hk.1.1.1.1.1, ⟨hk.1.1.1.1.2.1, hk.1.1.1.1.2.2⟩⟩)⟩, ⟨by (with_reducible repeat (first | apply Kd.R_alloc | apply Kd.R_drewN | apply Kd.R_drew)); exact Kd.R_mono HO_330005.out (fun _ hk => ⟨hk.1.1.1.1.1, ⟨hk.1.1.1.1.2.1, hk.1.1.1.1.2.2⟩⟩)⟩, ⟨qb BK285.out⟩, ⟨qb BK329.out⟩, ⟨qw HB.out⟩⟩
                · replace c60 := Bool.eq_false_iff.mpr c60
                  subst c60
                  have H1 : (none) = some r := by rw [if_neg (show ¬ (false = true) by decide)] at H; exact H
                  clear H
                  have H := H1
                  clear H1
                  exact absurd H (by simp)
            case rest =>
              clear HC45
              try clear c1
              try clear c2
              try clear p2
              try clear c3
              try clear c3b0
              try clear c4
              try clear c5
              try clear c6
              try clear c7
              try clear c8
              try clear c9
              try clear c10
              try clear c11
              try clear c12
              try clear c28
              try clear c37
              try clear c40
              try clear c43
              try clear c55
              try clear c58
              try clear c58b0
              try clear c60
              try clear hcz13_0
              try clear hcz13_1
              try clear hcz13_2
              try clear hcz13_3
              try clear hcz13_4
              try clear hcz13_5
              try clear hcz13_6
              try clear hcz15_0
              try clear hcz15_1
              try clear hcz15_2
              try clear hcz15_3
              try clear hcz15_4
              try clear hcz15_5
              try clear hcz15_6
              try clear hcz24_0
              try clear hcz24_1
              try clear hcz24_2
              try clear hcz24_3
              try clear hcz24_4
              try clear hcz24_5
              try clear hcz24_6
              try clear hcz29_0
              try clear hcz29_1
              try clear hcz29_2
              try clear hcz29_3
              try clear hcz29_4
              try clear hcz29_5
              try clear hcz29_6
              try clear hcz56_0
              try clear hcz56_1
              try clear hcz56_2
              try clear hcz56_3
              try clear hcz56_4
              try clear hcz56_5
              try clear hcz56_6
              try clear hcz5_0
              try clear hcz5_1
              try clear hcz5_2
              try clear hcz5_3
              try clear hcz5_4
              try clear hcz5_5
              try clear hcz5_6
              try clear hfz13_0
              try clear hfz13_1
              try clear hfz13_2
              try clear hfz13_3
              try clear hfz13_4
              try clear hfz13_5
              try clear hfz13_6
              try clear hfz15_0
              try clear hfz15_1
              try clear hfz15_2
              try clear hfz15_3
              try clear hfz15_4
              try clear hfz15_5
              try clear hfz15_6
              try clear hfz24_0
              try clear hfz24_1
              try clear hfz24_2
              try clear hfz24_3
              try clear hfz24_4
              try clear hfz24_5
              try clear hfz24_6
              try clear hfz29_0
              try clear hfz29_1
              try clear hfz29_2
              try clear hfz29_3
              try clear hfz29_4
              try clear hfz29_5
              try clear hfz29_6
              try clear hfz56_0
              try clear hfz56_1
              try clear hfz56_2
              try clear hfz56_3
              try clear hfz56_4
              try clear hfz56_5
              try clear hfz56_6
              try clear hfz5_0
              try clear hfz5_1
              try clear hfz5_2
              try clear hfz5_3
              try clear hfz5_4
              try clear hfz5_5
              try clear hfz5_6
              try clear p2
              obtain ⟨kq, x61_44, rfl, HA, HJ44, HO_4, HO_7, HO_330000, HO_330001, HO_330002, HO_330003, HO_330004, HO_330005, BK285, BK329, HB⟩ := hcut
              have hl330000_44 := (Kd.R_reads' HO_330000.out).1
              rw [hl330000_44] at HO_330000
              (try simp only [hl330000_44])
              (try simp only [hl330000_44] at BK285)
              (try simp only [hl330000_44] at BK329)
              (try simp only [hl330000_44] at HO_4)
              (try simp only [hl330000_44] at HO_7)
              (try simp only [hl330000_44] at HO_330001)
              (try simp only [hl330000_44] at HO_330002)
              (try simp only [hl330000_44] at HO_330003)
              (try simp only [hl330000_44] at HO_330004)
              (try simp only [hl330000_44] at HO_330005)
              have hl330001_44 := (Kd.R_reads' HO_330001.out).1
              rw [hl330001_44] at HO_330001
              (try simp only [hl330001_44])
              (try simp only [hl330001_44] at BK285)
              (try simp only [hl330001_44] at BK329)
              (try simp only [hl330001_44] at HO_4)
              (try simp only [hl330001_44] at HO_7)
              (try simp only [hl330001_44] at HO_330000)
              (try simp only [hl330001_44] at HO_330002)
              (try simp only [hl330001_44] at HO_330003)
              (try simp only [hl330001_44] at HO_330004)
              (try simp only [hl330001_44] at HO_330005)
              have hl330002_44 := (Kd.R_reads' HO_330002.out).1
              rw [hl330002_44] at HO_330002
              (try simp only [hl330002_44])
              (try simp only [hl330002_44] at BK285)
              (try simp only [hl330002_44] at BK329)
              (try simp only [hl330002_44] at HO_4)
              (try simp only [hl330002_44] at HO_7)
              (try simp only [hl330002_44] at HO_330000)
              (try simp only [hl330002_44] at HO_330001)
              (try simp only [hl330002_44] at HO_330003)
              (try simp only [hl330002_44] at HO_330004)
              (try simp only [hl330002_44] at HO_330005)
              have hl330003_44 := (Kd.R_reads' HO_330003.out).1
              rw [hl330003_44] at HO_330003
              (try simp only [hl330003_44])
              (try simp only [hl330003_44] at BK285)
              (try simp only [hl330003_44] at BK329)
              (try simp only [hl330003_44] at HO_4)
              (try simp only [hl330003_44] at HO_7)
              (try simp only [hl330003_44] at HO_330000)
              (try simp only [hl330003_44] at HO_330001)
              (try simp only [hl330003_44] at HO_330002)
              (try simp only [hl330003_44] at HO_330004)
              (try simp only [hl330003_44] at HO_330005)
              have hl330004_44 := (Kd.R_reads' HO_330004.out).1
              rw [hl330004_44] at HO_330004
              (try simp only [hl330004_44])
              (try simp only [hl330004_44] at BK285)
              (try simp only [hl330004_44] at BK329)
              (try simp only [hl330004_44] at HO_4)
              (try simp only [hl330004_44] at HO_7)
              (try simp only [hl330004_44] at HO_330000)
              (try simp only [hl330004_44] at HO_330001)
              (try simp only [hl330004_44] at HO_330002)
              (try simp only [hl330004_44] at HO_330003)
              (try simp only [hl330004_44] at HO_330005)
              have hl330005_44 := (Kd.R_reads' HO_330005.out).1
              rw [hl330005_44] at HO_330005
              (try simp only [hl330005_44])
              (try simp only [hl330005_44] at BK285)
              (try simp only [hl330005_44] at BK329)
              (try simp only [hl330005_44] at HO_4)
              (try simp only [hl330005_44] at HO_7)
              (try simp only [hl330005_44] at HO_330000)
              (try simp only [hl330005_44] at HO_330001)
              (try simp only [hl330005_44] at HO_330002)
              (try simp only [hl330005_44] at HO_330003)
              (try simp only [hl330005_44] at HO_330004)
              cases kq with
              | zero => exact absurd HA.out (by simp [laws_FnExactDataLines.j1])
              | succ kj44 =>
                have H := HA.out
                clear HA
                simp only [laws_FnExactDataLines.j1] at H
                by_cases c63 : x61_44 = true
                · subst c63
                  have H1 : (none) = some r := by rw [if_pos rfl] at H; exact H
                  clear H
                  have H := H1
                  clear H1
                  exact absurd H (by simp)
                · replace c63 := Bool.eq_false_iff.mpr c63
                  subst c63
                  have H1 : ((laws_markStringS.f kj44 t330 1).bind fun bt363 => ((laws_heldStringS.f kj44 bt363.2 1).bind fun t365 => (if t365 < 0 then (none) else (if t365 = bt363.1 then ((laws_toData.f kj44 l0_0 l0_1 l0_2 l0_3 l0_4 l0_5 a0_6).bind fun bt366 => ((impl_DataLines.f kj44 bt366.1 bt366.2.1 bt366.2.2.1 bt366.2.2.2.1 bt366.2.2.2.2.1 bt366.2.2.2.2.2.1 bt366.2.2.2.2.2.2).bind fun bt385 => ((laws_eqStringS.f kj44 bt385.1 t306).bind fun t389 => (if t389 = true then (laws_FnExactDataLines.j2 kj44 bt363.2 bt363.1 (bt385.2 != t309)) else (none))))) else (none))))) = some r := by rw [if_neg (show ¬ (false = true) by decide)] at H; exact H
                  clear H
                  have H := H1
                  clear H1
                  replace H := Option.bind_eq_some_iff.mp H
                  obtain ⟨⟨t363, t364⟩, A640, H⟩ := H
                  replace H : ((laws_heldStringS.f kj44 t364 1).bind fun t365 => (if t365 < 0 then (none) else (if t365 = t363 then ((laws_toData.f kj44 l0_0 l0_1 l0_2 l0_3 l0_4 l0_5 a0_6).bind fun bt366 => ((impl_DataLines.f kj44 bt366.1 bt366.2.1 bt366.2.2.1 bt366.2.2.2.1 bt366.2.2.2.2.1 bt366.2.2.2.2.2.1 bt366.2.2.2.2.2.2).bind fun bt385 => ((laws_eqStringS.f kj44 bt385.1 t306).bind fun t389 => (if t389 = true then (laws_FnExactDataLines.j2 kj44 t364 t363 (bt385.2 != t309)) else (none))))) else (none)))) = some r := H
                  have A64 := Aside0.mk A640
                  clear A640
                  replace H := Option.bind_eq_some_iff.mp H
                  obtain ⟨t365, A650, H⟩ := H
                  replace H : (if t365 < 0 then (none) else (if t365 = t363 then ((laws_toData.f kj44 l0_0 l0_1 l0_2 l0_3 l0_4 l0_5 a0_6).bind fun bt366 => ((impl_DataLines.f kj44 bt366.1 bt366.2.1 bt366.2.2.1 bt366.2.2.2.1 bt366.2.2.2.2.1 bt366.2.2.2.2.2.1 bt366.2.2.2.2.2.2).bind fun bt385 => ((laws_eqStringS.f kj44 bt385.1 t306).bind fun t389 => (if t389 = true then (laws_FnExactDataLines.j2 kj44 t364 t363 (bt385.2 != t309)) else (none))))) else (none))) = some r := H
                  have A65 := Aside0.mk A650
                  clear A650
                  by_cases c66 : t365 < 0
                  · rw [if_pos c66] at H
                    exact absurd H (by simp)
                  · rw [if_neg c66] at H
                    have c66b0 : decide (t365 < 0) = false := decide_eq_false c66
                    clear c66
                    by_cases c67 : t365 = t363
                    · rw [if_pos c67] at H
                      have c67b0 : (t365 == t363) = true := beq_iff_eq.mpr c67
                      have c67b1 : (t365 != t363) = false := bne_eq_false_iff_eq.mpr c67
                      clear c67
                      replace H := Option.bind_eq_some_iff.mp H
                      obtain ⟨⟨t366, t369, t372, t375, t378, t381, t384⟩, A680, H⟩ := H
                      replace H : ((impl_DataLines.f kj44 t366 t369 t372 t375 t378 t381 t384).bind fun bt385 => ((laws_eqStringS.f kj44 bt385.1 t306).bind fun t389 => (if t389 = true then (laws_FnExactDataLines.j2 kj44 t364 t363 (bt385.2 != t309)) else (none)))) = some r := H
                      have A68 := Aside0.mk A680
                      clear A680
                      replace H := Option.bind_eq_some_iff.mp H
                      obtain ⟨⟨t385, t388⟩, A690, H⟩ := H
                      replace H : ((laws_eqStringS.f kj44 t385 t306).bind fun t389 => (if t389 = true then (laws_FnExactDataLines.j2 kj44 t364 t363 (t388 != t309)) else (none))) = some r := H
                      have A69 := Aside0.mk A690
                      clear A690
                      have HC70 := Aside0.mk H
                      clear H
                      obtain ⟨Ao71, co71, eo71⟩ := Kd.R_slice HO_7.out
                      subst eo71
                      go_upto_region 25 with (first | ((with_reducible refine gate_callee (f := 13) rfl ?_); refine goesL_ (some 64) rfl rfl Tryd.func13 (by kernel_rfl) rfl #[.slice Ao71 t330.length co71, .int .i64 1] rfl qa ?_; (with_reducible refine (laws_markStringS.calls kj44 (fun k_ => some k_ = (.slice Ao71 t330.length co71 : Value).ownBlock) (.slice Ao71 t330.length co71) t330 1 t363 t364 w _ ?side1 ?side2 A64.out).mono ?_); (case side1 => repeat (first | (with_reducible first | exact HB.out | apply below_alloc | apply pw_below_drewN | apply below_drew1 | refine below_set ?_ GE285.out | refine below_set ?_ GE329.out) | exact HB.out)); (case side2 => exact Kd.R_tight rfl HO_7.out); rintro e w72 ⟨rfl, hy0, hb, hkp⟩; refine ⟨_, rfl, ?_⟩; have n0_ := Aside0.mk (Kd.R_mono (ok' := fun k_ => some k_ ≠ (.slice Ao71 t330.length co71 : Value).ownBlock) (Kd.R_keptB (HO_4.out) hkp (fun k_ hk_ hs_ => (hk_) hs_)) (fun k_ hk_ => hk_.1)); have n1_ := Aside0.mk (Kd.R_reok rfl hy0 (fun k_ e_ => HO_7.out.1 k_ e_)); have n2_ := Aside0.mk (Kd.R_mono (ok' := fun k_ => True) (Kd.R_keptB ((Kd.R_apart' HO_330000.out (Kd.R_typed HO_7.out) (by decide))) hkp (fun k_ hk_ hs_ => (hk_.2) hs_)) (fun k_ hk_ => trivial)); have n3_ := Aside0.mk (Kd.R_mono (ok' := fun k_ => True) (Kd.R_keptB ((Kd.R_apart' HO_330001.out (Kd.R_typed HO_7.out) (by decide))) hkp (fun k_ hk_ hs_ => (hk_.2) hs_)) (fun k_ hk_ => trivial)); have n4_ := Aside0.mk (Kd.R_mono (ok' := fun k_ => some k_ ≠ (.slice Ao32 t359.length co32 : Value).ownBlock ∧ some k_ ≠ (.slice Ao33 t360.length co33 : Value).ownBlock ∧ some k_ ≠ (.slice Ao34 t361.length co34 : Value).ownBlock) (Kd.R_keptB ((Kd.R_apart' HO_330002.out (Kd.R_typed HO_7.out) (by decide))) hkp (fun k_ hk_ hs_ => (hk_.2) hs_)) (fun k_ hk_ => ⟨hk_.1.1.1, hk_.1.1.2.1, hk_.1.1.2.2⟩)); have n5_ := Aside0.mk (Kd.R_mono (ok' := fun k_ => some k_ ≠ (.slice Ao31 t358.length co31 : Value).ownBlock ∧ some k_ ≠ (.slice Ao33 t360.length co33 : Value).ownBlock ∧ some k_ ≠ (.slice Ao34 t361.length co34 : Value).ownBlock) (Kd.R_keptB ((Kd.R_apart' HO_330003.out (Kd.R_typed HO_7.out) (by decide))) hkp (fun k_ hk_ hs_ => (hk_.2) hs_)) (fun k_ hk_ => ⟨hk_.1.1.1, hk_.1.1.2.1, hk_.1.1.2.2⟩)); have n6_ := Aside0.mk (Kd.R_mono (ok' := fun k_ => some k_ ≠ (.slice Ao31 t358.length co31 : Value).ownBlock ∧ some k_ ≠ (.slice Ao32 t359.length co32 : Value).ownBlock ∧ some k_ ≠ (.slice Ao34 t361.length co34 : Value).ownBlock) (Kd.R_keptB ((Kd.R_apart' HO_330004.out (Kd.R_typed HO_7.out) (by decide))) hkp (fun k_ hk_ hs_ => (hk_.2) hs_)) (fun k_ hk_ => ⟨hk_.1.1.1, hk_.1.1.2.1, hk_.1.1.2.2⟩)); have n7_ := Aside0.mk (Kd.R_mono (ok' := fun k_ => some k_ ≠ (.slice Ao31 t358.length co31 : Value).ownBlock ∧ some k_ ≠ (.slice Ao32 t359.length co32 : Value).ownBlock ∧ some k_ ≠ (.slice Ao33 t360.length co33 : Value).ownBlock) (Kd.R_keptB ((Kd.R_apart' HO_330005.out (Kd.R_typed HO_7.out) (by decide))) hkp (fun k_ hk_ hs_ => (hk_.2) hs_)) (fun k_ hk_ => ⟨hk_.1.1.1, hk_.1.1.2.1, hk_.1.1.2.2⟩)); have n8_ := Aside0.mk (blk_kept (qb BK285.out) hkp (fun hs_ => (fun e_ => (Kd.R_ne HO_7.out BK285.out (by decide)) e_) hs_)); have n9_ := Aside0.mk (blk_kept (qb BK329.out) hkp (fun hs_ => (fun e_ => (Kd.R_ne HO_7.out BK329.out (by decide)) e_) hs_)); have n10_ := Aside0.mk (hb); clear HO_4; clear HO_7; clear HO_330000; clear HO_330001; clear HO_330002; clear HO_330003; clear HO_330004; clear HO_330005; clear BK285; clear BK329; clear HB; have HO_4 := n0_; have HO_7 := n1_; have HO_330000 := n2_; have HO_330001 := n3_; have HO_330002 := n4_; have HO_330003 := n5_; have HO_330004 := n6_; have HO_330005 := n7_; have BK285 := n8_; have BK329 := n9_; have HB := n10_; clear n0_ n1_ n2_ n3_ n4_ n5_ n6_ n7_ n8_ n9_ n10_; (try clear hb); (try clear hkp); (try clear hy0)) | ((with_reducible refine gate_callee (f := 14) rfl ?_); refine goesL_ (some 67) rfl rfl Tryd.func14 (by kernel_rfl) rfl #[.slice Ao71 t364.length co71, .int .i64 1] rfl (by (try simp only [List.map_toArray, List.map_cons, List.map_nil]); first | done | (rw [show t364.length = t330.length from (Kd.R_reads' HO_7.out).1.symm] <;> rfl) | rfl | (simp only [List.length_drop, List.length_take]; rfl)) ?_; (with_reducible refine (laws_heldStringS.calls kj44 _ _ t364 1 t365 _ ?side1 ?side2 A65.out).mono ?_); (case side1 => repeat (first | exact (Kd.R_reads' HO_7.out).2.2 | (with_reducible refine Kd.C_alloc ?_ _) | (with_reducible refine Kd.C_drewN ?_ _) | (with_reducible refine Kd.C_drew ?_))); (case side2 => rw [show t364.length = t330.length from (Kd.R_reads' HO_7.out).1.symm]; exact (Kd.R_reads' HO_7.out).2.1); rintro e w73 ⟨rfl, hb⟩; refine ⟨_, rfl, ?_⟩; have n0_ := Aside0.mk (Kd.R_below (qr HO_4.out) hb); have n1_ := Aside0.mk (Kd.R_below (qr HO_7.out) hb); have n2_ := Aside0.mk (Kd.R_below (qr HO_330000.out) hb); have n3_ := Aside0.mk (Kd.R_below (qr HO_330001.out) hb); have n4_ := Aside0.mk (Kd.R_below (qr HO_330002.out) hb); have n5_ := Aside0.mk (Kd.R_below (qr HO_330003.out) hb); have n6_ := Aside0.mk (Kd.R_below (qr HO_330004.out) hb); have n7_ := Aside0.mk (Kd.R_below (qr HO_330005.out) hb); have n8_ := Aside0.mk (blk_below (g := gb285) (o := .cells #[.slice A0_0 l0_0.length c0_0, .slice A0_1 l0_1.length c0_1, .slice A0_2 l0_2.length c0_2, .slice A0_3 l0_3.length c0_3, .slice A0_4 l0_4.length c0_4, .slice A0_5 l0_5.length c0_5, .int .i64 a0_6] 26 (0, 0)) (qb BK285.out) hb); have n9_ := Aside0.mk (blk_below (g := gb329) (o := .cells #[.slice Ao27 t356.length co27, .slice Ao30 t357.length co30, .slice Ao31 t358.length co31, .slice Ao32 t359.length co32, .slice Ao33 t360.length co33, .slice Ao34 t361.length co34, .int .i64 t328] 33 (0, 0)) (qb BK329.out) hb); have n10_ := Aside0.mk (below_step (qw HB.out) hb); clear HO_4; clear HO_7; clear HO_330000; clear HO_330001; clear HO_330002; clear HO_330003; clear HO_330004; clear HO_330005; clear BK285; clear BK329; clear HB; have HO_4 := n0_; have HO_7 := n1_; have HO_330000 := n2_; have HO_330001 := n3_; have HO_330002 := n4_; have HO_330003 := n5_; have HO_330004 := n6_; have HO_330005 := n7_; have BK285 := n8_; have BK329 := n9_; have HB := n10_; clear n0_ n1_ n2_ n3_ n4_ n5_ n6_ n7_ n8_ n9_ n10_; (try clear hb); (try clear hb2); (try clear hk); (try clear hi); have hnb74 := NB285_329.out; have hnc74 := NB329_285.out; have hcz75_0 : w73.cell? ⟨gb285, 0, none⟩ = some (.slice A0_0 l0_0.length c0_0) := (blk_cell BK285.out 0).trans rfl; have hcz75_1 : w73.cell? ⟨gb285, 1, none⟩ = some (.slice A0_1 l0_1.length c0_1) := (blk_cell BK285.out 1).trans rfl; have hcz75_2 : w73.cell? ⟨gb285, 2, none⟩ = some (.slice A0_2 l0_2.length c0_2) := (blk_cell BK285.out 2).trans rfl; have hcz75_3 : w73.cell? ⟨gb285, 3, none⟩ = some (.slice A0_3 l0_3.length c0_3) := (blk_cell BK285.out 3).trans rfl; have hcz75_4 : w73.cell? ⟨gb285, 4, none⟩ = some (.slice A0_4 l0_4.length c0_4) := (blk_cell BK285.out 4).trans rfl; have hcz75_5 : w73.cell? ⟨gb285, 5, none⟩ = some (.slice A0_5 l0_5.length c0_5) := (blk_cell BK285.out 5).trans rfl; have hcz75_6 : w73.cell? ⟨gb285, 6, none⟩ = some (.int .i64 a0_6) := (blk_cell BK285.out 6).trans rfl; have hfz75_0 := blk_frozen BK285.out 0; have hfz75_1 := blk_frozen BK285.out 1; have hfz75_2 := blk_frozen BK285.out 2; have hfz75_3 := blk_frozen BK285.out 3; have hfz75_4 := blk_frozen BK285.out 4; have hfz75_5 := blk_frozen BK285.out 5; have hfz75_6 := blk_frozen BK285.out 6) | ((with_reducible refine gate_callee (f := 8) rfl ?_); refine goesL_ (some 75) rfl rfl Tryd.func8 (by kernel_rfl) rfl #[.agg #[.slice A0_0 l0_0.length c0_0, .slice A0_1 l0_1.length c0_1, .slice A0_2 l0_2.length c0_2, .slice A0_3 l0_3.length c0_3, .slice A0_4 l0_4.length c0_4, .slice A0_5 l0_5.length c0_5, .int .i64 a0_6]] rfl qa ?_; (with_reducible refine (laws_toData.calls kj44 _ _ l0_0 _ _ l0_1 _ _ l0_2 _ _ l0_3 _ _ l0_4 _ _ l0_5 a0_6 t366 t369 t372 t375 t378 t381 t384 _ ?side1 ?side2 ?side3 ?side4 ?side5 ?side6 ?side7 ?side8 ?side9 ?side10 ?side11 ?side12 A68.out).mono ?_); (case side1 => repeat (first | exact (Kd.C_below HR0_0.out HB.out) | (with_reducible refine Kd.C_alloc ?_ _) | (with_reducible refine Kd.C_drewN ?_ _) | (with_reducible refine Kd.C_drew ?_))); (case side2 => exact HC0_0.out); (case side3 => repeat (first | exact (Kd.C_below HR0_1.out HB.out) | (with_reducible refine Kd.C_alloc ?_ _) | (with_reducible refine Kd.C_drewN ?_ _) | (with_reducible refine Kd.C_drew ?_))); (case side4 => exact HC0_1.out); (case side5 => repeat (first | exact (Kd.C_below HR0_2.out HB.out) | (with_reducible refine Kd.C_alloc ?_ _) | (with_reducible refine Kd.C_drewN ?_ _) | (with_reducible refine Kd.C_drew ?_))); (case side6 => exact HC0_2.out); (case side7 => repeat (first | exact (Kd.C_below HR0_3.out HB.out) | (with_reducible refine Kd.C_alloc ?_ _) | (with_reducible refine Kd.C_drewN ?_ _) | (with_reducible refine Kd.C_drew ?_))); (case side8 => exact HC0_3.out); (case side9 => repeat (first | exact (Kd.C_below HR0_4.out HB.out) | (with_reducible refine Kd.C_alloc ?_ _) | (with_reducible refine Kd.C_drewN ?_ _) | (with_reducible refine Kd.C_drew ?_))); (case side10 => exact HC0_4.out); (case side11 => repeat (first | exact (Kd.C_below HR0_5.out HB.out) | (with_reducible refine Kd.C_alloc ?_ _) | (with_reducible refine Kd.C_drewN ?_ _) | (with_reducible refine Kd.C_drew ?_))); (case side12 => exact HC0_5.out); rintro e w76 ⟨v367, v370, v373, v376, v379, v382, rfl, ho0, ho1, ho2, ho3, ho4, ho5, hb⟩; refine ⟨_, rfl, ?_⟩; have n0_ := Aside0.mk (Kd.R_below (qr HO_4.out) hb); have n1_ := Aside0.mk (Kd.R_below (qr HO_7.out) hb); have n2_ := Aside0.mk (Kd.R_elder' (qr HO_330000.out) (Kd.R_base ho0) hb); have n3_ := Aside0.mk (Kd.R_elder' (qr HO_330001.out) (Kd.R_base ho1) hb); have n4_ := Aside0.mk (Kd.R_mono (Kd.R_told (Kd.R_told (Kd.R_told (Kd.R_told (Kd.R_old (qr HO_330002.out) hb) (Kd.R_base ho2)) (Kd.R_base ho3)) (Kd.R_base ho4)) (Kd.R_base ho5)) (fun _ h_ => h_.1)); have n5_ := Aside0.mk (Kd.R_mono (Kd.R_told (Kd.R_told (Kd.R_told (Kd.R_told (Kd.R_old (qr HO_330003.out) hb) (Kd.R_base ho2)) (Kd.R_base ho3)) (Kd.R_base ho4)) (Kd.R_base ho5)) (fun _ h_ => h_.1)); have n6_ := Aside0.mk (Kd.R_mono (Kd.R_told (Kd.R_told (Kd.R_told (Kd.R_told (Kd.R_old (qr HO_330004.out) hb) (Kd.R_base ho2)) (Kd.R_base ho3)) (Kd.R_base ho4)) (Kd.R_base ho5)) (fun _ h_ => h_.1)); have n7_ := Aside0.mk (Kd.R_mono (Kd.R_told (Kd.R_told (Kd.R_told (Kd.R_told (Kd.R_old (qr HO_330005.out) hb) (Kd.R_base ho2)) (Kd.R_base ho3)) (Kd.R_base ho4)) (Kd.R_base ho5)) (fun _ h_ => h_.1)); have n8_ := Aside0.mk (Kd.R_lower (Kd.R_new' ho0 (Kd.R_lt (qr HO_330000.out))) (below_size (qw HB.out))); have n9_ := Aside0.mk (Kd.R_lower (Kd.R_new' ho1 (Kd.R_lt (qr HO_330001.out))) (below_size (qw HB.out))); have n10_ := Aside0.mk (Kd.R_lower (Kd.R_new' (Kd.R_new' (Kd.R_new' (Kd.R_new' ho2 (Kd.R_lt (qr HO_330002.out))) (Kd.R_lt (qr HO_330003.out))) (Kd.R_lt (qr HO_330004.out))) (Kd.R_lt (qr HO_330005.out))) (below_size (qw HB.out))); have n11_ := Aside0.mk (Kd.R_lower (Kd.R_new' (Kd.R_new' (Kd.R_new' (Kd.R_new' ho3 (Kd.R_lt (qr HO_330002.out))) (Kd.R_lt (qr HO_330003.out))) (Kd.R_lt (qr HO_330004.out))) (Kd.R_lt (qr HO_330005.out))) (below_size (qw HB.out))); have n12_ := Aside0.mk (Kd.R_lower (Kd.R_new' (Kd.R_new' (Kd.R_new' (Kd.R_new' ho4 (Kd.R_lt (qr HO_330002.out))) (Kd.R_lt (qr HO_330003.out))) (Kd.R_lt (qr HO_330004.out))) (Kd.R_lt (qr HO_330005.out))) (below_size (qw HB.out))); have n13_ := Aside0.mk (Kd.R_lower (Kd.R_new' (Kd.R_new' (Kd.R_new' (Kd.R_new' ho5 (Kd.R_lt (qr HO_330002.out))) (Kd.R_lt (qr HO_330003.out))) (Kd.R_lt (qr HO_330004.out))) (Kd.R_lt (qr HO_330005.out))) (below_size (qw HB.out))); have n14_ := Aside0.mk (blk_below (g := gb285) (o := .cells #[.slice A0_0 l0_0.length c0_0, .slice A0_1 l0_1.length c0_1, .slice A0_2 l0_2.length c0_2, .slice A0_3 l0_3.length c0_3, .slice A0_4 l0_4.length c0_4, .slice A0_5 l0_5.length c0_5, .int .i64 a0_6] 26 (0, 0)) (qb BK285.out) hb); have n15_ := Aside0.mk (blk_below (g := gb329) (o := .cells #[.slice Ao27 t356.length co27, .slice Ao30 t357.length co30, .slice Ao31 t358.length co31, .slice Ao32 t359.length co32, .slice Ao33 t360.length co33, .slice Ao34 t361.length co34, .int .i64 t328] 33 (0, 0)) (qb BK329.out) hb); have n16_ := Aside0.mk (below_step (qw HB.out) hb); clear HO_4; clear HO_7; clear HO_330000; clear HO_330001; clear HO_330002; clear HO_330003; clear HO_330004; clear HO_330005; clear BK285; clear BK329; clear HB; have HO_4 := n0_; have HO_7 := n1_; have HO_330000 := n2_; have HO_330001 := n3_; have HO_330002 := n4_; have HO_330003 := n5_; have HO_330004 := n6_; have HO_330005 := n7_; have HO368 := n8_; have HO371 := n9_; have HO374 := n10_; have HO377 := n11_; have HO380 := n12_; have HO383 := n13_; have BK285 := n14_; have BK329 := n15_; have HB := n16_; clear n0_ n1_ n2_ n3_ n4_ n5_ n6_ n7_ n8_ n9_ n10_ n11_ n12_ n13_ n14_ n15_ n16_; (try clear hb); (try clear hb2); (try clear hk); (try clear hi); (try clear ho0); (try clear ho1); (try clear ho2); (try clear ho3); (try clear ho4); (try clear ho5); obtain ⟨Ao77, co77, eo77⟩ := Kd.R_slice HO368.out; subst eo77; obtain ⟨Ao78, co78, eo78⟩ := Kd.R_slice HO371.out; subst eo78; obtain ⟨Ao79, co79, eo79⟩ := Kd.R_slice HO374.out; subst eo79; obtain ⟨Ao80, co80, eo80⟩ := Kd.R_slice HO377.out; subst eo80; obtain ⟨Ao81, co81, eo81⟩ := Kd.R_slice HO380.out; subst eo81; obtain ⟨Ao82, co82, eo82⟩ := Kd.R_slice HO383.out; subst eo82) | ((with_reducible refine gate_callee (f := 9) rfl ?_); refine goesL_ (some 76) rfl rfl Tryd.func9 (by kernel_rfl) rfl #[.agg #[.slice Ao77 t366.length co77, .slice Ao78 t369.length co78, .slice Ao79 t372.length co79, .slice Ao80 t375.length co80, .slice Ao81 t378.length co81, .slice Ao82 t381.length co82, .int .i64 t384]] rfl qa ?_; (with_reducible refine (impl_DataLines.calls kj44 _ _ t366 _ _ t369 _ _ t372 _ _ t375 _ _ t378 _ _ t381 t384 t385 t388 _ ?side1 ?side2 ?side3 ?side4 ?side5 ?side6 ?side7 ?side8 ?side9 ?side10 ?side11 ?side12 ?side13 A69.out).mono ?_); (case side1 => repeat (first | exact (Kd.R_reads' HO368.out).2.2 | (with_reducible refine Kd.C_alloc ?_ _) | (with_reducible refine Kd.C_drewN ?_ _) | (with_reducible refine Kd.C_drew ?_))); (case side2 => exact (Kd.R_reads' HO368.out).2.1); (case side3 => repeat (first | exact (Kd.R_reads' HO371.out).2.2 | (with_reducible refine Kd.C_alloc ?_ _) | (with_reducible refine Kd.C_drewN ?_ _) | (with_reducible refine Kd.C_drew ?_))); (case side4 => exact (Kd.R_reads' HO371.out).2.1); (case side5 => repeat (first | exact (Kd.R_reads' HO374.out).2.2 | (with_reducible refine Kd.C_alloc ?_ _) | (with_reducible refine Kd.C_drewN ?_ _) | (with_reducible refine Kd.C_drew ?_))); (case side6 => exact (Kd.R_reads' HO374.out).2.1); (case side7 => repeat (first | exact (Kd.R_reads' HO377.out).2.2 | (with_reducible refine Kd.C_alloc ?_ _) | (with_reducible refine Kd.C_drewN ?_ _) | (with_reducible refine Kd.C_drew ?_))); (case side8 => exact (Kd.R_reads' HO377.out).2.1); (case side9 => repeat (first | exact (Kd.R_reads' HO380.out).2.2 | (with_reducible refine Kd.C_alloc ?_ _) | (with_reducible refine Kd.C_drewN ?_ _) | (with_reducible refine Kd.C_drew ?_))); (case side10 => exact (Kd.R_reads' HO380.out).2.1); (case side11 => repeat (first | exact (Kd.R_reads' HO383.out).2.2 | (with_reducible refine Kd.C_alloc ?_ _) | (with_reducible refine Kd.C_drewN ?_ _) | (with_reducible refine Kd.C_drew ?_))); (case side12 => exact (Kd.R_reads' HO383.out).2.1); (case side13 => exact Glob.below HG.out (qw HB.out)); rintro e w83 ⟨v386, rfl, ho0, hb⟩; refine ⟨_, rfl, ?_⟩; have n0_ := Aside0.mk (Kd.R_elder' (qr HO_4.out) (Kd.R_base ho0) hb); have n1_ := Aside0.mk (Kd.R_elder' (qr HO_7.out) (Kd.R_base ho0) hb); have n2_ := Aside0.mk (Kd.R_below (qr HO_330000.out) hb); have n3_ := Aside0.mk (Kd.R_below (qr HO_330001.out) hb); have n4_ := Aside0.mk (Kd.R_below (qr HO_330002.out) hb); have n5_ := Aside0.mk (Kd.R_below (qr HO_330003.out) hb); have n6_ := Aside0.mk (Kd.R_below (qr HO_330004.out) hb); have n7_ := Aside0.mk (Kd.R_below (qr HO_330005.out) hb); have n8_ := Aside0.mk (Kd.R_below (qr HO368.out) hb); have n9_ := Aside0.mk (Kd.R_below (qr HO371.out) hb); have n10_ := Aside0.mk (Kd.R_below (qr HO374.out) hb); have n11_ := Aside0.mk (Kd.R_below (qr HO377.out) hb); have n12_ := Aside0.mk (Kd.R_below (qr HO380.out) hb); have n13_ := Aside0.mk (Kd.R_below (qr HO383.out) hb); have n14_ := Aside0.mk (Kd.R_lower (Kd.R_new' (Kd.R_new' ho0 (Kd.R_lt (qr HO_4.out))) (Kd.R_lt (qr HO_7.out))) (below_size (qw HB.out))); have n15_ := Aside0.mk (blk_below (g := gb285) (o := .cells #[.slice A0_0 l0_0.length c0_0, .slice A0_1 l0_1.length c0_1, .slice A0_2 l0_2.length c0_2, .slice A0_3 l0_3.length c0_3, .slice A0_4 l0_4.length c0_4, .slice A0_5 l0_5.length c0_5, .int .i64 a0_6] 26 (0, 0)) (qb BK285.out) hb); have n16_ := Aside0.mk (blk_below (g := gb329) (o := .cells #[.slice Ao27 t356.length co27, .slice Ao30 t357.length co30, .slice Ao31 t358.length co31, .slice Ao32 t359.length co32, .slice Ao33 t360.length co33, .slice Ao34 t361.length co34, .int .i64 t328] 33 (0, 0)) (qb BK329.out) hb); have n17_ := Aside0.mk (below_step (qw HB.out) hb); clear HO_4; clear HO_7; clear HO_330000; clear HO_330001; clear HO_330002; clear HO_330003; clear HO_330004; clear HO_330005; clear HO368; clear HO371; clear HO374; clear HO377; clear HO380; clear HO383; clear BK285; clear BK329; clear HB; have HO_4 := n0_; have HO_7 := n1_; have HO_330000 := n2_; have HO_330001 := n3_; have HO_330002 := n4_; have HO_330003 := n5_; have HO_330004 := n6_; have HO_330005 := n7_; have HO368 := n8_; have HO371 := n9_; have HO374 := n10_; have HO377 := n11_; have HO380 := n12_; have HO383 := n13_; have HO387 := n14_; have BK285 := n15_; have BK329 := n16_; have HB := n17_; clear n0_ n1_ n2_ n3_ n4_ n5_ n6_ n7_ n8_ n9_ n10_ n11_ n12_ n13_ n14_ n15_ n16_ n17_; (try clear hb); (try clear hb2); (try clear hk); (try clear hi); (try clear ho0)))
                      (try simp only [Act.put, List.setIfInBounds_toArray, List.set_cons_zero, List.set_cons_succ])
                      go_cut [87] (fun v87 wc => ∃ (kq : Nat) (x87_69 : Bool), v87 = .bool x87_69 ∧ Aside0 (laws_FnExactDataLines.j2 kq t364 t363 x87_69 = some r) ∧ Aside0 (kq ≤ kj44) ∧ Aside0 (Kd.R Kd.string 9 wc w.heap.size (fun _ => True) (.slice Ao71 t330.length co71) t364) ∧ Aside0 (Kd.R (Kd.int .i64) 3 wc w.heap.size (fun _ => True) (.slice Ao27 t356.length co27) t356) ∧ Aside0 (Kd.R k61 61 wc w.heap.size (fun _ => True) (.slice Ao30 t357.length co30) t357) ∧ Aside0 (Kd.R Kd.bool 4 wc w.heap.size (fun k_ => some k_ ≠ ((.slice Ao32 t359.length co32) : Value).ownBlock ∧ some k_ ≠ ((.slice Ao33 t360.length co33) : Value).ownBlock ∧ some k_ ≠ ((.slice Ao34 t361.length co34) : Value).ownBlock) (.slice Ao31 t358.length co31) t358) ∧ Aside0 (Kd.R Kd.bool 4 wc w.heap.size (fun k_ => some k_ ≠ ((.slice Ao31 t358.length co31) : Value).ownBlock ∧ some k_ ≠ ((.slice Ao33 t360.length co33) : Value).ownBlock ∧ some k_ ≠ ((.slice Ao34 t361.length co34) : Value).ownBlock) (.slice Ao32 t359.length co32) t359) ∧ Aside0 (Kd.R Kd.bool 4 wc w.heap.size (fun k_ => some k_ ≠ ((.slice Ao31 t358.length co31) : Value).ownBlock ∧ some k_ ≠ ((.slice Ao32 t359.length co32) : Value).ownBlock ∧ some k_ ≠ ((.slice Ao34 t361.length co34) : Value).ownBlock) (.slice Ao33 t360.length co33) t360) ∧ Aside0 (Kd.R Kd.bool 4 wc w.heap.size (fun k_ => some k_ ≠ ((.slice Ao31 t358.length co31) : Value).ownBlock ∧ some k_ ≠ ((.slice Ao32 t359.length co32) : Value).ownBlock ∧ some k_ ≠ ((.slice Ao33 t360.length co33) : Value).ownBlock) (.slice Ao34 t361.length co34) t361) ∧ Aside0 (wc.heap[gb285]? = some (.cells #[(.slice A0_0 l0_0.length c0_0), (.slice A0_1 l0_1.length c0_1), (.slice A0_2 l0_2.length c0_2), (.slice A0_3 l0_3.length c0_3), (.slice A0_4 l0_4.length c0_4), (.slice A0_5 l0_5.length c0_5), .int .i64 a0_6] 26 (0, 0))) ∧ Aside0 (wc.heap[gb329]? = some (.cells #[(.slice Ao27 t356.length co27), (.slice Ao30 t357.length co30), (.slice Ao31 t358.length co31), (.slice Ao32 t359.length co32), (.slice Ao33 t360.length co33), (.slice Ao34 t361.length co34), .int .i64 t328] 33 (0, 0))) ∧ Aside0 (Below w.heap.size w wc))
                      case first =>
                        have H := HC70.out
                        clear HC70
                        replace H := Option.bind_eq_some_iff.mp H
                        obtain ⟨t389, A840, H⟩ := H
                        replace H : (if t389 = true then (laws_FnExactDataLines.j2 kj44 t364 t363 (t388 != t309)) else (none)) = some r := H
                        have A84 := Aside0.mk A840
                        clear A840
                        by_cases c85 : t389 = true
                        · subst c85
                          have H1 : (laws_FnExactDataLines.j2 kj44 t364 t363 (t388 != t309)) = some r := by rw [if_pos rfl] at H; exact H
                          clear H
                          have H := H1
                          clear H1
                          have H' := Aside0.mk H
                          clear H
                          obtain ⟨Ao86, co86, eo86⟩ := Kd.R_slice HO387.out
                          subst eo86
                          obtain ⟨Ao87, co87, eo87⟩ := Kd.R_slice HO_4.out
                          subst eo87
                          go_wp2_with (first | ((with_reducible refine gate_callee (f := 10) rfl ?_); refine goesL_ (some 81) rfl rfl Tryd.func10 (by kernel_rfl) rfl #[.slice Ao86 t385.length co86, .slice Ao87 t306.length co87] rfl qa ?_; (with_reducible refine (laws_eqStringS.calls kj44 _ _ t385 _ _ t306 true _ ?side1 ?side2 ?side3 ?side4 A84.out).mono ?_); (case side1 => repeat (first | exact (Kd.R_reads' HO387.out).2.2 | (with_reducible refine Kd.C_alloc ?_ _) | (with_reducible refine Kd.C_drewN ?_ _) | (with_reducible refine Kd.C_drew ?_))); (case side2 => exact (Kd.R_reads' HO387.out).2.1); (case side3 => repeat (first | exact (Kd.R_reads' HO_4.out).2.2 | (with_reducible refine Kd.C_alloc ?_ _) | (with_reducible refine Kd.C_drewN ?_ _) | (with_reducible refine Kd.C_drew ?_))); (case side4 => exact (Kd.R_reads' HO_4.out).2.1); rintro e w' ⟨rfl, ⟨nd, rfl⟩⟩; refine ⟨_, rfl, ?_⟩))
                          go_meet
                          case rel => exact ⟨_, ((t388 != t309)), (by first | rfl | (simp; done) | (simp [*]; done)), H', ⟨by have := HJ10.out; have := HJ44.out; first | omega | exact Nat.le_refl _⟩, ⟨by (try simp only [hl330000_44]); (try simp only [hl330001_44]); (try simp only [hl330002_44]); (try simp only [hl330003_44]); (try simp only [hl330004_44]); (try simp only [hl330005_44]); (with_reducible repeat (first | apply Kd.R_alloc | apply Kd.R_drewN | apply Kd.R_drew)); exact Kd.R_mono HO_7.out (fun _ hk => trivial)⟩, ⟨by (try simp only [hl330000_44]); (try simp only [hl330001_44]); (try simp only [hl330002_44]); (try simp only [hl330003_44]); (try simp only [hl330004_44]); (try simp only [hl330005_44]); (with_reducible repeat (first | apply Kd.R_alloc | apply Kd.R_drewN | apply Kd.R_drew)); exact Kd.R_mono HO_330000.out (fun _ hk => trivial)⟩, ⟨by (try simp only [hl330000_44]); (try simp only [hl330001_44]); (try simp only [hl330002_44]); (try simp only [hl330003_44]); (try simp only [hl330004_44]); (try simp only [hl330005_44]); (with_reducible repeat (first | apply Kd.R_alloc | apply Kd.R_drewN | apply Kd.R_drew)); exact Kd.R_mono HO_330001.out (fun _ hk => trivial)⟩, ⟨by (try simp only [hl330000_44]); (try simp only [hl330001_44]); (try simp only [hl330002_44]); (try simp only [hl330003_44]); (try simp only [hl330004_44]); (try simp only [hl330005_44]); (with_reducible repeat (first | apply Kd.R_alloc | apply Kd.R_drewN | apply Kd.R_drew)); exact Kd.R_mono HO_330002.out (fun _ hk => ⟨hk.1.1.1.1.1, ⟨hk.1.1.1.1.2.1, hk.1.1.1.1.2.2⟩⟩)⟩, ⟨by (try simp only [hl330000_44]); (try simp only [hl330001_44]); (try simp only [hl330002_44]); (try simp only [hl330003_44]); (try simp only [hl330004_44]); (try simp only [hl330005_44]); (with_reducible repeat (first | apply Kd.R_alloc | apply Kd.R_drewN | apply Kd.R_drew)); exact Kd.R_mono HO_330003.out (fun _ hk => ⟨hk.1.1.1.1.1, ⟨hk.1.1.1.1.2.1, hk.1.1.1.1.2.2⟩⟩)⟩, ⟨by (try simp only [hl330000_44]); (try simp only [hl330001_44]); (try simp only [hl330002_44]); (try simp only [hl330003_44]); (try simp only [hl330004_44]); (try simp only [hl330005_44]); (with_reducible repeat (first | apply Kd.R_alloc | apply Kd.R_drewN | apply Kd.R_drew)); exact Kd.R_mono HO_330004.out (fun _ hk => ⟨hk.1.1.1.1.1, ⟨hk.1.1.1.1.2.1, hk.1.1.1.1.2.2⟩⟩)⟩, ⟨by (try simp only [hl330000_44]); (try simp only [hl330001_44]); (try simp only [hl330002_44]); (try simp only [hl330003_44]); (try simp only [hl330004_44]); (try simp only [hl330005_44]); (with_reducible repeat (first | apply Kd.R_alloc | apply Kd.R_drewN | apply Kd.R_drew)); exact Kd.R_mono HO_330005.out (fun _ hk => ⟨hk.1.1.1.1.1, ⟨hk.1.1.1.1.2.1, hk.1.1.1.1.2.2⟩⟩)⟩, ⟨by (try simp only [hl330000_44]); (try simp only [hl330001_44]); (try simp only [hl330002_44]); (try simp only [hl330003_44]); (try simp only [hl330004_44]); (try simp only [hl330005_44]); (with_reducible repeat (first | refine blk_drewN ?_ _ | refine blk_drew ?_ | refine blk_alloc ?_ _)); exact BK285.out⟩, ⟨by (try simp only [hl330000_44]); (try simp only [hl330001_44]); (try simp only [hl330002_44]); (try simp only [hl330003_44]); (try simp only [hl330004_44]); (try simp only [hl330005_44]); (with_reducible repeat (first | refine blk_drewN ?_ _ | refine blk_drew ?_ | refine blk_alloc ?_ _)); exact BK329.out⟩, ⟨qw HB.out⟩⟩
                        · replace c85 := Bool.eq_false_iff.mpr c85
                          subst c85
                          have H1 : (none) = some r := by rw [if_neg (show ¬ (false = true) by decide)] at H; exact H
                          clear H
                          have H := H1
                          clear H1
                          exact absurd H (by simp)
                      case rest =>
                        clear HC70
                        try clear c1
                        try clear c2
                        try clear p2
                        try clear c3
                        try clear c3b0
                        try clear c4
                        try clear c5
                        try clear c6
                        try clear c7
                        try clear c8
                        try clear c9
                        try clear c10
                        try clear c11
                        try clear c12
                        try clear c13
                        try clear c14
                        try clear c28
                        try clear c37
                        try clear c40
                        try clear c43
                        try clear c55
                        try clear c58
                        try clear c58b0
                        try clear c60
                        try clear c63
                        try clear c66
                        try clear c66b0
                        try clear c67
                        try clear c67b0
                        try clear c67b1
                        try clear c74
                        try clear c85
                        try clear hcz13_0
                        try clear hcz13_1
                        try clear hcz13_2
                        try clear hcz13_3
                        try clear hcz13_4
                        try clear hcz13_5
                        try clear hcz13_6
                        try clear hcz15_0
                        try clear hcz15_1
                        try clear hcz15_2
                        try clear hcz15_3
                        try clear hcz15_4
                        try clear hcz15_5
                        try clear hcz15_6
                        try clear hcz24_0
                        try clear hcz24_1
                        try clear hcz24_2
                        try clear hcz24_3
                        try clear hcz24_4
                        try clear hcz24_5
                        try clear hcz24_6
                        try clear hcz29_0
                        try clear hcz29_1
                        try clear hcz29_2
                        try clear hcz29_3
                        try clear hcz29_4
                        try clear hcz29_5
                        try clear hcz29_6
                        try clear hcz56_0
                        try clear hcz56_1
                        try clear hcz56_2
                        try clear hcz56_3
                        try clear hcz56_4
                        try clear hcz56_5
                        try clear hcz56_6
                        try clear hcz5_0
                        try clear hcz5_1
                        try clear hcz5_2
                        try clear hcz5_3
                        try clear hcz5_4
                        try clear hcz5_5
                        try clear hcz5_6
                        try clear hcz75_0
                        try clear hcz75_1
                        try clear hcz75_2
                        try clear hcz75_3
                        try clear hcz75_4
                        try clear hcz75_5
                        try clear hcz75_6
                        try clear hfz13_0
                        try clear hfz13_1
                        try clear hfz13_2
                        try clear hfz13_3
                        try clear hfz13_4
                        try clear hfz13_5
                        try clear hfz13_6
                        try clear hfz15_0
                        try clear hfz15_1
                        try clear hfz15_2
                        try clear hfz15_3
                        try clear hfz15_4
                        try clear hfz15_5
                        try clear hfz15_6
                        try clear hfz24_0
                        try clear hfz24_1
                        try clear hfz24_2
                        try clear hfz24_3
                        try clear hfz24_4
                        try clear hfz24_5
                        try clear hfz24_6
                        try clear hfz29_0
                        try clear hfz29_1
                        try clear hfz29_2
                        try clear hfz29_3
                        try clear hfz29_4
                        try clear hfz29_5
                        try clear hfz29_6
                        try clear hfz56_0
                        try clear hfz56_1
                        try clear hfz56_2
                        try clear hfz56_3
                        try clear hfz56_4
                        try clear hfz56_5
                        try clear hfz56_6
                        try clear hfz5_0
                        try clear hfz5_1
                        try clear hfz5_2
                        try clear hfz5_3
                        try clear hfz5_4
                        try clear hfz5_5
                        try clear hfz5_6
                        try clear hfz75_0
                        try clear hfz75_1
                        try clear hfz75_2
                        try clear hfz75_3
                        try clear hfz75_4
                        try clear hfz75_5
                        try clear hfz75_6
                        try clear p2
                        obtain ⟨kq, x87_69, rfl, HA, HJ69, HO_7, HO_330000, HO_330001, HO_330002, HO_330003, HO_330004, HO_330005, BK285, BK329, HB⟩ := hcut
                        have hl7_69 := (Kd.R_reads' HO_7.out).1
                        rw [hl7_69] at HO_7
                        (try simp only [hl7_69])
                        (try simp only [hl7_69] at BK285)
                        (try simp only [hl7_69] at BK329)
                        (try simp only [hl7_69] at HO_330000)
                        (try simp only [hl7_69] at HO_330001)
                        (try simp only [hl7_69] at HO_330002)
                        (try simp only [hl7_69] at HO_330003)
                        (try simp only [hl7_69] at HO_330004)
                        (try simp only [hl7_69] at HO_330005)
                        cases kq with
                        | zero => exact absurd HA.out (by simp [laws_FnExactDataLines.j2])
                        | succ kj69 =>
                          have H := HA.out
                          clear HA
                          simp only [laws_FnExactDataLines.j2] at H
                          by_cases c88 : x87_69 = true
                          · subst c88
                            have H1 : (none) = some r := by rw [if_pos rfl] at H; exact H
                            clear H
                            have H := H1
                            clear H1
                            exact absurd H (by simp)
                          · replace c88 := Bool.eq_false_iff.mpr c88
                            subst c88
                            have H1 : ((laws_heldStringS.f kj69 t364 1).bind fun t390 => (if t390 < 0 then (none) else (if t390 = t363 then (some true) else (none)))) = some r := by rw [if_neg (show ¬ (false = true) by decide)] at H; exact H
                            clear H
                            have H := H1
                            clear H1
                            replace H := Option.bind_eq_some_iff.mp H
                            obtain ⟨t390, A890, H⟩ := H
                            replace H : (if t390 < 0 then (none) else (if t390 = t363 then (some true) else (none))) = some r := H
                            have A89 := Aside0.mk A890
                            clear A890
                            by_cases c90 : t390 < 0
                            · rw [if_pos c90] at H
                              exact absurd H (by simp)
                            · rw [if_neg c90] at H
                              have c90b0 : decide (t390 < 0) = false := decide_eq_false c90
                              clear c90
                              by_cases c91 : t390 = t363
                              · rw [if_pos c91] at H
                                have c91b0 : (t390 == t363) = true := beq_iff_eq.mpr c91
                                have c91b1 : (t390 != t363) = false := bne_eq_false_iff_eq.mpr c91
                                clear c91
                                obtain rfl := Option.some.inj H
                                go_wp2_with (first | ((with_reducible refine gate_callee (f := 14) rfl ?_); refine goesL_ (some 90) rfl rfl Tryd.func14 (by kernel_rfl) rfl #[.slice Ao71 t364.length co71, .int .i64 1] rfl qa ?_; (with_reducible refine (laws_heldStringS.calls kj69 _ _ t364 1 t390 _ ?side1 ?side2 A89.out).mono ?_); (case side1 => repeat (first | exact (Kd.R_reads' HO_7.out).2.2 | (with_reducible refine Kd.C_alloc ?_ _) | (with_reducible refine Kd.C_drewN ?_ _) | (with_reducible refine Kd.C_drew ?_))); (case side2 => exact (Kd.R_reads' HO_7.out).2.1); rintro e w92 ⟨rfl, hb⟩; refine ⟨_, rfl, ?_⟩; have n0_ := Aside0.mk (Kd.R_below (qr HO_7.out) hb); have n1_ := Aside0.mk (Kd.R_below (qr HO_330000.out) hb); have n2_ := Aside0.mk (Kd.R_below (qr HO_330001.out) hb); have n3_ := Aside0.mk (Kd.R_below (qr HO_330002.out) hb); have n4_ := Aside0.mk (Kd.R_below (qr HO_330003.out) hb); have n5_ := Aside0.mk (Kd.R_below (qr HO_330004.out) hb); have n6_ := Aside0.mk (Kd.R_below (qr HO_330005.out) hb); have n7_ := Aside0.mk (blk_below (g := gb285) (o := .cells #[.slice A0_0 l0_0.length c0_0, .slice A0_1 l0_1.length c0_1, .slice A0_2 l0_2.length c0_2, .slice A0_3 l0_3.length c0_3, .slice A0_4 l0_4.length c0_4, .slice A0_5 l0_5.length c0_5, .int .i64 a0_6] 26 (0, 0)) (qb BK285.out) hb); have n8_ := Aside0.mk (blk_below (g := gb329) (o := .cells #[.slice Ao27 t356.length co27, .slice Ao30 t357.length co30, .slice Ao31 t358.length co31, .slice Ao32 t359.length co32, .slice Ao33 t360.length co33, .slice Ao34 t361.length co34, .int .i64 t328] 33 (0, 0)) (qb BK329.out) hb); have n9_ := Aside0.mk (below_step (qw HB.out) hb); clear HO_7; clear HO_330000; clear HO_330001; clear HO_330002; clear HO_330003; clear HO_330004; clear HO_330005; clear BK285; clear BK329; clear HB; have HO_7 := n0_; have HO_330000 := n1_; have HO_330001 := n2_; have HO_330002 := n3_; have HO_330003 := n4_; have HO_330004 := n5_; have HO_330005 := n6_; have BK285 := n7_; have BK329 := n8_; have HB := n9_; clear n0_ n1_ n2_ n3_ n4_ n5_ n6_ n7_ n8_ n9_; (try clear hb); (try clear hb2); (try clear hk); (try clear hi)))
                                go_ret
                                exact ⟨qe, qw HB.out⟩
                              · rw [if_neg c91] at H
                                exact absurd H (by simp)
                    · rw [if_neg c67] at H
                      exact absurd H (by simp)
          · replace c43 := Bool.eq_false_iff.mpr c43
            subst c43
            have H1 : (none) = some r := by rw [if_neg (show ¬ (false = true) by decide)] at H; exact H
            clear H
            have H := H1
            clear H1
            exact absurd H (by simp)

end Go.Proofs.YtppfcmkadcoboaaDoor.G
