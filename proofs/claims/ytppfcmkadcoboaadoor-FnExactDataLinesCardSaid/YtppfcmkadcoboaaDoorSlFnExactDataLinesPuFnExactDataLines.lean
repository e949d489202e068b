/- The law FnExactDataLines over lists and numbers: the program's lines of data are the reference's. -/
import Derived.Test.YtppfcmkadcoboaaDoorSlFnExactDataLinesGx0
import Derived.Test.YtppfcmkadcoboaaDoorSlFnExactDataLinesGx1
import Derived.Test.YtppfcmkadcoboaaDoorSlFnExactDataLinesGx2
import Derived.Test.YtppfcmkadcoboaaDoorSlFnExactDataLinesGx4
import Derived.Test.YtppfcmkadcoboaaDoorSlFnExactDataLinesGx5
import Derived.Test.YtppfcmkadcoboaaDoorSlFnExactDataLinesGx6
import Derived.Test.YtppfcmkadcoboaaDoorSlFnExactDataLinesGx7
import Derived.Test.YtppfcmkadcoboaaDoorSlFnExactDataLinesGx8
import Derived.Test.YtppfcmkadcoboaaDoorSlFnExactDataLinesGx9
import Derived.Test.YtppfcmkadcoboaaDoorSlFnExactDataLinesGx10
import Derived.Test.YtppfcmkadcoboaaDoorSlFnExactDataLinesGx11
import Derived.Test.YtppfcmkadcoboaaDoorSlFnExactDataLinesGx12
import Derived.Test.YtppfcmkadcoboaaDoorSlFnExactDataLinesGx13
import Derived.Test.YtppfcmkadcoboaaDoorSlFnExactDataLinesGx14
import Derived.Test.YtppfcmkadcoboaaDoorSlFnExactDataLinesGvP
import Derived.Test.YtppfcmkadcoboaaDoorSlFnExactDataLinesPuIn
import Derived.Test.YtppfcmkadcoboaaDoorSlFnExactDataLinesPuTexts
import Derived.Test.YtppfcmkadcoboaaDoorSlFnExactDataLinesPuNumbers
import Derived.Test.YtppfcmkadcoboaaDoorSlFnExactDataLinesPuInts
import Derived.Test.YtppfcmkadcoboaaDoorSlFnExactDataLinesStFnExactDataLines
set_option linter.unusedVariables false
set_option linter.unusedSimpArgs false
namespace Go.Proofs.YtppfcmkadcoboaaDoor.Pu
open Go.RowKit Go.Proofs.YtppfcmkadcoboaaDoor.G Go.Proofs.YtppfcmkadcoboaaDoor.GivenP Go.Proofs.YtppfcmkadcoboaaDoorW.PrintWords Go.Proofs.YtppfcmkadcoboaaDoorW.PrintLast Go.Proofs.YtppfcmkadcoboaaDoorW.PrintMore

abbrev FB := S61
abbrev LFB := S77
def convF (x : LFB) : FB := ⟨x.f0, x.f1, x.f2, x.f3⟩
theorem rdF (l : List FB) (i : Nat) (h : i < l.length) : rd_T61 l (i : Int) = l[i] := by
  simp [rd_T61, List.getD_eq_getElem?_getD, List.getElem?_eq_getElem h]
theorem toFbS_loop (l : List LFB) (hl : l.length ≤ 1048576) (d : Nat) : ∀ (acc : List FB) (i : Nat), i + d = l.length → acc.length = l.length → acc.take i = (l.take i).map convF → Ev (fun k => laws_toFbS.l0 k l acc (i : Int)) (l.map convF) := by
  induction d with
  | zero =>
    intro acc i hi ha ht
    refine Ev.step (fun k => by simp only [laws_toFbS.l0]; rfl) ?_
    refine Ev.neg (by omega) (Ev.lit ?_)
    rw [show i = l.length from by omega, List.take_length, ← ha, List.take_length] at ht
    rw [ht]
  | succ d ih =>
    intro acc i hi ha ht
    refine Ev.step (fun k => by simp only [laws_toFbS.l0]; rfl) ?_
    refine Ev.pos (by omega) (Ev.pos (by omega) (Ev.bindc (a := (convF (rd_T77 l i)).casesOn (fun a b c e => (a, b, c, e))) rfl (Ev.pos (by omega) ?_)))
    rw [w64 (by omega) (by omega)]
    have h := ih (acc.set i (convF (rd_T77 l i))) (i + 1) (by omega) (by simp [ha]) ?_
    · exact_mod_cast h
    · rw [List.take_succ_eq_append_getElem (by simp; omega), List.take_succ_eq_append_getElem (by omega), List.map_append, List.take_set_of_le (by omega), ht]
      simp [rd_T77, List.getD_eq_getElem?_getD, List.getElem?_eq_getElem (show i < l.length by omega)]
theorem toFbS (l : List LFB) (hl : l.length ≤ 1048576) : Ev (fun k => laws_toFbS.f k l) (l.map convF) := by
  unfold laws_toFbS.f
  refine Ev.pos (by omega) (Ev.pos (by omega) ?_)
  exact toFbS_loop l hl l.length _ 0 (by omega) (by simp) (by simp)
theorem rdBo (l : List Bool) (i : Nat) (h : i < l.length) : rdOf false l (i : Int) = l[i] := by
  simp [rdOf, List.getD_eq_getElem?_getD, List.getElem?_eq_getElem h]
theorem toBoolS_loop (l : List Bool) (hl : l.length ≤ 1048576) (d : Nat) : ∀ (acc : List Bool) (i : Nat), i + d = l.length → acc.length = l.length → acc.take i = l.take i → Ev (fun k => laws_toBoolS.l0 k l acc (i : Int)) l := by
  induction d with
  | zero =>
    intro acc i hi ha ht
    refine Ev.step (fun k => by simp only [laws_toBoolS.l0]; rfl) ?_
    refine Ev.neg (by omega) (Ev.lit ?_)
    rw [show i = l.length from by omega, List.take_length, ← ha, List.take_length] at ht
    rw [ht]
  | succ d ih =>
    intro acc i hi ha ht
    refine Ev.step (fun k => by simp only [laws_toBoolS.l0]; rfl) ?_
    refine Ev.pos (by omega) (Ev.pos (by omega) (Ev.pos (by omega) ?_))
    rw [w64 (by omega) (by omega), rdBo l i (by omega)]
    have h := ih (acc.set i l[i]) (i + 1) (by omega) (by simp [ha]) ?_
    · exact_mod_cast h
    · rw [List.take_succ_eq_append_getElem (by simp; omega), List.take_succ_eq_append_getElem (by omega), List.take_set_of_le (by omega), ht]
      simp
theorem toBoolS (l : List Bool) (hl : l.length ≤ 1048576) : Ev (fun k => laws_toBoolS.f k l) l := by
  unfold laws_toBoolS.f
  refine Ev.pos (by omega) (Ev.pos (by omega) ?_)
  exact toBoolS_loop l hl l.length _ 0 (by omega) (by simp) (by simp)
theorem eqF_loop (l : List FB) (hl : l.length ≤ 1048576) (d : Nat) : ∀ (i : Nat), i + d = l.length → Ev (fun k => laws_eqFbS.l0 k l l (i : Int)) true := by
  induction d with
  | zero =>
    intro i hi
    exact Ev.step (fun k => by simp only [laws_eqFbS.l0]; rfl) (Ev.neg (by omega) (Ev.lit rfl))
  | succ d ih =>
    intro i hi
    refine Ev.step (fun k => by simp only [laws_eqFbS.l0]; rfl) ?_
    refine Ev.pos (by omega) (Ev.pos (by omega) (Ev.pos (by omega) (Ev.bindc (a := true) (by simp [laws_eqFb.f]) (Ev.pos rfl ?_))))
    rw [w64 (by omega) (by omega)]
    exact_mod_cast ih (i + 1) (by omega)
theorem eqF (l : List FB) (hl : l.length ≤ 1048576) : Ev (fun k => laws_eqFbS.f k l l) true := by
  unfold laws_eqFbS.f
  exact Ev.pos rfl (eqF_loop l hl l.length 0 (by omega))
theorem eqB_loop (l : List Bool) (hl : l.length ≤ 1048576) (d : Nat) : ∀ (i : Nat), i + d = l.length → Ev (fun k => laws_eqBoolS.l0 k l l (i : Int)) true := by
  induction d with
  | zero =>
    intro i hi
    exact Ev.step (fun k => by simp only [laws_eqBoolS.l0]; rfl) (Ev.neg (by omega) (Ev.lit rfl))
  | succ d ih =>
    intro i hi
    refine Ev.step (fun k => by simp only [laws_eqBoolS.l0]; rfl) ?_
    refine Ev.pos (by omega) (Ev.pos (by omega) (Ev.pos (by omega) (Ev.neg (by simp) ?_)))
    rw [w64 (by omega) (by omega)]
    exact_mod_cast ih (i + 1) (by omega)
theorem eqB (l : List Bool) (hl : l.length ≤ 1048576) : Ev (fun k => laws_eqBoolS.f k l l) true := by
  unfold laws_eqBoolS.f
  exact Ev.pos rfl (eqB_loop l hl l.length 0 (by omega))
/-! ### marks: the counts go up -/
theorem markI_loop (n : Nat) (hl : n ≤ 1048576) (a : Int) (ha : 0 ≤ a ∧ a ≤ 100000000) (d : Nat) : ∀ (l : List Int) (i : Nat), l.length = n → i + d = n → EvP (fun k => laws_markIntS.l0 k l (a + (i : Int)) (i : Int)) (fun r => r.1 = a + (n : Int)) := by
  induction d with
  | zero =>
    intro l i hn hi
    refine EvP.step (fun k => by simp only [laws_markIntS.l0]; rfl) (EvP.neg (by omega) (EvP.lit rfl ?_))
    rw [show i = n from by omega]
  | succ d ih =>
    intro l i hn hi
    refine EvP.step (fun k => by simp only [laws_markIntS.l0]; rfl) (EvP.pos (by omega) (EvP.pos (by omega) ?_))
    rw [w64 (x := (i : Int) + 1) (by omega) (by omega), w64 (x := a + (i : Int) + 1) (by omega) (by omega)]
    rw [show a + (i : Int) + 1 = a + ((i + 1 : Nat) : Int) from by omega, show (i : Int) + 1 = ((i + 1 : Nat) : Int) from by omega]
    exact ih _ (i + 1) (by simp [hn]) (by omega)
theorem markI (l : List Int) (hl : l.length ≤ 1048576) (a : Int) (ha : 0 ≤ a ∧ a ≤ 100000000) : EvP (fun k => laws_markIntS.f k l a) (fun r => r.1 = a + (l.length : Int)) := by
  unfold laws_markIntS.f
  have := markI_loop l.length hl a ha l.length l 0 rfl (by omega)
  simpa using this
theorem markBo_loop (n : Nat) (hl : n ≤ 1048576) (a : Int) (ha : 0 ≤ a ∧ a ≤ 100000000) (d : Nat) : ∀ (l : List Bool) (i : Nat), l.length = n → i + d = n → EvP (fun k => laws_markBoolS.l0 k l (a + (i : Int)) (i : Int)) (fun r => r.1 = a + (n : Int)) := by
  induction d with
  | zero =>
    intro l i hn hi
    refine EvP.step (fun k => by simp only [laws_markBoolS.l0]; rfl) (EvP.neg (by omega) (EvP.lit rfl ?_))
    rw [show i = n from by omega]
  | succ d ih =>
    intro l i hn hi
    refine EvP.step (fun k => by simp only [laws_markBoolS.l0]; rfl) (EvP.pos (by omega) (EvP.pos (by omega) ?_))
    rw [w64 (x := (i : Int) + 1) (by omega) (by omega), w64 (x := a + (i : Int) + 1) (by omega) (by omega)]
    rw [show a + (i : Int) + 1 = a + ((i + 1 : Nat) : Int) from by omega, show (i : Int) + 1 = ((i + 1 : Nat) : Int) from by omega]
    exact ih _ (i + 1) (by simp [hn]) (by omega)
theorem markBo (l : List Bool) (hl : l.length ≤ 1048576) (a : Int) (ha : 0 ≤ a ∧ a ≤ 100000000) : EvP (fun k => laws_markBoolS.f k l a) (fun r => r.1 = a + (l.length : Int)) := by
  unfold laws_markBoolS.f
  have := markBo_loop l.length hl a ha l.length l 0 rfl (by omega)
  simpa using this
theorem markF_loop (n : Nat) (hl : n ≤ 1048576) (a : Int) (ha : 0 ≤ a ∧ a ≤ 100000000) (d : Nat) : ∀ (l : List FB) (i : Nat), l.length = n → i + d = n → EvP (fun k => laws_markFbS.l0 k l (a + 4 * (i : Int)) (i : Int)) (fun r => r.1 = a + 4 * (n : Int)) := by
  induction d with
  | zero =>
    intro l i hn hi
    refine EvP.step (fun k => by simp only [laws_markFbS.l0]; rfl) (EvP.neg (by omega) (EvP.lit rfl ?_))
    rw [show i = n from by omega]
  | succ d ih =>
    intro l i hn hi
    refine EvP.step (fun k => by simp only [laws_markFbS.l0]; rfl) ?_
    refine EvP.pos (by omega) (EvP.pos (by omega) (EvP.bindc rfl (EvP.bindc rfl (EvP.bindc rfl ?_))))
    rw [w64 (x := (i : Int) + 1) (by omega) (by omega), w64 (x := a + 4 * (i : Int) + 1) (by omega) (by omega), w64 (x := a + 4 * (i : Int) + 1 + 1) (by omega) (by omega), w64 (x := a + 4 * (i : Int) + 1 + 1 + 1) (by omega) (by omega), w64 (x := a + 4 * (i : Int) + 1 + 1 + 1 + 1) (by omega) (by omega)]
    rw [show a + 4 * (i : Int) + 1 + 1 + 1 + 1 = a + 4 * ((i + 1 : Nat) : Int) from by omega, show (i : Int) + 1 = ((i + 1 : Nat) : Int) from by omega]
    exact ih _ (i + 1) (by simp [hn]) (by omega)
theorem markF (l : List FB) (hl : l.length ≤ 1048576) (a : Int) (ha : 0 ≤ a ∧ a ≤ 100000000) : EvP (fun k => laws_markFbS.f k l a) (fun r => r.1 = a + 4 * (l.length : Int)) := by
  unfold laws_markFbS.f
  have := markF_loop l.length hl a ha l.length l 0 rfl (by omega)
  simpa using this
theorem markData (l0 : List Int) (l1 : List FB) (l2 l3 l4 l5 : List Bool) (a6 : Int) (h0 : l0.length ≤ 1048576) (h1 : l1.length ≤ 1048576) (h2 : l2.length ≤ 1048576) (h3 : l3.length ≤ 1048576) (h4 : l4.length ≤ 1048576) (h5 : l5.length ≤ 1048576) : EvP (fun k => laws_markData.f k l0 l1 l2 l3 l4 l5 a6 1) (fun r => 0 ≤ r.1) := by
  unfold laws_markData.f
  refine EvP.bindP (markI l0 h0 1 (by omega)) (fun a ha => ?_)
  refine EvP.bindP (markF l1 h1 a.1 (by omega)) (fun b hb => ?_)
  refine EvP.bindP (markBo l2 h2 b.1 (by omega)) (fun c hc => ?_)
  refine EvP.bindP (markBo l3 h3 c.1 (by omega)) (fun d hd => ?_)
  refine EvP.bindP (markBo l4 h4 d.1 (by omega)) (fun e he => ?_)
  refine EvP.bindP (markBo l5 h5 e.1 (by omega)) (fun g hg => ?_)
  exact EvP.lit rfl (by dsimp only; omega)
/-! ### what is right -/
def fbB (a0 : Int) (a1 : Bool) (a2 a3 : Int) : Bool := inB a2 0 2147483647 && (inB a3 0 2147483647 && (if a0 = 1 then (a1 || (decide (a2 = 0) && decide (a3 = 0))) else if a0 = 2 then decide (a2 = 0) else if a0 = 3 then (decide (a2 = 0) && decide (a3 = 0)) else if a0 = 4 then (decide (a2 = 0) && decide (a3 = 0)) else false))
theorem inB0 : inB 0 0 2147483647 = true := by decide
theorem fb_spec (a0 : Int) (a1 : Bool) (a2 a3 : Int) : spec_FbOK.f a0 a1 a2 a3 = some (fbB a0 a1 a2 a3) := by
  unfold spec_FbOK.f fbB
  simp only [in_spec, Option.bind_some]
  by_cases h1 : a0 = 1
  · subst h1
    cases a1 <;> cases inB a2 0 2147483647 <;> cases inB a3 0 2147483647 <;> by_cases e2 : a2 = 0 <;> by_cases e3 : a3 = 0 <;> simp [e2, e3]
  by_cases h2 : a0 = 2
  · subst h2
    by_cases e2 : a2 = 0
    · subst e2; simp [inB0]
    · simp [e2]
  by_cases e2 : a2 = 0 <;> by_cases e3 : a3 = 0 <;> by_cases h3 : a0 = 3 <;> by_cases h4 : a0 = 4 <;> simp [h1, h2, h3, h4, e2, e3, inB0]
theorem time_impl (a : Int) : impl_isTime.f a = some (inB a 0 2147483647) := by
  unfold impl_isTime.f
  rw [in_impl]
  rfl
theorem fb_impl (a0 : Int) (a1 : Bool) (a2 a3 : Int) : Ev (fun k => impl_FbOK.f k a0 a1 a2 a3) (fbB a0 a1 a2 a3) := by
  have key : ∀ b : Bool, Ev (fun k => impl_FbOK.j0 k b a0 a1 a2 a3) (!b && (if a0 = 1 then (a1 || (decide (a2 = 0) && decide (a3 = 0))) else if a0 = 2 then decide (a2 = 0) else if a0 = 3 then (decide (a2 = 0) && decide (a3 = 0)) else if a0 = 4 then (decide (a2 = 0) && decide (a3 = 0)) else false)) := by
    intro b
    refine Ev.step (fun k => by simp only [impl_FbOK.j0]; rfl) (Ev.lit ?_)
    by_cases h1 : a0 = 1 <;> by_cases h2 : a0 = 2 <;> by_cases h3 : a0 = 3 <;> by_cases h4 : a0 = 4 <;> by_cases e2 : a2 = 0 <;> by_cases e3 : a3 = 0 <;> cases a1 <;> cases b <;> simp [h1, h2, h3, h4, e2, e3]
  unfold impl_FbOK.f
  refine Ev.bindc (time_impl a2) ?_
  unfold fbB
  cases inB a2 0 2147483647 with
  | false => exact Ev.neg (by simp) (by simpa using key true)
  | true =>
    refine Ev.pos rfl (Ev.bindc (time_impl a3) ?_)
    cases inB a3 0 2147483647 with
    | false => simpa using key true
    | true => simpa using key false
def fbX (x : FB) : Bool := fbB x.f0 x.f1 x.f2 x.f3
theorem all_fb (l : List FB) : Ev (fun k => impl_all_fb.f k l) (l.all fbX) := by
  unfold impl_all_fb.f
  induction l with
  | nil => exact Ev.lit rfl
  | cons e r ih =>
    refine Ev.bind (g := fun k => impl_all_fb.p k e) (a := fbX e) (fb_impl _ _ _ _) ?_
    rw [List.all_cons]
    cases fbX e with
    | false => exact Ev.neg (by simp) (Ev.lit rfl)
    | true => exact Ev.pos rfl ih
def valX (x : Int) : Bool := inB x (-2147483648) 2147483647
theorem all_val (l : List Int) : impl_all_value.f l = some (l.all valX) := by
  unfold impl_all_value.f
  induction l with
  | nil => rfl
  | cons x r ih =>
    rw [GivenW.allO, ih, List.all_cons]
    unfold impl_all_value.p impl_isValue.f valX
    rw [in_impl]
    cases inB x (-2147483648) 2147483647 <;> simp
def dataB (l0 : List Int) (l1 : List FB) (l2 l3 l4 l5 : List Bool) (a6 : Int) : Bool :=
  decide (l2.length = 8) && (decide (l3.length = 8) && (decide (l4.length = 8) && (decide (l5.length = 8) && (decide ((l0.length : Int) = 16) && (decide ((l1.length : Int) ≤ 8) && (inB a6 0 2147483647 && (l0.all valX && l1.all fbX)))))))
theorem data_impl (l0 : List Int) (l1 : List FB) (l2 l3 l4 l5 : List Bool) (a6 : Int) : Ev (fun k => impl_DataOK.f k l0 l1 l2 l3 l4 l5 a6) (dataB l0 l1 l2 l3 l4 l5 a6) := by
  unfold impl_DataOK.f dataB
  by_cases h2 : l2.length = 8
  · refine Ev.pos h2 ?_
    by_cases h3 : l3.length = 8
    · refine Ev.pos h3 ?_
      by_cases h4 : l4.length = 8
      · refine Ev.pos h4 ?_
        by_cases h5 : l5.length = 8
        · refine Ev.pos h5 ?_
          by_cases h0 : (l0.length : Int) = 16
          · refine Ev.pos h0 (Ev.bindc (all_val l0) ?_)
            rw [decide_eq_true h2, decide_eq_true h3, decide_eq_true h4, decide_eq_true h5, decide_eq_true h0]
            cases l0.all valX with
            | false => exact Ev.neg (by simp) (Ev.lit (by simp))
            | true =>
              refine Ev.pos rfl ?_
              by_cases h1 : (l1.length : Int) ≤ 8
              · refine Ev.pos h1 (Ev.bind (all_fb l1) ?_)
                rw [decide_eq_true h1]
                cases l1.all fbX with
                | false => exact Ev.neg (by simp) (Ev.lit (by simp))
                | true => exact Ev.pos rfl (Ev.lit (by rw [time_impl]; simp))
              · exact Ev.neg h1 (Ev.lit (by simp [h1]))
          · exact Ev.neg h0 (Ev.lit (by simp [h0]))
        · exact Ev.neg h5 (Ev.lit (by simp [h5]))
      · exact Ev.neg h4 (Ev.lit (by simp [h4]))
    · exact Ev.neg h3 (Ev.lit (by simp [h3]))
  · exact Ev.neg h2 (Ev.lit (by simp [h2]))
theorem okB_loop (l0 : List Int) (l1 : List FB) (l2 l3 l4 l5 : List Bool) (a6 : Int) (h1 : l1.length ≤ 1000) (d : Nat) : ∀ (i : Nat), i + d = l1.length → Ev (fun k => spec_DataOK.l1 k (i : Int) l0 l1 l2 l3 l4 l5 a6) ((l1.drop i).all fbX) := by
  induction d with
  | zero =>
    intro i hi
    refine Ev.step (fun k => by simp only [spec_DataOK.l1]; rfl) (Ev.neg (by omega) (Ev.lit ?_))
    rw [List.drop_eq_nil_of_le (by omega)]
    rfl
  | succ d ih =>
    intro i hi
    have hb : i < l1.length := by omega
    have e := ih (i + 1) (by omega)
    refine Ev.step (fun k => by simp only [spec_DataOK.l1]; rfl) (Ev.pos (by omega) (Ev.pos (by omega) (Ev.bindc (fb_spec _ _ _ _) ?_)))
    rw [rdF l1 i hb, w64 (by omega) (by omega), List.drop_eq_getElem_cons hb, List.all_cons]
    cases hq : fbB l1[i].f0 l1[i].f1 l1[i].f2 l1[i].f3 with
    | false => exact Ev.neg (by simp) (Ev.lit (by simp [fbX, hq]))
    | true =>
      refine Ev.pos rfl ?_
      rw [show fbX l1[i] = true from hq, Bool.true_and]
      exact_mod_cast e
theorem okG_loop (l0 : List Int) (l1 : List FB) (l2 l3 l4 l5 : List Bool) (a6 : Int) (h0 : l0.length ≤ 1000) (h1 : l1.length ≤ 1000) (d : Nat) : ∀ (i : Nat), i + d = l0.length → Ev (fun k => spec_DataOK.l0 k (i : Int) l0 l1 l2 l3 l4 l5 a6) ((l0.drop i).all valX && l1.all fbX) := by
  induction d with
  | zero =>
    intro i hi
    refine Ev.step (fun k => by simp only [spec_DataOK.l0]; rfl) (Ev.neg (by omega) ?_)
    rw [List.drop_eq_nil_of_le (by omega)]
    simpa using okB_loop l0 l1 l2 l3 l4 l5 a6 h1 l1.length 0 (by omega)
  | succ d ih =>
    intro i hi
    have hb : i < l0.length := by omega
    have e := ih (i + 1) (by omega)
    have hv : spec_l01Int.f (rd l0 (i : Int)) = some (valX l0[i]) := by
      unfold spec_l01Int.f valX
      rw [in_spec, rdI l0 i hb]
      rfl
    refine Ev.step (fun k => by simp only [spec_DataOK.l0]; rfl) (Ev.pos (by omega) (Ev.pos (by omega) (Ev.bindc hv ?_)))
    rw [w64 (by omega) (by omega), List.drop_eq_getElem_cons hb, List.all_cons]
    cases hq : valX l0[i] with
    | false => exact Ev.neg (by simp) (Ev.lit (by simp))
    | true =>
      refine Ev.pos rfl ?_
      rw [Bool.true_and]
      exact_mod_cast e
theorem data_spec (l0 : List Int) (l1 : List FB) (l2 l3 l4 l5 : List Bool) (a6 : Int) : Ev (fun k => spec_DataOK.f k l0 l1 l2 l3 l4 l5 a6) (dataB l0 l1 l2 l3 l4 l5 a6) := by
  have j1 : Ev (fun k => spec_DataOK.j0 k true l0 l1 l2 l3 l4 l5 a6) false := Ev.step (fun k => by simp only [spec_DataOK.j0]; rfl) (Ev.pos (by simp) (Ev.lit rfl))
  unfold spec_DataOK.f dataB
  by_cases h0 : (l0.length : Int) = 16
  · refine Ev.pos h0 ?_
    by_cases h1 : (l1.length : Int) ≤ 8
    · refine Ev.neg (by omega) ?_
      by_cases h2 : (l2.length : Int) = 8
      · refine Ev.pos h2 ?_
        by_cases h3 : (l3.length : Int) = 8
        · refine Ev.pos h3 ?_
          by_cases h4 : (l4.length : Int) = 8
          · refine Ev.pos h4 ?_
            by_cases h5 : (l5.length : Int) = 8
            · refine Ev.pos h5 (Ev.bindc (in_spec _ _ _) ?_)
              rw [decide_eq_true (show l2.length = 8 by omega), decide_eq_true (show l3.length = 8 by omega), decide_eq_true (show l4.length = 8 by omega), decide_eq_true (show l5.length = 8 by omega), decide_eq_true h0, decide_eq_true h1]
              cases inB a6 0 2147483647 with
              | false => simpa using j1
              | true =>
                refine Ev.step (fun k => by simp only [spec_DataOK.j0]; rfl) (Ev.neg (by simp) ?_)
                simpa using okG_loop l0 l1 l2 l3 l4 l5 a6 (by omega) (by omega) l0.length 0 (by omega)
            · refine Ev.neg h5 ?_
              rw [decide_eq_false (show ¬ l5.length = 8 by omega)]
              simpa using j1
          · refine Ev.neg h4 ?_
            rw [decide_eq_false (show ¬ l4.length = 8 by omega)]
            simpa using j1
        · refine Ev.neg h3 ?_
          rw [decide_eq_false (show ¬ l3.length = 8 by omega)]
          simpa using j1
      · refine Ev.neg h2 ?_
        rw [decide_eq_false (show ¬ l2.length = 8 by omega)]
        simpa using j1
    · refine Ev.pos (by omega) ?_
      rw [decide_eq_false h1]
      simpa using j1
  · refine Ev.neg h0 ?_
    rw [decide_eq_false h0]
    simpa using j1
/-! ### the lines -/
def fbT (x : FB) : ByteArray :=
  if x.f0 = 1 then (((⟨#[116, 105, 109, 101, 114]⟩ : ByteArray) ++ spec_l03Text.onoff x.f1) ++ ((((⟨#[32, 115, 116, 97, 114, 116, 32]⟩ : ByteArray) ++ dec x.f2) ++ (⟨#[32, 99, 111, 117, 110, 116, 32]⟩ : ByteArray)) ++ dec x.f3))
  else if x.f0 = 2 then (((⟨#[99, 111, 117, 110, 116, 101, 114]⟩ : ByteArray) ++ spec_l03Text.onoff x.f1) ++ ((⟨#[32, 99, 111, 117, 110, 116, 32]⟩ : ByteArray) ++ dec x.f3))
  else if x.f0 = 3 then ((⟨#[101, 100, 103, 101]⟩ : ByteArray) ++ spec_l03Text.onoff x.f1)
  else ((⟨#[108, 97, 116, 99, 104]⟩ : ByteArray) ++ spec_l03Text.onoff x.f1)
theorem onoff_eq (b : Bool) : impl_fbText.onoff b = spec_l03Text.onoff b := rfl
theorem fbX_parts (x : FB) (h : fbX x = true) : I64r x.f2 ∧ I64r x.f3 ∧ (x.f0 = 1 ∨ x.f0 = 2 ∨ x.f0 = 3 ∨ x.f0 = 4) := by
  unfold fbX fbB inB at h
  simp only [Bool.and_eq_true, decide_eq_true_eq] at h
  obtain ⟨h2, h3, h4⟩ := h
  refine ⟨⟨by omega, by omega⟩, ⟨by omega, by omega⟩, ?_⟩
  by_cases e1 : x.f0 = 1
  · exact .inl e1
  by_cases e2 : x.f0 = 2
  · exact .inr (.inl e2)
  by_cases e3 : x.f0 = 3
  · exact .inr (.inr (.inl e3))
  by_cases e4 : x.f0 = 4
  · exact .inr (.inr (.inr e4))
  simp [e1, e2, e3, e4] at h4
theorem fbT_spec (x : FB) (h : fbX x = true) : Ev (fun k => spec_l03Text.f k x.f0 x.f1 x.f2 x.f3) (fbT x) := by
  obtain ⟨i2, i3, hk⟩ := fbX_parts x h
  have s2 := dec_size _ i2
  have s3 := dec_size _ i3
  unfold spec_l03Text.f fbT
  rcases hk with e | e | e | e <;> rw [e]
  · exact Ev.pos rfl (Ev.bind (digits _ i2) (Ev.bind (digits _ i3) (Ev.pos ⟨by omega, by omega⟩ (Ev.lit rfl))))
  · exact Ev.neg (by decide) (Ev.pos rfl (Ev.bind (digits _ i3) (Ev.pos (by omega) (Ev.lit rfl))))
  · exact Ev.neg (by decide) (Ev.neg (by decide) (Ev.pos rfl (Ev.lit rfl)))
  · exact Ev.neg (by decide) (Ev.neg (by decide) (Ev.neg (by decide) (Ev.pos rfl (Ev.lit rfl))))
theorem fbT_impl (x : FB) (h : fbX x = true) : impl_fbText.f x.f0 x.f1 x.f2 x.f3 = some (fbT x) := by
  obtain ⟨i2, i3, hk⟩ := fbX_parts x h
  have s2 := dec_size _ i2
  have s3 := dec_size _ i3
  unfold impl_fbText.f fbT
  rcases hk with e | e | e | e
  · rw [if_pos e, if_pos e, decimal _ i2, decimal _ i3]
    simp only [Option.bind_some]
    rw [if_pos ⟨by omega, by omega⟩, onoff_eq]
    simp [ByteArray.append_assoc]
  · rw [if_neg (by omega), if_pos e, if_neg (by omega), if_pos e, decimal _ i3]
    simp only [Option.bind_some]
    rw [if_pos (by omega), onoff_eq]
  · rw [if_neg (by omega), if_neg (by omega), if_pos e, if_neg (by omega), if_neg (by omega), if_pos e, onoff_eq]
  · rw [if_neg (by omega), if_neg (by omega), if_neg (by omega), if_pos e, if_neg (by omega), if_neg (by omega), if_neg (by omega), onoff_eq]
theorem fbT_size (x : FB) (h : fbX x = true) : (fbT x).size ≤ 100 := by
  obtain ⟨i2, i3, hk⟩ := fbX_parts x h
  have s2 := dec_size _ i2
  have s3 := dec_size _ i3
  have so : (spec_l03Text.onoff x.f1).size ≤ 4 := by cases x.f1 <;> decide
  unfold fbT
  rcases hk with e | e | e | e <;> rw [e] <;> simp [ByteArray.size_append, lit_size] <;> omega
def gLine (i : Nat) (x : Int) : ByteArray := (((⟨#[103, 108, 111, 98, 97, 108, 32]⟩ : ByteArray) ++ dec (i : Int)) ++ (⟨#[32]⟩ : ByteArray)) ++ dec x
def bLine (i : Nat) (x : FB) : ByteArray := (((⟨#[98, 108, 111, 99, 107, 32]⟩ : ByteArray) ++ dec (i : Int)) ++ (⟨#[32]⟩ : ByteArray)) ++ fbT x
def wLine (a : Int) : ByteArray := (⟨#[119, 114, 111, 110, 103, 32]⟩ : ByteArray) ++ dec a
def gL : List Int → Nat → List ByteArray
  | [], _ => []
  | x :: r, i => if x = 0 then gL r (i + 1) else gLine i x :: gL r (i + 1)
def bL : List FB → Nat → List ByteArray
  | [], _ => []
  | x :: r, i => bLine i x :: bL r (i + 1)
theorem gL_len (l : List Int) : ∀ i, (gL l i).length ≤ l.length := by
  induction l with
  | nil => intro i; simp [gL]
  | cons x r ih =>
    intro i
    have := ih (i + 1)
    unfold gL
    split
    · simp; omega
    · simp; omega
theorem bL_len (l : List FB) : ∀ i, (bL l i).length = l.length := by
  induction l with
  | nil => intro i; simp [bL]
  | cons x r ih => intro i; simp [bL, ih]
theorem bl_spec (l0 : List Int) (l1 : List FB) (l2 l3 l4 l5 : List Bool) (a6 : Int) (h1 : l1.length ≤ 8) (hx : ∀ x ∈ l1, fbX x = true) (i6 : I64r a6) (d : Nat) : ∀ (acc : List ByteArray) (i : Nat), i + d = l1.length → acc.length ≤ 16 + i → Ev (fun k => spec_l13Data.l1 k acc (i : Int) l0 l1 l2 l3 l4 l5 a6) (acc ++ bL (l1.drop i) i ++ [wLine a6]) := by
  have s6 := dec_size _ i6
  induction d with
  | zero =>
    intro acc i hi ha
    refine Ev.step (fun k => by simp only [spec_l13Data.l1]; rfl) ?_
    refine Ev.neg (by omega) (Ev.bind (digits _ i6) ?_)
    refine Ev.pos (by omega) (Ev.pos (by omega) (Ev.lit ?_))
    rw [List.drop_eq_nil_of_le (by omega)]
    simp [bL, wLine]
  | succ d ih =>
    intro acc i hi ha
    have hb : i < l1.length := by omega
    have hxi := hx _ (List.getElem_mem hb)
    have ii : I64r (i : Int) := ⟨by omega, by omega⟩
    have si := dec_size _ ii
    have sf := fbT_size _ hxi
    have e := ih (acc ++ [bLine i l1[i]]) (i + 1) (by omega) (by simp; omega)
    refine Ev.step (fun k => by simp only [spec_l13Data.l1]; rfl) ?_
    rw [rdF l1 i hb, w64 (by omega) (by omega)]
    refine Ev.pos (by omega) (Ev.bind (digits _ ii) (Ev.pos (by omega) (Ev.pos (by simp only [ByteArray.size_append, lit_size, List.size_toArray, List.length_cons, List.length_nil]; omega) (Ev.pos (by omega) (Ev.bind (fbT_spec _ hxi) (Ev.pos (by simp only [ByteArray.size_append, lit_size, List.size_toArray, List.length_cons, List.length_nil]; omega) (Ev.pos (by omega) ?_)))))))
    rw [List.drop_eq_getElem_cons hb]
    rw [bL, show acc ++ (bLine i l1[i] :: bL (l1.drop (i + 1)) (i + 1)) ++ [wLine a6] = acc ++ [bLine i l1[i]] ++ bL (l1.drop (i + 1)) (i + 1) ++ [wLine a6] by simp]
    exact_mod_cast e
theorem gl_spec (l0 : List Int) (l1 : List FB) (l2 l3 l4 l5 : List Bool) (a6 : Int) (h0 : l0.length = 16) (hv : ∀ x ∈ l0, I64r x) (h1 : l1.length ≤ 8) (hx : ∀ x ∈ l1, fbX x = true) (i6 : I64r a6) (d : Nat) : ∀ (acc : List ByteArray) (i : Nat), i + d = 16 → acc.length ≤ i → Ev (fun k => spec_l13Data.l0 k acc (i : Int) l0 l1 l2 l3 l4 l5 a6) (acc ++ gL (l0.drop i) i ++ bL l1 0 ++ [wLine a6]) := by
  induction d with
  | zero =>
    intro acc i hi ha
    refine Ev.step (fun k => by simp only [spec_l13Data.l0]; rfl) (Ev.neg (by omega) ?_)
    rw [List.drop_eq_nil_of_le (by omega)]
    simpa [gL] using bl_spec l0 l1 l2 l3 l4 l5 a6 h1 hx i6 l1.length acc 0 (by omega) (by omega)
  | succ d ih =>
    intro acc i hi ha
    have hb : i < l0.length := by omega
    have iv := hv _ (List.getElem_mem hb)
    have ii : I64r (i : Int) := ⟨by omega, by omega⟩
    have si := dec_size _ ii
    have sv := dec_size _ iv
    refine Ev.step (fun k => by simp only [spec_l13Data.l0]; rfl) ?_
    rw [rdI l0 i hb, w64 (by omega) (by omega), List.drop_eq_getElem_cons hb, gL]
    refine Ev.pos (by omega) (Ev.pos (by omega) (Ev.pos (by omega) ?_))
    by_cases hz : l0[i] = 0
    · have e := ih acc (i + 1) (by omega) (by omega)
      refine Ev.pos hz ?_
      rw [if_pos hz]
      exact_mod_cast e
    · have e := ih (acc ++ [gLine i l0[i]]) (i + 1) (by omega) (by simp; omega)
      refine Ev.neg hz (Ev.bind (digits _ ii) (Ev.pos (by omega) (Ev.pos (by simp only [ByteArray.size_append, lit_size, List.size_toArray, List.length_cons, List.length_nil]; omega) (Ev.bind (digits _ iv) (Ev.pos (by simp only [ByteArray.size_append, lit_size, List.size_toArray, List.length_cons, List.length_nil]; omega) (Ev.pos (by omega) ?_))))))
      rw [if_neg hz, show acc ++ (gLine i l0[i] :: gL (l0.drop (i + 1)) (i + 1)) ++ bL l1 0 ++ [wLine a6] = acc ++ [gLine i l0[i]] ++ gL (l0.drop (i + 1)) (i + 1) ++ bL l1 0 ++ [wLine a6] by simp]
      exact_mod_cast e
theorem pair_eq (i : Nat) (x : Int) : (⟨#[103, 108, 111, 98, 97, 108, 32]⟩ : ByteArray) ++ joined ([(i : Int), x].map dec) = gLine i x := by
  unfold gLine
  apply ByteArray.ext
  apply Array.toList_inj.mp
  simp [joined, Lib.join_cons, Lib.joinTail]
theorem joined_size2 (a b : Int) (ha : I64r a) (hb : I64r b) : (joined ([a, b].map dec)).size ≤ 100 := by
  have s1 := dec_size _ ha
  have s2 := dec_size _ hb
  have e : joined ([a, b].map dec) = (dec a ++ (⟨#[32]⟩ : ByteArray)) ++ dec b := by
    apply ByteArray.ext
    apply Array.toList_inj.mp
    simp [joined, Lib.join_cons, Lib.joinTail]
  rw [e]
  simp only [ByteArray.size_append, lit_size, List.size_toArray, List.length_cons, List.length_nil]
  omega
theorem bl_impl (l0 : List Int) (l1 : List FB) (l2 l3 l4 l5 : List Bool) (a6 : Int) (h1 : l1.length ≤ 8) (hx : ∀ x ∈ l1, fbX x = true) (i6 : I64r a6) (d : Nat) : ∀ (acc : List ByteArray) (i : Nat), i + d = l1.length → acc.length ≤ 16 + i → Ev (fun k => impl_DataLines.l1 k acc l1 (l1.length : Int) (i : Int) l0 l1 l2 l3 l4 l5 a6) (acc ++ bL (l1.drop i) i ++ [wLine a6], 0) := by
  have s6 := dec_size _ i6
  induction d with
  | zero =>
    intro acc i hi ha
    refine Ev.step (fun k => by simp only [impl_DataLines.l1]; rfl) ?_
    refine Ev.neg (by omega) (Ev.bindc (decimal _ i6) ?_)
    refine Ev.pos (by omega) (Ev.pos (by omega) (Ev.lit ?_))
    rw [List.drop_eq_nil_of_le (by omega)]
    simp [bL, wLine]
  | succ d ih =>
    intro acc i hi ha
    have hb : i < l1.length := by omega
    have hxi := hx _ (List.getElem_mem hb)
    have ii : I64r (i : Int) := ⟨by omega, by omega⟩
    have si := dec_size _ ii
    have sf := fbT_size _ hxi
    have e := ih (acc ++ [bLine i l1[i]]) (i + 1) (by omega) (by simp; omega)
    refine Ev.step (fun k => by simp only [impl_DataLines.l1]; rfl) ?_
    rw [rdF l1 i hb, w64 (by omega) (by omega)]
    refine Ev.pos (by omega) (Ev.pos (by omega) (Ev.pos (by omega) (Ev.bindc (decimal _ ii) (Ev.pos (by omega) (Ev.pos (by simp only [ByteArray.size_append, lit_size, List.size_toArray, List.length_cons, List.length_nil]; omega) (Ev.bindc (fbT_impl _ hxi) (Ev.pos (by simp only [ByteArray.size_append, lit_size, List.size_toArray, List.length_cons, List.length_nil]; omega) (Ev.pos (by omega) ?_))))))))
    rw [List.drop_eq_getElem_cons hb]
    rw [bL, show acc ++ (bLine i l1[i] :: bL (l1.drop (i + 1)) (i + 1)) ++ [wLine a6] = acc ++ [bLine i l1[i]] ++ bL (l1.drop (i + 1)) (i + 1) ++ [wLine a6] by simp]
    exact_mod_cast e
theorem gl_impl (l0 : List Int) (l1 : List FB) (l2 l3 l4 l5 : List Bool) (a6 : Int) (h0 : l0.length = 16) (hv : ∀ x ∈ l0, I64r x) (h1 : l1.length ≤ 8) (hx : ∀ x ∈ l1, fbX x = true) (i6 : I64r a6) (d : Nat) : ∀ (acc : List ByteArray) (i : Nat), i + d = 16 → acc.length ≤ i → Ev (fun k => impl_DataLines.l0 k acc l0 (l0.length : Int) (i : Int) l0 l1 l2 l3 l4 l5 a6) (acc ++ gL (l0.drop i) i ++ bL l1 0 ++ [wLine a6], 0) := by
  induction d with
  | zero =>
    intro acc i hi ha
    refine Ev.step (fun k => by simp only [impl_DataLines.l0]; rfl) (Ev.neg (by omega) ?_)
    rw [List.drop_eq_nil_of_le (by omega)]
    simpa [gL] using bl_impl l0 l1 l2 l3 l4 l5 a6 h1 hx i6 l1.length acc 0 (by omega) (by omega)
  | succ d ih =>
    intro acc i hi ha
    have hb : i < l0.length := by omega
    have iv := hv _ (List.getElem_mem hb)
    have ii : I64r (i : Int) := ⟨by omega, by omega⟩
    refine Ev.step (fun k => by simp only [impl_DataLines.l0]; rfl) ?_
    rw [rdI l0 i hb, w64 (by omega) (by omega), List.drop_eq_getElem_cons hb, gL]
    refine Ev.pos (by omega) (Ev.pos (by omega) (Ev.pos (by omega) ?_))
    by_cases hz : l0[i] = 0
    · have e := ih acc (i + 1) (by omega) (by omega)
      refine Ev.pos hz ?_
      rw [if_pos hz]
      exact_mod_cast e
    · have e := ih (acc ++ [gLine i l0[i]]) (i + 1) (by omega) (by simp; omega)
      have hn := numbers [(i : Int), l0[i]] (by simp) (fun x hx => by simp at hx; rcases hx with rfl | rfl <;> assumption)
      have hs := joined_size2 _ _ ii iv
      refine Ev.neg hz (Ev.bind hn (Ev.pos (by omega) (Ev.pos (by omega) ?_)))
      rw [pair_eq, if_neg hz, show acc ++ (gLine i l0[i] :: gL (l0.drop (i + 1)) (i + 1)) ++ bL l1 0 ++ [wLine a6] = acc ++ [gLine i l0[i]] ++ gL (l0.drop (i + 1)) (i + 1) ++ bL l1 0 ++ [wLine a6] by simp]
      exact_mod_cast e
def linesB (l0 : List Int) (l1 : List FB) (l2 l3 l4 l5 : List Bool) (a6 : Int) : List ByteArray × Int := if dataB l0 l1 l2 l3 l4 l5 a6 = true then (gL l0 0 ++ bL l1 0 ++ [wLine a6], 0) else ([], 1)
theorem dataB_parts {l0 : List Int} {l1 : List FB} {l2 l3 l4 l5 : List Bool} {a6 : Int} (h : dataB l0 l1 l2 l3 l4 l5 a6 = true) : l0.length = 16 ∧ l1.length ≤ 8 ∧ (∀ x ∈ l0, I64r x) ∧ (∀ x ∈ l1, fbX x = true) ∧ I64r a6 := by
  unfold dataB at h
  simp only [Bool.and_eq_true, decide_eq_true_eq, List.all_eq_true] at h
  obtain ⟨-, -, -, -, h0, h1, h6, hv, hx⟩ := h
  refine ⟨by omega, by omega, fun x hm => ?_, hx, ?_⟩
  · have := hv x hm
    unfold valX inB at this
    have := of_decide_eq_true this
    exact ⟨by omega, by omega⟩
  · unfold inB at h6
    have := of_decide_eq_true h6
    exact ⟨by omega, by omega⟩
theorem lines_spec (l0 : List Int) (l1 : List FB) (l2 l3 l4 l5 : List Bool) (a6 : Int) : Ev (fun k => spec_DataLines.f k l0 l1 l2 l3 l4 l5 a6) (linesB l0 l1 l2 l3 l4 l5 a6) := by
  unfold spec_DataLines.f linesB
  refine Ev.bind (data_spec l0 l1 l2 l3 l4 l5 a6) ?_
  cases hd : dataB l0 l1 l2 l3 l4 l5 a6 with
  | false => exact Ev.neg (by simp) (Ev.lit rfl)
  | true =>
    obtain ⟨h0, h1, hv, hx, i6⟩ := dataB_parts hd
    refine Ev.pos rfl (Ev.bind (a := gL l0 0 ++ bL l1 0 ++ [wLine a6]) ?_ (Ev.lit rfl))
    unfold spec_l13Data.f
    simpa using gl_spec l0 l1 l2 l3 l4 l5 a6 h0 hv h1 hx i6 16 [] 0 (by omega) (by simp)
theorem lines_impl (l0 : List Int) (l1 : List FB) (l2 l3 l4 l5 : List Bool) (a6 : Int) : Ev (fun k => impl_DataLines.f k l0 l1 l2 l3 l4 l5 a6) (linesB l0 l1 l2 l3 l4 l5 a6) := by
  unfold impl_DataLines.f linesB
  refine Ev.bind (data_impl l0 l1 l2 l3 l4 l5 a6) ?_
  cases hd : dataB l0 l1 l2 l3 l4 l5 a6 with
  | false => exact Ev.neg (by simp) (Ev.lit rfl)
  | true =>
    obtain ⟨h0, h1, hv, hx, i6⟩ := dataB_parts hd
    refine Ev.pos rfl ?_
    simpa using gl_impl l0 l1 l2 l3 l4 l5 a6 h0 hv h1 hx i6 16 [] 0 (by omega) (by simp)
theorem linesB_len (l0 : List Int) (l1 : List FB) (l2 l3 l4 l5 : List Bool) (a6 : Int) : (linesB l0 l1 l2 l3 l4 l5 a6).1.length ≤ 1048576 := by
  unfold linesB
  split
  · rename_i hd
    obtain ⟨h0, h1, -⟩ := dataB_parts hd
    have := gL_len l0 0
    have := bL_len l1 0
    simp
    omega
  · simp
theorem sz1 (n left : Int) (h : 0 ≤ n) (hn : n ≤ 9223372036854775807) (hl : 0 ≤ left ∧ left ≤ 1048576) : (if (wrap64 (left - n)) < 0 then (some (-1)) else (some (wrap64 (left - n)))) = some (if left < n then (-1 : Int) else left - n) := by
  rw [w64 (by omega) (by omega)]
  by_cases h2 : left < n
  · rw [if_pos (by omega), if_pos h2]
  · rw [if_neg (by omega), if_neg h2]
theorem FnExactDataLines : laws_FnExactDataLines.Pure := by
  rintro ⟨l0, l1, l2, l3, l4, l5, a6⟩ ⟨⟨m0, -⟩, ⟨m1, -⟩, ⟨m2, -⟩, ⟨m3, -⟩, ⟨m4, -⟩, ⟨m5, -⟩, h6⟩
  suffices h : Ev (fun k => laws_FnExactDataLines.f k l0 l1 l2 l3 l4 l5 a6) true by
    obtain ⟨K, h⟩ := h
    exact ⟨K, h K (Nat.le_refl K)⟩
  dsimp only at m0 m1 m2 m3 m4 m5 h6
  unfold maxLen at m0 m1 m2 m3 m4 m5
  have hsz : laws_szData.f l0 l1 l2 l3 l4 l5 a6 1048576 = some (if (l0.length : Int) + l1.length + l2.length + l3.length + l4.length + l5.length ≤ 1048576 then (1048576 - (l0.length : Int) - (l1.length : Int) - (l2.length : Int) - (l3.length : Int) - (l4.length : Int) - (l5.length : Int)) else (-1 : Int)) := by
    unfold laws_szData.f laws_szIntS.f laws_szFbS.f laws_szBoolS.f
    rw [sz1 _ _ (by omega) (by omega) (by omega)]
    simp only [Option.bind_some]
    by_cases q0 : (1048576 : Int) < l0.length
    · rw [if_pos q0, if_pos (by omega), if_neg (by omega)]
    rw [if_neg q0, if_neg (by omega), sz1 _ _ (by omega) (by omega) (by omega)]
    simp only [Option.bind_some]
    by_cases q1 : (1048576 : Int) - l0.length < l1.length
    · rw [if_pos q1, if_pos (by omega), if_neg (by omega)]
    rw [if_neg q1, if_neg (by omega), sz1 _ _ (by omega) (by omega) (by omega)]
    simp only [Option.bind_some]
    by_cases q2 : (1048576 : Int) - l0.length - l1.length < l2.length
    · rw [if_pos q2, if_pos (by omega), if_neg (by omega)]
    rw [if_neg q2, if_neg (by omega), sz1 _ _ (by omega) (by omega) (by omega)]
    simp only [Option.bind_some]
    by_cases q3 : (1048576 : Int) - l0.length - l1.length - l2.length < l3.length
    · rw [if_pos q3, if_pos (by omega), if_neg (by omega)]
    rw [if_neg q3, if_neg (by omega), sz1 _ _ (by omega) (by omega) (by omega)]
    simp only [Option.bind_some]
    by_cases q4 : (1048576 : Int) - l0.length - l1.length - l2.length - l3.length < l4.length
    · rw [if_pos q4, if_pos (by omega), if_neg (by omega)]
    rw [if_neg q4, if_neg (by omega), sz1 _ _ (by omega) (by omega) (by omega)]
    simp only [Option.bind_some]
    by_cases q5 : (1048576 : Int) - l0.length - l1.length - l2.length - l3.length - l4.length < l5.length
    · rw [if_pos q5, if_pos (by omega), if_neg (by omega)]
    rw [if_neg q5, if_neg (by omega), if_pos (by omega)]
  unfold laws_FnExactDataLines.f
  refine Ev.bindc hsz ?_
  by_cases hl : (l0.length : Int) + l1.length + l2.length + l3.length + l4.length + l5.length ≤ 1048576
  · rw [if_pos hl]
    refine Ev.neg (by omega) ?_
    have hm : (l1.map convF).length ≤ 1048576 := by rw [List.length_map]; omega
    have conv : Ev (fun k => laws_toData.f k l0 l1 l2 l3 l4 l5 a6) (l0, l1.map convF, l2, l3, l4, l5, a6) := by
      unfold laws_toData.f
      exact Ev.bind (toIntS l0 (by omega)) (Ev.bind (toFbS l1 (by omega)) (Ev.bind (toBoolS l2 (by omega)) (Ev.bind (toBoolS l3 (by omega)) (Ev.bind (toBoolS l4 (by omega)) (Ev.bind (toBoolS l5 (by omega)) (Ev.lit rfl))))))
    have hs := linesB_len l0 (l1.map convF) l2 l3 l4 l5 a6
    have es := lines_spec l0 (l1.map convF) l2 l3 l4 l5 a6
    have ei := lines_impl l0 (l1.map convF) l2 l3 l4 l5 a6
    refine Ev.bind conv (Ev.bind es (Ev.bind conv (Ev.bind ei (Ev.bind (eqS _ hs) (Ev.pos rfl ?_)))))
    refine Ev.step (fun k => by simp only [laws_FnExactDataLines.j0]; rfl) ?_
    have eqd : Ev (fun k => laws_eqData.f k l0 (l1.map convF) l2 l3 l4 l5 a6 l0 (l1.map convF) l2 l3 l4 l5 a6) true := by
      unfold laws_eqData.f
      exact Ev.bind (eqI l0 (by omega)) (Ev.pos rfl (Ev.bind (eqF _ hm) (Ev.pos rfl (Ev.bind (eqB l2 (by omega)) (Ev.pos rfl (Ev.bind (eqB l3 (by omega)) (Ev.pos rfl (Ev.bind (eqB l4 (by omega)) (Ev.pos rfl (Ev.bind (eqB l5 (by omega)) (Ev.pos rfl (Ev.pos rfl (Ev.lit rfl)))))))))))))
    refine Ev.neg (by simp) (Ev.bind conv (Ev.bind eqd (Ev.pos rfl ?_)))
    obtain ⟨m, em, hm1⟩ := markData l0 (l1.map convF) l2 l3 l4 l5 a6 (by omega) hm (by omega) (by omega) (by omega) (by omega)
    refine Ev.bind em (Ev.neg (by omega) (Ev.bind (eqS _ hs) (Ev.pos rfl ?_)))
    refine Ev.step (fun k => by simp only [laws_FnExactDataLines.j1]; rfl) ?_
    refine Ev.neg (by simp) (Ev.bind (markS _ hs) (Ev.bind (heldS _ hs) (Ev.neg (by omega) (Ev.pos rfl ?_))))
    refine Ev.bind conv (Ev.bind ei (Ev.bind (eqS _ hs) (Ev.pos rfl ?_)))
    refine Ev.step (fun k => by simp only [laws_FnExactDataLines.j2]; rfl) ?_
    exact Ev.neg (by simp) (Ev.bind (heldS _ hs) (Ev.neg (by omega) (Ev.pos rfl (Ev.lit rfl))))
  · rw [if_neg hl]
    exact Ev.pos (by omega) (Ev.lit rfl)
end Go.Proofs.YtppfcmkadcoboaaDoor.Pu
