/- The law FnExactInOrder over lists and numbers: the program's one pass with a map answers as the reference's two loops. -/
import Derived.Test.YtkeoifkdejnpfaaGx0
import Derived.Test.YtkeoifkdejnpfaaGx2
import Derived.Test.YtkeoifkdejnpfaaGx3
import Derived.Test.YtkeoifkdejnpfaaGx4
import Derived.Test.YtkeoifkdejnpfaaGvP
import Derived.Test.YtkeoifkdejnpfaaStFnExactInOrder
set_option linter.unusedVariables false
set_option linter.unusedSimpArgs false
namespace Go.Proofs.Ytkeoifkdejnpfaa.Pu
open Go.RowKit Go.Proofs.Ytkeoifkdejnpfaa.G Go.Proofs.Ytkeoifkdejnpfaa.GivenP Go.Proofs.YtkeoifkdejnpfaaW.PrintWords Go.Proofs.YtkeoifkdejnpfaaW.PrintLast Go.Proofs.YtkeoifkdejnpfaaW.PrintMore

def convD (d : S43) : S41 := ⟨d.f0, d.f1, d.f2, d.f3⟩
theorem toDoneS_loop (l : List S43) (hl : l.length ≤ 1048576) (d : Nat) : ∀ (acc : List S41) (i : Nat), i + d = l.length → acc.length = l.length → acc.take i = (l.take i).map convD → Ev (fun k => laws_toDoneS.l0 k l acc (i : Int)) (l.map convD) := by
  induction d with
  | zero =>
    intro acc i hi ha ht
    refine Ev.step (fun k => by simp only [laws_toDoneS.l0]; rfl) ?_
    refine Ev.neg (by omega) (Ev.lit ?_)
    rw [show i = l.length from by omega, List.take_length, ← ha, List.take_length] at ht
    rw [ht]
  | succ d ih =>
    intro acc i hi ha ht
    refine Ev.step (fun k => by simp only [laws_toDoneS.l0]; rfl) ?_
    refine Ev.pos (by omega) (Ev.pos (by omega) (Ev.bindc (a := (convD (rd_T43 l i)).casesOn (fun a b c e => (a, b, c, e))) rfl (Ev.pos (by omega) ?_)))
    rw [w64 (by omega) (by omega)]
    have h := ih (acc.set i (convD (rd_T43 l i))) (i + 1) (by omega) (by simp [ha]) ?_
    · exact_mod_cast h
    · rw [List.take_succ_eq_append_getElem (by simp; omega), List.take_succ_eq_append_getElem (by omega), List.map_append, List.take_set_of_le (by omega), ht]
      simp [rd_T43, List.getD_eq_getElem?_getD, List.getElem?_eq_getElem (show i < l.length by omega)]
theorem toDoneS (l : List S43) (hl : l.length ≤ 1048576) : Ev (fun k => laws_toDoneS.f k l) (l.map convD) := by
  unfold laws_toDoneS.f
  refine Ev.pos (by omega) (Ev.pos (by omega) ?_)
  exact toDoneS_loop l hl l.length _ 0 (by omega) (by simp) (by simp)
theorem rd61 (l : List S41) (i : Nat) (h : i < l.length) : rd_T41 l (i : Int) = l[i] := by
  simp [rd_T41, List.getD_eq_getElem?_getD, List.getElem?_eq_getElem h]
theorem eqD_loop (l : List S41) (hl : l.length ≤ 1048576) (d : Nat) : ∀ (i : Nat), i + d = l.length → Ev (fun k => laws_eqDoneS.l0 k l l (i : Int)) true := by
  induction d with
  | zero =>
    intro i hi
    refine Ev.step (fun k => by simp only [laws_eqDoneS.l0]; rfl) ?_
    exact Ev.neg (by omega) (Ev.lit rfl)
  | succ d ih =>
    intro i hi
    refine Ev.step (fun k => by simp only [laws_eqDoneS.l0]; rfl) ?_
    refine Ev.pos (by omega) (Ev.pos (by omega) (Ev.pos (by omega) (Ev.bindc (a := true) (by simp [laws_eqDone.f]) (Ev.pos rfl ?_))))
    rw [w64 (by omega) (by omega)]
    exact_mod_cast ih (i + 1) (by omega)
theorem eqD (l : List S41) (hl : l.length ≤ 1048576) : Ev (fun k => laws_eqDoneS.f k l l) true := by
  unfold laws_eqDoneS.f
  exact Ev.pos rfl (eqD_loop l hl l.length 0 (by omega))
theorem inner_pass (l : List S41) (hl : l.length ≤ 1048576) (i : Nat) (hi : i < l.length) (r : Bool × Int) (hr : Ev (fun k => spec_InOrder.l0 k l ((i + 1 : Nat) : Int)) r) (d : Nat) : ∀ (j : Nat), j + d = i → (∀ q : Nat, j ≤ q → q < i → (rd_T41 l (q : Int)).f0 = (rd_T41 l (i : Int)).f0 → (rd_T41 l (q : Int)).f1 < (rd_T41 l (i : Int)).f1) → Ev (fun k => spec_InOrder.l1 k l (i : Int) (j : Int)) r := by
  induction d with
  | zero =>
    intro j hj _
    refine Ev.step (fun k => by simp only [spec_InOrder.l1]; rfl) ?_
    rw [w64 (x := (i : Int) + 1) (by omega) (by omega)]
    exact Ev.neg (by omega) (by exact_mod_cast hr)
  | succ d ih =>
    intro j hj hq
    refine Ev.step (fun k => by simp only [spec_InOrder.l1]; rfl) ?_
    have hn := ih (j + 1) (by omega) (fun q h1 h2 => hq q (by omega) h2)
    rw [w64 (x := (j : Int) + 1) (by omega) (by omega)]
    refine Ev.pos (by omega) (Ev.pos (by omega) (Ev.pos (by omega) (Ev.pos (by omega) (Ev.pos (by omega) ?_))))
    by_cases hs : (rd_T41 l (j : Int)).f0 = (rd_T41 l (i : Int)).f0
    · refine Ev.pos hs (Ev.neg (by have := hq j (Nat.le_refl _) (by omega) hs; omega) ?_)
      exact_mod_cast hn
    · refine Ev.neg hs ?_
      exact_mod_cast hn
theorem inner_fail (l : List S41) (hl : l.length ≤ 1048576) (i : Nat) (hi : i < l.length) (q : Nat) (hqi : q < i) (hq0 : (rd_T41 l (q : Int)).f0 = (rd_T41 l (i : Int)).f0) (hq1 : (rd_T41 l (q : Int)).f1 ≥ (rd_T41 l (i : Int)).f1) (d : Nat) : ∀ (j : Nat), j + d = q → Ev (fun k => spec_InOrder.l1 k l (i : Int) (j : Int)) (false, 0) := by
  induction d with
  | zero =>
    intro j hj
    obtain rfl : j = q := by omega
    refine Ev.step (fun k => by simp only [spec_InOrder.l1]; rfl) ?_
    exact Ev.pos (by omega) (Ev.pos (by omega) (Ev.pos (by omega) (Ev.pos (by omega) (Ev.pos (by omega) (Ev.pos hq0 (Ev.pos hq1 (Ev.lit rfl)))))))
  | succ d ih =>
    intro j hj
    refine Ev.step (fun k => by simp only [spec_InOrder.l1]; rfl) ?_
    have hn := ih (j + 1) (by omega)
    rw [w64 (x := (j : Int) + 1) (by omega) (by omega)]
    refine Ev.pos (by omega) (Ev.pos (by omega) (Ev.pos (by omega) (Ev.pos (by omega) (Ev.pos (by omega) ?_))))
    by_cases hs : (rd_T41 l (j : Int)).f0 = (rd_T41 l (i : Int)).f0
    · by_cases hg : (rd_T41 l (j : Int)).f1 ≥ (rd_T41 l (i : Int)).f1
      · exact Ev.pos hs (Ev.pos hg (Ev.lit rfl))
      · exact Ev.pos hs (Ev.neg hg (by exact_mod_cast hn))
    · exact Ev.neg hs (by exact_mod_cast hn)
/-- m is the map behind the first i elements. -/
def Inv (l : List S41) (i : Nat) (m : Int → Option Int) : Prop :=
  ∀ x : Int, (m x = none → ∀ j : Nat, j < i → (rd_T41 l (j : Int)).f0 ≠ x) ∧ ∀ v, m x = some v → (∃ j : Nat, j < i ∧ (rd_T41 l (j : Int)).f0 = x ∧ (rd_T41 l (j : Int)).f1 = v) ∧ ∀ j : Nat, j < i → (rd_T41 l (j : Int)).f0 = x → (rd_T41 l (j : Int)).f1 ≤ v
theorem Inv.step {l : List S41} {i : Nat} {m : Int → Option Int} (h : Inv l i m) (hle : ∀ j : Nat, j < i → (rd_T41 l (j : Int)).f0 = (rd_T41 l (i : Int)).f0 → (rd_T41 l (j : Int)).f1 < (rd_T41 l (i : Int)).f1) : Inv l (i + 1) (impl_InOrder.upd m (rd_T41 l (i : Int)).f0 (rd_T41 l (i : Int)).f1) := by
  intro x
  unfold impl_InOrder.upd
  by_cases hx : x = (rd_T41 l (i : Int)).f0
  · rw [if_pos hx]
    refine ⟨fun q => (by cases q), fun v hv => ?_⟩
    obtain rfl := Option.some.inj hv
    refine ⟨⟨i, by omega, hx.symm, rfl⟩, fun j hj h0 => ?_⟩
    by_cases hji : j = i
    · subst hji; exact Int.le_refl _
    · have := hle j (by omega) (h0.trans hx); omega
  · rw [if_neg hx]
    refine ⟨fun q j hj => ?_, fun v hv => ?_⟩
    · by_cases hji : j = i
      · subst hji; exact fun e => hx e.symm
      · exact (h x).1 q j (by omega)
    · obtain ⟨⟨j, hj, h0, h1⟩, h2⟩ := (h x).2 v hv
      refine ⟨⟨j, by omega, h0, h1⟩, fun j' hj' h0' => ?_⟩
      by_cases hji : j' = i
      · subst hji; exact absurd h0'.symm hx
      · exact h2 j' (by omega) h0'
theorem outer (l : List S41) (hl : l.length ≤ 1048576) (d : Nat) : ∀ (i : Nat) (m : Int → Option Int), i + d = l.length → Inv l i m → Ev (fun k => spec_InOrder.l0 k l (i : Int)) (impl_InOrder.go (l.drop i) m, 0) := by
  induction d with
  | zero =>
    intro i m hi hm
    rw [List.drop_eq_nil_of_le (by omega)]
    refine Ev.step (fun k => by simp only [spec_InOrder.l0]; rfl) ?_
    exact Ev.neg (by omega) (Ev.lit rfl)
  | succ d ih =>
    intro i m hi hm
    have hb : i < l.length := by omega
    refine Ev.step (fun k => by simp only [spec_InOrder.l0]; rfl) (Ev.pos (by omega) ?_)
    rw [List.drop_eq_getElem_cons hb, ← rd61 l i hb, impl_InOrder.go]
    cases hv : m (rd_T41 l (i : Int)).f0 with
    | none =>
      have hno := (hm _).1 hv
      have hs := hm.step (fun j hj h0 => absurd h0 (hno j hj))
      exact inner_pass l hl i hb _ (ih (i + 1) _ (by omega) hs) i 0 (by omega) (fun q _ hq h0 => absurd h0 (hno q hq))
    | some old =>
      obtain ⟨⟨q, hq, h0, h1⟩, h2⟩ := (hm _).2 old hv
      by_cases hle : (rd_T41 l (i : Int)).f1 ≤ old
      · simp only [hle, if_true]
        exact inner_fail l hl i hb q hq h0 (by omega) q 0 (by omega)
      · simp only [hle, if_false]
        have hall : ∀ j : Nat, j < i → (rd_T41 l (j : Int)).f0 = (rd_T41 l (i : Int)).f0 → (rd_T41 l (j : Int)).f1 < (rd_T41 l (i : Int)).f1 := fun j hj h3 => by have := h2 j hj h3; omega
        exact inner_pass l hl i hb _ (ih (i + 1) _ (by omega) (hm.step hall)) i 0 (by omega) (fun q _ hq h0 => hall q hq h0)
theorem FnExactInOrder : laws_FnExactInOrder.Pure := by
  rintro l ⟨hmax, hw⟩
  suffices h : Ev (fun k => laws_FnExactInOrder.f k l) true by
    obtain ⟨K, h⟩ := h
    exact ⟨K, h K (Nat.le_refl K)⟩
  unfold laws_FnExactInOrder.f
  by_cases hl : l.length ≤ 1048576
  · have hm : (l.map convD).length ≤ 1048576 := by simpa using hl
    have conv := toDoneS l hl
    have hok : impl_InOrder.ok (l.map convD) = true := by
      unfold impl_InOrder.ok
      rw [List.all_eq_true]
      intro x hx
      obtain ⟨y, hy, rfl⟩ := List.mem_map.mp hx
      obtain ⟨a, b, -, -⟩ := hw y hy
      rw [Bool.and_eq_true]
      exact ⟨a, b⟩
    refine Ev.bindc (a := 1048576 - (l.length : Int)) ?_ (Ev.neg (by omega) ?_)
    · unfold laws_szDoneS.f
      rw [w64 (by omega) (by omega), if_neg (by omega)]
    have both : ∃ v, Ev (fun k => spec_InOrder.f k (l.map convD)) v ∧ impl_InOrder.f (l.map convD) = some v := by
      unfold spec_InOrder.f impl_InOrder.f
      by_cases hbig : ((l.map convD).length : Int) > 4096
      · exact ⟨(false, 2), Ev.pos hbig (Ev.lit rfl), if_pos hbig⟩
      · refine ⟨(impl_InOrder.go (l.map convD) (fun _ => none), 0), Ev.neg hbig ?_, by rw [if_neg hbig, if_pos hok]⟩
        have := outer (l.map convD) hm (l.map convD).length 0 (fun _ => none) (by omega) (fun x => ⟨fun _ j hj => by omega, fun v hv => by cases hv⟩)
        simpa using this
    obtain ⟨v, v1, v2⟩ := both
    refine Ev.bind conv (Ev.bind v1 (Ev.bind conv (Ev.bindc v2 (Ev.neg (by simp) ?_))))
    refine Ev.step (fun k => by simp only [laws_FnExactInOrder.j0]; rfl) ?_
    exact Ev.neg (by simp) (Ev.bind conv (Ev.bind (eqD _ hm) (Ev.pos rfl (Ev.lit rfl))))
  · unfold maxLen at hmax
    refine Ev.bindc (a := -1) ?_ (Ev.pos (by omega) (Ev.lit rfl))
    unfold laws_szDoneS.f
    rw [w64 (by omega) (by omega), if_pos (by omega)]
end Go.Proofs.Ytkeoifkdejnpfaa.Pu
