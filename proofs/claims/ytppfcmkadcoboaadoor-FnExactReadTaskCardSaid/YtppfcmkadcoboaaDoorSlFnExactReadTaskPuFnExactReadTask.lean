/- The law FnExactReadTask over plain values: the task that the program reads from a text is the reference's. -/
import Derived.Test.YtppfcmkadcoboaaDoorSlFnExactReadTaskRx0
import Derived.Test.YtppfcmkadcoboaaDoorSlFnExactReadTaskRx1
import Derived.Test.YtppfcmkadcoboaaDoorSlFnExactReadTaskRx4
import Derived.Test.YtppfcmkadcoboaaDoorSlFnExactReadTaskRx5
import Derived.Test.YtppfcmkadcoboaaDoorSlFnExactReadTaskRx7
import Derived.Test.YtppfcmkadcoboaaDoorSlFnExactReadTaskRx8
import Derived.Test.YtppfcmkadcoboaaDoorSlFnExactReadTaskGvP
import Derived.Test.YtppfcmkadcoboaaDoorSlFnExactReadTaskPuTask
import Derived.Test.YtppfcmkadcoboaaDoorSlFnExactReadTaskPuReadDec
import Derived.Test.YtppfcmkadcoboaaDoorSlFnExactReadTaskStFnExactReadTask
set_option linter.unusedVariables false
set_option linter.unusedSimpArgs false
namespace Go.Proofs.YtppfcmkadcoboaaDoor.Pu
open Go.RowKit Go.Proofs.YtppfcmkadcoboaaDoor.R Go.Proofs.YtppfcmkadcoboaaDoor.GivenP Go.Proofs.YtppfcmkadcoboaaDoorW.PrintWords Go.Proofs.YtppfcmkadcoboaaDoorW.PrintLast Go.Proofs.YtppfcmkadcoboaaDoorW.PrintMore

def okw (w : ByteArray) : Bool := (numL w.data.toList).2
def valw (w : ByteArray) : Int := (numL w.data.toList).1
abbrev T7 := Int × Int × Int × Int × Int × Int × Bool
def zT : T7 := (0, 0, 0, 0, 0, 0, false)
def cyc : List UInt8 := [99, 121, 99, 108, 105, 99]
def evt : List UInt8 := [101, 118, 101, 110, 116]
def pickT (w : List UInt8) (n : List Int) : T7 :=
  if w = cyc ∧ n.length = 3 then (1, rd n 0, rd n 1, 0, 1, rd n 2, taskB 1 (rd n 0) (rd n 1) 0 1 (rd n 2))
  else if w = evt ∧ n.length = 5 then (2, rd n 0, rd n 1, rd n 2, rd n 3, rd n 4, taskB 2 (rd n 0) (rd n 1) (rd n 2) (rd n 3) (rd n 4)) else zT
def readT : List ByteArray → T7
  | [] => zT
  | w :: tl => if tl.all okw = true then pickT w.toList (tl.map valw) else zT
theorem dec_w (w : ByteArray) (h : w.size ≤ 1048576) : ∃ v, impl_readDecimal.f w = some (v, okw w) ∧ (okw w = true → v = valw w) := by
  have hn := num_impl w.data.toList
  rw [mk_list] at hn
  refine ⟨(impl_readDecimal.g w).1, ?_, fun ho => hn.2 ho⟩
  unfold impl_readDecimal.f okw
  rw [if_pos h, ← hn.1]
theorem rdOf_get (l : List ByteArray) (i : Nat) (h : i < l.length) : rdOf ByteArray.empty l (i : Int) = l[i] := by
  simp [rdOf, List.getD_eq_getElem?_getD, List.getElem?_eq_getElem h]
theorem impl_fin (w : ByteArray) (tl : List ByteArray) (n : List Int) : Ev (fun k => impl_readTask.j1 k (w :: tl) n (decide (w.toList = cyc) && ((n.length : Int) == 3)) 0 0 0 0 0 0) (pickT w.toList n) := by
  have hz : taskB 0 0 0 0 0 0 = false := by decide
  refine Ev.step (fun k => by simp only [impl_readTask.j1]; rfl) ?_
  have hr : rdOf ByteArray.empty (w :: tl) 0 = w := rdOf_get (w :: tl) 0 (by simp)
  have h0 : 0 < ((w :: tl).length : Int) := by simp
  by_cases h1 : w.toList = cyc ∧ n.length = 3
  · refine Ev.pos (by rw [decide_eq_true h1.1]; simp; omega) (Ev.pos (by omega) (Ev.pos (by omega) (Ev.pos (by omega) ?_)))
    unfold pickT
    rw [if_pos h1]
    exact Ev.bind (task_impl _ _ _ _ _ _) (Ev.lit rfl)
  · refine Ev.neg (by
      intro e
      simp only [Bool.and_eq_true, decide_eq_true_eq, beq_iff_eq] at e
      exact h1 ⟨e.1, by omega⟩) (Ev.pos h0 ?_)
    rw [hr]
    unfold pickT
    rw [if_neg h1]
    by_cases h2 : w.toList = evt
    · refine Ev.pos h2 ?_
      by_cases h3 : n.length = 5
      · rw [if_pos ⟨h2, h3⟩]
        refine Ev.pos (by omega) (Ev.pos (by omega) (Ev.pos (by omega) (Ev.pos (by omega) (Ev.pos (by omega) (Ev.pos (by omega) ?_)))))
        exact Ev.bind (task_impl _ _ _ _ _ _) (Ev.lit rfl)
      · rw [if_neg (fun e => h3 e.2)]
        exact Ev.neg (by omega) (Ev.bind (task_impl _ _ _ _ _ _) (Ev.lit (by rw [hz]; rfl)))
    · rw [if_neg (fun e => h2 e.1)]
      exact Ev.neg h2 (Ev.bind (task_impl _ _ _ _ _ _) (Ev.lit (by rw [hz]; rfl)))
theorem impl_loop (w : ByteArray) (tl : List ByteArray) (hl : tl.length ≤ 1048577) (hs : ∀ x ∈ tl, x.size ≤ 1048576) (d : Nat) : ∀ (acc : List Int) (i : Nat), i + d = tl.length → acc = (tl.take i).map valw → (tl.take i).all okw = true →
    Ev (fun k => impl_readTask.l0 k (w :: tl) acc tl (tl.length : Int) (i : Int)) (readT (w :: tl)) := by
  induction d with
  | zero =>
    intro acc i hi ha ho
    have e : i = tl.length := by omega
    subst e
    rw [List.take_length] at ha ho
    refine Ev.step (fun k => by simp only [impl_readTask.l0]; rfl) (Ev.neg (by omega) (Ev.pos (by simp) ?_))
    have hr : rdOf ByteArray.empty (w :: tl) 0 = w := rdOf_get (w :: tl) 0 (by simp)
    have hf := impl_fin w tl acc
    simp only [readT]
    rw [if_pos ho, ← ha, hr]
    by_cases h : w.toList = cyc
    · refine Ev.pos h ?_
      rw [decide_eq_true h, Bool.true_and] at hf
      exact hf
    · refine Ev.neg h ?_
      rw [decide_eq_false h, Bool.false_and] at hf
      exact hf
  | succ d ih =>
    intro acc i hi ha ho
    have hil : i < tl.length := by omega
    refine Ev.step (fun k => by simp only [impl_readTask.l0]; rfl) (Ev.pos (by omega) (Ev.pos (by omega) (Ev.pos (by omega) ?_)))
    rw [rdOf_get tl i hil]
    obtain ⟨v, e, hv⟩ := dec_w tl[i] (hs _ (List.getElem_mem hil))
    refine Ev.bindc e ?_
    have htk : tl.take (i + 1) = tl.take i ++ [tl[i]] := List.take_succ_eq_append_getElem hil
    by_cases hk : okw tl[i] = true
    · refine Ev.pos hk (Ev.pos (by rw [ha, List.length_map, List.length_take]; omega) ?_)
      rw [show wrap64 ((i : Int) + 1) = ((i + 1 : Nat) : Int) by rw [w64 (by omega) (by omega)]; omega]
      exact ih _ (i + 1) (by omega) (by rw [htk, ha, List.map_append, hv hk]; rfl) (by rw [htk, List.all_append, ho]; simpa using hk)
    · refine Ev.neg hk (Ev.lit ?_)
      simp only [readT]
      rw [if_neg]
      · rfl
      · intro h
        exact hk (List.all_eq_true.mp h _ (List.getElem_mem hil))
theorem impl_read (W : List ByteArray) (hl : W.length ≤ 1048577) (hs : ∀ x ∈ W, x.size ≤ 1048576) : Ev (fun k => impl_readTask.f k W) (readT W) := by
  unfold impl_readTask.f
  cases W with
  | nil => exact Ev.pos (by simp) (Ev.lit rfl)
  | cons w tl =>
    refine Ev.neg (by simp; omega) (Ev.pos (by simp; omega) ?_)
    simp only [List.drop_succ_cons, List.drop_zero]
    exact impl_loop w tl (by simp at hl; omega) (fun x hx => hs x (List.mem_cons_of_mem _ hx)) tl.length [] 0 (by omega) rfl rfl
theorem place (w : ByteArray) : Ev (fun k => spec_l02Place.f k ([(⟨#[99, 121, 99, 108, 105, 99]⟩ : ByteArray), (⟨#[101, 118, 101, 110, 116]⟩ : ByteArray)] : List ByteArray) w) (if w.toList = cyc then 0 else if w.toList = evt then 1 else -1) := by
  unfold spec_l02Place.f
  have hc : (rdOf ByteArray.empty ([(⟨#[99, 121, 99, 108, 105, 99]⟩ : ByteArray), (⟨#[101, 118, 101, 110, 116]⟩ : ByteArray)] : List ByteArray) 0).toList = cyc := mk_toL cyc
  have he : (rdOf ByteArray.empty ([(⟨#[99, 121, 99, 108, 105, 99]⟩ : ByteArray), (⟨#[101, 118, 101, 110, 116]⟩ : ByteArray)] : List ByteArray) 1).toList = evt := mk_toL evt
  refine Ev.step (fun k => by simp only [spec_l02Place.l0]; rfl) (Ev.pos (by decide) (Ev.pos (by decide) ?_))
  rw [hc]
  by_cases h : w.toList = cyc
  · rw [if_pos h]
    exact Ev.pos h.symm (Ev.lit rfl)
  · rw [if_neg h]
    refine Ev.neg (fun e => h e.symm) ?_
    rw [show wrap64 ((0 : Int) + 1) = 1 by unfold wrap64; omega]
    refine Ev.step (fun k => by simp only [spec_l02Place.l0]; rfl) (Ev.pos (by decide) (Ev.pos (by decide) ?_))
    rw [he]
    by_cases h2 : w.toList = evt
    · rw [if_pos h2]
      exact Ev.pos h2.symm (Ev.lit rfl)
    · rw [if_neg h2]
      refine Ev.neg (fun e => h2 e.symm) ?_
      rw [show wrap64 ((1 : Int) + 1) = 2 by unfold wrap64; omega]
      exact Ev.step (fun k => by simp only [spec_l02Place.l0]; rfl) (Ev.neg (by decide) (Ev.lit rfl))
theorem spec_loop (w : ByteArray) (tl : List ByteArray) (kind : Int) (hk : (kind = 1 ∧ w.toList = cyc ∧ tl.length = 3) ∨ (kind = 2 ∧ w.toList = evt ∧ tl.length = 5)) (d : Nat) : ∀ (acc : List Int) (i : Nat), i + d = tl.length → acc = (tl.take i).map valw → (tl.take i).all okw = true →
    Ev (fun k => spec_l13Read.l0 k (w :: tl) acc ((i + 1 : Nat) : Int) kind 0 0 0 1 0) (readT (w :: tl)) := by
  induction d with
  | zero =>
    intro acc i hi ha ho
    have e : i = tl.length := by omega
    subst e
    rw [List.take_length] at ha ho
    have hal : acc.length = tl.length := by rw [ha, List.length_map]
    refine Ev.step (fun k => by simp only [spec_l13Read.l0]; rfl) (Ev.neg (by simp) ?_)
    simp only [readT]
    rw [if_pos ho, ← ha]
    unfold pickT
    rcases hk with ⟨hk, hw, h3⟩ | ⟨hk, hw, h5⟩
    · subst hk
      have hw2 : wrap64 ((acc.length : Int) - 1) = 2 := by rw [w64 (by omega) (by omega)]; omega
      rw [if_pos ⟨hw, by omega⟩, hw2]
      refine Ev.pos (by omega) (Ev.pos (by omega) (Ev.pos (by omega) (Ev.pos (by omega) (Ev.neg (by decide) ?_))))
      exact Ev.bind (task_spec _ _ _ _ _ _) (Ev.lit rfl)
    · subst hk
      have hw2 : wrap64 ((acc.length : Int) - 1) = 4 := by rw [w64 (by omega) (by omega)]; omega
      have hne : ¬ (w.toList = cyc ∧ acc.length = 3) := fun e => by omega
      rw [if_neg hne, if_pos ⟨hw, by omega⟩, hw2]
      refine Ev.pos (by omega) (Ev.pos (by omega) (Ev.pos (by omega) (Ev.pos (by omega) (Ev.pos rfl (Ev.pos (by omega) (Ev.pos (by omega) ?_))))))
      exact Ev.bind (task_spec _ _ _ _ _ _) (Ev.lit rfl)
  | succ d ih =>
    intro acc i hi ha ho
    have hil : i < tl.length := by omega
    have hl5 : tl.length ≤ 5 := by omega
    refine Ev.step (fun k => by simp only [spec_l13Read.l0]; rfl) (Ev.pos (by simp; omega) (Ev.pos (by omega) ?_))
    have hr : rdOf ByteArray.empty (w :: tl) ((i + 1 : Nat) : Int) = tl[i] := rdOf_get (w :: tl) (i + 1) (by simp; omega)
    rw [hr]
    refine Ev.bind (num_spec tl[i]) ?_
    have htk : tl.take (i + 1) = tl.take i ++ [tl[i]] := List.take_succ_eq_append_getElem hil
    by_cases hk : okw tl[i] = true
    · refine Ev.pos hk (Ev.pos (by rw [ha, List.length_map, List.length_take]; omega) ?_)
      rw [show wrap64 (((i + 1 : Nat) : Int) + 1) = ((i + 1 + 1 : Nat) : Int) by rw [w64 (by omega) (by omega)]; omega]
      exact ih _ (i + 1) (by omega) (by rw [htk, ha, List.map_append]; rfl) (by rw [htk, List.all_append, ho]; simpa using hk)
    · refine Ev.neg hk (Ev.lit ?_)
      simp only [readT]
      rw [if_neg]
      · rfl
      · intro h
        exact hk (List.all_eq_true.mp h _ (List.getElem_mem hil))
theorem spec_read (W : List ByteArray) (hl : W.length ≤ 1048577) : Ev (fun k => spec_l13Read.f k W) (readT W) := by
  unfold spec_l13Read.f
  cases W with
  | nil => exact Ev.pos (by simp) (Ev.lit rfl)
  | cons w tl =>
    have hlen : ((w :: tl).length : Int) = (tl.length : Int) + 1 := by simp
    simp only [List.length_cons] at hl
    refine Ev.neg (by rw [hlen]; omega) (Ev.pos (by rw [hlen]; omega) ?_)
    have hr : rdOf ByteArray.empty (w :: tl) 0 = w := rdOf_get (w :: tl) 0 (by simp)
    rw [hr]
    refine Ev.bind (place w) ?_
    have out : ∀ (a b c d e f : Int), Ev (fun k => spec_l13Read.j0 k (w :: tl) true a b c d e f) zT := fun a b c d e f => Ev.step (fun k => by simp only [spec_l13Read.j0]; rfl) (Ev.pos (c := true = true) rfl (Ev.lit rfl))
    have inn : ∀ kind : Int, ((kind = 1 ∧ w.toList = cyc ∧ tl.length = 3) ∨ (kind = 2 ∧ w.toList = evt ∧ tl.length = 5)) → Ev (fun k => spec_l13Read.j0 k (w :: tl) false kind 0 0 0 1 0) (readT (w :: tl)) := fun kind hk =>
      Ev.step (fun k => by simp only [spec_l13Read.j0]; rfl) (Ev.neg (c := false = true) (by decide) (spec_loop w tl kind hk tl.length [] 0 (by omega) rfl rfl))
    have non : ¬ (w.toList = cyc ∧ tl.length = 3) → ¬ (w.toList = evt ∧ tl.length = 5) → readT (w :: tl) = zT := fun h1 h2 => by
      simp only [readT, pickT, List.length_map]
      rw [if_neg h1, if_neg h2]
      split <;> rfl
    have hce : cyc ≠ evt := by decide
    by_cases h1 : w.toList = cyc
    · rw [if_pos h1]
      refine Ev.neg (by unfold wrap64; omega) ?_
      rw [show wrap64 ((0 : Int) + 1) = 1 by unfold wrap64; omega, show wrap64 (2 + wrap64 (2 * (1 : Int))) = 4 by unfold wrap64; omega]
      by_cases h3 : tl.length = 3
      · rw [show (((w :: tl).length : Int) != 4) = false by rw [hlen, h3]; rfl]
        exact inn 1 (.inl ⟨rfl, h1, h3⟩)
      · rw [show (((w :: tl).length : Int) != 4) = true by rw [hlen]; exact bne_iff_ne.mpr (by omega), non (fun e => h3 e.2) (fun e => hce (h1.symm.trans e.1))]
        exact out _ _ _ _ _ _
    · rw [if_neg h1]
      by_cases h2 : w.toList = evt
      · rw [if_pos h2]
        refine Ev.neg (by unfold wrap64; omega) ?_
        rw [show wrap64 ((1 : Int) + 1) = 2 by unfold wrap64; omega, show wrap64 (2 + wrap64 (2 * (2 : Int))) = 6 by unfold wrap64; omega]
        by_cases h5 : tl.length = 5
        · rw [show (((w :: tl).length : Int) != 6) = false by rw [hlen, h5]; rfl]
          exact inn 2 (.inr ⟨rfl, h2, h5⟩)
        · rw [show (((w :: tl).length : Int) != 6) = true by rw [hlen]; exact bne_iff_ne.mpr (by omega), non (fun e => h1 e.1) (fun e => h5 e.2)]
          exact out _ _ _ _ _ _
      · rw [if_neg h2, non (fun e => h1 e.1) (fun e => h2 e.1)]
        exact Ev.pos (by unfold wrap64; omega) (out _ _ _ _ _ _)
theorem parts_sizes : ∀ l : List UInt8, (partsL l).length ≤ l.length + 1 ∧ ∀ p ∈ partsL l, p.length ≤ l.length
  | [] => by simp [partsL]
  | c :: r => by
    obtain ⟨h1, h2⟩ := parts_sizes r
    unfold partsL
    split
    · refine ⟨by simp; omega, fun p hp => ?_⟩
      rcases List.mem_cons.mp hp with e | e
      · subst e; simp
      · have := h2 p e; simp; omega
    · cases hp : partsL r with
      | nil => exact absurd hp (parts_ne r)
      | cons p ps =>
        rw [hp] at h1 h2
        refine ⟨by simp at h1 ⊢; omega, fun q hq => ?_⟩
        rcases List.mem_cons.mp hq with e | e
        · subst e
          have := h2 p List.mem_cons_self
          simp; omega
        · have := h2 q (List.mem_cons_of_mem _ e)
          simp; omega
theorem FnExactReadTask : laws_FnExactReadTask.Pure := by
  intro x0 hx
  suffices h : Ev (fun k => laws_FnExactReadTask.f k x0) true by
    obtain ⟨K, hK⟩ := h
    exact ⟨K, hK K (Nat.le_refl K)⟩
  unfold laws_FnExactReadTask.f
  by_cases hb : (x0.size : Int) > 1048576
  · exact Ev.pos hb (Ev.lit rfl)
  refine Ev.neg hb ?_
  have hz : x0.size ≤ 1048576 := by omega
  obtain ⟨R, hs, hi⟩ : ∃ R : Int × Int × Int × Int × Int × Int × Int, Ev (fun k => spec_ReadTask.f k x0) R ∧ Ev (fun k => impl_ReadTask.f k x0) R := by
    have hlong : impl_long.f x0 = some (if (x0.size : Int) > 65536 then 2 else 0) := by
      unfold impl_long.f impl_when.f
      by_cases h : (x0.size : Int) > 65536
      · simp [h]
      · simp [h]
    by_cases h : (x0.size : Int) > 65536
    · refine ⟨(0, 0, 0, 0, 0, 0, 2), Ev.pos h (Ev.lit rfl), ?_⟩
      unfold impl_ReadTask.f
      rw [hlong, if_pos h]
      exact Ev.bindc rfl (Ev.neg (by decide) (Ev.lit rfl))
    · have hW := parts_sizes x0.data.toList
      have hlx : x0.data.toList.length ≤ 1048576 := by rw [← mk_size, mk_list]; exact hz
      have hlW : ((wordsL x0.data.toList).map mk).length ≤ 1048577 := by
        rw [List.length_map]
        have := List.length_filter_le (fun p : List UInt8 => !p.isEmpty) (partsL x0.data.toList)
        unfold wordsL
        omega
      have hsW : ∀ w ∈ (wordsL x0.data.toList).map mk, w.size ≤ 1048576 := fun w hw => by
        obtain ⟨p, hp, rfl⟩ := List.mem_map.mp hw
        have := hW.2 p (List.mem_filter.mp hp).1
        rw [mk_size]
        omega
      have e1 := spec_read _ hlW
      have e2 := impl_read _ hlW hsW
      generalize readT ((wordsL x0.data.toList).map mk) = T at e1 e2
      refine ⟨if T.2.2.2.2.2.2 = true then (T.1, T.2.1, T.2.2.1, T.2.2.2.1, T.2.2.2.2.1, T.2.2.2.2.2.1, 0) else (0, 0, 0, 0, 0, 0, 3), ?_, ?_⟩
      · refine Ev.neg h (Ev.bind (words_spec x0 hz) (Ev.bind e1 (Ev.lit ?_)))
        split <;> rfl
      · unfold impl_ReadTask.f
        rw [hlong, if_neg h]
        refine Ev.bindc rfl (Ev.pos rfl (Ev.bindc (words_impl x0 hz) (Ev.bind e2 (Ev.lit ?_))))
        split <;> rfl
  refine Ev.bind hs (Ev.bind hi ?_)
  refine Ev.bindc (a := true) (by simp [laws_eqTask.f]) (Ev.pos rfl (Ev.pos rfl (Ev.lit rfl)))
end Go.Proofs.YtppfcmkadcoboaaDoor.Pu
