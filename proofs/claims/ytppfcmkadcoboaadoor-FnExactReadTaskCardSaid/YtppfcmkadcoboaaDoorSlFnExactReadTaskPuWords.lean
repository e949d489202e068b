/- The words of a text: what strings.Split and slices.DeleteFunc leave is what the reference cuts out. -/
import Derived.Test.YtppfcmkadcoboaaDoorSlFnExactReadTaskRx0
import Derived.Test.YtppfcmkadcoboaaDoorSlFnExactReadTaskRx5
import Derived.Test.YtppfcmkadcoboaaDoorSlFnExactReadTaskRx8
import Derived.Test.YtppfcmkadcoboaaDoorSlFnExactReadTaskGvP
import Derived.Test.YtppfcmkadcoboaaDoorSlFnExactReadTaskPuIn
set_option linter.unusedVariables false
set_option linter.unusedSimpArgs false
namespace Go.Proofs.YtppfcmkadcoboaaDoor.Pu
open Go.RowKit Go.Proofs.YtppfcmkadcoboaaDoor.R Go.Proofs.YtppfcmkadcoboaaDoor.GivenP Go.Proofs.YtppfcmkadcoboaaDoorW.PrintWords Go.Proofs.YtppfcmkadcoboaaDoorW.PrintLast Go.Proofs.YtppfcmkadcoboaaDoorW.PrintMore

def mk (l : List UInt8) : ByteArray := ⟨l.toArray⟩
theorem mk_list (t : ByteArray) : mk t.data.toList = t := by cases t; simp [mk]
theorem mk_data (l : List UInt8) : (mk l).data.toList = l := by simp [mk]
theorem mk_toL (l : List UInt8) : (mk l).toList = l := by rw [ByteArray.toList_eq]; exact mk_data l
theorem mk_size (l : List UInt8) : (mk l).size = l.length := by simp [mk, ByteArray.size]
theorem mk_ext (l : List UInt8) (i j : Nat) (hi : i ≤ j) (hj : j ≤ l.length) : (mk l).extract i j = mk ((l.take j).drop i) := by
  apply ByteArray.ext
  simp [mk, ByteArray.data_extract, List.extract_eq_take_drop, List.drop_take]
def partsL : List UInt8 → List (List UInt8)
  | [] => [[]]
  | c :: r => if c = 32 then [] :: partsL r else match partsL r with
    | p :: ps => (c :: p) :: ps
    | [] => [[c]]
theorem parts_ne : ∀ l : List UInt8, partsL l ≠ []
  | [] => by simp [partsL]
  | c :: r => by
    unfold partsL
    split
    · simp
    · split <;> simp
theorem index_cons (b : UInt8) (l : List UInt8) : Lib.index (b :: l) [32] = if b = 32 then 0 else if Lib.index l [32] = -1 then -1 else Lib.index l [32] + 1 := by
  rw [Lib.index]
  by_cases h : b = 32
  · subst h; simp [List.isPrefixOf]
  · have hp : ([32] : List UInt8).isPrefixOf (b :: l) = false := by simp [List.isPrefixOf, Ne.symm h]
    rw [hp, if_neg h]
    simp
theorem idx (l : List UInt8) : Lib.indexB (mk l) impl_words.sep = Lib.index l [32] := rfl
theorem cnt (l : List UInt8) : Lib.countB (mk l) impl_words.sep = l.count 32 := Lib.count_one 32 l
theorem split_ne (b : UInt8) (h : b ≠ 32) : ∀ (k : Nat) (l : List UInt8), Lib.splitB impl_words.sep 0 k (mk (b :: l)) = match Lib.splitB impl_words.sep 0 k (mk l) with
    | p :: ps => mk (b :: p.data.toList) :: ps
    | [] => []
  | 0, l => by simp [Lib.splitB, mk_data]
  | k + 1, l => by
    have hc := index_cons b l
    rw [if_neg h] at hc
    rcases Lib.indexB_cases (mk l) impl_words.sep with hm | ⟨i, hi, hr⟩
    · rw [idx] at hm
      rw [if_pos hm] at hc
      rw [Lib.splitB_miss impl_words.sep 0 (k + 1) (mk (b :: l)) (by rw [idx]; exact hc), Lib.splitB_miss impl_words.sep 0 (k + 1) (mk l) (by rw [idx]; exact hm)]
      simp [mk_data]
    · rw [idx] at hi
      rw [if_neg (by omega)] at hc
      have hl : i + 1 ≤ l.length := by rw [mk_size] at hr; exact hr
      have e1 := Lib.splitB_hit impl_words.sep 0 k (mk l) i (by rw [idx]; exact hi)
      have e2 := Lib.splitB_hit impl_words.sep 0 k (mk (b :: l)) (i + 1) (by rw [idx, hc, hi]; omega)
      have hs : impl_words.sep.size = 1 := rfl
      have f1 : (mk l).extract 0 (i + 0) = mk (l.take i) := by rw [mk_ext _ _ _ (by omega) (by omega)]; simp
      have f2 : (mk l).extract (i + 1) (mk l).size = mk (l.drop (i + 1)) := by rw [mk_size, mk_ext _ _ _ (by omega) (by omega)]; simp
      have f3 : (mk (b :: l)).extract 0 (i + 1 + 0) = mk (b :: l.take i) := by rw [mk_ext _ _ _ (by omega) (by simp; omega)]; simp
      have f4 : (mk (b :: l)).extract (i + 1 + 1) (mk (b :: l)).size = mk (l.drop (i + 1)) := by rw [mk_size, mk_ext _ _ _ (by simp; omega) (by simp)]; simp
      rw [e1, e2, hs, f1, f2, f3, f4]
      simp [mk_data]
theorem split_parts : ∀ (l : List UInt8), Lib.splitB impl_words.sep 0 (Lib.countB (mk l) impl_words.sep) (mk l) = (partsL l).map mk
  | [] => by rw [Lib.splitB_miss _ _ _ _ (by rfl)]; rfl
  | b :: l => by
    have ih := split_parts l
    rw [cnt] at ih ⊢
    by_cases h : b = 32
    · subst h
      rw [show (32 :: l).count (32 : UInt8) = l.count 32 + 1 by simp]
      rw [Lib.splitB_hit impl_words.sep 0 _ (mk (32 :: l)) 0 (by rw [idx, index_cons]; rfl)]
      have hs : impl_words.sep.size = 1 := rfl
      rw [hs, mk_size, mk_ext _ _ _ (by omega) (by omega), mk_ext _ _ _ (by simp) (by simp)]
      simp [partsL, ih]
    · rw [List.count_cons_of_ne (by simpa using h), split_ne b h, ih]
      simp only [partsL, if_neg h]
      cases hp : partsL l with
      | nil => exact absurd hp (parts_ne l)
      | cons p ps => simp [mk_data]
def wordsL (l : List UInt8) : List (List UInt8) := (partsL l).filter fun p => !p.isEmpty
theorem words_impl (t : ByteArray) (h : t.size ≤ 1048576) : impl_words.f t = some ((wordsL t.data.toList).map mk) := by
  unfold impl_words.f impl_words.parts
  rw [if_pos h]
  have := split_parts t.data.toList
  rw [mk_list] at this
  rw [this, List.filter_map]
  congr 2
  unfold wordsL
  congr 1
  funext x
  simp [impl_words.p, mk_toL]
theorem parts_cut (a : List UInt8) (h : (32 : UInt8) ∉ a) (b : List UInt8) : partsL (a ++ 32 :: b) = a :: partsL b := by
  induction a with
  | nil => simp [partsL]
  | cons c r ih =>
    simp only [List.mem_cons, not_or] at h
    have := ih h.2
    rw [List.cons_append, partsL, if_neg (fun e => h.1 e.symm), this]
theorem parts_end (a : List UInt8) (h : (32 : UInt8) ∉ a) : partsL a = [a] := by
  induction a with
  | nil => rfl
  | cons c r ih =>
    simp only [List.mem_cons, not_or] at h
    rw [partsL, if_neg (fun e => h.1 e.symm), ih h.2]
theorem bt_mk (l : List UInt8) (i : Nat) (h : i < l.length) : bt (mk l) (i : Int) = ((l[i]).toNat : Int) := by
  have hs : i < (mk l).size := by rw [mk_size]; exact h
  have h0 : 0 ≤ (i : Int) := by omega
  rw [← bt_at (mk l) (i : Int) (by simpa using hs)]
  show ((l.toArray[i]'(by simpa using h)).toNat : Int) = _
  simp
theorem words_loop (l : List UInt8) (hl : l.length ≤ 1048576) (d : Nat) : ∀ (acc : List ByteArray) (j i : Nat), i + d = l.length → j ≤ i → acc.length ≤ i → (32 : UInt8) ∉ (l.take i).drop j →
    Ev (fun k => spec_l00Words.l0 k (mk l) acc (j : Int) (i : Int)) (acc ++ (wordsL (l.drop j)).map mk) := by
  induction d with
  | zero =>
    intro acc j i hi hj ha hn
    have e : i = l.length := by omega
    subst e
    rw [List.take_length] at hn
    refine Ev.step (fun k => by simp only [spec_l00Words.l0]; rfl) ?_
    refine Ev.pos (by rw [mk_size]; omega) (Ev.pos (by rw [mk_size]) ?_)
    refine Ev.step (fun k => by simp only [spec_l00Words.j1]; rfl) (Ev.pos (c := true = true) rfl ?_)
    have hw : wordsL (l.drop j) = if l.drop j = [] then [] else [l.drop j] := by
      unfold wordsL
      rw [parts_end _ hn]
      cases l.drop j <;> simp
    have fin : ∀ (A : List ByteArray) (x : Int), Ev (fun k => spec_l00Words.l0 k (mk l) A x (wrap64 ((l.length : Int) + 1))) A := fun A x => by
      refine Ev.step (fun k => by simp only [spec_l00Words.l0]; rfl) (Ev.neg ?_ (Ev.lit rfl))
      rw [w64 (by omega) (by omega), mk_size]
      omega
    rw [hw]
    by_cases hc : j < l.length
    · have hne : l.drop j ≠ [] := by simp; omega
      rw [if_neg hne]
      refine Ev.pos (by omega) (Ev.pos (by omega) (Ev.pos (by omega) (Ev.pos (by rw [mk_size]; omega) (Ev.pos (by omega) ?_))))
      rw [show ((l.length : Int)).toNat = l.length by omega, show ((j : Int)).toNat = j by omega, mk_ext _ _ _ hj (by omega), List.take_length]
      exact fin _ _
    · have hne : l.drop j = [] := by simp; omega
      rw [if_pos hne]
      simp only [List.map_nil, List.append_nil]
      exact Ev.neg (by omega) (fin _ _)
  | succ d ih =>
    intro acc j i hi hj ha hn
    refine Ev.step (fun k => by simp only [spec_l00Words.l0]; rfl) ?_
    refine Ev.pos (by rw [mk_size]; omega) (Ev.neg (by rw [mk_size]; omega) (Ev.pos (by omega) (Ev.pos (by rw [mk_size]; omega) ?_)))
    refine Ev.step (fun k => by simp only [spec_l00Words.j1]; rfl) ?_
    have hil : i < l.length := by omega
    have hlast : (l.take (i + 1)).drop j = (l.take i).drop j ++ [l[i]] := by
      rw [List.take_succ_eq_append_getElem hil, List.drop_append_of_le_length (by simp; omega)]
    have hnext : wrap64 ((i : Int) + 1) = ((i + 1 : Nat) : Int) := by rw [w64 (by omega) (by omega)]; omega
    have hcut : l.drop j = (l.take i).drop j ++ l[i] :: l.drop (i + 1) := by
      conv => lhs; rw [← List.take_append_drop i l]
      rw [List.drop_append_of_le_length (by simp; omega), List.drop_eq_getElem_cons hil]
    rw [bt_mk l i hil]
    by_cases hc : l[i] = 32
    · refine Ev.pos (by rw [hc]; rfl) ?_
      have hw : wordsL (l.drop j) = (if (l.take i).drop j = [] then [] else [(l.take i).drop j]) ++ wordsL (l.drop (i + 1)) := by
        rw [hcut, hc]
        unfold wordsL
        rw [parts_cut _ hn]
        cases (l.take i).drop j <;> simp
      have hnil : (32 : UInt8) ∉ (l.take (i + 1)).drop (i + 1) := by simp
      rw [hw, hnext]
      by_cases hj2 : j < i
      · have hne : (l.take i).drop j ≠ [] := by simp; omega
        rw [if_neg hne]
        refine Ev.pos (by omega) (Ev.pos (by omega) (Ev.pos (by omega) (Ev.pos (by rw [mk_size]; omega) (Ev.pos (by omega) ?_))))
        rw [show ((i : Int)).toNat = i by omega, show ((j : Int)).toNat = j by omega, mk_ext _ _ _ hj (by omega)]
        have := ih (acc ++ [mk ((l.take i).drop j)]) (i + 1) (i + 1) (by omega) (Nat.le_refl _) (by simp; omega) hnil
        simpa using this
      · have hne : (l.take i).drop j = [] := by simp; omega
        rw [if_pos hne]
        refine Ev.neg (by omega) ?_
        simpa using ih acc (i + 1) (i + 1) (by omega) (Nat.le_refl _) (by omega) hnil
    · refine Ev.neg (by
        have : (l[i]).toNat ≠ 32 := fun e => hc (UInt8.toNat_inj.mp e)
        simp; omega) ?_
      rw [hnext]
      exact ih acc j (i + 1) (by omega) (by omega) (by omega) (by rw [hlast]; simp only [List.mem_append, List.mem_singleton, not_or]; exact ⟨hn, fun e => hc e.symm⟩)
theorem words_spec (t : ByteArray) (h : t.size ≤ 1048576) : Ev (fun k => spec_l00Words.f k t) ((wordsL t.data.toList).map mk) := by
  have hs : t.data.toList.length ≤ 1048576 := by rw [← mk_size, mk_list]; exact h
  have := words_loop t.data.toList hs t.data.toList.length [] 0 0 (by omega) (Nat.le_refl _) (by simp) (by simp)
  rw [mk_list] at this
  simpa [spec_l00Words.f] using this
end Go.Proofs.YtppfcmkadcoboaaDoor.Pu
