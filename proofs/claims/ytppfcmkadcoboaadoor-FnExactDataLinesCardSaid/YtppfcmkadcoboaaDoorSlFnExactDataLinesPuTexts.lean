/- Lists of texts in the laws' own functions: they equal themselves, are marked, and hold their marks. -/
import Derived.Test.YtppfcmkadcoboaaDoorSlFnExactDataLinesGx0
import Derived.Test.YtppfcmkadcoboaaDoorSlFnExactDataLinesGx10
import Derived.Test.YtppfcmkadcoboaaDoorSlFnExactDataLinesGx13
import Derived.Test.YtppfcmkadcoboaaDoorSlFnExactDataLinesGvP
set_option linter.unusedVariables false
set_option linter.unusedSimpArgs false
namespace Go.Proofs.YtppfcmkadcoboaaDoor.Pu
open Go.RowKit Go.Proofs.YtppfcmkadcoboaaDoor.G Go.Proofs.YtppfcmkadcoboaaDoor.GivenP Go.Proofs.YtppfcmkadcoboaaDoorW.PrintWords Go.Proofs.YtppfcmkadcoboaaDoorW.PrintLast Go.Proofs.YtppfcmkadcoboaaDoorW.PrintMore

theorem lit_size (a : Array UInt8) : ByteArray.size ⟨a⟩ = a.size := rfl
theorem rdS (l : List ByteArray) (i : Nat) (h : i < l.length) : rdOf ByteArray.empty l (i : Int) = l[i] := by
  simp [rdOf, List.getD_eq_getElem?_getD, List.getElem?_eq_getElem h]
theorem eqS_loop (l : List ByteArray) (hl : l.length ≤ 1048576) (d : Nat) : ∀ (i : Nat), i + d = l.length → Ev (fun k => laws_eqStringS.l0 k l l (i : Int)) true := by
  induction d with
  | zero =>
    intro i hi
    refine Ev.step (fun k => by simp only [laws_eqStringS.l0]; rfl) ?_
    exact Ev.neg (by omega) (Ev.lit rfl)
  | succ d ih =>
    intro i hi
    refine Ev.step (fun k => by simp only [laws_eqStringS.l0]; rfl) ?_
    refine Ev.pos (by omega) (Ev.pos (by omega) (Ev.pos (by omega) (Ev.pos trivial ?_)))
    rw [w64 (by omega) (by omega)]
    exact_mod_cast ih (i + 1) (by omega)
theorem eqS (l : List ByteArray) (hl : l.length ≤ 1048576) : Ev (fun k => laws_eqStringS.f k l l) true := by
  unfold laws_eqStringS.f
  exact Ev.pos rfl (eqS_loop l hl l.length 0 (by omega))
theorem strOfNums_size (x : Int) : (strOfNums [x]).size = 1 := rfl
theorem markT_loop (d : Nat) : ∀ (x : Int) (acc : ByteArray), 0 ≤ x → x < 10 ^ d → x ≤ 9223372036854775807 → acc.size + d ≤ 1000 → EvP (fun k => laws_markText.l0 k x acc) (fun _ => True) := by
  induction d with
  | zero =>
    intro x acc h0 h1 h2 ha
    refine EvP.step (fun k => by simp only [laws_markText.l0]; rfl) ?_
    refine EvP.neg (by omega) ?_
    exact EvP.lit (if_pos (by omega)) trivial
  | succ d ih =>
    intro x acc h0 h1 h2 ha
    refine EvP.step (fun k => by simp only [laws_markText.l0]; rfl) ?_
    by_cases hx : x > 0
    · have hd : Int.tdiv x 10 = x / 10 := Int.tdiv_eq_ediv_of_nonneg h0
      refine EvP.pos hx (EvP.bindc rfl (EvP.pos ?_ ?_))
      · rw [strOfNums_size]; omega
      · rw [hd, w64 (by omega) (by omega)]
        refine ih _ _ (by omega) (by rw [Int.pow_succ] at h1; omega) (by omega) ?_
        rw [ByteArray.size_append, strOfNums_size]
        omega
    · exact EvP.neg hx (EvP.lit (if_pos (by omega)) trivial)
theorem markT_ex (x : Int) (h1 : x ≤ 9223372036854775807) : EvP (fun k => laws_markText.f k x) (fun _ => True) := by
  unfold laws_markText.f
  by_cases h : x ≤ 0
  · exact EvP.pos h (EvP.lit rfl trivial)
  · exact EvP.neg h (markT_loop 20 x _ (by omega) (by omega) h1 (by rw [lit_size]; decide))
noncomputable def markT (x : Int) : ByteArray := by
  classical
  exact if h : x ≤ 9223372036854775807 then (markT_ex x h).choose else ByteArray.empty
theorem markT_ev (x : Int) (h1 : x ≤ 9223372036854775807) : Ev (fun k => laws_markText.f k x) (markT x) := by
  unfold markT
  rw [dif_pos h1]
  exact (markT_ex x h1).choose_spec.1
noncomputable def marksFrom (n : Nat) : List ByteArray := (List.range n).map (fun j : Nat => markT (1 + (j : Int)))
theorem markS_loop (n : Nat) (hl : n ≤ 1048576) (d : Nat) : ∀ (l : List ByteArray) (i : Nat), l.length = n → i + d = n → l.take i = marksFrom i → Ev (fun k => laws_markStringS.l0 k l (1 + (i : Int)) (i : Int)) (1 + (n : Int), marksFrom n) := by
  induction d with
  | zero =>
    intro l i hn hi ht
    refine Ev.step (fun k => by simp only [laws_markStringS.l0]; rfl) ?_
    refine Ev.neg (by omega) (Ev.lit ?_)
    rw [show i = n from by omega, List.take_of_length_le (by omega)] at ht
    rw [ht, show i = n from by omega]
  | succ d ih =>
    intro l i hn hi ht
    refine Ev.step (fun k => by simp only [laws_markStringS.l0]; rfl) ?_
    refine Ev.pos (by omega) (Ev.bind (markT_ev _ (by omega)) (Ev.pos (by omega) ?_))
    rw [w64 (x := (i : Int) + 1) (by omega) (by omega), w64 (x := 1 + (i : Int) + 1) (by omega) (by omega)]
    rw [show 1 + (i : Int) + 1 = 1 + ((i + 1 : Nat) : Int) from by omega, show (i : Int) + 1 = ((i + 1 : Nat) : Int) from by omega]
    refine ih _ (i + 1) (by simp [hn]) (by omega) ?_
    rw [List.take_succ_eq_append_getElem (by simp; omega), List.take_set_of_le (by omega), ht]
    simp [marksFrom, List.range_succ]
theorem markS (l : List ByteArray) (hl : l.length ≤ 1048576) : Ev (fun k => laws_markStringS.f k l 1) (1 + (l.length : Int), marksFrom l.length) := by
  unfold laws_markStringS.f
  have := markS_loop l.length hl l.length l 0 rfl (by omega) (by simp [marksFrom])
  simpa using this
theorem heldS_loop (n : Nat) (hl : n ≤ 1048576) (d : Nat) : ∀ (i : Nat), i + d = n → Ev (fun k => laws_heldStringS.l0 k (marksFrom n) (1 + (i : Int)) (i : Int)) (1 + (n : Int)) := by
  have hlen : (marksFrom n).length = n := by simp [marksFrom]
  induction d with
  | zero =>
    intro i hi
    refine Ev.step (fun k => by simp only [laws_heldStringS.l0]; rfl) ?_
    refine Ev.neg (by omega) (Ev.lit ?_)
    rw [show i = n from by omega]
  | succ d ih =>
    intro i hi
    refine Ev.step (fun k => by simp only [laws_heldStringS.l0]; rfl) ?_
    rw [rdS _ i (by omega)]
    refine Ev.pos (by omega) (Ev.pos (by omega) (Ev.bind (markT_ev _ (by omega)) (Ev.pos (by simp [marksFrom]) ?_)))
    rw [w64 (x := (i : Int) + 1) (by omega) (by omega), w64 (x := 1 + (i : Int) + 1) (by omega) (by omega)]
    rw [show 1 + (i : Int) + 1 = 1 + ((i + 1 : Nat) : Int) from by omega, show (i : Int) + 1 = ((i + 1 : Nat) : Int) from by omega]
    exact ih (i + 1) (by omega)
theorem heldS (n : Nat) (hl : n ≤ 1048576) : Ev (fun k => laws_heldStringS.f k (marksFrom n) 1) (1 + (n : Int)) := by
  unfold laws_heldStringS.f
  have := heldS_loop n hl n 0 (by omega)
  simpa using this
end Go.Proofs.YtppfcmkadcoboaaDoor.Pu
