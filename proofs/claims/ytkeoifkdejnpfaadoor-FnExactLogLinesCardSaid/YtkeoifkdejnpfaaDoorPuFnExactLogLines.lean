/- The law FnExactLogLines over lists and numbers: the program's lines of a log are the reference's. -/
import Derived.Test.YtkeoifkdejnpfaaDoorGx0
import Derived.Test.YtkeoifkdejnpfaaDoorGx1
import Derived.Test.YtkeoifkdejnpfaaDoorGx2
import Derived.Test.YtkeoifkdejnpfaaDoorGx3
import Derived.Test.YtkeoifkdejnpfaaDoorGx4
import Derived.Test.YtkeoifkdejnpfaaDoorGx5
import Derived.Test.YtkeoifkdejnpfaaDoorGx6
import Derived.Test.YtkeoifkdejnpfaaDoorGx7
import Derived.Test.YtkeoifkdejnpfaaDoorGx8
import Derived.Test.YtkeoifkdejnpfaaDoorGvP
import Derived.Test.YtkeoifkdejnpfaaDoorPuDigits
import Derived.Test.YtkeoifkdejnpfaaDoorStFnExactLogLines
set_option linter.unusedVariables false
namespace Go.Proofs.YtkeoifkdejnpfaaDoor.Pu
open Go.RowKit Go.Proofs.YtkeoifkdejnpfaaDoor.G Go.Proofs.YtkeoifkdejnpfaaDoor.GivenP Go.Proofs.YtkeoifkdejnpfaaDoorW.PrintWords Go.Proofs.YtkeoifkdejnpfaaDoorW.PrintLast Go.Proofs.YtkeoifkdejnpfaaDoorW.PrintMore

def convD (d : S63) : S61 := ⟨d.f0, d.f1, d.f2, d.f3⟩
def lineD (d : S61) : ByteArray := (((((((⟨#[116, 97, 115, 107, 32]⟩ : ByteArray) ++ dec d.f0) ++ (⟨#[32, 97, 114, 114, 105, 118, 101, 100, 32]⟩ : ByteArray)) ++ dec d.f1) ++ (⟨#[32, 115, 116, 97, 114, 116, 101, 100, 32]⟩ : ByteArray)) ++ dec d.f2) ++ (⟨#[32, 102, 105, 110, 105, 115, 104, 101, 100, 32]⟩ : ByteArray)) ++ dec d.f3
def InD (d : S61) : Prop := (-9223372036854775808 ≤ d.f0 ∧ d.f0 ≤ 9223372036854775807) ∧ (-9223372036854775808 ≤ d.f1 ∧ d.f1 ≤ 9223372036854775807) ∧ (-9223372036854775808 ≤ d.f2 ∧ d.f2 ≤ 9223372036854775807) ∧ (-9223372036854775808 ≤ d.f3 ∧ d.f3 ≤ 9223372036854775807)
theorem lit_size (a : Array UInt8) : ByteArray.size ⟨a⟩ = a.size := rfl

theorem toDoneS_loop (l : List S63) (hl : l.length ≤ 1048576) (d : Nat) : ∀ (acc : List S61) (i : Nat), i + d = l.length → acc.length = l.length → acc.take i = (l.take i).map convD → Ev (fun k => laws_toDoneS.l0 k l acc (i : Int)) (l.map convD) := by
  induction d with
  | zero =>
    intro acc i hi ha ht
    refine Ev.step (fun k => by simp only [laws_toDoneS.l0]; rfl) ?_
    refine Ev.neg (by omega) (Ev.lit ?_)
    rw [show i = l.length from by omega, List.take_length, ← ha, List.take_length] at ht
    rw [ht]
  | succ d ih =>
    intro acc i hi ha ht
    refine Ev.step (fun k => by simp only [laws_toDoneS.l0]; rfl) ?_
    refine Ev.pos (by omega) (Ev.pos (by omega) (Ev.bindc (a := (convD (rd_T63 l i)).casesOn (fun a b c e => (a, b, c, e))) rfl (Ev.pos (by omega) ?_)))
    rw [w64 (by omega) (by omega)]
    have h := ih (acc.set i (convD (rd_T63 l i))) (i + 1) (by omega) (by simp [ha]) ?_
    · exact_mod_cast h
    · rw [List.take_succ_eq_append_getElem (by simp; omega), List.take_succ_eq_append_getElem (by omega), List.map_append, List.take_set_of_le (by omega), ht]
      simp [rd_T63, List.getD_eq_getElem?_getD, List.getElem?_eq_getElem (show i < l.length by omega)]
theorem toDoneS (l : List S63) (hl : l.length ≤ 1048576) : Ev (fun k => laws_toDoneS.f k l) (l.map convD) := by
  unfold laws_toDoneS.f
  refine Ev.pos (by omega) (Ev.pos (by omega) ?_)
  exact toDoneS_loop l hl l.length _ 0 (by omega) (by simp) (by simp)
theorem rd61 (l : List S61) (i : Nat) (h : i < l.length) : rd_T61 l (i : Int) = l[i] := by
  simp [rd_T61, List.getD_eq_getElem?_getD, List.getElem?_eq_getElem h]
theorem rdS (l : List ByteArray) (i : Nat) (h : i < l.length) : rdOf ByteArray.empty l (i : Int) = l[i] := by
  simp [rdOf, List.getD_eq_getElem?_getD, List.getElem?_eq_getElem h]
theorem log_spec_loop (l : List S61) (hl : l.length ≤ 1048576) (hin : ∀ x ∈ l, InD x) (d : Nat) : ∀ (acc : List ByteArray) (i : Nat), i + d = l.length → acc.length = i → Ev (fun k => spec_l13Log.l0 k l acc (i : Int)) (acc ++ (l.drop i).map lineD) := by
  induction d with
  | zero =>
    intro acc i hi ha
    refine Ev.step (fun k => by simp only [spec_l13Log.l0]; rfl) ?_
    refine Ev.neg (by omega) (Ev.lit ?_)
    rw [List.drop_eq_nil_of_le (by omega)]
    simp
  | succ d ih =>
    intro acc i hi ha
    have hb : i < l.length := by omega
    have hx := hin _ (List.getElem_mem hb)
    have s0 := dec_size _ hx.1
    have s1 := dec_size _ hx.2.1
    have s2 := dec_size _ hx.2.2.1
    have s3 := dec_size _ hx.2.2.2
    refine Ev.step (fun k => by simp only [spec_l13Log.l0]; rfl) ?_
    rw [rd61 l i hb]
    refine Ev.pos (by omega) (Ev.pos (by omega) (Ev.bind (digits _ hx.1) ?_))
    refine Ev.pos (by omega) (Ev.pos (by simp only [ByteArray.size_append, lit_size, List.size_toArray, List.length_cons, List.length_nil]; omega) (Ev.bind (digits _ hx.2.1) ?_))
    refine Ev.pos (by simp only [ByteArray.size_append, lit_size, List.size_toArray, List.length_cons, List.length_nil]; omega) (Ev.pos (by simp only [ByteArray.size_append, lit_size, List.size_toArray, List.length_cons, List.length_nil]; omega) (Ev.bind (digits _ hx.2.2.1) ?_))
    refine Ev.pos (by simp only [ByteArray.size_append, lit_size, List.size_toArray, List.length_cons, List.length_nil]; omega) (Ev.pos (by simp only [ByteArray.size_append, lit_size, List.size_toArray, List.length_cons, List.length_nil]; omega) (Ev.bind (digits _ hx.2.2.2) ?_))
    refine Ev.pos (by simp only [ByteArray.size_append, lit_size, List.size_toArray, List.length_cons, List.length_nil]; omega) (Ev.pos (by omega) ?_)
    rw [w64 (by omega) (by omega)]
    have h := ih (acc ++ [lineD l[i]]) (i + 1) (by omega) (by simp [ha])
    rw [show acc ++ (l.drop i).map lineD = (acc ++ [lineD l[i]]) ++ (l.drop (i + 1)).map lineD from by rw [List.drop_eq_getElem_cons hb, List.map_cons, List.append_assoc]; rfl]
    exact_mod_cast h
theorem log_impl_loop (l : List S61) (hl : l.length ≤ 1048576) (hin : ∀ x ∈ l, InD x) (d : Nat) : ∀ (acc : List ByteArray) (i : Nat), i + d = l.length → acc.length = i → Ev (fun k => impl_LogLines.l0 k acc l (l.length : Int) (i : Int)) (acc ++ (l.drop i).map lineD, 0) := by
  induction d with
  | zero =>
    intro acc i hi ha
    refine Ev.step (fun k => by simp only [impl_LogLines.l0]; rfl) ?_
    refine Ev.neg (by omega) (Ev.lit ?_)
    rw [List.drop_eq_nil_of_le (by omega)]
    simp
  | succ d ih =>
    intro acc i hi ha
    have hb : i < l.length := by omega
    have hx := hin _ (List.getElem_mem hb)
    have s0 := dec_size _ hx.1
    have s1 := dec_size _ hx.2.1
    have s2 := dec_size _ hx.2.2.1
    have s3 := dec_size _ hx.2.2.2
    refine Ev.step (fun k => by simp only [impl_LogLines.l0]; rfl) ?_
    rw [rd61 l i hb]
    refine Ev.pos (by omega) (Ev.pos (by omega) (Ev.pos (by omega) (Ev.bindc (decimal _ hx.1) ?_)))
    refine Ev.pos (by omega) (Ev.pos (by simp only [ByteArray.size_append, lit_size, List.size_toArray, List.length_cons, List.length_nil]; omega) (Ev.bindc (decimal _ hx.2.1) ?_))
    refine Ev.pos (by simp only [ByteArray.size_append, lit_size, List.size_toArray, List.length_cons, List.length_nil]; omega) (Ev.pos (by simp only [ByteArray.size_append, lit_size, List.size_toArray, List.length_cons, List.length_nil]; omega) (Ev.bindc (decimal _ hx.2.2.1) ?_))
    refine Ev.pos (by simp only [ByteArray.size_append, lit_size, List.size_toArray, List.length_cons, List.length_nil]; omega) (Ev.pos (by simp only [ByteArray.size_append, lit_size, List.size_toArray, List.length_cons, List.length_nil]; omega) (Ev.bindc (decimal _ hx.2.2.2) ?_))
    refine Ev.pos (by simp only [ByteArray.size_append, lit_size, List.size_toArray, List.length_cons, List.length_nil]; omega) (Ev.pos (by omega) ?_)
    rw [w64 (by omega) (by omega)]
    have h := ih (acc ++ [lineD l[i]]) (i + 1) (by omega) (by simp [ha])
    rw [show acc ++ (l.drop i).map lineD = (acc ++ [lineD l[i]]) ++ (l.drop (i + 1)).map lineD from by rw [List.drop_eq_getElem_cons hb, List.map_cons, List.append_assoc]; rfl]
    exact_mod_cast h
def linesD (l : List S61) : List ByteArray × Int := if l.length > 4096 then ([], 2) else (l.map lineD, 0)
theorem log_spec (l : List S61) (hl : l.length ≤ 1048576) (hin : ∀ x ∈ l, InD x) : Ev (fun k => spec_LogLines.f k l) (linesD l) := by
  unfold spec_LogLines.f linesD
  by_cases h : l.length > 4096
  · rw [if_pos h]; exact Ev.pos (by omega) (Ev.lit rfl)
  · rw [if_neg h]
    refine Ev.neg (by omega) (Ev.bind (a := l.map lineD) ?_ (Ev.lit rfl))
    have := log_spec_loop l hl hin l.length [] 0 (by omega) rfl
    simpa [spec_l13Log.f] using this
theorem log_impl (l : List S61) (hl : l.length ≤ 1048576) (hin : ∀ x ∈ l, InD x) : Ev (fun k => impl_LogLines.f k l) (linesD l) := by
  unfold impl_LogLines.f linesD impl_Done.f impl_when.f
  by_cases h : l.length > 4096
  · rw [if_pos h]
    have : (l.length : Int) > 4096 := by omega
    refine Ev.bindc (a := 2) (by simp [this]) (Ev.neg (by omega) (Ev.lit rfl))
  · rw [if_neg h]
    have : ¬ (l.length : Int) > 4096 := by omega
    refine Ev.bindc (a := 0) (by simp [this]) (Ev.pos rfl ?_)
    have := log_impl_loop l hl hin l.length [] 0 (by omega) rfl
    simpa using this
theorem eqS_loop (l : List ByteArray) (hl : l.length ≤ 1048576) (d : Nat) : ∀ (i : Nat), i + d = l.length → Ev (fun k => laws_eqStringS.l0 k l l (i : Int)) true := by
  induction d with
  | zero =>
    intro i hi
    refine Ev.step (fun k => by simp only [laws_eqStringS.l0]; rfl) ?_
    exact Ev.neg (by omega) (Ev.lit rfl)
  | succ d ih =>
    intro i hi
    refine Ev.step (fun k => by simp only [laws_eqStringS.l0]; rfl) ?_
    refine Ev.pos (by omega) (Ev.pos (by omega) (Ev.pos (by omega) (Ev.pos trivial ?_)))
    rw [w64 (by omega) (by omega)]
    exact_mod_cast ih (i + 1) (by omega)
theorem eqS (l : List ByteArray) (hl : l.length ≤ 1048576) : Ev (fun k => laws_eqStringS.f k l l) true := by
  unfold laws_eqStringS.f
  exact Ev.pos rfl (eqS_loop l hl l.length 0 (by omega))
theorem eqD_loop (l : List S61) (hl : l.length ≤ 1048576) (d : Nat) : ∀ (i : Nat), i + d = l.length → Ev (fun k => laws_eqDoneS.l0 k l l (i : Int)) true := by
  induction d with
  | zero =>
    intro i hi
    refine Ev.step (fun k => by simp only [laws_eqDoneS.l0]; rfl) ?_
    exact Ev.neg (by omega) (Ev.lit rfl)
  | succ d ih =>
    intro i hi
    refine Ev.step (fun k => by simp only [laws_eqDoneS.l0]; rfl) ?_
    refine Ev.pos (by omega) (Ev.pos (by omega) (Ev.pos (by omega) (Ev.bindc (a := true) (by simp [laws_eqDone.f]) (Ev.pos rfl ?_))))
    rw [w64 (by omega) (by omega)]
    exact_mod_cast ih (i + 1) (by omega)
theorem eqD (l : List S61) (hl : l.length ≤ 1048576) : Ev (fun k => laws_eqDoneS.f k l l) true := by
  unfold laws_eqDoneS.f
  exact Ev.pos rfl (eqD_loop l hl l.length 0 (by omega))
theorem markD_loop (n : Nat) (hl : n ≤ 1048576) (d : Nat) : ∀ (l : List S61) (i : Nat), l.length = n → i + d = n → EvP (fun k => laws_markDoneS.l0 k l (1 + 4 * (i : Int)) (i : Int)) (fun r => r.1 = 1 + 4 * (n : Int)) := by
  induction d with
  | zero =>
    intro l i hn hi
    refine EvP.step (fun k => by simp only [laws_markDoneS.l0]; rfl) ?_
    refine EvP.neg (by omega) (EvP.lit rfl ?_)
    rw [show i = n from by omega]
  | succ d ih =>
    intro l i hn hi
    refine EvP.step (fun k => by simp only [laws_markDoneS.l0]; rfl) ?_
    refine EvP.pos (by omega) (EvP.pos (by omega) (EvP.bindc rfl (EvP.bindc rfl (EvP.bindc rfl ?_))))
    rw [w64 (x := (i : Int) + 1) (by omega) (by omega), w64 (x := 1 + 4 * (i : Int) + 1) (by omega) (by omega), w64 (x := 1 + 4 * (i : Int) + 1 + 1) (by omega) (by omega), w64 (x := 1 + 4 * (i : Int) + 1 + 1 + 1) (by omega) (by omega), w64 (x := 1 + 4 * (i : Int) + 1 + 1 + 1 + 1) (by omega) (by omega)]
    rw [show 1 + 4 * (i : Int) + 1 + 1 + 1 + 1 = 1 + 4 * ((i + 1 : Nat) : Int) from by omega, show (i : Int) + 1 = ((i + 1 : Nat) : Int) from by omega]
    exact ih _ (i + 1) (by simp [hn]) (by omega)
theorem markD (l : List S61) (hl : l.length ≤ 1048576) : EvP (fun k => laws_markDoneS.f k l 1) (fun r => r.1 = 1 + 4 * (l.length : Int)) := by
  unfold laws_markDoneS.f
  have := markD_loop l.length hl l.length l 0 rfl (by omega)
  simpa using this
theorem strOfNums_size (x : Int) : (strOfNums [x]).size = 1 := rfl
theorem markT_loop (d : Nat) : ∀ (x : Int) (acc : ByteArray), 0 ≤ x → x < 10 ^ d → x ≤ 9223372036854775807 → acc.size + d ≤ 1000 → EvP (fun k => laws_markText.l0 k x acc) (fun _ => True) := by
  induction d with
  | zero =>
    intro x acc h0 h1 h2 ha
    refine EvP.step (fun k => by simp only [laws_markText.l0]; rfl) ?_
    refine EvP.neg (by omega) ?_
    exact EvP.lit (if_pos (by omega)) trivial
  | succ d ih =>
    intro x acc h0 h1 h2 ha
    refine EvP.step (fun k => by simp only [laws_markText.l0]; rfl) ?_
    by_cases hx : x > 0
    · have hd : Int.tdiv x 10 = x / 10 := Int.tdiv_eq_ediv_of_nonneg h0
      refine EvP.pos hx (EvP.bindc rfl (EvP.pos ?_ ?_))
      · rw [strOfNums_size]; omega
      · rw [hd, w64 (by omega) (by omega)]
        refine ih _ _ (by omega) (by rw [Int.pow_succ] at h1; omega) (by omega) ?_
        rw [ByteArray.size_append, strOfNums_size]
        omega
    · exact EvP.neg hx (EvP.lit (if_pos (by omega)) trivial)
theorem markT_ex (x : Int) (h1 : x ≤ 9223372036854775807) : EvP (fun k => laws_markText.f k x) (fun _ => True) := by
  unfold laws_markText.f
  by_cases h : x ≤ 0
  · exact EvP.pos h (EvP.lit rfl trivial)
  · exact EvP.neg h (markT_loop 20 x _ (by omega) (by omega) h1 (by rw [lit_size]; decide))
noncomputable def markT (x : Int) : ByteArray := by
  classical
  exact if h : x ≤ 9223372036854775807 then (markT_ex x h).choose else ByteArray.empty
theorem markT_ev (x : Int) (h1 : x ≤ 9223372036854775807) : Ev (fun k => laws_markText.f k x) (markT x) := by
  unfold markT
  rw [dif_pos h1]
  exact (markT_ex x h1).choose_spec.1
noncomputable def marksFrom (n : Nat) : List ByteArray := (List.range n).map (fun j : Nat => markT (1 + (j : Int)))
theorem markS_loop (n : Nat) (hl : n ≤ 1048576) (d : Nat) : ∀ (l : List ByteArray) (i : Nat), l.length = n → i + d = n → l.take i = marksFrom i → Ev (fun k => laws_markStringS.l0 k l (1 + (i : Int)) (i : Int)) (1 + (n : Int), marksFrom n) := by
  induction d with
  | zero =>
    intro l i hn hi ht
    refine Ev.step (fun k => by simp only [laws_markStringS.l0]; rfl) ?_
    refine Ev.neg (by omega) (Ev.lit ?_)
    rw [show i = n from by omega, List.take_of_length_le (by omega)] at ht
    rw [ht, show i = n from by omega]
  | succ d ih =>
    intro l i hn hi ht
    refine Ev.step (fun k => by simp only [laws_markStringS.l0]; rfl) ?_
    refine Ev.pos (by omega) (Ev.bind (markT_ev _ (by omega)) (Ev.pos (by omega) ?_))
    rw [w64 (x := (i : Int) + 1) (by omega) (by omega), w64 (x := 1 + (i : Int) + 1) (by omega) (by omega)]
    rw [show 1 + (i : Int) + 1 = 1 + ((i + 1 : Nat) : Int) from by omega, show (i : Int) + 1 = ((i + 1 : Nat) : Int) from by omega]
    refine ih _ (i + 1) (by simp [hn]) (by omega) ?_
    rw [List.take_succ_eq_append_getElem (by simp; omega), List.take_set_of_le (by omega), ht]
    simp [marksFrom, List.range_succ]
theorem markS (l : List ByteArray) (hl : l.length ≤ 1048576) : Ev (fun k => laws_markStringS.f k l 1) (1 + (l.length : Int), marksFrom l.length) := by
  unfold laws_markStringS.f
  have := markS_loop l.length hl l.length l 0 rfl (by omega) (by simp [marksFrom])
  simpa using this
theorem heldS_loop (n : Nat) (hl : n ≤ 1048576) (d : Nat) : ∀ (i : Nat), i + d = n → Ev (fun k => laws_heldStringS.l0 k (marksFrom n) (1 + (i : Int)) (i : Int)) (1 + (n : Int)) := by
  have hlen : (marksFrom n).length = n := by simp [marksFrom]
  induction d with
  | zero =>
    intro i hi
    refine Ev.step (fun k => by simp only [laws_heldStringS.l0]; rfl) ?_
    refine Ev.neg (by omega) (Ev.lit ?_)
    rw [show i = n from by omega]
  | succ d ih =>
    intro i hi
    refine Ev.step (fun k => by simp only [laws_heldStringS.l0]; rfl) ?_
    rw [rdS _ i (by omega)]
    refine Ev.pos (by omega) (Ev.pos (by omega) (Ev.bind (markT_ev _ (by omega)) (Ev.pos (by simp [marksFrom]) ?_)))
    rw [w64 (x := (i : Int) + 1) (by omega) (by omega), w64 (x := 1 + (i : Int) + 1) (by omega) (by omega)]
    rw [show 1 + (i : Int) + 1 = 1 + ((i + 1 : Nat) : Int) from by omega, show (i : Int) + 1 = ((i + 1 : Nat) : Int) from by omega]
    exact ih (i + 1) (by omega)
theorem heldS (n : Nat) (hl : n ≤ 1048576) : Ev (fun k => laws_heldStringS.f k (marksFrom n) 1) (1 + (n : Int)) := by
  unfold laws_heldStringS.f
  have := heldS_loop n hl n 0 (by omega)
  simpa using this
theorem FnExactLogLines : laws_FnExactLogLines.Pure := by
  rintro l ⟨hmax, hw⟩
  suffices h : Ev (fun k => laws_FnExactLogLines.f k l) true by
    obtain ⟨K, h⟩ := h
    exact ⟨K, h K (Nat.le_refl K)⟩
  unfold laws_FnExactLogLines.f
  by_cases hl : l.length ≤ 1048576
  · have hin : ∀ x ∈ l.map convD, InD x := by
      intro x hx
      obtain ⟨y, hy, rfl⟩ := List.mem_map.mp hx
      obtain ⟨a, b, c, e⟩ := hw y hy
      exact ⟨i64_of_wf a, i64_of_wf b, i64_of_wf c, i64_of_wf e⟩
    have hm : (l.map convD).length ≤ 1048576 := by simpa using hl
    have hs : (linesD (l.map convD)).1.length ≤ 1048576 := by
      unfold linesD
      split
      · simp
      · simpa using hl
    have conv := toDoneS l hl
    refine Ev.bindc (a := 1048576 - (l.length : Int)) ?_ (Ev.neg (by omega) ?_)
    · unfold laws_szDoneS.f
      rw [w64 (by omega) (by omega), if_neg (by omega)]
    refine Ev.bind conv (Ev.bind (log_spec _ hm hin) (Ev.bind conv (Ev.bind (log_impl _ hm hin) (Ev.bind (eqS _ hs) (Ev.pos rfl ?_)))))
    refine Ev.step (fun k => by simp only [laws_FnExactLogLines.j0]; rfl) ?_
    refine Ev.neg (by simp) (Ev.bind conv (Ev.bind (eqD _ hm) (Ev.pos rfl ?_)))
    obtain ⟨m, em, hm1⟩ := markD _ hm
    refine Ev.bind em (Ev.neg (by omega) (Ev.bind (eqS _ hs) (Ev.pos rfl ?_)))
    refine Ev.step (fun k => by simp only [laws_FnExactLogLines.j1]; rfl) ?_
    refine Ev.neg (by simp) (Ev.bind (markS _ hs) (Ev.bind (heldS _ hs) (Ev.neg (by omega) (Ev.pos rfl ?_))))
    refine Ev.bind conv (Ev.bind (log_impl _ hm hin) (Ev.bind (eqS _ hs) (Ev.pos rfl ?_)))
    refine Ev.step (fun k => by simp only [laws_FnExactLogLines.j2]; rfl) ?_
    exact Ev.neg (by simp) (Ev.bind (heldS _ hs) (Ev.neg (by omega) (Ev.pos rfl (Ev.lit rfl))))
  · unfold maxLen at hmax
    refine Ev.bindc (a := -1) ?_ (Ev.pos (by omega) (Ev.lit rfl))
    unfold laws_szDoneS.f
    rw [w64 (by omega) (by omega), if_pos (by omega)]
end Go.Proofs.YtkeoifkdejnpfaaDoor.Pu
