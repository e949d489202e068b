/- The program's texts of several numbers, with blanks between. -/
import Derived.Test.YtppfcmkadcoboaaDoorSlFnExactDataLinesGx0
import Derived.Test.YtppfcmkadcoboaaDoorSlFnExactDataLinesGx8
import Derived.Test.YtppfcmkadcoboaaDoorSlFnExactDataLinesGvP
import Derived.Test.YtppfcmkadcoboaaDoorSlFnExactDataLinesPuDigits
set_option linter.unusedVariables false
set_option linter.unusedSimpArgs false
namespace Go.Proofs.YtppfcmkadcoboaaDoor.Pu
open Go.RowKit Go.Proofs.YtppfcmkadcoboaaDoor.G Go.Proofs.YtppfcmkadcoboaaDoor.GivenP Go.Proofs.YtppfcmkadcoboaaDoorW.PrintWords Go.Proofs.YtppfcmkadcoboaaDoorW.PrintLast Go.Proofs.YtppfcmkadcoboaaDoorW.PrintMore

def I64r (a : Int) : Prop := -9223372036854775808 ≤ a ∧ a ≤ 9223372036854775807
theorem rdI (l : List Int) (i : Nat) (h : i < l.length) : rd l (i : Int) = l[i] := by
  simp [rd, List.getD_eq_getElem?_getD, List.getElem?_eq_getElem h]
def joined (l : List ByteArray) : ByteArray := ⟨(Lib.join (l.map (·.data.toList)) ((⟨#[32]⟩ : ByteArray)).data.toList).toArray⟩
theorem lens_le (l : List ByteArray) (h : ∀ x ∈ l, x.size ≤ 21) : Lib.lens (l.map (·.data.toList)) ≤ 21 * l.length := by
  induction l with
  | nil => simp [Lib.lens]
  | cons x r ih =>
    have h1 := h x List.mem_cons_self
    have h2 := ih (fun y hy => h y (List.mem_cons_of_mem _ hy))
    rw [Lib.size_eq] at h1
    simp only [Lib.lens, List.map_cons, List.sum_cons, List.length_cons] at h2 ⊢
    omega
theorem join_ok (l : List ByteArray) (hl : l.length ≤ 100) (h : ∀ x ∈ l, x.size ≤ 21) : strings_Join.f l (⟨#[32]⟩ : ByteArray) = some (joined l) := by
  unfold strings_Join.f
  rw [if_pos]
  · rfl
  · refine ⟨by omega, ?_⟩
    cases l with
    | nil => simp [Lib.join_nil]
    | cons x r =>
      have := lens_le (x :: r) h
      rw [List.map_cons, Lib.join_length]
      rw [List.map_cons] at this
      simp only [List.length_map, List.length_cons, List.length_nil] at this hl ⊢
      omega
theorem numbers_loop (l : List Int) (hl : l.length ≤ 100) (hin : ∀ x ∈ l, I64r x) (d : Nat) : ∀ (acc : List ByteArray) (i : Nat), i + d = l.length → acc = (l.take i).map dec → Ev (fun k => impl_numbers.l0 k acc l (l.length : Int) (i : Int)) (joined (l.map dec)) := by
  induction d with
  | zero =>
    intro acc i hi ha
    refine Ev.step (fun k => by simp only [impl_numbers.l0]; rfl) ?_
    rw [List.take_of_length_le (by omega)] at ha
    subst ha
    refine Ev.neg (by omega) (Ev.bindc (join_ok _ (by simpa using hl) ?_) (Ev.lit rfl))
    intro x hx
    obtain ⟨y, hy, rfl⟩ := List.mem_map.mp hx
    exact dec_size y (hin y hy)
  | succ d ih =>
    intro acc i hi ha
    have hb : i < l.length := by omega
    have hal : acc.length = i := by rw [ha]; simp; omega
    refine Ev.step (fun k => by simp only [impl_numbers.l0]; rfl) ?_
    rw [rdI l i hb, w64 (by omega) (by omega)]
    refine Ev.pos (by omega) (Ev.pos (by omega) (Ev.pos (by omega) (Ev.bindc (decimal _ (hin _ (List.getElem_mem hb))) (Ev.pos (by omega) ?_))))
    have h := ih (acc ++ [dec l[i]]) (i + 1) (by omega) (by rw [List.take_succ_eq_append_getElem hb, List.map_append, ha]; rfl)
    exact_mod_cast h
theorem numbers (l : List Int) (hl : l.length ≤ 100) (hin : ∀ x ∈ l, I64r x) : Ev (fun k => impl_numbers.f k l) (joined (l.map dec)) := by
  unfold impl_numbers.f
  exact numbers_loop l hl hin l.length [] 0 (by omega) (by simp)
end Go.Proofs.YtppfcmkadcoboaaDoor.Pu
