/- The law FnExactTaskText over numbers: the program's line of a task is the reference's. -/
import Derived.Test.YtkeoifkdejnpfaaDoorGx0
import Derived.Test.YtkeoifkdejnpfaaDoorSlFnExactTaskTextGx10
import Derived.Test.YtkeoifkdejnpfaaDoorSlFnExactTaskTextGx11
import Derived.Test.YtkeoifkdejnpfaaDoorSlFnExactTaskTextGx12
import Derived.Test.YtkeoifkdejnpfaaDoorGvP
import Derived.Test.YtkeoifkdejnpfaaDoorSlFnExactTaskTextPuDigits
import Derived.Test.YtkeoifkdejnpfaaDoorSlFnExactTaskTextPuTask
import Derived.Test.YtkeoifkdejnpfaaDoorSlFnExactTaskTextStFnExactTaskText
set_option linter.unusedVariables false
set_option linter.unusedSimpArgs false
namespace Go.Proofs.YtkeoifkdejnpfaaDoor.Pu
open Go.RowKit Go.Proofs.YtkeoifkdejnpfaaDoor.G Go.Proofs.YtkeoifkdejnpfaaDoor.GivenP Go.Proofs.YtkeoifkdejnpfaaDoorW.PrintWords Go.Proofs.YtkeoifkdejnpfaaDoorW.PrintLast Go.Proofs.YtkeoifkdejnpfaaDoorW.PrintMore

theorem lit_size (a : Array UInt8) : ByteArray.size ⟨a⟩ = a.size := rfl
def I64r (a : Int) : Prop := -9223372036854775808 ≤ a ∧ a ≤ 9223372036854775807
theorem rdI (l : List Int) (i : Nat) (h : i < l.length) : rd l (i : Int) = l[i] := by
  simp [rd, List.getD_eq_getElem?_getD, List.getElem?_eq_getElem h]
def joined (l : List ByteArray) : ByteArray := ⟨(Lib.join (l.map (·.data.toList)) ((⟨#[32]⟩ : ByteArray)).data.toList).toArray⟩
theorem lens_le (l : List ByteArray) (h : ∀ x ∈ l, x.size ≤ 21) : Lib.lens (l.map (·.data.toList)) ≤ 21 * l.length := by
  induction l with
  | nil => simp [Lib.lens]
  | cons x r ih =>
    have h1 := h x List.mem_cons_self
    have h2 := ih (fun y hy => h y (List.mem_cons_of_mem _ hy))
    rw [Lib.size_eq] at h1
    simp only [Lib.lens, List.map_cons, List.sum_cons, List.length_cons] at h2 ⊢
    omega
theorem join_ok (l : List ByteArray) (hl : l.length ≤ 100) (h : ∀ x ∈ l, x.size ≤ 21) : strings_Join.f l (⟨#[32]⟩ : ByteArray) = some (joined l) := by
  unfold strings_Join.f
  rw [if_pos]
  · rfl
  · refine ⟨by omega, ?_⟩
    cases l with
    | nil => simp [Lib.join_nil]
    | cons x r =>
      have := lens_le (x :: r) h
      rw [List.map_cons, Lib.join_length]
      rw [List.map_cons] at this
      simp only [List.length_map, List.length_cons, List.length_nil] at this hl ⊢
      omega
theorem numbers_loop (l : List Int) (hl : l.length ≤ 100) (hin : ∀ x ∈ l, I64r x) (d : Nat) : ∀ (acc : List ByteArray) (i : Nat), i + d = l.length → acc = (l.take i).map dec → Ev (fun k => impl_numbers.l0 k acc l (l.length : Int) (i : Int)) (joined (l.map dec)) := by
  induction d with
  | zero =>
    intro acc i hi ha
    refine Ev.step (fun k => by simp only [impl_numbers.l0]; rfl) ?_
    rw [List.take_of_length_le (by omega)] at ha
    subst ha
    refine Ev.neg (by omega) (Ev.bindc (join_ok _ (by simpa using hl) ?_) (Ev.lit rfl))
    intro x hx
    obtain ⟨y, hy, rfl⟩ := List.mem_map.mp hx
    exact dec_size y (hin y hy)
  | succ d ih =>
    intro acc i hi ha
    have hb : i < l.length := by omega
    have hal : acc.length = i := by rw [ha]; simp; omega
    refine Ev.step (fun k => by simp only [impl_numbers.l0]; rfl) ?_
    rw [rdI l i hb, w64 (by omega) (by omega)]
    refine Ev.pos (by omega) (Ev.pos (by omega) (Ev.pos (by omega) (Ev.bindc (decimal _ (hin _ (List.getElem_mem hb))) (Ev.pos (by omega) ?_))))
    have h := ih (acc ++ [dec l[i]]) (i + 1) (by omega) (by rw [List.take_succ_eq_append_getElem hb, List.map_append, ha]; rfl)
    exact_mod_cast h
theorem numbers (l : List Int) (hl : l.length ≤ 100) (hin : ∀ x ∈ l, I64r x) : Ev (fun k => impl_numbers.f k l) (joined (l.map dec)) := by
  unfold impl_numbers.f
  exact numbers_loop l hl hin l.length [] 0 (by omega) (by simp)
theorem cyclic_eq (a1 a2 a5 : Int) : (⟨#[99, 121, 99, 108, 105, 99, 32]⟩ : ByteArray) ++ joined ([a1, a2, a5].map dec) = (((((((⟨#[99, 121, 99, 108, 105, 99]⟩ : ByteArray) ++ (⟨#[32]⟩ : ByteArray)) ++ dec a1) ++ (⟨#[32]⟩ : ByteArray)) ++ dec a2) ++ (⟨#[32]⟩ : ByteArray)) ++ dec a5) := by
  apply ByteArray.ext
  apply Array.toList_inj.mp
  simp [joined, Lib.join_cons, Lib.joinTail]
theorem event_eq (a1 a2 a3 a4 a5 : Int) : (⟨#[101, 118, 101, 110, 116, 32]⟩ : ByteArray) ++ joined ([a1, a2, a3, a4, a5].map dec) = ((((((((⟨#[101, 118, 101, 110, 116]⟩ : ByteArray) ++ (⟨#[32]⟩ : ByteArray)) ++ dec a1) ++ (⟨#[32]⟩ : ByteArray)) ++ dec a2) ++ ((((⟨#[32]⟩ : ByteArray) ++ dec a3) ++ (⟨#[32]⟩ : ByteArray)) ++ dec a4)) ++ (⟨#[32]⟩ : ByteArray)) ++ dec a5) := by
  apply ByteArray.ext
  apply Array.toList_inj.mp
  simp [joined, Lib.join_cons, Lib.joinTail]
theorem spec_cyclic (a1 a2 a3 a4 a5 : Int) (h1 : I64r a1) (h2 : I64r a2) (h3 : I64r a3) (h4 : I64r a4) (h5 : I64r a5) : Ev (fun k => spec_l13Task.f k 1 a1 a2 a3 a4 a5) (((((((⟨#[99, 121, 99, 108, 105, 99]⟩ : ByteArray) ++ (⟨#[32]⟩ : ByteArray)) ++ dec a1) ++ (⟨#[32]⟩ : ByteArray)) ++ dec a2) ++ (⟨#[32]⟩ : ByteArray)) ++ dec a5) := by
  have s1 := dec_size _ h1
  have s2 := dec_size _ h2
  have s3 := dec_size _ h3
  have s4 := dec_size _ h4
  have s5 := dec_size _ h5
  unfold spec_l13Task.f
  rw [w64 (x := (1 : Int) - 1) (by omega) (by omega)]
  refine Ev.bindc rfl (Ev.pos (by omega) (Ev.pos (by decide) ?_))
  rw [show rdOf ByteArray.empty ([(⟨#[99, 121, 99, 108, 105, 99]⟩ : ByteArray), (⟨#[101, 118, 101, 110, 116]⟩ : ByteArray)] : List ByteArray) ((1 : Int) - 1) = (⟨#[99, 121, 99, 108, 105, 99]⟩ : ByteArray) from rfl]
  refine Ev.pos (by simp only [ByteArray.size_append, lit_size, List.size_toArray, List.length_cons, List.length_nil]; omega) (Ev.bind (digits _ h1) ?_)
  refine Ev.pos (by simp only [ByteArray.size_append, lit_size, List.size_toArray, List.length_cons, List.length_nil]; omega) (Ev.pos (by simp only [ByteArray.size_append, lit_size, List.size_toArray, List.length_cons, List.length_nil]; omega) (Ev.bind (digits _ h2) ?_))
  refine Ev.pos (by simp only [ByteArray.size_append, lit_size, List.size_toArray, List.length_cons, List.length_nil]; omega) (Ev.neg (by decide) ?_)
  refine Ev.pos (by simp only [ByteArray.size_append, lit_size, List.size_toArray, List.length_cons, List.length_nil]; omega) (Ev.bind (digits _ h5) ?_)
  exact Ev.pos (by simp only [ByteArray.size_append, lit_size, List.size_toArray, List.length_cons, List.length_nil]; omega) (Ev.lit rfl)
theorem spec_event (a1 a2 a3 a4 a5 : Int) (h1 : I64r a1) (h2 : I64r a2) (h3 : I64r a3) (h4 : I64r a4) (h5 : I64r a5) : Ev (fun k => spec_l13Task.f k 2 a1 a2 a3 a4 a5) ((((((((⟨#[101, 118, 101, 110, 116]⟩ : ByteArray) ++ (⟨#[32]⟩ : ByteArray)) ++ dec a1) ++ (⟨#[32]⟩ : ByteArray)) ++ dec a2) ++ ((((⟨#[32]⟩ : ByteArray) ++ dec a3) ++ (⟨#[32]⟩ : ByteArray)) ++ dec a4)) ++ (⟨#[32]⟩ : ByteArray)) ++ dec a5) := by
  have s1 := dec_size _ h1
  have s2 := dec_size _ h2
  have s3 := dec_size _ h3
  have s4 := dec_size _ h4
  have s5 := dec_size _ h5
  unfold spec_l13Task.f
  rw [w64 (x := (2 : Int) - 1) (by omega) (by omega)]
  refine Ev.bindc rfl (Ev.pos (by omega) (Ev.pos (by decide) ?_))
  rw [show rdOf ByteArray.empty ([(⟨#[99, 121, 99, 108, 105, 99]⟩ : ByteArray), (⟨#[101, 118, 101, 110, 116]⟩ : ByteArray)] : List ByteArray) ((2 : Int) - 1) = (⟨#[101, 118, 101, 110, 116]⟩ : ByteArray) from rfl]
  refine Ev.pos (by simp only [ByteArray.size_append, lit_size, List.size_toArray, List.length_cons, List.length_nil]; omega) (Ev.bind (digits _ h1) ?_)
  refine Ev.pos (by simp only [ByteArray.size_append, lit_size, List.size_toArray, List.length_cons, List.length_nil]; omega) (Ev.pos (by simp only [ByteArray.size_append, lit_size, List.size_toArray, List.length_cons, List.length_nil]; omega) (Ev.bind (digits _ h2) ?_))
  refine Ev.pos (by simp only [ByteArray.size_append, lit_size, List.size_toArray, List.length_cons, List.length_nil]; omega) (Ev.pos rfl (Ev.bind (digits _ h3) ?_))
  refine Ev.pos (by omega) (Ev.pos (by simp only [ByteArray.size_append, lit_size, List.size_toArray, List.length_cons, List.length_nil]; omega) (Ev.bind (digits _ h4) ?_))
  refine Ev.pos (by simp only [ByteArray.size_append, lit_size, List.size_toArray, List.length_cons, List.length_nil]; omega) (Ev.pos (by simp only [ByteArray.size_append, lit_size, List.size_toArray, List.length_cons, List.length_nil]; omega) (Ev.pos (by simp only [ByteArray.size_append, lit_size, List.size_toArray, List.length_cons, List.length_nil]; omega) (Ev.bind (digits _ h5) ?_)))
  exact Ev.pos (by simp only [ByteArray.size_append, lit_size, List.size_toArray, List.length_cons, List.length_nil]; omega) (Ev.lit rfl)
theorem impl_cyclic (a1 a2 a3 a4 a5 : Int) (h1 : I64r a1) (h2 : I64r a2) (h3 : I64r a3) (h4 : I64r a4) (h5 : I64r a5) : Ev (fun k => impl_taskText.f k 1 a1 a2 a3 a4 a5) (((((((⟨#[99, 121, 99, 108, 105, 99]⟩ : ByteArray) ++ (⟨#[32]⟩ : ByteArray)) ++ dec a1) ++ (⟨#[32]⟩ : ByteArray)) ++ dec a2) ++ (⟨#[32]⟩ : ByteArray)) ++ dec a5) := by
  have s1 := dec_size _ h1
  have s2 := dec_size _ h2
  have s3 := dec_size _ h3
  have s4 := dec_size _ h4
  have s5 := dec_size _ h5
  unfold impl_taskText.f
  refine Ev.pos rfl (Ev.bind (numbers _ (by simp) ?_) (Ev.pos ?_ (Ev.lit (congrArg some (cyclic_eq a1 a2 a5)))))
  · intro x hx
    simp at hx
    rcases hx with rfl | rfl | rfl <;> assumption
  · have e := congrArg ByteArray.size (cyclic_eq a1 a2 a5)
    simp only [ByteArray.size_append, lit_size, List.size_toArray, List.length_cons, List.length_nil] at e
    omega
theorem impl_event (a1 a2 a3 a4 a5 : Int) (h1 : I64r a1) (h2 : I64r a2) (h3 : I64r a3) (h4 : I64r a4) (h5 : I64r a5) : Ev (fun k => impl_taskText.f k 2 a1 a2 a3 a4 a5) ((((((((⟨#[101, 118, 101, 110, 116]⟩ : ByteArray) ++ (⟨#[32]⟩ : ByteArray)) ++ dec a1) ++ (⟨#[32]⟩ : ByteArray)) ++ dec a2) ++ ((((⟨#[32]⟩ : ByteArray) ++ dec a3) ++ (⟨#[32]⟩ : ByteArray)) ++ dec a4)) ++ (⟨#[32]⟩ : ByteArray)) ++ dec a5) := by
  have s1 := dec_size _ h1
  have s2 := dec_size _ h2
  have s3 := dec_size _ h3
  have s4 := dec_size _ h4
  have s5 := dec_size _ h5
  unfold impl_taskText.f
  refine Ev.neg (by decide) (Ev.bind (numbers _ (by simp) ?_) (Ev.pos ?_ (Ev.lit (congrArg some (event_eq a1 a2 a3 a4 a5)))))
  · intro x hx
    simp at hx
    rcases hx with rfl | rfl | rfl | rfl | rfl <;> assumption
  · have e := congrArg ByteArray.size (event_eq a1 a2 a3 a4 a5)
    simp only [ByteArray.size_append, lit_size, List.size_toArray, List.length_cons, List.length_nil] at e
    omega
theorem FnExactTaskText : laws_FnExactTaskText.Pure := by
  rintro ⟨a0, a1, a2, a3, a4, a5⟩ ⟨h0, h1, h2, h3, h4, h5⟩
  suffices h : Ev (fun k => laws_FnExactTaskText.f k a0 a1 a2 a3 a4 a5) true by
    obtain ⟨K, h⟩ := h
    exact ⟨K, h K (Nat.le_refl K)⟩
  unfold laws_FnExactTaskText.f
  have b1 : I64r a1 := i64_of_wf h1
  have b2 : I64r a2 := i64_of_wf h2
  have b3 : I64r a3 := i64_of_wf h3
  have b4 : I64r a4 := i64_of_wf h4
  have b5 : I64r a5 := i64_of_wf h5
  have both : ∃ v, Ev (fun k => spec_TaskText.f k a0 a1 a2 a3 a4 a5) v ∧ Ev (fun k => impl_TaskText.f k a0 a1 a2 a3 a4 a5) v := by
    have e1 := task_spec a0 a1 a2 a3 a4 a5
    have e2 := task_impl a0 a1 a2 a3 a4 a5
    cases hb : taskB a0 a1 a2 a3 a4 a5 with
    | false =>
      rw [hb] at e1 e2
      refine ⟨(⟨#[]⟩, 1), ?_, ?_⟩
      · unfold spec_TaskText.f
        exact Ev.bind e1 (Ev.neg (by simp) (Ev.lit rfl))
      · unfold impl_TaskText.f
        exact Ev.bind e2 (Ev.neg (by simp) (Ev.lit rfl))
    | true =>
      rw [hb] at e1 e2
      have hk : a0 = 1 ∨ a0 = 2 := by
        simp only [taskB, Bool.and_eq_true, kindB] at hb
        by_cases q1 : a0 = 1
        · exact .inl q1
        · by_cases q2 : a0 = 2
          · exact .inr q2
          · simp [q1, q2] at hb
      have both2 : ∃ v, Ev (fun k => spec_l13Task.f k a0 a1 a2 a3 a4 a5) v ∧ Ev (fun k => impl_taskText.f k a0 a1 a2 a3 a4 a5) v := by
        rcases hk with rfl | rfl
        · exact ⟨_, spec_cyclic a1 a2 a3 a4 a5 b1 b2 b3 b4 b5, impl_cyclic a1 a2 a3 a4 a5 b1 b2 b3 b4 b5⟩
        · exact ⟨_, spec_event a1 a2 a3 a4 a5 b1 b2 b3 b4 b5, impl_event a1 a2 a3 a4 a5 b1 b2 b3 b4 b5⟩
      obtain ⟨v, v1, v2⟩ := both2
      refine ⟨(v, 0), ?_, ?_⟩
      · unfold spec_TaskText.f
        exact Ev.bind e1 (Ev.pos rfl (Ev.bind v1 (Ev.lit rfl)))
      · unfold impl_TaskText.f
        exact Ev.bind e2 (Ev.pos rfl (Ev.bind v2 (Ev.lit rfl)))
  obtain ⟨v, v1, v2⟩ := both
  exact Ev.bindc rfl (Ev.bind v1 (Ev.bindc rfl (Ev.bind v2 (Ev.pos rfl (Ev.pos rfl (Ev.lit rfl))))))
end Go.Proofs.YtkeoifkdejnpfaaDoor.Pu
