/- Sources over lists and numbers: the program's check and line of a source are the reference's. -/
import Derived.Test.YtkeoifkdejnpfaaDoorSlFnDropGx0
import Derived.Test.YtkeoifkdejnpfaaDoorSlFnDropGx13
import Derived.Test.YtkeoifkdejnpfaaDoorSlFnDropGx14
import Derived.Test.YtkeoifkdejnpfaaDoorSlFnDropGx15
import Derived.Test.YtkeoifkdejnpfaaDoorSlFnDropGx16
import Derived.Test.YtkeoifkdejnpfaaDoorSlFnDropGx17
import Derived.Test.YtkeoifkdejnpfaaDoorSlFnDropGvP
import Derived.Test.YtkeoifkdejnpfaaDoorSlFnDropPuDigits
import Derived.Test.YtkeoifkdejnpfaaDoorSlFnDropPuTask
set_option linter.unusedVariables false
set_option linter.unusedSimpArgs false
namespace Go.Proofs.YtkeoifkdejnpfaaDoor.Pu
open Go.RowKit Go.Proofs.YtkeoifkdejnpfaaDoor.G Go.Proofs.YtkeoifkdejnpfaaDoor.GivenP Go.Proofs.YtkeoifkdejnpfaaDoorW.PrintWords Go.Proofs.YtkeoifkdejnpfaaDoorW.PrintLast Go.Proofs.YtkeoifkdejnpfaaDoorW.PrintMore

theorem lit_size (a : Array UInt8) : ByteArray.size ⟨a⟩ = a.size := rfl
theorem rdI (l : List Int) (i : Nat) (h : i < l.length) : rd l (i : Int) = l[i] := by
  simp [rd, List.getD_eq_getElem?_getD, List.getElem?_eq_getElem h]
/-- The first loop of the reference's check: every count is a time, or the check says no. -/
theorem counts_spec (cs : List Int) (hl : cs.length ≤ 100) (m : Bool) (a0 a1 a2 a3 a4 a5 : Int) (w : List Int) (b0 b1 b2 b3 b4 b5 : Int) (r : Bool) (d : Nat) : ∀ (i : Nat), i + d = cs.length → (((cs.drop i).all fun x => inB x 0 2147483647) = true → Ev (fun k => spec_SourceOK.l0 k cs (cs.length : Int) a0 a1 a2 a3 a4 a5 w b0 b1 b2 b3 b4 b5) r) → (((cs.drop i).all fun x => inB x 0 2147483647) = false → r = false) → Ev (fun k => spec_SourceOK.l0 k cs (i : Int) a0 a1 a2 a3 a4 a5 w b0 b1 b2 b3 b4 b5) r := by
  induction d with
  | zero =>
    intro i hi hr hf
    rw [show i = cs.length from by omega] at hr ⊢
    exact hr (by simp)
  | succ d ih =>
    intro i hi hr hf
    have hb : i < cs.length := by omega
    rw [List.drop_eq_getElem_cons hb, List.all_cons] at hr hf
    refine Ev.step (fun k => by simp only [spec_SourceOK.l0]; rfl) ?_
    refine Ev.pos (by omega) (Ev.pos (by omega) (Ev.bindc (in_spec _ _ _) ?_))
    rw [rdI cs i hb, w64 (by omega) (by omega)]
    cases hq : inB cs[i] 0 2147483647 with
    | false =>
      rw [hq] at hf
      rw [hf (by simp)]
      exact Ev.neg (by simp) (Ev.lit rfl)
    | true =>
      rw [hq] at hr hf
      refine Ev.pos rfl ?_
      exact_mod_cast ih (i + 1) (by omega) (fun h => hr (by simpa using h)) (fun h => hf (by simpa using h))
theorem counts_impl (cs : List Int) : impl_all_time.f cs = some (cs.all fun x => inB x 0 2147483647) := by
  unfold impl_all_time.f
  induction cs with
  | nil => rfl
  | cons x r ih =>
    rw [GivenW.allO, ih, List.all_cons]
    unfold impl_all_time.p impl_isTime.f
    rw [in_impl]
    cases inB x 0 2147483647 <;> simp
theorem wait_loop (w : List Int) (hl : w.length ≤ 1048576) (a0 a1 a2 a3 a4 a5 : Int) (d : Nat) : ∀ (i : Nat), i + d = w.length → ∃ r, Ev (fun k => spec_SourceOK.l1 k (i : Int) a0 a1 a2 a3 a4 a5 w) r ∧ Ev (fun k => impl_SourceOK.l0 k w (w.length : Int) (i : Int) a0 a1 a2 a3 a4 a5 w) r := by
  induction d with
  | zero =>
    intro i hi
    refine ⟨true, Ev.step (fun k => by simp only [spec_SourceOK.l1]; rfl) ?_, Ev.step (fun k => by simp only [impl_SourceOK.l0]; rfl) ?_⟩
    · exact Ev.neg (by omega) (Ev.lit rfl)
    · exact Ev.neg (by omega) (Ev.lit rfl)
  | succ d ih =>
    intro i hi
    have hb : i < w.length := by omega
    have fst : ∀ r, Ev (fun k => if inB (rd w (i : Int)) 0 a0 = true then (if (i : Int) > 0 then (if 0 ≤ (wrap64 ((i : Int) - 1)) then (if (wrap64 ((i : Int) - 1)) < (w.length : Int) then (if (rd w (i : Int)) ≤ (rd w (wrap64 ((i : Int) - 1))) then (some false) else (spec_SourceOK.l1 k (wrap64 ((i : Int) + 1)) a0 a1 a2 a3 a4 a5 w)) else (none)) else (none)) else (spec_SourceOK.l1 k (wrap64 ((i : Int) + 1)) a0 a1 a2 a3 a4 a5 w)) else (some false)) r → Ev (fun k => spec_SourceOK.l1 k (i : Int) a0 a1 a2 a3 a4 a5 w) r := by
      intro r h
      refine Ev.step (fun k => by simp only [spec_SourceOK.l1]; rfl) ?_
      exact Ev.pos (by omega) (Ev.pos (by omega) (Ev.bindc (in_spec _ _ _) h))
    have snd : ∀ r, Ev (fun k => if inB (rd w (i : Int)) 0 a0 = true then (if (i : Int) > 0 then (if 0 ≤ (wrap64 ((i : Int) - 1)) then (if (wrap64 ((i : Int) - 1)) < (w.length : Int) then (if (rd w (i : Int)) ≤ (rd w (wrap64 ((i : Int) - 1))) then (some false) else (impl_SourceOK.l0 k w (w.length : Int) (wrap64 ((i : Int) + 1)) a0 a1 a2 a3 a4 a5 w)) else (none)) else (none)) else (impl_SourceOK.l0 k w (w.length : Int) (wrap64 ((i : Int) + 1)) a0 a1 a2 a3 a4 a5 w)) else (some false)) r → Ev (fun k => impl_SourceOK.l0 k w (w.length : Int) (i : Int) a0 a1 a2 a3 a4 a5 w) r := by
      intro r h
      refine Ev.step (fun k => by simp only [impl_SourceOK.l0]; rfl) ?_
      exact Ev.pos (by omega) (Ev.pos (by omega) (Ev.pos (by omega) (Ev.bindc (in_impl _ _ _) h)))
    obtain ⟨r, e1, e2⟩ := ih (i + 1) (by omega)
    rw [w64 (x := (i : Int) + 1) (by omega) (by omega)] at fst snd
    cases hq : inB (rd w (i : Int)) 0 a0 with
    | false => exact ⟨false, fst _ (Ev.neg (by simp [hq]) (Ev.lit rfl)), snd _ (Ev.neg (by simp [hq]) (Ev.lit rfl))⟩
    | true =>
      by_cases h0 : (i : Int) > 0
      · rw [w64 (x := (i : Int) - 1) (by omega) (by omega)] at fst snd
        by_cases hle : rd w (i : Int) ≤ rd w ((i : Int) - 1)
        · exact ⟨false, fst _ (Ev.pos hq (Ev.pos h0 (Ev.pos (by omega) (Ev.pos (by omega) (Ev.pos hle (Ev.lit rfl)))))), snd _ (Ev.pos hq (Ev.pos h0 (Ev.pos (by omega) (Ev.pos (by omega) (Ev.pos hle (Ev.lit rfl))))))⟩
        · refine ⟨r, fst _ (Ev.pos hq (Ev.pos h0 (Ev.pos (by omega) (Ev.pos (by omega) (Ev.neg hle ?_))))), snd _ (Ev.pos hq (Ev.pos h0 (Ev.pos (by omega) (Ev.pos (by omega) (Ev.neg hle ?_)))))⟩
          · exact_mod_cast e1
          · exact_mod_cast e2
      · refine ⟨r, fst _ (Ev.pos hq (Ev.neg h0 ?_)), snd _ (Ev.pos hq (Ev.neg h0 ?_))⟩
        · exact_mod_cast e1
        · exact_mod_cast e2
theorem sourceOK (a0 a1 a2 a3 a4 a5 : Int) (w : List Int) (b0 b1 b2 b3 b4 b5 : Int) (hl : w.length ≤ 1048576) : ∃ r, Ev (fun k => spec_SourceOK.f k a0 a1 a2 a3 a4 a5 w b0 b1 b2 b3 b4 b5) r ∧ Ev (fun k => impl_SourceOK.f k a0 a1 a2 a3 a4 a5 w b0 b1 b2 b3 b4 b5) r := by
  obtain ⟨r, e1, e2⟩ := wait_loop w hl a0 a1 a2 a3 a4 a5 w.length 0 (by omega)
  have j1 : ∀ b, Ev (fun k => spec_SourceOK.j1 k b a0 a1 a2 a3 a4 a5 w) (!b && r) := by
    intro b
    refine Ev.step (fun k => by simp only [spec_SourceOK.j1]; rfl) ?_
    cases b with
    | true => exact Ev.pos rfl (Ev.lit rfl)
    | false => exact Ev.neg (by simp) (by simpa using e1)
  have j2 : ∀ b, Ev (fun k => impl_SourceOK.j0 k b a0 a1 a2 a3 a4 a5 w) (!b && r) := by
    intro b
    refine Ev.step (fun k => by simp only [impl_SourceOK.j0]; rfl) ?_
    cases b with
    | true => exact Ev.pos rfl (Ev.lit rfl)
    | false => exact Ev.neg (by simp) (by simpa using e2)
  refine ⟨([a1, a2, a3, a4, a5].all fun x => inB x 0 2147483647) && (taskB b0 b1 b2 b3 b4 b5 && (inB a0 (-1) 2147483647 && (!(decide ((w.length : Int) > b4)) && r))), ?_, ?_⟩
  · unfold spec_SourceOK.f
    refine counts_spec [a1, a2, a3, a4, a5] (by simp) true a0 a1 a2 a3 a4 a5 w b0 b1 b2 b3 b4 b5 _ 5 0 rfl ?_ ?_
    · intro h
      rw [List.drop_zero] at h
      rw [h, Bool.true_and]
      refine Ev.step (fun k => by simp only [spec_SourceOK.l0]; rfl) ?_
      refine Ev.neg (by simp) (Ev.bind (task_spec _ _ _ _ _ _) ?_)
      cases taskB b0 b1 b2 b3 b4 b5 with
      | false => exact Ev.neg (by simp) (by simpa using j1 true)
      | true =>
        refine Ev.pos rfl (Ev.bindc (in_spec _ _ _) ?_)
        cases inB a0 (-1) 2147483647 with
        | false => exact Ev.neg (by simp) (by simpa using j1 true)
        | true => exact Ev.pos rfl (j1 _)
    · intro h
      rw [List.drop_zero] at h
      rw [h, Bool.false_and]
  · unfold impl_SourceOK.f
    refine Ev.bind (task_impl _ _ _ _ _ _) ?_
    cases taskB b0 b1 b2 b3 b4 b5 with
    | false => exact Ev.neg (by simp) (by simpa using j2 true)
    | true =>
      refine Ev.pos rfl (Ev.bindc (in_impl _ _ _) ?_)
      cases inB a0 (-1) 2147483647 with
      | false => exact Ev.neg (by simp) (by simpa using j2 true)
      | true =>
        refine Ev.pos rfl (Ev.bindc (counts_impl _) ?_)
        cases [a1, a2, a3, a4, a5].all fun x => inB x 0 2147483647 with
        | false => exact Ev.neg (by simp) (by simpa using j2 true)
        | true => exact Ev.pos rfl (by simpa using j2 (decide ((w.length : Int) > b4)))
def I64r (a : Int) : Prop := -9223372036854775808 ≤ a ∧ a ≤ 9223372036854775807
def srcT (a1 a2 a3 a4 a5 n : Int) : ByteArray := ((((((((((((⟨#[97, 114, 114, 105, 118, 101, 100, 32]⟩ : ByteArray) ++ dec a1) ++ (⟨#[32, 100, 111, 110, 101, 32]⟩ : ByteArray)) ++ dec a2) ++ (⟨#[32, 116, 104, 114, 111, 116, 116, 108, 101, 100, 32]⟩ : ByteArray)) ++ dec a3) ++ (⟨#[32, 108, 111, 115, 116, 32]⟩ : ByteArray)) ++ dec a4) ++ (⟨#[32, 100, 114, 111, 112, 112, 101, 100, 32]⟩ : ByteArray)) ++ dec a5) ++ (⟨#[32, 119, 97, 105, 116, 105, 110, 103, 32]⟩ : ByteArray)) ++ dec n)
theorem text_spec (a0 a1 a2 a3 a4 a5 : Int) (w : List Int) (hl : w.length ≤ 1048576) (h1 : I64r a1) (h2 : I64r a2) (h3 : I64r a3) (h4 : I64r a4) (h5 : I64r a5) : Ev (fun k => spec_l10Text.f k a0 a1 a2 a3 a4 a5 w) (srcT a1 a2 a3 a4 a5 (w.length : Int)) := by
  have hn : I64r (w.length : Int) := ⟨by omega, by omega⟩
  have s1 := dec_size _ h1
  have s2 := dec_size _ h2
  have s3 := dec_size _ h3
  have s4 := dec_size _ h4
  have s5 := dec_size _ h5
  have s6 := dec_size _ hn
  unfold spec_l10Text.f srcT
  refine Ev.bind (digits _ h1) ?_
  refine Ev.pos (by omega) (Ev.pos (by simp only [ByteArray.size_append, lit_size, List.size_toArray, List.length_cons, List.length_nil]; omega) (Ev.bind (digits _ h2) ?_))
  refine Ev.pos (by simp only [ByteArray.size_append, lit_size, List.size_toArray, List.length_cons, List.length_nil]; omega) (Ev.pos (by simp only [ByteArray.size_append, lit_size, List.size_toArray, List.length_cons, List.length_nil]; omega) (Ev.bind (digits _ h3) ?_))
  refine Ev.pos (by simp only [ByteArray.size_append, lit_size, List.size_toArray, List.length_cons, List.length_nil]; omega) (Ev.pos (by simp only [ByteArray.size_append, lit_size, List.size_toArray, List.length_cons, List.length_nil]; omega) (Ev.bind (digits _ h4) ?_))
  refine Ev.pos (by simp only [ByteArray.size_append, lit_size, List.size_toArray, List.length_cons, List.length_nil]; omega) (Ev.pos (by simp only [ByteArray.size_append, lit_size, List.size_toArray, List.length_cons, List.length_nil]; omega) (Ev.bind (digits _ h5) ?_))
  refine Ev.pos (by simp only [ByteArray.size_append, lit_size, List.size_toArray, List.length_cons, List.length_nil]; omega) (Ev.pos (by simp only [ByteArray.size_append, lit_size, List.size_toArray, List.length_cons, List.length_nil]; omega) (Ev.bind (digits _ hn) ?_))
  exact Ev.pos (by simp only [ByteArray.size_append, lit_size, List.size_toArray, List.length_cons, List.length_nil]; omega) (Ev.lit rfl)
theorem text_impl (a0 a1 a2 a3 a4 a5 : Int) (w : List Int) (hl : w.length ≤ 1048576) (h1 : I64r a1) (h2 : I64r a2) (h3 : I64r a3) (h4 : I64r a4) (h5 : I64r a5) : Ev (fun k => impl_sourceText.f a0 a1 a2 a3 a4 a5 w) (srcT a1 a2 a3 a4 a5 (w.length : Int)) := by
  have hn : I64r (w.length : Int) := ⟨by omega, by omega⟩
  have s1 := dec_size _ h1
  have s2 := dec_size _ h2
  have s3 := dec_size _ h3
  have s4 := dec_size _ h4
  have s5 := dec_size _ h5
  have s6 := dec_size _ hn
  unfold impl_sourceText.f srcT
  refine Ev.bindc (decimal _ h1) ?_
  refine Ev.pos (by omega) (Ev.pos (by simp only [ByteArray.size_append, lit_size, List.size_toArray, List.length_cons, List.length_nil]; omega) (Ev.bindc (decimal _ h2) ?_))
  refine Ev.pos (by simp only [ByteArray.size_append, lit_size, List.size_toArray, List.length_cons, List.length_nil]; omega) (Ev.pos (by simp only [ByteArray.size_append, lit_size, List.size_toArray, List.length_cons, List.length_nil]; omega) (Ev.bindc (decimal _ h3) ?_))
  refine Ev.pos (by simp only [ByteArray.size_append, lit_size, List.size_toArray, List.length_cons, List.length_nil]; omega) (Ev.pos (by simp only [ByteArray.size_append, lit_size, List.size_toArray, List.length_cons, List.length_nil]; omega) (Ev.bindc (decimal _ h4) ?_))
  refine Ev.pos (by simp only [ByteArray.size_append, lit_size, List.size_toArray, List.length_cons, List.length_nil]; omega) (Ev.pos (by simp only [ByteArray.size_append, lit_size, List.size_toArray, List.length_cons, List.length_nil]; omega) (Ev.bindc (decimal _ h5) ?_))
  refine Ev.pos (by simp only [ByteArray.size_append, lit_size, List.size_toArray, List.length_cons, List.length_nil]; omega) (Ev.pos (by simp only [ByteArray.size_append, lit_size, List.size_toArray, List.length_cons, List.length_nil]; omega) (Ev.bindc (decimal _ hn) ?_))
  exact Ev.pos (by simp only [ByteArray.size_append, lit_size, List.size_toArray, List.length_cons, List.length_nil]; omega) (Ev.lit rfl)
end Go.Proofs.YtkeoifkdejnpfaaDoor.Pu
