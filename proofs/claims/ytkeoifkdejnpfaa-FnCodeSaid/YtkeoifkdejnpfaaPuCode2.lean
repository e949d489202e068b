/- Both encoders of code that is valid and short give the same text. -/
import Derived.Test.YtkeoifkdejnpfaaGx0
import Derived.Test.YtkeoifkdejnpfaaGx7
import Derived.Test.YtkeoifkdejnpfaaGx8
import Derived.Test.YtkeoifkdejnpfaaGx9
import Derived.Test.YtkeoifkdejnpfaaGvP
import Derived.Test.YtkeoifkdejnpfaaPuCode
set_option linter.unusedVariables false
set_option linter.unusedSimpArgs false
namespace Go.Proofs.Ytkeoifkdejnpfaa.Pu
open Go.RowKit Go.Proofs.Ytkeoifkdejnpfaa.G Go.Proofs.Ytkeoifkdejnpfaa.GivenP Go.Proofs.YtkeoifkdejnpfaaW.PrintWords Go.Proofs.YtkeoifkdejnpfaaW.PrintLast Go.Proofs.YtkeoifkdejnpfaaW.PrintMore

theorem rd54 (l : List S54) (i : Nat) (h : i < l.length) : rd_T54 l (i : Int) = l[i] := by
  simp [rd_T54, List.getD_eq_getElem?_getD, List.getElem?_eq_getElem h]
theorem codeB_cons (e : S54) (r : List S54) : codeB (e :: r) = opB e ++ argB e ++ codeB r := by simp [codeB]
theorem mk_app (a b : List UInt8) : (⟨a.toArray⟩ : ByteArray) ++ (⟨b.toArray⟩ : ByteArray) = ⟨(a ++ b).toArray⟩ := by
  apply ByteArray.ext
  simp
theorem bytes_loop (l : List S54) (hl : l.length ≤ 1000) (d : Nat) : ∀ (acc : List UInt8) (i : Nat), i + d = l.length → acc.length ≤ 5 * i → Ev (fun k => spec_l02Bytes.l0 k l (⟨acc.toArray⟩ : ByteArray) (i : Int)) (⟨(acc ++ codeB (l.drop i)).toArray⟩ : ByteArray) := by
  induction d with
  | zero =>
    intro acc i hi ha
    refine Ev.step (fun k => by simp only [spec_l02Bytes.l0]; rfl) ?_
    rw [List.drop_eq_nil_of_le (by omega)]
    exact Ev.neg (by omega) (Ev.lit (by simp [codeB]))
  | succ d ih =>
    intro acc i hi ha
    have hb : i < l.length := by omega
    refine Ev.step (fun k => by simp only [spec_l02Bytes.l0]; rfl) ?_
    rw [rd54 l i hb, w64 (by omega) (by omega), List.drop_eq_getElem_cons hb, codeB_cons]
    have s0 : ByteArray.size ⟨acc.toArray⟩ = acc.length := size_data acc
    have s1 : ByteArray.size ⟨#[UInt8.ofNat (l[i].f0 % 256).toNat]⟩ = 1 := rfl
    have s4 : ByteArray.size ⟨(le4 l[i].f1).toArray⟩ = 4 := rfl
    have m1 : (⟨acc.toArray⟩ : ByteArray) ++ (⟨#[UInt8.ofNat (l[i].f0 % 256).toNat]⟩ : ByteArray) = ⟨(acc ++ opB l[i]).toArray⟩ := mk_app acc (opB l[i])
    refine Ev.pos (by omega) (Ev.pos (by omega) (Ev.bind (put1_spec _) (Ev.pos (by rw [s0, s1]; omega) (Ev.bind (range_spec _) ?_))))
    rw [m1]
    by_cases hh : (rangeP l[i].f0).2.2 = true
    · refine Ev.pos hh (Ev.bind (put_spec _) (Ev.pos ?_ ?_))
      · rw [size_data, s4]; simp [opB]; omega
      · rw [mk_app]
        have h := ih (acc ++ opB l[i] ++ le4 l[i].f1) (i + 1) (by omega) (by simp [opB, le4]; omega)
        have e : acc ++ (opB l[i] ++ argB l[i] ++ codeB (l.drop (i + 1))) = acc ++ opB l[i] ++ le4 l[i].f1 ++ codeB (l.drop (i + 1)) := by rw [argB, if_pos hh]; simp
        rw [e]
        exact_mod_cast h
    · refine Ev.neg hh ?_
      have h := ih (acc ++ opB l[i]) (i + 1) (by omega) (by simp [opB]; omega)
      have e : acc ++ (opB l[i] ++ argB l[i] ++ codeB (l.drop (i + 1))) = acc ++ opB l[i] ++ codeB (l.drop (i + 1)) := by rw [argB, if_neg hh]; simp
      rw [e]
      exact_mod_cast h
theorem inS (a b c : Int) (h : b ≤ a ∧ a ≤ c) : spec_l01In.f a b c = some true := by
  unfold spec_l01In.f
  rw [if_pos h.1]
  simp [h.2]
theorem inI (a b c : Int) (h : b ≤ a ∧ a ≤ c) : impl_within.f a b c = some true := by
  unfold impl_within.f
  rw [if_pos h.1]
  simp [h.2]
theorem okS (x a : Int) (h : okI x a) : Ev (fun k => spec_l02OK.f k x a) true := by
  unfold spec_l02OK.f
  have h1 : spec_l02Op.f x = some true := by unfold spec_l02Op.f; rw [inS _ _ _ ⟨h.1, h.2.1⟩]; rfl
  exact Ev.bindc h1 (Ev.pos rfl (Ev.bind (range_spec x) (Ev.bindc (inS _ _ _ ⟨h.2.2.1, h.2.2.2⟩) (Ev.lit rfl))))
theorem okJ (x a : Int) (h : okI x a) : Ev (fun k => impl_InstrOK.f k x a) true := by
  unfold impl_InstrOK.f
  have h1 : impl_isOp.f x = some true := by unfold impl_isOp.f; rw [inI _ _ _ ⟨h.1, h.2.1⟩]; rfl
  exact Ev.bind (range_impl x) (Ev.bindc h1 (Ev.pos rfl (Ev.bindc (inI _ _ _ ⟨h.2.2.1, h.2.2.2⟩) (Ev.lit rfl))))
theorem all_loop (l : List S54) (hl : l.length ≤ 1000) (ho : okL l) (d : Nat) : ∀ (i : Nat), i + d = l.length → Ev (fun k => spec_l02All.l0 k l (i : Int)) true := by
  induction d with
  | zero =>
    intro i hi
    refine Ev.step (fun k => by simp only [spec_l02All.l0]; rfl) ?_
    exact Ev.neg (by omega) (Ev.lit rfl)
  | succ d ih =>
    intro i hi
    have hb : i < l.length := by omega
    refine Ev.step (fun k => by simp only [spec_l02All.l0]; rfl) ?_
    rw [rd54 l i hb, w64 (by omega) (by omega)]
    refine Ev.pos (by omega) (Ev.pos (by omega) (Ev.bind (okS _ _ (ho _ (List.getElem_mem hb))) (Ev.pos rfl ?_)))
    exact_mod_cast ih (i + 1) (by omega)
theorem codeText_spec (l : List S54) (hl : l.length ≤ 40) (ho : okL l) : Ev (fun k => spec_CodeText.f k l) ((⟨(codeB l).toArray⟩ : ByteArray), 0) := by
  unfold spec_CodeText.f
  refine Ev.neg (by omega) (Ev.neg (by omega) (Ev.bind (a := true) ?_ (Ev.pos rfl (Ev.bind (a := (⟨(codeB l).toArray⟩ : ByteArray)) ?_ (Ev.lit rfl)))))
  · unfold spec_l02All.f
    exact all_loop l (by omega) ho l.length 0 (by omega)
  · unfold spec_l02Bytes.f
    have h := bytes_loop l (by omega) l.length [] 0 (by omega) (by simp)
    simpa using h
end Go.Proofs.Ytkeoifkdejnpfaa.Pu
