/- The program's encoder on code that is valid and short. -/
import Derived.Test.YtkeoifkdejnpfaaGx0
import Derived.Test.YtkeoifkdejnpfaaGx2
import Derived.Test.YtkeoifkdejnpfaaGx6
import Derived.Test.YtkeoifkdejnpfaaGx7
import Derived.Test.YtkeoifkdejnpfaaGx8
import Derived.Test.YtkeoifkdejnpfaaGvP
import Derived.Test.YtkeoifkdejnpfaaPuCode2
set_option linter.unusedVariables false
set_option linter.unusedSimpArgs false
namespace Go.Proofs.Ytkeoifkdejnpfaa.Pu
open Go.RowKit Go.Proofs.Ytkeoifkdejnpfaa.G Go.Proofs.Ytkeoifkdejnpfaa.GivenP Go.Proofs.YtkeoifkdejnpfaaW.PrintWords Go.Proofs.YtkeoifkdejnpfaaW.PrintLast Go.Proofs.YtkeoifkdejnpfaaW.PrintMore

theorem allE (l : List S54) (ho : okL l) : Ev (fun k => impl_all_instr.f k l) true := by
  unfold impl_all_instr.f
  induction l with
  | nil => exact Ev.lit rfl
  | cons e r ih =>
    have h1 : Ev (fun k => impl_all_instr.p k e) true := okJ _ _ (ho e List.mem_cons_self)
    exact Ev.bind (g := fun k => impl_all_instr.p k e) h1 (Ev.pos rfl (ih (fun x hx => ho x (List.mem_cons_of_mem _ hx))))
theorem firstE (l : List Int) (hl : l.length ≤ 10) (h0 : ∀ x ∈ l, x = 0) (d : Nat) : ∀ (i : Nat), i + d = l.length → Ev (fun k => impl_first.l0 k l (l.length : Int) (i : Int)) 0 := by
  induction d with
  | zero =>
    intro i hi
    refine Ev.step (fun k => by simp only [impl_first.l0]; rfl) ?_
    exact Ev.neg (by omega) (Ev.lit rfl)
  | succ d ih =>
    intro i hi
    have hb : i < l.length := by omega
    have hr : rd l (i : Int) = 0 := by
      unfold rd
      rw [Int.toNat_natCast, List.getD_eq_getElem?_getD, List.getElem?_eq_getElem hb]
      exact h0 _ (List.getElem_mem hb)
    refine Ev.step (fun k => by simp only [impl_first.l0]; rfl) ?_
    rw [hr, w64 (by omega) (by omega)]
    refine Ev.pos (by omega) (Ev.pos (by omega) (Ev.pos (by omega) (Ev.pos rfl ?_)))
    exact_mod_cast ih (i + 1) (by omega)
theorem first (l : List Int) (hl : l.length ≤ 10) (h0 : ∀ x ∈ l, x = 0) : Ev (fun k => impl_first.f k l) 0 := by
  unfold impl_first.f
  exact firstE l hl h0 l.length 0 (by omega)
theorem whenF (n : Int) : impl_when.f false n = some 0 := by simp [impl_when.f]
theorem codeText_impl2 (l : List S54) (hl : l.length ≤ 40) (ho : okL l) : Ev (fun k => impl_CodeText.f k l) ((⟨(codeB l).toArray⟩ : ByteArray), 0) := by
  unfold impl_CodeText.f
  have d1 : decide ((l.length : Int) > 4096) = false := decide_eq_false (by omega)
  have d2 : decide ((l.length : Int) > 40) = false := decide_eq_false (by omega)
  have e1 : impl_Instr_22.f l = some 0 := by unfold impl_Instr_22.f; rw [d1, whenF]; rfl
  rw [d2, whenF]
  refine Ev.bindc e1 (Ev.bindc rfl (Ev.bind (allE l ho) (Ev.bindc (a := 0) (whenF 1) (Ev.bind (first _ (by simp) (by simp)) (Ev.pos rfl (Ev.bind (codeText_impl l (by omega)) (Ev.lit rfl)))))))
end Go.Proofs.Ytkeoifkdejnpfaa.Pu
