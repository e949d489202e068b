/- Tasks and sources over numbers: the program's checks of a task are the reference's. -/
import Derived.Test.YtppfcmkadcoboaaDoorSlFnExactReadTaskRx0
import Derived.Test.YtppfcmkadcoboaaDoorSlFnExactReadTaskRx3
import Derived.Test.YtppfcmkadcoboaaDoorSlFnExactReadTaskRx6
import Derived.Test.YtppfcmkadcoboaaDoorSlFnExactReadTaskGvP
import Derived.Test.YtppfcmkadcoboaaDoorSlFnExactReadTaskPuIn
set_option linter.unusedVariables false
set_option linter.unusedSimpArgs false
namespace Go.Proofs.YtppfcmkadcoboaaDoor.Pu
open Go.RowKit Go.Proofs.YtppfcmkadcoboaaDoor.R Go.Proofs.YtppfcmkadcoboaaDoor.GivenP Go.Proofs.YtppfcmkadcoboaaDoorW.PrintWords Go.Proofs.YtppfcmkadcoboaaDoorW.PrintLast Go.Proofs.YtppfcmkadcoboaaDoorW.PrintMore

def kindB (a0 a1 a2 a3 a4 : Int) : Bool := if a0 = 1 then decide (a3 = 0) && (decide (a4 = 1) && decide (a2 ≤ a1)) else if a0 = 2 then inB a3 0 7 else false
def taskB (a0 a1 a2 a3 a4 a5 : Int) : Bool := inB a1 1 5000 && (inB a2 1 5000 && (inB a4 1 4 && (inB a5 0 5 && kindB a0 a1 a2 a3 a4)))
theorem task_spec_j (b : Bool) (a0 a1 a2 a3 a4 a5 : Int) : Ev (fun k => spec_TaskOK.j0 k b a0 a1 a2 a3 a4 a5) (!b && kindB a0 a1 a2 a3 a4) := by
  refine Ev.step (fun k => by simp only [spec_TaskOK.j0]; rfl) (Ev.lit ?_)
  simp only [in_spec, kindB]
  cases b <;> by_cases h0 : a0 = 1 <;> by_cases h2 : a0 = 2 <;> by_cases h3 : a3 = 0 <;> by_cases h4 : a4 = 1 <;> simp [h0, h2, h3, h4]
theorem task_impl_j (b : Bool) (a0 a1 a2 a3 a4 a5 : Int) : Ev (fun k => impl_TaskOK.j0 k b a0 a1 a2 a3 a4 a5) (!b && kindB a0 a1 a2 a3 a4) := by
  refine Ev.step (fun k => by simp only [impl_TaskOK.j0]; rfl) (Ev.lit ?_)
  simp only [in_impl, kindB]
  cases b <;> by_cases h0 : a0 = 1 <;> by_cases h2 : a0 = 2 <;> by_cases h3 : a3 = 0 <;> by_cases h4 : a4 = 1 <;> simp [h0, h2, h3, h4]
theorem task_spec (a0 a1 a2 a3 a4 a5 : Int) : Ev (fun k => spec_TaskOK.f k a0 a1 a2 a3 a4 a5) (taskB a0 a1 a2 a3 a4 a5) := by
  unfold spec_TaskOK.f taskB
  simp only [in_spec, Option.bind_some]
  cases inB a1 1 5000 <;> cases inB a2 1 5000 <;> cases inB a4 1 4 <;> cases inB a5 0 5 <;> simp <;> first | exact task_spec_j true a0 a1 a2 a3 a4 a5 | (have h := task_spec_j false a0 a1 a2 a3 a4 a5; simpa using h)
theorem task_impl (a0 a1 a2 a3 a4 a5 : Int) : Ev (fun k => impl_TaskOK.f k a0 a1 a2 a3 a4 a5) (taskB a0 a1 a2 a3 a4 a5) := by
  unfold impl_TaskOK.f taskB
  simp only [in_impl, Option.bind_some]
  cases inB a1 1 5000 <;> cases inB a2 1 5000 <;> cases inB a4 1 4 <;> cases inB a5 0 5 <;> simp <;> first | exact task_impl_j true a0 a1 a2 a3 a4 a5 | (have h := task_impl_j false a0 a1 a2 a3 a4 a5; simpa using h)
end Go.Proofs.YtppfcmkadcoboaaDoor.Pu
