/- A number from low to high: the program's test and the reference's. -/
import Derived.Test.YtppfcmkadcoboaaDoorSlFnExactReadTaskRx0
import Derived.Test.YtppfcmkadcoboaaDoorSlFnExactReadTaskRx2
import Derived.Test.YtppfcmkadcoboaaDoorSlFnExactReadTaskRx5
import Derived.Test.YtppfcmkadcoboaaDoorSlFnExactReadTaskGvP
set_option linter.unusedVariables false
set_option linter.unusedSimpArgs false
namespace Go.Proofs.YtppfcmkadcoboaaDoor.Pu
open Go.RowKit Go.Proofs.YtppfcmkadcoboaaDoor.R Go.Proofs.YtppfcmkadcoboaaDoor.GivenP Go.Proofs.YtppfcmkadcoboaaDoorW.PrintWords Go.Proofs.YtppfcmkadcoboaaDoorW.PrintLast Go.Proofs.YtppfcmkadcoboaaDoorW.PrintMore

def inB (a b c : Int) : Bool := decide (b ≤ a ∧ a ≤ c)
theorem in_spec (a b c : Int) : spec_l01In.f a b c = some (inB a b c) := by
  unfold spec_l01In.f inB
  by_cases h : a ≥ b
  · rw [if_pos h]; simp [show b ≤ a from h]
  · rw [if_neg h]; simp [show ¬ b ≤ a from h]
theorem in_impl (a b c : Int) : impl_within.f a b c = some (inB a b c) := by
  unfold impl_within.f inB
  by_cases h : a ≥ b
  · rw [if_pos h]; simp [show b ≤ a from h]
  · rw [if_neg h]; simp [show ¬ b ≤ a from h]
end Go.Proofs.YtppfcmkadcoboaaDoor.Pu
