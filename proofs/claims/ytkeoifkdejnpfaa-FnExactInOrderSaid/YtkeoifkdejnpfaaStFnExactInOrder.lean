/- The pure statement of the law FnExactInOrder, and how its arguments open. -/
import Derived.Test.YtkeoifkdejnpfaaGx4
import Derived.Test.YtkeoifkdejnpfaaGvO
namespace Go.Proofs.Ytkeoifkdejnpfaa.G
open Go.RowKit Go.Proofs.YtkeoifkdejnpfaaW.PrintWords Go.Proofs.YtkeoifkdejnpfaaW.PrintLast Go.Proofs.YtkeoifkdejnpfaaW.PrintMore
set_option linter.unusedVariables false
def W43 (y : S43) : Prop := ((Lit.int .i64 y.f0).wf = true) ∧ ((Lit.int .i64 y.f1).wf = true) ∧ ((Lit.int .i64 y.f2).wf = true) ∧ ((Lit.int .i64 y.f3).wf = true)
theorem op43 : GivenO.Opens Try.prog 43 k43 W43 :=
  GivenO.Opens.struct (d := (Kd.pair (Kd.int .i64) (Kd.pair (Kd.int .i64) (Kd.pair (Kd.int .i64) (Kd.int .i64))))) (f := fun x : S43 => (x.f0, x.f1, x.f2, x.f3)) (g := fun p => ⟨p.1, p.2.1, p.2.2.1, p.2.2.2⟩) (fun _ => rfl) Try.underlying43 (by kernel_rfl) (GivenO.OpensAt.cons rfl (by kernel_rfl) (GivenO.Opens.int (P := Try.prog) Try.underlying3) (GivenO.OpensAt.cons rfl (by kernel_rfl) (GivenO.Opens.int (P := Try.prog) Try.underlying3) (GivenO.OpensAt.cons rfl (by kernel_rfl) (GivenO.Opens.int (P := Try.prog) Try.underlying3) (GivenO.OpensAt.last rfl (by kernel_rfl) (GivenO.Opens.int (P := Try.prog) Try.underlying3)))))
def laws_FnExactInOrder.Pure : Prop := ∀ (x0 : List (S43)), (x0.length ≤ maxLen ∧ ∀ x_ ∈ x0, W43 x_) → ∃ k, laws_FnExactInOrder.f k x0 = some true
end Go.Proofs.Ytkeoifkdejnpfaa.G
