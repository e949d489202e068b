/- The pure statement of the law FnExactLogLines, and how its arguments open. -/
import Derived.Test.YtkeoifkdejnpfaaDoorGx8
import Derived.Test.YtkeoifkdejnpfaaDoorGvO
namespace Go.Proofs.YtkeoifkdejnpfaaDoor.G
open Go.RowKit Go.Proofs.YtkeoifkdejnpfaaDoorW.PrintWords Go.Proofs.YtkeoifkdejnpfaaDoorW.PrintLast Go.Proofs.YtkeoifkdejnpfaaDoorW.PrintMore
set_option linter.unusedVariables false
def W63 (y : S63) : Prop := ((Lit.int .i64 y.f0).wf = true) ∧ ((Lit.int .i64 y.f1).wf = true) ∧ ((Lit.int .i64 y.f2).wf = true) ∧ ((Lit.int .i64 y.f3).wf = true)
theorem op63 : GivenO.Opens Tryd.prog 63 k63 W63 :=
  GivenO.Opens.struct (d := (Kd.pair (Kd.int .i64) (Kd.pair (Kd.int .i64) (Kd.pair (Kd.int .i64) (Kd.int .i64))))) (f := fun x : S63 => (x.f0, x.f1, x.f2, x.f3)) (g := fun p => ⟨p.1, p.2.1, p.2.2.1, p.2.2.2⟩) (fun _ => rfl) Tryd.underlying63 (by kernel_rfl) (GivenO.OpensAt.cons rfl (by kernel_rfl) (GivenO.Opens.int (P := Tryd.prog) Tryd.underlying3) (GivenO.OpensAt.cons rfl (by kernel_rfl) (GivenO.Opens.int (P := Tryd.prog) Tryd.underlying3) (GivenO.OpensAt.cons rfl (by kernel_rfl) (GivenO.Opens.int (P := Tryd.prog) Tryd.underlying3) (GivenO.OpensAt.last rfl (by kernel_rfl) (GivenO.Opens.int (P := Tryd.prog) Tryd.underlying3)))))
def laws_FnExactLogLines.Pure : Prop := ∀ (x0 : List (S63)), (x0.length ≤ maxLen ∧ ∀ x_ ∈ x0, W63 x_) → ∃ k, laws_FnExactLogLines.f k x0 = some true
end Go.Proofs.YtkeoifkdejnpfaaDoor.G
