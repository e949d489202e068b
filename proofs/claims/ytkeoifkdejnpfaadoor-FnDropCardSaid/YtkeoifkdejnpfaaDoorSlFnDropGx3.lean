-- by gprint.py (a program of this session's own), over the kit's print.py; Lean checks it
import Derived.Test.YtkeoifkdejnpfaaDoorSlFnDropGx0
import Derived.Test.YtkeoifkdejnpfaaDoorSlFnDropGx1
namespace Go.Proofs.YtkeoifkdejnpfaaDoor.G
open Go.RowKit Go.Proofs.YtkeoifkdejnpfaaDoorW.PrintWords Go.Proofs.YtkeoifkdejnpfaaDoorW.PrintLast Go.Proofs.YtkeoifkdejnpfaaDoorW.PrintMore
attribute [local go_sem] max2_int min2_int max_two min_two max_three min_three max_four min_four   -- for this text's walks alone
set_option linter.unusedVariables false
set_option linter.unusedSimpArgs false

/-! ### impl_decimal: function 33 (given) -/
def impl_decimal.f (n : Int) : Option ByteArray := if GivenW.I64 n then some ⟨(Lib.itoa n).toArray⟩ else none
set_option maxHeartbeats 1000000 in
theorem impl_decimal.calls (a0 : Int) (r : ByteArray) (w : World) (hG : Glob w) (h : impl_decimal.f a0 = some r) :
    Calls Tryd.prog 33 #[.int .i64 a0] w fun e w' => e = .returned (.string r) ∧ Below w.heap.size w w' := by
  unfold impl_decimal.f at h
  split at h
  · rename_i hi
    have HI := Aside0.mk hi
    have HG := Aside0.mk hG
    obtain rfl := Option.some.inj h
    clear hi hG h
    go_enter Tryd.func33, Tryd.ntmps33
    go_wp2_with (go_at_call 57; refine (Tryd.strconv_Itoa a0 HI.out.1 HI.out.2 _ (HG.out _ (Below.refl _ _))).mono ?_; rintro e w' ⟨rfl, kk, os, rfl⟩)
    go_ret
    exact ⟨rfl, Lib.below_grow _ w (Nat.le_refl _) kk os⟩
  · simp at h

end Go.Proofs.YtkeoifkdejnpfaaDoor.G
