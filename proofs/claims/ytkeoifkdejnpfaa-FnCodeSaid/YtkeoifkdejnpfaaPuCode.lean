/- The bytes of code: both encoders write the same. -/
import Derived.Test.YtkeoifkdejnpfaaGx0
import Derived.Test.YtkeoifkdejnpfaaGx8
import Derived.Test.YtkeoifkdejnpfaaGx9
import Derived.Test.YtkeoifkdejnpfaaGvP
import Derived.Test.YtkeoifkdejnpfaaPuSome
set_option linter.unusedVariables false
set_option linter.unusedSimpArgs false
namespace Go.Proofs.Ytkeoifkdejnpfaa.Pu
open Go.RowKit Go.Proofs.Ytkeoifkdejnpfaa.G Go.Proofs.Ytkeoifkdejnpfaa.GivenP Go.Proofs.YtkeoifkdejnpfaaW.PrintWords Go.Proofs.YtkeoifkdejnpfaaW.PrintLast Go.Proofs.YtkeoifkdejnpfaaW.PrintMore

def le4 (a : Int) : List UInt8 := [UInt8.ofNat (a % 256).toNat, UInt8.ofNat (a / 256 % 256).toNat, UInt8.ofNat (a / 256 / 256 % 256).toNat, UInt8.ofNat (a / 256 / 256 / 256 % 256).toNat]
def opB (e : S54) : List UInt8 := [UInt8.ofNat (e.f0 % 256).toNat]
def argB (e : S54) : List UInt8 := if (rangeP e.f0).2.2 = true then le4 e.f1 else []
def codeB (l : List S54) : List UInt8 := (l.map fun e => opB e ++ argB e).flatten
theorem put_impl (a : Int) : Ev (fun k => impl_put.f k a 4) (⟨(le4 a).toArray⟩ : ByteArray) := by
  unfold impl_put.f
  have W : ∀ x : Int, 0 ≤ x → x ≤ 10 → wrap64 (x + 1) = x + 1 := fun x h0 h1 => w64 (by omega) (by omega)
  refine Ev.step (fun k => by simp only [impl_put.l0]; rfl) (Ev.pos (by omega) (Ev.pos (by simp) ?_))
  rw [W _ (by omega) (by omega)]
  refine Ev.step (fun k => by simp only [impl_put.l0]; rfl) (Ev.pos (by omega) (Ev.pos (by simp) ?_))
  rw [W _ (by omega) (by omega)]
  refine Ev.step (fun k => by simp only [impl_put.l0]; rfl) (Ev.pos (by omega) (Ev.pos (by simp) ?_))
  rw [W _ (by omega) (by omega)]
  refine Ev.step (fun k => by simp only [impl_put.l0]; rfl) (Ev.pos (by omega) (Ev.pos (by simp) ?_))
  rw [W _ (by omega) (by omega)]
  refine Ev.step (fun k => by simp only [impl_put.l0]; rfl) (Ev.neg (by omega) (Ev.lit ?_))
  rfl
theorem u64w (a : Int) : IntKind.u64.wrap a = a % 18446744073709551616 := by
  first | rfl | (unfold IntKind.wrap; simp [IntKind.bits])
theorem le4_u64 (a : Int) : le4 (a % 18446744073709551616) = le4 a := by
  unfold le4
  rw [show a % 18446744073709551616 % 256 = a % 256 from by omega, show a % 18446744073709551616 / 256 % 256 = a / 256 % 256 from by omega, show a % 18446744073709551616 / 256 / 256 % 256 = a / 256 / 256 % 256 from by omega, show a % 18446744073709551616 / 256 / 256 / 256 % 256 = a / 256 / 256 / 256 % 256 from by omega]
theorem put_spec (a : Int) : Ev (fun k => spec_l01Put.f k a 4) (⟨(le4 a).toArray⟩ : ByteArray) := by
  unfold spec_l01Put.f
  rw [u64w, ← le4_u64 a]
  have W : ∀ x : Int, 0 ≤ x → x ≤ 10 → wrap64 (x + 1) = x + 1 := fun x h0 h1 => w64 (by omega) (by omega)
  refine Ev.step (fun k => by simp only [spec_l01Put.l0]; rfl) (Ev.pos (by omega) (Ev.pos (by simp) ?_))
  rw [W _ (by omega) (by omega)]
  refine Ev.step (fun k => by simp only [spec_l01Put.l0]; rfl) (Ev.pos (by omega) (Ev.pos (by simp) ?_))
  rw [W _ (by omega) (by omega)]
  refine Ev.step (fun k => by simp only [spec_l01Put.l0]; rfl) (Ev.pos (by omega) (Ev.pos (by simp) ?_))
  rw [W _ (by omega) (by omega)]
  refine Ev.step (fun k => by simp only [spec_l01Put.l0]; rfl) (Ev.pos (by omega) (Ev.pos (by simp) ?_))
  rw [W _ (by omega) (by omega)]
  refine Ev.step (fun k => by simp only [spec_l01Put.l0]; rfl) (Ev.neg (by omega) (Ev.lit ?_))
  rfl
theorem put1_spec (a : Int) : Ev (fun k => spec_l01Put.f k a 1) (⟨#[UInt8.ofNat (a % 256).toNat]⟩ : ByteArray) := by
  unfold spec_l01Put.f
  rw [u64w, ← show a % 18446744073709551616 % 256 = a % 256 from by omega]
  have W : ∀ x : Int, 0 ≤ x → x ≤ 10 → wrap64 (x + 1) = x + 1 := fun x h0 h1 => w64 (by omega) (by omega)
  refine Ev.step (fun k => by simp only [spec_l01Put.l0]; rfl) (Ev.pos (by omega) (Ev.pos (by simp) ?_))
  rw [W _ (by omega) (by omega)]
  refine Ev.step (fun k => by simp only [spec_l01Put.l0]; rfl) (Ev.neg (by omega) (Ev.lit ?_))
  rfl
theorem hasOp (x : Int) : Ev (fun k => impl_hasOperand.f k x) (rangeP x).2.2 := by
  unfold impl_hasOperand.f
  exact Ev.bind (range_impl x) (Ev.lit rfl)
theorem goE (l : List S54) : ∀ (acc : List UInt8), acc.length + 5 * l.length ≤ 1000000 → Ev (fun k => impl_codeText.go k l acc) (acc ++ codeB l) := by
  induction l with
  | nil =>
    intro acc _
    exact Ev.lit (by simp [impl_codeText.go, codeB])
  | cons e r ih =>
    intro acc ha
    simp only [List.length_cons] at ha
    unfold impl_codeText.go
    have hc : codeB (e :: r) = opB e ++ argB e ++ codeB r := by simp [codeB]
    refine Ev.pos (by omega) (Ev.bind (hasOp _) ?_)
    by_cases hh : (rangeP e.f0).2.2 = true
    · refine Ev.pos hh (Ev.bind (put_impl _) (Ev.pos ?_ ?_))
      · rw [show ByteArray.size ⟨(le4 e.f1).toArray⟩ = 4 from rfl]; omega
      · have h := ih (acc ++ [UInt8.ofNat (e.f0 % 256).toNat] ++ le4 e.f1) (by simp [le4]; omega)
        rw [hc, opB, argB, if_pos hh]
        simpa using h
    · refine Ev.neg hh ?_
      have h := ih (acc ++ [UInt8.ofNat (e.f0 % 256).toNat]) (by simp; omega)
      rw [hc, opB, argB, if_neg hh]
      simpa using h
theorem codeText_impl (l : List S54) (hl : l.length ≤ 1000) : Ev (fun k => impl_codeText.f k l) (⟨(codeB l).toArray⟩ : ByteArray) := by
  unfold impl_codeText.f
  have h := goE l [] (by simp; omega)
  exact Ev.bind (by simpa using h) (Ev.lit rfl)
end Go.Proofs.Ytkeoifkdejnpfaa.Pu
