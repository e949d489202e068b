/- Four bytes of an operand read back. -/
import Derived.Test.YtkeoifkdejnpfaaGx0
import Derived.Test.YtkeoifkdejnpfaaGx9
import Derived.Test.YtkeoifkdejnpfaaGvP
import Derived.Test.YtkeoifkdejnpfaaPuCode3
set_option linter.unusedVariables false
set_option linter.unusedSimpArgs false
namespace Go.Proofs.Ytkeoifkdejnpfaa.Pu
open Go.RowKit Go.Proofs.Ytkeoifkdejnpfaa.G Go.Proofs.Ytkeoifkdejnpfaa.GivenP Go.Proofs.YtkeoifkdejnpfaaW.PrintWords Go.Proofs.YtkeoifkdejnpfaaW.PrintLast Go.Proofs.YtkeoifkdejnpfaaW.PrintMore

theorem orE (x b : Int) (h0 : 0 ≤ x) (h1 : x < 1099511627776) (b0 : 0 ≤ b) (b1 : b < 256) : Go.bits .or .i64 (x * 256) b = x * 256 + b :=
  bits_join .i64 60 (by decide) (fun n h0 h1 => by have := w64 (x := n) (by omega) (by omega); unfold wrap64 at this; unfold IntKind.wrap; simp [IntKind.bits]; omega) 8 (x * 256) b (by omega) (by omega) (by omega) b0 (by omega) (by omega)
theorem u8n (n : Int) : ((UInt8.ofNat (n % 256).toNat).toNat : Int) = n % 256 := by
  rw [UInt8.toNat_ofNat_of_lt' (by have : (n % 256).toNat < 256 := by omega
                                   simpa using this)]
  omega
theorem bt0 (a : Int) : bt (⟨(le4 a).toArray⟩ : ByteArray) 0 = a % 256 := u8n a
theorem bt1 (a : Int) : bt (⟨(le4 a).toArray⟩ : ByteArray) 1 = a / 256 % 256 := u8n (a / 256)
theorem bt2 (a : Int) : bt (⟨(le4 a).toArray⟩ : ByteArray) 2 = a / 256 / 256 % 256 := u8n (a / 256 / 256)
theorem bt3 (a : Int) : bt (⟨(le4 a).toArray⟩ : ByteArray) 3 = a / 256 / 256 / 256 % 256 := u8n (a / 256 / 256 / 256)
theorem takeE (a : Int) (h0 : -2147483648 ≤ a) (h1 : a ≤ 2147483647) : Ev (fun k => impl_take.f k (⟨(le4 a).toArray⟩ : ByteArray)) a := by
  have hs : ((ByteArray.size ⟨(le4 a).toArray⟩ : Nat) : Int) = 4 := rfl
  unfold impl_take.f
  rw [hs, w64 (x := (4 : Int) - 1) (by omega) (by omega)]
  refine Ev.step (fun k => by simp only [impl_take.l0]; rfl) ?_
  rw [hs, show (4 : Int) - 1 = 3 from rfl, bt3, w64 (x := (0 : Int) * 256) (by omega) (by omega), w64 (x := a / 256 / 256 / 256 % 256) (by omega) (by omega), orE 0 _ (by omega) (by omega) (by omega) (by omega), w64 (x := (3 : Int) - 1) (by omega) (by omega)]
  refine Ev.pos (by omega) (Ev.pos (by omega) (Ev.pos (by omega) ?_))
  refine Ev.step (fun k => by simp only [impl_take.l0]; rfl) ?_
  rw [hs, show (3 : Int) - 1 = 2 from rfl, bt2, w64 (x := (0 * 256 + a / 256 / 256 / 256 % 256) * 256) (by omega) (by omega), w64 (x := a / 256 / 256 % 256) (by omega) (by omega), orE _ _ (by omega) (by omega) (by omega) (by omega), w64 (x := (2 : Int) - 1) (by omega) (by omega)]
  refine Ev.pos (by omega) (Ev.pos (by omega) (Ev.pos (by omega) ?_))
  refine Ev.step (fun k => by simp only [impl_take.l0]; rfl) ?_
  rw [hs, show (2 : Int) - 1 = 1 from rfl, bt1, w64 (x := ((0 * 256 + a / 256 / 256 / 256 % 256) * 256 + a / 256 / 256 % 256) * 256) (by omega) (by omega), w64 (x := a / 256 % 256) (by omega) (by omega), orE _ _ (by omega) (by omega) (by omega) (by omega), w64 (x := (1 : Int) - 1) (by omega) (by omega)]
  refine Ev.pos (by omega) (Ev.pos (by omega) (Ev.pos (by omega) ?_))
  refine Ev.step (fun k => by simp only [impl_take.l0]; rfl) ?_
  rw [hs, show (1 : Int) - 1 = 0 from rfl, bt0, w64 (x := (((0 * 256 + a / 256 / 256 / 256 % 256) * 256 + a / 256 / 256 % 256) * 256 + a / 256 % 256) * 256) (by omega) (by omega), w64 (x := a % 256) (by omega) (by omega), orE _ _ (by omega) (by omega) (by omega) (by omega), w64 (x := (0 : Int) - 1) (by omega) (by omega)]
  refine Ev.pos (by omega) (Ev.pos (by omega) (Ev.pos (by omega) ?_))
  refine Ev.step (fun k => by simp only [impl_take.l0]; rfl) ?_
  rw [hs, show (0 : Int) - 1 = -1 from rfl, w64 (x := (8 : Int) * 4) (by omega) (by omega), w64 (x := (8 : Int) * 4 - 1) (by omega) (by omega)]
  have hsh : shl .i64 1 ((8 : Int) * 4 - 1) = 2147483648 := by first | rfl | decide
  rw [hsh, w64 (x := (2 : Int) * 2147483648) (by omega) (by omega)]
  refine Ev.neg (by omega) (Ev.pos (by omega) ?_)
  by_cases hn : (((0 * 256 + a / 256 / 256 / 256 % 256) * 256 + a / 256 / 256 % 256) * 256 + a / 256 % 256) * 256 + a % 256 ≥ 2147483648
  · rw [w64 (by omega) (by omega)]
    exact Ev.pos hn (Ev.lit (by congr 1; omega))
  · exact Ev.neg hn (Ev.lit (by congr 1; omega))
end Go.Proofs.Ytkeoifkdejnpfaa.Pu
