/- Code that was written reads back. -/
import Derived.Test.YtkeoifkdejnpfaaGx0
import Derived.Test.YtkeoifkdejnpfaaGx7
import Derived.Test.YtkeoifkdejnpfaaGx10
import Derived.Test.YtkeoifkdejnpfaaGvP
import Derived.Test.YtkeoifkdejnpfaaPuTake
set_option linter.unusedVariables false
set_option linter.unusedSimpArgs false
namespace Go.Proofs.Ytkeoifkdejnpfaa.Pu
open Go.RowKit Go.Proofs.Ytkeoifkdejnpfaa.G Go.Proofs.Ytkeoifkdejnpfaa.GivenP Go.Proofs.YtkeoifkdejnpfaaW.PrintWords Go.Proofs.YtkeoifkdejnpfaaW.PrintLast Go.Proofs.YtkeoifkdejnpfaaW.PrintMore

theorem ext_take (l : List UInt8) (i j : Nat) (hi : i ≤ j) (hj : j ≤ l.length) : (⟨l.toArray⟩ : ByteArray).extract i j = ⟨((l.take j).drop i).toArray⟩ := by
  apply ByteArray.ext
  simp [ByteArray.data_extract, List.extract_eq_take_drop, List.drop_take]
theorem sizeL (l : List UInt8) : ByteArray.size ⟨l.toArray⟩ = l.length := size_data l
theorem btL (x : UInt8) (l : List UInt8) : bt (⟨(x :: l).toArray⟩ : ByteArray) 0 = (x.toNat : Int) := by
  unfold bt
  rw [dif_pos (by rw [sizeL]; simp)]
  rfl
theorem readJ (t : ByteArray) (acc : List S54) (x a : Int) (R : List S54 × Int) (h : okI x a) (ha : acc.length ≤ 39) (hr : Ev (fun k => impl_readCode.l0 k t (acc ++ [⟨x, a⟩])) R) : Ev (fun k => impl_readCode.j1 k t acc x a) R := by
  refine Ev.step (fun k => by simp only [impl_readCode.j1]; rfl) ?_
  have hb : ((acc.length : Int) == 40) = false := by rw [beq_eq_false_iff_ne]; omega
  rw [hb, whenF]
  exact Ev.bind (okJ _ _ h) (Ev.bindc (a := 0) (whenF 4) (Ev.bindc rfl (Ev.bind (first _ (by simp) (by simp)) (Ev.pos rfl (Ev.pos (by omega) hr)))))
theorem readE (tail : List UInt8) (R : List S54 × Int) (l : List S54) : ∀ (acc : List S54), okL l → acc.length + l.length ≤ 39 → Ev (fun k => impl_readCode.l0 k (⟨tail.toArray⟩ : ByteArray) (acc ++ l)) R → Ev (fun k => impl_readCode.l0 k (⟨(codeB l ++ tail).toArray⟩ : ByteArray) acc) R := by
  induction l with
  | nil =>
    intro acc _ _ hr
    simpa [codeB] using hr
  | cons e r ih =>
    intro acc ho ha hr
    have hoe := ho e List.mem_cons_self
    have hor : okL r := fun x hx => ho x (List.mem_cons_of_mem _ hx)
    simp only [List.length_cons] at ha
    have hnext : Ev (fun k => impl_readCode.l0 k (⟨(codeB r ++ tail).toArray⟩ : ByteArray) (acc ++ [⟨e.f0, e.f1⟩])) R := ih (acc ++ [e]) hor (by simp; omega) (by simpa using hr)
    have hcode : codeB (e :: r) ++ tail = UInt8.ofNat (e.f0 % 256).toNat :: (argB e ++ (codeB r ++ tail)) := by rw [codeB_cons]; simp [opB]
    have hc : ((UInt8.ofNat (e.f0 % 256).toNat).toNat : Int) = e.f0 := by rw [u8n]; have := hoe.1; have := hoe.2.1; omega
    rw [hcode]
    refine Ev.step (fun k => by simp only [impl_readCode.l0]; rfl) ?_
    rw [ext_take _ 1 _ (by rw [sizeL]; simp) (by rw [sizeL]; exact Nat.le_refl _), sizeL, List.take_length, List.drop_succ_cons, List.drop_zero, btL, hc, w64 (by have := hoe.1; omega) (by have := hoe.2.1; omega)]
    have h1 : impl_isOp.f e.f0 = some true := by unfold impl_isOp.f; rw [inI _ _ _ ⟨hoe.1, hoe.2.1⟩]; rfl
    refine Ev.pos (by simp; omega) (Ev.pos (by simp; omega) (Ev.pos (by simp; omega) (Ev.bindc h1 (Ev.pos rfl (Ev.bind (hasOp _) ?_)))))
    have hr4 := rangeP_le e.f0
    by_cases hh : (rangeP e.f0).2.2 = true
    · rw [argB, if_pos hh]
      have hlen : (le4 e.f1 ++ (codeB r ++ tail)).length = 4 + (codeB r ++ tail).length := by simp [le4]; omega
      have x1 : (⟨(le4 e.f1 ++ (codeB r ++ tail)).toArray⟩ : ByteArray).extract 0 4 = ⟨(le4 e.f1).toArray⟩ := by rw [ext_take _ 0 4 (by omega) (by omega)]; simp [le4]
      have x2 : (⟨(le4 e.f1 ++ (codeB r ++ tail)).toArray⟩ : ByteArray).extract 4 (le4 e.f1 ++ (codeB r ++ tail)).length = ⟨(codeB r ++ tail).toArray⟩ := by rw [ext_take _ 4 _ (by omega) (Nat.le_refl _), List.take_length]; simp [le4]
      rw [sizeL, x1, x2]
      refine Ev.pos hh (Ev.neg (by omega) (Ev.pos (by omega) (Ev.pos (by omega) (Ev.bind (takeE e.f1 ?_ ?_) (readJ _ _ _ _ _ hoe (by omega) hnext)))))
      · have := hoe.2.2.1; omega
      · have := hoe.2.2.2; omega
    · rw [argB, if_neg hh]
      have hz := hr4.2.2.2.1 (by simpa using hh)
      have ha0 : e.f1 = 0 := by have := hoe.2.2.1; have := hoe.2.2.2; omega
      rw [ha0] at hnext
      refine Ev.neg hh (readJ _ _ _ _ _ (by rw [← ha0]; exact hoe) (by omega) ?_)
      simpa using hnext
end Go.Proofs.Ytkeoifkdejnpfaa.Pu
