/- The law FnCode: code that is drawn is written as the reference writes it, reads back, and two bad ends are told. -/
import Derived.Test.YtkeoifkdejnpfaaGx0
import Derived.Test.YtkeoifkdejnpfaaGx6
import Derived.Test.YtkeoifkdejnpfaaGx7
import Derived.Test.YtkeoifkdejnpfaaGx9
import Derived.Test.YtkeoifkdejnpfaaGx10
import Derived.Test.YtkeoifkdejnpfaaGx11
import Derived.Test.YtkeoifkdejnpfaaGvP
import Derived.Test.YtkeoifkdejnpfaaPuRead
import Derived.Test.YtkeoifkdejnpfaaStFnCode
set_option linter.unusedVariables false
set_option linter.unusedSimpArgs false
namespace Go.Proofs.Ytkeoifkdejnpfaa.Pu
open Go.RowKit Go.Proofs.Ytkeoifkdejnpfaa.G Go.Proofs.Ytkeoifkdejnpfaa.GivenP Go.Proofs.YtkeoifkdejnpfaaW.PrintWords Go.Proofs.YtkeoifkdejnpfaaW.PrintLast Go.Proofs.YtkeoifkdejnpfaaW.PrintMore

theorem end0 (acc : List S54) : Ev (fun k => impl_readCode.l0 k (⟨([] : List UInt8).toArray⟩ : ByteArray) acc) (acc, 0) := by
  refine Ev.step (fun k => by simp only [impl_readCode.l0]; rfl) ?_
  exact Ev.neg (by simp [sizeL]) (Ev.lit rfl)
theorem end27 (acc : List S54) : Ev (fun k => impl_readCode.l0 k (⟨([27] : List UInt8).toArray⟩ : ByteArray) acc) ([], 11) := by
  refine Ev.step (fun k => by simp only [impl_readCode.l0]; rfl) ?_
  rw [btL, show (((27 : UInt8).toNat : Nat) : Int) = 27 from rfl, w64 (by omega) (by omega)]
  have h1 : impl_isOp.f 27 = some false := by unfold impl_isOp.f impl_within.f; rfl
  exact Ev.pos (by simp [sizeL]) (Ev.pos (by simp [sizeL]) (Ev.pos (by simp [sizeL]) (Ev.bindc h1 (Ev.neg (by simp) (Ev.lit rfl)))))
theorem end10 (acc : List S54) : Ev (fun k => impl_readCode.l0 k (⟨([1, 0] : List UInt8).toArray⟩ : ByteArray) acc) ([], 16) := by
  refine Ev.step (fun k => by simp only [impl_readCode.l0]; rfl) ?_
  rw [btL, show (((1 : UInt8).toNat : Nat) : Int) = 1 from rfl, w64 (by omega) (by omega)]
  have h1 : impl_isOp.f 1 = some true := by unfold impl_isOp.f impl_within.f; rfl
  refine Ev.pos (by simp [sizeL]) (Ev.pos (by simp [sizeL]) (Ev.pos (by simp [sizeL]) (Ev.bindc h1 (Ev.pos rfl (Ev.bind (hasOp 1) (Ev.pos (by simp [rangeP]) (Ev.pos ?_ (Ev.lit rfl))))))))
  rw [sizeL, ext_take _ 1 _ (by decide) (by decide), sizeL]
  decide
theorem same_loop (l : List S54) (hl : l.length ≤ 1000) (d : Nat) : ∀ (i : Nat), i + d = l.length → Ev (fun k => laws_sameCode.l0 k l l (i : Int)) true := by
  induction d with
  | zero =>
    intro i hi
    refine Ev.step (fun k => by simp only [laws_sameCode.l0]; rfl) ?_
    exact Ev.neg (by omega) (Ev.lit rfl)
  | succ d ih =>
    intro i hi
    refine Ev.step (fun k => by simp only [laws_sameCode.l0]; rfl) ?_
    rw [w64 (by omega) (by omega)]
    refine Ev.pos (by omega) (Ev.pos (by omega) (Ev.pos (by omega) (Ev.neg (by simp) ?_)))
    exact_mod_cast ih (i + 1) (by omega)
theorem rdB (l : List Int) (hl : ∀ x ∈ l, 0 ≤ x ∧ x ≤ 255) (i : Int) (h0 : 0 ≤ i) (h1 : i < (l.length : Int)) : 0 ≤ rd l i ∧ rd l i ≤ 255 := by
  unfold rd
  have hn : i.toNat < l.length := by omega
  rw [List.getD_eq_getElem?_getD, List.getElem?_eq_getElem hn]
  exact hl _ (List.getElem_mem hn)
theorem atE (l : List Int) (hl : ∀ x ∈ l, 0 ≤ x ∧ x ≤ 255) (hm : l.length ≤ 1048576) : ∃ n : Nat, n < 20 ∧ laws_at.f l 0 20 = some (n : Int) := by
  unfold laws_at.f
  rw [if_neg (by omega)]
  by_cases h0 : (l.length : Int) = 0
  · rw [if_pos h0, if_neg (by omega), w64 (by omega) (by omega)]
    exact ⟨0, by omega, rfl⟩
  · rw [if_neg h0]
    have t0 : Int.tmod 0 (l.length : Int) = 0 := Int.zero_tmod _
    have t1 := tmodE (b := 0 + 1) (a := (l.length : Int)) (by omega) (by omega)
    have d0 : Int.tdiv 0 (l.length : Int) = 0 := Int.zero_tdiv _
    have a0 := rdB l hl 0 (by omega) (by omega)
    rw [w64 (x := (0 : Int) + 1) (by omega) (by omega), t0, d0]
    have a1 := rdB l hl _ t1.1 t1.2
    rw [if_pos (by omega), if_pos (by omega), if_pos t1.1, if_pos t1.2, if_neg (by omega)]
    rw [w64 (x := rd l 0) (by omega) (by omega), w64 (x := rd l 0 * 31) (by omega) (by omega), w64 (x := rd l (Int.tmod (0 + 1) (l.length : Int))) (by omega) (by omega), w64 (x := rd l 0 * 31 + rd l (Int.tmod (0 + 1) (l.length : Int))) (by omega) (by omega), w64 (x := (0 : Int)) (by omega) (by omega), w64 (x := rd l 0 * 31 + rd l (Int.tmod (0 + 1) (l.length : Int)) + 0) (by omega) (by omega)]
    have t2 := tmodE (b := rd l 0 * 31 + rd l (Int.tmod (0 + 1) (l.length : Int)) + 0) (a := 20) (by omega) (by omega)
    exact ⟨(Int.tmod (rd l 0 * 31 + rd l (Int.tmod (0 + 1) (l.length : Int)) + 0) 20).toNat, by omega, by rw [Int.toNat_of_nonneg t2.1]⟩
theorem codeB_len (l : List S54) : (codeB l).length ≤ 5 * l.length := by
  induction l with
  | nil => simp [codeB]
  | cons e r ih =>
    rw [codeB_cons, List.length_append, List.length_append, List.length_cons, argB]
    split
    · simp [opB, le4]; omega
    · simp [opB]; omega
theorem readAll (l : List S54) (tail : List UInt8) (R : List S54 × Int) (ho : okL l) (hl : l.length ≤ 39) (ht : tail.length ≤ 100) (h : Ev (fun k => impl_readCode.l0 k (⟨tail.toArray⟩ : ByteArray) l) R) : Ev (fun k => impl_ReadCode.f k (⟨(codeB l ++ tail).toArray⟩ : ByteArray)) R := by
  unfold impl_ReadCode.f
  have hs : impl_long.f (⟨(codeB l ++ tail).toArray⟩ : ByteArray) = some 0 := by
    unfold impl_long.f
    have := codeB_len l
    rw [show decide (((ByteArray.size ⟨(codeB l ++ tail).toArray⟩ : Nat) : Int) > 65536) = false from decide_eq_false (by rw [sizeL, List.length_append]; omega), whenF]
    rfl
  have hr := readE tail R l [] ho (by simpa using hl) (by simpa using h)
  refine Ev.bindc hs (Ev.pos rfl (Ev.bind (a := R) ?_ (Ev.lit rfl)))
  unfold impl_readCode.f
  exact hr
theorem FnCode : laws_FnCode.Pure := by
  rintro l0 l1 ⟨-, w0⟩ ⟨-, w1⟩
  suffices h : Ev (fun k => laws_FnCode.f k l0 l1) true by
    obtain ⟨K, h⟩ := h
    exact ⟨K, h K (Nat.le_refl K)⟩
  have b0 : ∀ x ∈ l0, 0 ≤ x ∧ x ≤ 255 := fun x hx => by have h := w0 x hx; simp [Lit.wf, IntKind.min, IntKind.max, IntKind.signed, IntKind.bits] at h; omega
  have b1 : ∀ x ∈ l1, 0 ≤ x ∧ x ≤ 255 := fun x hx => by have h := w1 x hx; simp [Lit.wf, IntKind.min, IntKind.max, IntKind.signed, IntKind.bits] at h; omega
  unfold laws_FnCode.f
  by_cases h0 : (l0.length : Int) > 1048576
  · exact Ev.pos h0 ⟨1, fun k hk => by obtain ⟨j, rfl⟩ : ∃ j, k = j + 1 := ⟨k - 1, by omega⟩; simp [laws_FnCode.j0]⟩
  refine Ev.neg h0 ?_
  by_cases h1 : (l1.length : Int) > 1048576
  · refine Ev.step (fun k => by simp only [laws_FnCode.j0]; rfl) (Ev.pos (by simpa using h1) (Ev.lit rfl))
  refine Ev.step (fun k => by simp only [laws_FnCode.j0]; rfl) (Ev.neg (by simpa using h1) ?_)
  obtain ⟨n, hn, en⟩ := atE l1 b1 (by omega)
  obtain ⟨L, eL, hL, ho⟩ := someCode l0 b0 n (by omega)
  have hs := codeB_len L
  have m1 : (⟨(codeB L).toArray⟩ : ByteArray) ++ (⟨#[1, 0]⟩ : ByteArray) = ⟨(codeB L ++ [1, 0]).toArray⟩ := mk_app _ [1, 0]
  have m2 : (⟨(codeB L).toArray⟩ : ByteArray) ++ (⟨#[27]⟩ : ByteArray) = ⟨(codeB L ++ [27]).toArray⟩ := mk_app _ [27]
  have r0 := readAll L [] (L, 0) ho (by omega) (by simp) (end0 L)
  rw [List.append_nil] at r0
  refine Ev.bindc en (Ev.bind eL (Ev.bind (codeText_impl2 L (by omega) ho) (Ev.bind (codeText_spec L (by omega) ho) (Ev.bind r0 (Ev.pos (by rw [sizeL]; omega) ?_)))))
  rw [m1, m2]
  refine Ev.bind (readAll L [1, 0] _ ho (by omega) (by simp) (end10 L)) (Ev.pos (by rw [sizeL]; omega) (Ev.bind (readAll L [27] _ ho (by omega) (by simp) (end27 L)) ?_))
  refine Ev.pos rfl (Ev.pos rfl (Ev.pos rfl (Ev.bind (a := true) ?_ (Ev.pos rfl (Ev.pos rfl (Ev.lit rfl))))))
  unfold laws_sameCode.f
  exact Ev.pos rfl (same_loop L (by omega) L.length 0 (by omega))
end Go.Proofs.Ytkeoifkdejnpfaa.Pu
