/- Plain words of this session's own for the given contracts: no program in sight. -/
import Derived.Test.YtkeoifkdejnpfaaWWords
import Derived.Test.YtkeoifkdejnpfaaWLast
import Derived.Test.YtkeoifkdejnpfaaWMore
import Derived.StillTailTactics
set_option linter.unusedVariables false
namespace Go.Proofs.Ytkeoifkdejnpfaa.GivenW
open Go.RowKit Go.Proofs.YtkeoifkdejnpfaaW.PrintWords

/-- An int's range, not to be looked into by a walk. -/
def I64 (n : Int) : Prop := -9223372036854775808 ≤ n ∧ n ≤ 9223372036854775807
instance (n : Int) : Decidable (I64 n) := inferInstanceAs (Decidable (_ ∧ _))
def allO {α : Type} (p : α → Option Bool) : List α → Option Bool
  | [] => some true
  | x :: r => (p x).bind fun b => if b = true then allO p r else some false
theorem allO_mono {α : Type} {p q : α → Option Bool} (h : ∀ x, LeO (p x) (q x)) : ∀ l, LeO (allO p l) (allO q l)
  | [] => LeO.refl _
  | x :: r => LeO.bind (h x) (fun b => LeO.ite (allO_mono h r) (LeO.refl _))
theorem allO_drop {α : Type} {p : α → Option Bool} {l : List α} {i : Nat} {r : Bool} (d : α) (hi : i < l.length) (h : allO p (l.drop i) = some r) : ∃ b, p (l.getD i d) = some b ∧ (b = true → allO p (l.drop (i + 1)) = some r) ∧ (b = false → r = false) := by
  rw [List.drop_eq_getElem_cons hi] at h
  have e : l.getD i d = l[i] := by simp [List.getD_eq_getElem?_getD, List.getElem?_eq_getElem hi]
  rw [e]
  simp only [allO] at h
  cases hp : p l[i] with
  | none => rw [hp] at h; simp at h
  | some b =>
    rw [hp] at h
    refine ⟨b, rfl, ?_, ?_⟩
    · rintro rfl; simpa using h
    · rintro rfl; simpa using h.symm
theorem C_int_at {w : World} {k : IntKind} {A : Option Addr} {n : Nat} {xs : List Int} (h : Kd.C (Kd.int k) w A n xs) (i : Int) (h0 : 0 ≤ i) (h1 : i < n) : ∃ ad, A = some ad ∧ w.cell? (ad.add i.toNat) = some (.int k (rd xs i)) := by
  obtain ⟨ad, c, e, _, hK, hc⟩ := Kd.C_get h 0 i h0 h1
  have hK' : c = [.int k (rd xs i)] := hK
  subst hK'
  refine ⟨ad, e, ?_⟩
  have := hc 0 _ rfl
  simpa [show (Kd.int k).sz = 1 from rfl] using this
theorem still_tail {P : Program} {id : Nat} {Q : Exit → Act → World → Prop} {a : Act} {w : World} {l : List Oper} (n : Nat) (hm : P.follows .mixedOrders = true) (hB : Region.lexTailB .any l.toArray n = true)
    (h : wpStill P l.toArray w.drew (fun a' => wpList P l.toArray Q (l.drop n) a' w.drew) (l.take n) a) : (Code.region id l.toArray true).wp P Q a w := wp_region_still_tail n hm hB h
end Go.Proofs.Ytkeoifkdejnpfaa.GivenW
