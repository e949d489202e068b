import Derived.Test.YtppfcmkadcoboaaDoorSlFnExactReadTaskWw0
import Derived.Test.YtppfcmkadcoboaaDoorSlFnExactReadTaskGvW
import Derived.Lib.ItoaNum
import Derived.OpenShut
set_option linter.unusedVariables false
namespace Go.Proofs.YtppfcmkadcoboaaDoor.GivenP
open Go.RowKit Go.Proofs.YtppfcmkadcoboaaDoorW.PrintWords Go.Proofs.YtppfcmkadcoboaaDoor.GivenW

section
variable {α β : Type}
theorem Ev.pos {c : Prop} [Decidable c] {f g : Nat → Option α} {r : α} (h : c) (k : Ev f r) : Ev (fun n => if c then f n else g n) r := by simpa only [if_pos h] using k
theorem Ev.neg {c : Prop} [Decidable c] {f g : Nat → Option α} {r : α} (h : ¬ c) (k : Ev g r) : Ev (fun n => if c then f n else g n) r := by simpa only [if_neg h] using k
theorem Ev.lit {o : Option α} {r : α} (h : o = some r) : Ev (fun _ => o) r := ⟨0, fun _ _ => h⟩
theorem Ev.bindc {o : Option α} {f : Nat → α → Option β} {a : α} {r : β} (h : o = some a) (k : Ev (fun n => f n a) r) : Ev (fun n => o.bind (f n)) r := Ev.bind (g := fun _ => o) (Ev.lit h) k
def EvP (f : Nat → Option α) (P : α → Prop) : Prop := ∃ r, Ev f r ∧ P r
theorem EvP.of {f : Nat → Option α} {r : α} {P : α → Prop} (h : Ev f r) (p : P r) : EvP f P := ⟨r, h, p⟩
theorem EvP.step {f g : Nat → Option α} {P : α → Prop} (h : ∀ k, f (k + 1) = g k) (k : EvP g P) : EvP f P := by obtain ⟨r, e, p⟩ := k; exact ⟨r, Ev.step h e, p⟩
theorem EvP.pos {c : Prop} [Decidable c] {f g : Nat → Option α} {P : α → Prop} (h : c) (k : EvP f P) : EvP (fun n => if c then f n else g n) P := by simpa only [if_pos h] using k
theorem EvP.neg {c : Prop} [Decidable c] {f g : Nat → Option α} {P : α → Prop} (h : ¬ c) (k : EvP g P) : EvP (fun n => if c then f n else g n) P := by simpa only [if_neg h] using k
theorem EvP.lit {o : Option α} {r : α} {P : α → Prop} (h : o = some r) (p : P r) : EvP (fun _ => o) P := ⟨r, Ev.lit h, p⟩
theorem EvP.bindc {o : Option α} {f : Nat → α → Option β} {a : α} {P : β → Prop} (h : o = some a) (k : EvP (fun n => f n a) P) : EvP (fun n => o.bind (f n)) P := by obtain ⟨r, e, p⟩ := k; exact ⟨r, Ev.bindc h e, p⟩
theorem EvP.bind {g : Nat → Option α} {f : Nat → α → Option β} {a : α} {P : β → Prop} (h : Ev g a) (k : EvP (fun n => f n a) P) : EvP (fun n => (g n).bind (f n)) P := by obtain ⟨r, e, p⟩ := k; exact ⟨r, Ev.bind h e, p⟩
end
theorem w64 {x : Int} (h0 : -9223372036854775808 ≤ x) (h1 : x ≤ 9223372036854775807) : wrap64 x = x := by unfold wrap64; omega
end Go.Proofs.YtppfcmkadcoboaaDoor.GivenP

