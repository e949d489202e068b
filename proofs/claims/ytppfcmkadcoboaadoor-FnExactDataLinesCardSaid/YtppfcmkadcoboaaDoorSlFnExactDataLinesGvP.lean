import Derived.Test.YtppfcmkadcoboaaDoorSlFnExactDataLinesWw0
import Derived.Test.YtppfcmkadcoboaaDoorSlFnExactDataLinesGvW
import Derived.Lib.ItoaNum
import Derived.OpenShut
set_option linter.unusedVariables false
namespace Go.Proofs.YtppfcmkadcoboaaDoor.GivenP
open Go.RowKit Go.Proofs.YtppfcmkadcoboaaDoorW.PrintWords Go.Proofs.YtppfcmkadcoboaaDoor.GivenW

section
variable {α β : Type}
theorem Ev.pos {c : Prop} [Decidable c] {f g : Nat → Option α} {r : α} (h : c) (k : Ev f r) : Ev (fun n => if c then f n else g n) r := by simpa only [if_pos h] using k
theorem Ev.neg {c : Prop} [Decidable c] {f g : Nat → Option α} {r : α} (h : ¬ c) (k : Ev g r) : Ev (fun n => if c then f n else g n) r := by simpa only [if_neg h] using k
theorem Ev.lit {o : Option α} {r : α} (h : o = some r) : Ev (fun _ => o) r := ⟨0, fun _ _ => h⟩
theorem Ev.bindc {o : Option α} {f : Nat → α → Option β} {a : α} {r : β} (h : o = some a) (k : Ev (fun n => f n a) r) : Ev (fun n => o.bind (f n)) r := Ev.bind (g := fun _ => o) (Ev.lit h) k
def EvP (f : Nat → Option α) (P : α → Prop) : Prop := ∃ r, Ev f r ∧ P r
theorem EvP.of {f : Nat → Option α} {r : α} {P : α → Prop} (h : Ev f r) (p : P r) : EvP f P := ⟨r, h, p⟩
theorem EvP.step {f g : Nat → Option α} {P : α → Prop} (h : ∀ k, f (k + 1) = g k) (k : EvP g P) : EvP f P := by obtain ⟨r, e, p⟩ := k; exact ⟨r, Ev.step h e, p⟩
theorem EvP.pos {c : Prop} [Decidable c] {f g : Nat → Option α} {P : α → Prop} (h : c) (k : EvP f P) : EvP (fun n => if c then f n else g n) P := by simpa only [if_pos h] using k
theorem EvP.neg {c : Prop} [Decidable c] {f g : Nat → Option α} {P : α → Prop} (h : ¬ c) (k : EvP g P) : EvP (fun n => if c then f n else g n) P := by simpa only [if_neg h] using k
theorem EvP.lit {o : Option α} {r : α} {P : α → Prop} (h : o = some r) (p : P r) : EvP (fun _ => o) P := ⟨r, Ev.lit h, p⟩
theorem EvP.bindc {o : Option α} {f : Nat → α → Option β} {a : α} {P : β → Prop} (h : o = some a) (k : EvP (fun n => f n a) P) : EvP (fun n => o.bind (f n)) P := by obtain ⟨r, e, p⟩ := k; exact ⟨r, Ev.bindc h e, p⟩
theorem EvP.bind {g : Nat → Option α} {f : Nat → α → Option β} {a : α} {P : β → Prop} (h : Ev g a) (k : EvP (fun n => f n a) P) : EvP (fun n => (g n).bind (f n)) P := by obtain ⟨r, e, p⟩ := k; exact ⟨r, Ev.bind h e, p⟩
theorem EvP.bindP {g : Nat → Option α} {f : Nat → α → Option β} {Q : α → Prop} {P : β → Prop} (h : EvP g Q) (k : ∀ a, Q a → EvP (fun n => f n a) P) : EvP (fun n => (g n).bind (f n)) P := by obtain ⟨a, e, q⟩ := h; exact EvP.bind e (k a q)
end
theorem w64 {x : Int} (h0 : -9223372036854775808 ≤ x) (h1 : x ≤ 9223372036854775807) : wrap64 x = x := by unfold wrap64; omega
def dec (n : Int) : ByteArray := ⟨(Lib.itoa n).toArray⟩
def decN (u : Nat) : ByteArray := ⟨(Lib.decDigits u).toArray⟩
theorem decN_small {u : Nat} (h : u < 10) : decN u = ⟨#[UInt8.ofNat (48 + u)]⟩ := by unfold decN; rw [Lib.decDigits, dif_pos h]
theorem decN_big {u : Nat} (h : ¬ u < 10) : decN u = decN (u / 10) ++ (⟨#[UInt8.ofNat (48 + u % 10)]⟩ : ByteArray) := by
  unfold decN
  rw [Lib.decDigits, dif_neg h]
  apply ByteArray.ext
  simp
theorem dec_nonneg {n : Int} (h : 0 ≤ n) : dec n = decN n.toNat := by unfold dec decN Lib.itoa; rw [if_neg (by omega)]
theorem dec_neg {n : Int} (h : n < 0) : dec n = (⟨#[45]⟩ : ByteArray) ++ decN n.natAbs := by
  unfold dec decN Lib.itoa
  rw [if_pos h]
  apply ByteArray.ext
  simp
theorem size_data (l : List UInt8) : ByteArray.size ⟨l.toArray⟩ = l.length := by simp [ByteArray.size]
theorem decDigits_len : ∀ (d u : Nat), u < 10 ^ d → 1 ≤ d → (Lib.decDigits u).length ≤ d := by
  intro d
  induction d with
  | zero => intro u h h1; omega
  | succ d ih =>
    intro u h _
    rw [Lib.decDigits]
    split
    · simp
    · rename_i hb
      have hd : 1 ≤ d := by
        rcases Nat.eq_zero_or_pos d with h0 | h0
        · subst h0; omega
        · exact h0
      have := ih (u / 10) (by rw [Nat.pow_succ] at h; omega) hd
      simp
      omega
theorem decN_size (u : Nat) (h : u < 10 ^ 20) : (decN u).size ≤ 20 := by unfold decN; rw [size_data]; exact decDigits_len 20 u h (by omega)
theorem dec_size (n : Int) (h : -9223372036854775808 ≤ n ∧ n ≤ 9223372036854775807) : (dec n).size ≤ 21 := by
  rcases Int.lt_or_le n 0 with hn | hn
  · rw [dec_neg hn, ByteArray.size_append]
    have := decN_size n.natAbs (by omega)
    have e : (⟨#[45]⟩ : ByteArray).size = 1 := rfl
    omega
  · rw [dec_nonneg hn]
    have := decN_size n.toNat (by omega)
    omega
theorem strOfNums_one (x : Int) : strOfNums [x] = (⟨#[UInt8.ofNat x.toNat]⟩ : ByteArray) := rfl
end Go.Proofs.YtppfcmkadcoboaaDoor.GivenP

