/- A number read: Atoi, its text again, and at most eighteen digits: what the reference reads digit by digit. -/
import Derived.Test.YtppfcmkadcoboaaDoorSlFnExactReadTaskRx0
import Derived.Test.YtppfcmkadcoboaaDoorSlFnExactReadTaskRx2
import Derived.Test.YtppfcmkadcoboaaDoorSlFnExactReadTaskGvP
import Derived.Test.YtppfcmkadcoboaaDoorSlFnExactReadTaskPuWords
import Derived.Lib.AtoiTie
set_option linter.unusedVariables false
set_option linter.unusedSimpArgs false
namespace Go.Proofs.YtppfcmkadcoboaaDoor.Pu
open Go.RowKit Go.Proofs.YtppfcmkadcoboaaDoor.R Go.Proofs.YtppfcmkadcoboaaDoor.GivenP Go.Proofs.YtppfcmkadcoboaaDoorW.PrintWords Go.Proofs.YtppfcmkadcoboaaDoorW.PrintLast Go.Proofs.YtppfcmkadcoboaaDoorW.PrintMore

def numB (neg : Bool) (b : List UInt8) : Int × Bool :=
  if b = [] ∨ 18 < b.length ∨ (b.head? = some 48 ∧ (1 < b.length ∨ neg = true)) then (0, false) else match Lib.decFrom 0 b with
    | some m => (if neg then -(m : Int) else (m : Int), true)
    | none => (0, false)
def numL (l : List UInt8) : Int × Bool := if l.head? = some 45 then numB true l.tail else numB false l
theorem dig_head : ∀ (n m : Nat), m ≤ n → ∃ c r, Lib.decDigits m = c :: r ∧ 48 ≤ c.toNat ∧ c.toNat ≤ 57 ∧ (1 ≤ m → c ≠ 48) ∧ (m = 0 → r = [])
  | n, m, h => by
    by_cases hm : m < 10
    · refine ⟨_, [], Lib.decDigits_one hm, ?_, ?_, ?_, fun _ => rfl⟩
      · rw [UInt8.toNat_ofNat']; omega
      · rw [UInt8.toNat_ofNat']; omega
      · intro h1 e
        have := congrArg UInt8.toNat e
        rw [UInt8.toNat_ofNat'] at this
        simp at this
        omega
    · cases n with
      | zero => omega
      | succ n =>
        obtain ⟨c, r, e, h1, h2, h3, _⟩ := dig_head n (m / 10) (by omega)
        refine ⟨c, r ++ [UInt8.ofNat (48 + m % 10)], ?_, h1, h2, fun _ => h3 (by omega), by omega⟩
        rw [Lib.decDigits, dif_neg hm, e]
        rfl
theorem decFrom_snoc (c : UInt8) : ∀ (r : List UInt8) (acc : Nat), Lib.decFrom acc (r ++ [c]) = (Lib.decFrom acc r).bind fun a => (Lib.digitVal c).map fun d => a * 10 + d
  | [], acc => by simp only [List.nil_append, Lib.decFrom]; cases Lib.digitVal c <;> rfl
  | b :: r, acc => by
    simp only [List.cons_append, Lib.decFrom]
    cases Lib.digitVal b with
    | none => rfl
    | some d => exact decFrom_snoc c r _
theorem canon : ∀ (n : Nat) (l : List UInt8) (m : Nat), l.length = n → l ≠ [] → (l.head? ≠ some 48 ∨ l.length = 1) → Lib.decFrom 0 l = some m → Lib.decDigits m = l := by
  intro n
  induction n with
  | zero => intro l m hn hne; exact absurd (List.length_eq_zero_iff.mp hn) hne
  | succ n ih =>
    intro l m hn hne hh hd
    obtain ⟨r, c, rfl⟩ : ∃ r c, l = r ++ [c] := ⟨l.dropLast, l.getLast hne, (List.dropLast_concat_getLast hne).symm⟩
    rw [decFrom_snoc] at hd
    cases ha : Lib.decFrom 0 r with
    | none => rw [ha] at hd; cases hd
    | some a =>
      rw [ha] at hd
      simp only [Option.bind_some] at hd
      unfold Lib.digitVal at hd
      split at hd
      · rename_i hc
        simp only [Option.map_some, Option.some.injEq] at hd
        have hcc : UInt8.ofNat (48 + (c.toNat - 48)) = c := by rw [show 48 + (c.toNat - 48) = c.toNat by omega]; exact UInt8.ofNat_toNat
        by_cases hr : r = []
        · subst hr
          have : a = 0 := by simpa [Lib.decFrom] using ha.symm
          subst this
          rw [← hd, Lib.decDigits_one (by omega)]
          simp [hcc]
        · have hlen : r.length = n := by simpa using hn
          have hr1 : r.length ≠ 0 := fun e => hr (List.length_eq_zero_iff.mp e)
          have hh2 : r.head? ≠ some 48 := by
            rcases hh with h | h
            · cases r with
              | nil => exact absurd rfl hr
              | cons x y => simpa using h
            · exact absurd (by simpa using h) hr
          have e := ih r a hlen hr (.inl hh2) ha
          have ha1 : 1 ≤ a := by
            rcases Nat.eq_zero_or_pos a with h0 | h0
            · subst h0
              rw [Lib.decDigits_one (i := 0) (by decide)] at e
              exact absurd (by rw [← e]; rfl) hh2
            · exact h0
          have hm10 : ¬ m < 10 := by omega
          rw [Lib.decDigits, dif_neg hm10, show m / 10 = a by omega, e, show m % 10 = c.toNat - 48 by omega, hcc]
      · cases hd
theorem num_loop (b : List UInt8) (hb : b.length ≤ 18) (s : Int) (d : Nat) : ∀ (acc i : Nat), i + d = b.length → acc < 10 ^ i →
    Ev (fun k => spec_l00Number.l0 k (mk b) s (acc : Int) (i : Int)) (match Lib.decFrom acc (b.drop i) with | some m => (wrap64 (s * (m : Int)), true) | none => (0, false)) := by
  induction d with
  | zero =>
    intro acc i hi ha
    refine Ev.step (fun k => by simp only [spec_l00Number.l0]; rfl) (Ev.neg (by rw [mk_size]; omega) (Ev.lit ?_))
    rw [List.drop_eq_nil_of_le (by omega)]
    rfl
  | succ d ih =>
    intro acc i hi ha
    have hil : i < b.length := by omega
    have hp : 10 ^ i ≤ 10 ^ 17 := Nat.pow_le_pow_right (by decide) (by omega)
    have e17 : (10 : Nat) ^ 17 = 100000000000000000 := by decide
    refine Ev.step (fun k => by simp only [spec_l00Number.l0]; rfl) (Ev.pos (by rw [mk_size]; omega) (Ev.pos (by omega) ?_))
    rw [List.drop_eq_getElem_cons hil, bt_mk b i hil]
    have h255 := (b[i]).toNat_lt
    simp only [Lib.decFrom, Lib.digitVal]
    by_cases h1 : (b[i]).toNat < 48
    · rw [if_neg (by omega)]
      exact Ev.pos (by omega) (Ev.lit rfl)
    · refine Ev.neg (by omega) ?_
      by_cases h2 : (b[i]).toNat > 57
      · rw [if_neg (by omega)]
        exact Ev.pos (by omega) (Ev.lit rfl)
      · rw [if_pos (by omega)]
        refine Ev.neg (by omega) ?_
        have hw : wrap64 ((wrap64 ((wrap64 ((acc : Int) * 10)) + (wrap64 ((b[i]).toNat : Int)))) - 48) = ((acc * 10 + ((b[i]).toNat - 48) : Nat) : Int) := by
          rw [w64 (x := (acc : Int) * 10) (by omega) (by omega), w64 (x := ((b[i]).toNat : Int)) (by omega) (by omega), w64 (x := (acc : Int) * 10 + ((b[i]).toNat : Int)) (by omega) (by omega), w64 (by omega) (by omega)]
          omega
        rw [hw, show wrap64 ((i : Int) + 1) = ((i + 1 : Nat) : Int) by rw [w64 (by omega) (by omega)]; omega]
        exact ih _ (i + 1) (by omega) (by rw [Nat.pow_succ]; omega)
theorem num_body (b : List UInt8) (neg : Bool) (s : Int) (hs : s = if neg then -1 else 1) : Ev (fun k => spec_l00Number.j1 k (mk b) s) (numB neg b) := by
  have hj2 : Ev (fun k => spec_l00Number.j2 k (mk b) s true) (0, false) := Ev.step (fun k => by simp only [spec_l00Number.j2]; rfl) (Ev.pos (c := true = true) rfl (Ev.lit rfl))
  refine Ev.step (fun k => by simp only [spec_l00Number.j1]; rfl) ?_
  unfold numB
  by_cases h0 : b = []
  · rw [if_pos (.inl h0)]
    exact Ev.pos (by rw [mk_size, h0]; rfl) hj2
  · have hl : 0 < b.length := List.length_pos_iff.mpr h0
    refine Ev.neg (by rw [mk_size]; omega) ?_
    by_cases h18 : 18 < b.length
    · rw [if_pos (.inr (.inl h18))]
      exact Ev.pos (by rw [mk_size]; omega) hj2
    · refine Ev.neg (by rw [mk_size]; omega) (Ev.pos (by rw [mk_size]; omega) ?_)
      have hfin : Ev (fun k => spec_l00Number.j2 k (mk b) s false) (match Lib.decFrom 0 b with | some m => (if neg then -(m : Int) else (m : Int), true) | none => (0, false)) := by
        refine Ev.step (fun k => by simp only [spec_l00Number.j2]; rfl) (Ev.neg (c := false = true) (by decide) ?_)
        have h := num_loop b (by omega) s b.length 0 0 (by omega) (by decide)
        rw [List.drop_zero] at h
        cases hd : Lib.decFrom 0 b with
        | none => rw [hd] at h; exact h
        | some m =>
          rw [hd] at h
          have hm := Lib.decFrom_lt b 0 m hd
          have hp : 10 ^ b.length ≤ 10 ^ 18 := Nat.pow_le_pow_right (by decide) (by omega)
          have e18 : (10 : Nat) ^ 18 = 1000000000000000000 := by decide
          have e : wrap64 (s * (m : Int)) = if neg then -(m : Int) else (m : Int) := by
            subst hs
            cases neg
            · simp only [Bool.false_eq_true, if_false, Int.one_mul]; exact w64 (by omega) (by omega)
            · simp only [if_true, Int.neg_mul, Int.one_mul]; exact w64 (by omega) (by omega)
          have h' : Ev (fun k => spec_l00Number.l0 k (mk b) s 0 0) (wrap64 (s * (m : Int)), true) := h
          rw [e] at h'
          exact h'
      have hb0 : bt (mk b) 0 = ((b[0]).toNat : Int) := bt_mk b 0 hl
      have hhd : b.head? = some b[0] := by rw [List.head?_eq_getElem?, List.getElem?_eq_getElem hl]
      rw [hb0]
      by_cases h48 : b[0] = 48
      · refine Ev.pos (by rw [h48]; rfl) ?_
        by_cases h1 : 1 < b.length
        · rw [if_pos (.inr (.inr ⟨by rw [hhd, h48], .inl h1⟩))]
          exact Ev.pos (by rw [mk_size]; omega) hj2
        · refine Ev.neg (by rw [mk_size]; omega) ?_
          cases neg
          · rw [if_neg (by rintro (h | h | ⟨_, h | h⟩) <;> first | exact h0 h | omega | cases h)]
            subst hs
            exact hfin
          · rw [if_pos (.inr (.inr ⟨by rw [hhd, h48], .inr rfl⟩))]
            subst hs
            exact hj2
      · refine Ev.neg (fun e => h48 (UInt8.toNat_inj.mp (by simpa using (by exact_mod_cast e : (b[0]).toNat = 48)))) ?_
        rw [if_neg (by rintro (h | h | ⟨h, _⟩) <;> first | exact h0 h | omega | (rw [hhd] at h; exact h48 (Option.some.inj h)))]
        exact hfin
theorem c45 (c : UInt8) (e : (c.toNat : Int) = 45) : c = 45 := UInt8.toNat_inj.mp (by
  show c.toNat = 45
  omega)
theorem num_spec (t : ByteArray) : Ev (fun k => spec_l00Number.f k t) (numL t.data.toList) := by
  rw [← mk_list t, mk_data]
  generalize t.data.toList = l
  unfold spec_l00Number.f numL
  cases l with
  | nil =>
    refine Ev.neg (by rw [mk_size]; simp) ?_
    rw [if_neg (by simp)]
    exact Ev.step (fun k => by simp only [spec_l00Number.j0]; rfl) (Ev.neg (c := false = true) (by decide) (num_body [] false 1 rfl))
  | cons c r =>
    refine Ev.pos (by rw [mk_size]; simp) (Ev.pos (by rw [mk_size]; simp) ?_)
    rw [show bt (mk (c :: r)) 0 = (c.toNat : Int) from bt_mk (c :: r) 0 (by simp)]
    by_cases h : c = 45
    · subst h
      rw [if_pos (by rfl : (45 :: r).head? = some (45 : UInt8))]
      refine Ev.step (fun k => by simp only [spec_l00Number.j0]; rfl) (Ev.pos (by rfl) (Ev.pos (by rw [mk_size]; simp; omega) ?_))
      rw [mk_size, mk_ext _ _ _ (by simp) (by simp)]
      simpa using num_body r true (-1) rfl
    · rw [if_neg (by simpa using h)]
      exact Ev.step (fun k => by simp only [spec_l00Number.j0]; rfl) (Ev.neg (fun e => h (c45 c (by simpa using e))) (num_body (c :: r) false 1 rfl))
end Go.Proofs.YtppfcmkadcoboaaDoor.Pu
