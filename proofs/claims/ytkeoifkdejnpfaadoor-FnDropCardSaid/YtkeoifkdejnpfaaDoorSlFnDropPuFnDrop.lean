/- The law FnDrop over lists and numbers: a drawn source is right; dropping counts what waited; the line is the reference's. -/
import Derived.Test.YtkeoifkdejnpfaaDoorSlFnDropGx0
import Derived.Test.YtkeoifkdejnpfaaDoorSlFnDropGx13
import Derived.Test.YtkeoifkdejnpfaaDoorSlFnDropGx14
import Derived.Test.YtkeoifkdejnpfaaDoorSlFnDropGx16
import Derived.Test.YtkeoifkdejnpfaaDoorSlFnDropGx17
import Derived.Test.YtkeoifkdejnpfaaDoorSlFnDropGx21
import Derived.Test.YtkeoifkdejnpfaaDoorSlFnDropGx22
import Derived.Test.YtkeoifkdejnpfaaDoorSlFnDropGx23
import Derived.Test.YtkeoifkdejnpfaaDoorSlFnDropGx24
import Derived.Test.YtkeoifkdejnpfaaDoorSlFnDropGx25
import Derived.Test.YtkeoifkdejnpfaaDoorSlFnDropGvP
import Derived.Test.YtkeoifkdejnpfaaDoorSlFnDropPuSource
import Derived.Test.YtkeoifkdejnpfaaDoorSlFnDropPuSrc
import Derived.Test.YtkeoifkdejnpfaaDoorSlFnDropStFnDrop
set_option linter.unusedVariables false
set_option linter.unusedSimpArgs false
namespace Go.Proofs.YtkeoifkdejnpfaaDoor.Pu
open Go.RowKit Go.Proofs.YtkeoifkdejnpfaaDoor.G Go.Proofs.YtkeoifkdejnpfaaDoor.GivenP Go.Proofs.YtkeoifkdejnpfaaDoorW.PrintWords Go.Proofs.YtkeoifkdejnpfaaDoorW.PrintLast Go.Proofs.YtkeoifkdejnpfaaDoorW.PrintMore

theorem chanceE (l : List Int) (hl : ∀ x ∈ l, 0 ≤ x ∧ x ≤ 255) (B p s a : Int) (hB : B ≤ 999990) (h : St B p s) (ha : 1 ≤ a) (ha2 : a ≤ 1000) : ∃ r, spec_l00Src_chance.f l p s a = some r ∧ St (B + 3) r.2.1 r.2.2 := by
  obtain ⟨x, ex, x0, x1, hx⟩ := nextE l hl B p s a hB h ha
  unfold spec_l00Src_chance.f
  rw [ex]
  exact ⟨_, rfl, hx⟩
theorem kindB_1 (a1 a2 : Int) (h : a2 ≤ a1) : kindB 1 a1 a2 0 1 = true := by simp [kindB, h]
theorem inB_of {a b c : Int} (h1 : b ≤ a) (h2 : a ≤ c) : inB a b c = true := by simp [inB, h1, h2]
/-- A drawn task: right, its period at least 40. -/
def TaskP (a0 a1 a2 a3 a4 a5 : Int) : Prop := taskB a0 a1 a2 a3 a4 a5 = true ∧ 40 ≤ a1 ∧ a1 ≤ 300 ∧ 1 ≤ a4
theorem taskE (l : List Int) (hl : ∀ x ∈ l, 0 ≤ x ∧ x ≤ 255) (B p s : Int) (hB : B ≤ 999900) (h : St B p s) : ∃ r, spec_l00Src_task.f l p s 3 = some r ∧ TaskP r.1 r.2.1 r.2.2.1 r.2.2.2.1 r.2.2.2.2.1 r.2.2.2.2.2.1 ∧ St (B + 21) r.2.2.2.2.2.2.1 r.2.2.2.2.2.2.2 := by
  unfold spec_l00Src_task.f
  obtain ⟨k, ek, k0, k1, hk⟩ := nextE l hl B p s 2 (by omega) h (by omega)
  rw [ek]; simp only [Option.bind_some]
  obtain ⟨q, eq, q0, q1, hq⟩ := nextE l hl (B + 3) _ _ 200 (by omega) hk (by omega)
  rw [eq]; simp only [Option.bind_some]
  obtain ⟨u, eu, u0, u1, hu⟩ := nextE l hl (B + 3 + 3) _ _ 3 (by omega) hq (by omega)
  rw [eu]; simp only [Option.bind_some]
  obtain ⟨v, ev, v0, v1, hv⟩ := nextE l hl (B + 3 + 3 + 3) _ _ 30 (by omega) hu (by omega)
  rw [ev]; simp only [Option.bind_some]
  rw [w64 (x := 1 + k.1) (by omega) (by omega), w64 (x := 40 + q.1) (by omega) (by omega), w64 (x := 40 + q.1 - v.1) (by omega) (by omega)]
  by_cases h2 : 1 + k.1 = 2
  · rw [if_pos h2]
    obtain ⟨x, ex, x0, x1, hx⟩ := nextE l hl (B + 3 + 3 + 3 + 3) _ _ 3 (by omega) hv (by omega)
    rw [ex]; simp only [Option.bind_some]
    obtain ⟨y, ey, y0, y1, hy⟩ := nextE l hl (B + 3 + 3 + 3 + 3 + 3) _ _ 3 (by omega) hx (by omega)
    rw [ey]; simp only [Option.bind_some]
    obtain ⟨z, ez, z0, z1, hz⟩ := nextE l hl (B + 3 + 3 + 3 + 3 + 3 + 3) _ _ 300 (by omega) hy (by omega)
    rw [ez]; simp only [Option.bind_some]
    rw [w64 (x := 40 + z.1) (by omega) (by omega), w64 (x := 1 + y.1) (by omega) (by omega)]
    obtain ⟨s0, s1, s2, s3⟩ := hz
    refine ⟨_, rfl, ⟨?_, by dsimp only; omega, by dsimp only; omega, by dsimp only; omega⟩, by dsimp only; omega, by dsimp only; omega, by dsimp only; omega, by dsimp only; omega⟩
    dsimp only
    rw [h2]
    unfold taskB
    rw [inB_of (a := 40 + q.1) (by omega) (by omega), inB_of (a := 40 + z.1) (by omega) (by omega), inB_of (a := 1 + y.1) (by omega) (by omega), inB_of (a := u.1) (by omega) (by omega)]
    simp [kindB, inB_of (a := x.1) (b := 0) (c := 7) (by omega) (by omega)]
  · rw [if_neg h2]
    obtain ⟨s0, s1, s2, s3⟩ := hv
    refine ⟨_, rfl, ⟨?_, by dsimp only; omega, by dsimp only; omega, by dsimp only; omega⟩, by dsimp only; omega, by dsimp only; omega, by dsimp only; omega, by dsimp only; omega⟩
    dsimp only
    rw [show 1 + k.1 = 1 from by omega]
    unfold taskB
    rw [inB_of (a := 40 + q.1) (by omega) (by omega), inB_of (a := 40 + q.1 - v.1) (by omega) (by omega), inB_of (a := (1 : Int)) (by omega) (by omega), inB_of (a := u.1) (by omega) (by omega), kindB_1 _ _ (by omega)]
    rfl
/-- What waits: from 0 to Last, one behind the other. -/
def Waits (a0 : Int) (w : List Int) : Prop := ∀ i : Nat, i < w.length → 0 ≤ rd w (i : Int) ∧ rd w (i : Int) ≤ a0 ∧ (0 < i → rd w ((i : Int) - 1) < rd w (i : Int))
/-- A right source on its way, at time now, its counts at most N. -/
def SrcP (N now a0 a1 a2 a3 a4 a5 : Int) (w : List Int) (q : Int) : Prop := (0 ≤ a1 ∧ a1 ≤ N) ∧ (0 ≤ a2 ∧ a2 ≤ N) ∧ (0 ≤ a3 ∧ a3 ≤ N) ∧ (0 ≤ a4 ∧ a4 ≤ N) ∧ a5 = 0 ∧ -1 ≤ a0 ∧ a0 ≤ now ∧ (w.length : Int) ≤ q ∧ Waits a0 w
theorem rd_snoc_lt (w : List Int) (x : Int) (i : Nat) (h : i < w.length) : rd (w ++ [x]) (i : Int) = rd w (i : Int) := by
  unfold rd
  rw [Int.toNat_natCast, List.getD_eq_getElem?_getD, List.getD_eq_getElem?_getD, List.getElem?_append_left h]
theorem rd_snoc_eq (w : List Int) (x : Int) : rd (w ++ [x]) (w.length : Int) = x := by
  unfold rd
  rw [Int.toNat_natCast, List.getD_eq_getElem?_getD, List.getElem?_append_right (Nat.le_refl _)]
  simp
theorem rd_drop1 (w : List Int) (i : Nat) : rd (w.drop 1) (i : Int) = rd w ((i : Int) + 1) := by
  unfold rd
  rw [show ((i : Int) + 1).toNat = i + 1 from by omega, Int.toNat_natCast, List.getD_eq_getElem?_getD, List.getD_eq_getElem?_getD, List.getElem?_drop, Nat.add_comm]
theorem waits_drop (a0 : Int) (w : List Int) (h : Waits a0 w) : Waits a0 (w.drop 1) := by
  intro i hi
  rw [List.length_drop] at hi
  have := h (i + 1) (by omega)
  rw [rd_drop1]
  refine ⟨by exact_mod_cast this.1, by exact_mod_cast this.2.1, fun h0 => ?_⟩
  have h3 := this.2.2 (by omega)
  obtain ⟨j, rfl⟩ : ∃ j, i = j + 1 := ⟨i - 1, by omega⟩
  rw [show ((j + 1 : Nat) : Int) - 1 = (j : Int) from by omega, rd_drop1]
  rw [show (((j + 1 + 1 : Nat)) : Int) - 1 = (j : Int) + 1 from by omega] at h3
  exact_mod_cast h3
theorem waits_snoc (a0 now : Int) (w : List Int) (h : Waits a0 w) (hlt : a0 < now) (h0 : 0 ≤ now) : Waits now (w ++ [now]) := by
  intro i hi
  rw [List.length_append, List.length_singleton] at hi
  rcases Nat.lt_or_ge i w.length with hl | hl
  · rw [rd_snoc_lt w now i hl]
    have := h i hl
    refine ⟨this.1, by omega, fun hp => ?_⟩
    have h3 := this.2.2 hp
    obtain ⟨j, rfl⟩ : ∃ j, i = j + 1 := ⟨i - 1, by omega⟩
    rw [show ((j + 1 : Nat) : Int) - 1 = (j : Int) from by omega] at h3 ⊢
    rw [rd_snoc_lt w now j (by omega)]
    exact h3
  · obtain rfl : i = w.length := by omega
    rw [rd_snoc_eq]
    refine ⟨h0, Int.le_refl _, fun hp => ?_⟩
    obtain ⟨j, hj⟩ : ∃ j, w.length = j + 1 := ⟨w.length - 1, by omega⟩
    rw [show ((w.length : Nat) : Int) - 1 = (j : Int) from by omega, rd_snoc_lt w now j (by omega)]
    have := (h j (by omega)).2.1
    omega
theorem oneE (n : Int) (h0 : 0 ≤ n) (h1 : n ≤ 1000000) : spec_l10One.f n = some (n + 1) := by
  unfold spec_l10One.f mn
  rw [w64 (by omega) (by omega)]
  congr 1
  split <;> omega
theorem offerE (N now a0 a1 a2 a3 a4 a5 : Int) (w : List Int) (b0 b1 b2 b3 b4 b5 : Int) (hN : N ≤ 100000) (hn : now ≤ 1000000) (hn0 : 0 ≤ now) (hb : 40 ≤ b1 ∧ b1 ≤ 300) (hq : b4 ≤ 4) (h : SrcP N now a0 a1 a2 a3 a4 a5 w b4) :
    ∃ r, Ev (fun k => spec_l10Offer.f k a0 a1 a2 a3 a4 a5 w b0 b1 b2 b3 b4 b5 now) r ∧ SrcP (N + 1) now r.1 r.2.1 r.2.2.1 r.2.2.2.1 r.2.2.2.2.1 r.2.2.2.2.2.1 r.2.2.2.2.2.2.1 b4 ∧ r.2.2.1 ≤ N := by
  obtain ⟨⟨p1, q1⟩, ⟨p2, q2⟩, ⟨p3, q3⟩, ⟨p4, q4⟩, p5, p0, q0, hl, hw⟩ := h
  have key : ∀ b : Bool, (b = false → a0 < now) → ∃ r, Ev (fun k => spec_l10Offer.j0 k now b a0 (a1 + 1) a2 a3 a4 a5 w b0 b1 b2 b3 b4 b5) r ∧ SrcP (N + 1) now r.1 r.2.1 r.2.2.1 r.2.2.2.1 r.2.2.2.2.1 r.2.2.2.2.2.1 r.2.2.2.2.2.2.1 b4 ∧ r.2.2.1 ≤ N := by
    intro b hb2
    cases b with
    | true =>
      refine ⟨(a0, a1 + 1, a2, a3 + 1, a4, a5, w, 18), Ev.step (fun k => by simp only [spec_l10Offer.j0]; rfl) (Ev.pos (by simp) (Ev.bindc (oneE a3 p3 (by omega)) (Ev.lit rfl))), ?_, q2⟩
      exact ⟨⟨by dsimp only; omega, by dsimp only; omega⟩, ⟨p2, by dsimp only; omega⟩, ⟨by dsimp only; omega, by dsimp only; omega⟩, ⟨p4, by dsimp only; omega⟩, p5, p0, q0, hl, hw⟩
    | false =>
      by_cases hf : (w.length : Int) = b4
      · refine ⟨(a0, a1 + 1, a2, a3, a4 + 1, a5, w, 7), Ev.step (fun k => by simp only [spec_l10Offer.j0]; rfl) (Ev.neg (by simp) (Ev.pos hf (Ev.bindc (oneE a4 p4 (by omega)) (Ev.lit rfl)))), ?_, q2⟩
        exact ⟨⟨by dsimp only; omega, by dsimp only; omega⟩, ⟨p2, by dsimp only; omega⟩, ⟨p3, by dsimp only; omega⟩, ⟨by dsimp only; omega, by dsimp only; omega⟩, p5, p0, q0, hl, hw⟩
      · refine ⟨(now, a1 + 1, a2, a3, a4, a5, [] ++ w ++ [now], 0), Ev.step (fun k => by simp only [spec_l10Offer.j0]; rfl) (Ev.neg (by simp) (Ev.neg hf (Ev.bindc rfl (Ev.pos (by simp; omega) (Ev.bindc rfl (Ev.pos (by simp; omega) (Ev.lit rfl))))))), ?_, q2⟩
        exact ⟨⟨by dsimp only; omega, by dsimp only; omega⟩, ⟨p2, by dsimp only; omega⟩, ⟨p3, by dsimp only; omega⟩, ⟨p4, by dsimp only; omega⟩, p5, by dsimp only; omega, Int.le_refl _, by simp; omega, waits_snoc a0 now w hw (hb2 rfl) hn0⟩
  unfold spec_l10Offer.f
  by_cases h0 : a0 ≥ 0
  · obtain ⟨r, e, p⟩ := key (decide (wrap64 (now - a0) < b1)) (fun hd => by rw [w64 (by omega) (by omega)] at hd; have := of_decide_eq_false hd; omega)
    exact ⟨r, Ev.bindc (oneE a1 p1 (by omega)) (Ev.pos h0 e), p⟩
  · obtain ⟨r, e, p⟩ := key false (fun _ => by omega)
    exact ⟨r, Ev.bindc (oneE a1 p1 (by omega)) (Ev.neg h0 e), p⟩
theorem takeE (N now a0 a1 a2 a3 a4 a5 : Int) (w : List Int) (b4 : Int) (hl : 0 < (w.length : Int)) (hb : b4 ≤ 4) (h : SrcP N now a0 a1 a2 a3 a4 a5 w b4) : spec_l10Take.f a0 a1 a2 a3 a4 a5 w = some (a0, a1, a2, a3, a4, a5, w.drop 1, rd w 0) ∧ SrcP N now a0 a1 a2 a3 a4 a5 (w.drop 1) b4 := by
  obtain ⟨p1, p2, p3, p4, p5, p0, q0, hl2, hw⟩ := h
  constructor
  · unfold spec_l10Take.f
    rw [if_pos hl]
    simp only [Option.bind_some]
    rw [if_pos (by omega), if_pos (by rw [List.length_drop]; simp; omega)]
    rfl
  · exact ⟨p1, p2, p3, p4, p5, p0, q0, by rw [List.length_drop]; omega, waits_drop _ _ hw⟩
theorem srcp_later {N now n2 a0 a1 a2 a3 a4 a5 : Int} {w : List Int} {q : Int} (h : SrcP N now a0 a1 a2 a3 a4 a5 w q) (hn : now ≤ n2) : SrcP N n2 a0 a1 a2 a3 a4 a5 w q := by
  obtain ⟨p1, p2, p3, p4, p5, p0, q0, hl, hw⟩ := h
  exact ⟨p1, p2, p3, p4, p5, p0, by omega, hl, hw⟩
theorem source_loop (l : List Int) (hl : ∀ x ∈ l, 0 ≤ x ∧ x ≤ 255) (b0 b1 b2 b3 b4 b5 : Int) (hb : 40 ≤ b1 ∧ b1 ≤ 300) (hq : b4 ≤ 4) (d : Nat) : ∀ (now x8 N B p s a0 a1 a2 a3 a4 a5 : Int) (w : List Int), x8 = d → d ≤ 8 → N + d ≤ 1000 → 0 ≤ N → B + 10 * d ≤ 900000 → 0 ≤ now → now + 1000 * d ≤ 900000 → St B p s → SrcP N now a0 a1 a2 a3 a4 a5 w b4 →
    ∃ r, Ev (fun k => spec_l00Src_source.l0 k now x8 l p s b0 b1 b2 b3 b4 b5 a0 a1 a2 a3 a4 a5 w) r ∧ SrcP 1000 1000000 r.1 r.2.1 r.2.2.1 r.2.2.2.1 r.2.2.2.2.1 r.2.2.2.2.2.1 r.2.2.2.2.2.2.1 b4 := by
  induction d with
  | zero =>
    intro now x8 N B p s a0 a1 a2 a3 a4 a5 w hx hd hN hN0 hB hn0 hn hS hP
    refine ⟨(a0, a1, a2, a3, a4, a5, w, now, p, s), Ev.step (fun k => by simp only [spec_l00Src_source.l0]; rfl) (Ev.neg (by omega) (Ev.lit rfl)), ?_⟩
    obtain ⟨⟨p1, q1⟩, ⟨p2, q2⟩, ⟨p3, q3⟩, ⟨p4, q4⟩, p5, p0, q0, hl, hw⟩ := hP
    exact ⟨⟨p1, by dsimp only; omega⟩, ⟨p2, by dsimp only; omega⟩, ⟨p3, by dsimp only; omega⟩, ⟨p4, by dsimp only; omega⟩, p5, p0, by dsimp only; omega, hl, hw⟩
  | succ d ih =>
    intro now x8 N B p s a0 a1 a2 a3 a4 a5 w hx hd hN hN0 hB hn0 hn hS hP
    obtain ⟨r, er, hr, hr2⟩ := offerE N now a0 a1 a2 a3 a4 a5 w b0 b1 b2 b3 b4 b5 (by omega) (by omega) hn0 hb hq hP
    obtain ⟨c0, c1, c2, c3, c4, c5, v, cc⟩ := r
    dsimp only at hr hr2
    have ht : 0 ≤ Int.tdiv b1 2 ∧ Int.tdiv b1 2 ≤ 150 := by rw [Int.tdiv_eq_ediv_of_nonneg (by omega)]; omega
    obtain ⟨y, ey, y0, y1, hy⟩ := nextE l hl B p s (b1 + Int.tdiv b1 2 + 1) (by omega) hS (by omega)
    have hw8 : wrap64 (x8 - 1) = (d : Int) := by rw [w64 (by omega) (by omega)]; omega
    have hwn : wrap64 (now + y.1) = now + y.1 := w64 (by omega) (by omega)
    have main : ∃ r, Ev (fun k => if (v.length : Int) > 0 then ((spec_l00Src_chance.f l y.2.1 y.2.2 3).bind fun bt486 => (if bt486.1 = true then ((spec_l10Take.f c0 c1 c2 c3 c4 c5 v).bind fun bt489 => (spec_l00Src_source.l0 k (now + y.1) (d : Int) l bt486.2.1 bt486.2.2 b0 b1 b2 b3 b4 b5 bt489.1 bt489.2.1 (wrap64 (bt489.2.2.1 + 1)) bt489.2.2.2.1 bt489.2.2.2.2.1 bt489.2.2.2.2.2.1 bt489.2.2.2.2.2.2.1)) else (spec_l00Src_source.l0 k (now + y.1) (d : Int) l bt486.2.1 bt486.2.2 b0 b1 b2 b3 b4 b5 c0 c1 c2 c3 c4 c5 v))) else (spec_l00Src_source.l0 k (now + y.1) (d : Int) l y.2.1 y.2.2 b0 b1 b2 b3 b4 b5 c0 c1 c2 c3 c4 c5 v)) r ∧ SrcP 1000 1000000 r.1 r.2.1 r.2.2.1 r.2.2.2.1 r.2.2.2.2.1 r.2.2.2.2.2.1 r.2.2.2.2.2.2.1 b4 := by
      by_cases hv : (v.length : Int) > 0
      · obtain ⟨z, ez, hz⟩ := chanceE l hl (B + 3) _ _ 3 (by omega) hy (by omega) (by omega)
        by_cases hz1 : z.1 = true
        · obtain ⟨et, pt⟩ := takeE (N + 1) now c0 c1 c2 c3 c4 c5 v b4 hv hq hr
          have pt2 : SrcP (N + 1) now c0 c1 (c2 + 1) c3 c4 c5 (v.drop 1) b4 := by
            obtain ⟨p1, ⟨p2, q2⟩, p3, p4, p5, p0, q0, hl2, hw⟩ := pt
            exact ⟨p1, ⟨by omega, by omega⟩, p3, p4, p5, p0, q0, hl2, hw⟩
          obtain ⟨rr, e, pp⟩ := ih (now + y.1) d (N + 1) (B + 3 + 3) z.2.1 z.2.2 c0 c1 (c2 + 1) c3 c4 c5 (v.drop 1) rfl (by omega) (by omega) (by omega) (by omega) (by omega) (by omega) hz (srcp_later pt2 (by omega))
          refine ⟨rr, Ev.pos hv (Ev.bindc ez (Ev.pos hz1 (Ev.bindc et ?_))), pp⟩
          rw [w64 (x := c2 + 1) (by have := pt2.2.1.1; omega) (by have := pt2.2.1.2; omega)]
          exact e
        · obtain ⟨rr, e, pp⟩ := ih (now + y.1) d (N + 1) (B + 3 + 3) z.2.1 z.2.2 c0 c1 c2 c3 c4 c5 v rfl (by omega) (by omega) (by omega) (by omega) (by omega) (by omega) hz (srcp_later hr (by omega))
          exact ⟨rr, Ev.pos hv (Ev.bindc ez (Ev.neg hz1 e)), pp⟩
      · obtain ⟨rr, e, pp⟩ := ih (now + y.1) d (N + 1) (B + 3) y.2.1 y.2.2 c0 c1 c2 c3 c4 c5 v rfl (by omega) (by omega) (by omega) (by omega) (by omega) (by omega) hy (srcp_later hr (by omega))
        exact ⟨rr, Ev.neg hv e, pp⟩
    obtain ⟨rr, e, pp⟩ := main
    refine ⟨rr, Ev.step (fun k => by simp only [spec_l00Src_source.l0]; rfl) (Ev.pos (by omega) (Ev.bind er ?_)), pp⟩
    rw [w64 (x := Int.tdiv b1 2) (by omega) (by omega), w64 (x := b1 + Int.tdiv b1 2) (by omega) (by omega), w64 (x := b1 + Int.tdiv b1 2 + 1) (by omega) (by omega)]
    refine Ev.bindc ey ?_
    rw [hw8, hwn]
    exact e
theorem wait_true (w : List Int) (hl : w.length ≤ 1048576) (a0 a1 a2 a3 a4 a5 : Int) (hw : Waits a0 w) (d : Nat) : ∀ (i : Nat), i + d = w.length → Ev (fun k => spec_SourceOK.l1 k (i : Int) a0 a1 a2 a3 a4 a5 w) true := by
  induction d with
  | zero =>
    intro i hi
    exact Ev.step (fun k => by simp only [spec_SourceOK.l1]; rfl) (Ev.neg (by omega) (Ev.lit rfl))
  | succ d ih =>
    intro i hi
    have h := hw i (by omega)
    have e := ih (i + 1) (by omega)
    refine Ev.step (fun k => by simp only [spec_SourceOK.l1]; rfl) (Ev.pos (by omega) (Ev.pos (by omega) (Ev.bindc (in_spec _ _ _) ?_)))
    rw [inB_of h.1 h.2.1, w64 (x := (i : Int) + 1) (by omega) (by omega), w64 (x := (i : Int) - 1) (by omega) (by omega)]
    refine Ev.pos rfl ?_
    by_cases h0 : (i : Int) > 0
    · refine Ev.pos h0 (Ev.pos (by omega) (Ev.pos (by omega) (Ev.neg (by have := h.2.2 (by omega); omega) ?_)))
      exact_mod_cast e
    · refine Ev.neg h0 ?_
      exact_mod_cast e
theorem ok_true (N now a0 a1 a2 a3 a4 a5 : Int) (w : List Int) (b0 b1 b2 b3 b4 b5 : Int) (h1 : 0 ≤ a1 ∧ a1 ≤ 2147483647) (h2 : 0 ≤ a2 ∧ a2 ≤ 2147483647) (h3 : 0 ≤ a3 ∧ a3 ≤ 2147483647) (h4 : 0 ≤ a4 ∧ a4 ≤ 2147483647) (h5 : 0 ≤ a5 ∧ a5 ≤ 2147483647) (h0 : -1 ≤ a0 ∧ a0 ≤ 2147483647) (hw : Waits a0 w) (hl : (w.length : Int) ≤ b4) (hb : b4 ≤ 4) (ht : taskB b0 b1 b2 b3 b4 b5 = true) :
    Ev (fun k => spec_SourceOK.f k a0 a1 a2 a3 a4 a5 w b0 b1 b2 b3 b4 b5) true ∧ Ev (fun k => impl_SourceOK.f k a0 a1 a2 a3 a4 a5 w b0 b1 b2 b3 b4 b5) true := by
  obtain ⟨r, e1, e2⟩ := sourceOK a0 a1 a2 a3 a4 a5 w b0 b1 b2 b3 b4 b5 (by omega)
  have hall : ([a1, a2, a3, a4, a5].all fun x => inB x 0 2147483647) = true := by simp [inB, h1, h2, h3, h4, h5]
  have e : Ev (fun k => spec_SourceOK.f k a0 a1 a2 a3 a4 a5 w b0 b1 b2 b3 b4 b5) true := by
    unfold spec_SourceOK.f
    refine counts_spec [a1, a2, a3, a4, a5] (by simp) true a0 a1 a2 a3 a4 a5 w b0 b1 b2 b3 b4 b5 _ 5 0 rfl ?_ ?_
    · intro _
      refine Ev.step (fun k => by simp only [spec_SourceOK.l0]; rfl) ?_
      refine Ev.neg (by simp) (Ev.bind (task_spec _ _ _ _ _ _) ?_)
      rw [ht]
      refine Ev.pos rfl (Ev.bindc (in_spec _ _ _) ?_)
      rw [inB_of h0.1 h0.2]
      refine Ev.pos rfl ?_
      rw [show decide ((w.length : Int) > b4) = false from decide_eq_false (by omega)]
      refine Ev.step (fun k => by simp only [spec_SourceOK.j1]; rfl) (Ev.neg (by simp) ?_)
      exact wait_true w (by omega) a0 a1 a2 a3 a4 a5 hw w.length 0 (by omega)
    · intro h
      rw [List.drop_zero, hall] at h
      cases h
  obtain rfl := Ev.unique e1 e
  exact ⟨e1, e2⟩
theorem drawnE (l : List Int) (hl : ∀ x ∈ l, 0 ≤ x ∧ x ≤ 255) : ∃ a0 a1 a2 a3 a4 a5 w b0 b1 b2 b3 b4 b5 n, Ev (fun k => spec_SourceDrawn.f k l) (a0, a1, a2, a3, a4, a5, w, b0, b1, b2, b3, b4, b5, n) ∧ SrcP 1000 1000000 a0 a1 a2 a3 a4 a5 w b4 ∧ TaskP b0 b1 b2 b3 b4 b5 := by
  obtain ⟨⟨b0, b1, b2, b3, b4, b5, p, s⟩, et, ht, hs⟩ := taskE l hl 0 0 ((l.length : Int) % 1000) (by omega) ⟨by omega, by omega, by omega, by omega⟩
  dsimp only at ht hs
  obtain ⟨x, ex, x0, x1, hx⟩ := nextE l hl (0 + 21) p s 20 (by omega) hs (by omega)
  obtain ⟨y, ey, y0, y1, hy⟩ := nextE l hl (0 + 21 + 3) _ _ 8 (by omega) hx (by omega)
  have hb4 : b4 ≤ 4 := by
    have h := ht.1
    unfold taskB inB at h
    simp only [Bool.and_eq_true, decide_eq_true_eq] at h
    omega
  obtain ⟨⟨a0, a1, a2, a3, a4, a5, w, n, q1, q2⟩, er, hr⟩ := source_loop l hl b0 b1 b2 b3 b4 b5 ⟨ht.2.1, ht.2.2.1⟩ hb4 y.1.toNat x.1 y.1 0 (0 + 21 + 3 + 3) y.2.1 y.2.2 (-1) 0 0 0 0 0 [] (by omega) (by omega) (by omega) (by omega) (by omega) (by omega) (by omega) hy ⟨⟨by omega, by omega⟩, ⟨by omega, by omega⟩, ⟨by omega, by omega⟩, ⟨by omega, by omega⟩, rfl, by omega, by omega, by have := ht.2.2.2; simp; omega, fun i hi => by simp at hi⟩
  refine ⟨a0, a1, a2, a3, a4, a5, w, b0, b1, b2, b3, b4, b5, n, ?_, hr, ht⟩
  unfold spec_SourceDrawn.f
  refine Ev.bindc (a := (l, 0, (l.length : Int) % 1000)) rfl (Ev.bindc et (Ev.bind (a := (a0, a1, a2, a3, a4, a5, w, n, q1, q2)) ?_ (Ev.lit rfl)))
  unfold spec_l00Src_source.f
  exact Ev.bindc (a := (-1, 0, 0, 0, 0, 0, [])) rfl (Ev.bindc ex (Ev.bindc ey er))
theorem FnDrop : laws_FnDrop.Pure := by
  rintro l0 l1 ⟨-, w0⟩ ⟨-, w1⟩
  suffices h : Ev (fun k => laws_FnDrop.f k l0 l1) true by
    obtain ⟨K, h⟩ := h
    exact ⟨K, h K (Nat.le_refl K)⟩
  have c0 : ∀ x ∈ l0, 0 ≤ x ∧ x ≤ 255 := fun x hx => by have h := w0 x hx; simp [Lit.wf, IntKind.min, IntKind.max, IntKind.signed, IntKind.bits] at h; omega
  have c1 : ∀ x ∈ l1, 0 ≤ x ∧ x ≤ 255 := fun x hx => by have h := w1 x hx; simp [Lit.wf, IntKind.min, IntKind.max, IntKind.signed, IntKind.bits] at h; omega
  unfold laws_FnDrop.f
  by_cases h0 : (l0.length : Int) > 1048576
  · exact Ev.pos h0 (Ev.step (fun k => by simp only [laws_FnDrop.j0]; rfl) (Ev.pos (by simp) (Ev.lit rfl)))
  refine Ev.neg h0 ?_
  by_cases h1 : (l1.length : Int) > 1048576
  · exact Ev.step (fun k => by simp only [laws_FnDrop.j0]; rfl) (Ev.pos (by simpa using h1) (Ev.lit rfl))
  refine Ev.step (fun k => by simp only [laws_FnDrop.j0]; rfl) (Ev.neg (by simpa using h1) ?_)
  obtain ⟨a0, a1, a2, a3, a4, a5, w, b0, b1, b2, b3, b4, b5, nw, ed, hp, ht⟩ := drawnE l0 c0
  obtain ⟨n, hn, en⟩ := atE l1 c1 (by omega) 2 (by omega)
  obtain ⟨⟨p1, q1⟩, ⟨p2, q2⟩, ⟨p3, q3⟩, ⟨p4, q4⟩, rfl, p0, q0, hl, hw⟩ := hp
  have hb4 : b4 ≤ 4 := by
    have h := ht.1
    unfold taskB inB at h
    simp only [Bool.and_eq_true, decide_eq_true_eq] at h
    omega
  obtain ⟨ox1, ox2⟩ := ok_true 0 0 a0 a1 a2 a3 a4 0 w b0 b1 b2 b3 b4 b5 ⟨p1, by omega⟩ ⟨p2, by omega⟩ ⟨p3, by omega⟩ ⟨p4, by omega⟩ ⟨by omega, by omega⟩ ⟨p0, by omega⟩ hw hl hb4 ht.1
  have key : ∀ bit : Int, (bit = if (((n : Nat) : Int) == 1) then 1 else 0) → Ev (fun k => impl_DropEvents.f k a0 a1 a2 a3 a4 0 w b0 b1 b2 b3 b4 b5 (((n : Nat) : Int) == 1)) (a0, a1, a2, a3, a4, (w.length : Int) + bit, [], 0) ∧ Ev (fun k => spec_DropEvents.f k a0 a1 a2 a3 a4 0 w b0 b1 b2 b3 b4 b5 (((n : Nat) : Int) == 1)) (a0, a1, a2, a3, a4, (w.length : Int) + bit, [], 0) := by
    intro bit hbit
    have hb01 : 0 ≤ bit ∧ bit ≤ 1 := by rw [hbit]; split <;> omega
    constructor
    · unfold impl_DropEvents.f
      refine Ev.bind ox2 (Ev.pos rfl (Ev.bindc (a := w) ?_ (Ev.lit ?_)))
      · unfold slices_Clone_int.f
        rw [if_pos (by omega)]
      · rw [← hbit, w64 (x := (w.length : Int) + bit) (by omega) (by omega), w64 (by omega) (by omega)]
        unfold mn
        rw [if_neg (by omega), Int.zero_add]
    · unfold spec_DropEvents.f
      refine Ev.bind ox1 (Ev.pos rfl (Ev.bindc (a := (a0, a1, a2, a3, a4, (w.length : Int) + bit, [])) ?_ (Ev.bindc (a := (a0, a1, a2, a3, a4, (w.length : Int) + bit, [])) ?_ (Ev.lit rfl))))
      · unfold spec_l10Drop.f spec_l06Bit.f
        have e : (if (((n : Nat) : Int) == 1) = true then (some (1 : Int)) else (some 0)) = some bit := by rw [hbit]; split <;> rfl
        rw [e]
        simp only [Option.bind_some]
        rw [w64 (x := (0 : Int) + (w.length : Int)) (by omega) (by omega), Int.zero_add, w64 (by omega) (by omega)]
        unfold mn
        rw [if_neg (by omega)]
      · unfold spec_l10Own.f
        simp
  have rest : ∀ D : Int, 0 ≤ D → D ≤ 10 → (Ev (fun k => impl_BalanceOf.f k a0 a1 a2 a3 a4 D [] b0 b1 b2 b3 b4 b5) (a1 - a2 - a3 - a4 - D, 0)) ∧ Ev (fun k => impl_SourceText.f k a0 a1 a2 a3 a4 D [] b0 b1 b2 b3 b4 b5) (srcT a1 a2 a3 a4 D 0, 0) ∧ Ev (fun k => spec_SourceText.f k a0 a1 a2 a3 a4 D [] b0 b1 b2 b3 b4 b5) (srcT a1 a2 a3 a4 D 0, 0) := by
    intro D hD0 hD1
    obtain ⟨oy1, oy2⟩ := ok_true 0 0 a0 a1 a2 a3 a4 D [] b0 b1 b2 b3 b4 b5 ⟨p1, by omega⟩ ⟨p2, by omega⟩ ⟨p3, by omega⟩ ⟨p4, by omega⟩ ⟨by omega, by omega⟩ ⟨p0, by omega⟩ (fun i hi => by simp at hi) (by have := ht.2.2.2; simp; omega) hb4 ht.1
    refine ⟨?_, ?_, ?_⟩
    · unfold impl_BalanceOf.f
      refine Ev.bind oy2 (Ev.pos rfl (Ev.lit ?_))
      rw [w64 (x := a1 - a2) (by omega) (by omega), w64 (x := a1 - a2 - a3) (by omega) (by omega), w64 (x := a1 - a2 - a3 - a4) (by omega) (by omega), w64 (x := a1 - a2 - a3 - a4 - D) (by omega) (by omega)]
      simp only [List.length_nil]
      rw [w64 (by omega) (by omega)]
      simp
    · unfold impl_SourceText.f
      exact Ev.bind oy2 (Ev.pos rfl (Ev.bind (text_impl a0 a1 a2 a3 a4 D [] (by simp) ⟨by omega, by omega⟩ ⟨by omega, by omega⟩ ⟨by omega, by omega⟩ ⟨by omega, by omega⟩ ⟨by omega, by omega⟩) (Ev.lit rfl)))
    · unfold spec_SourceText.f
      exact Ev.bind oy1 (Ev.pos rfl (Ev.bind (text_spec a0 a1 a2 a3 a4 D [] (by simp) ⟨by omega, by omega⟩ ⟨by omega, by omega⟩ ⟨by omega, by omega⟩ ⟨by omega, by omega⟩ ⟨by omega, by omega⟩) (Ev.lit rfl)))
  have bal : Ev (fun k => impl_BalanceOf.f k a0 a1 a2 a3 a4 0 w b0 b1 b2 b3 b4 b5) (a1 - a2 - a3 - a4 - (w.length : Int), 0) ∧ Ev (fun k => spec_BalanceOf.f k a0 a1 a2 a3 a4 0 w b0 b1 b2 b3 b4 b5) (a1 - a2 - a3 - a4 - (w.length : Int), 0) := by
    have e : wrap64 ((wrap64 ((wrap64 ((wrap64 ((wrap64 (a1 - a2)) - a3)) - a4)) - 0)) - (w.length : Int)) = a1 - a2 - a3 - a4 - (w.length : Int) := by
      rw [w64 (x := a1 - a2) (by omega) (by omega), w64 (x := a1 - a2 - a3) (by omega) (by omega), w64 (x := a1 - a2 - a3 - a4) (by omega) (by omega), w64 (x := a1 - a2 - a3 - a4 - 0) (by omega) (by omega), w64 (by omega) (by omega)]
      omega
    constructor
    · unfold impl_BalanceOf.f
      exact Ev.bind ox2 (Ev.pos rfl (Ev.lit (by rw [e])))
    · unfold spec_BalanceOf.f
      exact Ev.bind ox1 (Ev.pos rfl (Ev.bindc (a := a1 - a2 - a3 - a4 - (w.length : Int)) (by unfold spec_l10Balance.f; rw [e]) (Ev.lit rfl)))
  by_cases h2 : ((n : Nat) : Int) = 1
  · obtain ⟨k1, k2⟩ := key 1 (by rw [h2]; rfl)
    obtain ⟨r1, r2, r3⟩ := rest ((w.length : Int) + 1) (by omega) (by omega)
    refine Ev.bind ed (Ev.bindc en (Ev.bind bal.1 (Ev.bind bal.2 (Ev.bind k1 (Ev.bind r1 (Ev.bind r2 (Ev.bind k2 (Ev.bind r3 ?_))))))))
    refine Ev.pos h2 (Ev.pos rfl (Ev.pos rfl (Ev.pos rfl (Ev.pos rfl (Ev.pos ?_ (Ev.pos rfl (Ev.pos ?_ (Ev.pos rfl (Ev.lit ?_)))))))))
    · rw [w64 (x := (0 : Int) + (w.length : Int)) (by omega) (by omega), w64 (x := (0 : Int) + (w.length : Int) + 1) (by omega) (by omega)]; dsimp only; omega
    · rw [w64 (x := a1 - a2 - a3 - a4 - (w.length : Int) - 1) (by omega) (by omega)]; dsimp only; omega
    · simp
  · obtain ⟨k1, k2⟩ := key 0 (by rw [if_neg (by simpa using h2)])
    obtain ⟨r1, r2, r3⟩ := rest ((w.length : Int) + 0) (by omega) (by omega)
    refine Ev.bind ed (Ev.bindc en (Ev.bind bal.1 (Ev.bind bal.2 (Ev.bind k1 (Ev.bind r1 (Ev.bind r2 (Ev.bind k2 (Ev.bind r3 ?_))))))))
    refine Ev.neg h2 (Ev.pos rfl (Ev.pos rfl (Ev.pos rfl (Ev.pos rfl (Ev.pos ?_ (Ev.pos rfl (Ev.pos ?_ (Ev.pos rfl (Ev.lit ?_)))))))))
    · rw [w64 (x := (0 : Int) + (w.length : Int)) (by omega) (by omega), w64 (x := (0 : Int) + (w.length : Int) + 0) (by omega) (by omega)]; dsimp only; omega
    · rw [w64 (x := a1 - a2 - a3 - a4 - (w.length : Int) - 0) (by omega) (by omega)]; dsimp only; omega
    · simp
end Go.Proofs.YtkeoifkdejnpfaaDoor.Pu
