-- by gprint.py (a program of this session's own), over the kit's print.py; Lean checks it
import Derived.Test.YtppfcmkadcoboaaDoorSlFnExactDataLinesGx0
namespace Go.Proofs.YtppfcmkadcoboaaDoor.G
open Go.RowKit Go.Proofs.YtppfcmkadcoboaaDoorW.PrintWords Go.Proofs.YtppfcmkadcoboaaDoorW.PrintLast Go.Proofs.YtppfcmkadcoboaaDoorW.PrintMore
attribute [local go_sem] max2_int min2_int max_two min_two max_three min_three max_four min_four   -- for this text's walks alone
set_option linter.unusedVariables false
set_option linter.unusedSimpArgs false

/-! ### impl_within: function 81 -/
def impl_within.f (a0 : Int) (a1 : Int) (a2 : Int) : Option (Bool) := if a0 ≥ a1 then (some (decide (a0 ≤ a2))) else (some false)
set_option maxHeartbeats 8000000 in
set_option maxRecDepth 100000 in
theorem impl_within.calls (a0 : Int) (a1 : Int) (a2 : Int) (r : Bool) (w : World) (h : impl_within.f a0 a1 a2 = some r) :
    Calls Tryd.prog 81 #[.int .i64 a0, .int .i64 a1, .int .i64 a2] w fun e w' => e = .returned (.bool r) ∧ Drawn0 w w' := by
  have H : (if a0 ≥ a1 then (some (decide (a0 ≤ a2))) else (some false)) = some r := h
  clear h
  by_cases c4 : a0 ≥ a1
  · rw [if_pos c4] at H
    have c4b0 : decide (a1 ≤ a0) = true := decide_eq_true c4
    clear c4
    obtain rfl := Option.some.inj H
    go_enter Tryd.func81, Tryd.ntmps81
    go_wp2
    go_ret
    exact ⟨by first | rfl | (simp; done) | (simp [*]; done), by repeat (first | exact Drawn0.refl _ | apply Drawn0.step)⟩
  · rw [if_neg c4] at H
    have c4b0 : decide (a1 ≤ a0) = false := decide_eq_false c4
    clear c4
    obtain rfl := Option.some.inj H
    go_enter Tryd.func81, Tryd.ntmps81
    go_wp2
    go_ret
    exact ⟨by first | rfl | (simp; done) | (simp [*]; done), by repeat (first | exact Drawn0.refl _ | apply Drawn0.step)⟩

/-! ### impl_isValue: function 57 -/
def impl_isValue.f (a0 : Int) : Option (Bool) := (impl_within.f a0 (-2147483648) 2147483647).bind fun t202 => (some t202)
set_option maxHeartbeats 8000000 in
set_option maxRecDepth 100000 in
theorem impl_isValue.calls (a0 : Int) (r : Bool) (w : World) (h : impl_isValue.f a0 = some r) :
    Calls Tryd.prog 57 #[.int .i64 a0] w fun e w' => e = .returned (.bool r) ∧ Drawn0 w w' := by
  have H : ((impl_within.f a0 (-2147483648) 2147483647).bind fun t202 => (some t202)) = some r := h
  clear h
  replace H := Option.bind_eq_some_iff.mp H
  obtain ⟨t202, A20, H⟩ := H
  replace H : (some t202) = some r := H
  have A2 := Aside0.mk A20
  clear A20
  obtain rfl := Option.some.inj H
  go_enter Tryd.func57, Tryd.ntmps57
  go_wp2_with (first | ((with_reducible refine gate_callee (f := 81) rfl ?_); refine goesL_ (some 4) rfl rfl Tryd.func81 (by kernel_rfl) rfl #[.int .i64 a0, .int .i64 (-2147483648), .int .i64 2147483647] rfl qa ?_; (with_reducible refine (impl_within.calls a0 (-2147483648) 2147483647 t202 _ A2.out).mono ?_); rintro e w' ⟨rfl, ⟨nd, rfl⟩⟩; refine ⟨_, rfl, ?_⟩))
  go_ret
  exact ⟨by first | rfl | (simp; done) | (simp [*]; done), by repeat (first | exact Drawn0.refl _ | apply Drawn0.step)⟩

/-! ### impl_isTime: function 60 -/
def impl_isTime.f (a0 : Int) : Option (Bool) := (impl_within.f a0 0 2147483647).bind fun t203 => (some t203)
set_option maxHeartbeats 8000000 in
set_option maxRecDepth 100000 in
theorem impl_isTime.calls (a0 : Int) (r : Bool) (w : World) (h : impl_isTime.f a0 = some r) :
    Calls Tryd.prog 60 #[.int .i64 a0] w fun e w' => e = .returned (.bool r) ∧ Drawn0 w w' := by
  have H : ((impl_within.f a0 0 2147483647).bind fun t203 => (some t203)) = some r := h
  clear h
  replace H := Option.bind_eq_some_iff.mp H
  obtain ⟨t203, A20, H⟩ := H
  replace H : (some t203) = some r := H
  have A2 := Aside0.mk A20
  clear A20
  obtain rfl := Option.some.inj H
  go_enter Tryd.func60, Tryd.ntmps60
  go_wp2_with (first | ((with_reducible refine gate_callee (f := 81) rfl ?_); refine goesL_ (some 4) rfl rfl Tryd.func81 (by kernel_rfl) rfl #[.int .i64 a0, .int .i64 0, .int .i64 2147483647] rfl qa ?_; (with_reducible refine (impl_within.calls a0 0 2147483647 t203 _ A2.out).mono ?_); rintro e w' ⟨rfl, ⟨nd, rfl⟩⟩; refine ⟨_, rfl, ?_⟩))
  go_ret
  exact ⟨by first | rfl | (simp; done) | (simp [*]; done), by repeat (first | exact Drawn0.refl _ | apply Drawn0.step)⟩

/-! ### impl_all_value: function 56 at 57 (given) -/
def impl_all_value.p (x : Int) : Option Bool := impl_isValue.f x
def impl_all_value.f (l0 : List Int) : Option Bool := GivenW.allO (impl_all_value.p) l0
set_option maxHeartbeats 1000000 in
theorem impl_all_value.clos (x : Int) (b : Bool) (B0 : Nat) (W : World) (hc : W.cell? ⟨B0, 0, none⟩ = some (.func (.func 57) #[] #[])) (h : impl_all_value.p x = some b) :
    Calls Tryd.prog 80 #[.int .i64 x, .pointer (some ⟨B0, 0, none⟩)] W fun e w' => e = .returned (.bool (!b)) ∧ Below W.heap.size W w' := by
  have h' : impl_isValue.f x = some b := h
  have hlt : B0 < W.heap.size := World.block_lt_of_cell? W _ hc
  clear h
  have hH := Aside0.mk h'
  clear h'
  go_enter Tryd.func80, Tryd.ntmps80
  go_wp2_with (go_at_call 57; refine (impl_isValue.calls _ b _ hH.out).mono ?_; rintro e w' ⟨rfl, ⟨nq, rfl⟩⟩)
  go_ret
  exact ⟨rfl, pw_below_drewN (Below.refl _ _) _⟩
set_option maxHeartbeats 1000000 in
theorem impl_all_value.idx (A0 : Option Addr) (c0 : Nat) (l0 : List Int) (r : Bool) (B0 : Nat) (w : World) (hc : w.cell? ⟨B0, 0, none⟩ = some (.func (.func 57) #[] #[])) (hr0 : Kd.C (Kd.int .i64) w A0 l0.length l0) (h : impl_all_value.f l0 = some r) :
    Calls Tryd.prog 95 #[.slice A0 l0.length c0, .func (.func 80) #[] #[.pointer (some ⟨B0, 0, none⟩)]] w fun e w' => ∃ j : Int, e = .returned (.int .i64 j) ∧ Aside0 (if r = true then j = -1 else 0 ≤ j) ∧ Below w.heap.size w w' := by
  have hlt : B0 < w.heap.size := World.block_lt_of_cell? w _ hc
  have hlen : l0.length ≤ 9223372036854775807 := hr0.2.1
  have HR := Aside0.mk hr0
  have HC := Aside0.mk hc
  have HH := Aside0.mk h
  clear hr0 hc h
  go_enter Tryd.func95, Tryd.ntmps95
  go_wp2
  go_loopg [8] l0.length (fun gg s8 wr => ∃ kk : Nat, kk ≤ l0.length ∧ l0.length - kk ≤ gg ∧ s8 = .int .i64 kk ∧ Aside0 (Below w.heap.size w wr) ∧ Aside0 (GivenW.allO (impl_all_value.p) (l0.drop kk) = some r))
  case atStart => exact ⟨0, Nat.zero_le _, Nat.le_refl _, rfl, ⟨Below.refl _ _⟩, ⟨by simpa [impl_all_value.f] using HH.out⟩⟩
  case round =>
    clear HH
    obtain ⟨kk, hkk, hg, rfl, HB, HA⟩ := hrel
    by_cases hlt2 : kk < l0.length
    · have hltz : (kk : Int) < (l0.length : Int) := by omega
      obtain ⟨b, hb0, hb1, hb2⟩ := GivenW.allO_drop (0 : Int) hlt2 HA.out
      obtain ⟨ad, rfl, hc0⟩ := GivenW.C_int_at (Kd.C_below HR.out HB.out) (kk : Int) (by omega) (by omega)
      simp only [Int.toNat_natCast] at hc0
      have HP := Aside0.mk (show impl_all_value.p (rd l0 kk) = some b from hb0)
      have H1 := Aside0.mk hb1
      have H2 := Aside0.mk hb2
      have HCW := Aside0.mk ((HB.out.cell (p := ⟨B0, 0, none⟩) hlt).trans HC.out)
      clear hb0 hb1 hb2 HA
      cases b with
      | true =>
        go_wp2_with (go_at_call 80; refine (impl_all_value.clos _ true B0 _ HCW.out HP.out).mono ?_; rintro e w' ⟨rfl, hb'⟩)
        go_roundg (l0.length - (kk + 1))
        case measure => omega
        case rel => exact ⟨kk + 1, by omega, by omega, by go_num, ⟨below_then HB.out HB.out.size hb'⟩, ⟨H1.out (by simp)⟩⟩
      | false =>
        have hrf := H2.out (by simp)
        subst hrf
        go_wp2_with (go_at_call 80; refine (impl_all_value.clos _ false B0 _ HCW.out HP.out).mono ?_; rintro e w' ⟨rfl, hb'⟩)
        go_ret
        exact ⟨kk, rfl, ⟨by simp⟩, below_then HB.out HB.out.size hb'⟩
    · have hltz : ¬ (kk : Int) < (l0.length : Int) := by omega
      have hk : kk = l0.length := by omega
      have hrt : true = r := by have := HA.out; rw [hk, List.drop_length] at this; simpa [GivenW.allO] using this
      subst hrt
      clear hk HA
      go_wp2
      go_ret
      exact ⟨-1, rfl, ⟨by simp⟩, HB.out⟩
set_option maxHeartbeats 1000000 in
theorem impl_all_value.con (A0 : Option Addr) (c0 : Nat) (l0 : List Int) (r : Bool) (B0 : Nat) (w : World) (hc : w.cell? ⟨B0, 0, none⟩ = some (.func (.func 57) #[] #[])) (hr0 : Kd.C (Kd.int .i64) w A0 l0.length l0) (h : impl_all_value.f l0 = some r) :
    Calls Tryd.prog 79 #[.slice A0 l0.length c0, .func (.func 80) #[] #[.pointer (some ⟨B0, 0, none⟩)]] w fun e w' => e = .returned (.bool (!r)) ∧ Below w.heap.size w w' := by
  have HR := Aside0.mk hr0
  have HC := Aside0.mk hc
  have HH := Aside0.mk h
  clear hr0 hc h
  go_enter Tryd.func79, Tryd.ntmps79
  go_wp2_with (go_at_call 95; refine (impl_all_value.idx A0 c0 l0 r B0 _ HC.out HR.out HH.out).mono ?_; rintro e w' ⟨j, rfl, hj, hb'⟩)
  go_ret
  refine ⟨?_, hb'⟩
  have := hj.out
  show Ending.returned (.bool (decide (0 ≤ j))) = _
  cases r
  · rw [decide_eq_true (by simpa using this)]; rfl
  · rw [decide_eq_false (by simp at this; omega)]; rfl
set_option maxHeartbeats 1000000 in
theorem impl_all_value.calls (A0 : Option Addr) (c0 : Nat) (l0 : List Int) (r : Bool) (w : World) (hr0 : Kd.C (Kd.int .i64) w A0 l0.length l0) (hc0 : l0.length ≤ c0) (h : impl_all_value.f l0 = some r) :
    Calls Tryd.prog 56 #[.slice A0 l0.length c0, .func (.func 57) #[] #[]] w fun e w' => e = .returned (.bool r) ∧ Below w.heap.size w w' := by
  have HR := Aside0.mk hr0
  have HH := Aside0.mk h
  clear hr0 hc0 h
  go_enter Tryd.func56, Tryd.ntmps56
  go_wp2_with (go_at_call 79; refine (impl_all_value.con A0 c0 l0 r w.heap.size _ (by simp) (Kd.C_below HR.out (below_alloc (Below.refl _ _) _)) HH.out).mono ?_; rintro e w' ⟨rfl, hb'⟩)
  go_ret
  exact ⟨by simp, below_then (below_alloc (Below.refl _ _) _) (by simp) hb'⟩

/-! ### impl_FbOK: function 59 -/
def impl_FbOK.j0 : Nat → Bool → Int → Bool → Int → Int → Option (Bool)
  | 0, _, _, _, _, _ => none
  | k + 1, x12, x205000, x205001, x205002, x205003 => if x12 = true then (some false) else (if x205000 = 1 then (if x205001 = true then (some true) else (if x205002 = 0 then (some (x205003 == 0)) else (some false))) else (if x205000 = 2 then (some (x205002 == 0)) else (if x205000 = 3 then (if x205002 = 0 then (some (x205003 == 0)) else (some false)) else (if x205000 = 4 then (if x205002 = 0 then (some (x205003 == 0)) else (some false)) else (some false)))))
def impl_FbOK.f (k : Nat) (a0_0 : Int) (a0_1 : Bool) (a0_2 : Int) (a0_3 : Int) : Option (Bool) := (impl_isTime.f a0_2).bind fun t205 => (if t205 = true then ((impl_isTime.f a0_3).bind fun t206 => (impl_FbOK.j0 k (!t206) a0_0 a0_1 a0_2 a0_3)) else (impl_FbOK.j0 k true a0_0 a0_1 a0_2 a0_3))
theorem impl_FbOK.mono_l : ∀ k, (∀ y0 y1 y2 y3 y4, LeO (impl_FbOK.j0 k y0 y1 y2 y3 y4) (impl_FbOK.j0 (k + 1) y0 y1 y2 y3 y4))
  | 0 => fun _ _ _ _ _ r h => by simp [impl_FbOK.j0] at h
  | k + 1 => by
    have ih0 := impl_FbOK.mono_l k
    · intro y0 y1 y2 y3 y4
      unfold impl_FbOK.j0
      repeat' first
      | (with_reducible exact ih0 _ _ _ _ _)
      | (with_reducible exact LeO.refl _)
      | (with_reducible exact LeO.none _)
      | (with_reducible refine LeO.ite ?_ ?_)
      | (with_reducible refine LeO.bind ?_ (fun _ => ?_))
      | exact ih0 _ _ _ _ _
      | exact LeO.none _
      | refine LeO.ite ?_ ?_
      | refine LeO.bind ?_ (fun _ => ?_)
theorem impl_FbOK.mono : ∀ a0 a1 a2 a3 k, LeO (impl_FbOK.f k a0 a1 a2 a3) (impl_FbOK.f (k + 1) a0 a1 a2 a3) := by
  intro a0 a1 a2 a3 k
  have ih0 := impl_FbOK.mono_l k
  unfold impl_FbOK.f
  repeat' first
      | (with_reducible exact ih0 _ _ _ _ _)
      | (with_reducible exact LeO.refl _)
      | (with_reducible exact LeO.none _)
      | (with_reducible refine LeO.ite ?_ ?_)
      | (with_reducible refine LeO.bind ?_ (fun _ => ?_))
      | exact ih0 _ _ _ _ _
      | exact LeO.none _
      | refine LeO.ite ?_ ?_
      | refine LeO.bind ?_ (fun _ => ?_)
set_option maxHeartbeats 8000000 in
set_option maxRecDepth 100000 in
theorem impl_FbOK.calls (k : Nat) (a0_0 : Int) (a0_1 : Bool) (a0_2 : Int) (a0_3 : Int) (r : Bool) (w : World) (h : impl_FbOK.f k a0_0 a0_1 a0_2 a0_3 = some r) :
    Calls Tryd.prog 59 #[.agg #[.int .i64 a0_0, .bool a0_1, .int .i64 a0_2, .int .i64 a0_3]] w fun e w' => e = .returned (.bool r) ∧ Below w.heap.size w w' := by
  have hu61 := Tryd.underlying61
  have HB := Aside0.mk (Below.refl w.heap.size w)
  have H : ((impl_isTime.f a0_2).bind fun t205 => (if t205 = true then ((impl_isTime.f a0_3).bind fun t206 => (impl_FbOK.j0 k (!t206) a0_0 a0_1 a0_2 a0_3)) else (impl_FbOK.j0 k true a0_0 a0_1 a0_2 a0_3))) = some r := h
  clear h
  have HC2 := Aside0.mk H
  clear H
  go_enter Tryd.func59, Tryd.ntmps59
  go_upto_region 1 with (first | ((with_reducible refine gate_dst (N := 1) rfl ?_); refine box_event ?hg (N := 1) ?hd (cs := #[.int .i64 a0_0, .bool a0_1, .int .i64 a0_2, .int .i64 a0_3]) (t := 61) ?hr ?_; (case hd => rfl); (case hg => rfl); (case hr => first | (go_simp; done) | (go_simp; rfl)); intro gb204 hg w3 hbox hb; have n0_ := Aside0.mk (below_step (qw HB.out) hb); have n1_ := Aside0.mk (hbox); have n2_ := Aside0.mk ((by rw [hg]; exact (below_size (qw HB.out)) : w.heap.size ≤ gb204)); have n3_ := Aside0.mk ((by rw [hg]; exact (below_size (qw HB.out)) : w.heap.size ≤ gb204)); clear HB; have HB := n0_; have BK204 := n1_; have GW204 := n2_; have GE204 := n3_; clear n0_ n1_ n2_ n3_; clear hb hbox hg))
  (try simp only [Act.put, List.setIfInBounds_toArray, List.set_cons_zero, List.set_cons_succ])
  go_cut [12] (fun v12 wc => ∃ (kq : Nat) (x12_1 : Bool), v12 = .bool x12_1 ∧ Aside0 (impl_FbOK.j0 kq x12_1 a0_0 a0_1 a0_2 a0_3 = some r) ∧ Aside0 (kq ≤ k) ∧ Aside0 (wc.heap[gb204]? = some (.cells #[.int .i64 a0_0, .bool a0_1, .int .i64 a0_2, .int .i64 a0_3] 61 (0, 0))) ∧ Aside0 (Below w.heap.size w wc))
  case first =>
    have H := HC2.out
    clear HC2
    replace H := Option.bind_eq_some_iff.mp H
    obtain ⟨t205, A40, H⟩ := H
    replace H : (if t205 = true then ((impl_isTime.f a0_3).bind fun t206 => (impl_FbOK.j0 k (!t206) a0_0 a0_1 a0_2 a0_3)) else (impl_FbOK.j0 k true a0_0 a0_1 a0_2 a0_3)) = some r := H
    have A4 := Aside0.mk A40
    clear A40
    by_cases c5 : t205 = true
    · subst c5
      have H1 : ((impl_isTime.f a0_3).bind fun t206 => (impl_FbOK.j0 k (!t206) a0_0 a0_1 a0_2 a0_3)) = some r := by rw [if_pos rfl] at H; exact H
      clear H
      have H := H1
      clear H1
      replace H := Option.bind_eq_some_iff.mp H
      obtain ⟨t206, A60, H⟩ := H
      replace H : (impl_FbOK.j0 k (!t206) a0_0 a0_1 a0_2 a0_3) = some r := H
      have A6 := Aside0.mk A60
      clear A60
      have H' := Aside0.mk H
      clear H
      have hcz7_0 : w3.cell? ⟨gb204, 0, none⟩ = some (.int .i64 a0_0) := (blk_cell BK204.out 0).trans rfl
      have hcz7_1 : w3.cell? ⟨gb204, 1, none⟩ = some (.bool a0_1) := (blk_cell BK204.out 1).trans rfl
      have hcz7_2 : w3.cell? ⟨gb204, 2, none⟩ = some (.int .i64 a0_2) := (blk_cell BK204.out 2).trans rfl
      have hcz7_3 : w3.cell? ⟨gb204, 3, none⟩ = some (.int .i64 a0_3) := (blk_cell BK204.out 3).trans rfl
      have hfz7_0 := blk_frozen BK204.out 0
      have hfz7_1 := blk_frozen BK204.out 1
      have hfz7_2 := blk_frozen BK204.out 2
      have hfz7_3 := blk_frozen BK204.out 3
      go_wp2_with (first | ((with_reducible refine gate_callee (f := 60) rfl ?_); refine goesL_ (some 5) rfl rfl Tryd.func60 (by kernel_rfl) rfl #[.int .i64 a0_2] rfl qa ?_; (with_reducible refine (impl_isTime.calls a0_2 true _ A4.out).mono ?_); rintro e w' ⟨rfl, ⟨nd, rfl⟩⟩; refine ⟨_, rfl, ?_⟩) | (go_at_call 60; (with_reducible refine (impl_isTime.calls a0_3 t206 _ A6.out).mono ?_); rintro e w' ⟨rfl, ⟨nd, rfl⟩⟩))
      go_meet
      case rel => exact ⟨_, (!t206), (by first | rfl | (simp; done) | (simp [*]; done)), H', ⟨by first | omega | exact Nat.le_refl _⟩, ⟨qb BK204.out⟩, ⟨qw HB.out⟩⟩
    · replace c5 := Bool.eq_false_iff.mpr c5
      subst c5
      have H1 : (impl_FbOK.j0 k true a0_0 a0_1 a0_2 a0_3) = some r := by rw [if_neg (show ¬ (false = true) by decide)] at H; exact H
      clear H
      have H := H1
      clear H1
      have H' := Aside0.mk H
      clear H
      have hcz8_0 : w3.cell? ⟨gb204, 0, none⟩ = some (.int .i64 a0_0) := (blk_cell BK204.out 0).trans rfl
      have hcz8_1 : w3.cell? ⟨gb204, 1, none⟩ = some (.bool a0_1) := (blk_cell BK204.out 1).trans rfl
      have hcz8_2 : w3.cell? ⟨gb204, 2, none⟩ = some (.int .i64 a0_2) := (blk_cell BK204.out 2).trans rfl
      have hcz8_3 : w3.cell? ⟨gb204, 3, none⟩ = some (.int .i64 a0_3) := (blk_cell BK204.out 3).trans rfl
      have hfz8_0 := blk_frozen BK204.out 0
      have hfz8_1 := blk_frozen BK204.out 1
      have hfz8_2 := blk_frozen BK204.out 2
      have hfz8_3 := blk_frozen BK204.out 3
      go_wp2_with (first | ((with_reducible refine gate_callee (f := 60) rfl ?_); refine goesL_ (some 5) rfl rfl Tryd.func60 (by kernel_rfl) rfl #[.int .i64 a0_2] rfl qa ?_; (with_reducible refine (impl_isTime.calls a0_2 false _ A4.out).mono ?_); rintro e w' ⟨rfl, ⟨nd, rfl⟩⟩; refine ⟨_, rfl, ?_⟩))
      go_meet
      case rel => exact ⟨_, (true), (by first | rfl | (simp; done) | (simp [*]; done)), H', ⟨by first | omega | exact Nat.le_refl _⟩, ⟨qb BK204.out⟩, ⟨qw HB.out⟩⟩
  case rest =>
    clear HC2
    try clear p2
    try clear c5
    try clear c6
    try clear hcz7_0
    try clear hcz7_1
    try clear hcz7_2
    try clear hcz7_3
    try clear hcz8_0
    try clear hcz8_1
    try clear hcz8_2
    try clear hcz8_3
    try clear hfz7_0
    try clear hfz7_1
    try clear hfz7_2
    try clear hfz7_3
    try clear hfz8_0
    try clear hfz8_1
    try clear hfz8_2
    try clear hfz8_3
    obtain ⟨kq, x12_1, rfl, HA, HJ1, BK204, HB⟩ := hcut
    cases kq with
    | zero => exact absurd HA.out (by simp [impl_FbOK.j0])
    | succ kj1 =>
      have H := HA.out
      clear HA
      simp only [impl_FbOK.j0] at H
      by_cases c9 : x12_1 = true
      · subst c9
        have H1 : (some false) = some r := by rw [if_pos rfl] at H; exact H
        clear H
        have H := H1
        clear H1
        obtain rfl := Option.some.inj H
        go_wp2
        go_ret
        exact ⟨qe, qw HB.out⟩
      · replace c9 := Bool.eq_false_iff.mpr c9
        subst c9
        have H1 : (if a0_0 = 1 then (if a0_1 = true then (some true) else (if a0_2 = 0 then (some (a0_3 == 0)) else (some false))) else (if a0_0 = 2 then (some (a0_2 == 0)) else (if a0_0 = 3 then (if a0_2 = 0 then (some (a0_3 == 0)) else (some false)) else (if a0_0 = 4 then (if a0_2 = 0 then (some (a0_3 == 0)) else (some false)) else (some false))))) = some r := by rw [if_neg (show ¬ (false = true) by decide)] at H; exact H
        clear H
        have H := H1
        clear H1
        by_cases c10 : a0_0 = 1
        · rw [if_pos c10] at H
          have c10b0 : (a0_0 == 1) = true := beq_iff_eq.mpr c10
          have c10b1 : (a0_0 != 1) = false := bne_eq_false_iff_eq.mpr c10
          clear c10
          by_cases c11 : a0_1 = true
          · subst c11
            have H1 : (some true) = some r := by rw [if_pos rfl] at H; exact H
            clear H
            have H := H1
            clear H1
            obtain rfl := Option.some.inj H
            have hcz12_0 : wc.cell? ⟨gb204, 0, none⟩ = some (.int .i64 a0_0) := (blk_cell BK204.out 0).trans rfl
            have hcz12_1 : wc.cell? ⟨gb204, 1, none⟩ = some (.bool true) := (blk_cell BK204.out 1).trans rfl
            have hcz12_2 : wc.cell? ⟨gb204, 2, none⟩ = some (.int .i64 a0_2) := (blk_cell BK204.out 2).trans rfl
            have hcz12_3 : wc.cell? ⟨gb204, 3, none⟩ = some (.int .i64 a0_3) := (blk_cell BK204.out 3).trans rfl
            have hfz12_0 := blk_frozen BK204.out 0
            have hfz12_1 := blk_frozen BK204.out 1
            have hfz12_2 := blk_frozen BK204.out 2
            have hfz12_3 := blk_frozen BK204.out 3
            go_wp2
            go_ret
            exact ⟨qe, qw HB.out⟩
          · replace c11 := Bool.eq_false_iff.mpr c11
            subst c11
            have H1 : (if a0_2 = 0 then (some (a0_3 == 0)) else (some false)) = some r := by rw [if_neg (show ¬ (false = true) by decide)] at H; exact H
            clear H
            have H := H1
            clear H1
            by_cases c13 : a0_2 = 0
            · rw [if_pos c13] at H
              have c13b0 : (a0_2 == 0) = true := beq_iff_eq.mpr c13
              have c13b1 : (a0_2 != 0) = false := bne_eq_false_iff_eq.mpr c13
              clear c13
              obtain rfl := Option.some.inj H
              have hcz14_0 : wc.cell? ⟨gb204, 0, none⟩ = some (.int .i64 a0_0) := (blk_cell BK204.out 0).trans rfl
              have hcz14_1 : wc.cell? ⟨gb204, 1, none⟩ = some (.bool false) := (blk_cell BK204.out 1).trans rfl
              have hcz14_2 : wc.cell? ⟨gb204, 2, none⟩ = some (.int .i64 a0_2) := (blk_cell BK204.out 2).trans rfl
              have hcz14_3 : wc.cell? ⟨gb204, 3, none⟩ = some (.int .i64 a0_3) := (blk_cell BK204.out 3).trans rfl
              have hfz14_0 := blk_frozen BK204.out 0
              have hfz14_1 := blk_frozen BK204.out 1
              have hfz14_2 := blk_frozen BK204.out 2
              have hfz14_3 := blk_frozen BK204.out 3
              go_wp2
              go_ret
              exact ⟨qe, qw HB.out⟩
            · rw [if_neg c13] at H
              have c13b0 : (a0_2 == 0) = false := beq_eq_false_iff_ne.mpr c13
              have c13b1 : (a0_2 != 0) = true := bne_iff_ne.mpr c13
              obtain rfl := Option.some.inj H
              have hcz15_0 : wc.cell? ⟨gb204, 0, none⟩ = some (.int .i64 a0_0) := (blk_cell BK204.out 0).trans rfl
              have hcz15_1 : wc.cell? ⟨gb204, 1, none⟩ = some (.bool false) := (blk_cell BK204.out 1).trans rfl
              have hcz15_2 : wc.cell? ⟨gb204, 2, none⟩ = some (.int .i64 a0_2) := (blk_cell BK204.out 2).trans rfl
              have hcz15_3 : wc.cell? ⟨gb204, 3, none⟩ = some (.int .i64 a0_3) := (blk_cell BK204.out 3).trans rfl
              have hfz15_0 := blk_frozen BK204.out 0
              have hfz15_1 := blk_frozen BK204.out 1
              have hfz15_2 := blk_frozen BK204.out 2
              have hfz15_3 := blk_frozen BK204.out 3
              go_wp2
              go_ret
              exact ⟨qe, qw HB.out⟩
        · rw [if_neg c10] at H
          have c10b0 : (a0_0 == 1) = false := beq_eq_false_iff_ne.mpr c10
          have c10b1 : (a0_0 != 1) = true := bne_iff_ne.mpr c10
          by_cases c16 : a0_0 = 2
          · rw [if_pos c16] at H
            have c16b0 : (a0_0 == 2) = true := beq_iff_eq.mpr c16
            have c16b1 : (a0_0 != 2) = false := bne_eq_false_iff_eq.mpr c16
            clear c16
            obtain rfl := Option.some.inj H
            have hcz17_0 : wc.cell? ⟨gb204, 0, none⟩ = some (.int .i64 a0_0) := (blk_cell BK204.out 0).trans rfl
            have hcz17_1 : wc.cell? ⟨gb204, 1, none⟩ = some (.bool a0_1) := (blk_cell BK204.out 1).trans rfl
            have hcz17_2 : wc.cell? ⟨gb204, 2, none⟩ = some (.int .i64 a0_2) := (blk_cell BK204.out 2).trans rfl
            have hcz17_3 : wc.cell? ⟨gb204, 3, none⟩ = some (.int .i64 a0_3) := (blk_cell BK204.out 3).trans rfl
            have hfz17_0 := blk_frozen BK204.out 0
            have hfz17_1 := blk_frozen BK204.out 1
            have hfz17_2 := blk_frozen BK204.out 2
            have hfz17_3 := blk_frozen BK204.out 3
            go_wp2
            go_ret
            exact ⟨qe, qw HB.out⟩
          · rw [if_neg c16] at H
            have c16b0 : (a0_0 == 2) = false := beq_eq_false_iff_ne.mpr c16
            have c16b1 : (a0_0 != 2) = true := bne_iff_ne.mpr c16
            by_cases c18 : a0_0 = 3
            · rw [if_pos c18] at H
              have c18b0 : (a0_0 == 3) = true := beq_iff_eq.mpr c18
              have c18b1 : (a0_0 != 3) = false := bne_eq_false_iff_eq.mpr c18
              clear c18
              by_cases c19 : a0_2 = 0
              · rw [if_pos c19] at H
                have c19b0 : (a0_2 == 0) = true := beq_iff_eq.mpr c19
                have c19b1 : (a0_2 != 0) = false := bne_eq_false_iff_eq.mpr c19
                clear c19
                obtain rfl := Option.some.inj H
                have hcz20_0 : wc.cell? ⟨gb204, 0, none⟩ = some (.int .i64 a0_0) := (blk_cell BK204.out 0).trans rfl
                have hcz20_1 : wc.cell? ⟨gb204, 1, none⟩ = some (.bool a0_1) := (blk_cell BK204.out 1).trans rfl
                have hcz20_2 : wc.cell? ⟨gb204, 2, none⟩ = some (.int .i64 a0_2) := (blk_cell BK204.out 2).trans rfl
                have hcz20_3 : wc.cell? ⟨gb204, 3, none⟩ = some (.int .i64 a0_3) := (blk_cell BK204.out 3).trans rfl
                have hfz20_0 := blk_frozen BK204.out 0
                have hfz20_1 := blk_frozen BK204.out 1
                have hfz20_2 := blk_frozen BK204.out 2
                have hfz20_3 := blk_frozen BK204.out 3
                go_wp2
                go_ret
                exact ⟨qe, qw HB.out⟩
              · rw [if_neg c19] at H
                have c19b0 : (a0_2 == 0) = false := beq_eq_false_iff_ne.mpr c19
                have c19b1 : (a0_2 != 0) = true := bne_iff_ne.mpr c19
                obtain rfl := Option.some.inj H
                have hcz21_0 : wc.cell? ⟨gb204, 0, none⟩ = some (.int .i64 a0_0) := (blk_cell BK204.out 0).trans rfl
                have hcz21_1 : wc.cell? ⟨gb204, 1, none⟩ = some (.bool a0_1) := (blk_cell BK204.out 1).trans rfl
                have hcz21_2 : wc.cell? ⟨gb204, 2, none⟩ = some (.int .i64 a0_2) := (blk_cell BK204.out 2).trans rfl
                have hcz21_3 : wc.cell? ⟨gb204, 3, none⟩ = some (.int .i64 a0_3) := (blk_cell BK204.out 3).trans rfl
                have hfz21_0 := blk_frozen BK204.out 0
                have hfz21_1 := blk_frozen BK204.out 1
                have hfz21_2 := blk_frozen BK204.out 2
                have hfz21_3 := blk_frozen BK204.out 3
                go_wp2
                go_ret
                exact ⟨qe, qw HB.out⟩
            · rw [if_neg c18] at H
              have c18b0 : (a0_0 == 3) = false := beq_eq_false_iff_ne.mpr c18
              have c18b1 : (a0_0 != 3) = true := bne_iff_ne.mpr c18
              by_cases c22 : a0_0 = 4
              · rw [if_pos c22] at H
                have c22b0 : (a0_0 == 4) = true := beq_iff_eq.mpr c22
                have c22b1 : (a0_0 != 4) = false := bne_eq_false_iff_eq.mpr c22
                clear c22
                by_cases c23 : a0_2 = 0
                · rw [if_pos c23] at H
                  have c23b0 : (a0_2 == 0) = true := beq_iff_eq.mpr c23
                  have c23b1 : (a0_2 != 0) = false := bne_eq_false_iff_eq.mpr c23
                  clear c23
                  obtain rfl := Option.some.inj H
                  have hcz24_0 : wc.cell? ⟨gb204, 0, none⟩ = some (.int .i64 a0_0) := (blk_cell BK204.out 0).trans rfl
                  have hcz24_1 : wc.cell? ⟨gb204, 1, none⟩ = some (.bool a0_1) := (blk_cell BK204.out 1).trans rfl
                  have hcz24_2 : wc.cell? ⟨gb204, 2, none⟩ = some (.int .i64 a0_2) := (blk_cell BK204.out 2).trans rfl
                  have hcz24_3 : wc.cell? ⟨gb204, 3, none⟩ = some (.int .i64 a0_3) := (blk_cell BK204.out 3).trans rfl
                  have hfz24_0 := blk_frozen BK204.out 0
                  have hfz24_1 := blk_frozen BK204.out 1
                  have hfz24_2 := blk_frozen BK204.out 2
                  have hfz24_3 := blk_frozen BK204.out 3
                  go_wp2
                  go_ret
                  exact ⟨qe, qw HB.out⟩
                · rw [if_neg c23] at H
                  have c23b0 : (a0_2 == 0) = false := beq_eq_false_iff_ne.mpr c23
                  have c23b1 : (a0_2 != 0) = true := bne_iff_ne.mpr c23
                  obtain rfl := Option.some.inj H
                  have hcz25_0 : wc.cell? ⟨gb204, 0, none⟩ = some (.int .i64 a0_0) := (blk_cell BK204.out 0).trans rfl
                  have hcz25_1 : wc.cell? ⟨gb204, 1, none⟩ = some (.bool a0_1) := (blk_cell BK204.out 1).trans rfl
                  have hcz25_2 : wc.cell? ⟨gb204, 2, none⟩ = some (.int .i64 a0_2) := (blk_cell BK204.out 2).trans rfl
                  have hcz25_3 : wc.cell? ⟨gb204, 3, none⟩ = some (.int .i64 a0_3) := (blk_cell BK204.out 3).trans rfl
                  have hfz25_0 := blk_frozen BK204.out 0
                  have hfz25_1 := blk_frozen BK204.out 1
                  have hfz25_2 := blk_frozen BK204.out 2
                  have hfz25_3 := blk_frozen BK204.out 3
                  go_wp2
                  go_ret
                  exact ⟨qe, qw HB.out⟩
              · rw [if_neg c22] at H
                have c22b0 : (a0_0 == 4) = false := beq_eq_false_iff_ne.mpr c22
                have c22b1 : (a0_0 != 4) = true := bne_iff_ne.mpr c22
                obtain rfl := Option.some.inj H
                have hcz26_0 : wc.cell? ⟨gb204, 0, none⟩ = some (.int .i64 a0_0) := (blk_cell BK204.out 0).trans rfl
                have hcz26_1 : wc.cell? ⟨gb204, 1, none⟩ = some (.bool a0_1) := (blk_cell BK204.out 1).trans rfl
                have hcz26_2 : wc.cell? ⟨gb204, 2, none⟩ = some (.int .i64 a0_2) := (blk_cell BK204.out 2).trans rfl
                have hcz26_3 : wc.cell? ⟨gb204, 3, none⟩ = some (.int .i64 a0_3) := (blk_cell BK204.out 3).trans rfl
                have hfz26_0 := blk_frozen BK204.out 0
                have hfz26_1 := blk_frozen BK204.out 1
                have hfz26_2 := blk_frozen BK204.out 2
                have hfz26_3 := blk_frozen BK204.out 3
                go_wp2
                go_ret
                exact ⟨qe, qw HB.out⟩

end Go.Proofs.YtppfcmkadcoboaaDoor.G
