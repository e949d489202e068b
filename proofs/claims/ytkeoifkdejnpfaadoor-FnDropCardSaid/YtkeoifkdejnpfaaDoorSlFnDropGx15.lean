-- by gprint.py (a program of this session's own), over the kit's print.py; Lean checks it
import Derived.Test.YtkeoifkdejnpfaaDoorSlFnDropGx0
import Derived.Test.YtkeoifkdejnpfaaDoorSlFnDropGx11
namespace Go.Proofs.YtkeoifkdejnpfaaDoor.G
open Go.RowKit Go.Proofs.YtkeoifkdejnpfaaDoorW.PrintWords Go.Proofs.YtkeoifkdejnpfaaDoorW.PrintLast Go.Proofs.YtkeoifkdejnpfaaDoorW.PrintMore
attribute [local go_sem] max2_int min2_int max_two min_two max_three min_three max_four min_four   -- for this text's walks alone
set_option linter.unusedVariables false
set_option linter.unusedSimpArgs false

/-! ### impl_isTime: function 62 -/
def impl_isTime.f (a0 : Int) : Option (Bool) := (impl_within.f a0 0 2147483647).bind fun t310 => (some t310)
set_option maxHeartbeats 8000000 in
set_option maxRecDepth 100000 in
theorem impl_isTime.calls (a0 : Int) (r : Bool) (w : World) (h : impl_isTime.f a0 = some r) :
    Calls Tryd.prog 62 #[.int .i64 a0] w fun e w' => e = .returned (.bool r) ∧ Drawn0 w w' := by
  have H : ((impl_within.f a0 0 2147483647).bind fun t310 => (some t310)) = some r := h
  clear h
  replace H := Option.bind_eq_some_iff.mp H
  obtain ⟨t310, A20, H⟩ := H
  replace H : (some t310) = some r := H
  have A2 := Aside0.mk A20
  clear A20
  obtain rfl := Option.some.inj H
  go_enter Tryd.func62, Tryd.ntmps62
  go_wp2_with (first | ((with_reducible refine gate_callee (f := 59) rfl ?_); refine goesL_ (some 4) rfl rfl Tryd.func59 (by kernel_rfl) rfl #[.int .i64 a0, .int .i64 0, .int .i64 2147483647] rfl qa ?_; (with_reducible refine (impl_within.calls a0 0 2147483647 t310 _ A2.out).mono ?_); rintro e w' ⟨rfl, ⟨nd, rfl⟩⟩; refine ⟨_, rfl, ?_⟩))
  go_ret
  exact ⟨by first | rfl | (simp; done) | (simp [*]; done), by repeat (first | exact Drawn0.refl _ | apply Drawn0.step)⟩

/-! ### impl_all_time: function 61 at 62 (given) -/
def impl_all_time.p (x : Int) : Option Bool := impl_isTime.f x
def impl_all_time.f (l0 : List Int) : Option Bool := GivenW.allO (impl_all_time.p) l0
set_option maxHeartbeats 1000000 in
theorem impl_all_time.clos (x : Int) (b : Bool) (B0 : Nat) (W : World) (hc : W.cell? ⟨B0, 0, none⟩ = some (.func (.func 62) #[] #[])) (h : impl_all_time.p x = some b) :
    Calls Tryd.prog 75 #[.int .i64 x, .pointer (some ⟨B0, 0, none⟩)] W fun e w' => e = .returned (.bool (!b)) ∧ Below W.heap.size W w' := by
  have h' : impl_isTime.f x = some b := h
  have hlt : B0 < W.heap.size := World.block_lt_of_cell? W _ hc
  clear h
  have hH := Aside0.mk h'
  clear h'
  go_enter Tryd.func75, Tryd.ntmps75
  go_wp2_with (go_at_call 62; refine (impl_isTime.calls _ b _ hH.out).mono ?_; rintro e w' ⟨rfl, ⟨nq, rfl⟩⟩)
  go_ret
  exact ⟨rfl, pw_below_drewN (Below.refl _ _) _⟩
set_option maxHeartbeats 1000000 in
theorem impl_all_time.idx (A0 : Option Addr) (c0 : Nat) (l0 : List Int) (r : Bool) (B0 : Nat) (w : World) (hc : w.cell? ⟨B0, 0, none⟩ = some (.func (.func 62) #[] #[])) (hr0 : Kd.C (Kd.int .i64) w A0 l0.length l0) (h : impl_all_time.f l0 = some r) :
    Calls Tryd.prog 82 #[.slice A0 l0.length c0, .func (.func 75) #[] #[.pointer (some ⟨B0, 0, none⟩)]] w fun e w' => ∃ j : Int, e = .returned (.int .i64 j) ∧ Aside0 (if r = true then j = -1 else 0 ≤ j) ∧ Below w.heap.size w w' := by
  have hlt : B0 < w.heap.size := World.block_lt_of_cell? w _ hc
  have hlen : l0.length ≤ 9223372036854775807 := hr0.2.1
  have HR := Aside0.mk hr0
  have HC := Aside0.mk hc
  have HH := Aside0.mk h
  clear hr0 hc h
  go_enter Tryd.func82, Tryd.ntmps82
  go_wp2
  go_loopg [8] l0.length (fun gg s8 wr => ∃ kk : Nat, kk ≤ l0.length ∧ l0.length - kk ≤ gg ∧ s8 = .int .i64 kk ∧ Aside0 (Below w.heap.size w wr) ∧ Aside0 (GivenW.allO (impl_all_time.p) (l0.drop kk) = some r))
  case atStart => exact ⟨0, Nat.zero_le _, Nat.le_refl _, rfl, ⟨Below.refl _ _⟩, ⟨by simpa [impl_all_time.f] using HH.out⟩⟩
  case round =>
    clear HH
    obtain ⟨kk, hkk, hg, rfl, HB, HA⟩ := hrel
    by_cases hlt2 : kk < l0.length
    · have hltz : (kk : Int) < (l0.length : Int) := by omega
      obtain ⟨b, hb0, hb1, hb2⟩ := GivenW.allO_drop (0 : Int) hlt2 HA.out
      obtain ⟨ad, rfl, hc0⟩ := GivenW.C_int_at (Kd.C_below HR.out HB.out) (kk : Int) (by omega) (by omega)
      simp only [Int.toNat_natCast] at hc0
      have HP := Aside0.mk (show impl_all_time.p (rd l0 kk) = some b from hb0)
      have H1 := Aside0.mk hb1
      have H2 := Aside0.mk hb2
      have HCW := Aside0.mk ((HB.out.cell (p := ⟨B0, 0, none⟩) hlt).trans HC.out)
      clear hb0 hb1 hb2 HA
      cases b with
      | true =>
        go_wp2_with (go_at_call 75; refine (impl_all_time.clos _ true B0 _ HCW.out HP.out).mono ?_; rintro e w' ⟨rfl, hb'⟩)
        go_roundg (l0.length - (kk + 1))
        case measure => omega
        case rel => exact ⟨kk + 1, by omega, by omega, by go_num, ⟨below_then HB.out HB.out.size hb'⟩, ⟨H1.out (by simp)⟩⟩
      | false =>
        have hrf := H2.out (by simp)
        subst hrf
        go_wp2_with (go_at_call 75; refine (impl_all_time.clos _ false B0 _ HCW.out HP.out).mono ?_; rintro e w' ⟨rfl, hb'⟩)
        go_ret
        exact ⟨kk, rfl, ⟨by simp⟩, below_then HB.out HB.out.size hb'⟩
    · have hltz : ¬ (kk : Int) < (l0.length : Int) := by omega
      have hk : kk = l0.length := by omega
      have hrt : true = r := by have := HA.out; rw [hk, List.drop_length] at this; simpa [GivenW.allO] using this
      subst hrt
      clear hk HA
      go_wp2
      go_ret
      exact ⟨-1, rfl, ⟨by simp⟩, HB.out⟩
set_option maxHeartbeats 1000000 in
theorem impl_all_time.con (A0 : Option Addr) (c0 : Nat) (l0 : List Int) (r : Bool) (B0 : Nat) (w : World) (hc : w.cell? ⟨B0, 0, none⟩ = some (.func (.func 62) #[] #[])) (hr0 : Kd.C (Kd.int .i64) w A0 l0.length l0) (h : impl_all_time.f l0 = some r) :
    Calls Tryd.prog 74 #[.slice A0 l0.length c0, .func (.func 75) #[] #[.pointer (some ⟨B0, 0, none⟩)]] w fun e w' => e = .returned (.bool (!r)) ∧ Below w.heap.size w w' := by
  have HR := Aside0.mk hr0
  have HC := Aside0.mk hc
  have HH := Aside0.mk h
  clear hr0 hc h
  go_enter Tryd.func74, Tryd.ntmps74
  go_wp2_with (go_at_call 82; refine (impl_all_time.idx A0 c0 l0 r B0 _ HC.out HR.out HH.out).mono ?_; rintro e w' ⟨j, rfl, hj, hb'⟩)
  go_ret
  refine ⟨?_, hb'⟩
  have := hj.out
  show Ending.returned (.bool (decide (0 ≤ j))) = _
  cases r
  · rw [decide_eq_true (by simpa using this)]; rfl
  · rw [decide_eq_false (by simp at this; omega)]; rfl
set_option maxHeartbeats 1000000 in
theorem impl_all_time.calls (A0 : Option Addr) (c0 : Nat) (l0 : List Int) (r : Bool) (w : World) (hr0 : Kd.C (Kd.int .i64) w A0 l0.length l0) (hc0 : l0.length ≤ c0) (h : impl_all_time.f l0 = some r) :
    Calls Tryd.prog 61 #[.slice A0 l0.length c0, .func (.func 62) #[] #[]] w fun e w' => e = .returned (.bool r) ∧ Below w.heap.size w w' := by
  have HR := Aside0.mk hr0
  have HH := Aside0.mk h
  clear hr0 hc0 h
  go_enter Tryd.func61, Tryd.ntmps61
  go_wp2_with (go_at_call 74; refine (impl_all_time.con A0 c0 l0 r w.heap.size _ (by simp) (Kd.C_below HR.out (below_alloc (Below.refl _ _) _)) HH.out).mono ?_; rintro e w' ⟨rfl, hb'⟩)
  go_ret
  exact ⟨by simp, below_then (below_alloc (Below.refl _ _) _) (by simp) hb'⟩

end Go.Proofs.YtkeoifkdejnpfaaDoor.G
