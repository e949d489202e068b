-- by gprint.py (a program of this session's own), over the kit's print.py; Lean checks it
import Derived.Test.YtppfcmkadcoboaaDoorSlFnExactDataLinesGx0
import Derived.Test.YtppfcmkadcoboaaDoorSlFnExactDataLinesGx7
namespace Go.Proofs.YtppfcmkadcoboaaDoor.G
open Go.RowKit Go.Proofs.YtppfcmkadcoboaaDoorW.PrintWords Go.Proofs.YtppfcmkadcoboaaDoorW.PrintLast Go.Proofs.YtppfcmkadcoboaaDoorW.PrintMore
attribute [local go_sem] max2_int min2_int max_two min_two max_three min_three max_four min_four   -- for this text's walks alone
set_option linter.unusedVariables false
set_option linter.unusedSimpArgs false

/-! ### impl_all_fb: function 58 at 59 (given) -/
def impl_all_fb.p (k : Nat) (x : S61) : Option Bool := impl_FbOK.f k x.f0 x.f1 x.f2 x.f3
def impl_all_fb.f (k : Nat) (l0 : List S61) : Option Bool := GivenW.allO (impl_all_fb.p k) l0
theorem impl_all_fb.mono : ∀ a0 k, LeO (impl_all_fb.f k a0) (impl_all_fb.f (k + 1) a0) := fun a0 k => GivenW.allO_mono (fun x => impl_FbOK.mono _ _ _ _ k) a0
set_option maxHeartbeats 1000000 in
theorem impl_all_fb.clos (k : Nat) (x : S61) (b : Bool) (B0 : Nat) (W : World) (hc : W.cell? ⟨B0, 0, none⟩ = some (.func (.func 59) #[] #[])) (h : impl_all_fb.p k x = some b) :
    Calls Tryd.prog 83 #[.agg #[.int .i64 x.f0, .bool x.f1, .int .i64 x.f2, .int .i64 x.f3], .pointer (some ⟨B0, 0, none⟩)] W fun e w' => e = .returned (.bool (!b)) ∧ Below W.heap.size W w' := by
  have h' : impl_FbOK.f k x.f0 x.f1 x.f2 x.f3 = some b := h
  have hlt : B0 < W.heap.size := World.block_lt_of_cell? W _ hc
  clear h
  have hH := Aside0.mk h'
  clear h'
  go_enter Tryd.func83, Tryd.ntmps83
  go_wp2_with (go_at_call 59; refine (impl_FbOK.calls k _ _ _ _ b _ hH.out).mono ?_; rintro e w' ⟨rfl, hb⟩)
  go_ret
  exact ⟨rfl, below_then (below_alloc (Below.refl _ _) _) (by simp) hb⟩
set_option maxHeartbeats 1000000 in
theorem impl_all_fb.idx (k : Nat) (A0 : Option Addr) (c0 : Nat) (l0 : List S61) (r : Bool) (B0 : Nat) (w : World) (hc : w.cell? ⟨B0, 0, none⟩ = some (.func (.func 59) #[] #[])) (hr0 : Kd.C k61 w A0 l0.length l0) (h : impl_all_fb.f k l0 = some r) :
    Calls Tryd.prog 96 #[.slice A0 l0.length c0, .func (.func 83) #[] #[.pointer (some ⟨B0, 0, none⟩)]] w fun e w' => ∃ j : Int, e = .returned (.int .i64 j) ∧ Aside0 (if r = true then j = -1 else 0 ≤ j) ∧ Below w.heap.size w w' := by
  have hlt : B0 < w.heap.size := World.block_lt_of_cell? w _ hc
  have hlen : l0.length ≤ 9223372036854775807 := hr0.2.1
  have HR := Aside0.mk hr0
  have HC := Aside0.mk hc
  have HH := Aside0.mk h
  clear hr0 hc h
  go_enter Tryd.func96, Tryd.ntmps96
  go_wp2
  go_loopg [8] l0.length (fun gg s8 wr => ∃ kk : Nat, kk ≤ l0.length ∧ l0.length - kk ≤ gg ∧ s8 = .int .i64 kk ∧ Aside0 (Below w.heap.size w wr) ∧ Aside0 (GivenW.allO (impl_all_fb.p k) (l0.drop kk) = some r))
  case atStart => exact ⟨0, Nat.zero_le _, Nat.le_refl _, rfl, ⟨Below.refl _ _⟩, ⟨by simpa [impl_all_fb.f] using HH.out⟩⟩
  case round =>
    clear HH
    obtain ⟨kk, hkk, hg, rfl, HB, HA⟩ := hrel
    by_cases hlt2 : kk < l0.length
    · have hltz : (kk : Int) < (l0.length : Int) := by omega
      obtain ⟨b, hb0, hb1, hb2⟩ := GivenW.allO_drop z61 hlt2 HA.out
      obtain ⟨ad, rfl, hc0, hc1, hc2, hc3⟩ := at_T61 (Kd.C_below HR.out HB.out) (kk : Int) (by omega) (by omega)
      simp only [Int.toNat_natCast] at hc0 hc1 hc2 hc3
      have HP := Aside0.mk (show impl_all_fb.p k (rd_T61 l0 kk) = some b from hb0)
      have H1 := Aside0.mk hb1
      have H2 := Aside0.mk hb2
      have HCW := Aside0.mk ((HB.out.cell (p := ⟨B0, 0, none⟩) hlt).trans HC.out)
      clear hb0 hb1 hb2 HA
      cases b with
      | true =>
        go_wp2_with (go_at_call 83; refine (impl_all_fb.clos k _ true B0 _ HCW.out HP.out).mono ?_; rintro e w' ⟨rfl, hb'⟩)
        go_roundg (l0.length - (kk + 1))
        case measure => omega
        case rel => exact ⟨kk + 1, by omega, by omega, by go_num, ⟨below_then HB.out HB.out.size hb'⟩, ⟨H1.out (by simp)⟩⟩
      | false =>
        have hrf := H2.out (by simp)
        subst hrf
        go_wp2_with (go_at_call 83; refine (impl_all_fb.clos k _ false B0 _ HCW.out HP.out).mono ?_; rintro e w' ⟨rfl, hb'⟩)
        go_ret
        exact ⟨kk, rfl, ⟨by simp⟩, below_then HB.out HB.out.size hb'⟩
    · have hltz : ¬ (kk : Int) < (l0.length : Int) := by omega
      have hk : kk = l0.length := by omega
      have hrt : true = r := by have := HA.out; rw [hk, List.drop_length] at this; simpa [GivenW.allO] using this
      subst hrt
      clear hk HA
      go_wp2
      go_ret
      exact ⟨-1, rfl, ⟨by simp⟩, HB.out⟩
set_option maxHeartbeats 1000000 in
theorem impl_all_fb.con (k : Nat) (A0 : Option Addr) (c0 : Nat) (l0 : List S61) (r : Bool) (B0 : Nat) (w : World) (hc : w.cell? ⟨B0, 0, none⟩ = some (.func (.func 59) #[] #[])) (hr0 : Kd.C k61 w A0 l0.length l0) (h : impl_all_fb.f k l0 = some r) :
    Calls Tryd.prog 82 #[.slice A0 l0.length c0, .func (.func 83) #[] #[.pointer (some ⟨B0, 0, none⟩)]] w fun e w' => e = .returned (.bool (!r)) ∧ Below w.heap.size w w' := by
  have HR := Aside0.mk hr0
  have HC := Aside0.mk hc
  have HH := Aside0.mk h
  clear hr0 hc h
  go_enter Tryd.func82, Tryd.ntmps82
  go_wp2_with (go_at_call 96; refine (impl_all_fb.idx k A0 c0 l0 r B0 _ HC.out HR.out HH.out).mono ?_; rintro e w' ⟨j, rfl, hj, hb'⟩)
  go_ret
  refine ⟨?_, hb'⟩
  have := hj.out
  show Ending.returned (.bool (decide (0 ≤ j))) = _
  cases r
  · rw [decide_eq_true (by simpa using this)]; rfl
  · rw [decide_eq_false (by simp at this; omega)]; rfl
set_option maxHeartbeats 1000000 in
theorem impl_all_fb.calls (k : Nat) (A0 : Option Addr) (c0 : Nat) (l0 : List S61) (r : Bool) (w : World) (hr0 : Kd.C k61 w A0 l0.length l0) (hc0 : l0.length ≤ c0) (h : impl_all_fb.f k l0 = some r) :
    Calls Tryd.prog 58 #[.slice A0 l0.length c0, .func (.func 59) #[] #[]] w fun e w' => e = .returned (.bool r) ∧ Below w.heap.size w w' := by
  have HR := Aside0.mk hr0
  have HH := Aside0.mk h
  clear hr0 hc0 h
  go_enter Tryd.func58, Tryd.ntmps58
  go_wp2_with (go_at_call 82; refine (impl_all_fb.con k A0 c0 l0 r w.heap.size _ (by simp) (Kd.C_below HR.out (below_alloc (Below.refl _ _) _)) HH.out).mono ?_; rintro e w' ⟨rfl, hb'⟩)
  go_ret
  exact ⟨by simp, below_then (below_alloc (Below.refl _ _) _) (by simp) hb'⟩

/-! ### impl_DataOK: function 31 (given) -/
def impl_DataOK.f (k : Nat) (l0_0 : List Int) (l0_1 : List S61) (l0_2 l0_3 l0_4 l0_5 : List Bool) (a0_6 : Int) : Option Bool :=
  if l0_2.length = 8 then (if l0_3.length = 8 then (if l0_4.length = 8 then (if l0_5.length = 8 then (if (l0_0.length : Int) = 16 then ((impl_all_value.f l0_0).bind fun b => if b = true then (if (l0_1.length : Int) ≤ 8 then ((impl_all_fb.f k l0_1).bind fun c => if c = true then impl_isTime.f a0_6 else some false) else some false) else some false) else some false) else some false) else some false) else some false) else some false
theorem impl_DataOK.mono : ∀ a0 a1 a2 a3 a4 a5 a6 k, LeO (impl_DataOK.f k a0 a1 a2 a3 a4 a5 a6) (impl_DataOK.f (k + 1) a0 a1 a2 a3 a4 a5 a6) := by
  intro a0 a1 a2 a3 a4 a5 a6 k
  unfold impl_DataOK.f
  exact LeO.ite (LeO.ite (LeO.ite (LeO.ite (LeO.ite (LeO.bind (LeO.refl _) (fun _ => LeO.ite (LeO.ite (LeO.bind (impl_all_fb.mono _ _) (fun _ => LeO.refl _)) (LeO.refl _)) (LeO.refl _))) (LeO.refl _)) (LeO.refl _)) (LeO.refl _)) (LeO.refl _)) (LeO.refl _)
theorem impl_DataOK.ix0 (a b c d : Value) (w : World) : (Instr.index 78 (.agg #[a, b, c, d]) (.int .i64 0)).run Tryd.prog w = .ok a w := by kernel_rfl
theorem impl_DataOK.ix1 (a b c d : Value) (w : World) : (Instr.index 78 (.agg #[a, b, c, d]) (.int .i64 1)).run Tryd.prog w = .ok b w := by kernel_rfl
theorem impl_DataOK.ix2 (a b c d : Value) (w : World) : (Instr.index 78 (.agg #[a, b, c, d]) (.int .i64 2)).run Tryd.prog w = .ok c w := by kernel_rfl
theorem impl_DataOK.ix3 (a b c d : Value) (w : World) : (Instr.index 78 (.agg #[a, b, c, d]) (.int .i64 3)).run Tryd.prog w = .ok d w := by kernel_rfl
set_option maxHeartbeats 4000000 in
set_option maxRecDepth 100000 in
theorem impl_DataOK.calls (k : Nat) (A0_0 : Option Addr) (c0_0 : Nat) (l0_0 : List Int) (A0_1 : Option Addr) (c0_1 : Nat) (l0_1 : List (S61)) (A0_2 : Option Addr) (c0_2 : Nat) (l0_2 : List Bool) (A0_3 : Option Addr) (c0_3 : Nat) (l0_3 : List Bool) (A0_4 : Option Addr) (c0_4 : Nat) (l0_4 : List Bool) (A0_5 : Option Addr) (c0_5 : Nat) (l0_5 : List Bool) (a0_6 : Int) (r : Bool) (w : World) (hr0_0 : Kd.C (Kd.int .i64) w A0_0 l0_0.length l0_0) (hc0_0 : l0_0.length ≤ c0_0) (hr0_1 : Kd.C k61 w A0_1 l0_1.length l0_1) (hc0_1 : l0_1.length ≤ c0_1) (hr0_2 : Kd.C Kd.bool w A0_2 l0_2.length l0_2) (hc0_2 : l0_2.length ≤ c0_2) (hr0_3 : Kd.C Kd.bool w A0_3 l0_3.length l0_3) (hc0_3 : l0_3.length ≤ c0_3) (hr0_4 : Kd.C Kd.bool w A0_4 l0_4.length l0_4) (hc0_4 : l0_4.length ≤ c0_4) (hr0_5 : Kd.C Kd.bool w A0_5 l0_5.length l0_5) (hc0_5 : l0_5.length ≤ c0_5) (h : impl_DataOK.f k l0_0 l0_1 l0_2 l0_3 l0_4 l0_5 a0_6 = some r) :
    Calls Tryd.prog 31 #[.agg #[.slice A0_0 l0_0.length c0_0, .slice A0_1 l0_1.length c0_1, .slice A0_2 l0_2.length c0_2, .slice A0_3 l0_3.length c0_3, .slice A0_4 l0_4.length c0_4, .slice A0_5 l0_5.length c0_5, .int .i64 a0_6]] w fun e w' => e = .returned (.bool r) ∧ Below w.heap.size w w' := by
  have hu := Tryd.underlying33
  have ix0 := impl_DataOK.ix0
  have ix1 := impl_DataOK.ix1
  have ix2 := impl_DataOK.ix2
  have ix3 := impl_DataOK.ix3
  have HR0 := Aside0.mk hr0_0
  have HC0 := Aside0.mk hc0_0
  have HR1 := Aside0.mk hr0_1
  have HC1 := Aside0.mk hc0_1
  clear hr0_0 hc0_0 hr0_1 hc0_1 hr0_2 hc0_2 hr0_3 hc0_3 hr0_4 hc0_4 hr0_5 hc0_5
  have hc (n : Nat) (b : Bool) (e : decide (n = 8) = b) : ((n : Int) != 8) = !b := by
    cases b
    · have := of_decide_eq_false e; simp only [Bool.not_false, bne_iff_ne, ne_eq]; omega
    · have := of_decide_eq_true e; subst this; rfl
  unfold impl_DataOK.f at h
  generalize hm2 : l0_2.length = m2 at *
  generalize hm3 : l0_3.length = m3 at *
  generalize hm4 : l0_4.length = m4 at *
  generalize hm5 : l0_5.length = m5 at *
  clear hm2 hm3 hm4 hm5
  by_cases d2 : m2 = 8
  · have e2 := hc m2 true (decide_eq_true d2)
    rw [if_pos d2] at h
    clear d2
    by_cases d3 : m3 = 8
    · have e3 := hc m3 true (decide_eq_true d3)
      rw [if_pos d3] at h
      clear d3
      by_cases d4 : m4 = 8
      · have e4 := hc m4 true (decide_eq_true d4)
        rw [if_pos d4] at h
        clear d4
        by_cases d5 : m5 = 8
        · have e5 := hc m5 true (decide_eq_true d5)
          rw [if_pos d5] at h
          clear d5 hc
          by_cases c0 : (l0_0.length : Int) = 16
          · rw [if_pos c0] at h
            have c0b : ((l0_0.length : Int) == 16) = true := beq_iff_eq.mpr c0
            clear c0
            obtain ⟨b, hb, h⟩ := Option.bind_eq_some_iff.mp h
            have HB0 := Aside0.mk hb
            clear hb
            cases b with
            | false =>
              rw [if_neg (by decide)] at h
              obtain rfl := Option.some.inj h
              clear h
              go_enter Tryd.func31, Tryd.ntmps31
              go_wp2
              refine wp_loop_rounds 5 ?_
              iterate 4 (rw [rounds_succ]; go_wp2)
              rw [rounds_succ]
              go_wp2_with (first
                | (go_at_call 56; refine (impl_all_value.calls _ _ l0_0 false _ (Kd.C_alloc HR0.out _) HC0.out HB0.out).mono ?_; rintro e w1 ⟨rfl, hb⟩; have HW1 := Aside0.mk (below_step (below_alloc (Below.refl _ _) _) hb); obtain ⟨x0, x1, x2, x3, x4, x5, x6, -⟩ := GivenW.cells7 (blk_below (blk_new _ _) hb); clear hb)
                | fail)
              go_ret
              exact ⟨rfl, HW1.out⟩
            | true =>
              rw [if_pos rfl] at h
              by_cases c1 : (l0_1.length : Int) ≤ 8
              · rw [if_pos c1] at h
                have c1b : decide ((l0_1.length : Int) ≤ 8) = true := decide_eq_true c1
                have c1c : decide (l0_1.length ≤ 8) = true := decide_eq_true (by omega)
                clear c1
                obtain ⟨c, hcc, h⟩ := Option.bind_eq_some_iff.mp h
                have HB1 := Aside0.mk hcc
                clear hcc
                cases c with
                | false =>
                  rw [if_neg (by decide)] at h
                  obtain rfl := Option.some.inj h
                  clear h
                  go_enter Tryd.func31, Tryd.ntmps31
                  go_wp2
                  refine wp_loop_rounds 5 ?_
                  iterate 4 (rw [rounds_succ]; go_wp2)
                  rw [rounds_succ]
                  go_wp2_with (first
                    | (go_at_call 56; refine (impl_all_value.calls _ _ l0_0 true _ (Kd.C_alloc HR0.out _) HC0.out HB0.out).mono ?_; rintro e w1 ⟨rfl, hb⟩; have HW1 := Aside0.mk (below_step (below_alloc (Below.refl _ _) _) hb); obtain ⟨x0, x1, x2, x3, x4, x5, x6, -⟩ := GivenW.cells7 (blk_below (blk_new _ _) hb); clear hb)
                    | (go_at_call 58; refine (impl_all_fb.calls k _ _ l0_1 false _ (Kd.C_below HR1.out HW1.out) HC1.out HB1.out).mono ?_; rintro e w2 ⟨rfl, hb⟩; have HW2 := Aside0.mk (below_step HW1.out hb); have hx6 := (show w2.cell? ⟨w.heap.size, 6, none⟩ = some (.int .i64 a0_6) from by rw [hb.cell (World.block_lt_of_cell? _ _ x6)]; exact x6); clear hb x0 x1 x2 x3 x4 x5 x6)
                    | fail)
                  go_ret
                  exact ⟨rfl, HW2.out⟩
                | true =>
                  rw [if_pos rfl] at h
                  have HT := Aside0.mk h
                  clear h
                  go_enter Tryd.func31, Tryd.ntmps31
                  go_wp2
                  refine wp_loop_rounds 5 ?_
                  iterate 4 (rw [rounds_succ]; go_wp2)
                  rw [rounds_succ]
                  go_wp2_with (first
                    | (go_at_call 56; refine (impl_all_value.calls _ _ l0_0 true _ (Kd.C_alloc HR0.out _) HC0.out HB0.out).mono ?_; rintro e w1 ⟨rfl, hb⟩; have HW1 := Aside0.mk (below_step (below_alloc (Below.refl _ _) _) hb); obtain ⟨x0, x1, x2, x3, x4, x5, x6, -⟩ := GivenW.cells7 (blk_below (blk_new _ _) hb); clear hb)
                    | (go_at_call 58; refine (impl_all_fb.calls k _ _ l0_1 true _ (Kd.C_below HR1.out HW1.out) HC1.out HB1.out).mono ?_; rintro e w2 ⟨rfl, hb⟩; have HW2 := Aside0.mk (below_step HW1.out hb); have hx6 := (show w2.cell? ⟨w.heap.size, 6, none⟩ = some (.int .i64 a0_6) from by rw [hb.cell (World.block_lt_of_cell? _ _ x6)]; exact x6); clear hb x0 x1 x2 x3 x4 x5 x6)
                    | (go_at_call 60; refine (impl_isTime.calls a0_6 r _ HT.out).mono ?_; rintro e w3 ⟨rfl, ⟨nd, rfl⟩⟩)
                    | fail)
                  go_ret
                  exact ⟨rfl, pw_below_drewN HW2.out _⟩
              · rw [if_neg c1] at h
                have c1b : decide ((l0_1.length : Int) ≤ 8) = false := decide_eq_false c1
                have c1c : decide (l0_1.length ≤ 8) = false := decide_eq_false (by omega)
                clear c1
                obtain rfl := Option.some.inj h
                clear h
                go_enter Tryd.func31, Tryd.ntmps31
                go_wp2
                refine wp_loop_rounds 5 ?_
                iterate 4 (rw [rounds_succ]; go_wp2)
                rw [rounds_succ]
                go_wp2_with (first
                  | (go_at_call 56; refine (impl_all_value.calls _ _ l0_0 true _ (Kd.C_alloc HR0.out _) HC0.out HB0.out).mono ?_; rintro e w1 ⟨rfl, hb⟩; have HW1 := Aside0.mk (below_step (below_alloc (Below.refl _ _) _) hb); obtain ⟨x0, x1, x2, x3, x4, x5, x6, -⟩ := GivenW.cells7 (blk_below (blk_new _ _) hb); clear hb)
                  | fail)
                go_ret
                exact ⟨rfl, HW1.out⟩
          · rw [if_neg c0] at h
            have c0b : ((l0_0.length : Int) == 16) = false := beq_eq_false_iff_ne.mpr c0
            clear c0
            obtain rfl := Option.some.inj h
            clear h
            go_enter Tryd.func31, Tryd.ntmps31
            go_wp2
            refine wp_loop_rounds 5 ?_
            iterate 5 (rw [rounds_succ]; go_wp2)
            go_ret
            exact ⟨rfl, below_alloc (Below.refl _ _) _⟩
        · have e5 := hc m5 false (decide_eq_false d5)
          rw [if_neg d5] at h
          obtain rfl := Option.some.inj h
          clear h d5 hc
          go_enter Tryd.func31, Tryd.ntmps31
          go_wp2
          refine wp_loop_rounds 5 ?_
          iterate 4 (rw [rounds_succ]; go_wp2)
          go_ret
          exact ⟨rfl, below_alloc (Below.refl _ _) _⟩
      · have e4 := hc m4 false (decide_eq_false d4)
        rw [if_neg d4] at h
        obtain rfl := Option.some.inj h
        clear h d4 hc
        go_enter Tryd.func31, Tryd.ntmps31
        go_wp2
        refine wp_loop_rounds 5 ?_
        iterate 3 (rw [rounds_succ]; go_wp2)
        go_ret
        exact ⟨rfl, below_alloc (Below.refl _ _) _⟩
    · have e3 := hc m3 false (decide_eq_false d3)
      rw [if_neg d3] at h
      obtain rfl := Option.some.inj h
      clear h d3 hc
      go_enter Tryd.func31, Tryd.ntmps31
      go_wp2
      refine wp_loop_rounds 5 ?_
      iterate 2 (rw [rounds_succ]; go_wp2)
      go_ret
      exact ⟨rfl, below_alloc (Below.refl _ _) _⟩
  · have e2 := hc m2 false (decide_eq_false d2)
    rw [if_neg d2] at h
    obtain rfl := Option.some.inj h
    clear h d2 hc
    go_enter Tryd.func31, Tryd.ntmps31
    go_wp2
    refine wp_loop_rounds 5 ?_
    rw [rounds_succ]
    go_wp2
    go_ret
    exact ⟨rfl, below_alloc (Below.refl _ _) _⟩

/-! ### impl_decimal: function 33 (given) -/
def impl_decimal.f (n : Int) : Option ByteArray := if GivenW.I64 n then some ⟨(Lib.itoa n).toArray⟩ else none
set_option maxHeartbeats 1000000 in
theorem impl_decimal.calls (a0 : Int) (r : ByteArray) (w : World) (hG : Glob w) (h : impl_decimal.f a0 = some r) :
    Calls Tryd.prog 33 #[.int .i64 a0] w fun e w' => e = .returned (.string r) ∧ Below w.heap.size w w' := by
  unfold impl_decimal.f at h
  split at h
  · rename_i hi
    have HI := Aside0.mk hi
    have HG := Aside0.mk hG
    obtain rfl := Option.some.inj h
    clear hi hG h
    go_enter Tryd.func33, Tryd.ntmps33
    go_wp2_with (go_at_call 62; refine (Tryd.strconv_Itoa a0 HI.out.1 HI.out.2 _ (HG.out _ (Below.refl _ _))).mono ?_; rintro e w' ⟨rfl, kk, os, rfl⟩)
    go_ret
    exact ⟨rfl, Lib.below_grow _ w (Nat.le_refl _) kk os⟩
  · simp at h

/-! ### strings_Join: function 61 (given) -/
def strings_Join.f (l0 : List ByteArray) (a1 : ByteArray) : Option ByteArray := if l0.length ≤ 140737488355328 ∧ (Lib.join (l0.map (·.data.toList)) a1.data.toList).length ≤ 140737488355328 then some ⟨(Lib.join (l0.map (·.data.toList)) a1.data.toList).toArray⟩ else none
theorem strings_Join.calls (A0 : Option Addr) (c0 : Nat) (l0 : List ByteArray) (a1 : ByteArray) (r : ByteArray) (w : World) (hr0 : Kd.C Kd.string w A0 l0.length l0) (hc0 : l0.length ≤ c0) (h : strings_Join.f l0 a1 = some r) :
    Calls Tryd.prog 61 #[.slice A0 l0.length c0, .string a1] w fun e w' => e = .returned (.string r) ∧ Below w.heap.size w w' := by
  unfold strings_Join.f at h
  split at h
  · rename_i hi
    obtain rfl := Option.some.inj h
    rcases Nat.eq_zero_or_pos l0.length with h0 | h0
    · obtain rfl : l0 = [] := List.length_eq_zero_iff.mp h0
      refine (GivenB.strings_Join_none A0 c0 a1 w).mono fun e w' he => ⟨?_, he.2 ▸ Below.refl _ _⟩
      rw [he.1]
      simp [Lib.join]
    · obtain ⟨ad, rfl, hc⟩ := Kd.at_string hr0 0 (by omega) (by omega)
      obtain ⟨bk, o, sp⟩ := ad
      have hsp : sp = none := by
        unfold World.cell? Addr.add at hc
        cases sp with
        | none => rfl
        | some s => simp at hc; split at hc <;> simp_all
      subst hsp
      refine GivenB.strings_Join bk o c0 l0 a1 w (fun j x hx => ?_) ?_ hi.1 hc0 hi.2
      · have hj : j < l0.length := by
          rcases Nat.lt_or_ge j l0.length with q | q
          · exact q
          · rw [List.getElem?_eq_none q] at hx; cases hx
        obtain ⟨ad2, e2, hc2⟩ := Kd.at_string hr0 (j : Int) (by omega) (by omega)
        obtain rfl := Option.some.inj e2
        have e3 : rdOf ByteArray.empty l0 (j : Int) = x := by
          unfold rdOf
          rw [List.getD_eq_getElem?_getD, Int.toNat_natCast, hx]
          rfl
        rw [e3, Int.toNat_natCast] at hc2
        cases j with
        | zero => exact hc2
        | succ j => simpa [Addr.add] using hc2
      · exact World.block_lt_of_cell? w _ hc
  · cases h

/-! ### impl_numbers: function 32 -/
def impl_numbers.l0 : Nat → List ByteArray → List Int → Int → Int → Option (ByteArray)
  | 0, _, _, _, _ => none
  | k + 1, x3, x7, x8, x9 => if x9 < x8 then (if 0 ≤ x9 then (if x9 < (x7.length : Int) then ((impl_decimal.f (rd x7 x9)).bind fun t211 => (if x3.length < 8796093022208 then (impl_numbers.l0 k (x3 ++ [t211]) x7 x8 (wrap64 (x9 + 1))) else (none))) else (none)) else (none)) else ((strings_Join.f x3 (⟨#[32]⟩ : ByteArray)).bind fun t215 => (some t215))
def impl_numbers.f (k : Nat) (l0 : List Int) : Option (ByteArray) := impl_numbers.l0 k (([] : List ByteArray)) l0 (l0.length : Int) 0
theorem impl_numbers.mono_l : ∀ k, (∀ y0 y1 y2 y3, LeO (impl_numbers.l0 k y0 y1 y2 y3) (impl_numbers.l0 (k + 1) y0 y1 y2 y3))
  | 0 => fun _ _ _ _ r h => by simp [impl_numbers.l0] at h
  | k + 1 => by
    have ih0 := impl_numbers.mono_l k
    · intro y0 y1 y2 y3
      unfold impl_numbers.l0
      repeat' first
      | (with_reducible exact ih0 _ _ _ _)
      | (with_reducible exact LeO.refl _)
      | (with_reducible exact LeO.none _)
      | (with_reducible refine LeO.ite ?_ ?_)
      | (with_reducible refine LeO.bind ?_ (fun _ => ?_))
      | exact ih0 _ _ _ _
      | exact LeO.none _
      | refine LeO.ite ?_ ?_
      | refine LeO.bind ?_ (fun _ => ?_)
theorem impl_numbers.mono : ∀ a0 k, LeO (impl_numbers.f k a0) (impl_numbers.f (k + 1) a0) := by
  intro a0 k
  have ih0 := impl_numbers.mono_l k
  unfold impl_numbers.f
  repeat' first
      | (with_reducible exact ih0 _ _ _ _)
      | (with_reducible exact LeO.refl _)
      | (with_reducible exact LeO.none _)
      | (with_reducible refine LeO.ite ?_ ?_)
      | (with_reducible refine LeO.bind ?_ (fun _ => ?_))
      | exact ih0 _ _ _ _
      | exact LeO.none _
      | refine LeO.ite ?_ ?_
      | refine LeO.bind ?_ (fun _ => ?_)
set_option maxHeartbeats 8000000 in
set_option maxRecDepth 100000 in
theorem impl_numbers.calls (k : Nat) (A0 : Option Addr) (c0 : Nat) (l0 : List Int) (r : ByteArray) (w : World) (hr0 : Kd.C (Kd.int .i64) w A0 l0.length l0) (hc0 : l0.length ≤ c0) (hG : Glob w) (h : impl_numbers.f k l0 = some r) :
    Calls Tryd.prog 32 #[.slice A0 l0.length c0] w fun e w' => e = .returned (.string r) ∧ Below w.heap.size w w' := by
  have HG := Aside0.mk hG
  clear hG
  have HR0 := Aside0.mk hr0
  have HC0 := Aside0.mk hc0
  clear hr0 hc0
  have HB := Aside0.mk (Below.refl w.heap.size w)
  have H : (impl_numbers.l0 k (([] : List ByteArray)) l0 (l0.length : Int) 0) = some r := h
  clear h
  obtain ⟨y207, hy207⟩ : ∃ y_ : List ByteArray, y_ = (([] : List ByteArray)) := ⟨_, rfl⟩
  replace H : (impl_numbers.l0 k y207 l0 (l0.length : Int) 0) = some r := by first | (rw [hy207]; with_reducible exact H) | (have H2_ := (Option.bind_some _ _).symm.trans H; rw [hy207]; with_reducible exact H2_) | (have H2_ := (Option.bind_some _ _).symm.trans H; with_reducible exact H2_) | with_reducible exact H | (rw [hy207]; exact H) | exact H
  have Ny207 := Aside0.mk hy207
  clear hy207
  have H' := Aside0.mk H
  clear H
  go_enter Tryd.func32, Tryd.ntmps32
  go_wp2_with (first | ((with_reducible refine gate_dst (N := 6) rfl ?_); refine Kd.R_lit Kd.string _ 9 ?hg (N := 6) ?hd (xs := ([] : List ByteArray)) (inner := []) (ok := fun _ => True) (okp := fun _ => True) ?hr ?hp (fun _ hk => hk) trivial (Below.refl _ _) (Nat.le_refl _) (by simp) ?_; (case hd => rfl); (case hg => rfl); (case hr => first | (go_simp; done) | (go_simp; rfl)); (case hp => exact (Reps.none _ _)); intro v208 w2 ho3 hb hg_ hnew_; clear hg_ hnew_; (first | rw [← Ny207.out] at ho3 | (simp only [Int.reduceToNat] at ho3; rw [← Ny207.out] at ho3)); have n0_ := Aside0.mk (Kd.R_lower ho3 (below_size (qw HB.out))); have n1_ := Aside0.mk (below_step (qw HB.out) hb); clear HB; have HO209 := n0_; have HB := n1_; clear n0_ n1_; clear hb ho3))
  go_loopg [3, 9] k (fun kq v3 v9 w' => ∃ (x3_1 : List ByteArray) (x9_1 : Int), v9 = .int .i64 x9_1 ∧ Aside0 (impl_numbers.l0 kq x3_1 l0 (l0.length : Int) x9_1 = some r) ∧ Aside0 (kq ≤ k) ∧ Aside0 (Kd.R Kd.string 9 w' w.heap.size (fun _ => True) v3 x3_1) ∧ Aside0 (Below w.heap.size w w'))
  case atStart => exact ⟨(y207), (0), (by first | rfl | (simp; done) | (simp [*]; done)), H', ⟨Nat.le_refl _⟩, ⟨qr HO209.out⟩, ⟨qw HB.out⟩⟩
  case round =>
    clear H'
    try clear p2
    try clear c3
    obtain ⟨x3_1, x9_1, rfl, HA, HK1, HO_3, HB⟩ := hrel
    cases gk with
    | zero => exact absurd HA.out (by simp [impl_numbers.l0])
    | succ k1 =>
      have H := HA.out
      clear HA
      simp only [impl_numbers.l0] at H
      by_cases c4 : x9_1 < (l0.length : Int)
      · rw [if_pos c4] at H
        have c4b0 : decide (x9_1 < (l0.length : Int)) = true := decide_eq_true c4
        clear c4
        by_cases c5 : 0 ≤ x9_1
        · rw [if_pos c5] at H
          have c5b0 : decide (0 ≤ x9_1) = true := decide_eq_true c5
          clear c5
          by_cases c6 : x9_1 < (l0.length : Int)
          · rw [if_pos c6] at H
            have c6b0 : decide (x9_1 < (l0.length : Int)) = true := decide_eq_true c6
            clear c6
            replace H := Option.bind_eq_some_iff.mp H
            obtain ⟨t211, A70, H⟩ := H
            replace H : (if x3_1.length < 8796093022208 then (impl_numbers.l0 k1 (x3_1 ++ [t211]) l0 (l0.length : Int) (wrap64 (x9_1 + 1))) else (none)) = some r := H
            have A7 := Aside0.mk A70
            clear A70
            by_cases c8 : x3_1.length < 8796093022208
            · rw [if_pos c8] at H
              have LMc8 := Aside0.mk c8
              clear c8
              obtain ⟨y212, hy212⟩ : ∃ y_ : List ByteArray, y_ = (x3_1 ++ [t211]) := ⟨_, rfl⟩
              replace H : (impl_numbers.l0 k1 y212 l0 (l0.length : Int) (wrap64 (x9_1 + 1))) = some r := by first | (rw [hy212]; with_reducible exact H) | (have H2_ := (Option.bind_some _ _).symm.trans H; rw [hy212]; with_reducible exact H2_) | (have H2_ := (Option.bind_some _ _).symm.trans H; with_reducible exact H2_) | with_reducible exact H | (rw [hy212]; exact H) | exact H
              have Ny212 := Aside0.mk hy212
              clear hy212
              have H' := Aside0.mk H
              clear H
              have p210 : 0 ≤ (x9_1 : Int) := of_decide_eq_true qs
              have q210 : x9_1 < (l0.length : Int) := of_decide_eq_true qs
              obtain ⟨ad210, e210, hx210_0⟩ := Kd.at_int HR0.out x9_1 p210 q210
              cases e210
              replace hx210_0 := (HB.out.cell (World.block_lt_of_cell? w _ hx210_0)).trans hx210_0
              replace p210 := eq_true p210
              replace q210 := eq_true q210
              go_wp2_with (first | ((with_reducible refine gate_callee (f := 33) rfl ?_); refine goesL_ (some 15) rfl rfl Tryd.func33 (by kernel_rfl) rfl #[.int .i64 (rd l0 x9_1)] rfl qa ?_; (with_reducible refine (impl_decimal.calls (rd l0 x9_1) t211 _ ?side1 A7.out).mono ?_); (case side1 => exact Glob.below HG.out (qw HB.out)); rintro e w9 ⟨rfl, hb⟩; refine ⟨_, rfl, ?_⟩; have n0_ := Aside0.mk (Kd.R_below (qr HO_3.out) hb); have n1_ := Aside0.mk (below_step (qw HB.out) hb); clear HO_3; clear HB; have HO_3 := n0_; have HB := n1_; clear n0_ n1_; (try clear hb); (try clear hb2); (try clear hk); (try clear hi)) | ((with_reducible refine gate_builtin (b := .append) (xs := #[.tmp 13, .tmp 16]) rfl ?_); at_builtin; refine Kd.R_append Kd.string (w0 := w) w.heap.size rfl (.tmp 13) (.tmp 16) 28 9 (.string ⟨#[]⟩) 16 rfl Tryd.underlying28 info9 rfl (by decide) (by omega) u3 x3_1 t211 [.string t211] (fun _ => True) (fun _ => False) rfl rfl ?aP (fun _ hk => hk.elim) ?aF ?aO ?aB ?aS ?aL ?_; (case aP => exact rfl); (case aB => exact (qw HB.out)); (case aF => exact (fun _ _ => trivial)); (case aO => exact (qr HO_3.out)); (case aS => exact (below_size (qw HB.out))); (case aL => have := LMc8.out; omega); intro v213 w10 ho hb hg hat; rw [← Ny212.out] at ho; have n0_ := Aside0.mk (hb); have n1_ := Aside0.mk (ho); clear HB; clear HO_3; have HB := n0_; have HO214 := n1_; clear n0_ n1_; clear ho hb hg hat))
              go_roundg k1
              case measure => have := HK1.out; omega
              case rel => exact ⟨(y212), (wrap64 (x9_1 + 1)), (by first | rfl | (simp; done) | (simp [*]; done)), H', ⟨by have := HK1.out; omega⟩, ⟨qr HO214.out⟩, ⟨qw HB.out⟩⟩
            · rw [if_neg c8] at H
              exact absurd H (by simp)
          · rw [if_neg c6] at H
            exact absurd H (by simp)
        · rw [if_neg c5] at H
          exact absurd H (by simp)
      · rw [if_neg c4] at H
        have c4b0 : decide (x9_1 < (l0.length : Int)) = false := decide_eq_false c4
        clear c4
        replace H := Option.bind_eq_some_iff.mp H
        obtain ⟨t215, A110, H⟩ := H
        replace H : (some t215) = some r := H
        have A11 := Aside0.mk A110
        clear A110
        obtain rfl := Option.some.inj H
        obtain ⟨Ao12, co12, eo12⟩ := Kd.R_slice HO_3.out
        subst eo12
        go_wp2_with (first | ((with_reducible refine gate_callee (f := 61) rfl ?_); refine goesL_ (some 20) rfl rfl Tryd.func61 (by kernel_rfl) rfl #[.slice Ao12 x3_1.length co12, .string (⟨#[32]⟩ : ByteArray)] rfl qa ?_; (with_reducible refine (strings_Join.calls _ _ x3_1 (⟨#[32]⟩ : ByteArray) t215 _ ?side1 ?side2 A11.out).mono ?_); (case side1 => repeat (first | exact (Kd.R_reads' HO_3.out).2.2 | (with_reducible refine Kd.C_alloc ?_ _) | (with_reducible refine Kd.C_drewN ?_ _) | (with_reducible refine Kd.C_drew ?_))); (case side2 => exact (Kd.R_reads' HO_3.out).2.1); rintro e w13 ⟨rfl, hb⟩; refine ⟨_, rfl, ?_⟩; have n0_ := Aside0.mk (Kd.R_below (qr HO_3.out) hb); have n1_ := Aside0.mk (below_step (qw HB.out) hb); clear HO_3; clear HB; have HO_3 := n0_; have HB := n1_; clear n0_ n1_; (try clear hb); (try clear hb2); (try clear hk); (try clear hi)))
        go_ret
        exact ⟨qe, qw HB.out⟩

/-! ### impl_fbText: function 34 (given) -/
def impl_fbText.onoff (b : Bool) : ByteArray := if b then ⟨#[32, 111, 110]⟩ else ⟨#[32, 111, 102, 102]⟩
def impl_fbText.f (a0_0 : Int) (a0_1 : Bool) (a0_2 : Int) (a0_3 : Int) : Option ByteArray :=
  if a0_0 = 1 then (impl_decimal.f a0_2).bind fun s => (impl_decimal.f a0_3).bind fun c => (if s.size ≤ 1000 ∧ c.size ≤ 1000 then some ((((⟨#[116, 105, 109, 101, 114]⟩ : ByteArray) ++ impl_fbText.onoff a0_1) ++ ((⟨#[32, 115, 116, 97, 114, 116, 32]⟩ : ByteArray) ++ s)) ++ ((⟨#[32, 99, 111, 117, 110, 116, 32]⟩ : ByteArray) ++ c)) else none)
  else if a0_0 = 2 then (impl_decimal.f a0_3).bind fun c => (if c.size ≤ 1000 then some (((⟨#[99, 111, 117, 110, 116, 101, 114]⟩ : ByteArray) ++ impl_fbText.onoff a0_1) ++ ((⟨#[32, 99, 111, 117, 110, 116, 32]⟩ : ByteArray) ++ c)) else none)
  else if a0_0 = 3 then some ((⟨#[101, 100, 103, 101]⟩ : ByteArray) ++ impl_fbText.onoff a0_1)
  else if a0_0 = 4 then some ((⟨#[108, 97, 116, 99, 104]⟩ : ByteArray) ++ impl_fbText.onoff a0_1)
  else none
theorem impl_fbText.ix0 (a b c d : Value) (w : World) : (Instr.index 82 (.agg #[a, b, c, d]) (.int .i64 0)).run Tryd.prog w = .ok a w := by kernel_rfl
theorem impl_fbText.ix1 (a b c d : Value) (w : World) : (Instr.index 82 (.agg #[a, b, c, d]) (.int .i64 1)).run Tryd.prog w = .ok b w := by kernel_rfl
theorem impl_fbText.ix2 (a b c d : Value) (w : World) : (Instr.index 82 (.agg #[a, b, c, d]) (.int .i64 2)).run Tryd.prog w = .ok c w := by kernel_rfl
theorem impl_fbText.ix3 (a b c d : Value) (w : World) : (Instr.index 82 (.agg #[a, b, c, d]) (.int .i64 3)).run Tryd.prog w = .ok d w := by kernel_rfl
set_option maxHeartbeats 4000000 in
set_option maxRecDepth 100000 in
theorem impl_fbText.calls (a0_0 : Int) (a0_1 : Bool) (a0_2 : Int) (a0_3 : Int) (r : ByteArray) (w : World) (hG : Glob w) (h : impl_fbText.f a0_0 a0_1 a0_2 a0_3 = some r) :
    Calls Tryd.prog 34 #[.agg #[.int .i64 a0_0, .bool a0_1, .int .i64 a0_2, .int .i64 a0_3]] w fun e w' => e = .returned (.string r) ∧ Below w.heap.size w w' := by
  have ix0 := impl_fbText.ix0
  have ix1 := impl_fbText.ix1
  have ix2 := impl_fbText.ix2
  have ix3 := impl_fbText.ix3
  have hu := Tryd.underlying61
  have HG := Aside0.mk hG
  clear hG
  unfold impl_fbText.f at h
  by_cases c1 : a0_0 = 1
  · subst c1
    rw [if_pos rfl] at h
    obtain ⟨s, hs, h⟩ := Option.bind_eq_some_iff.mp h
    obtain ⟨c, hc, h⟩ := Option.bind_eq_some_iff.mp h
    split at h
    · rename_i hz
      obtain rfl := Option.some.inj h
      have HS := Aside0.mk hs
      have HC := Aside0.mk hc
      have hz1 := hz.1
      have hz2 := hz.2
      clear h hs hc hz
      cases a0_1 <;>
        (go_enter Tryd.func34, Tryd.ntmps34
         go_wp2_with (first
           | (go_at_call 33; (with_reducible refine (impl_decimal.calls a0_2 s _ (HG.out.below (below_alloc (Below.refl _ _) _)) HS.out).mono ?_); rintro e w1 ⟨rfl, hb⟩; have HW1 := Aside0.mk (below_step (below_alloc (Below.refl _ _) _) hb); have BK := Aside0.mk (blk_below (blk_new _ _) hb); obtain ⟨x0, x1, x2, x3, -⟩ := GivenW.cells4 BK.out; clear hb)
           | (go_at_call 33; (with_reducible refine (impl_decimal.calls a0_3 c _ (HG.out.below HW1.out) HC.out).mono ?_); rintro e w2 ⟨rfl, hb⟩; have HW2 := Aside0.mk (below_step HW1.out hb); clear hb)
           | fail)
         go_ret
         exact ⟨rfl, HW2.out⟩)
    · cases h
  rw [if_neg c1] at h
  clear c1
  by_cases c2 : a0_0 = 2
  · subst c2
    rw [if_pos rfl] at h
    obtain ⟨c, hc, h⟩ := Option.bind_eq_some_iff.mp h
    split at h
    · rename_i hz
      obtain rfl := Option.some.inj h
      have HC := Aside0.mk hc
      clear h hc
      cases a0_1 <;>
        (go_enter Tryd.func34, Tryd.ntmps34
         go_wp2_with (first
           | (go_at_call 33; (with_reducible refine (impl_decimal.calls a0_3 c _ (HG.out.below (below_alloc (Below.refl _ _) _)) HC.out).mono ?_); rintro e w1 ⟨rfl, hb⟩; have HW1 := Aside0.mk (below_step (below_alloc (Below.refl _ _) _) hb); clear hb)
           | fail)
         go_ret
         exact ⟨rfl, HW1.out⟩)
    · cases h
  rw [if_neg c2] at h
  clear c2
  by_cases c3 : a0_0 = 3
  · subst c3
    rw [if_pos rfl] at h
    obtain rfl := Option.some.inj h
    clear h
    cases a0_1 <;>
      (go_enter Tryd.func34, Tryd.ntmps34
       go_wp2
       go_ret
       exact ⟨rfl, below_alloc (Below.refl _ _) _⟩)
  rw [if_neg c3] at h
  clear c3
  by_cases c4 : a0_0 = 4
  · subst c4
    rw [if_pos rfl] at h
    obtain rfl := Option.some.inj h
    clear h
    cases a0_1 <;>
      (go_enter Tryd.func34, Tryd.ntmps34
       go_wp2
       go_ret
       exact ⟨rfl, below_alloc (Below.refl _ _) _⟩)
  rw [if_neg c4] at h
  cases h

end Go.Proofs.YtppfcmkadcoboaaDoor.G
