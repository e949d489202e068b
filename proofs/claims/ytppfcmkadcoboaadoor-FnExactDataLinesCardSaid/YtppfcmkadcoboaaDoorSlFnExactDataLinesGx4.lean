-- by gprint.py (a program of this session's own), over the kit's print.py; Lean checks it
import Derived.Test.YtppfcmkadcoboaaDoorSlFnExactDataLinesGx0
import Derived.Test.YtppfcmkadcoboaaDoorSlFnExactDataLinesGx3
namespace Go.Proofs.YtppfcmkadcoboaaDoor.G
open Go.RowKit Go.Proofs.YtppfcmkadcoboaaDoorW.PrintWords Go.Proofs.YtppfcmkadcoboaaDoorW.PrintLast Go.Proofs.YtppfcmkadcoboaaDoorW.PrintMore
attribute [local go_sem] max2_int min2_int max_two min_two max_three min_three max_four min_four   -- for this text's walks alone
set_option linter.unusedVariables false
set_option linter.unusedSimpArgs false

/-! ### spec_l03Text: function 54 (given) -/
def spec_l03Text.onoff (b : Bool) : ByteArray := if b then ⟨#[32, 111, 110]⟩ else ⟨#[32, 111, 102, 102]⟩
def spec_l03Text.f (k : Nat) (a0_0 : Int) (a0_1 : Bool) (a0_2 : Int) (a0_3 : Int) : Option ByteArray :=
  if a0_0 = 1 then (spec_l00Digits.f k a0_2).bind fun s => (spec_l00Digits.f k a0_3).bind fun c => (if s.size ≤ 1000 ∧ c.size ≤ 1000 then some (((⟨#[116, 105, 109, 101, 114]⟩ : ByteArray) ++ spec_l03Text.onoff a0_1) ++ ((((⟨#[32, 115, 116, 97, 114, 116, 32]⟩ : ByteArray) ++ s) ++ (⟨#[32, 99, 111, 117, 110, 116, 32]⟩ : ByteArray)) ++ c)) else none)
  else if a0_0 = 2 then (spec_l00Digits.f k a0_3).bind fun c => (if c.size ≤ 1000 then some (((⟨#[99, 111, 117, 110, 116, 101, 114]⟩ : ByteArray) ++ spec_l03Text.onoff a0_1) ++ ((⟨#[32, 99, 111, 117, 110, 116, 32]⟩ : ByteArray) ++ c)) else none)
  else if a0_0 = 3 then some ((⟨#[101, 100, 103, 101]⟩ : ByteArray) ++ spec_l03Text.onoff a0_1)
  else if a0_0 = 4 then some ((⟨#[108, 97, 116, 99, 104]⟩ : ByteArray) ++ spec_l03Text.onoff a0_1)
  else none
theorem spec_l03Text.mono : ∀ a0 a1 a2 a3 k, LeO (spec_l03Text.f k a0 a1 a2 a3) (spec_l03Text.f (k + 1) a0 a1 a2 a3) := by
  intro a0 a1 a2 a3 k
  unfold spec_l03Text.f
  exact LeO.ite (LeO.bind (spec_l00Digits.mono _ _) (fun _ => LeO.bind (spec_l00Digits.mono _ _) (fun _ => LeO.refl _))) (LeO.ite (LeO.bind (spec_l00Digits.mono _ _) (fun _ => LeO.refl _)) (LeO.refl _))
def spec_l03Text.names : List ByteArray := [(⟨#[116, 105, 109, 101, 114]⟩ : ByteArray), (⟨#[99, 111, 117, 110, 116, 101, 114]⟩ : ByteArray), (⟨#[101, 100, 103, 101]⟩ : ByteArray), (⟨#[108, 97, 116, 99, 104]⟩ : ByteArray)]
/-- The names: a row of four in memory of the call's own; its cells told one by one. -/
theorem spec_l03Text.namesC (w : World) : Calls Tryd.prog 78 #[] w fun e w' => ∃ N, e = .returned (.slice (some ⟨N, 0, none⟩) 4 4) ∧ (w'.cell? ⟨N, 0, none⟩ = some (.string ⟨#[116, 105, 109, 101, 114]⟩) ∧ w'.cell? ⟨N, 1, none⟩ = some (.string ⟨#[99, 111, 117, 110, 116, 101, 114]⟩) ∧ w'.cell? ⟨N, 2, none⟩ = some (.string ⟨#[101, 100, 103, 101]⟩) ∧ w'.cell? ⟨N, 3, none⟩ = some (.string ⟨#[108, 97, 116, 99, 104]⟩)) ∧ Below w.heap.size w w' := by
  go_enter Tryd.func78, Tryd.ntmps78
  go_wp2
  go_ret
  exact ⟨_, rfl, ⟨(blk_cell (blk_new w _) 0).trans rfl, (blk_cell (blk_new w _) 1).trans rfl, (blk_cell (blk_new w _) 2).trans rfl, (blk_cell (blk_new w _) 3).trans rfl⟩, below_alloc (Below.refl _ _) _⟩
set_option maxHeartbeats 4000000 in
set_option maxRecDepth 100000 in
theorem spec_l03Text.k3 (b : Bool) (a0_2 : Int) (a0_3 : Int) (w : World) :
    Calls Tryd.prog 54 #[.agg #[.int .i64 3, .bool b, .int .i64 a0_2, .int .i64 a0_3]] w fun e w' => e = .returned (.string ((⟨#[101, 100, 103, 101]⟩ : ByteArray) ++ spec_l03Text.onoff b)) ∧ Below w.heap.size w w' := by
  have hu := Tryd.underlying61
  go_enter Tryd.func54, Tryd.ntmps54
  go_wp2
  have hwr : wrap64 2 = 2 := by unfold wrap64; omega
  have BK := Aside0.mk (blk_drew (blk_new w (.cells #[.int .i64 3, .bool b, .int .i64 a0_2, .int .i64 a0_3] 61 (0, 0))))
  have HB := Aside0.mk (below_drew1 (below_alloc (Below.refl w.heap.size w) (.cells #[.int .i64 3, .bool b, .int .i64 a0_2, .int .i64 a0_3] 61 (0, 0))))
  refine start_ (n := 7) (S := fun w' => w'.heap[w.heap.size]? = some (.cells #[.int .i64 3, .bool b, .int .i64 a0_2, .int .i64 a0_3] 61 (0, 0))) (ds := []) #[false, false, false, false, false, false, false] (by kernel_rfl) rfl rfl (blk_new _ _) (fun hHeld => ?_)
  generalize (w.alloc (.cells #[.int .i64 3, .bool b, .int .i64 a0_2, .int .i64 a0_3] 61 (0, 0))).drew = w4 at *
  refine pure_ (i := 1) (N := some 5) (v := ?_) (a' := ?_) #[false, true, false, false, false, false, false] rfl rfl (by kernel_rfl) (fun _ _ _ h => h) (Or.inl ⟨by rfl, ?_⟩) ?_ ?_
  rotate_left
  · intro w'
    go_simp
    with_reducible rfl
  rotate_left
  · simp only [Act.put, List.setIfInBounds_toArray, List.set_cons_zero, List.set_cons_succ, i64_w, i32_w]
    rfl
  refine take_ (i := 2) (N := some 6) (v := ?_) (a' := ?_) #[false, true, true, false, false, false, false] rfl rfl (by kernel_rfl) (fun _ _ _ h => h) (Or.inl ⟨by rfl, ?_⟩) hHeld ?_ ?_
  rotate_left
  · intro w' s_
    obtain ⟨x0, x1, x2, x3, -⟩ := GivenW.cells4 s_
    clear s_
    go_simp
    with_reducible rfl
  rotate_left
  · simp only [Act.put, List.setIfInBounds_toArray, List.set_cons_zero, List.set_cons_succ, i64_w, i32_w]
    rfl
  refine pure_ (i := 3) (N := some 7) (v := ?_) (a' := ?_) #[false, true, true, true, false, false, false] rfl rfl (by kernel_rfl) (fun _ _ _ h => h) (Or.inl ⟨by rfl, ?_⟩) ?_ ?_
  rotate_left
  · intro w'
    go_simp
    with_reducible rfl
  rotate_left
  · simp only [Act.put, List.setIfInBounds_toArray, List.set_cons_zero, List.set_cons_succ, i64_w, i32_w]
    rfl
  refine one_ (i := 0) (N := some 4) #[true, true, true, true, false, false, false] rfl rfl (by kernel_rfl) (by decide) (fun K hK => ?_)
  refine goes_ Tryd.func78 (by kernel_rfl) rfl #[] (by rfl) rfl rfl (by simp) ?_
  refine (spec_l03Text.namesC _).mono ?_
  rintro e w5 ⟨N, rfl, ⟨n0, n1, n2, n3⟩, hb⟩
  refine ⟨_, rfl, ?_⟩
  have BK5 := Aside0.mk (blk_below BK.out hb)
  have HB5 := Aside0.mk (below_step HB.out hb)
  clear hb
  refine hK.out _ _ BK5.out (fun hHeld5 => ?_)
  clear hK K
  refine norm_ (a' := ?_) ?_ ?_
  rotate_left
  · show Act.put _ (some 4) _ = _
    simp only [Act.put, List.setIfInBounds_toArray, List.set_cons_zero, List.set_cons_succ, i64_w, i32_w]
    rfl
  refine pure_ (i := 4) (N := some 8) (v := ?_) (a' := ?_) #[true, true, true, true, true, false, false] rfl rfl (by kernel_rfl) (fun _ _ _ h => h) (Or.inl ⟨by rfl, ?_⟩) ?_ ?_
  rotate_left
  · intro w'
    go_simp
    with_reducible rfl
  rotate_left
  · simp only [Act.put, List.setIfInBounds_toArray, List.set_cons_zero, List.set_cons_succ, i64_w, i32_w]
    rfl
  refine one_ (i := 5) (N := some 9) #[true, true, true, true, true, true, false] rfl rfl (by kernel_rfl) (by decide) (fun K hK => ?_)
  refine event_step (v := .string ⟨#[101, 100, 103, 101]⟩) (w1 := w5) (by rfl) (by go_simp) ?_
  refine hK.out _ _ BK5.out (fun _ => ?_)
  clear hK K
  refine norm_ (a' := ?_) ?_ ?_
  rotate_left
  · show Act.put _ (some 9) _ = _
    simp only [Act.put, List.setIfInBounds_toArray, List.set_cons_zero, List.set_cons_succ, i64_w, i32_w]
    rfl
  refine pure_ (i := 6) (N := some 3) (v := ?_) (a' := ?_) #[true, true, true, true, true, true, true] rfl rfl (by kernel_rfl) (fun _ _ _ h => h) (Or.inl ⟨by rfl, ?_⟩) ?_ ?_
  rotate_left
  · intro w'
    go_simp
    with_reducible rfl
  rotate_left
  · simp only [Act.put, List.setIfInBounds_toArray, List.set_cons_zero, List.set_cons_succ, i64_w, i32_w]
    rfl
  refine done_ (by kernel_rfl) ?_
  clear n0 n1 n2 n3 hHeld hHeld5 HB BK
  obtain ⟨x0, x1, x2, x3, -⟩ := GivenW.cells4 BK5.out
  cases b <;> (go_wp2; go_ret; exact ⟨rfl, HB5.out⟩)
set_option maxHeartbeats 4000000 in
set_option maxRecDepth 100000 in
theorem spec_l03Text.k4 (b : Bool) (a0_2 : Int) (a0_3 : Int) (w : World) :
    Calls Tryd.prog 54 #[.agg #[.int .i64 4, .bool b, .int .i64 a0_2, .int .i64 a0_3]] w fun e w' => e = .returned (.string ((⟨#[108, 97, 116, 99, 104]⟩ : ByteArray) ++ spec_l03Text.onoff b)) ∧ Below w.heap.size w w' := by
  have hu := Tryd.underlying61
  go_enter Tryd.func54, Tryd.ntmps54
  go_wp2
  have hwr : wrap64 3 = 3 := by unfold wrap64; omega
  have BK := Aside0.mk (blk_drew (blk_new w (.cells #[.int .i64 4, .bool b, .int .i64 a0_2, .int .i64 a0_3] 61 (0, 0))))
  have HB := Aside0.mk (below_drew1 (below_alloc (Below.refl w.heap.size w) (.cells #[.int .i64 4, .bool b, .int .i64 a0_2, .int .i64 a0_3] 61 (0, 0))))
  refine start_ (n := 7) (S := fun w' => w'.heap[w.heap.size]? = some (.cells #[.int .i64 4, .bool b, .int .i64 a0_2, .int .i64 a0_3] 61 (0, 0))) (ds := []) #[false, false, false, false, false, false, false] (by kernel_rfl) rfl rfl (blk_new _ _) (fun hHeld => ?_)
  generalize (w.alloc (.cells #[.int .i64 4, .bool b, .int .i64 a0_2, .int .i64 a0_3] 61 (0, 0))).drew = w4 at *
  refine pure_ (i := 1) (N := some 5) (v := ?_) (a' := ?_) #[false, true, false, false, false, false, false] rfl rfl (by kernel_rfl) (fun _ _ _ h => h) (Or.inl ⟨by rfl, ?_⟩) ?_ ?_
  rotate_left
  · intro w'
    go_simp
    with_reducible rfl
  rotate_left
  · simp only [Act.put, List.setIfInBounds_toArray, List.set_cons_zero, List.set_cons_succ, i64_w, i32_w]
    rfl
  refine take_ (i := 2) (N := some 6) (v := ?_) (a' := ?_) #[false, true, true, false, false, false, false] rfl rfl (by kernel_rfl) (fun _ _ _ h => h) (Or.inl ⟨by rfl, ?_⟩) hHeld ?_ ?_
  rotate_left
  · intro w' s_
    obtain ⟨x0, x1, x2, x3, -⟩ := GivenW.cells4 s_
    clear s_
    go_simp
    with_reducible rfl
  rotate_left
  · simp only [Act.put, List.setIfInBounds_toArray, List.set_cons_zero, List.set_cons_succ, i64_w, i32_w]
    rfl
  refine pure_ (i := 3) (N := some 7) (v := ?_) (a' := ?_) #[false, true, true, true, false, false, false] rfl rfl (by kernel_rfl) (fun _ _ _ h => h) (Or.inl ⟨by rfl, ?_⟩) ?_ ?_
  rotate_left
  · intro w'
    go_simp
    with_reducible rfl
  rotate_left
  · simp only [Act.put, List.setIfInBounds_toArray, List.set_cons_zero, List.set_cons_succ, i64_w, i32_w]
    rfl
  refine one_ (i := 0) (N := some 4) #[true, true, true, true, false, false, false] rfl rfl (by kernel_rfl) (by decide) (fun K hK => ?_)
  refine goes_ Tryd.func78 (by kernel_rfl) rfl #[] (by rfl) rfl rfl (by simp) ?_
  refine (spec_l03Text.namesC _).mono ?_
  rintro e w5 ⟨N, rfl, ⟨n0, n1, n2, n3⟩, hb⟩
  refine ⟨_, rfl, ?_⟩
  have BK5 := Aside0.mk (blk_below BK.out hb)
  have HB5 := Aside0.mk (below_step HB.out hb)
  clear hb
  refine hK.out _ _ BK5.out (fun hHeld5 => ?_)
  clear hK K
  refine norm_ (a' := ?_) ?_ ?_
  rotate_left
  · show Act.put _ (some 4) _ = _
    simp only [Act.put, List.setIfInBounds_toArray, List.set_cons_zero, List.set_cons_succ, i64_w, i32_w]
    rfl
  refine pure_ (i := 4) (N := some 8) (v := ?_) (a' := ?_) #[true, true, true, true, true, false, false] rfl rfl (by kernel_rfl) (fun _ _ _ h => h) (Or.inl ⟨by rfl, ?_⟩) ?_ ?_
  rotate_left
  · intro w'
    go_simp
    with_reducible rfl
  rotate_left
  · simp only [Act.put, List.setIfInBounds_toArray, List.set_cons_zero, List.set_cons_succ, i64_w, i32_w]
    rfl
  refine one_ (i := 5) (N := some 9) #[true, true, true, true, true, true, false] rfl rfl (by kernel_rfl) (by decide) (fun K hK => ?_)
  refine event_step (v := .string ⟨#[108, 97, 116, 99, 104]⟩) (w1 := w5) (by rfl) (by go_simp) ?_
  refine hK.out _ _ BK5.out (fun _ => ?_)
  clear hK K
  refine norm_ (a' := ?_) ?_ ?_
  rotate_left
  · show Act.put _ (some 9) _ = _
    simp only [Act.put, List.setIfInBounds_toArray, List.set_cons_zero, List.set_cons_succ, i64_w, i32_w]
    rfl
  refine pure_ (i := 6) (N := some 3) (v := ?_) (a' := ?_) #[true, true, true, true, true, true, true] rfl rfl (by kernel_rfl) (fun _ _ _ h => h) (Or.inl ⟨by rfl, ?_⟩) ?_ ?_
  rotate_left
  · intro w'
    go_simp
    with_reducible rfl
  rotate_left
  · simp only [Act.put, List.setIfInBounds_toArray, List.set_cons_zero, List.set_cons_succ, i64_w, i32_w]
    rfl
  refine done_ (by kernel_rfl) ?_
  clear n0 n1 n2 n3 hHeld hHeld5 HB BK
  obtain ⟨x0, x1, x2, x3, -⟩ := GivenW.cells4 BK5.out
  cases b <;> (go_wp2; go_ret; exact ⟨rfl, HB5.out⟩)
set_option maxHeartbeats 4000000 in
set_option maxRecDepth 100000 in
theorem spec_l03Text.k1 (k : Nat) (b : Bool) (a0_2 : Int) (a0_3 : Int) (s c : ByteArray) (w : World) (hs : spec_l00Digits.f k a0_2 = some s) (hc : spec_l00Digits.f k a0_3 = some c) (hz1 : s.size ≤ 1000) (hz2 : c.size ≤ 1000) :
    Calls Tryd.prog 54 #[.agg #[.int .i64 1, .bool b, .int .i64 a0_2, .int .i64 a0_3]] w fun e w' => e = .returned (.string (((⟨#[116, 105, 109, 101, 114]⟩ : ByteArray) ++ spec_l03Text.onoff b) ++ ((((⟨#[32, 115, 116, 97, 114, 116, 32]⟩ : ByteArray) ++ s) ++ (⟨#[32, 99, 111, 117, 110, 116, 32]⟩ : ByteArray)) ++ c))) ∧ Below w.heap.size w w' := by
  have hu := Tryd.underlying61
  have HC := Aside0.mk hc
  have HS := Aside0.mk hs
  clear hc hs
  go_enter Tryd.func54, Tryd.ntmps54
  go_wp2
  have hwr : wrap64 0 = 0 := by unfold wrap64; omega
  have BK := Aside0.mk (blk_drew (blk_new w (.cells #[.int .i64 1, .bool b, .int .i64 a0_2, .int .i64 a0_3] 61 (0, 0))))
  have HB := Aside0.mk (below_drew1 (below_alloc (Below.refl w.heap.size w) (.cells #[.int .i64 1, .bool b, .int .i64 a0_2, .int .i64 a0_3] 61 (0, 0))))
  refine start_ (n := 7) (S := fun w' => w'.heap[w.heap.size]? = some (.cells #[.int .i64 1, .bool b, .int .i64 a0_2, .int .i64 a0_3] 61 (0, 0))) (ds := []) #[false, false, false, false, false, false, false] (by kernel_rfl) rfl rfl (blk_new _ _) (fun hHeld => ?_)
  generalize (w.alloc (.cells #[.int .i64 1, .bool b, .int .i64 a0_2, .int .i64 a0_3] 61 (0, 0))).drew = w4 at *
  refine pure_ (i := 1) (N := some 5) (v := ?_) (a' := ?_) #[false, true, false, false, false, false, false] rfl rfl (by kernel_rfl) (fun _ _ _ h => h) (Or.inl ⟨by rfl, ?_⟩) ?_ ?_
  rotate_left
  · intro w'
    go_simp
    with_reducible rfl
  rotate_left
  · simp only [Act.put, List.setIfInBounds_toArray, List.set_cons_zero, List.set_cons_succ, i64_w, i32_w]
    rfl
  refine take_ (i := 2) (N := some 6) (v := ?_) (a' := ?_) #[false, true, true, false, false, false, false] rfl rfl (by kernel_rfl) (fun _ _ _ h => h) (Or.inl ⟨by rfl, ?_⟩) hHeld ?_ ?_
  rotate_left
  · intro w' s_
    obtain ⟨x0, x1, x2, x3, -⟩ := GivenW.cells4 s_
    clear s_
    go_simp
    with_reducible rfl
  rotate_left
  · simp only [Act.put, List.setIfInBounds_toArray, List.set_cons_zero, List.set_cons_succ, i64_w, i32_w]
    rfl
  refine pure_ (i := 3) (N := some 7) (v := ?_) (a' := ?_) #[false, true, true, true, false, false, false] rfl rfl (by kernel_rfl) (fun _ _ _ h => h) (Or.inl ⟨by rfl, ?_⟩) ?_ ?_
  rotate_left
  · intro w'
    go_simp
    with_reducible rfl
  rotate_left
  · simp only [Act.put, List.setIfInBounds_toArray, List.set_cons_zero, List.set_cons_succ, i64_w, i32_w]
    rfl
  refine one_ (i := 0) (N := some 4) #[true, true, true, true, false, false, false] rfl rfl (by kernel_rfl) (by decide) (fun K hK => ?_)
  refine goes_ Tryd.func78 (by kernel_rfl) rfl #[] (by rfl) rfl rfl (by simp) ?_
  refine (spec_l03Text.namesC _).mono ?_
  rintro e w5 ⟨N, rfl, ⟨n0, n1, n2, n3⟩, hb⟩
  refine ⟨_, rfl, ?_⟩
  have BK5 := Aside0.mk (blk_below BK.out hb)
  have HB5 := Aside0.mk (below_step HB.out hb)
  clear hb
  refine hK.out _ _ BK5.out (fun hHeld5 => ?_)
  clear hK K
  refine norm_ (a' := ?_) ?_ ?_
  rotate_left
  · show Act.put _ (some 4) _ = _
    simp only [Act.put, List.setIfInBounds_toArray, List.set_cons_zero, List.set_cons_succ, i64_w, i32_w]
    rfl
  refine pure_ (i := 4) (N := some 8) (v := ?_) (a' := ?_) #[true, true, true, true, true, false, false] rfl rfl (by kernel_rfl) (fun _ _ _ h => h) (Or.inl ⟨by rfl, ?_⟩) ?_ ?_
  rotate_left
  · intro w'
    go_simp
    with_reducible rfl
  rotate_left
  · simp only [Act.put, List.setIfInBounds_toArray, List.set_cons_zero, List.set_cons_succ, i64_w, i32_w]
    rfl
  refine one_ (i := 5) (N := some 9) #[true, true, true, true, true, true, false] rfl rfl (by kernel_rfl) (by decide) (fun K hK => ?_)
  refine event_step (v := .string ⟨#[116, 105, 109, 101, 114]⟩) (w1 := w5) (by rfl) (by go_simp) ?_
  refine hK.out _ _ BK5.out (fun _ => ?_)
  clear hK K
  refine norm_ (a' := ?_) ?_ ?_
  rotate_left
  · show Act.put _ (some 9) _ = _
    simp only [Act.put, List.setIfInBounds_toArray, List.set_cons_zero, List.set_cons_succ, i64_w, i32_w]
    rfl
  refine pure_ (i := 6) (N := some 3) (v := ?_) (a' := ?_) #[true, true, true, true, true, true, true] rfl rfl (by kernel_rfl) (fun _ _ _ h => h) (Or.inl ⟨by rfl, ?_⟩) ?_ ?_
  rotate_left
  · intro w'
    go_simp
    with_reducible rfl
  rotate_left
  · simp only [Act.put, List.setIfInBounds_toArray, List.set_cons_zero, List.set_cons_succ, i64_w, i32_w]
    rfl
  refine done_ (by kernel_rfl) ?_
  clear n0 n1 n2 n3 hHeld hHeld5 HB BK
  obtain ⟨x0, x1, x2, x3, -⟩ := GivenW.cells4 BK5.out
  have z1 : (9223372036854775807 < 7 + s.size) = False := eq_false (by omega)
  have z2 : (9223372036854775807 < 7 + s.size + 7) = False := eq_false (by omega)
  have z3 : (9223372036854775807 < 7 + s.size + 7 + c.size) = False := eq_false (by omega)
  have z4 : (9223372036854775807 < 8 + (7 + s.size + 7 + c.size)) = False := eq_false (by omega)
  have z5 : (9223372036854775807 < 9 + (7 + s.size + 7 + c.size)) = False := eq_false (by omega)
  clear hz1 hz2
  cases b <;>
    (go_wp2
     go_region_held3 (fun w' => w'.cell? ⟨w.heap.size, 2, none⟩ = some (.int .i64 a0_2) ∧ w'.cell? ⟨w.heap.size, 3, none⟩ = some (.int .i64 a0_3)) (first | exact y7 | exact y6 | go_keep)
       (first
        | (go_at_call 53; (with_reducible refine (spec_l00Digits.calls k a0_2 s _ HS.out).mono ?_); rintro e w6 ⟨rfl, hb⟩; have HB6 := Aside0.mk (below_step (below_drew1 HB5.out) hb); have BK6 := Aside0.mk (blk_below (blk_drew BK5.out) hb); have y6 := And.intro (GivenW.cells4 BK6.out).2.2.1 (GivenW.cells4 BK6.out).2.2.2.1; clear hb)
        | (go_at_call 53; (with_reducible refine (spec_l00Digits.calls k a0_3 c _ HC.out).mono ?_); rintro e w7 ⟨rfl, hb⟩; have HB7 := Aside0.mk (below_step HB6.out hb); have BK7 := Aside0.mk (blk_below BK6.out hb); have y7 := And.intro (GivenW.cells4 BK7.out).2.2.1 (GivenW.cells4 BK7.out).2.2.2.1; clear hb))
     go_wp2
     go_ret
     exact ⟨rfl, HB7.out⟩)
set_option maxHeartbeats 4000000 in
set_option maxRecDepth 100000 in
theorem spec_l03Text.k2 (k : Nat) (b : Bool) (a0_2 : Int) (a0_3 : Int) (c : ByteArray) (w : World) (hc : spec_l00Digits.f k a0_3 = some c) (hz : c.size ≤ 1000) :
    Calls Tryd.prog 54 #[.agg #[.int .i64 2, .bool b, .int .i64 a0_2, .int .i64 a0_3]] w fun e w' => e = .returned (.string (((⟨#[99, 111, 117, 110, 116, 101, 114]⟩ : ByteArray) ++ spec_l03Text.onoff b) ++ ((⟨#[32, 99, 111, 117, 110, 116, 32]⟩ : ByteArray) ++ c))) ∧ Below w.heap.size w w' := by
  have hu := Tryd.underlying61
  have HC := Aside0.mk hc
  clear hc
  go_enter Tryd.func54, Tryd.ntmps54
  go_wp2
  have hwr : wrap64 1 = 1 := by unfold wrap64; omega
  have BK := Aside0.mk (blk_drew (blk_new w (.cells #[.int .i64 2, .bool b, .int .i64 a0_2, .int .i64 a0_3] 61 (0, 0))))
  have HB := Aside0.mk (below_drew1 (below_alloc (Below.refl w.heap.size w) (.cells #[.int .i64 2, .bool b, .int .i64 a0_2, .int .i64 a0_3] 61 (0, 0))))
  refine start_ (n := 7) (S := fun w' => w'.heap[w.heap.size]? = some (.cells #[.int .i64 2, .bool b, .int .i64 a0_2, .int .i64 a0_3] 61 (0, 0))) (ds := []) #[false, false, false, false, false, false, false] (by kernel_rfl) rfl rfl (blk_new _ _) (fun hHeld => ?_)
  generalize (w.alloc (.cells #[.int .i64 2, .bool b, .int .i64 a0_2, .int .i64 a0_3] 61 (0, 0))).drew = w4 at *
  refine pure_ (i := 1) (N := some 5) (v := ?_) (a' := ?_) #[false, true, false, false, false, false, false] rfl rfl (by kernel_rfl) (fun _ _ _ h => h) (Or.inl ⟨by rfl, ?_⟩) ?_ ?_
  rotate_left
  · intro w'
    go_simp
    with_reducible rfl
  rotate_left
  · simp only [Act.put, List.setIfInBounds_toArray, List.set_cons_zero, List.set_cons_succ, i64_w, i32_w]
    rfl
  refine take_ (i := 2) (N := some 6) (v := ?_) (a' := ?_) #[false, true, true, false, false, false, false] rfl rfl (by kernel_rfl) (fun _ _ _ h => h) (Or.inl ⟨by rfl, ?_⟩) hHeld ?_ ?_
  rotate_left
  · intro w' s_
    obtain ⟨x0, x1, x2, x3, -⟩ := GivenW.cells4 s_
    clear s_
    go_simp
    with_reducible rfl
  rotate_left
  · simp only [Act.put, List.setIfInBounds_toArray, List.set_cons_zero, List.set_cons_succ, i64_w, i32_w]
    rfl
  refine pure_ (i := 3) (N := some 7) (v := ?_) (a' := ?_) #[false, true, true, true, false, false, false] rfl rfl (by kernel_rfl) (fun _ _ _ h => h) (Or.inl ⟨by rfl, ?_⟩) ?_ ?_
  rotate_left
  · intro w'
    go_simp
    with_reducible rfl
  rotate_left
  · simp only [Act.put, List.setIfInBounds_toArray, List.set_cons_zero, List.set_cons_succ, i64_w, i32_w]
    rfl
  refine one_ (i := 0) (N := some 4) #[true, true, true, true, false, false, false] rfl rfl (by kernel_rfl) (by decide) (fun K hK => ?_)
  refine goes_ Tryd.func78 (by kernel_rfl) rfl #[] (by rfl) rfl rfl (by simp) ?_
  refine (spec_l03Text.namesC _).mono ?_
  rintro e w5 ⟨N, rfl, ⟨n0, n1, n2, n3⟩, hb⟩
  refine ⟨_, rfl, ?_⟩
  have BK5 := Aside0.mk (blk_below BK.out hb)
  have HB5 := Aside0.mk (below_step HB.out hb)
  clear hb
  refine hK.out _ _ BK5.out (fun hHeld5 => ?_)
  clear hK K
  refine norm_ (a' := ?_) ?_ ?_
  rotate_left
  · show Act.put _ (some 4) _ = _
    simp only [Act.put, List.setIfInBounds_toArray, List.set_cons_zero, List.set_cons_succ, i64_w, i32_w]
    rfl
  refine pure_ (i := 4) (N := some 8) (v := ?_) (a' := ?_) #[true, true, true, true, true, false, false] rfl rfl (by kernel_rfl) (fun _ _ _ h => h) (Or.inl ⟨by rfl, ?_⟩) ?_ ?_
  rotate_left
  · intro w'
    go_simp
    with_reducible rfl
  rotate_left
  · simp only [Act.put, List.setIfInBounds_toArray, List.set_cons_zero, List.set_cons_succ, i64_w, i32_w]
    rfl
  refine one_ (i := 5) (N := some 9) #[true, true, true, true, true, true, false] rfl rfl (by kernel_rfl) (by decide) (fun K hK => ?_)
  refine event_step (v := .string ⟨#[99, 111, 117, 110, 116, 101, 114]⟩) (w1 := w5) (by rfl) (by go_simp) ?_
  refine hK.out _ _ BK5.out (fun _ => ?_)
  clear hK K
  refine norm_ (a' := ?_) ?_ ?_
  rotate_left
  · show Act.put _ (some 9) _ = _
    simp only [Act.put, List.setIfInBounds_toArray, List.set_cons_zero, List.set_cons_succ, i64_w, i32_w]
    rfl
  refine pure_ (i := 6) (N := some 3) (v := ?_) (a' := ?_) #[true, true, true, true, true, true, true] rfl rfl (by kernel_rfl) (fun _ _ _ h => h) (Or.inl ⟨by rfl, ?_⟩) ?_ ?_
  rotate_left
  · intro w'
    go_simp
    with_reducible rfl
  rotate_left
  · simp only [Act.put, List.setIfInBounds_toArray, List.set_cons_zero, List.set_cons_succ, i64_w, i32_w]
    rfl
  refine done_ (by kernel_rfl) ?_
  clear n0 n1 n2 n3 hHeld hHeld5 HB BK
  obtain ⟨x0, x1, x2, x3, -⟩ := GivenW.cells4 BK5.out
  cases b <;>
    (go_wp2_with (first
       | (go_at_call 53; (with_reducible refine (spec_l00Digits.calls k a0_3 c _ HC.out).mono ?_); rintro e w6 ⟨rfl, hb⟩; have HB6 := Aside0.mk (below_step HB5.out hb); clear hb)
       | fail)
     go_ret
     exact ⟨rfl, HB6.out⟩)
theorem spec_l03Text.calls (k : Nat) (a0_0 : Int) (a0_1 : Bool) (a0_2 : Int) (a0_3 : Int) (r : ByteArray) (w : World) (h : spec_l03Text.f k a0_0 a0_1 a0_2 a0_3 = some r) :
    Calls Tryd.prog 54 #[.agg #[.int .i64 a0_0, .bool a0_1, .int .i64 a0_2, .int .i64 a0_3]] w fun e w' => e = .returned (.string r) ∧ Below w.heap.size w w' := by
  unfold spec_l03Text.f at h
  by_cases c1 : a0_0 = 1
  · subst c1
    rw [if_pos rfl] at h
    obtain ⟨s, hs, h⟩ := Option.bind_eq_some_iff.mp h
    obtain ⟨c, hc, h⟩ := Option.bind_eq_some_iff.mp h
    split at h
    · rename_i hz
      obtain rfl := Option.some.inj h
      exact spec_l03Text.k1 k a0_1 a0_2 a0_3 s c w hs hc hz.1 hz.2
    · cases h
  rw [if_neg c1] at h
  by_cases c2 : a0_0 = 2
  · subst c2
    rw [if_pos rfl] at h
    obtain ⟨c, hc, h⟩ := Option.bind_eq_some_iff.mp h
    split at h
    · rename_i hz
      obtain rfl := Option.some.inj h
      exact spec_l03Text.k2 k a0_1 a0_2 a0_3 c w hc hz
    · cases h
  rw [if_neg c2] at h
  by_cases c3 : a0_0 = 3
  · subst c3
    rw [if_pos rfl] at h
    obtain rfl := Option.some.inj h
    exact spec_l03Text.k3 a0_1 a0_2 a0_3 w
  rw [if_neg c3] at h
  by_cases c4 : a0_0 = 4
  · subst c4
    rw [if_pos rfl] at h
    obtain rfl := Option.some.inj h
    exact spec_l03Text.k4 a0_1 a0_2 a0_3 w
  rw [if_neg c4] at h
  cases h

end Go.Proofs.YtppfcmkadcoboaaDoor.G
