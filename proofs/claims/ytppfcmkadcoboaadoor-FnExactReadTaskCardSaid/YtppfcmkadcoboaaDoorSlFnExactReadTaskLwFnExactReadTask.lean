/- For every input the law FnExactReadTask answers true, and its arguments read as before: the row and its tied card. -/
import Derived.Test.YtppfcmkadcoboaaDoorRows
import Derived.Test.YtppfcmkadcoboaaDoorCards
import Derived.Test.YtppfcmkadcoboaaDoorTie
import Derived.Test.YtppfcmkadcoboaaDoorSlFnExactReadTaskPuFnExactReadTask
import Derived.WalkKit
import Derived.ProofKit
import Derived.OpenShut
import Derived.ShutString
import Derived.ChangeOld
import Derived.Below
import Derived.SizedLaws
import Derived.Deep.DeepHandedRow
import Derived.Lib.LaidTab
import Derived.Lib.AppendIntMem
import Derived.Lay
import Derived.MakeChecks
import Derived.LaidOnce
import Derived.Shelf.Vars
import Derived.WalkSmall
import Derived.LaidLaws
namespace Go.Proofs.YtppfcmkadcoboaaDoor.fnExactReadTask
open Go.ChangeShapes Go.WideShapes Go.ChangeAt Go.RowKit Go.Proofs.YtppfcmkadcoboaaDoor.R Go.Proofs.YtppfcmkadcoboaaDoorW.PrintWords
open Go.ChangeMaps (open_string shut_string)
set_option linter.unusedVariables false
theorem own : ownKnob Tryd.prog.godebug = none := by kernel_rfl
theorem laidOut : laidOutB Tryd.prog = true := by kernel_rfl
theorem gTab : Tryd.prog.globalNamed "internal/strconv.uint64pow10" = some 1 := by kernel_rfl
theorem gSyn : Tryd.prog.globalNamed "strconv.ErrSyntax" = some 2 := by kernel_rfl
theorem gRng : Tryd.prog.globalNamed "strconv.ErrRange" = some 3 := by kernel_rfl
theorem plainL (W : World) : laidMetH Tryd.prog Rows.fnExactReadTaskRow.laid W = laidMet Tryd.prog Rows.fnExactReadTaskRow.laid W := MakeChecks.laidMetH_plain _ _ _ (by kernel_rfl)
theorem table {W : World} (h : laidMet Tryd.prog Rows.fnExactReadTaskRow.laid W) : Lib.TabIs Tryd.prog W "internal/strconv.uint64pow10" .u64 Lib.pow10Tab := by
  obtain ⟨ps, hv, _⟩ := h
  obtain ⟨g, t, cs, fuel, p, q, hg, ht, hvar, hd⟩ := GivenO.laid_var hv "internal/strconv.uint64pow10" Rows.laid_internal_strconv_uint64pow10 (by simp [Rows.fnExactReadTaskRow])
  obtain rfl : g = 1 := Option.some.inj (hg.symm.trans gTab)
  have ht2 : (Tryd.prog.globals[1]?).map (·.type) = some 147 := by kernel_rfl
  obtain rfl : t = 147 := Option.some.inj (ht.symm.trans ht2)
  unfold Lib.TabIs
  rw [hvar, ← Lib.cells_of_tab (zs := Lib.pow10Tab) Tryd.underlying147 Tryd.underlying129 (by kernel_rfl) (by kernel_rfl) hd]
theorem iface_of_trod {P : Program} {ms : Array (String × TypeId)} {t : TypeId} (hu : P.underlying t = some (.interface ms)) {w : World} {fuel : Nat} {cs : List Value} {nm : String} {d : DataW Unit} {p : List MemPlace} (h : DataW.trod (fun _ => ()) P w 0 (fun _ => true) false fuel t cs = some (.iface nm d, p)) : ∃ u v, cs = [.iface u v] := by
  cases fuel with
  | zero => cases h
  | succ n =>
    unfold DataW.trod at h
    rw [hu] at h
    rcases cs with _ | ⟨v, _ | ⟨v2, r⟩⟩
    · simp at h
    · cases v <;> first | exact ⟨_, _, rfl⟩ | (simp at h; done)
    · cases v <;> (simp at h; done)
theorem errVar {W : World} (h : laidMet Tryd.prog Rows.fnExactReadTaskRow.laid W) (name : String) (g0 : Nat) (D : DataW Unit) (hD : ∃ nm d, D = .iface nm d) (hg0 : Tryd.prog.globalNamed name = some g0) (ht0 : (Tryd.prog.globals[g0]?).map (·.type) = some 106) (hm : (name, D) ∈ Rows.fnExactReadTaskRow.laid) : ∃ tp p, W.var? Tryd.prog name = some #[.iface tp p] := by
  obtain ⟨nm, d, rfl⟩ := hD
  obtain ⟨ps, hv, _⟩ := h
  obtain ⟨g, t, cs, fuel, p, q, hg, ht, hvar, hd⟩ := GivenO.laid_var hv name _ hm
  obtain rfl : g = g0 := Option.some.inj (hg.symm.trans hg0)
  obtain rfl : t = 106 := Option.some.inj (ht.symm.trans ht0)
  obtain ⟨u, v, e⟩ := iface_of_trod Tryd.underlying106 hd
  refine ⟨u, v, ?_⟩
  rw [hvar, ← e]
theorem maxCell {W : World} (h : W.ShapedOpen Tryd.prog) : ∃ m, W.cell? ⟨0, 0, none⟩ = some (.int .i64 m) := cell_of_shapedOpen_int h (zero := #[.int .i64 0]) (t := 3) (of_decide_eq_true (by kernel_rfl)) (by kernel_rfl) rfl (by kernel_rfl) (by kernel_rfl) Tryd.underlying3
theorem var_lt {W : World} {n : String} {g : Nat} {cs : Array Value} (hg : Tryd.prog.globalNamed n = some g) (h : W.var? Tryd.prog n = some cs) : g < W.heap.size := by
  unfold World.var? at h
  rw [hg] at h
  simp only [Option.bind_some] at h
  rcases Nat.lt_or_ge g W.heap.size with h' | h'
  · exact h'
  · rw [Array.getElem?_eq_none h'] at h; cases h
theorem glob {W : World} (h0 : laidMetH Tryd.prog Rows.fnExactReadTaskRow.laid W) (hS : W.ShapedOpen Tryd.prog) : Glob W := fun w' hb => by
  have h : laidMet Tryd.prog Rows.fnExactReadTaskRow.laid W := plainL W ▸ h0
  obtain ⟨t1, p1, e1⟩ := errVar h "strconv.ErrSyntax" 2 Rows.laid_strconv_ErrSyntax ⟨_, _, rfl⟩ gSyn (by kernel_rfl) (by simp [Rows.fnExactReadTaskRow])
  obtain ⟨t2, p2, e2⟩ := errVar h "strconv.ErrRange" 3 Rows.laid_strconv_ErrRange ⟨_, _, rfl⟩ gRng (by kernel_rfl) (by simp [Rows.fnExactReadTaskRow])
  obtain ⟨m, hm⟩ := maxCell hS
  exact ⟨GivenO.tab_later gTab (table h) hb, ⟨t1, p1, var?_below hb gSyn (var_lt gSyn e1) e1⟩, ⟨t2, p2, var?_below hb gRng (var_lt gRng e2) e2⟩, m, (hb.cell (World.block_lt_of_cell? W _ hm)).trans hm⟩
set_option maxHeartbeats 4000000 in
set_option maxRecDepth 100000 in
theorem contract (H : Type) (enc : TypeId × Value → H) (W : World) (base : Nat) (args : Array Value) (ds gs : List (DataW H)) (before : List MemPlace)
    (hval : ∀ (j : Nat) t v, Tryd.f4.params[j]? = some t → args[j]? = some v → Value.okWide Tryd.prog W .any base t v)
    (hW : DataW.Whole enc Tryd.prog Tryd.f4.params.toList Rows.fnExactReadTaskSpec.vars false W args.toList ds gs before) (hL : laidMetH Tryd.prog Rows.fnExactReadTaskRow.laid W) (hS : W.ShapedOpen Tryd.prog) :
    Calls Tryd.prog 4 args W fun e W' => ∃ v, e = .returned v ∧ Rows.fnExactReadTaskSpec.post enc Tryd.prog Tryd.f4 false true false false W args v W' := by
  have hW' := hW
  obtain ⟨p, q, hA0, hV, rfl, hfz, hnd⟩ := hW
  have hA : DataW.TrodAll enc Tryd.prog W 0 (fun _ => true) true Tryd.f4.params.toList args.toList ds p := hA0
  rw [Tryd.params4] at hA hval
  obtain ⟨v0, vs0, d0, ds0, p0, q0, hargs, rfl, rfl, h0, r0⟩ := trodAll_cons hA
  obtain ⟨rfl, rfl, rfl⟩ := trodAll_nil r0
  obtain rfl : args = #[v0] := by cases args; simp_all
  obtain ⟨rfl, rfl⟩ := trodVars_none hV
  have k0 := h0
  have lt0 : ∀ x ∈ p0, x.block < W.heap.size := by obtain ⟨m, hm⟩ := k0; exact DataW.trod_lt m _ _ _ hm
  obtain ⟨fuel0, hf0⟩ := h0
  obtain ⟨x0, hK0, hQ0⟩ := (GivenO.Opens.string (P := Tryd.prog) Tryd.underlying9) enc W 0 (fun _ => true) true fuel0 _ _ hf0
  obtain ⟨s0, rfl⟩ : ∃ s_, v0 = .string s_ := by obtain ⟨z, hz, _⟩ := open_string Tryd.underlying9 (hval 0 9 v0 rfl rfl) k0; exact ⟨z, hz⟩
  obtain rfl : s0 = x0 := by have hz_ : [Value.string s0] = [Value.string x0] := hK0; simpa using hz_
  clear hA0
  obtain ⟨k, hp⟩ := Pu.FnExactReadTask _ hQ0
  refine (laws_FnExactReadTask.calls k s0 true W  (glob hL hS) hp).mono fun e W' ⟨he, bel⟩ => ?_
  subst he
  exact ⟨_, rfl, _, _, _, [], _, [], hW', trodAll_mk1 (shut_bool Tryd.underlying4 _), (trodAll_cons_mk (Below.trod laidOut (by kernel_rfl) (of_decide_eq_true (by kernel_rfl)) k0 bel lt0) trodAll_mk0), rfl, bel.frame _, fun h => by cases h⟩
theorem laid_met (os : Os) : laidMet Tryd.prog Rows.fnExactReadTaskRow.laid ((World.laidAll Tryd.prog os Rows.fnExactReadTaskRow.laid).forCall (fun _ _ => 0) ⟨#[], #[.string ByteArray.empty], []⟩).memory :=
  laidMet_laidAll _ (by kernel_rfl) (by kernel_rfl)
theorem reads (os : Os) {H : Type} (enc : TypeId × Value → H) : ∃ places, DataW.whole enc Tryd.prog ((World.laidAll Tryd.prog os Rows.fnExactReadTaskRow.laid).forCall (fun _ _ => 0) ⟨#[], #[.string ByteArray.empty], []⟩).memory Tryd.f4.params.toList Rows.fnExactReadTaskSpec.vars false #[.string ByteArray.empty].toList 8 = some ([.lit (.string [])], [], places) :=
  ⟨[], by kernel_rfl⟩
set_option maxRecDepth 100000 in
theorem lifted (os : Os) (started : os.Started) (H : Type) (enc : TypeId × Value → H) (F : Stop.Interp) :
    ReturnsInHanded {} Tryd.checked os 4 .any ((OpenSpec.ofChange Rows.fnExactReadTaskSpec).preRow enc Tryd.prog Tryd.f4 Rows.fnExactReadTaskRow.domain false Rows.fnExactReadTaskRow.laid) (((OpenSpec.ofChange Rows.fnExactReadTaskSpec).at F).post enc Tryd.prog Tryd.f4 false true false false) := by
  obtain ⟨places, hx⟩ := reads os enc
  refine returnsInHanded_of_row (C := Tryd.checked) (s := OpenSpec.ofChange Rows.fnExactReadTaskSpec) own started (by kernel_rfl) Tryd.func4
    ⟨World.laidAll Tryd.prog os Rows.fnExactReadTaskRow.laid, fun _ _ => 0, ⟨#[], #[.string ByteArray.empty], []⟩, World.laidAll_os _ _ _, World.shaped_of_ZipB (by kernel_rfl) (by kernel_rfl), rfl, (Input.okWide_of_okWideB (by kernel_rfl)).2,
      OpenSpec.preRow_of_cond 8 hx (by kernel_rfl) (fun k hk => by cases hk) (by kernel_rfl) (Eq.mpr (plainL _) (laid_met os)), by
      simp only [Assume.holds]
      exact ⟨by simp, by simp, fun _ => Modest.zero, by simp, by simp⟩⟩ ?_
  intro W base args ds gs before hval hW _ _ _ hL hS _
  exact contract H enc W base args ds gs before hval hW hL hS
theorem said : Rows.FnExactReadTaskSaid :=
  OpenClaim.holds_of_cond 4 Tryd.f4 rfl rfl rfl rfl rfl rfl rfl ⟨rfl, rfl, rfl, rfl, rfl⟩ rfl rfl rfl rfl rfl (by kernel_rfl) Tryd.func4 (by kernel_rfl)
    (of_decide_eq_true (by kernel_rfl)) (by unfold Func.isWrapper; first | (rw [if_pos (by decide +kernel)]; kernel_rfl) | (rw [if_neg (by decide +kernel)]; exact ⟨rfl, rfl⟩))
    (fun os started H enc _ F => by rw [OpenClaim.pre_eq_preRow]; exact lifted os started H enc F)
theorem plain (f : FuncId) (fn : Func) (hf : Tryd.pinned.checked.prog.funcNamed "loop.example/g00684/laws.FnExactReadTask" = some f) (hfn : Tryd.pinned.checked.prog.funcs[f]? = some fn) :
    true = Tryd.pinned.checked.prog.looks [] ∧ ∀ (j : Nat) t, fn.params[j]? = some t → Tryd.pinned.checked.prog.wantsStandIn t = false := by
  obtain rfl : f = 4 := Option.some.inj ((show Tryd.prog.funcNamed "loop.example/g00684/laws.FnExactReadTask" = some 4 by kernel_rfl).symm.trans hf) |>.symm
  obtain rfl : fn = Tryd.f4 := (Option.some.inj (Tryd.func4.symm.trans hfn)).symm
  refine ⟨by kernel_rfl, fun j t ht => ?_⟩
  rw [Tryd.params4] at ht
  have hm : t ∈ #[9] := Array.mem_of_getElem? ht
  have ht' : t = 9 := by simpa using hm
  subst ht'
  exact (show Tryd.prog.wantsStandIn 9 = false by kernel_rfl)
theorem proved : Rows.FnExactReadTaskCardSaid :=
  Claim7.holds_tied_plain_at .later [] _ _ _ _ said (fun _ h => by cases h) (by kernel_rfl) (fun _ h => by cases h) fnExactReadTask_row_tie rfl ⟨rfl, rfl⟩ (by kernel_rfl) rfl plain (by kernel_rfl)
#print axioms proved
end Go.Proofs.YtppfcmkadcoboaaDoor.fnExactReadTask
namespace Go.Proofs.YtppfcmkadcoboaaDoor
theorem fnExactReadTask_holds : Rows.FnExactReadTaskCardSaid := fnExactReadTask.proved
end Go.Proofs.YtppfcmkadcoboaaDoor
