/- The row of LiftFlow, from the runs. -/
import Derived.Test.YtjeobamlafahaaaGreatDoorMem
import Derived.ProofKit
import Derived.HandedShaped
import Derived.Test.YtjeobamlafahaaaGreatDoorRows
import Derived.LaidLaws
import Derived.Lay
import Derived.MakeChecks
import Derived.WalkKit
import Derived.WalkSpells
import Derived.Shelf.Strings.Shaped

section
namespace Go.ChangeShapes
open Go.WideShapes
section
variable {H : Type} {enc : TypeId × Value → H} {P : Program}
/-- a call that leaves all that was there as it was, where nothing was handed in by address -/
theorem post_of_kept {f : Func} {s : ChangeSpec} {apart fresh handsOn again : Bool} {W W' : World} {args : Array Value} {v : Value} {ds gs : List (DataW H)}
    (hW : DataW.Whole enc P f.params.toList s.vars apart W args.toList ds gs [])
    (hres : ∀ (b : Nat) (sp : Nat → Bool) (hd : Bool), DataW.TrodAll enc P W' b sp hd f.resultTypes.toList (v.resultList f.resultTypes.size) (s.fn H (ds ++ gs)).results [])
    (hargs : ∀ sp : Nat → Bool, DataW.TrodAll enc P W' 0 sp true f.params.toList args.toList (s.fn H (ds ++ gs)).args [])
    (hvars : ∀ sp : Nat → Bool, DataW.TrodVars enc P W' sp s.vars (s.fn H (ds ++ gs)).vars [])
    (hk : W.keptBut W' (fun _ => False))
    (hok : ∀ (j : Nat) (t : TypeId) (r : Value), f.resultTypes[j]? = some t → (v.resultList f.resultTypes.size)[j]? = some r → Value.okWide P W' .any 0 t r) :
    s.post enc P f apart fresh handsOn again W args v W' := by
  refine ⟨ds, gs, [], [], [], [], hW, hres _ _ _, hargs _, hvars _, World.keptBut_mono (fun p hp => hp.elim) hk, fun _ => ?_⟩
  obtain ⟨_, _, _, _, _, hz, hn⟩ := hW
  refine ⟨hok, _, _, ([] ++ []) ++ [], ⟨[] ++ [], [], trodAll_append (hargs _) (hres _ _ _), hvars _, rfl, ?_, ?_⟩, ?_⟩
  · intro b off hp; simp at hp
  · intro ha
    simp
  · intro p hp _
    simp at hp
end
end Go.ChangeShapes
namespace Go.Ev
theorem Kept.but {w w' : World} (k : Kept w w') : w.keptBut w' (fun _ => False) := by
  obtain ⟨h1, h2, h3, h4⟩ := k
  refine ⟨h3, h4, fun i hi => ?_⟩
  rw [h2 i hi]
  cases h : w.heap[i]? with
  | none => rfl
  | some o => cases o <;> simp
end Go.Ev
namespace Go
variable {H : Type} {enc : TypeId × Value → H}
theorem returnsInHanded_shaped_and {a : Assume} {C : Checked} {os : Os} {f : FuncId} {fn : Func} {s : ChangeSpec} {conds : List PathCond} {apart fresh handsOn again : Bool} {X : World → Array Value → Prop}
    (own : ownKnob C.prog.godebug = none) (started : os.Started) (noInit : C.prog.inits.idxOf? f = none) (hfn : C.prog.funcs[f]? = some fn)
    (witness : ∃ (w : World) (tape : Tape) (i : Input), w.os = os ∧ (w.forCall tape i).Shaped C.prog ∧ i.vars = [] ∧ Input.okWide C.prog (w.forCall tape i) .any w.heap.size f i ∧
      ((s.pre enc C.prog fn conds apart (w.forCall tape i).memory i.args ∧ X (w.forCall tape i).memory i.args) ∧ sizedMet enc C.prog fn (OpenSpec.ofChange s) apart (w.forCall tape i).memory i.args) ∧ a.holds C.prog (lone (Frame.enter C.prog f i.args .normal) [] (w.forCall tape i)))
    (contract : ∀ (W : World) (base : Nat) (args : Array Value) (ds gs : List (DataW H)) (before : List MemPlace),
      (∀ (j : Nat) t v, fn.params[j]? = some t → args[j]? = some v → Value.okWide C.prog W .any base t v) →
      DataW.Whole enc C.prog fn.params.toList s.vars apart W args.toList ds gs before →
      conds.all (PathCond.test C.prog ⟨fn.params.toList, ds, s.plain.varTypes C.prog, gs⟩) = true →
      (DataW.weightsEach C.prog (fn.params.toList ++ s.plain.varTypes C.prog) (ds ++ gs)).all (· ≤ reachBytes) = true →
      W.ShapedOpen C.prog →
      a.holds C.prog (lone (Frame.enter C.prog f args .normal) [] W) →
      Calls C.prog f args W fun e W' => ∃ v, e = .returned v ∧ s.post enc C.prog fn apart fresh handsOn again W args v W') :
    ReturnsInHanded a C os f .any (fun w args => (s.pre enc C.prog fn conds apart w args ∧ X w args) ∧ sizedMet enc C.prog fn (OpenSpec.ofChange s) apart w args) (s.post enc C.prog fn apart fresh handsOn again) := by
  refine returnsInHanded_of_calls own started noInit witness ?_
  intro w tape i _ hsh _ hok hpre hholds
  obtain ⟨_, _, _, fn', hfn', _, _, _, _, hval⟩ := hok
  have e : fn' = fn := Option.some.inj (hfn'.symm.trans hfn)
  subst e
  obtain ⟨⟨⟨ds, gs, before, hw, hc⟩, _⟩, hz⟩ := hpre
  have hw' := DataW.Whole.of_heap (w' := w.forCall tape i) (by rfl) hw
  refine (contract (w.forCall tape i) w.heap.size i.args ds gs before hval hw' hc (hz.weights hw) hsh hholds).mono fun e W' ⟨v, he, hp⟩ => ?_
  subst he
  exact ChangeSpec.post_blind hp
end Go
namespace Go.Proofs
open Go.Ev Go.RowKit
theorem glo_alloc {w : World} (g : Glo w) (o : Obj) : Glo (w.alloc o) := g.push o
theorem kept_alloc (w : World) (o : Obj) : Kept w (w.alloc o) :=
  ⟨by show w.heap.size ≤ (w.heap.push o).size; simp, fun c hc => by show (w.heap.push o)[c]? = _; rw [Array.getElem?_push_lt hc, Array.getElem?_eq_getElem hc], rfl, rfl⟩
theorem awake_calls2 (w : World) (g : Glo w) (o o' : Obj) : Calls Tryz.prog 4 #[] ((w.alloc o).alloc o') fun e w' => e = .returned (.bool true) ∧ Kept w w' :=
  (awake_calls _ (glo_alloc (glo_alloc g o) o')).mono fun _ _ ⟨h, k⟩ => ⟨h, (kept_alloc w o).trans ((kept_alloc _ o').trans k)⟩
set_option maxHeartbeats 1000000 in
theorem pr_out (n : Int) (w : World) (g : Glo w) (h : n < 0 ∨ n > 7) : Calls Tryz.prog 3 #[.int .i64 n] w fun e w' => e = .returned (.bool true) ∧ Kept w w' := by
  go_enter Tryz.func3, Tryz.ntmps3
  go_wp2_with (go_at_call 4; refine (awake_calls2 w g _ _).mono ?_; rintro e w' ⟨rfl, hk⟩)
  all_goals (go_ret; exact ⟨rfl, hk⟩)
end Go.Proofs
namespace Go.Proofs.YtjeobamlafahaaaGreatDoor
open Go.ChangeShapes Go.WideShapes Go.ChangeAt Go.RowKit Go.Ev
theorem Tryz.own : ownKnob Tryz.prog.godebug = none := by kernel_rfl
/-- what the runs show -/
def AllRuns : Prop := ∀ n : Nat, n ≤ 7 → runB ext3 3 [.int .i64 (.ofNat n)] = true
theorem pr_any (A : AllRuns) (n : Int) (w : World) (g : Glo w) : Calls Tryz.prog 3 #[.int .i64 n] w fun e w' => e = .returned (.bool true) ∧ Kept w w' := by
  by_cases h : n < 0 ∨ n > 7
  · exact pr_out n w g h
  · obtain ⟨m, rfl⟩ : ∃ m : Nat, n = (m : Int) := ⟨n.toNat, by omega⟩
    have hm : m ≤ 7 := by omega
    exact runB_calls T3 (f := 3) (args := [.int .i64 (.ofNat m)]) rfl (A m hm) w g [.int .i64 (m : Int)] (by simp [VRs, VR])
set_option maxRecDepth 1000000 in
theorem pr_shaped (os : Os) : (World.Shaped Tryz.prog ((World.laidAll Tryz.prog os Rows.liftFlowRow.laid).forCall (fun _ _ => 0) ⟨#[], #[.int .i64 0], []⟩)) := World.shaped_of_ZipB (by kernel_rfl) (by kernel_rfl)
set_option maxRecDepth 1000000 in
theorem pr_okB (os : Os) : Input.okWideB Tryz.prog ((World.laidAll Tryz.prog os Rows.liftFlowRow.laid).forCall (fun _ _ => 0) ⟨#[], #[.int .i64 0], []⟩) 3 ⟨#[], #[.int .i64 0], []⟩ = true := by kernel_rfl
set_option maxRecDepth 1000000 in
theorem pr_preB (os : Os) (H : Type) (enc : TypeId × Value → H) : Rows.liftFlowSpec.preB enc Tryz.prog Tryz.f3 Rows.liftFlowRow.domain false ((World.laidAll Tryz.prog os Rows.liftFlowRow.laid).forCall (fun _ _ => 0) ⟨#[], #[.int .i64 0], []⟩).memory #[.int .i64 0] 8 = true := by kernel_rfl
set_option maxRecDepth 1000000 in
theorem pr_sizedB (os : Os) (H : Type) (enc : TypeId × Value → H) : Rows.liftFlowSpec.sizedB enc Tryz.prog Tryz.f3 false ((World.laidAll Tryz.prog os Rows.liftFlowRow.laid).forCall (fun _ _ => 0) ⟨#[], #[.int .i64 0], []⟩).memory #[.int .i64 0] 8 = true := by kernel_rfl
set_option maxRecDepth 1000000 in
theorem pr_laid (os : Os) : laidMetH Tryz.prog Rows.liftFlowRow.laid ((World.laidAll Tryz.prog os Rows.liftFlowRow.laid).forCall (fun _ _ => 0) ⟨#[], #[.int .i64 0], []⟩).memory := by
  rw [MakeChecks.laidMetH_plain _ _ _ (by kernel_rfl)]; exact laidMet_laidAll _ (by kernel_rfl) (by kernel_rfl)
set_option maxRecDepth 100000 in
theorem pr_lifted2 (A : AllRuns) (os : Os) (started : os.Started) (H : Type) (enc : TypeId × Value → H) :
    ReturnsInHanded {} Tryz.checked os 3 .any (fun w args => (Rows.liftFlowSpec.pre enc Tryz.prog Tryz.f3 Rows.liftFlowRow.domain false w args ∧ laidMetH Tryz.prog Rows.liftFlowRow.laid w) ∧ sizedMet enc Tryz.prog Tryz.f3 (OpenSpec.ofChange Rows.liftFlowSpec) false w args)
      (Rows.liftFlowSpec.post enc Tryz.prog Tryz.f3 false true false false) := by
  refine returnsInHanded_shaped_and (C := Tryz.checked) (X := fun w _ => laidMetH Tryz.prog Rows.liftFlowRow.laid w) Tryz.own started (by kernel_rfl) Tryz.func3
    (ChangeSpec.witness_shaped (enc := enc) (C := Tryz.checked) (os := os) (X := fun w _ => laidMetH Tryz.prog Rows.liftFlowRow.laid w) false (World.laidAll Tryz.prog os Rows.liftFlowRow.laid) #[.int .i64 0] 8 (World.laidAll_os _ _ _)
      (pr_shaped os) (pr_okB os) (pr_preB os H enc) (pr_sizedB os H enc) (pr_laid os)) ?_
  intro W base args ds gs before hval0 hW hcnd _ hsh _
  have hval : ∀ (j : Nat) t v, Tryz.f3.params[j]? = some t → args[j]? = some v → Value.okWide Tryz.prog W .any base t v := hval0
  have hW' := hW
  obtain ⟨p, q, hA0, hV, rfl, hfz, hnd⟩ := hW
  have hA : DataW.TrodAll enc Tryz.prog W 0 (fun _ => true) true Tryz.f3.params.toList args.toList ds p := hA0
  rw [Tryz.params3] at hA hval
  obtain ⟨v0, d0, rfl, rfl, h0⟩ := trodAll_one hA
  obtain ⟨rfl, rfl⟩ := trodVars_none hV
  obtain ⟨a, rfl, rfl, rfl, wa⟩ := open_int Tryz.underlying3 (hval 0 3 v0 rfl rfl) h0
  clear hA0 hval0
  simp only [List.append_nil] at hW'
  refine (pr_any A a W (glo_of_shaped hsh)).mono fun e W' ⟨he, hk⟩ => ?_
  subst he
  exact ⟨_, rfl, post_of_kept hW' (fun _ _ _ => trodAll_mk1 (shut_bool Tryz.underlying4 true)) (fun sp => trodAll_mk1 (shut_int Tryz.underlying3 wa)) (fun _ => rfl)
    hk.but (ok_one (by kernel_rfl) rfl (okWide_bool_mk Tryz.underlying4 true))⟩
end Go.Proofs.YtjeobamlafahaaaGreatDoor
end
