/- The tables of the evaluator over this program; a run in the kernel gives the calls. -/
import Derived.Test.YtjmemjhjhjifnaaGreatDoorEvE
import Derived.KernelRfl
import Derived.Shelf.Strings.Search2
import Derived.Test.YtjmemjhjhjifnaaGreatDoorProg
import Derived.WalkKit
import Derived.WalkSpells
import Derived.Shelf.Strings.Shaped
import Derived.Test.YtjmemjhjhjifnaaGreatDoorChecked

section
/- The evaluator over the seat's program: tables. -/
namespace Go.Proofs
open Go.Shelf
def Tryz.lays219_ren : Ren :=
  { f := fun x => match x with | 219 => 141 | 217 => 143 | 225 => 225 | 224 => 226 | 267 => 227 | 266 => 228 | 314 => 299 | n => n,
    t := fun x => match x with | 9 => 9 | 3 => 3 | 4 => 4 | 5 => 5 | 46 => 111 | 146 => 434 | 51 => 201 | n => n,
    g := fun x => match x with | 1 => 0 | n => n }
theorem Tryz.lays219 : Lays.n219 Tryz.prog Tryz.lays219_ren :=
  { mixed := by kernel_rfl,
    f217 := Tryz.func143.trans (congrArg some (by kernel_rfl)), f219 := Tryz.func141.trans (congrArg some (by kernel_rfl)),
    f224 := Tryz.func226.trans (congrArg some (by kernel_rfl)), f225 := Tryz.func225.trans (congrArg some (by kernel_rfl)),
    f266 := Tryz.func228.trans (congrArg some (by kernel_rfl)), f267 := Tryz.func227.trans (congrArg some (by kernel_rfl)),
    f314 := Tryz.func299.trans (congrArg some (by kernel_rfl)),
    t3 := Tryz.underlying3, a3 := Tryz.isAgg3, z3 := Tryz.sizeOf3, v3 := Tryz.zeroValue3,
    t4 := Tryz.underlying4, a4 := Tryz.isAgg4, z4 := Tryz.sizeOf4, v4 := Tryz.zeroValue4,
    t5 := Tryz.underlying5, a5 := Tryz.isAgg5, z5 := Tryz.sizeOf5, v5 := Tryz.zeroValue5,
    t9 := Tryz.underlying9, a9 := Tryz.isAgg9, z9 := Tryz.sizeOf9, v9 := Tryz.zeroValue9,
    t46 := Tryz.underlying111, a46 := Tryz.isAgg111, z46 := Tryz.sizeOf111, v46 := Tryz.zeroValue111,
    t51 := Tryz.underlying201, a51 := Tryz.isAgg201, z51 := Tryz.sizeOf201, v51 := Tryz.zeroValue201,
    t146 := Tryz.underlying434, a146 := Tryz.isAgg434, z146 := Tryz.sizeOf434, v146 := Tryz.zeroValue434, g1 := by kernel_rfl }
end Go.Proofs
namespace Go.Ev
open Go.Proofs
def putO {α : Type} : List (Option α) → Nat → T α → T α
  | [], _, t => t
  | a :: r, n, t => putO r (Nat.succ n) (match a with | some x => t.put n (some x) | none => t)
theorem putO_get {α : Type} : ∀ (l : List (Option α)) (n : Nat) (t : T α) (k : Nat) (y : α), (putO l n t).get k = some y → (∃ j, k = n + j ∧ l[j]? = some (some y)) ∨ t.get k = some y := by
  intro l
  induction l with
  | nil => intro n t k y h; exact .inr h
  | cons a r ih =>
    intro n t k y h
    rcases ih _ _ _ _ h with ⟨j, e, hj⟩ | h1
    · exact .inl ⟨j + 1, by omega, by simpa using hj⟩
    · cases a with
      | none => exact .inr h1
      | some x =>
        rcases T.get_put t n (some x) k y h1 with ⟨e, e2⟩ | ⟨_, e2⟩
        · exact .inl ⟨0, by omega, by simp [Option.some.inj e2]⟩
        · exact .inr e2
noncomputable def TP := Tryz.prog
def ext0 : Nat → Option XF := fun n =>
  bif Nat.beq n 228 then some extIndexByte else bif Nat.beq n 141 then some extIndex else bif Nat.beq n 294 then some extNoEscape else bif Nat.beq n 295 then some (extMakeNoZero 5) else none
def sorts0 : Nat → Bool := fun n => bif Nat.beq n 193 then true else Nat.beq n 195
noncomputable def TE : Env := { P := TP, ty := tiOf TP, ext := ext0, sorts := sorts0 }
noncomputable def FT : T FW := (putO (TP.funcs.toList.map fun fn => some (cFunc TE fn)) 0 (T.full 0)).put 258 none
noncomputable def TF (f : Nat) : Option FW := FT.get f
def h00 : H := ⟨1, 1, T.full 0⟩
noncomputable def runB (f : Nat) (args : List AV) : Bool := match callN TE TF (cCode TE true) (fun _ r => r) 3000 (.func f) args .no h00 with
  | some (.ret (.bool true) _, _) => true
  | _ => false
def fnsOkL (E : Env) : List Func → Nat → Bool
  | [], _ => true
  | fn :: r, n => (bif Nat.beq n 258 then true else okFn E fn && (fn.name != "runtime.NumGoroutine")) && fnsOkL E r (Nat.succ n)
theorem fnsOkL_get {E : Env} : ∀ (l : List Func) (n j : Nat) (fn : Func), fnsOkL E l n = true → l[j]? = some fn → n + j ≠ 258 → okFn E fn = true ∧ fn.name ≠ "runtime.NumGoroutine" := by
  intro l
  induction l with
  | nil => intro n j fn _ h; simp at h
  | cons a r ih =>
    intro n j fn h hj hne
    simp only [fnsOkL, Bool.and_eq_true] at h
    cases j with
    | zero =>
      simp at hj; subst hj
      have h1 := h.1
      have hb : Nat.beq n 258 = false := by
        cases hb : Nat.beq n 258 with
        | false => rfl
        | true => exact absurd (Nat.eq_of_beq_eq_true hb) (by omega)
      rw [hb] at h1
      simp only [cond_false, Bool.and_eq_true] at h1
      exact ⟨h1.1, by simpa using h1.2⟩
    | succ j => exact ih (Nat.succ n) j fn h.2 (by simpa using hj) (by omega)
set_option maxRecDepth 1000000
theorem fnsOk0 : fnsOkL TE ((TP.funcs.toList.drop 0).take 70) 0 = true := by kernel_rfl
theorem fnsOk1 : fnsOkL TE ((TP.funcs.toList.drop 70).take 70) 70 = true := by kernel_rfl
theorem fnsOk2 : fnsOkL TE ((TP.funcs.toList.drop 140).take 70) 140 = true := by kernel_rfl
theorem fnsOk3 : fnsOkL TE ((TP.funcs.toList.drop 210).take 70) 210 = true := by kernel_rfl
theorem fnsOk4 : fnsOkL TE ((TP.funcs.toList.drop 280).take 70) 280 = true := by kernel_rfl
theorem fnsOk5 : fnsOkL TE ((TP.funcs.toList.drop 350).take 70) 350 = true := by kernel_rfl
theorem fnsOk6 : fnsOkL TE ((TP.funcs.toList.drop 420).take 70) 420 = true := by kernel_rfl
theorem fnsOk7 : fnsOkL TE ((TP.funcs.toList.drop 490).take 70) 490 = true := by kernel_rfl
theorem fnsOk8 : fnsOkL TE ((TP.funcs.toList.drop 560).take 70) 560 = true := by kernel_rfl
theorem fnsOk9 : fnsOkL TE (TP.funcs.toList.drop 630) 630 = true := by kernel_rfl
theorem fnsOk_take (a n : Nat) (h : fnsOkL TE ((TP.funcs.toList.drop a).take n) a = true) (f : Nat) (fn : Func) (hf : TP.funcs.toList[f]? = some fn) (hne : f ≠ 258) (h1 : a ≤ f) (h2 : f < a + n) : okFn TE fn = true ∧ fn.name ≠ "runtime.NumGoroutine" :=
  fnsOkL_get _ a (f - a) fn h (by rw [List.getElem?_take, if_pos (by omega), List.getElem?_drop, show a + (f - a) = f by omega]; exact hf) (by omega)
theorem fnsOk_drop (a : Nat) (h : fnsOkL TE (TP.funcs.toList.drop a) a = true) (f : Nat) (fn : Func) (hf : TP.funcs.toList[f]? = some fn) (hne : f ≠ 258) (h1 : a ≤ f) : okFn TE fn = true ∧ fn.name ≠ "runtime.NumGoroutine" :=
  fnsOkL_get _ a (f - a) fn h (by rw [List.getElem?_drop, show a + (f - a) = f by omega]; exact hf) (by omega)
theorem fnsOk (f : Nat) (fn : Func) (hf : TP.funcs.toList[f]? = some fn) (hne : f ≠ 258) : okFn TE fn = true ∧ fn.name ≠ "runtime.NumGoroutine" := by
  by_cases h0 : f < 70
  · exact fnsOk_take 0 70 fnsOk0 f fn hf hne (by omega) (by omega)
  by_cases h1 : f < 140
  · exact fnsOk_take 70 70 fnsOk1 f fn hf hne (by omega) (by omega)
  by_cases h2 : f < 210
  · exact fnsOk_take 140 70 fnsOk2 f fn hf hne (by omega) (by omega)
  by_cases h3 : f < 280
  · exact fnsOk_take 210 70 fnsOk3 f fn hf hne (by omega) (by omega)
  by_cases h4 : f < 350
  · exact fnsOk_take 280 70 fnsOk4 f fn hf hne (by omega) (by omega)
  by_cases h5 : f < 420
  · exact fnsOk_take 350 70 fnsOk5 f fn hf hne (by omega) (by omega)
  by_cases h6 : f < 490
  · exact fnsOk_take 420 70 fnsOk6 f fn hf hne (by omega) (by omega)
  by_cases h7 : f < 560
  · exact fnsOk_take 490 70 fnsOk7 f fn hf hne (by omega) (by omega)
  by_cases h8 : f < 630
  · exact fnsOk_take 560 70 fnsOk8 f fn hf hne (by omega) (by omega)
  exact fnsOk_drop 630 fnsOk9 f fn hf hne (by omega)
theorem f228b : Tryz.f228.body = none := by kernel_rfl
theorem f228n : Tryz.f228.name = "internal/bytealg.IndexByteString" := by kernel_rfl
theorem f228a : Extern.findNext Tryz.f228 = none := by kernel_rfl
theorem f228e : Extern.find Tryz.f228 = some Extern.BytealgIndexByte.indexByte := by kernel_rfl
theorem f294b : Tryz.f294.body = none := by kernel_rfl
theorem f294n : Tryz.f294.name = "internal/abi.NoEscape" := by kernel_rfl
theorem f294a : Extern.findNext Tryz.f294 = none := by kernel_rfl
theorem f294e : Extern.find Tryz.f294 = some Extern.AbiNoEscape.same := by kernel_rfl
theorem f295b : Tryz.f295.body = none := by kernel_rfl
theorem f295n : Tryz.f295.name = "internal/bytealg.MakeNoZero" := by kernel_rfl
theorem f295a : Extern.findNext Tryz.f295 = none := by kernel_rfl
theorem f295e : Extern.find Tryz.f295 = some (Extern.BytealgMakeNoZero.makeNoZero Tryz.f295.params Tryz.f295.resultTypes) := by kernel_rfl
theorem f295t : (Tryz.f295.resultTypes[0]?).bind TP.underlying = some (.slice 5) := by kernel_rfl
end Go.Ev
end

section
/- The evaluator over the seat's program: what its tables are; what a run says. -/
namespace Go.Ev
open Go.Proofs
theorem envS_of (P : Program) (ext : Nat → Option XF) (sorts : Nat → Bool) : EnvS { P, ty := tiOf P, ext, sorts } := fun _ _ h => h
theorem TE_env : EnvS TE := envS_of TP ext0 sorts0
theorem TF_ok : ∀ f w, TF f = some w → ∃ fn, TE.P.funcs[f]? = some fn ∧ w = cFunc TE fn ∧ fn.name ≠ "runtime.NumGoroutine" ∧ okFn TE fn = true := by
  intro f w h
  rcases T.get_put _ 258 none f w h with ⟨_, h2⟩ | ⟨hne, h2⟩
  · cases h2
  · rcases putO_get _ 0 _ f w h2 with ⟨j, e, hj⟩ | h3
    · simp only [List.getElem?_map, Option.map_eq_some_iff] at hj
      obtain ⟨fn, h4, h5⟩ := hj
      have hfj : f = j := by omega
      subst hfj
      obtain ⟨k1, k2⟩ := fnsOk f fn h4 (by omega)
      exact ⟨fn, by rw [← Array.getElem?_toList]; exact h4, by simpa using h5.symm, k2, k1⟩
    · rw [T.full_get] at h3; cases h3
theorem f141b : Tryz.f141.body.isSome = true := by kernel_rfl
theorem f141n : Tryz.f141.name = "internal/stringslite.Index" := by kernel_rfl
theorem enter141 : ∀ (args : Array Value) (w : World), (callFunc 141 args).run TP w = .ok (.enter 141 args) w := by
  obtain ⟨c, hc⟩ := Option.isSome_iff_exists.1 f141b
  exact fun args w => Callable.run (P := TP) ⟨Tryz.f141, c, Tryz.func141, hc, by rw [f141n]; exact (by decide +kernel)⟩ args w
theorem ext141 : ExtOne TP 141 extIndex := extIndex_ok (P := Tryz.prog) enter141 fun s sub m w hs hm => Any.stringslite_Index Tryz.lays219 s sub m w hs hm
theorem ext228 : ExtOne TP 228 extIndexByte := extIndexByte_ok (P := Tryz.prog) Tryz.func228 f228b (by rw [f228n]; exact (by decide +kernel)) f228a f228e
theorem ext294 : ExtOne TP 294 extNoEscape := extNoEscape_ok (P := Tryz.prog) Tryz.func294 f294b (by rw [f294n]; exact (by decide +kernel)) f294a f294e
theorem ext295 : ExtOne TP 295 (extMakeNoZero 5) := by
  obtain ⟨t, h1, h2⟩ : ∃ t, Tryz.f295.resultTypes[0]? = some t ∧ TP.underlying t = some (.slice 5) := by
    have := f295t
    cases ht : Tryz.f295.resultTypes[0]? with
    | none => rw [ht] at this; cases this
    | some t => rw [ht, Option.bind_some] at this; exact ⟨t, rfl, this⟩
  exact extMakeNoZero_ok (P := Tryz.prog) Tryz.func295 f295b (by rw [f295n]; exact (by decide +kernel)) f295a f295e h1 h2
theorem TE_ext : ExtOK TE := by
  intro f x hx
  have hx : ext0 f = some x := hx
  unfold ext0 at hx
  have one : ∀ {g : Nat} {y : XF} {rest : Option XF}, (bif Nat.beq f g then some y else rest) = some x → (f = g ∧ x = y) ∨ rest = some x := by
    intro g y rest h
    cases hb : Nat.beq f g with
    | true => rw [hb] at h; cases h; exact .inl ⟨Nat.eq_of_beq_eq_true hb, rfl⟩
    | false => rw [hb] at h; exact .inr h
  have conv : ∀ {g : Nat} {y : XF}, ExtOne TE.P g y → f = g ∧ x = y → ∀ args h v h', x args h = some (v, h') → ∀ (V : Val) (w : World) (args' : List Value) (fr : Frame) (cs : List Frame), HR V h w → VRs V args args' →
      ∃ V' w' v' m, nextM TE.P fr cs ((callFunc f ⟨args'⟩).run TE.P w) = some m ∧ Steps TE.P m (lone (fr.finish v') cs w') ∧ HR V' h' w' ∧ Ext V h w V' h' w' ∧ VR V' v v' := by
    intro g y ho ⟨e1, e2⟩
    subst e1; subst e2
    exact ho
  rcases one hx with h | hx
  · exact conv ext228 h
  rcases one hx with h | hx
  · exact conv ext141 h
  rcases one hx with h | hx
  · exact conv ext294 h
  rcases one hx with h | hx
  · exact conv ext295 h
  · cases hx
theorem TE_table : Table TE TF (cCode TE true) (fun _ r => r) := ⟨TE_env, draw_ok TE_env, TE_ext, TF_ok, fun _ _ => rfl, fun _ k => ⟨k, rfl⟩⟩

/-- a world's objects, untouched -/
def Kept (w w' : World) : Prop := w.heap.size ≤ w'.heap.size ∧ (∀ c, c < w.heap.size → w'.heap[c]? = w.heap[c]?) ∧ w'.os = w.os ∧ w'.output = w.output
def V00 : Val := ⟨fun _ => none, fun _ => none, fun _ => 0⟩
theorem h00_rel {w : World} (g : Glo w) : HR V00 h00 w := by
  have hn : ∀ b, h00.get b = none := fun b => T.full_get 0 b
  exact ⟨fun b x e => (by rw [hn] at e; cases e), fun b b' x x' c sh sh' e => (by rw [hn] at e; cases e), fun _ _ => rfl, fun _ _ _ e => (by cases e), fun _ _ => rfl, fun _ _ _ _ _ _ e => (by cases e), g, fun _ _ e => (by cases e)⟩
/-- what a run says of a call -/
theorem runB_calls {f : Nat} {args : List AV} (hx : ext0 f = none) (h : runB f args = true) (w : World) (g : Glo w) (args' : List Value) (hv : VRs V00 args args') :
    Calls Tryz.prog f ⟨args'⟩ w fun e w' => e = .returned (.bool true) ∧ Kept w w' := by
  unfold runB at h
  split at h
  · rename_i h' u heq
    have := run_calls (n := 2999) TE_table hx heq V00 w args' (h00_rel g) hv
    intro cs
    obtain ⟨e, w', fr, ⟨V', v', he, hr, hxt, hvr⟩, rest⟩ := this cs
    simp only [VR] at hvr
    refine ⟨e, w', fr, ⟨by rw [he, hvr], hxt.size, fun c hc => ?_, hxt.os, hxt.out⟩, rest⟩
    exact (hxt.keep c hc (fun b x sh e => by
      have : h00.get b = none := T.full_get 0 b
      rw [this] at e; cases e)).1
  · cases h
end Go.Ev
end

section
/- PlanRemarks where the count is out of its bounds. -/
namespace Go.Proofs
open Go.Shelf
def Tryz.laysM219_ren : Ren :=
  { f := fun x => match x with | 219 => 141 | 217 => 143 | 225 => 225 | 224 => 226 | 267 => 227 | 266 => 228 | 314 => 299 | n => n,
    t := fun x => match x with | 9 => 9 | 3 => 3 | 4 => 4 | 5 => 5 | 46 => 111 | 146 => 434 | 51 => 201 | n => n,
    g := fun x => match x with | 1 => 0 | n => n }
theorem Tryz.laysM219 : LaysM.n219 Tryz.prog Tryz.laysM219_ren :=
  { mixed := by kernel_rfl,
    f217 := Tryz.func143.trans (congrArg some (by kernel_rfl)), f219 := Tryz.func141.trans (congrArg some (by kernel_rfl)),
    f224 := Tryz.func226.trans (congrArg some (by kernel_rfl)), f225 := Tryz.func225.trans (congrArg some (by kernel_rfl)),
    f266 := Tryz.func228.trans (congrArg some (by kernel_rfl)), f267 := Tryz.func227.trans (congrArg some (by kernel_rfl)),
    f314 := Tryz.func299.trans (congrArg some (by kernel_rfl)),
    t3 := Tryz.underlying3, a3 := Tryz.isAgg3, z3 := Tryz.sizeOf3, v3 := Tryz.zeroValue3,
    t4 := Tryz.underlying4, a4 := Tryz.isAgg4, z4 := Tryz.sizeOf4, v4 := Tryz.zeroValue4,
    t5 := Tryz.underlying5, a5 := Tryz.isAgg5, z5 := Tryz.sizeOf5, v5 := Tryz.zeroValue5,
    t9 := Tryz.underlying9, a9 := Tryz.isAgg9, z9 := Tryz.sizeOf9, v9 := Tryz.zeroValue9,
    t46 := Tryz.underlying111, a46 := Tryz.isAgg111, z46 := Tryz.sizeOf111, v46 := Tryz.zeroValue111,
    t51 := Tryz.underlying201, a51 := Tryz.isAgg201, z51 := Tryz.sizeOf201, v51 := Tryz.zeroValue201,
    t146 := Tryz.underlying434, a146 := Tryz.isAgg434, z146 := Tryz.sizeOf434, v146 := Tryz.zeroValue434, g1 := by kernel_rfl,
    i3 := by kernel_rfl, i4 := by kernel_rfl, i5 := by kernel_rfl, i9 := by kernel_rfl, i46 := by kernel_rfl, i51 := by kernel_rfl, i146 := by kernel_rfl, m1 := by kernel_rfl,
    s1_3 := fun w h => cell_of_shapedOpen_int h (of_decide_eq_true (by kernel_rfl)) (show _ = some (#[Value.int IntKind.i64 0], 3) from by kernel_rfl) rfl (by kernel_rfl) (show _ = some [3] from by kernel_rfl) Tryz.underlying3 }
end Go.Proofs
namespace Go.Ev
open Go.Proofs
set_option maxRecDepth 1000000 in
theorem run_awake : runB 4 [] = true := by kernel_rfl
theorem awake_calls (w : World) (g : Glo w) : Calls Tryz.prog 4 #[] w fun e w' => e = .returned (.bool true) ∧ Kept w w' :=
  runB_calls (f := 4) (args := []) rfl run_awake w g [] (by simp [VRs])
theorem glo_of_shaped {w : World} (h : w.ShapedOpen Tryz.prog) : Glo w := Tryz.laysM219.s1_3 w h
end Go.Ev
namespace Go.Proofs
open Go.Ev Go.RowKit
set_option maxHeartbeats 1000000 in
theorem pr_out (n : Int) (k : Bool) (w : World) (g : Glo w) (h : n < 0 ∨ n > 30) : Calls Tryz.prog 3 #[.int .i64 n, .bool k] w fun e w' => e = .returned (.bool true) ∧ Kept w w' := by
  go_enter Tryz.func3, Tryz.ntmps3
  go_wp2_with (go_at_call 4; refine (awake_calls _ g).mono ?_; rintro e w' ⟨rfl, hk⟩)
  all_goals (go_ret; exact ⟨rfl, hk⟩)
end Go.Proofs
end
