/- The tables of the evaluator over this program; what a run says of a call. -/
import Derived.Test.YtjeobamlafahaaaGreatDoorEvF
import Derived.KernelRfl
import Derived.WalkKit
import Derived.WalkSpells
import Derived.Test.YtjeobamlafahaaaGreatDoorProg
import Derived.Test.YtjeobamlafahaaaGreatDoorChecked

section
/- The evaluator over the seat's program: tables, whatever functions are known beforehand. -/
namespace Go.Ev
open Go.Proofs
def putO {α : Type} : List (Option α) → Nat → T α → T α
  | [], _, t => t
  | a :: r, n, t => putO r (Nat.succ n) (match a with | some x => t.put n (some x) | none => t)
theorem putO_get {α : Type} : ∀ (l : List (Option α)) (n : Nat) (t : T α) (k : Nat) (y : α), (putO l n t).get k = some y → (∃ j, k = n + j ∧ l[j]? = some (some y)) ∨ t.get k = some y := by
  intro l
  induction l with
  | nil => intro n t k y h; exact .inr h
  | cons a r ih =>
    intro n t k y h
    rcases ih _ _ _ _ h with ⟨j, e, hj⟩ | h1
    · exact .inl ⟨j + 1, by omega, by simpa using hj⟩
    · cases a with
      | none => exact .inr h1
      | some x =>
        rcases T.get_put t n (some x) k y h1 with ⟨e, e2⟩ | ⟨_, e2⟩
        · exact .inl ⟨0, by omega, by simp [Option.some.inj e2]⟩
        · exact .inr e2
noncomputable def TP := Tryz.prog
noncomputable def TE (x : Nat → Option XF) : Env := { P := TP, ty := tiOf TP, ext := x, sorts := fun n => Nat.beq n 440 }
noncomputable def FT (x : Nat → Option XF) : T FW := (putO (TP.funcs.toList.map fun fn => some (cFunc (TE x) fn)) 0 (T.full 0)).put 290 none
noncomputable def TF (x : Nat → Option XF) (f : Nat) : Option FW := (FT x).get f
noncomputable def cn (x : Nat → Option XF) : CallN := callN (TE x) (TF x) (cCode (TE x) true) (fun _ r => r) 3000
def fnsOkL (E : Env) : List Func → Nat → Bool
  | [], _ => true
  | fn :: r, n => (bif Nat.beq n 290 then true else okFn E fn && (fn.name != "runtime.NumGoroutine")) && fnsOkL E r (Nat.succ n)
theorem fnsOkL_get {E : Env} : ∀ (l : List Func) (n j : Nat) (fn : Func), fnsOkL E l n = true → l[j]? = some fn → n + j ≠ 290 → okFn E fn = true ∧ fn.name ≠ "runtime.NumGoroutine" := by
  intro l
  induction l with
  | nil => intro n j fn _ h; simp at h
  | cons a r ih =>
    intro n j fn h hj hne
    simp only [fnsOkL, Bool.and_eq_true] at h
    cases j with
    | zero =>
      simp at hj; subst hj
      have h1 := h.1
      have hb : Nat.beq n 290 = false := by
        cases hb : Nat.beq n 290 with
        | false => rfl
        | true => exact absurd (Nat.eq_of_beq_eq_true hb) (by omega)
      rw [hb] at h1
      simp only [cond_false, Bool.and_eq_true] at h1
      exact ⟨h1.1, by simpa using h1.2⟩
    | succ j => exact ih (Nat.succ n) j fn h.2 (by simpa using hj) (by omega)
set_option maxRecDepth 1000000
theorem fnsOk0 (x : Nat → Option XF) : fnsOkL (TE x) ((TP.funcs.toList.drop 0).take 60) 0 = true := by kernel_rfl
theorem fnsOk1 (x : Nat → Option XF) : fnsOkL (TE x) ((TP.funcs.toList.drop 60).take 60) 60 = true := by kernel_rfl
theorem fnsOk2 (x : Nat → Option XF) : fnsOkL (TE x) ((TP.funcs.toList.drop 120).take 60) 120 = true := by kernel_rfl
theorem fnsOk3 (x : Nat → Option XF) : fnsOkL (TE x) ((TP.funcs.toList.drop 180).take 60) 180 = true := by kernel_rfl
theorem fnsOk4 (x : Nat → Option XF) : fnsOkL (TE x) ((TP.funcs.toList.drop 240).take 60) 240 = true := by kernel_rfl
theorem fnsOk5 (x : Nat → Option XF) : fnsOkL (TE x) ((TP.funcs.toList.drop 300).take 60) 300 = true := by kernel_rfl
theorem fnsOk6 (x : Nat → Option XF) : fnsOkL (TE x) ((TP.funcs.toList.drop 360).take 60) 360 = true := by kernel_rfl
theorem fnsOk7 (x : Nat → Option XF) : fnsOkL (TE x) ((TP.funcs.toList.drop 420).take 60) 420 = true := by kernel_rfl
theorem fnsOk8 (x : Nat → Option XF) : fnsOkL (TE x) ((TP.funcs.toList.drop 480).take 60) 480 = true := by kernel_rfl
theorem fnsOk9 (x : Nat → Option XF) : fnsOkL (TE x) ((TP.funcs.toList.drop 540).take 60) 540 = true := by kernel_rfl
theorem fnsOk10 (x : Nat → Option XF) : fnsOkL (TE x) ((TP.funcs.toList.drop 600).take 60) 600 = true := by kernel_rfl
theorem fnsOk11 (x : Nat → Option XF) : fnsOkL (TE x) ((TP.funcs.toList.drop 660).take 60) 660 = true := by kernel_rfl
theorem fnsOk12 (x : Nat → Option XF) : fnsOkL (TE x) ((TP.funcs.toList.drop 720).take 60) 720 = true := by kernel_rfl
theorem fnsOkZ (x : Nat → Option XF) : fnsOkL (TE x) (TP.funcs.toList.drop 780) 780 = true := by kernel_rfl
theorem fnsOk_take (E : Env) (a n : Nat) (h : fnsOkL E ((TP.funcs.toList.drop a).take n) a = true) (f : Nat) (fn : Func) (hf : TP.funcs.toList[f]? = some fn) (hne : f ≠ 290) (h1 : a ≤ f) (h2 : f < a + n) : okFn E fn = true ∧ fn.name ≠ "runtime.NumGoroutine" :=
  fnsOkL_get _ a (f - a) fn h (by rw [List.getElem?_take, if_pos (by omega), List.getElem?_drop, show a + (f - a) = f by omega]; exact hf) (by omega)
theorem fnsOk_drop (E : Env) (a : Nat) (h : fnsOkL E (TP.funcs.toList.drop a) a = true) (f : Nat) (fn : Func) (hf : TP.funcs.toList[f]? = some fn) (hne : f ≠ 290) (h1 : a ≤ f) : okFn E fn = true ∧ fn.name ≠ "runtime.NumGoroutine" :=
  fnsOkL_get _ a (f - a) fn h (by rw [List.getElem?_drop, show a + (f - a) = f by omega]; exact hf) (by omega)
theorem fnsOk (x : Nat → Option XF) (f : Nat) (fn : Func) (hf : TP.funcs.toList[f]? = some fn) (hne : f ≠ 290) : okFn (TE x) fn = true ∧ fn.name ≠ "runtime.NumGoroutine" := by
  by_cases h0 : f < 60
  · exact fnsOk_take _ 0 60 (fnsOk0 x) f fn hf hne (by omega) (by omega)
  by_cases h1 : f < 120
  · exact fnsOk_take _ 60 60 (fnsOk1 x) f fn hf hne (by omega) (by omega)
  by_cases h2 : f < 180
  · exact fnsOk_take _ 120 60 (fnsOk2 x) f fn hf hne (by omega) (by omega)
  by_cases h3 : f < 240
  · exact fnsOk_take _ 180 60 (fnsOk3 x) f fn hf hne (by omega) (by omega)
  by_cases h4 : f < 300
  · exact fnsOk_take _ 240 60 (fnsOk4 x) f fn hf hne (by omega) (by omega)
  by_cases h5 : f < 360
  · exact fnsOk_take _ 300 60 (fnsOk5 x) f fn hf hne (by omega) (by omega)
  by_cases h6 : f < 420
  · exact fnsOk_take _ 360 60 (fnsOk6 x) f fn hf hne (by omega) (by omega)
  by_cases h7 : f < 480
  · exact fnsOk_take _ 420 60 (fnsOk7 x) f fn hf hne (by omega) (by omega)
  by_cases h8 : f < 540
  · exact fnsOk_take _ 480 60 (fnsOk8 x) f fn hf hne (by omega) (by omega)
  by_cases h9 : f < 600
  · exact fnsOk_take _ 540 60 (fnsOk9 x) f fn hf hne (by omega) (by omega)
  by_cases h10 : f < 660
  · exact fnsOk_take _ 600 60 (fnsOk10 x) f fn hf hne (by omega) (by omega)
  by_cases h11 : f < 720
  · exact fnsOk_take _ 660 60 (fnsOk11 x) f fn hf hne (by omega) (by omega)
  by_cases h12 : f < 780
  · exact fnsOk_take _ 720 60 (fnsOk12 x) f fn hf hne (by omega) (by omega)
  exact fnsOk_drop _ 780 (fnsOkZ x) f fn hf hne (by omega)
theorem envS_of (P : Program) (ext : Nat → Option XF) (sorts : Nat → Bool) : EnvS { P, ty := tiOf P, ext, sorts } := fun _ _ h => h
theorem TE_env (x : Nat → Option XF) : EnvS (TE x) := envS_of TP x _
theorem TF_ok (x : Nat → Option XF) : ∀ f w, TF x f = some w → ∃ fn, (TE x).P.funcs[f]? = some fn ∧ w = cFunc (TE x) fn ∧ fn.name ≠ "runtime.NumGoroutine" ∧ okFn (TE x) fn = true := by
  intro f w h
  rcases T.get_put _ 290 none f w h with ⟨_, h2⟩ | ⟨hne, h2⟩
  · cases h2
  · rcases putO_get _ 0 _ f w h2 with ⟨j, e, hj⟩ | h3
    · simp only [List.getElem?_map, Option.map_eq_some_iff] at hj
      obtain ⟨fn, h4, h5⟩ := hj
      have hfj : f = j := by omega
      subst hfj
      obtain ⟨k1, k2⟩ := fnsOk x f fn h4 (by omega)
      exact ⟨fn, by rw [← Array.getElem?_toList]; exact h4, by simpa using h5.symm, k2, k1⟩
    · rw [T.full_get] at h3; cases h3
theorem tab_of {x : Nat → Option XF} (hx : ∀ f y, x f = some y → ExtOne TP f y) : Table (TE x) (TF x) (cCode (TE x) true) (fun _ r => r) :=
  ⟨TE_env x, draw_ok (TE_env x), fun f y h args hh v h' => hx f y h args hh v h', TF_ok x, fun _ _ => rfl, fun _ k => ⟨k, rfl⟩⟩
/-- one more function -/
def withX (g : Nat) (y : XF) (x : Nat → Option XF) : Nat → Option XF := fun n => bif Nat.beq n g then some y else x n
theorem withX_ok {g : Nat} {y : XF} {x : Nat → Option XF} (h : ExtOne TP g y) (hx : ∀ f y, x f = some y → ExtOne TP f y) : ∀ f z, withX g y x f = some z → ExtOne TP f z := by
  intro f z hz
  unfold withX at hz
  cases hb : Nat.beq f g with
  | true => rw [hb] at hz; cases hz; rw [Nat.eq_of_beq_eq_true hb]; exact h
  | false => rw [hb] at hz; exact hx f z hz
theorem f269b : Tryz.f269.body = none := by kernel_rfl
theorem f269n : Tryz.f269.name = "internal/bytealg.IndexByteString" := by kernel_rfl
theorem f269a : Extern.findNext Tryz.f269 = none := by kernel_rfl
theorem f269e : Extern.find Tryz.f269 = some Extern.BytealgIndexByte.indexByte := by kernel_rfl
theorem f454b : Tryz.f454.body = none := by kernel_rfl
theorem f454n : Tryz.f454.name = "internal/abi.NoEscape" := by kernel_rfl
theorem f454a : Extern.findNext Tryz.f454 = none := by kernel_rfl
theorem f454e : Extern.find Tryz.f454 = some Extern.AbiNoEscape.same := by kernel_rfl
theorem f455b : Tryz.f455.body = none := by kernel_rfl
theorem f455n : Tryz.f455.name = "internal/bytealg.MakeNoZero" := by kernel_rfl
theorem f455a : Extern.findNext Tryz.f455 = none := by kernel_rfl
theorem f455e : Extern.find Tryz.f455 = some (Extern.BytealgMakeNoZero.makeNoZero Tryz.f455.params Tryz.f455.resultTypes) := by kernel_rfl
theorem f455t : (Tryz.f455.resultTypes[0]?).bind TP.underlying = some (.slice 5) := by kernel_rfl
theorem f175b : Tryz.f175.body.isSome = true := by kernel_rfl
theorem f175n : Tryz.f175.name = "internal/stringslite.Index" := by kernel_rfl
theorem enter175 : ∀ (args : Array Value) (w : World), (callFunc 175 args).run TP w = .ok (.enter 175 args) w := by
  obtain ⟨c, hc⟩ := Option.isSome_iff_exists.1 f175b
  exact fun args w => Callable.run (P := TP) ⟨Tryz.f175, c, Tryz.func175, hc, by rw [f175n]; exact (by decide +kernel)⟩ args w
/-- a world's objects, untouched -/
def Kept (w w' : World) : Prop := w.heap.size ≤ w'.heap.size ∧ (∀ c, c < w.heap.size → w'.heap[c]? = w.heap[c]?) ∧ w'.os = w.os ∧ w'.output = w.output
theorem Kept.trans {w w' w'' : World} (a : Kept w w') (b : Kept w' w'') : Kept w w'' :=
  ⟨Nat.le_trans a.1 b.1, fun c hc => (b.2.1 c (Nat.lt_of_lt_of_le hc a.1)).trans (a.2.1 c hc), b.2.2.1.trans a.2.2.1, b.2.2.2.trans a.2.2.2⟩
def V00 : Val := ⟨fun _ => none, fun _ => none, fun _ => 0⟩
def h00 : H := ⟨1, 1, T.full 16⟩
theorem h00_rel {w : World} (g : Glo w) : HR V00 h00 w := by
  have hn : ∀ b, h00.get b = none := fun b => T.full_get 16 b
  exact ⟨fun b x e => (by rw [hn] at e; cases e), fun b b' x x' c sh sh' e => (by rw [hn] at e; cases e), fun _ _ => rfl, fun _ _ _ e => (by cases e), fun _ _ => rfl, fun _ _ _ _ _ _ e => (by cases e), g, fun _ _ e => (by cases e)⟩
noncomputable def runB (x : Nat → Option XF) (f : Nat) (args : List AV) : Bool := match cn x (.func f) args .no h00 with
  | some (.ret (.bool true) _, _) => true
  | _ => false
/-- what a run says of a call -/
theorem runB_calls {x : Nat → Option XF} (TT : Table (TE x) (TF x) (cCode (TE x) true) (fun _ r => r)) {f : Nat} {args : List AV} (hx : x f = none) (h : runB x f args = true) (w : World) (g : Glo w) (args' : List Value) (hv : VRs V00 args args') :
    Calls Tryz.prog f ⟨args'⟩ w fun e w' => e = .returned (.bool true) ∧ Kept w w' := by
  unfold runB at h
  split at h
  · rename_i h' u heq
    have := run_calls (n := 2999) TT hx heq V00 w args' (h00_rel g) hv
    intro cs
    obtain ⟨e, w', fr, ⟨V', v', he, hr, hxt, hvr⟩, rest⟩ := this cs
    simp only [VR] at hvr
    refine ⟨e, w', fr, ⟨by rw [he, hvr], hxt.size, fun c hc => ?_, hxt.os, hxt.out⟩, rest⟩
    exact (hxt.keep c hc (fun b x sh e => by
      have : h00.get b = none := T.full_get 16 b
      rw [this] at e; cases e)).1
  · cases h
theorem constB_of_runB {x : Nat → Option XF} {f : Nat} (h : runB x f [] = true) : constB (cn x) f true = true := by
  unfold runB h00 at h
  unfold constB
  split at h
  · rename_i h' u heq
    rw [heq]; rfl
  · cases h
end Go.Ev
end
