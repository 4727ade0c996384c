/- Control: statements, calls, deferred calls, loops over functions, open iterations: a run of the evaluator gives the calls of the model. -/
import Derived.Test.YtjeobamlafahaaaGreatDoorEvC
import Derived.AtR
import Derived.Recover

section
/- The machine around the operations: frames, callers, what a step comes to. -/
namespace Go.Ev

/-- what a frame has deferred -/
def DR (V : Val) : DS → Deferred → Prop
  | .call (.fn f a c) as, d => ∃ g a' c' as', d = { target := .fn g ⟨c'⟩, args := ⟨a' ++ as'⟩ } ∧ FnR V f g ∧ VRs V a a' ∧ VRs V c c' ∧ VRs V as as'
  | .coll b, d => ∃ c, V.ρ b = some (c, 0) ∧ d = { target := .collected c, args := #[] }
  | _, _ => False
def DRs (V : Val) : List DS → List Deferred → Prop
  | [], l => l = []
  | x :: r, l => ∃ d r', l = d :: r' ∧ DR V x d ∧ DRs V r r'
theorem DR.mono {V V' : Val} (h : V.le V') {x : DS} {d : Deferred} (r : DR V x d) : DR V' x d := by
  unfold DR at r ⊢
  split at r
  · obtain ⟨g, a', c', as', e, r1, r2, r3, r4⟩ := r
    exact ⟨g, a', c', as', e, r1.mono h, VRs.mono h _ _ r2, VRs.mono h _ _ r3, VRs.mono h _ _ r4⟩
  · obtain ⟨c, hc, e⟩ := r; exact ⟨c, h.ρ _ _ hc, e⟩
  · exact r.elim
theorem DRs.mono {V V' : Val} (h : V.le V') : ∀ {l : List DS} {d : List Deferred}, DRs V l d → DRs V' l d := by
  intro l
  induction l with
  | nil => intro d r; exact r
  | cons x l ih => intro d r; obtain ⟨y, r', e, r1, r2⟩ := r; exact ⟨y, r', e, r1.mono h, ih r2⟩

/-- what a deferred call may recover -/
def UMR (V : Val) (um : UM) (kind : CallKind) (cs : List Frame) : Prop :=
  match um with
  | .no => kind = .normal
  | .ret => kind = .deferred ∧ ∃ c r, cs = c :: r ∧ c.mode = .returning
  | .pan v => kind = .deferred ∧ ∃ c r v', cs = c :: r ∧ c.mode = .panicking [{ v := v', recovered := false }] ∧ VR V v v'
  | .rcd v => kind = .deferred ∧ ∃ c r v', cs = c :: r ∧ c.mode = .panicking [{ v := v', recovered := true }] ∧ VR V v v'
theorem UMR.mono {V V' : Val} (h : V.le V') {um : UM} {k : CallKind} {cs : List Frame} (r : UMR V um k cs) : UMR V' um k cs := by
  cases um with
  | no => exact r
  | ret => exact r
  | pan v => obtain ⟨a, c, t, v', e, e', hv⟩ := r; exact ⟨a, c, t, v', e, e', VR.mono h _ _ hv⟩
  | rcd v => obtain ⟨a, c, t, v', e, e', hv⟩ := r; exact ⟨a, c, t, v', e, e', VR.mono h _ _ hv⟩

def RDR (V : Val) : Option Nat → Option Nat → Prop
  | none, r => r = none
  | some l, r => ∃ c, V.ρ l = some (c, 0) ∧ r = some c
theorem RDR.mono {V V' : Val} (h : V.le V') {a b : Option Nat} (r : RDR V a b) : RDR V' a b := by
  cases a with
  | none => exact r
  | some l => obtain ⟨c, hc, e⟩ := r; exact ⟨c, h.ρ _ _ hc, e⟩

/-- an abstract frame says this of the frame b with a -/
structure FrR (V : Val) (n : Nat) (fr : Fr) (b : Frame) (a : Act) (cs : List Frame) : Prop where
  fs : FS V n fr a.tmps
  ds : DRs V fr.ds a.defers
  um : UMR V fr.um b.kind cs
  rd : RDR V fr.rd b.roundOf
theorem FrR.mono {V V' : Val} (h : V.le V') {n : Nat} {fr : Fr} {b : Frame} {a : Act} {cs : List Frame} (r : FrR V n fr b a cs) : FrR V' n fr b a cs :=
  ⟨r.fs.mono h, r.ds.mono h, r.um.mono h, r.rd.mono h⟩

/-- callers: the same, but for the mode of the nearest -/
def Callers (k : CallKind) (cs cs' : List Frame) : Prop := cs' = cs ∨ (k = .deferred ∧ ∃ c m r, cs = c :: r ∧ cs' = { c with mode := m } :: r)
theorem Callers.refl (k : CallKind) (cs : List Frame) : Callers k cs cs := .inl rfl
theorem Callers.trans {k : CallKind} {a b c : List Frame} (h : Callers k a b) (h' : Callers k b c) : Callers k a c := by
  rcases h with rfl | ⟨hk, x, m, r, rfl, rfl⟩
  · exact h'
  · rcases h' with rfl | ⟨_, y, m', r', e, rfl⟩
    · exact .inr ⟨hk, x, m, r, rfl, rfl⟩
    · cases e; exact .inr ⟨hk, x, m', r, rfl, rfl⟩

/-- the machine comes to a frame that runs on -/
def ToNorm (P : Program) (V : Val) (h0 : H) (w : World) (cs : List Frame) (m : Machine) (n : Nat) (b : Frame) (k : List Item) (fr : Fr) (h : H) : Prop :=
  ∃ V' w' a' cs', Steps P m (lone (b.atR a' k) cs' w') ∧ FrR V' n fr b a' cs' ∧ HR V' h w' ∧ Ext V h0 w V' h w' ∧ Callers b.kind cs cs'
/-- .. to a frame that panics -/
def ToPan (P : Program) (V : Val) (h0 : H) (w : World) (cs : List Frame) (m : Machine) (n : Nat) (b : Frame) (v : AV) (fr : Fr) (h : H) : Prop :=
  ∃ V' w' a' cs' k v', Steps P m (lone { b.atR a' k with mode := .panicking [{ v := v', recovered := false }] } cs' w') ∧ FrR V' n fr b a' cs' ∧ HR V' h w' ∧ Ext V h0 w V' h w' ∧ Callers b.kind cs cs' ∧ VR V' v v'
theorem ToNorm.of_steps {P : Program} {V : Val} {h0 : H} {w : World} {cs : List Frame} {m m' : Machine} {n : Nat} {b : Frame} {k : List Item} {fr : Fr} {h : H} (s : Steps P m m') (t : ToNorm P V h0 w cs m' n b k fr h) : ToNorm P V h0 w cs m n b k fr h := by
  obtain ⟨V', w', a', cs', s', r⟩ := t
  exact ⟨V', w', a', cs', s.trans s', r⟩
theorem ToPan.of_steps {P : Program} {V : Val} {h0 : H} {w : World} {cs : List Frame} {m m' : Machine} {n : Nat} {b : Frame} {v : AV} {fr : Fr} {h : H} (s : Steps P m m') (t : ToPan P V h0 w cs m' n b v fr h) : ToPan P V h0 w cs m n b v fr h := by
  obtain ⟨V', w', a', cs', k, v', s', r⟩ := t
  exact ⟨V', w', a', cs', k, v', s.trans s', r⟩
theorem ToNorm.ext {P : Program} {V V0 : Val} {h0 h00 : H} {w w0 : World} {cs cs0 : List Frame} {m : Machine} {n : Nat} {b : Frame} {k : List Item} {fr : Fr} {h : H} (e : Ext V0 h00 w0 V h0 w) (hc : Callers b.kind cs0 cs) (t : ToNorm P V h0 w cs m n b k fr h) : ToNorm P V0 h00 w0 cs0 m n b k fr h := by
  obtain ⟨V', w', a', cs', s', r1, r2, r3, r4⟩ := t
  exact ⟨V', w', a', cs', s', r1, r2, e.trans r3, hc.trans r4⟩
theorem ToPan.ext {P : Program} {V V0 : Val} {h0 h00 : H} {w w0 : World} {cs cs0 : List Frame} {m : Machine} {n : Nat} {b : Frame} {v : AV} {fr : Fr} {h : H} (e : Ext V0 h00 w0 V h0 w) (hc : Callers b.kind cs0 cs) (t : ToPan P V h0 w cs m n b v fr h) : ToPan P V0 h00 w0 cs0 m n b v fr h := by
  obtain ⟨V', w', a', cs', k, v', s', r1, r2, r3, r4, r5⟩ := t
  exact ⟨V', w', a', cs', k, v', s', r1, r2, e.trans r3, hc.trans r4, r5⟩

/-- what an operation's effect makes of the frame that asked -/
def nextM (P : Program) (fr : Frame) (cs : List Frame) : Result Next → Option Machine
  | .ok (.value v) w => some (lone (fr.finish v) cs w)
  | .ok .skip w => some (lone (fr.finish undef) cs w)
  | .ok (.enter f args) w => some (lone (Frame.enter P f args .normal) (fr :: cs) w)
  | .ok (.round l f tmps a b) w => some (lone (Frame.round l f tmps a b .normal) (fr :: cs) w)
  | .ok (.defer d) w => some (lone ({ fr with defers := d :: fr.defers }.finish undef) cs w)
  | .halt (.panic v) w => some (lone (fr.raise [{ v, recovered := false }]) cs w)
  | _ => none
/-- the frame asks from code -/
def Frame.plainTop (fr : Frame) : Prop := ∀ d w r s k, fr.todo ≠ .call d w r s :: k
theorem step_apply {P : Program} {fr0 fr : Frame} {cs : List Frame} {s : Sem Next} {w0 w : World} {m : Machine} (hk : Frame.plainTop fr)
    (hg : (stepG P true { frame := fr0, callers := cs, status := .running, dying := none } w0).bare = (stepG.apply P true fr cs none s w).bare) (hm : nextM P fr cs (s.run P w) = some m) :
    step P (lone fr0 cs w0) = .next m := by
  generalize hr : s.run P w = r at hm
  unfold nextM at hm
  split at hm <;> cases hm
  all_goals
    refine step_lone_go ?_
    rw [hg]
    simp [stepG.apply, hr]
    try
      split
      · rename_i h; exact absurd h (hk _ _ _ _ _)
      · rfl
end Go.Ev
end

section
/- Operations as steps of the machine; calls. -/
namespace Go.Ev

def fnSem : Fn → List Value → Sem Next
  | .func f, args => callFunc f ⟨args⟩
  | .yield c, args => Instr.yield c ⟨args⟩
  | _, _ => stuck "no such function"

/-- what is said of the calls that an operation makes -/
def CallR (P : Program) (call : Call) : Prop := ∀ (V : Val) (h : H) (w : World) (f g : Fn) (args : List AV) (args' : List Value) (fr : Frame) (cs : List Frame), HR V h w → FnR V f g → VRs V args args' →
  (∀ v h', call f args h = .ret v h' → ∃ V' w' v' m, nextM P fr cs ((fnSem g args').run P w) = some m ∧ Steps P m (lone (fr.finish v') cs w') ∧ HR V' h' w' ∧ Ext V h w V' h' w' ∧ VR V' v v') ∧
  (∀ v h', call f args h = .pan v h' → ∃ V' w' v' m, nextM P fr cs ((fnSem g args').run P w) = some m ∧ Steps P m (lone (fr.raise [{ v := v', recovered := false }]) cs w') ∧ HR V' h' w' ∧ Ext V h w V' h' w' ∧ VR V' v v')

/-- an operation with an effect, as steps of the machine -/
def ES (P : Program) (o : Oper) (F : Op1) (p : Put) : Prop := ∀ (call : Call), CallR P call → ∀ (V : Val) (n : Nat) (fr : Fr) (h : H) (w : World) (b : Frame) (a : Act) (cs : List Frame) (ops : Array Oper) (i : Nat) (rest : List Nat) (k : List Item),
  FS V n fr a.tmps → HR V h w → ops[i]? = some o → Region.wanted o (yielded ops a.tmps) = true →
  (∀ fr' h', F call fr h = .ok fr' h' → ∃ v V' w' u, fr' = p.run v fr ∧ Steps P (lone (b.atR a (.inRegion ops (i :: rest) :: k)) cs w) (lone (b.atR (a.put o.dst u) (.inRegion ops rest :: k)) cs w') ∧ VR V' v u ∧ HR V' h' w' ∧ Ext V h w V' h' w') ∧
  (∀ v fr' h', F call fr h = .pan v fr' h' → fr' = fr ∧ ∃ V' w' v' k', Steps P (lone (b.atR a (.inRegion ops (i :: rest) :: k)) cs w) (lone { b.atR a k' with mode := .panicking [{ v := v', recovered := false }] } cs w') ∧ VR V' v v' ∧ HR V' h' w' ∧ Ext V h w V' h' w')

theorem plainTop_atR (b : Frame) (a : Act) (x : Item) (k : List Item) (h : ∀ d w r s, x ≠ .call d w r s) : Frame.plainTop (b.atR a (x :: k)) := by
  intro d w r s k' e
  simp only [Frame.atR, List.cons.injEq] at e
  exact h _ _ _ _ e.1
theorem step_oper {P : Program} {b : Frame} {a : Act} {cs : List Frame} {w : World} {ops : Array Oper} {i : Nat} {rest : List Nat} {k : List Item} {o : Oper} {m : Machine} (ho : ops[i]? = some o) (hw : Region.wanted o (yielded ops a.tmps) = true)
    (hd : (∀ c, o.op ≠ .defer c) ∨ b.roundOf = none) (hm : nextM P (b.atR a (.inRegion ops (i :: rest) :: k)) cs ((execOp a.eval o).run P w) = some m) : step P (lone (b.atR a (.inRegion ops (i :: rest) :: k)) cs w) = .next m := by
  refine step_apply (s := execOp a.eval o) (plainTop_atR _ _ _ _ (by simp)) ?_ hm
  rw [stepGR_op ho hw]
  rcases hd with hd | hd
  · rw [Oper.semAt_eq _ _ _ hd]
  · rw [hd, Oper.semAt_none]
theorem finish_op (b : Frame) (a : Act) (ops : Array Oper) (i : Nat) (rest : List Nat) (k : List Item) (v : Value) (o : Oper) (ho : ops[i]? = some o) :
    (b.atR a (.inRegion ops (i :: rest) :: k)).finish v = b.atR (a.put o.dst v) (.inRegion ops rest :: k) := by
  rw [Frame.finish_atR, ho]; rfl

theorem ES.ofXS {P : Program} {o : Oper} {F : Op1} {p : Put} (s : XS P o F p) (hd : ∀ c, o.op ≠ .defer c) : ES P o F p := by
  intro call _ V n fr h w b a cs ops i rest k r hr ho hw
  obtain ⟨h1, h2⟩ := s V n fr a h w call r hr
  refine ⟨fun fr' h' e => ?_, fun v fr' h' e => absurd e (h1 v fr' h')⟩
  obtain ⟨v, nx, V', w', e1, e2, e3, e4, e5⟩ := h2 fr' h' e
  rcases e5 with ⟨u, rfl, hv⟩ | ⟨rfl, rfl⟩
  · refine ⟨v, V', w', u, e1, .one (step_oper ho hw (.inl hd) ?_), hv, e3, e4⟩
    rw [e2, nextM, finish_op _ _ _ _ _ _ _ o ho]
  · refine ⟨.unk, V', w', undef, e1, .one (step_oper ho hw (.inl hd) ?_), by simp [VR], e3, e4⟩
    rw [e2, nextM, finish_op _ _ _ _ _ _ _ o ho]

theorem VS.xs {P : Program} {o : Oper} {f : VF} {p : Put} (s : VS P o f) : XS P o (Ev.runVal f p) p := by
  intro V n fr a h w call r hr
  refine ⟨fun v fr' h' e => ?_, fun fr' h' e => ?_⟩
  · unfold runVal at e; split at e <;> cases e
  · unfold runVal at e
    split at e
    · rename_i v hv
      cases e
      obtain ⟨u, hu, hvr⟩ := s V n fr a h w v r hr hv
      exact ⟨v, _, V, w, rfl, hu, hr, Ext.refl _ _ _, .inl ⟨u, rfl, hvr⟩⟩
    · cases e

/-- an operation that calls -/
theorem ES.call {P : Program} {o : Oper} {p : Put} {F : Op1} (hd : ∀ c, o.op ≠ .defer c)
    (HF : ∀ (V : Val) (n : Nat) (fr : Fr) (a : Act) (h : H) (w : World) (call : Call), FS V n fr a.tmps → HR V h w →
      (∃ k, F call fr h = .fail k) ∨ ∃ f g args args', FnR V f g ∧ VRs V args args' ∧ F call fr h = after p fr (call f args h) ∧ (execOp a.eval o).run P w = (fnSem g args').run P w) : ES P o F p := by
  intro call hcall V n fr h w b a cs ops i rest k r hr ho hw
  rcases HF V n fr a h w call r hr with ⟨kk, hF⟩ | ⟨f, g, args, args', hf, hargs, hF, hex⟩
  · rw [hF]; exact ⟨fun _ _ e => (by cases e), fun _ _ _ e => (by cases e)⟩
  · rw [hF]
    obtain ⟨c1, c2⟩ := hcall V h w f g args args' (b.atR a (.inRegion ops (i :: rest) :: k)) cs hr hf hargs
    refine ⟨fun fr' h' e => ?_, fun v fr' h' e => ?_⟩
    · unfold after at e
      split at e <;> cases e
      rename_i v hc
      obtain ⟨V', w', v', m, e1, e2, e3, e4, e5⟩ := c1 v h' hc
      refine ⟨v, V', w', v', rfl, .head (step_oper ho hw (.inl hd) (by rw [hex]; exact e1)) ?_, e5, e3, e4⟩
      rw [finish_op _ _ _ _ _ _ _ o ho] at e2; exact e2
    · unfold after at e
      split at e <;> cases e
      rename_i hc
      obtain ⟨V', w', v', m, e1, e2, e3, e4, e5⟩ := c2 v h' hc
      exact ⟨rfl, V', w', v', _, .head (step_oper ho hw (.inl hd) (by rw [hex]; exact e1)) e2, e5, e3, e4⟩

theorem FnR.noFail {V : Val} {f g : Fn} (h : FnR V f g) : (∃ i, f = .func i ∧ g = .func i) ∨ ∃ l c, f = .yield l ∧ g = .yield c := by
  cases f <;> simp only [FnR] at h
  · exact .inl ⟨_, rfl, h⟩
  · obtain ⟨c, _, e⟩ := h; exact .inr ⟨_, c, rfl, e⟩
theorem run_call_value {P : Program} {w : World} {a : Act} {c : Go.Call} {x : Operand} {ty : Nat} (hc : c.callee = .value x) {f : Nat} {first cap : List Value} (hx : a.eval x = .func (.func f) ⟨first⟩ ⟨cap⟩) :
    (do let d ← resolve a.eval c ty; invoke d.target d.args : Sem Next).run P w = (fnSem (.func f) ((first ++ c.args.toList.map a.eval) ++ cap)).run P w := by
  obtain ⟨cal, ⟨args⟩, ats⟩ := c
  simp only at hc
  simp [resolve, hc, hx, Deferred.ofValue, invoke, fnSem]
theorem run_call_yield {P : Program} {w : World} {a : Act} {c : Go.Call} {x : Operand} {ty : Nat} (hc : c.callee = .value x) {l : Nat} {first cap : List Value} (hx : a.eval x = .func (.yield l) ⟨first⟩ ⟨cap⟩) :
    (do let d ← resolve a.eval c ty; invoke d.target d.args : Sem Next).run P w = (fnSem (.yield l) (first ++ c.args.toList.map a.eval)).run P w := by
  obtain ⟨cal, ⟨args⟩, ats⟩ := c
  simp only at hc
  simp [resolve, hc, hx, Deferred.ofValue, invoke, fnSem]
theorem ES.xCall {P : Program} {o : Oper} {p : Put} {c : Go.Call} {f : Nat} {as : List Get} (ho : o.op = .call c) (hc : c.callee = .value (.func f)) (e : cOpds c.args.toList = some as) : ES P o (Ev.xCall f as p) p := by
  refine ES.call (by rw [ho]; intro c h; cases h) fun V n fr a h w call r hr => .inr ⟨.func f, .func f, _, _, rfl, cOpds_rel r e, rfl, ?_⟩
  simp only [execOp, ho]
  rw [run_call_value hc (first := []) (cap := []) rfl]
  simp
theorem ES.xCallV {P : Program} {o : Oper} {p : Put} {c : Go.Call} {x : Operand} {g : Get} {as : List Get} (ho : o.op = .call c) (hc : c.callee = .value x) (ex : cOpd x = some g) (e : cOpds c.args.toList = some as) : ES P o (Ev.xCallV g as p) p := by
  refine ES.call (by rw [ho]; intro c h; cases h) fun V n fr a h w call r hr => ?_
  have rx := cOpd_rel r ex
  have ra := cOpds_rel r e
  unfold Ev.xCallV
  split
  · rename_i f first cap hg
    rw [hg] at rx; simp only [VR, FnR] at rx
    obtain ⟨f', a', c', hv, rfl, r2, r3⟩ := rx
    refine .inr ⟨.func f, .func f, _, _, rfl, (r2.append ra).append r3, rfl, ?_⟩
    simp only [execOp, ho]
    exact run_call_value hc hv
  · rename_i l first cap hg
    rw [hg] at rx; simp only [VR] at rx
    obtain ⟨f', a', c', hv, hf, r2, r3⟩ := rx
    obtain ⟨cc, hcc, rfl⟩ := hf
    refine .inr ⟨.yield l, .yield cc, _, _, ⟨cc, hcc, rfl⟩, r2.append ra, rfl, ?_⟩
    simp only [execOp, ho]
    exact run_call_yield hc hv
  · exact .inl ⟨_, rfl⟩
theorem methOf_run {P : Program} {name : String} {t f : Nat} {v : Value} {w : World} (h : methOf P name t = some f) (d : Nat) : (method (d + 1) t v name).run P w = .ok (f, v) w := by
  unfold methOf at h
  split at h
  · rename_i i hi
    split at h
    · rename_i m hm
      split at h
      · rename_i hp
        have hpe : m.path.toList = [] := by
          rw [Array.isEmpty_iff.1 hp]
        have ti : (typeInfo t).run P w = .ok i w := by simp [typeInfo, hi]
        split at h
        · rename_i f' hf hu
          cases h
          simp [method, ti, hm, hpe, follow, hf, receiverAt, run_underlying hu, Place.get]
        · cases h
        · rename_i f' d' hne hf hu
          cases h
          simp only [method, Sem.run_bind, ti, Result.andThen_ok, hm, hpe, follow, Sem.run_pure, hf, receiverAt, run_underlying hu]
          cases d' <;> first | rfl | (exact (hne _ hu).elim) | (exact (hne _ rfl hu).elim) | (exact (hne _ rfl rfl).elim)
        · cases h
      · cases h
    · cases h
  · cases h
theorem ES.xInvoke {P : Program} {o : Oper} {p : Put} {c : Go.Call} {x : Operand} {name : String} {g : Get} {as : List Get} (ho : o.op = .call c) (hc : c.callee = .invoke x name) (ex : cOpd x = some g) (e : cOpds c.args.toList = some as) : ES P o (Ev.xInvoke (methOf P name) g as p) p := by
  refine ES.call (by rw [ho]; intro c h; cases h) fun V n fr a h w call r hr => ?_
  have rx := cOpd_rel r ex
  have ra := cOpds_rel r e
  unfold Ev.xInvoke
  split
  · rename_i t v hg
    rw [hg] at rx; simp only [VR] at rx
    obtain ⟨x', hv, rv⟩ := rx
    split
    · rename_i f hf
      refine .inr ⟨.func f, .func f, _, x' :: c.args.toList.map a.eval, rfl, by simp only [VRs]; exact ⟨_, _, rfl, rv, ra⟩, rfl, ?_⟩
      obtain ⟨cal, ⟨args⟩, ats⟩ := c
      simp only at hc
      have hd : P.types.size + Made.depth = (P.types.size + (Made.depth - 1)) + 1 := by
        have : Made.depth ≠ 0 := by decide
        omega
      have ht : List.take args.length (List.map a.eval args) = List.map a.eval args := List.take_of_length_le (by simp)
      simp [execOp, ho, resolve, hc, invoke, callMethod, hv, fnSem, hd, methOf_run hf, ht]
    · exact .inl ⟨_, rfl⟩
  · exact .inl ⟨_, rfl⟩
theorem ES.xPanic {P : Program} {o : Oper} {p : Put} {x : Operand} {g : Get} (ho : o.op = .panic x) (ex : cOpd x = some g) : ES P o (Ev.xPanic g) p := by
  intro call _ V n fr h w b a cs ops i rest k r hr hoi hw
  have rx := cOpd_rel r ex
  unfold Ev.xPanic
  split
  · rename_i t v hg
    rw [hg] at rx; simp only [VR] at rx
    obtain ⟨x', hv, rv⟩ := rx
    refine ⟨fun _ _ e => (by cases e), fun v' fr' h' e => ?_⟩
    cases e
    refine ⟨rfl, V, w, .iface t x', .inRegion ops (i :: rest) :: k, .one (step_oper hoi hw (.inl (by rw [ho]; intro c h; cases h)) ?_), by simp only [VR]; exact ⟨_, rfl, rv⟩, hr, Ext.refl _ _ _⟩
    simp [execOp, ho, Instr.panic, hv, nextM, goPanic]
    rfl
  · exact ⟨fun _ _ e => (by cases e), fun _ _ _ e => (by cases e)⟩
end Go.Ev
end

section
/- Each operation that the compiler takes is one of the model's. -/
namespace Go.Ev

theorem pOf_put {V : Val} {n : Nat} {fr : Fr} {a : Act} {dst : Option Nat} {p : Put} (e : pOf n dst = some p) (r : FS V n fr a.tmps) {x : AV} {u : Value} (hv : VR V x u) :
    FS V n (p.run x fr) (a.put dst u).tmps ∧ (p.run x fr).ds = fr.ds ∧ (p.run x fr).um = fr.um ∧ (p.run x fr).rd = fr.rd ∧ (a.put dst u).defers = a.defers := by
  unfold pOf at e
  split at e
  · rename_i d
    split at e
    · rename_i hd
      split at e
      · rename_i hn
        cases e
        have rd : ((putT d).run x fr).rd = fr.rd := by
          rw [putT_eq]
          rcases lt8 (show d / 64 < 8 by omega) with h | h | h | h | h | h | h | h <;> rw [h] <;> cases fr <;> rfl
        exact ⟨r.put hd hn hv, (putT_ds d hd x fr).1, (putT_ds d hd x fr).2, rd, rfl⟩
      · cases e
    · cases e
  · cases e
    exact ⟨r, rfl, rfl, rfl, rfl⟩
theorem FrR.put {V : Val} {n : Nat} {fr : Fr} {b : Frame} {a : Act} {cs : List Frame} {dst : Option Nat} {p : Put} (e : pOf n dst = some p) (r : FrR V n fr b a cs) {x : AV} {u : Value} (hv : VR V x u) : FrR V n (p.run x fr) b (a.put dst u) cs := by
  obtain ⟨h1, h2, h3, h4, h5⟩ := pOf_put e r.fs hv
  exact ⟨h1, by rw [h2, h5]; exact r.ds, by rw [h3]; exact r.um, by rw [h4]; exact r.rd⟩

/-- an operation as steps of the machine -/
def OpR (P : Program) (n : Nat) (o : Oper) (F : Op1) : Prop := ∀ (call : Call), CallR P call → ∀ (V : Val) (fr : Fr) (h : H) (w : World) (b : Frame) (a : Act) (cs : List Frame) (ops : Array Oper) (i : Nat) (rest : List Nat) (k : List Item),
  FrR V n fr b a cs → HR V h w → ops[i]? = some o → Region.wanted o (yielded ops a.tmps) = true →
  (∀ fr' h', F call fr h = .ok fr' h' → ToNorm P V h w cs (lone (b.atR a (.inRegion ops (i :: rest) :: k)) cs w) n b (.inRegion ops rest :: k) fr' h') ∧
  (∀ v fr' h', F call fr h = .pan v fr' h' → ToPan P V h w cs (lone (b.atR a (.inRegion ops (i :: rest) :: k)) cs w) n b v fr' h')
theorem ES.op {P : Program} {n : Nat} {o : Oper} {F : Op1} {p : Put} (s : ES P o F p) (hp : pOf n o.dst = some p) : OpR P n o F := by
  intro call hcall V fr h w b a cs ops i rest k r hr ho hw
  obtain ⟨h1, h2⟩ := s call hcall V n fr h w b a cs ops i rest k r.fs hr ho hw
  refine ⟨fun fr' h' e => ?_, fun v fr' h' e => ?_⟩
  · obtain ⟨v, V', w', u, rfl, g1, g2, g3, g4⟩ := h1 fr' h' e
    exact ⟨V', w', _, cs, g1, (r.mono g4.le).put hp g2, g3, g4, .refl _ _⟩
  · obtain ⟨rfl, V', w', v', k', g1, g2, g3, g4⟩ := h2 v fr' h' e
    exact ⟨V', w', a, cs, k', v', g1, r.mono g4.le, g3, g4, .refl _ _, g2⟩

theorem Fr.defer_eq (fr : Fr) (d : DS) : (fr.defer d).ds = d :: fr.ds ∧ (fr.defer d).um = fr.um ∧ (fr.defer d).rd = fr.rd ∧ ∀ i, (getT i).run (fr.defer d) = (getT i).run fr := by
  cases fr
  refine ⟨rfl, rfl, rfl, fun i => ?_⟩
  rw [getT_eq, getT_eq]
  congr 2
  have h8 : ∀ j, (sFr j).g = (sFr (min j 7)).g := by
    intro j
    match j with
    | 0 | 1 | 2 | 3 | 4 | 5 | 6 | 7 => rfl
    | j + 8 => rw [show min (j + 8) 7 = 7 by omega]; rfl
  rw [h8]
  rcases lt8 (show min (i / 64) 7 < 8 by omega) with h | h | h | h | h | h | h | h <;> rw [h] <;> rfl
theorem Fr.setUm_eq (fr : Fr) (u : UM) : (fr.setUm u).ds = fr.ds ∧ (fr.setUm u).um = u ∧ (fr.setUm u).rd = fr.rd ∧ ∀ i, (getT i).run (fr.setUm u) = (getT i).run fr := by
  cases fr
  refine ⟨rfl, rfl, rfl, fun i => ?_⟩
  rw [getT_eq, getT_eq]
  congr 2
  have h8 : ∀ j, (sFr j).g = (sFr (min j 7)).g := by
    intro j
    match j with
    | 0 | 1 | 2 | 3 | 4 | 5 | 6 | 7 => rfl
    | j + 8 => rw [show min (j + 8) 7 = 7 by omega]; rfl
  rw [h8]
  rcases lt8 (show min (i / 64) 7 < 8 by omega) with h | h | h | h | h | h | h | h <;> rw [h] <;> rfl

theorem OpR.xDefer {P : Program} {n : Nat} {o : Oper} {p : Put} {c : Go.Call} {x : Operand} {g : Get} {as : List Get} (hp : pOf n o.dst = some p) (ho : o.op = .defer c) (hc : c.callee = .value x) (ex : cOpd x = some g) (e : cOpds c.args.toList = some as) : OpR P n o (Ev.xDefer g as p) := by
  intro call _ V fr h w b a cs ops i rest k r hr hoi hw
  have rx := cOpd_rel r.fs ex
  have ra := cOpds_rel r.fs e
  unfold Ev.xDefer
  split
  · rename_i f first cap hrd hg
    refine ⟨fun fr' h' e' => ?_, fun _ _ _ e' => (by cases e')⟩
    cases e'
    rw [hg] at rx; simp only [VR, FnR] at rx
    obtain ⟨f', a', c', hv, rfl, r2, r3⟩ := rx
    have hro : b.roundOf = none := by have := r.rd; rw [hrd] at this; exact this
    have hrun : (execOp a.eval o).run P w = .ok (.defer { target := .fn (.func f) ⟨c'⟩, args := ⟨a' ++ c.args.toList.map a.eval⟩ }) w := by
      obtain ⟨cal, ⟨args⟩, ats⟩ := c
      simp only at hc
      simp [execOp, ho, resolve, hc, hv, Deferred.ofValue]
    obtain ⟨d1, d2, d3, d4⟩ := fr.defer_eq (.call (.fn (.func f) first cap) (gets as fr))
    have r' : FrR V n (fr.defer (.call (.fn (.func f) first cap) (gets as fr))) b { a with defers := { target := .fn (.func f) ⟨c'⟩, args := ⟨a' ++ c.args.toList.map a.eval⟩ } :: a.defers } cs :=
      ⟨⟨r.fs.size, fun i hi => by rw [d4]; exact r.fs.rel i hi⟩, by rw [d1]; exact ⟨_, _, rfl, ⟨.func f, a', c', _, rfl, rfl, r2, r3, ra⟩, r.ds⟩, by rw [d2]; exact r.um, by rw [d3]; exact r.rd⟩
    refine ⟨V, w, _, cs, .one (step_oper hoi hw (.inr hro) ?_), r'.put (u := undef) hp (by simp [VR]), hr, Ext.refl _ _ _, .refl _ _⟩
    rw [hrun, nextM]
    congr 2
    have := finish_op b { a with defers := { target := .fn (.func f) ⟨c'⟩, args := ⟨a' ++ c.args.toList.map a.eval⟩ } :: a.defers } ops i rest k undef o hoi
    exact this
  · exact ⟨fun _ _ e' => (by cases e'), fun _ _ _ e' => (by cases e')⟩

theorem tryRec {V : Val} {um : UM} {kind : CallKind} {cs : List Frame} (u : UMR V um kind cs) (fr : Frame) (hk : fr.kind = kind) :
    (∃ v v' c r, um = .pan v ∧ VR V v v' ∧ cs = c :: r ∧ tryRecover fr cs = some (v', { c with mode := .panicking [{ v := v', recovered := true }] } :: r)) ∨ ((∀ v, um ≠ .pan v) ∧ tryRecover fr cs = none) := by
  cases um with
  | no =>
    refine .inr ⟨by simp, ?_⟩
    have : kind = .normal := u
    simp [tryRecover, hk, this]
  | ret =>
    obtain ⟨h1, c, r, rfl, h2⟩ := u
    exact .inr ⟨by simp, by simp [tryRecover, hk, h1, h2]⟩
  | pan v =>
    obtain ⟨h1, c, r, v', rfl, h2, h3⟩ := u
    exact .inl ⟨v, v', c, r, rfl, h3, rfl, by simp [tryRecover, hk, h1, h2]⟩
  | rcd v =>
    obtain ⟨h1, c, r, v', rfl, h2, h3⟩ := u
    exact .inr ⟨by simp, by simp [tryRecover, hk, h1, h2]⟩
theorem OpR.xRecover {P : Program} {n : Nat} {o : Oper} {p : Put} {c : Go.Call} (hp : pOf n o.dst = some p) (ho : o.op = .call c) (hc : c.callee = .builtin .recover) : OpR P n o (Ev.xRecover p) := by
  intro call _ V fr h w b a cs ops i rest k r hr hoi hw
  have hrun : (execOp a.eval o).run P w = .ok .recover w := by simp [execOp, ho, resolve, hc, invoke, builtin]
  unfold Ev.xRecover
  split
  · exact ⟨fun _ _ e' => (by cases e'), fun _ _ _ e' => (by cases e')⟩
  · rename_i hrd
    have hro : b.roundOf = none := by have := r.rd; rw [hrd] at this; exact this
    have hfin := finish_op b a ops i rest k
    have hst : ∀ cs' v, (match tryRecover (b.atR a (.inRegion ops (i :: rest) :: k)) cs with | some (v, cs') => (v, cs') | none => (Value.nilIface, cs)) = (v, cs') →
        step P (lone (b.atR a (.inRegion ops (i :: rest) :: k)) cs w) = .next (lone (b.atR (a.put o.dst v) (.inRegion ops rest :: k)) cs' w) := by
      intro cs' v htr
      refine step_lone_go ?_
      rw [stepGR_op hoi hw, hro, Oper.semAt_none, ← hfin v o hoi]
      have hroF : (b.atR a (.inRegion ops (i :: rest) :: k)).roundOf = none := hro
      simp only [stepG.apply, Sem.runT_eq, hrun, hroF, if_true, GStep.bare_after]
      cases ht : tryRecover (b.atR a (.inRegion ops (i :: rest) :: k)) cs with
      | none => rw [ht] at htr; simp only [Prod.mk.injEq] at htr; obtain ⟨rfl, rfl⟩ := htr; rfl
      | some x => rw [ht] at htr; obtain ⟨x1, x2⟩ := x; simp only [Prod.mk.injEq] at htr; obtain ⟨rfl, rfl⟩ := htr; rfl
    rcases tryRec r.um (b.atR a (.inRegion ops (i :: rest) :: k)) rfl with ⟨v, v', c', r', hum, hv, rfl, htr⟩ | ⟨hum, htr⟩
    · rw [hum]
      refine ⟨fun fr' h' e' => ?_, fun _ _ _ e' => (by cases e')⟩
      cases e'
      have hkind : b.kind = .deferred := by have := r.um; rw [hum] at this; exact this.1
      obtain ⟨d1, d2, d3, d4⟩ := fr.setUm_eq (.rcd v)
      have r2 : FrR V n (fr.setUm (.rcd v)) b a ({ c' with mode := .panicking [{ v := v', recovered := true }] } :: r') :=
        ⟨⟨r.fs.size, fun i hi => by rw [d4]; exact r.fs.rel i hi⟩, by rw [d1]; exact r.ds, by rw [d2]; exact ⟨hkind, _, _, v', rfl, rfl, hv⟩, by rw [d3]; exact r.rd⟩
      exact ⟨V, w, _, _, .one (hst _ v' (by rw [htr])), r2.put hp hv, hr, Ext.refl _ _ _, .inr ⟨hkind, c', _, r', rfl, rfl⟩⟩
    · split
      · rename_i v hv; exact absurd hv (hum v)
      · refine ⟨fun fr' h' e' => ?_, fun _ _ _ e' => (by cases e')⟩
        cases e'
        exact ⟨V, w, _, cs, .one (hst _ .nilIface (by rw [htr])), r.put hp (by simp [VR]), hr, Ext.refl _ _ _, .refl _ _⟩
end Go.Ev
end

section
/- Each operation that the compiler takes is one of the model's: the list. -/
namespace Go.Ev

/-- what is said of a compiled operation -/
def KS (P : Program) (n : Nat) (o : Oper) (p : Put) : OK1 → Prop
  | .val rd f q => q = p ∧ VS P o f ∧ (rd = false → ∀ fr h h', f fr h = f fr h')
  | .new f mk q => q = p ∧ NS P o f mk ∧ (isRange o.op = false → ∀ fr h h', f fr h = f fr h')
  | .eff F => OpR P n o F ∧ (special o.op = false → ES P o F p)
theorem KS.ofXS {P : Program} {n : Nat} {o : Oper} {p : Put} {F : Op1} (hp : pOf n o.dst = some p) (hd : ∀ c, o.op ≠ .defer c) (s : XS P o F p) : KS P n o p (.eff F) :=
  ⟨(ES.ofXS s hd).op hp, fun _ => ES.ofXS s hd⟩
theorem KS.ofES {P : Program} {n : Nat} {o : Oper} {p : Put} {F : Op1} (hp : pOf n o.dst = some p) (s : ES P o F p) : KS P n o p (.eff F) := ⟨s.op hp, fun _ => s⟩
theorem KS.val {P : Program} {n : Nat} {o : Oper} {p : Put} {f : VF} (s : VS P o f) (hi : ∀ fr h h', f fr h = f fr h') (b : Bool) : KS P n o p (.val b f p) := ⟨rfl, s, fun _ => hi⟩
theorem KS.rd {P : Program} {n : Nat} {o : Oper} {p : Put} {f : VF} (s : VS P o f) : KS P n o p (.val true f p) := ⟨rfl, s, fun h => by cases h⟩
theorem KS.opR {P : Program} {n : Nat} {o : Oper} {p : Put} {x : OK1} (hp : pOf n o.dst = some p) (hd : (∃ F, x = .eff F) ∨ ∀ c, o.op ≠ .defer c) (s : KS P n o p x) : OpR P n o x.run := by
  cases x with
  | val rd f q =>
    obtain ⟨rfl, h1, _⟩ := s
    rcases hd with ⟨F, h⟩ | hd
    · cases h
    · exact (ES.ofXS h1.xs hd).op hp
  | new f mk q =>
    obtain ⟨rfl, h1, _⟩ := s
    rcases hd with ⟨F, h⟩ | hd
    · cases h
    · exact (ES.ofXS h1.xs hd).op hp
  | eff F => exact s.1

theorem cEq_ty {E : Env} {t : Nat} {q : EqK} (e : cEq E t = some q) : ∃ i, E.ty t = some i := by
  unfold cEq at e
  split at e
  · exact ⟨_, by assumption⟩
  · cases e
theorem cKey_spec {E : Env} (hE : EnvS E) {t : Nat} {q : EqK} (e : cKey E t = some q) : EqS E.P t q ∧ keyOk q = true ∧ ∃ i, TIS E.P t i := by
  unfold cKey at e
  split at e
  · rename_i q' hq
    split at e
    · rename_i hk
      cases e
      obtain ⟨i, hi⟩ := cEq_ty hq
      exact ⟨cEq_spec hE hq, hk, i, tiOf_spec (hE t i hi)⟩
    · cases e
  · cases e
theorem elemOf_spec {E : Env} (hE : EnvS E) {t e : Nat} {ti : TI} (h : elemOf E t = some (e, ti)) : E.P.underlying t = some (.slice e) ∧ TIS E.P e ti := by
  unfold elemOf at h
  split at h
  · rename_i i hi
    split at h
    · rename_i e' hd
      split at h
      · rename_i ti' hti
        cases h
        exact ⟨by rw [(tiOf_spec (hE t i hi)).und, hd], tiOf_spec (hE _ _ hti)⟩
      · cases h
    · cases h
  · cases h
theorem und_of {E : Env} (hE : EnvS E) {t : Nat} {i : TI} {d : TypeDesc} (h : E.ty t = some i) (hd : i.d = d) : E.P.underlying t = some d := by
  rw [(tiOf_spec (hE t i h)).und, hd]
theorem TI.zero_z {i : TI} {z : AV} (h : i.zero = some z) : ∃ l, i.z = some l := by
  unfold TI.zero at h
  split at h
  · exact ⟨_, by assumption⟩
  · cases h

section
variable {E : Env} (hE : EnvS E) {n : Nat} {o : Oper} {p : Put} (hp : pOf n o.dst = some p)
include hE hp

theorem cBin_ks {op : BinOp} {t : Nat} {x y : Operand} {yt : Nat} {k : OK1} (ho : o.op = .binOp op t x y yt) (e : cBin E p op t x y = some k) : KS E.P n o p k := by
  have _ := hp
  unfold cBin at e
  split at e
  · rename_i i a b hi ha hb
    split at e
    · split at e
      · cases e; exact KS.val (VS.shBin ho ha hb) (fun _ _ _ => rfl) _
      · cases e
    · split at e
      · cases e; exact KS.val (VS.shBin ho ha hb) (fun _ _ _ => rfl) _
      · cases e
    · rename_i hs1 hs2
      split at e
      · cases e; exact KS.val (VS.intBin ho ha hb ⟨hs1, hs2⟩) (fun _ _ _ => rfl) _
      · cases e; exact KS.val (VS.strBin ho ha hb ⟨hs1, hs2⟩) (fun _ _ _ => rfl) _
      · rename_i d hd1 hd2
        have hu := (tiOf_spec (hE t i hi)).und
        split at e
        · rename_i q hq
          cases e; exact KS.val (VS.eqBin ho ha hb (neg := false) rfl hu ⟨hd1, hd2⟩ (cEq_spec hE hq)) (fun _ _ _ => rfl) _
        · rename_i q hq
          cases e; exact KS.val (VS.eqBin ho ha hb (neg := true) rfl hu ⟨hd1, hd2⟩ (cEq_spec hE hq)) (fun _ _ _ => rfl) _
        · cases e
  · cases e

theorem cConv_ks {s d : Nat} {x : Operand} {k : OK1} (ho : o.op = .convert s d x) (e : cConv E p s d x = some k) : KS E.P n o p k := by
  have hnd : ∀ c, o.op ≠ .defer c := by rw [ho]; intro c h; cases h
  unfold cConv at e
  split at e
  · rename_i si di g hs hd hg
    split at e
    · rename_i h1 h2; cases e; exact KS.val (VS.convInt ho hg (und_of hE hs h1) (und_of hE hd h2)) (fun _ _ _ => rfl) _
    · rename_i h1 h2; cases e; exact KS.val (VS.convStr ho hg (und_of hE hs h1) (und_of hE hd h2)) (fun _ _ _ => rfl) _
    · rename_i h1 h2
      split at e
      · rename_i ei hei
        split at e
        · rename_i h3; cases e; exact KS.ofXS hp hnd (XS.strToBytes ho hg (und_of hE hs h1) (und_of hE hd h2) (und_of hE hei h3))
        · cases e
      · cases e
    · rename_i h1 h2
      split at e
      · rename_i ei hei
        split at e
        · rename_i h3; cases e; exact KS.rd (VS.bytesToStr ho hg (und_of hE hs h1) (und_of hE hei h3) (und_of hE hd h2))
        · cases e
      · cases e
    · rename_i h1 h2
      split at e
      · rename_i ei hei
        split at e
        · cases e
        · rename_i h0; cases e; exact KS.rd (VS.toUnsafe ho hg (und_of hE hs h1) (und_of hE hd h2) (tiOf_spec (hE _ _ hei)) h0)
      · cases e
    · rename_i h1 h2
      split at e
      · rename_i ei hei
        split at e
        · cases e
        · rename_i h0; cases e; exact KS.rd (VS.ofUnsafe ho hg (und_of hE hs h1) (und_of hE hd h2) (tiOf_spec (hE _ _ hei)) h0)
      · cases e
    · cases e
  · cases e

theorem cBuiltin_ks {c : Go.Call} {b : Builtin} {as : List Get} {k : OK1} (ho : o.op = .call c) (hb : c.callee = .builtin b) (ea : cOpds c.args.toList = some as) (e : cBuiltin E p b c.argTypes as = some k) : KS E.P n o p k := by
  have hnd : ∀ c, o.op ≠ .defer c := by rw [ho]; intro c h; cases h
  unfold cBuiltin at e
  split at e
  · split at e
    · cases e
      exact ⟨OpR.xRecover hp ho hb, fun h => by simp [special, ho, hb] at h⟩
    · cases e
  · rename_i x
    split at e
    · split at e
      · rename_i t ht
        split at e
        · rename_i i hi
          have ti := tiOf_spec (hE t i hi)
          split at e
          · rename_i hd; cases e; exact KS.val (VS.lenS ho hb ea ht ti hd) (fun _ _ _ => rfl) _
          · rename_i hd; cases e; exact KS.val (VS.lenV ho hb ea ht ti hd) (fun _ _ _ => rfl) _
          · rename_i hd; cases e; exact KS.rd (VS.lenM ho hb ea ht ti hd)
          · cases e
        · cases e
      · cases e
    · split at e
      · rename_i t ht
        split at e
        · rename_i y hy
          obtain ⟨e', ti'⟩ := y
          cases e
          obtain ⟨h1, h2⟩ := elemOf_spec hE hy
          unfold elemOf at hy
          split at hy
          · rename_i i hi
            have ti := tiOf_spec (hE t i hi)
            have hd : i.d = .slice e' := by have := ti.und; rw [h1] at this; exact (Option.some.inj this).symm
            exact KS.val (VS.cap ho hb ea ht ti hd) (fun _ _ _ => rfl) _
          · cases hy
        · cases e
      · cases e
    · split at e
      · rename_i t ht
        split at e
        · rename_i i hi
          split at e
          · rename_i hd
            split at e
            · rename_i ti hti
              split at e
              · rename_i z hz; cases e; exact KS.ofXS hp hnd (XS.clearV ho hb ea ht (und_of hE hi hd) (tiOf_spec (hE _ _ hti)) hz)
              · cases e
            · cases e
          · rename_i hd; cases e; exact KS.ofXS hp hnd (XS.clearM ho hb ea ht (und_of hE hi hd))
          · cases e
        · cases e
      · cases e
    · cases e; exact KS.val (VS.sliceData ho hb ea) (fun _ _ _ => rfl) _
    · cases e
  · rename_i x y
    split at e
    · split at e
      · rename_i t t1 hts
        split at e
        · rename_i e' ti i1 h1 h2
          obtain ⟨g1, g2⟩ := elemOf_spec hE h1
          split at e
          · rename_i z hd hz
            split at e
            · cases e
            · rename_i h0; cases e
              exact KS.ofXS hp hnd (XS.append ho hb ea hts g1 g2 hz h0 (.inl ⟨_, und_of hE h2 hd⟩))
          · rename_i z hd hz
            split at e
            · cases e
            · rename_i h0; cases e
              exact KS.ofXS hp hnd (XS.append ho hb ea hts g1 g2 hz h0 (.inr (und_of hE h2 hd)))
          · cases e
        · cases e
      · cases e
    · split at e
      · rename_i t ht
        split at e
        · rename_i e' ti h1
          obtain ⟨g1, g2⟩ := elemOf_spec hE h1
          cases e; exact KS.ofXS hp hnd (XS.copy ho hb ea ht g1 g2)
        · cases e
      · cases e
    · split at e
      · rename_i t ht
        split at e
        · rename_i i hi
          split at e
          · rename_i hd
            split at e
            · rename_i q hq
              obtain ⟨g1, g2, ki, g3⟩ := cKey_spec hE hq
              cases e; exact KS.ofXS hp hnd (XS.delete ho hb ea ht (und_of hE hi hd) g1 g2 g3)
            · cases e
          · cases e
        · cases e
      · cases e
    · cases e; exact KS.val (VS.max ho hb ea) (fun _ _ _ => rfl) _
    · cases e; exact KS.val (VS.min ho hb ea) (fun _ _ _ => rfl) _
    · split at e
      · rename_i t ht
        split at e
        · rename_i i hi
          split at e
          · rename_i hd
            split at e
            · rename_i ei hei
              split at e
              · rename_i h1; cases e; exact KS.ofXS hp hnd (XS.unsafeStr ho hb ea ht (und_of hE hi hd) (tiOf_spec (hE _ _ hei)) h1)
              · cases e
            · cases e
          · cases e
        · cases e
      · cases e
    · cases e
  · cases e

theorem cCall_ks {c : Go.Call} {k : OK1} (ho : o.op = .call c) (e : cCall E p c = some k) : KS E.P n o p k := by
  unfold cCall at e
  split at e
  · rename_i as ha
    split at e
    · rename_i x hc
      split at e
      · cases e; exact KS.ofES hp (ES.xCall ho hc ha)
      · split at e
        · rename_i g hg; cases e; exact KS.ofES hp (ES.xCallV ho hc hg ha)
        · cases e
    · rename_i x m hc
      split at e
      · rename_i g hg; cases e; exact KS.ofES hp (ES.xInvoke ho hc hg ha)
      · cases e
    · rename_i b hc; exact cBuiltin_ks hE hp ho hc ha e
  · cases e

theorem cOp2_ks {k : OK1} (e : cOp2 E p o.op = some k) : KS E.P n o p k := by
  unfold cOp2 at e
  split at e
  · rename_i x ho
    split at e
    · rename_i g hg; cases e; exact KS.val (VS.move (.inl ho) hg) (fun _ _ _ => rfl) _
    · cases e
  · rename_i x ho
    split at e
    · rename_i g hg; cases e; exact KS.val (VS.move (.inr ho) hg) (fun _ _ _ => rfl) _
    · cases e
  · rename_i ho
    split at e
    · rename_i hc ha hb; cases e; exact KS.val (VS.pick ho hc ha hb) (fun _ _ _ => rfl) _
    · cases e
  · rename_i t ho
    split at e
    · rename_i i hi
      split at e
      · rename_i z hz; cases e; exact ⟨rfl, NS.alloc ho (tiOf_spec (hE t i hi)) hz, fun _ _ _ _ => rfl⟩
      · cases e
    · cases e
  · rename_i t x ho
    split at e
    · rename_i g hg; cases e; exact ⟨rfl, NS.box ho hg, fun _ _ _ _ => rfl⟩
    · cases e
  · rename_i t ps ho
    split at e
    · rename_i i hi
      have ti := tiOf_spec (hE t i hi)
      split at e
      · rename_i z fs hz hd
        split at e
        · rename_i hall
          split at e
          · rename_i l hl
            cases e
            refine KS.val (VS.buildStruct ho ti hz hd (fun t i h => tiOf_spec (hE t i h)) (fun f hf => ?_) hl) (fun _ _ _ => rfl) _
            have := List.all_eq_true.1 hall f hf
            obtain ⟨fi, hfi⟩ := Option.isSome_iff_exists.1 this
            exact ⟨fi, tiOf_spec (hE _ _ hfi)⟩
          · cases e
        · cases e
      · rename_i z len el hz hd
        split at e
        · rename_i ei hei
          split at e
          · rename_i l hl
            cases e
            exact KS.val (VS.buildArray ho ti hz hd (tiOf_spec (hE _ _ hei)) hl) (fun _ _ _ => rfl) _
          · cases e
        · cases e
      · cases e
    · cases e
  · rename_i t len ps ho
    split at e
    · rename_i el ei h1
      obtain ⟨g1, g2⟩ := elemOf_spec hE h1
      split at e
      · rename_i z hz
        split at e
        · rename_i l hl
          split at e
          · rename_i hle; cases e; exact ⟨rfl, NS.buildSlice ho g1 g2 hz hl hle, fun _ _ _ _ => rfl⟩
          · cases e
        · cases e
      · cases e
    · cases e
  · rename_i t ax ho
    split at e
    · rename_i i g hi hg
      have ti := tiOf_spec (hE t i hi)
      split at e
      · rename_i ha; cases e; exact KS.rd (VS.loadN ho hg ti ha)
      · rename_i ha; cases e; exact KS.rd (VS.load1 ho hg ti (by simpa using ha))
    · cases e
  · rename_i t ax vx ho
    split at e
    · rename_i i g v hi hg hv
      cases e; exact KS.ofXS hp (by rw [ho]; intro c h; cases h) (XS.store ho hg hv (tiOf_spec (hE t i hi)))
    · cases e
  · rename_i x ho
    split at e
    · rename_i g hg; cases e; exact KS.val (VS.nilCheck ho hg) (fun _ _ _ => rfl) _
    · cases e
  · rename_i op t x y yt ho
    exact cBin_ks hE hp ho e
  · rename_i op t x ho
    split at e
    · rename_i g hg; cases e; exact KS.val (VS.notA ho hg) (fun _ _ _ => rfl) _
    · rename_i g hg; cases e; exact KS.val (VS.negA ho hg) (fun _ _ _ => rfl) _
    · cases e
  · rename_i s d x ho
    exact cConv_ks hE hp ho e
  · rename_i t x ho
    split at e
    · rename_i i g hi hg
      split at e
      · cases e
      · rename_i hd; cases e; exact KS.val (VS.mkIface ho hg (tiOf_spec (hE t i hi)).und hd) (fun _ _ _ => rfl) _
    · cases e
  · rename_i f fa fb ho
    split at e
    · rename_i ga gb ha hb
      split at e
      · cases e; exact KS.val (VS.mkFunc ho ha hb) (fun _ _ _ => rfl) _
      · cases e
    · cases e
  · rename_i t r ho
    split at e
    · cases e; exact ⟨rfl, NS.map ho, fun _ _ _ _ => rfl⟩
    · cases e
  · rename_i t lx cx ho
    split at e
    · rename_i el ei gl gc h1 hl hc
      obtain ⟨g1, g2⟩ := elemOf_spec hE h1
      split at e
      · rename_i z hz; cases e; exact KS.ofXS hp (by rw [ho]; intro c h; cases h) (XS.mkSlice ho hl hc g1 g2 hz)
      · cases e
    · cases e
  · rename_i t x lo hi mx ho
    split at e
    · rename_i i g glo ghi gmx hi' hg hlo hhi hmx
      split at e
      · rename_i hd
        split at e
        · rename_i hm
          have : mx = none := by
            cases mx with
            | none => rfl
            | some m => unfold optGet at hmx; simp only at hmx; split at hmx <;> cases hmx
          subst this
          cases e; exact KS.val (VS.sliceS ho hg hlo hhi (und_of hE hi' hd)) (fun _ _ _ => rfl) _
        · cases e
      · rename_i hd
        split at e
        · rename_i ei hei
          split at e
          · cases e
          · rename_i hm
            cases e
            refine KS.val (VS.sliceV ho hg hlo hhi hmx (fun h1 h2 => ?_) (und_of hE hi' hd) (tiOf_spec (hE _ _ hei))) (fun _ _ _ => rfl) _
            subst h2
            cases mx with
            | none => exact h1 rfl
            | some m =>
              have e2 : ghi = none := by unfold optGet at hhi; simpa using hhi.symm
              unfold optGet at hmx
              simp only at hmx
              split at hmx
              · cases hmx; subst e2; exact hm _ rfl rfl
              · cases hmx
        · cases e
      · cases e
    · cases e
  · rename_i s x f ho
    split at e
    · rename_i off ti g h1 hg
      unfold fieldOf at h1
      split at h1
      · rename_i i hi
        split at h1
        · rename_i fs hd
          split at h1
          · rename_i fl hfl
            split at h1
            · rename_i ti' hti
              cases h1
              split at e
              · cases e
              · rename_i h0; cases e; exact KS.val (VS.fieldAddr ho hg (und_of hE hi hd) hfl (tiOf_spec (hE _ _ hti)) h0) (fun _ _ _ => rfl) _
            · cases h1
          · cases h1
        · cases h1
      · cases h1
    · cases e
  · rename_i t x f ho
    split at e
    · rename_i off ti g h1 hg
      unfold fieldOf at h1
      split at h1
      · rename_i i hi
        split at h1
        · rename_i fs hd
          split at h1
          · rename_i fl hfl
            split at h1
            · rename_i ti' hti
              cases h1
              cases e; exact KS.val (VS.field ho hg (und_of hE hi hd) hfl (tiOf_spec (hE _ _ hti))) (fun _ _ _ => rfl) _
            · cases h1
          · cases h1
        · cases h1
      · cases h1
    · cases e
  · rename_i t x ix ho
    split at e
    · rename_i i g g' hi hg hg'
      split at e
      · rename_i hd
        split at e
        · rename_i ei hei; cases e; exact KS.val (VS.indexV ho hg hg' (und_of hE hi hd) (tiOf_spec (hE _ _ hei))) (fun _ _ _ => rfl) _
        · cases e
      · rename_i hd
        split at e
        · rename_i ei hei; cases e; exact KS.val (VS.indexA ho hg hg' (und_of hE hi hd) (tiOf_spec (hE _ _ hei))) (fun _ _ _ => rfl) _
        · cases e
      · cases e
    · cases e
  · rename_i t x ix ho
    split at e
    · rename_i i g g' hi hg hg'
      split at e
      · rename_i hd; cases e; exact KS.val (VS.indexS ho hg hg' (und_of hE hi hd)) (fun _ _ _ => rfl) _
      · rename_i hd
        split at e
        · rename_i ei hei; cases e; exact KS.val (VS.indexG ho hg hg' (und_of hE hi hd) (tiOf_spec (hE _ _ hei))) (fun _ _ _ => rfl) _
        · cases e
      · cases e
    · cases e
  · rename_i t x kx ok ho
    split at e
    · rename_i i g g' hi hg hg'
      split at e
      · rename_i hd
        split at e
        · rename_i ei q hei hq
          obtain ⟨g1, g2, ki, g3⟩ := cKey_spec hE hq
          split at e
          · rename_i z hz
            obtain ⟨l, hl⟩ := TI.zero_z hz
            cases e; exact KS.rd (VS.lookup ho hg hg' (und_of hE hi hd) g1 g2 g3 (tiOf_spec (hE _ _ hei)) hz hl)
          · cases e
        · cases e
      · cases e
    · cases e
  · rename_i t m kx vx ho
    split at e
    · rename_i i gm gk gv hi hm hk hv
      split at e
      · rename_i hd
        split at e
        · rename_i q hq
          obtain ⟨g1, g2, ki, g3⟩ := cKey_spec hE hq
          cases e; exact KS.ofXS hp (by rw [ho]; intro c h; cases h) (XS.mapUpdate ho hm hk hv (und_of hE hi hd) g1 g2 g3)
        · cases e
      · cases e
    · cases e
  · rename_i t x ho
    split at e
    · rename_i i g hi hg
      split at e
      · rename_i hd; cases e; exact ⟨rfl, NS.rangeS ho hg (und_of hE hi hd), fun h => by simp [isRange, ho] at h⟩
      · rename_i hd; cases e; exact ⟨rfl, NS.rangeM ho hg (und_of hE hi hd), fun h => by simp [isRange, ho] at h⟩
      · cases e
    · cases e
  · rename_i it s ho
    have hnd : ∀ c, o.op ≠ .defer c := by rw [ho]; intro c h; cases h
    split at e
    · rename_i g hg
      split at e
      · rename_i hs; subst hs; cases e; exact KS.ofXS hp hnd (XS.nextS ho hg)
      · rename_i hs
        have : s = false := by simpa using hs
        subst this; cases e; exact KS.ofXS hp hnd (XS.nextM ho hg)
    · cases e
  · rename_i it ho
    split at e
    · rename_i g hg; cases e; exact KS.ofXS hp (by rw [ho]; intro c h; cases h) (XS.entry ho hg)
    · cases e
  · rename_i x xt t ok ho
    split at e
    · rename_i i g hi hg
      split at e
      · cases e
      · rename_i hd
        split at e
        · rename_i z hz
          obtain ⟨l, hl⟩ := TI.zero_z hz
          cases e; exact KS.val (VS.typeAssert ho hg (tiOf_spec (hE t i hi)) hd hz hl) (fun _ _ _ => rfl) _
        · cases e
    · cases e
  · rename_i t i ho
    split at e
    · rename_i g hg; cases e; exact KS.val (VS.extract ho hg) (fun _ _ _ => rfl) _
    · cases e
  · rename_i c ho
    exact cCall_ks hE hp ho e
  · rename_i x ho
    split at e
    · rename_i g hg; cases e; exact KS.ofES hp (ES.xPanic ho hg)
    · cases e
  · rename_i c ho
    split at e
    · rename_i as x ha hc
      split at e
      · rename_i g hg; cases e; exact ⟨OpR.xDefer hp ho hc hg ha, fun h => by simp [special, ho] at h⟩
      · cases e
    · cases e
  · cases e
end
end Go.Ev
end

section
/- Code: regions in text order, and control. -/
namespace Go.Ev

def KR (P : Program) (V : Val) (h0 : H) (w : World) (cs : List Frame) (m : Machine) (n : Nat) (b : Frame) (k : List Item) : KRes → Prop
  | .norm fr h => ToNorm P V h0 w cs m n b k fr h
  | .brk id fr h => ∃ k2, exitTo id k2 = exitTo id k ∧ ToNorm P V h0 w cs m n b (.code (.exit id) :: k2) fr h
  | .ret fr h => ∃ k2, ToNorm P V h0 w cs m n b (.code .ret :: k2) fr h
  | .pan v fr h => ToPan P V h0 w cs m n b v fr h
  | .fail _ => True
theorem KR.of_steps {P : Program} {V : Val} {h0 : H} {w : World} {cs : List Frame} {m m' : Machine} {n : Nat} {b : Frame} {k : List Item} {r : KRes} (s : Steps P m m') (t : KR P V h0 w cs m' n b k r) : KR P V h0 w cs m n b k r := by
  cases r with
  | norm fr h => exact ToNorm.of_steps s t
  | brk id fr h => obtain ⟨k2, e, t⟩ := t; exact ⟨k2, e, ToNorm.of_steps s t⟩
  | ret fr h => obtain ⟨k2, t⟩ := t; exact ⟨k2, ToNorm.of_steps s t⟩
  | pan v fr h => exact ToPan.of_steps s t
  | fail n => trivial
theorem KR.ext {P : Program} {V V0 : Val} {h0 h00 : H} {w w0 : World} {cs cs0 : List Frame} {m : Machine} {n : Nat} {b : Frame} {k : List Item} {r : KRes} (e : Ext V0 h00 w0 V h0 w) (hc : Callers b.kind cs0 cs) (t : KR P V h0 w cs m n b k r) : KR P V0 h00 w0 cs0 m n b k r := by
  cases r with
  | norm fr h => exact ToNorm.ext e hc t
  | brk id fr h => obtain ⟨k2, e', t⟩ := t; exact ⟨k2, e', ToNorm.ext e hc t⟩
  | ret fr h => obtain ⟨k2, t⟩ := t; exact ⟨k2, ToNorm.ext e hc t⟩
  | pan v fr h => exact ToPan.ext e hc t
  | fail n => trivial
/-- one item less, if nothing ended there -/
theorem KR.pass {P : Program} {V : Val} {h0 : H} {w : World} {cs : List Frame} {m : Machine} {n : Nat} {b : Frame} {x : Item} {k : List Item} {r : KRes} (hx : ∀ id, exitTo id (x :: k) = exitTo id k) (hr : ∀ fr h, r ≠ .norm fr h) (t : KR P V h0 w cs m n b (x :: k) r) : KR P V h0 w cs m n b k r := by
  cases r with
  | norm fr h => exact absurd rfl (hr fr h)
  | brk id fr h => obtain ⟨k2, e', t⟩ := t; exact ⟨k2, e'.trans (hx id), t⟩
  | ret fr h => exact t
  | pan v fr h => exact t
  | fail n => trivial
/-- what comes behind -/
theorem ToNorm.then {P : Program} {V : Val} {h0 : H} {w : World} {cs : List Frame} {m : Machine} {n : Nat} {b : Frame} {k k' : List Item} {fr : Fr} {h : H} {r : KRes} (t : ToNorm P V h0 w cs m n b k fr h)
    (g : ∀ V' w' a' cs', FrR V' n fr b a' cs' → HR V' h w' → KR P V' h w' cs' (lone (b.atR a' k) cs' w') n b k' r) : KR P V h0 w cs m n b k' r := by
  obtain ⟨V', w', a', cs', s, r1, r2, r3, r4⟩ := t
  exact KR.of_steps s (KR.ext r3 r4 (g V' w' a' cs' r1 r2))
theorem ToNorm.step {P : Program} {V : Val} {h0 : H} {w : World} {cs : List Frame} {m : Machine} {n : Nat} {b : Frame} {k k' : List Item} {fr : Fr} {h : H} (t : ToNorm P V h0 w cs m n b k fr h)
    (g : ∀ a' cs' w', step P (lone (b.atR a' k) cs' w') = .next (lone (b.atR a' k') cs' w')) : ToNorm P V h0 w cs m n b k' fr h := by
  obtain ⟨V', w', a', cs', s, r⟩ := t
  exact ⟨V', w', a', cs', s.trans (.one (g a' cs' w')), r⟩

def CodeR (P : Program) (n : Nat) (c : Code) (K : CW) : Prop := ∀ (call : Call), CallR P call → ∀ (V : Val) (fr : Fr) (h : H) (w : World) (b : Frame) (a : Act) (cs : List Frame) (k : List Item),
  FrR V n fr b a cs → HR V h w → KR P V h w cs (lone (b.atR a (.code c :: k)) cs w) n b k (K.run call fr h)

theorem CodeR.fail {P : Program} {n : Nat} {c : Code} (i : Nat) : CodeR P n c (failK i) := fun _ _ _ _ _ _ _ _ _ _ _ _ => trivial
theorem CodeR.here {P : Program} {n : Nat} {c : Code} (hs : ∀ (b : Frame) a k cs w, step P (lone (b.atR a (.code c :: k)) cs w) = .next (lone (b.atR a k) cs w)) : CodeR P n c ⟨fun _ fr h => .norm fr h⟩ :=
  fun _ _ V _ _ w b a cs k r hr => ⟨V, w, a, cs, .one (hs b a k cs w), r, hr, Ext.refl _ _ _, .refl _ _⟩
theorem CodeR.exit {P : Program} {n : Nat} {id : Nat} : CodeR P n (.exit id) ⟨fun _ fr h => .brk id fr h⟩ :=
  fun _ _ V _ _ w _ a cs k r hr => ⟨k, rfl, V, w, a, cs, .refl P _, r, hr, Ext.refl _ _ _, .refl _ _⟩
theorem CodeR.ret {P : Program} {n : Nat} : CodeR P n .ret ⟨fun _ fr h => .ret fr h⟩ :=
  fun _ _ V _ _ w _ a cs k r hr => ⟨k, V, w, a, cs, .refl P _, r, hr, Ext.refl _ _ _, .refl _ _⟩
theorem CodeR.seq {P : Program} {n : Nat} {x y : Code} {X Y : CW} (hx : CodeR P n x X) (hy : CodeR P n y Y) : CodeR P n (.seq x y) (seqK X Y) := by
  intro call hcall V fr h w b a cs k r hr
  have h1 := hx call hcall V fr h w b a cs (.code y :: k) r hr
  refine KR.of_steps (.one stepR_seq) ?_
  unfold seqK
  simp only
  generalize X.run call fr h = R at h1
  cases R with
  | norm fr' h' => exact ToNorm.then h1 fun V' w' a' cs' r' hr' => hy call hcall V' fr' h' w' b a' cs' k r' hr'
  | brk id fr' h' => exact KR.pass (fun _ => rfl) (by simp) h1
  | ret fr' h' => exact h1
  | pan v fr' h' => exact h1
  | fail i => trivial
theorem CodeR.cond {P : Program} {n : Nat} {c : Operand} {g : Get} {x y : Code} {X Y : CW} (hg : cOpd c = some g) (hx : CodeR P n x X) (hy : CodeR P n y Y) : CodeR P n (.cond c x y) (condK g X Y) := by
  intro call hcall V fr h w b a cs k r hr
  have rc := cOpd_rel r.fs hg
  unfold condK
  simp only
  split
  · rename_i hv
    rw [hv] at rc; simp only [VR] at rc
    exact KR.of_steps (.one (stepR_cond rc)) (by simp only [if_true]; exact hx call hcall V fr h w b a cs k r hr)
  · rename_i hv
    rw [hv] at rc; simp only [VR] at rc
    exact KR.of_steps (.one (stepR_cond rc)) (by simp only [Bool.false_eq_true, if_false]; exact hy call hcall V fr h w b a cs k r hr)
  · trivial
theorem CodeR.block {P : Program} {n : Nat} {id : Nat} {x : Code} {X : CW} (hx : CodeR P n x X) : CodeR P n (.block id x) (blockK id X) := by
  intro call hcall V fr h w b a cs k r hr
  have h1 := hx call hcall V fr h w b a cs (.inBlock id :: k) r hr
  refine KR.of_steps (.one stepR_block) ?_
  unfold blockK
  simp only
  generalize X.run call fr h = R at h1
  cases R with
  | norm fr' h' => exact ToNorm.step h1 fun _ _ _ => stepR_inBlock
  | brk i fr' h' =>
    obtain ⟨k2, e, t⟩ := h1
    simp only
    cases hb : Nat.beq i id with
    | true =>
      have := Nat.eq_of_beq_eq_true hb
      subst this
      refine ToNorm.step t fun a' cs' w' => stepR_exit ?_
      rw [e]; simp [exitTo]
    | false =>
      refine ⟨k2, ?_, t⟩
      rw [e]
      have hne : ¬ id = i := fun h => by subst h; simp at hb
      simp [exitTo, hne]
  | ret fr' h' => exact h1
  | pan v fr' h' => exact h1
  | fail i => trivial
theorem CodeR.scope {P : Program} {n : Nat} {x : Code} {X : CW} (hx : CodeR P n x X) : CodeR P n (.scope x) X := by
  intro call hcall V fr h w b a cs k r hr
  have h1 := hx call hcall V fr h w b a cs (.inScope x :: k) r hr
  have s1 : step P (lone (b.atR a (.code (.scope x) :: k)) cs w) = .next (lone (b.atR a (.code x :: .inScope x :: k)) cs w) := step_lone_go (by simp [stepG, stepG.exec, Frame.atR])
  refine KR.of_steps (.one s1) ?_
  generalize X.run call fr h = R at h1
  cases R with
  | norm fr' h' => exact ToNorm.step h1 fun a' cs' w' => step_lone_go (by simp [stepG, stepG.exec, Frame.atR])
  | brk i fr' h' => exact KR.pass (fun _ => rfl) (by simp) h1
  | ret fr' h' => exact h1
  | pan v fr' h' => exact h1
  | fail i => trivial
theorem CodeR.loop {P : Program} {n : Nat} {x : Code} {X : CW} (hx : CodeR P n x X) (N : Nat) : CodeR P n (.loop x) ⟨fun call fr h => loopN X call N fr h⟩ := by
  intro call hcall V fr h w b a cs k r hr
  refine KR.of_steps (.one stepR_loop) ?_
  simp only
  induction N generalizing V fr h w a cs with
  | zero => trivial
  | succ N ih =>
    have h1 := hx call hcall V fr h w b a cs (.inLoop x :: k) r hr
    simp only [loopN]
    generalize X.run call fr h = R at h1
    cases R with
    | norm fr' h' =>
      refine ToNorm.then h1 fun V' w' a' cs' r' hr' => ?_
      exact KR.of_steps (.one stepR_inLoop) (ih V' fr' h' w' a' cs' r' hr')
    | brk i fr' h' => exact KR.pass (fun _ => rfl) (by simp) h1
    | ret fr' h' => exact h1
    | pan v fr' h' => exact h1
    | fail i => trivial

/-! regions -/
theorem cOpW_op {E : Env} (hE : EnvS E) {n : Nat} {o : Oper} : OpR E.P n o (cOpW E n o).run := by
  unfold cOpW
  split
  · rename_i f hf
    unfold cOp at hf
    split at hf
    · rename_i p hp
      refine (cOp2_ks hE hp hf).opR hp ?_
      cases f with
      | eff F => exact .inl ⟨F, rfl⟩
      | val rd f q =>
        refine .inr fun c hc => ?_
        rw [hc] at hf; simp only [cOp2] at hf
        repeat' (split at hf)
        all_goals cases hf
      | new f mk q =>
        refine .inr fun c hc => ?_
        rw [hc] at hf; simp only [cOp2] at hf
        repeat' (split at hf)
        all_goals cases hf
    · cases hf
  · intro call _ V fr h w b a cs ops i rest k _ _ _ _
    exact ⟨fun _ _ e => (by cases e), fun _ _ _ e => (by cases e)⟩
theorem yielded_bool {V : Val} {n : Nat} {fr : Fr} {tmps : Array Value} {ops : Array Oper} {j d : Nat} {c : Bool} (r : FS V n fr tmps) (hd : d < 512) (hj : (ops[j]?).bind (·.dst) = some d) (hv : (getT d).run fr = .bool c) : yielded ops tmps j = some c := by
  have := r.rel d hd
  rw [hv] at this; simp only [VR] at this
  have h2 : tmps[d]? = some (.bool c) := by
    rw [Array.getD_eq_getD_getElem?] at this
    cases h : tmps[d]? with
    | none => rw [h] at this; simp [undef] at this
    | some v => rw [h] at this; simpa using this
  simp [yielded, hj, h2]
theorem yielded_undef {V : Val} {n : Nat} {fr : Fr} {tmps : Array Value} {ops : Array Oper} {j d : Nat} (r : FS V n fr tmps) (hd : d < 512) (hj : (ops[j]?).bind (·.dst) = some d) (hv : (getT d).run fr = .tup []) : yielded ops tmps j = none := by
  have := r.rel d hd
  rw [hv] at this; simp only [VR, VRs] at this
  obtain ⟨l, this, rfl⟩ := this
  rw [Array.getD_eq_getD_getElem?] at this
  cases h : tmps[d]? with
  | none => simp [yielded, hj, h]
  | some v => rw [h] at this; simp at this; subst this; simp [yielded, hj, h]
/-- an operation with its guard -/
theorem cGuard_op {E : Env} (hE : EnvS E) {n : Nat} {ops : Array Oper} {i : Nat} {o : Oper} (ho : ops[i]? = some o) (call : Call) (hcall : CallR E.P call) (V : Val) (fr : Fr) (h : H) (w : World) (b : Frame) (a : Act) (cs : List Frame) (rest : List Nat) (k : List Item)
    (r : FrR V n fr b a cs) (hr : HR V h w) :
    (∀ fr' h', (cGuard ops E n o).run call fr h = .ok fr' h' → ToNorm E.P V h w cs (lone (b.atR a (.inRegion ops (i :: rest) :: k)) cs w) n b (.inRegion ops rest :: k) fr' h') ∧
    (∀ v fr' h', (cGuard ops E n o).run call fr h = .pan v fr' h' → ToPan E.P V h w cs (lone (b.atR a (.inRegion ops (i :: rest) :: k)) cs w) n b v fr' h') := by
  have bad : ∀ x, (∀ fr' h', ORes.fail x = .ok fr' h' → ToNorm E.P V h w cs (lone (b.atR a (.inRegion ops (i :: rest) :: k)) cs w) n b (.inRegion ops rest :: k) fr' h') ∧
    (∀ v fr' h', ORes.fail x = .pan v fr' h' → ToPan E.P V h w cs (lone (b.atR a (.inRegion ops (i :: rest) :: k)) cs w) n b v fr' h') := fun x => ⟨fun _ _ e => (by cases e), fun _ _ _ e => (by cases e)⟩
  unfold cGuard
  split
  · rename_i hg
    exact cOpW_op hE call hcall V fr h w b a cs ops i rest k r hr ho (by simp [Region.wanted, hg])
  · rename_i j want hg
    split
    · rename_i d p hj hp
      split
      · rename_i hd
        have skip : Region.wanted o (yielded ops a.tmps) = false → ToNorm E.P V h w cs (lone (b.atR a (.inRegion ops (i :: rest) :: k)) cs w) n b (.inRegion ops rest :: k) (p.run (.tup []) fr) h := by
          intro hw
          refine ⟨V, w, a.put o.dst undef, cs, .one ?_, r.put hp (by simp [VR, VRs, undef]), hr, Ext.refl _ _ _, .refl _ _⟩
          have := stepR_op_skip (P := E.P) (b := b) (a := a) (k := k) (cs := cs) (w := w) (ops := ops) (i := i) (rest := rest) (by simp [ho, hw])
          simpa [ho] using this
        simp only
        split
        · rename_i c hv
          have hy := yielded_bool r.fs hd hj hv
          by_cases hc : (c == want) = true
          · rw [if_pos hc]
            exact cOpW_op hE call hcall V fr h w b a cs ops i rest k r hr ho (by simp [Region.wanted, hg, hy, eq_of_beq hc])
          · rw [if_neg hc]
            refine ⟨fun fr' h' e => ?_, fun _ _ _ e => (by cases e)⟩
            cases e
            refine skip ?_
            have : ¬ c = want := fun h => hc (by simp [h])
            simp [Region.wanted, hg, hy, this]
        · rename_i hv
          have hy := yielded_undef r.fs hd hj hv
          refine ⟨fun fr' h' e => ?_, fun _ _ _ e => (by cases e)⟩
          cases e
          exact skip (by simp [Region.wanted, hg, hy])
        · exact bad _
      · exact bad _
    · exact bad _
inductive Lined (ops : Array Oper) : List Nat → List Oper → Prop where
  | nil : Lined ops [] []
  | cons {i : Nat} {o : Oper} {is : List Nat} {os : List Oper} : ops[i]? = some o → Lined ops is os → Lined ops (i :: is) (o :: os)
theorem runOps_ok {E : Env} (hE : EnvS E) {n : Nat} {ops : Array Oper} (call : Call) (hcall : CallR E.P call) (b : Frame) (k : List Item) : ∀ (is : List Nat) (os : List Oper), (Lined ops is os) →
    ∀ (V : Val) (fr : Fr) (h : H) (w : World) (a : Act) (cs : List Frame), FrR V n fr b a cs → HR V h w → KR E.P V h w cs (lone (b.atR a (.inRegion ops is :: k)) cs w) n b k (runOps (os.map (cGuard ops E n)) call fr h) := by
  intro is os hl
  induction hl with
  | nil =>
    intro V fr h w a cs r hr
    exact ⟨V, w, a, cs, .one stepR_region_end, r, hr, Ext.refl _ _ _, .refl _ _⟩
  | cons ho hl ih =>
    rename_i i o is os
    intro V fr h w a cs r hr
    obtain ⟨h1, h2⟩ := cGuard_op hE ho call hcall V fr h w b a cs is k r hr
    simp only [List.map_cons, runOps]
    generalize (cGuard ops E n o).run call fr h = R at h1 h2
    cases R with
    | ok fr' h' => exact ToNorm.then (h1 fr' h' rfl) fun V' w' a' cs' r' hr' => ih V' fr' h' w' a' cs' r' hr'
    | pan v fr' h' => exact h2 v fr' h' rfl
    | fail i => trivial
theorem lined_range (ops : Array Oper) : Lined ops (List.range ops.size) ops.toList := by
  have : ∀ (l r : List Oper), ops.toList = r ++ l → Lined ops (List.range' r.length l.length) l := by
    intro l
    induction l with
    | nil => intro r _; exact .nil
    | cons x l ih =>
      intro r hr
      simp only [List.length_cons, List.range'_succ]
      refine .cons (by rw [← Array.getElem?_toList, hr]; simp) ?_
      have := ih (r ++ [x]) (by simp [hr])
      simpa using this
  have := this ops.toList [] rfl
  simpa [List.range_eq_range'] using this
theorem CodeR.region {E : Env} (hE : EnvS E) {n id : Nat} {ops : Array Oper} : CodeR E.P n (.region id ops false) ⟨fun call fr h => runOps (ops.toList.map (cGuard ops E n)) call fr h⟩ := by
  intro call hcall V fr h w b a cs k r hr
  exact KR.of_steps (.one stepR_region) (runOps_ok hE call hcall b k _ _ (lined_range ops) V fr h w a cs r hr)
end Go.Ev
end

section
/- Range over a function. -/
namespace Go.Ev

theorem run_getLoop {P : Program} {w : World} {l : Nat} {r : Loop} (h : w.heap[l]? = some (.loop r)) : (Instr.getLoop l).run P w = .ok r w := by
  have hg : (getObj l).run P w = .ok (.loop r) w := run_getObj h (by simp)
  simp only [Instr.getLoop, Sem.run_bind, hg, Result.andThen_ok, Sem.run_pure]
theorem HR.loop {V : Val} {h : H} {w : World} (r : HR V h w) {l n : Nat} {st : LoopState} {pend : Option Code} {ft : Fr} {ps : List Nat} {asg body : Code} {d : Nat} (e : h.get l = some (.loop n st pend ft ps asg body d)) :
    ∃ c fn tmps d', V.ρ l = some (c, 0) ∧ w.heap[c]? = some (.loop { state := st, pending := pend, fn, tmps, params := ⟨ps⟩, assign := asg, body, defers := d' }) ∧ TR V n ft tmps ∧ V.ρ d = some (d', 0) := by
  obtain ⟨c, sh, o, h1, h2, rfl, fn, tmps, d', rfl, h3, h4⟩ := r.blk l _ e
  exact ⟨c, fn, tmps, d', h1, h2, h3, h4⟩
theorem HR.setLoop {V : Val} {h : H} {w : World} (r : HR V h w) {l n : Nat} {st : LoopState} {pend : Option Code} {ft : Fr} {ps : List Nat} {asg body : Code} {d : Nat} (e : h.get l = some (.loop n st pend ft ps asg body d)) {c fn d' : Nat} {tmps : Array Value}
    (hc : V.ρ l = some (c, 0)) (ht : TR V n ft tmps) (hd : V.ρ d = some (d', 0)) (st' : LoopState) (pend' : Option Code) :
    HR V (h.put l (.loop n st' pend' ft ps asg body d)) { w with heap := w.heap.setIfInBounds c (.loop { state := st', pending := pend', fn, tmps, params := ⟨ps⟩, assign := asg, body, defers := d' }) } ∧
    Ext V h w V (h.put l (.loop n st' pend' ft ps asg body d)) { w with heap := w.heap.setIfInBounds c (.loop { state := st', pending := pend', fn, tmps, params := ⟨ps⟩, assign := asg, body, defers := d' }) } := by
  refine ⟨r.set hc _ _ (r.excl hc e rfl rfl) ⟨rfl, fn, tmps, d', rfl, ht, hd⟩ (fun a el fz h => by cases h), Ext.set e hc _ _⟩

theorem rangeGo_ok {P : Program} {n : Nat} {f : Operand} {g : Get} {ps : Array Nat} {asg body : Code} (hg : cOpd f = some g) (call : Call) (hcall : CallR P call) (V : Val) (fr : Fr) (h : H) (w w0 : World) (b : Frame) (a a0 : Act) (cs : List Frame) (k : List Item) (d d' : Nat)
    (r : FrR V n fr b a cs) (hr : HR V h w) (hd : V.ρ d = some (d', 0)) (m0 : Frame) (_ha0 : a0.eval = a.eval)
    (hs : (stepG P true { frame := m0, callers := cs, status := .running, dying := none } w0).bare =
      (stepG.apply P true (b.atR a (.inRangeFunc w.heap.size :: k)) cs none (do let d ← resolve a.eval { callee := .value f, args := #[.const (.func (.yield w.heap.size) #[] #[])], argTypes := #[] } 0; invoke d.target d.args)
        { w with heap := w.heap.push (.loop { state := .ready, pending := none, fn := b.fn, tmps := a.tmps, params := ps, assign := asg, body, defers := d' }) }).bare) :
    KR P V h w cs (lone m0 cs w0) n b k (rangeGo n g ps.toList asg body call fr d h) := by
  unfold rangeGo
  rw [H.alloc_eq]
  split
  · trivial
  let ob : Obj := .loop { state := .ready, pending := none, fn := b.fn, tmps := a.tmps, params := ps, assign := asg, body, defers := d' }
  let V1 := V.bind h.nx (w.heap.size, 0) (objCells ob)
  have hle : V.le V1 := (Ext.alloc hr .defd ob).le
  have hr1 : HR V1 (h.new (.loop n .ready none fr ps.toList asg body d)) { w with heap := w.heap.push ob } :=
    hr.alloc' _ ob ⟨rfl, b.fn, a.tmps, d', rfl, ⟨r.fs.size, fun i hi => VR.mono hle _ _ (r.fs.rel i hi)⟩, hle.ρ _ _ hd⟩
  have hex1 : Ext V h w V1 (h.new (.loop n .ready none fr ps.toList asg body d)) { w with heap := w.heap.push ob } := Ext.alloc hr _ ob
  have hid : V1.ρ h.nx = some (w.heap.size, 0) := Val.bind_self ..
  have rx := cOpd_rel r.fs hg
  split
  · rename_i fi first cap hv
    rw [hv] at rx; simp only [VR, FnR] at rx
    obtain ⟨f', a', c', hvx, rfl, r2, r3⟩ := rx
    have hargs : VRs V1 ((first ++ [.fn (.yield h.nx) [] []]) ++ cap) ((a' ++ [.func (.yield w.heap.size) #[] #[]]) ++ c') := by
      refine ((VRs.mono hle _ _ r2).append ?_).append (VRs.mono hle _ _ r3)
      simp only [VRs, VR, FnR]
      exact ⟨_, [], rfl, ⟨_, [], [], rfl, ⟨_, hid, rfl⟩, rfl, rfl⟩, rfl⟩
    obtain ⟨c1, c2⟩ := hcall V1 _ _ (.func fi) (.func fi) _ _ (b.atR a (.inRangeFunc w.heap.size :: k)) cs hr1 rfl hargs
    have hsem : ∀ w' : World, (do let d ← resolve a.eval { callee := .value f, args := #[.const (.func (.yield w.heap.size) #[] #[])], argTypes := #[] } 0; invoke d.target d.args : Sem Next).run P w' = (fnSem (.func fi) ((a' ++ [.func (.yield w.heap.size) #[] #[]]) ++ c')).run P w' := by
      intro w'
      rw [run_call_value (x := f) rfl hvx]; rfl
    have hstep : ∀ m, nextM P (b.atR a (.inRangeFunc w.heap.size :: k)) cs ((fnSem (.func fi) ((a' ++ [.func (.yield w.heap.size) #[] #[]]) ++ c')).run P { w with heap := w.heap.push ob }) = some m → step P (lone m0 cs w0) = .next m := by
      intro m hm
      exact step_apply (plainTop_atR _ _ _ _ (by simp)) hs (by rw [hsem]; exact hm)
    split
    · rename_i v h2 hc
      obtain ⟨V2, w2, v', m, e1, e2, hr2, hx2, _⟩ := c1 v h2 hc
      have hst : Steps P (lone m0 cs w0) (lone (b.atR a (.endRangeFunc w.heap.size :: k)) cs w2) := .head (hstep m e1) e2
      have hex2 := hex1.trans hx2
      have r' : FrR V2 n fr b a cs := r.mono hex2.le
      split
      · trivial
      · rename_i n3 st pend ft3 ps3 asg3 body3 d3 hnb hget
        obtain ⟨c3, fn3, t3, dd3, q1, q2, q3, q4⟩ := hr2.loop hget
        have hcc : V2.ρ h.nx = some (w.heap.size, 0) := hx2.le.ρ _ _ hid
        rw [hcc] at q1; cases q1
        have hne : st ≠ .busy := fun hb => hnb hb
        obtain ⟨g1, g2⟩ := hr2.setLoop hget (fn := fn3) hcc q3 q4 .exhausted pend
        have hend : (Instr.endLoop w.heap.size).run P w2 = .ok pend { w2 with heap := w2.heap.setIfInBounds w.heap.size (.loop { state := .exhausted, pending := pend, fn := fn3, tmps := t3, params := ⟨ps3⟩, assign := asg3, body := body3, defers := dd3 }) } := by
          have hb : (st == LoopState.busy) = false := by cases st <;> first | rfl | exact absurd rfl hne
          simp only [Instr.endLoop, Sem.run_bind, run_getLoop q2, Result.andThen_ok, hb, Bool.false_eq_true, if_false, Sem.run_pure, run_setObj _ q2 (by simp)]
        have hst2 : ∀ k', k' = (pend.map Item.code).toList ++ k → step P (lone (b.atR a (.endRangeFunc w.heap.size :: k)) cs w2) = .next (lone (b.atR a k') cs { w2 with heap := w2.heap.setIfInBounds w.heap.size (.loop { state := .exhausted, pending := pend, fn := fn3, tmps := t3, params := ⟨ps3⟩, assign := asg3, body := body3, defers := dd3 }) }) := by
          intro k' hk'
          subst hk'
          refine step_lone_go ?_
          simp [stepG, stepG.exec, Frame.atR, hend]
        have base : ∀ k', k' = (pend.map Item.code).toList ++ k → ToNorm P V h w cs (lone m0 cs w0) n b k' fr (h2.put h.nx (.loop n3 .exhausted pend ft3 ps3 asg3 body3 d3)) := fun k' hk' =>
          ⟨V2, _, a, cs, hst.trans (.one (hst2 k' hk')), r', g1, hex2.trans g2, .refl _ _⟩
        simp only
        split
        · exact base k rfl
        · exact ⟨k, rfl, base _ rfl⟩
        · exact ⟨k, base _ rfl⟩
        · trivial
      · trivial
    · rename_i v h2 hc
      obtain ⟨V2, w2, v', m, e1, e2, hr2, hx2, hv'⟩ := c2 v h2 hc
      have hex2 := hex1.trans hx2
      exact ⟨V2, w2, a, cs, _, v', .head (hstep m e1) e2, r.mono hex2.le, hr2, hex2, .refl _ _, hv'⟩
    · trivial
  · trivial
theorem newObj_push (w : World) (o1 o2 : Obj) : ({ ({ w with heap := w.heap.push o1 } : World) with heap := (w.heap.push o1).push o2 } : World) = { w with heap := (w.heap.push o1).push o2 } := rfl
theorem CodeR.rangeFunc {P : Program} {n : Nat} {f : Operand} {g : Get} {ps : Array Nat} {asg body : Code} (hg : cOpd f = some g) : CodeR P n (.rangeFunc f ps asg body) (rangeK n g ps.toList asg body) := by
  intro call hcall V fr h w b a cs k r hr
  unfold rangeK
  simp only
  split
  · rename_i hrd
    have hro : b.roundOf = none := by have := r.rd; rw [hrd] at this; exact this
    rw [H.alloc_eq]
    split
    · trivial
    let V1 := V.bind h.nx (w.heap.size, 0) (objCells (.deferred (some [])))
    have hr1 : HR V1 (h.new .defd) { w with heap := w.heap.push (.deferred (some [])) } := hr.alloc' _ _ ⟨rfl, rfl⟩
    have hex1 : Ext V h w V1 (h.new .defd) { w with heap := w.heap.push (.deferred (some [])) } := Ext.alloc hr _ _
    have hid : V1.ρ h.nx = some (w.heap.size, 0) := Val.bind_self ..
    have r1 := r.mono hex1.le
    let lo : Obj := .loop { state := .ready, pending := none, fn := b.fn, tmps := a.tmps, params := ps, assign := asg, body, defers := w.heap.size }
    -- the loop's own block comes next: it holds the block of the deferred calls
    have key := rangeGo_ok (P := P) (n := n) (ps := ps) (asg := asg) (body := body) hg call hcall V1 (fr.defer (.coll h.nx)) (h.new .defd) { w with heap := w.heap.push (.deferred (some [])) } w b
      { tmps := a.tmps, defers := { target := .collected w.heap.size, args := #[] } :: a.defers } a cs k h.nx w.heap.size ?_ hr1 hid (b.atR a (.code (.rangeFunc f ps asg body) :: k)) rfl ?_
    · exact KR.ext hex1 (.refl _ _) key
    · obtain ⟨d1, d2, d3, d4⟩ := fr.defer_eq (.coll h.nx)
      exact ⟨⟨r1.fs.size, fun i hi => by rw [d4]; exact r1.fs.rel i hi⟩, by rw [d1]; exact ⟨_, _, rfl, ⟨_, hid, rfl⟩, r1.ds⟩, by rw [d2]; exact r1.um, by rw [d3]; exact r1.rd⟩
    · have hrun : (Instr.enterLoop b.fn a.tmps ps asg body none).run P w = .ok (w.heap.size + 1, [{ target := .collected w.heap.size, args := #[] }]) { w with heap := (w.heap.push (.deferred (some []))).push lo } := by
        simp [Instr.enterLoop, lo]
        rfl
      simp only [stepG, stepG.exec, Frame.atR, hro, Sem.runT_eq, hrun, GStep.bare_after, Array.size_push, List.singleton_append]
      rfl
  · rename_i l hrd
    obtain ⟨c, hc, hro⟩ : ∃ c, V.ρ l = some (c, 0) ∧ b.roundOf = some c := by have := r.rd; rw [hrd] at this; exact this
    split
    · rename_i n0 st0 pend0 ft0 ps0 asg0 body0 d hget
      obtain ⟨c3, fn3, t3, d', q1, q2, q3, q4⟩ := hr.loop hget
      rw [hc] at q1; cases q1
      refine rangeGo_ok hg call hcall V fr h w w b a a cs k d d' r hr q4 _ rfl ?_
      have hrun : (Instr.enterLoop b.fn a.tmps ps asg body (some c)).run P w = .ok (w.heap.size, []) { w with heap := w.heap.push (.loop { state := .ready, pending := none, fn := b.fn, tmps := a.tmps, params := ps, assign := asg, body, defers := d' }) } := by
        simp [Instr.enterLoop, run_getLoop q2]
      simp only [stepG, stepG.exec, Frame.atR, hro, Sem.runT_eq, hrun, GStep.bare_after, List.nil_append]
      rfl
    · trivial
end Go.Ev
end

section
/- Functions: entry, results, what is deferred. -/
namespace Go.Ev

/-! entry -/
def setAll : List Nat → List Value → Array Value → Array Value
  | t :: ts, v :: vs, a => setAll ts vs (a.setIfInBounds t v)
  | _, _, a => a
theorem FS.setTs {V : Val} {n : Nat} : ∀ (ts : List Nat) (vs : List AV) (us : List Value) (fr fr' : Fr) (t : Array Value), FS V n fr t → VRs V vs us → Ev.setTs n ts vs fr = some fr' →
    FS V n fr' (setAll ts us t) ∧ fr'.ds = fr.ds ∧ fr'.um = fr.um ∧ fr'.rd = fr.rd ∧ ts.length = vs.length := by
  intro ts
  induction ts with
  | nil =>
    intro vs us fr fr' t r hv e
    cases vs with
    | nil => cases e; exact ⟨r, rfl, rfl, rfl, rfl⟩
    | cons _ _ => cases e
  | cons x ts ih =>
    intro vs us fr fr' t r hv e
    cases vs with
    | nil => cases e
    | cons v vs =>
      simp only [VRs] at hv
      obtain ⟨u, us', rfl, h1, h2⟩ := hv
      simp only [Ev.setTs] at e
      cases hb : (Nat.blt x n && Nat.blt x 512) with
      | false => rw [hb] at e; cases e
      | true =>
        rw [hb] at e; simp only [cond_true] at e
        simp only [Bool.and_eq_true] at hb
        have hx1 : x < n := Nat.le_of_ble_eq_true hb.1
        have hx2 : x < 512 := Nat.le_of_ble_eq_true hb.2
        have hp : pOf n (some x) = some (putT x) := by simp [pOf, hx1, hx2]
        obtain ⟨g1, g2, g3, g4, _⟩ := pOf_put (a := { tmps := t, defers := [] }) hp r h1
        obtain ⟨k1, k2, k3, k4, k5⟩ := ih vs us' _ fr' _ g1 h2 e
        exact ⟨k1, k2.trans g2, k3.trans g3, k4.trans g4, by simp [k5]⟩
theorem setAll_size : ∀ (ts : List Nat) (us : List Value) (a : Array Value), (setAll ts us a).size = a.size := by
  intro ts
  induction ts with
  | nil => intro us a; rfl
  | cons t ts ih => intro us a; cases us with | nil => rfl | cons u us => simp [setAll, ih]
theorem setAll_range : ∀ (us : List Value) (s : Nat) (a : Array Value), s + us.length ≤ a.size → ∀ i, (setAll (List.range' s us.length) us a)[i]? = if s ≤ i ∧ i < s + us.length then us[i - s]? else a[i]? := by
  intro us
  induction us with
  | nil => intro s a _ i; simp only [List.length_nil, List.range'_zero, setAll]; rw [if_neg (by omega)]
  | cons u us ih =>
    intro s a h i
    simp only [List.length_cons] at h ⊢
    simp only [List.range'_succ, setAll]
    rw [ih (s + 1) _ (by simpa using by omega)]
    by_cases hi : s + 1 ≤ i ∧ i < s + 1 + us.length
    · rw [if_pos hi, if_pos (by omega), show i - s = (i - (s + 1)) + 1 by omega]; simp
    · rw [if_neg hi]
      by_cases he : i = s
      · subst he; rw [if_pos (by omega), Nat.sub_self, Array.getElem?_setIfInBounds_self_of_lt (by omega)]; rfl
      · rw [if_neg (by omega), Array.getElem?_setIfInBounds_ne (fun e => he e.symm)]
theorem setAll_args (us : List Value) (n : Nat) (h : us.length ≤ n) : setAll (List.range us.length) us (Array.replicate n undef) = (⟨us⟩ : Array Value) ++ Array.replicate (n - us.length) undef := by
  apply Array.ext_getElem?
  intro i
  rw [List.range_eq_range', setAll_range us 0 _ (by simpa using h)]
  by_cases hi : i < us.length
  · rw [if_pos (by omega), Array.getElem?_append_left (by simpa using hi)]; simp
  · rw [if_neg (by omega), Array.getElem?_append_right (by simpa using by omega)]
    simp only [Array.getElem?_replicate, List.size_toArray]
    by_cases h2 : i < n
    · rw [if_pos h2, if_pos (by omega)]
    · rw [if_neg h2, if_neg (by omega)]
theorem FS.unk (V : Val) (n : Nat) (u : UM) : FS V n (unkFr.setUm u) (Array.replicate n undef) :=
  ⟨by simp, fun i hi => by rw [(Fr.setUm_eq _ _).2.2.2, getT_unk i hi]; simp [VR]⟩

theorem le_of_setTs {n : Nat} : ∀ (k s : Nat) (vs : List AV) (fr fr' : Fr), Ev.setTs n (List.range' s k) vs fr = some fr' → k = 0 ∨ s + k ≤ n := by
  intro k
  induction k with
  | zero => intro s vs fr fr' _; exact .inl rfl
  | succ k ih =>
    intro s vs fr fr' e
    right
    cases vs with
    | nil => simp [List.range'_succ, Ev.setTs] at e
    | cons v vs =>
      simp only [List.range'_succ, Ev.setTs] at e
      cases hb : (Nat.blt s n && Nat.blt s 512) with
      | false => rw [hb] at e; cases e
      | true =>
        rw [hb] at e; simp only [cond_true] at e
        simp only [Bool.and_eq_true] at hb
        have hx1 : s < n := Nat.le_of_ble_eq_true hb.1
        rcases ih _ _ _ _ e with rfl | h <;> omega
theorem enter_frame {P : Program} {f : Nat} {fn : Func} {c : Code} (hf : P.funcs[f]? = some fn) (hb : fn.body = some c) (args : Array Value) (kind : CallKind) :
    Frame.enter P f args kind = ({ (default : Frame) with fn := f, kind, roundOf := none } : Frame).atR { tmps := args ++ Array.replicate (fn.ntmps - args.size) undef, defers := [] } [.code c] := by
  simp [Frame.enter, Frame.atR, hf, hb]
theorem enter_rel {V : Val} {n : Nat} {args : List AV} {us : List Value} {um : UM} {fr : Fr} (hv : VRs V args us) (e : setTs n (List.range args.length) args (unkFr.setUm um) = some fr) {kind : CallKind} {cs : List Frame} (hu : UMR V um kind cs) (f : Nat) :
    FrR V n fr ({ (default : Frame) with fn := f, kind, roundOf := none } : Frame) { tmps := (⟨us⟩ : Array Value) ++ Array.replicate (n - us.length) undef, defers := [] } cs := by
  obtain ⟨h1, h2, h3, h4, _⟩ := FS.setTs _ _ us _ _ _ (FS.unk V n um) hv e
  have hl : us.length = args.length := hv.length
  have hle : us.length ≤ n := by
    rw [List.range_eq_range'] at e
    rcases le_of_setTs _ _ _ _ _ e with h | h <;> omega
  rw [← hl, setAll_args us n hle] at h1
  obtain ⟨d1, d2, d3, _⟩ := unkFr.setUm_eq um
  exact ⟨h1, by rw [h2, d1]; rfl, by rw [h3, d2]; exact hu, by rw [h4, d3]; rfl⟩

/-! results -/
theorem loadVar_rel {P : Program} {V : Val} {h : H} {w : World} (hr : HR V h w) {t : Nat} {i : TI} (ti : TIS P t i) {b off c sh : Nat} (hc : V.ρ b = some (c, sh)) {v : AV}
    (e : (if i.agg then (match h.read b off i.size with | some c => some (AV.agg c) | none => none) else h.read1 b off) = some v) : ∃ u, (loadVar t ⟨c, sh + off, none⟩).run P w = .ok u w ∧ VR V v u := by
  cases ha : i.agg with
  | false =>
    rw [ha] at e; simp only [Bool.false_eq_true, if_false] at e
    obtain ⟨u, hu, hcr⟩ := hr.read1 hc e
    exact ⟨u, by simp only [loadVar, Sem.run_bind, ti.run_agg, ha, Result.andThen_ok, Bool.false_eq_true, if_false, run_load, hu], hcr.1⟩
  | true =>
    rw [ha] at e; simp only [if_true] at e
    split at e
    · rename_i l hl
      cases e
      obtain ⟨h1, h2⟩ := hr.read hc hl
      obtain ⟨us, hus, hvr, hone⟩ := run_loadCells (P := P) w c (sh + off) l h2
      rw [h1] at hus
      refine ⟨.agg ⟨us⟩, ?_, by simp only [VR]; exact ⟨us, rfl, hvr, hone⟩⟩
      simp only [loadVar, Sem.run_bind, ti.run_agg, ha, Result.andThen_ok, Sem.run_pure, if_true, ti.run_size, hus]
    · cases e
def resOne (tmps : Array Value) : ResultVar → Sem Value
  | .tmp t => pure (tmps.getD t undef)
  | .cell a t => do loadVar t (← asAddr (tmps.getD a undef))
theorem unRes_rel {E : Env} (hE : EnvS E) {V : Val} {n : Nat} {fr : Fr} {tmps : Array Value} {h : H} {w : World} (r : FS V n fr tmps) (hr : HR V h w) : ∀ (rs : List ResultVar) (l : List AV), unRes E fr h rs = some l →
    ∃ us, (rs.mapM (resOne tmps)).run E.P w = .ok us w ∧ VRs V l us := by
  intro rs
  induction rs with
  | nil => intro l e; cases e; exact ⟨[], rfl, by simp [VRs]⟩
  | cons x rs ih =>
    intro l e
    cases x with
    | tmp t =>
      simp only [unRes] at e
      cases ht : Nat.blt t 512 with
      | false => rw [ht] at e; cases e
      | true =>
        rw [ht] at e; simp only [cond_true] at e
        have ht' : t < 512 := Nat.le_of_ble_eq_true ht
        split at e
        · rename_i l' hl
          cases e
          obtain ⟨us, h1, h2⟩ := ih l' hl
          exact ⟨tmps.getD t undef :: us, by simp [List.mapM_cons, resOne, h1], by simp only [VRs]; exact ⟨_, _, rfl, r.rel t ht', h2⟩⟩
        · cases e
    | cell a t =>
      simp only [unRes] at e
      cases ha : Nat.blt a 512 with
      | false => rw [ha] at e; cases e
      | true =>
        rw [ha] at e; simp only [cond_true] at e
        have ha' : a < 512 := Nat.le_of_ble_eq_true ha
        split at e
        · rename_i b off i l' hv hi hl
          obtain ⟨us, h1, h2⟩ := ih l' hl
          have hp := r.rel a ha'
          rw [hv] at hp; simp only [VR] at hp
          obtain ⟨c, sh, hc, hp⟩ := hp
          have ti := tiOf_spec (hE t i hi)
          have : ∃ v, l = v :: l' ∧ (if i.agg then (match h.read b off i.size with | some c => some (AV.agg c) | none => none) else h.read1 b off) = some v := by
            cases hag : i.agg with
            | false =>
              rw [hag] at e; simp only [Bool.false_eq_true, if_false] at e ⊢
              split at e
              · rename_i v hv; cases e; exact ⟨v, rfl, hv⟩
              · cases e
            | true =>
              rw [hag] at e; simp only [if_true] at e ⊢
              split at e
              · rename_i v hv; cases e; exact ⟨.agg v, rfl, by rw [hv]⟩
              · cases e
          obtain ⟨v, rfl, hv2⟩ := this
          obtain ⟨u, g1, g2⟩ := loadVar_rel hr ti hc hv2
          exact ⟨u :: us, by simp [List.mapM_cons, resOne, hp, asAddr, g1, h1], by simp only [VRs]; exact ⟨_, _, rfl, g2, h2⟩⟩
        · cases e
theorem tuple1_rel {V : Val} {l : List AV} {us : List Value} (h : VRs V l us) : VR V (tuple1 l) (if h : (⟨us⟩ : Array Value).size = 1 then (⟨us⟩ : Array Value)[0] else .tuple ⟨us⟩) := by
  have hl : us.length = l.length := h.length
  unfold tuple1
  split
  · rename_i v
    simp only [VRs] at h
    obtain ⟨u, r', rfl, hv, rfl⟩ := h
    simpa using hv
  · rename_i hne
    rw [dif_neg]
    · simp only [VR]; exact ⟨us, rfl, h⟩
    · intro h1
      have : l.length = 1 := by rw [← hl]; simpa using h1
      match l, this with
      | [v], _ => exact hne v rfl
theorem doneK_ok {E : Env} (hE : EnvS E) {V : Val} {n : Nat} {fr : Fr} {tmps : Array Value} {h h' : H} {w : World} {v : AV} {fn : Func} (r : FS V n fr tmps) (hr : HR V h w) (e : doneK E fn.results.toList fr h = .ret v h') :
    h' = h ∧ ∃ u, (results fn tmps).run E.P w = .ok u w ∧ VR V v u := by
  unfold doneK at e
  split at e
  · rename_i l hl
    cases e
    obtain ⟨us, h1, h2⟩ := unRes_rel hE r hr _ _ hl
    refine ⟨rfl, _, ?_, tuple1_rel h2⟩
    unfold results
    rw [Sem.run_bind, Array.mapM_eq_mapM_toList]
    have key : ∀ g : ResultVar → Sem Value, g = resOne tmps → (List.toArray <$> List.mapM g fn.results.toList).run E.P w = .ok ⟨us⟩ w := by
      intro g hg; subst hg; simp [h1]
    rw [key _ (funext fun x => by cases x <;> rfl)]
    rfl
  · cases e
end Go.Ev
end

section
/- Functions: what is deferred, and the end. -/
namespace Go.Ev

theorem HR.dropSet {V : Val} {h : H} {w : World} (r : HR V h w) {b c : Nat} {x : AB} (hx : h.get b = some x) (h1 : x.isFk = false) (h2 : x.anc = []) (hc : V.ρ b = some (c, 0)) (o : Obj) (ho : ∀ a el fz, o ≠ .cells a el fz) :
    HR V (h.drop b) { w with heap := w.heap.setIfInBounds c o } ∧ Ext V h w V (h.drop b) { w with heap := w.heap.setIfInBounds c o } := by
  have hex := r.excl hc hx h1 h2
  refine ⟨⟨fun b' y e => ?_, fun b1 b2 x1 x2 c1 s1 s2 e1 e2 => (r.drop b).ali b1 b2 x1 x2 c1 s1 s2 e1 e2, r.nx, fun b' c' sh' e => by simpa using r.lt b' c' sh' e, r.ns, fun b' c' sh' a el fz e ho' => ?_, r.glo.1.set (fun e => by subst e; exact r.glo.2 _ _ hc) o, r.glo.2⟩, ⟨Val.le.refl V, by simp, fun c' _ hn => ⟨by rw [Array.getElem?_setIfInBounds_ne (fun e => by subst e; exact hn b x 0 hx hc)], fun b' x' sh' e => hn b' x' sh' (h.get_drop b b' x' e).2⟩, rfl, rfl, rfl, Nat.le_refl _, Nat.le_refl _, fun _ _ h => h⟩⟩
  · obtain ⟨e1, e2⟩ := h.get_drop b b' y e
    obtain ⟨c', sh', o', hc', ho', hr⟩ := r.blk b' y e2
    have : c ≠ c' := fun e3 => by subst e3; exact hex b' y e2 e1 sh' hc'
    exact ⟨c', sh', o', hc', by rw [Array.getElem?_setIfInBounds_ne this]; exact ho', hr⟩
  · by_cases hcc : c = c'
    · subst hcc
      have hlt := r.lt b c 0 hc
      simp only [Array.getElem?_setIfInBounds, if_true, hlt, Option.some.injEq] at ho'
      exact absurd ho' (ho a el fz)
    · rw [Array.getElem?_setIfInBounds_ne hcc] at ho'
      exact r.cz b' c' sh' a el fz e ho'

/-- a function of the program that may be called -/
def Callable (P : Program) (f : Nat) : Prop := ∃ fn c, P.funcs[f]? = some fn ∧ fn.body = some c ∧ fn.name ≠ "runtime.NumGoroutine"
theorem Callable.run {P : Program} {f : Nat} (h : Callable P f) (args : Array Value) (w : World) : (callFunc f args).run P w = .ok (.enter f args) w := by
  obtain ⟨fn, c, h1, h2, h3⟩ := h
  simp [callFunc, h1, h2, h3]

/-- the mode of a frame that runs its deferred calls -/
def ModeR (V : Val) : UM → FrameMode → Prop
  | .ret, m => m = .returning
  | .pan v, m => ∃ v', m = .panicking [{ v := v', recovered := false }] ∧ VR V v v'
  | _, _ => False
theorem ModeR.um {V : Val} {um : UM} {c : Frame} {cs : List Frame} (h : ModeR V um c.mode) : UMR V um .deferred (c :: cs) := by
  cases um with
  | no => exact h.elim
  | ret => exact ⟨rfl, c, cs, rfl, h⟩
  | pan v => obtain ⟨v', h1, h2⟩ := h; exact ⟨rfl, c, cs, v', rfl, h1, h2⟩
  | rcd v => exact h.elim
theorem ModeR.not_run {V : Val} {um : UM} {m : FrameMode} (h : ModeR V um m) : m ≠ .run := by
  cases um with
  | no => exact h.elim
  | ret => have : m = .returning := h; rw [this]; simp
  | pan v => obtain ⟨v', h1, h2⟩ := h; rw [h1]; simp
  | rcd v => exact h.elim
def settled : UM → UM
  | .rcd _ => .ret
  | u => u
/-- what is said of deferred calls -/
def DefR (P : Program) (defd : Nat → List AV → UM → H → Option (UM × H)) : Prop := ∀ f args um h um' h', defd f args um h = some (um', h') → Callable P f ∧ ∀ (V : Val) (w : World) (args' : List Value) (c : Frame) (cs : List Frame),
  HR V h w → VRs V args args' → UMR V um .deferred (c :: cs) → ∃ V' w' m', Steps P (lone (Frame.enter P f ⟨args'⟩ .deferred) (c :: cs) w) (lone { c with mode := m' } cs w') ∧ HR V' h' w' ∧ Ext V h w V' h' w' ∧ ModeR V' (settled um') m'

/-- the end of a function -/
def FunEnd (P : Program) (V : Val) (h0 : H) (w : World) (cs : List Frame) (kind : CallKind) (f : Nat) (m : Machine) (um' : UM) : CRes → Prop
  | .ret v h' => ∃ V' w' v' cs' fr, Steps P m (lone fr cs' w') ∧ fr.fn = f ∧ fr.kind = kind ∧ fr.mode = .returning ∧ fr.defers = [] ∧ (∃ fn, P.funcs[f]? = some fn ∧ (results fn fr.tmps).run P w' = .ok v' w') ∧
      HR V' h' w' ∧ Ext V h0 w V' h' w' ∧ VR V' v v' ∧ UMR V' um' kind cs' ∧ Callers kind cs cs'
  | .pan v h' => ∃ V' w' v' cs' fr, Steps P m (lone fr cs' w') ∧ fr.fn = f ∧ fr.kind = kind ∧ fr.mode = .panicking [{ v := v', recovered := false }] ∧ fr.defers = [] ∧ (∃ fn, P.funcs[f]? = some fn) ∧
      HR V' h' w' ∧ Ext V h0 w V' h' w' ∧ VR V' v v' ∧ UMR V' um' kind cs' ∧ Callers kind cs cs'
  | .fail _ => True
theorem FunEnd.of_steps {P : Program} {V : Val} {h0 : H} {w : World} {cs : List Frame} {kind : CallKind} {f : Nat} {m m' : Machine} {um' : UM} {r : CRes} (s : Steps P m m') (t : FunEnd P V h0 w cs kind f m' um' r) : FunEnd P V h0 w cs kind f m um' r := by
  cases r with
  | ret v h' => obtain ⟨V', w', v', cs', fr, s', t⟩ := t; exact ⟨V', w', v', cs', fr, s.trans s', t⟩
  | pan v h' => obtain ⟨V', w', v', cs', fr, s', t⟩ := t; exact ⟨V', w', v', cs', fr, s.trans s', t⟩
  | fail n => trivial
theorem FunEnd.ext {P : Program} {V V0 : Val} {h0 h00 : H} {w w0 : World} {cs cs0 : List Frame} {kind : CallKind} {f : Nat} {m : Machine} {um' : UM} {r : CRes} (e : Ext V0 h00 w0 V h0 w) (hc : Callers kind cs0 cs) (t : FunEnd P V h0 w cs kind f m um' r) : FunEnd P V0 h00 w0 cs0 kind f m um' r := by
  cases r with
  | ret v h' => obtain ⟨V', w', v', cs', fr, a1, a2, a3, a4, a5, a6, a7, a8, a9, a10, a11⟩ := t; exact ⟨V', w', v', cs', fr, a1, a2, a3, a4, a5, a6, a7, e.trans a8, a9, a10, hc.trans a11⟩
  | pan v h' => obtain ⟨V', w', v', cs', fr, a1, a2, a3, a4, a5, a6, a7, a8, a9, a10, a11⟩ := t; exact ⟨V', w', v', cs', fr, a1, a2, a3, a4, a5, a6, a7, e.trans a8, a9, a10, hc.trans a11⟩
  | fail n => trivial

theorem step_coll {P : Program} {fr : Frame} {cs : List Frame} {w : World} {c : Nat} {args : Array Value} {ds : List Deferred} (hm : fr.mode ≠ .run) (hd : fr.defers = { target := .collected c, args } :: ds) (ho : w.heap[c]? = some (.deferred (some []))) :
    step P (lone fr cs w) = .next (lone { fr with defers := ds } cs { w with heap := w.heap.setIfInBounds c (.deferred none) }) := by
  have hg : (getObj c).run P w = .ok (.deferred (some [])) w := run_getObj ho (by simp)
  have hrun : (Instr.takeDeferred c).run P w = .ok [] { w with heap := w.heap.setIfInBounds c (.deferred none) } := by
    simp only [Instr.takeDeferred, Sem.run_bind, hg, Result.andThen_ok, run_setObj _ ho (by simp), Sem.run_pure]
  refine step_lone_go ?_
  cases hmode : fr.mode with
  | run => exact absurd hmode hm
  | returning => simp [stepG, unwind, hmode, hd, hrun]
  | panicking ch => simp [stepG, unwind, hmode, hd, hrun]

theorem unwind_ok {E : Env} (hE : EnvS E) {fn : Func} {n f : Nat} (hf : E.P.funcs[f]? = some fn) {defd : Nat → List AV → UM → H → Option (UM × H)} (hdef : DefR E.P defd) (kind : CallKind) (cs : List Frame) (um0 : UM) :
    ∀ (ds : List DS) (um : UM) (fr : Fr) (h : H) (V : Val) (w : World) (c : Frame), ModeR V um c.mode → DRs V ds c.defers → FS V n fr c.tmps → c.fn = f → c.kind = kind → UMR V um0 kind cs → HR V h w →
      FunEnd E.P V h w cs kind f (lone c cs w) um0 (unwindK E fn.results.toList defd ds um fr h) := by
  intro ds
  induction ds with
  | nil =>
    intro um fr h V w c hm hd hfs hfn hk hum hr
    have hd : c.defers = [] := hd
    cases um with
    | no => exact hm.elim
    | ret =>
      simp only [unwindK]
      cases he : doneK E fn.results.toList fr h with
      | ret v h' =>
        obtain ⟨rfl, u, h1, h2⟩ := doneK_ok hE hfs hr he
        exact ⟨V, w, u, cs, c, .refl _ _, hfn, hk, hm, hd, ⟨fn, hf, h1⟩, hr, Ext.refl _ _ _, h2, hum, .refl _ _⟩
      | pan v h' => unfold doneK at he; split at he <;> cases he
      | fail k => trivial
    | pan v =>
      simp only [unwindK]
      obtain ⟨v', h1, h2⟩ := hm
      exact ⟨V, w, v', cs, c, .refl _ _, hfn, hk, h1, hd, ⟨fn, hf⟩, hr, Ext.refl _ _ _, h2, hum, .refl _ _⟩
    | rcd v => exact hm.elim
  | cons d ds ih =>
    intro um fr h V w c hm hd hfs hfn hk hum hr
    obtain ⟨d', ds', e1, hd1, hd2⟩ := hd
    cases d with
    | coll b =>
      simp only [unwindK]
      split
      · rename_i hb
        obtain ⟨cc, hcc, rfl⟩ := hd1
        obtain ⟨c1, sh, o, g1, g2, rfl, rfl⟩ := hr.blk b _ hb
        rw [hcc] at g1; cases g1
        obtain ⟨k1, k2⟩ := hr.dropSet hb rfl rfl hcc (.deferred none) (by simp)
        refine FunEnd.of_steps (.one (step_coll hm.not_run e1 g2)) (FunEnd.ext k2 (.refl _ _) ?_)
        exact ih um fr _ V _ { c with defers := ds' } hm hd2 hfs hfn hk hum k1
      · trivial
    | call fv as =>
      cases fv with
      | fn g a cp =>
        cases g with
        | func i =>
          obtain ⟨g', a', c', as', rfl, hg, r2, r3, r4⟩ := hd1
          have hg' : g' = .func i := hg
          subst hg'
          simp only [unwindK]
          split
          · rename_i v0 h1 he
            obtain ⟨hcl, hrest⟩ := hdef _ _ _ _ _ _ he
            obtain ⟨V', w', m', s, q1, q2, q3⟩ := hrest V w ((a' ++ as') ++ c') { c with defers := ds' } cs hr ((r2.append r4).append r3) (ModeR.um (c := { c with defers := ds' }) hm)
            refine FunEnd.of_steps (.head (step_defer (fv := .func i) (cap := ⟨c'⟩) (f := i) (args := ⟨(a' ++ as') ++ c'⟩) hm.not_run e1 rfl ?_) s) (FunEnd.ext q2 (.refl _ _) ?_)
            · simp only [invoke]
              have : (⟨a' ++ as'⟩ : Array Value) ++ ⟨c'⟩ = ⟨(a' ++ as') ++ c'⟩ := by simp
              rw [this]; exact hcl.run _ w
            · have q3 : ModeR V' .ret m' := q3
              exact ih .ret fr h1 V' w' { { c with defers := ds' } with mode := m' } q3 (hd2.mono q2.le) (hfs.mono q2.le) hfn hk (hum.mono q2.le) q1
          · rename_i um1 h1 hnr he
            obtain ⟨hcl, hrest⟩ := hdef _ _ _ _ _ _ he
            obtain ⟨V', w', m', s, q1, q2, q3⟩ := hrest V w ((a' ++ as') ++ c') { c with defers := ds' } cs hr ((r2.append r4).append r3) (ModeR.um (c := { c with defers := ds' }) hm)
            refine FunEnd.of_steps (.head (step_defer (fv := .func i) (cap := ⟨c'⟩) (f := i) (args := ⟨(a' ++ as') ++ c'⟩) hm.not_run e1 rfl ?_) s) (FunEnd.ext q2 (.refl _ _) ?_)
            · simp only [invoke]
              have : (⟨a' ++ as'⟩ : Array Value) ++ ⟨c'⟩ = ⟨(a' ++ as') ++ c'⟩ := by simp
              rw [this]; exact hcl.run _ w
            · have hs : settled um1 = um1 := by cases um1 <;> first | rfl | exact absurd rfl (hnr _)
              rw [hs] at q3
              exact ih um1 fr h1 V' w' { { c with defers := ds' } with mode := m' } q3 (hd2.mono q2.le) (hfs.mono q2.le) hfn hk (hum.mono q2.le) q1
          · trivial
        | _ => simp only [unwindK]; trivial
      | _ => simp only [unwindK]; trivial
end Go.Ev
end

section
/- Functions and calls. -/
namespace Go.Ev

/-- regions whose order is drawn: what is to be shown of them -/
def DrawOK (E : Env) : Prop := ∀ chk n id ops, (chk = true ∨ planOk E n ops = true) → CodeR E.P n (.region id ops true) (drawK E chk n ops)
theorem cCode_ok {E : Env} (hE : EnvS E) (hD : DrawOK E) (chk : Bool) (n : Nat) : ∀ c : Code, (chk = true ∨ okCode E n c = true) → CodeR E.P n c (cCode E chk n c)
  | .skip, _ => .here fun _ _ _ _ _ => stepR_skip
  | .region id ops draw, h => by
    cases draw with
    | true => exact hD chk n id ops h
    | false => exact .region hE
  | .seq a b, h => .seq (cCode_ok hE hD chk n a (h.imp_right fun h => by simp only [okCode, Bool.and_eq_true] at h; exact h.1)) (cCode_ok hE hD chk n b (h.imp_right fun h => by simp only [okCode, Bool.and_eq_true] at h; exact h.2))
  | .cond c a b, h => by
    simp only [cCode]
    split
    · rename_i g hg
      exact .cond hg (cCode_ok hE hD chk n a (h.imp_right fun h => by simp only [okCode, Bool.and_eq_true] at h; exact h.1)) (cCode_ok hE hD chk n b (h.imp_right fun h => by simp only [okCode, Bool.and_eq_true] at h; exact h.2))
    · exact .fail _
  | .block id a, h => .block (cCode_ok hE hD chk n a h)
  | .loop a, h => .loop (cCode_ok hE hD chk n a h) _
  | .rangeFunc f ps asg body, _ => by
    simp only [cCode]
    split
    · rename_i g hg; exact .rangeFunc hg
    · exact .fail _
  | .exit id, _ => .exit
  | .scope a, h => .scope (cCode_ok hE hD chk n a h)
  | .label l, _ => .here fun _ _ _ _ _ => stepR_label
  | .goto l, _ => .fail _
  | .ret, _ => .ret
  | .refuse why, _ => .fail _

theorem cFunc_ok {E : Env} (hE : EnvS E) (hD : DrawOK E) {f : Nat} {fn : Func} {c : Code} (hf : E.P.funcs[f]? = some fn) (hb : fn.body = some c) (hok : okCode E fn.ntmps c = true) {defd : Nat → List AV → UM → H → Option (UM × H)} (hdef : DefR E.P defd) {call : Call} (hcall : CallR E.P call)
    {args : List AV} {um um' : UM} {h : H} {r : CRes} (e : (cFunc E fn).run defd call args um h = some (r, um')) (V : Val) (w : World) (args' : List Value) (kind : CallKind) (cs : List Frame) (hr : HR V h w) (hv : VRs V args args') (hu : UMR V um kind cs) :
    FunEnd E.P V h w cs kind f (lone (Frame.enter E.P f ⟨args'⟩ kind) cs w) um' r := by
  unfold cFunc at e
  rw [hb] at e
  simp only at e
  split at e
  · cases e
  · rename_i fr hfr
    have rel := enter_rel hv hfr hu f
    rw [enter_frame hf hb]
    generalize hbf : ({ (default : Frame) with fn := f, kind, roundOf := none } : Frame) = b at rel
    have hbfn : b.fn = f := by rw [← hbf]
    have hbk : b.kind = kind := by rw [← hbf]
    have hbr : b.roundOf = none := by rw [← hbf]
    have hsz : (⟨args'⟩ : Array Value).size = args'.length := rfl
    rw [hsz]
    have hc := cCode_ok hE hD false fn.ntmps c (.inr hok) call hcall V fr h w b _ cs [] rel hr
    generalize (cCode E false fn.ntmps c).run call fr h = R at e hc
    have fin : ∀ (um1 : UM) (mode : FrameMode) (V' : Val) (w' : World) (a' : Act) (cs' : List Frame) (k' : List Item) (fr' : Fr) (h' : H), ModeR V' um1 mode →
        Steps E.P (lone (b.atR { tmps := ⟨args'⟩ ++ Array.replicate (fn.ntmps - args'.length) undef, defers := [] } [.code c]) cs w) (lone { b.atR a' k' with mode := mode } cs' w') → FrR V' fn.ntmps fr' b a' cs' → HR V' h' w' → Ext V h w V' h' w' → Callers b.kind cs cs' →
        FunEnd E.P V h w cs kind f (lone (b.atR { tmps := ⟨args'⟩ ++ Array.replicate (fn.ntmps - args'.length) undef, defers := [] } [.code c]) cs w) fr'.um (unwindK E fn.results.toList defd fr'.ds um1 fr' h') := by
      intro um1 mode V' w' a' cs' k' fr' h' hm s rr hr' hx hcs
      refine FunEnd.of_steps s (FunEnd.ext hx (by rw [← hbk]; exact hcs) ?_)
      exact unwind_ok hE hf hdef kind cs' fr'.um fr'.ds um1 fr' h' V' w' { b.atR a' k' with mode := mode } hm rr.ds rr.fs hbfn hbk (by rw [← hbk]; exact rr.um) hr'
    split at e
    · cases e
      obtain ⟨V', w', a', cs', s, r1, r2, r3, r4⟩ := hc
      exact fin .ret .returning V' w' a' cs' [] _ _ rfl (s.trans (.one (stepR_end hbr))) r1 r2 r3 r4
    · cases e
      obtain ⟨k2, V', w', a', cs', s, r1, r2, r3, r4⟩ := hc
      exact fin .ret .returning V' w' a' cs' _ _ _ rfl (s.trans (.one (stepR_ret hbr))) r1 r2 r3 r4
    · rename_i v fr' h'
      cases e
      obtain ⟨V', w', a', cs', k', v', s, r1, r2, r3, r4, r5⟩ := hc
      exact fin (.pan v) _ V' w' a' cs' k' _ _ ⟨v', rfl, r5⟩ s r1 r2 r3 r4
    · cases e
    · cases e; trivial

/-- what is said of a function that the evaluator has in its own way -/
def ExtOK (E : Env) : Prop := ∀ f x, E.ext f = some x → ∀ args h v h', x args h = some (v, h') → ∀ (V : Val) (w : World) (args' : List Value) (fr : Frame) (cs : List Frame), HR V h w → VRs V args args' →
  ∃ V' w' v' m, nextM E.P fr cs ((callFunc f ⟨args'⟩).run E.P w) = some m ∧ Steps E.P m (lone (fr.finish v') cs w') ∧ HR V' h' w' ∧ Ext V h w V' h' w' ∧ VR V' v v'
structure Table (E : Env) (F : Nat → Option FW) (C : Nat → Code → CW) (tr : Nat → CRes → CRes) : Prop where
  env : EnvS E
  draw : DrawOK E
  ext : ExtOK E
  fn : ∀ f w, F f = some w → ∃ fn, E.P.funcs[f]? = some fn ∧ w = cFunc E fn ∧ fn.name ≠ "runtime.NumGoroutine" ∧ okFn E fn = true
  code : ∀ n c, C n c = cCode E true n c
  tr : ∀ f k, ∃ k', tr f (.fail k) = .fail k'

section
variable {E : Env} {F : Nat → Option FW} {C : Nat → Code → CW} {tr : Nat → CRes → CRes} (T : Table E F C tr)
include T

theorem setAll_zip : ∀ (ps : List Nat) (us : List Value) (a : Array Value), ps.length = us.length → (ps.zip us).foldl (fun t (x : Nat × Value) => t.setIfInBounds x.1 x.2) a = setAll ps us a := by
  have _ := T
  intro ps
  induction ps with
  | nil => intro us a _; rfl
  | cons p ps ih =>
    intro us a h
    cases us with
    | nil => simp at h
    | cons u us => simp only [List.zip_cons_cons, List.foldl_cons, setAll]; exact ih us _ (by simpa using h)
theorem inRound_eq (fr : Fr) (l : Nat) : (fr.inRound l).ds = [] ∧ (fr.inRound l).um = .no ∧ (fr.inRound l).rd = some l ∧ ∀ i, (getT i).run (fr.inRound l) = (getT i).run fr := by
  have _ := T
  cases fr
  refine ⟨rfl, rfl, rfl, fun i => ?_⟩
  rw [getT_eq, getT_eq]
  congr 2
  have h8 : ∀ j, (sFr j).g = (sFr (min j 7)).g := by
    intro j
    match j with
    | 0 | 1 | 2 | 3 | 4 | 5 | 6 | 7 => rfl
    | j + 8 => rw [show min (j + 8) 7 = 7 by omega]; rfl
  rw [h8]
  rcases lt8 (show min (i / 64) 7 < 8 by omega) with h | h | h | h | h | h | h | h <;> rw [h] <;> rfl

theorem finRound_ok {V : Val} {w : World} {h : H} {l cl : Nat} {j : Option Code} {r : CRes} {u : UM} (hr : HR V h w) (hc : V.ρ l = some (cl, 0)) (e : finRound l j h = some (r, u)) :
    ∃ h' w', r = .ret (.bool j.isNone) h' ∧ (Instr.endRound cl j).run E.P w = .ok (.bool j.isNone) w' ∧ HR V h' w' ∧ Ext V h w V h' w' := by
  have _ := T
  unfold finRound at e
  split at e
  · rename_i n st pend ft ps asg body d hg
    cases e
    obtain ⟨c, fn, tmps, d', q1, q2, q3, q4⟩ := hr.loop hg
    rw [hc] at q1; cases q1
    obtain ⟨g1, g2⟩ := hr.setLoop hg (fn := fn) hc q3 q4 (if j.isNone then .ready else .done) j
    refine ⟨_, _, rfl, ?_, g1, g2⟩
    simp only [Instr.endRound, Sem.run_bind, run_getLoop q2, Result.andThen_ok, run_setObj _ q2 (by simp), Sem.run_pure]
  · cases e

theorem callN_yield {n : Nat} (hcall : CallR E.P (callOf (callN E F C tr n))) {l : Nat} {args : List AV} {um um' : UM} {h : H} {r : CRes} (e : callN E F C tr (n + 1) (.yield l) args um h = some (r, um')) (V : Val) (w : World) (args' : List Value) (fr : Frame) (cs : List Frame) (cl : Nat) (hr : HR V h w) (hv : VRs V args args') (hc : V.ρ l = some (cl, 0)) :
    (∃ k, r = .fail k) ∨ ∃ v h', r = .ret v h' ∧ ∃ V' w' v' m, nextM E.P fr cs ((Instr.yield cl ⟨args'⟩).run E.P w) = some m ∧ Steps E.P m (lone (fr.finish v') cs w') ∧ HR V' h' w' ∧ Ext V h w V' h' w' ∧ VR V' v v' := by
  simp only [callN] at e
  split at e
  · rename_i nt st pend ft ps asg body d hg
    obtain ⟨c, fn, tmps, d', q1, q2, q3, q4⟩ := hr.loop hg
    rw [hc] at q1; cases q1
    split at e
    · cases e
    · rename_i fr0 hfr0
      obtain ⟨i1, i2, i3, i4⟩ := inRound_eq T ft l
      have hfs0 : FS V nt (ft.inRound l) tmps := ⟨q3.1, fun i hi => by rw [i4]; exact q3.2 i hi⟩
      obtain ⟨s1, s2, s3, s4, s5⟩ := FS.setTs ps args args' _ fr0 tmps hfs0 hv hfr0
      have hlen : ps.length = args'.length := s5.trans hv.length.symm
      have hyield : (Instr.yield cl ⟨args'⟩).run E.P w = .ok (.round cl fn (setAll ps args' tmps) asg body) w := by
        have hz : ((⟨ps⟩ : Array Nat).zip ⟨args'⟩).foldl (fun (t : Array Value) (x : Nat × Value) => t.setIfInBounds x.1 x.2) tmps = setAll ps args' tmps := by
          rw [← setAll_zip T ps args' tmps hlen]
          simp
        simp only [Instr.yield, Sem.run_bind, run_getLoop q2, Result.andThen_ok]
        rw [if_neg (by simp [hlen])]
        simp only [Sem.run_pure]
        rw [← hz]
      let b : Frame := { (default : Frame) with fn, kind := .normal, roundOf := some cl }
      have hround : Frame.round cl fn (setAll ps args' tmps) asg body .normal = b.atR { tmps := setAll ps args' tmps, defers := [] } [.code asg, .beginRound, .code body] := rfl
      have hfr : FrR V nt fr0 b { tmps := setAll ps args' tmps, defers := [] } (fr :: cs) := ⟨s1, by rw [s2, i1]; rfl, by rw [s3, i2]; rfl, by rw [s4, i3]; exact ⟨cl, hc, rfl⟩⟩
      have h1 := cCode_ok T.env T.draw true nt asg (.inl rfl) _ hcall V fr0 h w b _ (fr :: cs) [.beginRound, .code body] hfr hr
      rw [T.code] at e
      split at e
      · rename_i fr1 h1' he1
        rw [he1] at h1
        obtain ⟨V1, w1, a1, cs1, st1, rr1, hr1, hx1, hcs1⟩ := h1
        have hcs1 : cs1 = fr :: cs := by rcases hcs1 with h | ⟨h, _⟩; exact h; cases h
        subst hcs1
        have hc1 := hx1.le.ρ _ _ hc
        unfold bodyRound at e
        split at e
        · rename_i n2 pend2 ft2 ps2 asg2 bd2 d2 hg2
          obtain ⟨c2, fn2, tmps2, d2', p1, p2, p3, p4⟩ := hr1.loop hg2
          rw [hc1] at p1; cases p1
          obtain ⟨g1, g2⟩ := hr1.setLoop hg2 (fn := fn2) hc1 p3 p4 .busy pend2
          have hbegin : (Instr.beginRound cl).run E.P w1 = .ok () { w1 with heap := w1.heap.setIfInBounds cl (.loop { state := .busy, pending := pend2, fn := fn2, tmps := tmps2, params := ⟨ps2⟩, assign := asg2, body := bd2, defers := d2' }) } := by
            simp only [Instr.beginRound, Sem.run_bind, run_getLoop p2, Result.andThen_ok, run_setObj _ p2 (by simp), Sem.run_pure]
          have st2 := st1.trans (.one (stepR_beginRound (k := [.code body]) rfl hbegin))
          have h2 := cCode_ok T.env T.draw true nt body (.inl rfl) _ hcall V1 fr1 _ _ b a1 (fr :: cs) [] rr1 g1
          rw [T.code] at e
          have fin : ∀ (j : Option Code) (fr' : Fr) (h' : H) (k : List Item), ToNorm E.P V1 (h1'.put l (.loop n2 .busy pend2 ft2 ps2 asg2 bd2 d2)) { w1 with heap := w1.heap.setIfInBounds cl (.loop { state := .busy, pending := pend2, fn := fn2, tmps := tmps2, params := ⟨ps2⟩, assign := asg2, body := bd2, defers := d2' }) } (fr :: cs)
              (lone (b.atR a1 [.code body]) (fr :: cs) { w1 with heap := w1.heap.setIfInBounds cl (.loop { state := .busy, pending := pend2, fn := fn2, tmps := tmps2, params := ⟨ps2⟩, assign := asg2, body := bd2, defers := d2' }) }) nt b k fr' h' →
              (∀ a' w' v w'', (Instr.endRound cl j).run E.P w' = .ok v w'' → step E.P (lone (b.atR a' k) (fr :: cs) w') = .next (lone (fr.finish v) cs w'')) → finRound l j h' = some (r, um') →
              ∃ v h', r = .ret v h' ∧ ∃ V' w' v' m, nextM E.P fr cs ((Instr.yield cl ⟨args'⟩).run E.P w) = some m ∧ Steps E.P m (lone (fr.finish v') cs w') ∧ HR V' h' w' ∧ Ext V h w V' h' w' ∧ VR V' v v' := by
            intro j fr' h' k ht hend hfin
            obtain ⟨V', w', a', cs', st3, rr3, hr3, hx3, hcs3⟩ := ht
            have hcs3 : cs' = fr :: cs := by rcases hcs3 with h | ⟨h, _⟩; exact h; cases h
            subst hcs3
            obtain ⟨h4, w4, rfl, e4, hr4, hx4⟩ := finRound_ok T hr3 ((g2.trans hx3).le.ρ _ _ hc1) hfin
            refine ⟨_, _, rfl, V', w4, .bool j.isNone, _, by rw [hyield]; rfl, ?_, hr4, ((hx1.trans g2).trans hx3).trans hx4, by simp [VR]⟩
            rw [hround]
            exact (st2.trans st3).trans (.one (hend a' w' _ w4 e4))
          generalize (cCode E true nt body).run (callOf (callN E F C tr n)) fr1 _ = R at e h2
          cases R with
          | norm fr' h' => exact .inr (fin none fr' h' [] h2 (fun a' w' v w'' he => stepR_round_end rfl rfl he) e)
          | brk i fr' h' =>
            obtain ⟨k2, hk2, h2⟩ := h2
            exact .inr (fin (some (.exit i)) fr' h' _ h2 (fun a' w' v w'' he => stepR_round_exit rfl rfl (hk2.trans rfl) he) e)
          | ret fr' h' =>
            obtain ⟨k2, h2⟩ := h2
            exact .inr (fin (some .ret) fr' h' _ h2 (fun a' w' v w'' he => stepR_round_ret rfl rfl he) e)
          | pan v fr' h' => cases e
          | fail k => simp only [Option.some.injEq, Prod.mk.injEq] at e; exact .inl ⟨k, e.1.symm⟩
        · cases e
      · cases e
  · cases e
end
end Go.Ev
end

section
/- A family of symbols, tried in each order. -/
namespace Go.Ev

theorem nodupE_spec : ∀ (es : List (AV × AV × Nat)), nodupE es = true → (es.map (·.2.2)).Nodup := by
  intro es
  induction es with
  | nil => intro _; simp
  | cons e r ih =>
    intro h
    simp only [nodupE, Bool.and_eq_true] at h
    simp only [List.map_cons, List.nodup_cons]
    refine ⟨fun hm => ?_, ih h.2⟩
    obtain ⟨x, hx, he⟩ := List.mem_map.1 hm
    have : bornIn e.2.2 r = true := (bornIn_iff _ _).2 ⟨x, hx, he⟩
    have h1 := h.1
    simp [this] at h1
theorem born_inj {es : List (AV × AV × Nat)} (h : (es.map (·.2.2)).Nodup) {x y : AV × AV × Nat} (hx : x ∈ es) (hy : y ∈ es) (e : x.2.2 = y.2.2) : x = y := by
  induction es with
  | nil => simp at hx
  | cons a l ih =>
    simp only [List.map_cons, List.nodup_cons] at h
    rcases List.mem_cons.1 hx with rfl | h1 <;> rcases List.mem_cons.1 hy with h2 | h2
    · exact h2.symm
    · exact absurd (List.mem_map.2 ⟨y, h2, e.symm⟩) h.1
    · subst h2; exact absurd (List.mem_map.2 ⟨x, h1, e⟩) h.1
    · exact ih h.2 h1 h2
theorem mem_inserts (x : AV × AV × Nat) : ∀ (l1 l2 : List (AV × AV × Nat)), l1 ++ x :: l2 ∈ inserts x (l1 ++ l2) := by
  intro l1
  induction l1 with
  | nil => intro l2; cases l2 <;> simp [inserts]
  | cons y l1 ih => intro l2; simp only [List.cons_append, inserts, List.mem_cons]; exact .inr (List.mem_map.2 ⟨_, ih l2, rfl⟩)
theorem mem_permsE : ∀ (es pi : List (AV × AV × Nat)), (pi.map (·.2.2)).Nodup → (∀ y ∈ pi, y ∈ es) → pi.length = es.length → pi ∈ permsE es := by
  intro es
  induction es with
  | nil => intro pi _ _ h; simp at h; subst h; simp [permsE]
  | cons x r ih =>
    intro pi hn hs hl
    have hx : x ∈ pi := by
      apply Classical.byContradiction
      intro hx
      have := List.Nodup.length_le_of_subset (l₁ := pi.map (·.2.2)) (l₂ := r.map (·.2.2)) hn (fun b hb => by
        obtain ⟨y, hy, rfl⟩ := List.mem_map.1 hb
        rcases List.mem_cons.1 (hs y hy) with rfl | h
        · exact absurd hy hx
        · exact List.mem_map.2 ⟨y, h, rfl⟩)
      simp at this hl; omega
    obtain ⟨l1, l2, rfl⟩ := List.append_of_mem hx
    have hn' : ((l1 ++ l2).map (·.2.2)).Nodup := by
      rw [List.map_append, List.map_cons] at hn
      rw [List.map_append]
      exact hn.sublist (List.Sublist.append (List.Sublist.refl _) (List.sublist_cons_self _ _))
    have hsub : ∀ y ∈ l1 ++ l2, y ∈ r := by
      intro y hy
      rcases List.mem_cons.1 (hs y (by rcases List.mem_append.1 hy with h | h <;> simp [h])) with rfl | h
      · rw [List.map_append, List.map_cons, List.nodup_append] at hn
        obtain ⟨n1, n2, n3⟩ := hn
        rcases List.mem_append.1 hy with h | h
        · exact absurd rfl (n3 y.2.2 (List.mem_map.2 ⟨y, h, rfl⟩) y.2.2 (by simp))
        · exact absurd (List.mem_map.2 ⟨y, h, rfl⟩) (List.nodup_cons.1 n2).1
      · exact h
    have := ih (l1 ++ l2) hn' hsub (by simp at hl ⊢; omega)
    simp only [permsE, List.mem_flatMap]
    exact ⟨l1 ++ l2, this, mem_inserts x l1 l2⟩
theorem choose_entries {es : List (AV × AV × Nat)} : ∀ (seen : List Nat), (∀ bn ∈ seen, ∃ x ∈ es, x.2.2 = bn) → ∃ pi : List (AV × AV × Nat), pi.map (·.2.2) = seen ∧ ∀ y ∈ pi, y ∈ es := by
  intro seen
  induction seen with
  | nil => intro _; exact ⟨[], rfl, by simp⟩
  | cons b r ih =>
    intro h
    obtain ⟨x, hx, hb⟩ := h b (by simp)
    obtain ⟨pi, h1, h2⟩ := ih fun b' hb' => h b' (by simp [hb'])
    refine ⟨x :: pi, by simp [hb, h1], fun y hy => ?_⟩
    rcases List.mem_cons.1 hy with rfl | hy
    · exact hx
    · exact h2 y hy
theorem rowsOf_get : ∀ (pi : List (AV × AV × Nat)) (rows : List (List AV)), rowsOf pi = some rows → ∀ (j : Nat) (l : List AV), rows[j]? = some l → ∃ x, pi[j]? = some x ∧ rowOf x = some l := by
  intro pi
  induction pi with
  | nil => intro rows h j l hj; cases h; simp at hj
  | cons e r ih =>
    intro rows h j l hj
    simp only [rowsOf] at h
    split at h
    · rename_i a l' h1 h2
      cases h
      cases j with
      | zero => simp at hj; subst hj; exact ⟨e, rfl, h1⟩
      | succ j => simpa using ih l' h2 j l (by simpa using hj)
    · cases h
theorem rowAtS_get : ∀ (syms : List Nat) (rows : List (List AV)) (s : Nat) (l : List AV), rowAtS s (zipS syms rows) = some l → ∃ j : Nat, syms[j]? = some s ∧ rows[j]? = some l := by
  intro syms
  induction syms with
  | nil => intro rows s l h; simp [zipS, rowAtS] at h
  | cons a syms ih =>
    intro rows s l h
    cases rows with
    | nil => simp [zipS, rowAtS] at h
    | cons r rows =>
      simp only [zipS, rowAtS] at h
      cases hb : Nat.beq a s with
      | true =>
        rw [hb] at h; cases h
        exact ⟨0, by simp [Nat.eq_of_beq_eq_true hb], rfl⟩
      | false =>
        rw [hb] at h
        obtain ⟨j, h1, h2⟩ := ih rows s l h
        exact ⟨j + 1, by simpa using h1, by simpa using h2⟩
theorem substL_get {z : List (Nat × List AV)} : ∀ (l l' : List AV), substL z l = some l' → ∀ (i : Nat) (x : AV), l'[i]? = some x → ∃ y, l[i]? = some y ∧ substC z y = some x := by
  intro l
  induction l with
  | nil => intro l' h i x hx; cases h; simp at hx
  | cons v r ih =>
    intro l' h i x hx
    simp only [substL] at h
    split at h
    · rename_i a m h1 h2
      cases h
      cases i with
      | zero => simp at hx; subst hx; exact ⟨v, rfl, h1⟩
      | succ i => simpa using ih m h2 i x (by simpa using hx)
    · cases h

/-- all that a run on one block says of the whole heap -/
theorem HR.frame {V V' : Val} {h hs h' : H} {w w' : World} {b el : Nat} {l l' : List AV} {anc anc' : List Nat} {st st' : St} (hr : HR V h w) (hb : h.get b = some (.cells el l anc st)) (hst : stEq st st' = true)
    (hnx : hs.nx = h.nx) (hsb : ∀ b' y, hs.get b' = some y → b' = b) (hr' : HR V' h' w') (hx : Ext V hs w V' h' w') (hb' : h'.get b = some (.cells el l' anc' st')) (nx ns : Nat) (h1 : h'.nx ≤ nx) (h2 : h'.ns ≤ ns) :
    HR V' (((h.drops anc).put b (.cells el l' [] st)).renum nx ns) w' ∧ Ext V h w V' (((h.drops anc).put b (.cells el l' [] st)).renum nx ns) w' := by
  have hwr : st.wr = true ∧ (AB.cells el l anc st).isFk = false := by cases st <;> cases st' <;> simp [stEq] at hst <;> exact ⟨rfl, rfl⟩
  obtain ⟨c, sh, o, q1, q2, q3⟩ := hr.blk b _ hb
  have hget : ∀ b' y, (((h.drops anc).put b (.cells el l' [] st)).renum nx ns).get b' = some y → (b' = b ∧ y = .cells el l' [] st) ∨ (b' ≠ b ∧ b' ∉ anc ∧ h.get b' = some y) := by
    intro b' y e
    have e : ((h.drops anc).put b (.cells el l' [] st)).get b' = some y := e
    rcases (h.drops anc).get_put b _ b' y e with ⟨e1, e2⟩ | ⟨e1, e2⟩
    · exact .inl ⟨e1, e2.symm⟩
    · obtain ⟨e3, e4⟩ := H.get_drops anc h b' y e2
      exact .inr ⟨e1, e3, e4⟩
  have hc : ∀ b' y c' sh', b' ≠ b → b' ∉ anc → h.get b' = some y → V.ρ b' = some (c', sh') → c' ≠ c := by
    intro b' y c' sh' hne hna hg hc' e
    subst e
    rcases hr.ali b b' _ y c' sh sh' hb hg (fun e => hne e.symm) q1 hc' with ⟨_, e2, _⟩ | ⟨e2, _⟩
    · rw [hwr.2] at e2; cases e2
    · exact hna e2
  have own : ∀ c', c' ≠ c → ∀ b' x sh', hs.get b' = some x → V.ρ b' ≠ some (c', sh') := by
    intro c' hne b' x sh' hg hc'
    have := hsb b' x hg
    subst this
    rw [q1] at hc'; cases hc'; exact hne rfl
  have hρb : V'.ρ b = some (c, sh) := hx.le.ρ _ _ q1
  refine ⟨⟨fun b' y e => ?_, fun b1 b2 x1 x2 c1 s1 s2 e1 e2 hne hc1 hc2 => ?_, fun x hx' => hr'.nx x (Nat.le_trans h1 hx'), hr'.lt, fun i hi => hr'.ns i (Nat.le_trans ?_ hi), hr'.cz, hr'.glo⟩, ⟨hx.le, hx.size, fun c0 hc0 hn => ?_, hx.os, hx.out, hx.tp, hx.dr, by have := hx.nx; rw [hnx] at this; exact Nat.le_trans this h1, fun x hxx => hx.old x (by rw [hnx]; exact hxx)⟩⟩
  · rcases hget b' y e with ⟨rfl, rfl⟩ | ⟨e1, e2, e3⟩
    · obtain ⟨c1, sh1, o1, k1, k2, cs, fz, rfl, k3, k4, k5⟩ := hr'.blk b' _ hb'
      refine ⟨c1, sh1, _, k1, k2, cs, fz, rfl, k3, ?_, ?_⟩
      · cases st <;> cases st' <;> simp [stEq] at hst <;> exact k4
      · cases st <;> cases st' <;> simp [stEq] at hst <;> exact k5
    · obtain ⟨c1, sh1, o1, k1, k2, k3⟩ := hr.blk b' y e3
      have hne := hc b' y c1 sh1 e1 e2 e3 k1
      obtain ⟨m1, _⟩ := hx.keep c1 (hr.lt _ _ _ k1) (own c1 hne)
      exact ⟨c1, sh1, o1, hx.le.ρ _ _ k1, by rw [m1]; exact k2, k3.mono hx.le⟩
  · have back : ∀ b' y c' s', b' ≠ b → b' ∉ anc → h.get b' = some y → V'.ρ b' = some (c', s') → V.ρ b' = some (c', s') := by
      intro b' y c' s' _ _ hg hc'
      obtain ⟨c1, sh1, _, k1, _⟩ := hr.blk b' y hg
      rw [hx.le.ρ _ _ k1] at hc'; rw [k1]; exact hc'
    rcases hget b1 x1 e1 with ⟨e3, e4⟩ | ⟨e3, e4, e5⟩ <;> rcases hget b2 x2 e2 with ⟨e6, e7⟩ | ⟨e6, e7, e8⟩
    · exact absurd (e3.trans e6.symm) hne
    · subst e3; rw [hρb] at hc1; cases hc1
      exact absurd rfl (hc b2 x2 _ _ e6 e7 e8 (back b2 x2 _ _ e6 e7 e8 hc2))
    · subst e6; rw [hρb] at hc2; cases hc2
      exact absurd rfl (hc b1 x1 _ _ e3 e4 e5 (back b1 x1 _ _ e3 e4 e5 hc1))
    · exact hr.ali b1 b2 x1 x2 c1 s1 s2 e5 e8 hne (back b1 x1 _ _ e3 e4 e5 hc1) (back b2 x2 _ _ e6 e7 e8 hc2)
  · rw [symBase_eq, symBase_eq]
    exact Nat.mul_le_mul_right 64 (Nat.add_le_add_right (Nat.mul_le_mul_right 268435456 h2) 0)
  · have hne : c0 ≠ c := fun e => by subst e; exact hn b _ sh hb q1
    obtain ⟨m1, _⟩ := hx.keep c0 hc0 (own c0 hne)
    refine ⟨m1, fun b' y sh' e hc' => ?_⟩
    rcases hget b' y e with ⟨rfl, _⟩ | ⟨e1, e2, e3⟩
    · rw [hρb] at hc'; cases hc'; exact hne rfl
    · obtain ⟨c1, sh1, _, k1, _⟩ := hr.blk b' y e3
      rw [hx.le.ρ _ _ k1] at hc'; cases hc'
      exact hn b' y sh' e3 k1

theorem forkAll_spec {b el : Nat} {l : List AV} {st : St} {syms : List Nat} {run : H → Option (CRes × UM)} {h0 : H} : ∀ (L : List (List (AV × AV × Nat))) (v : AV) (l' : List AV) (nx ns : Nat), forkAll b el l st syms run h0 L = some (v, l', nx, ns) →
    ∀ pi ∈ L, ∃ nx1 ns1, forkOne b el l st syms run h0 pi = some (v, l', nx1, ns1) ∧ nx1 ≤ nx ∧ ns1 ≤ ns := by
  intro L
  induction L with
  | nil => intro v l' nx ns h; cases h
  | cons a L ih =>
    intro v l' nx ns h pi hpi
    cases L with
    | nil =>
      simp only [forkAll] at h
      simp at hpi; subst hpi
      exact ⟨nx, ns, h, Nat.le_refl _, Nat.le_refl _⟩
    | cons a2 L =>
      simp only [forkAll] at h
      cases h1 : forkOne b el l st syms run h0 a with
      | none => rw [h1] at h; cases h
      | some x1 =>
        cases h2 : forkAll b el l st syms run h0 (a2 :: L) with
        | none => rw [h1, h2] at h; cases h
        | some x2 =>
          obtain ⟨v1, l1, nx1, ns1⟩ := x1
          obtain ⟨v2, l2, nx2, ns2⟩ := x2
          rw [h1, h2] at h
          simp only at h
          cases hc : (avEq v1 v2 && avsEq l1 l2) with
          | false => rw [hc] at h; cases h
          | true =>
            rw [hc] at h; cases h
            simp only [Bool.and_eq_true] at hc
            have e1 := avEq_sound _ _ hc.1
            have e2 := avsEq_sound _ _ hc.2
            subst e1; subst e2
            rcases List.mem_cons.1 hpi with rfl | hpi
            · exact ⟨nx1, ns1, h1, Nat.le_max_left _ _, Nat.le_max_left _ _⟩
            · obtain ⟨nx3, ns3, k1, k2, k3⟩ := ih _ _ nx2 ns2 h2 pi hpi
              exact ⟨nx3, ns3, k1, Nat.le_trans k2 (Nat.le_max_right _ _), Nat.le_trans k3 (Nat.le_max_right _ _)⟩

theorem forkRun_ok {P : Program} {run : H → Option (CRes × UM)} {args : List AV} {h : H} {r : CRes} {um um' : UM} {f : Nat} (e : forkRun run args h = some (r, um'))
    (good : ∀ h r um', run h = some (r, um') → ∀ (V : Val) (w : World) (args' : List Value) (kind : CallKind) (cs : List Frame), HR V h w → VRs V args args' → UMR V um kind cs → FunEnd P V h w cs kind f (lone (Frame.enter P f ⟨args'⟩ kind) cs w) um' r) :
    (∃ h' x, run h' = some x) ∧ ∀ (V : Val) (w : World) (args' : List Value) (kind : CallKind) (cs : List Frame), HR V h w → VRs V args args' → UMR V um kind cs → FunEnd P V h w cs kind f (lone (Frame.enter P f ⟨args'⟩ kind) cs w) um' r := by
  unfold forkRun at e
  split at e
  · rename_i b _ _ _ _ rest
    split at e
    · rename_i el l anc st hb
      split at e
      · exact ⟨⟨_, _, e⟩, good _ _ _ e⟩
      · rename_i i0 _
        split at e
        · rename_i m since es stp k syms hfam
          cases hc : (Nat.beq syms.length es.length && Nat.beq k es.length && nodupE es && Nat.ble es.length 4 && stEq st st) with
          | false => rw [hc] at e; cases e
          | true =>
            rw [hc] at e; simp only [cond_true] at e
            simp only [Bool.and_eq_true] at hc
            obtain ⟨⟨⟨⟨c1, c2⟩, c3⟩, _⟩, _⟩ := hc
            have c1 := Nat.eq_of_beq_eq_true c1
            have c2 := Nat.eq_of_beq_eq_true c2
            have hnd := nodupE_spec es c3
            split at e
            · rename_i v l' nx ns hfa
              cases e
              have spec := forkAll_spec _ _ _ _ _ hfa
              -- what one order says
              have one : ∀ pi nx1 ns1, forkOne b el l st syms run h pi = some (v, l', nx1, ns1) → ∃ rows lp h' anc' st', rowsOf pi = some rows ∧ substL (zipS syms rows) l = some lp ∧ run ⟨h.nx, h.ns, (T.full 16).put b (some (.cells el lp [] st))⟩ = some (.ret v h', .no) ∧
                  h'.get b = some (.cells el l' anc' st') ∧ stEq st st' = true ∧ h'.nx = nx1 ∧ h'.ns = ns1 := by
                intro pi nx1 ns1 ho
                unfold forkOne at ho
                split at ho
                · rename_i rows hrows
                  split at ho
                  · rename_i lp hlp
                    split at ho
                    · rename_i v1 h' hrun
                      split at ho
                      · rename_i el' l1 anc' st' hg
                        cases hq : (Nat.beq el el' && stEq st st') with
                        | false => rw [hq] at ho; cases ho
                        | true =>
                          rw [hq] at ho; cases ho
                          simp only [Bool.and_eq_true] at hq
                          have := Nat.eq_of_beq_eq_true hq.1
                          subst this
                          exact ⟨rows, lp, h', anc', st', hrows, hlp, hrun, hg, hq.2, rfl, rfl⟩
                      · cases ho
                    · cases ho
                  · cases ho
                · cases ho
              have hex : ∃ h' x, run h' = some x := by
                have hpm : es ∈ permsE es := mem_permsE es es hnd (fun _ h => h) rfl
                obtain ⟨nx1, ns1, k1, _⟩ := spec es hpm
                obtain ⟨_, _, _, _, _, _, _, k2, _⟩ := one es nx1 ns1 k1
                exact ⟨_, _, k2⟩
              refine ⟨hex, fun V w args' kind cs hr hv hu => ?_⟩
              obtain ⟨c, sh, o, q1, q2, _, cm, seen, rfl, r1, r2, r3, r4, r5⟩ := hr.blk _ _ hfam
              obtain ⟨pi, p1, p2⟩ := choose_entries seen r4
              have hpl : pi.length = es.length := by
                have := congrArg List.length p1
                simp at this; omega
              have hpm : pi ∈ permsE es := mem_permsE es pi (by rw [p1]; exact r3) p2 hpl
              obtain ⟨nx1, ns1, k1, k2, k3⟩ := spec pi hpm
              obtain ⟨rows, lp, h', anc', st', g1, g2, g3, g4, g5, rfl, rfl⟩ := one pi nx1 ns1 k1
              -- the small heap
              have hget : ∀ b' y, (⟨h.nx, h.ns, (T.full 16).put b (some (.cells el lp [] st))⟩ : H).get b' = some y → b' = b ∧ y = .cells el lp [] st := by
                intro b' y hy
                rcases T.get_put (T.full 16 : T AB) b (some (.cells el lp [] st)) b' y hy with ⟨e1, e2⟩ | ⟨_, e2⟩
                · exact ⟨e1, (Option.some.inj e2).symm⟩
                · rw [T.full_get] at e2; cases e2
              obtain ⟨cb, shb, ob, b1, b2, cs0, fz0, rfl, b3, b4, b5⟩ := hr.blk b _ hb
              have hsym : ∀ (i : Nat) (x : AV), lp[i]? = some x → ∃ u, (cs0.toList.drop shb)[i]? = some u ∧ CR V x u := by
                intro i x hx
                obtain ⟨y, hy, hs⟩ := substL_get l lp g2 i x hx
                obtain ⟨u, hu1, hu2⟩ := b3 i y hy
                refine ⟨u, hu1, ?_, hu2.2⟩
                unfold substC at hs
                split at hs
                · rename_i io
                  split at hs
                  · rename_i row hrow
                    obtain ⟨j, j1, j2⟩ := rowAtS_get _ _ _ _ hrow
                    obtain ⟨xe, x1, x2⟩ := rowsOf_get pi rows g1 j row j2
                    have hsj : seen[j]? = some xe.2.2 := by rw [← p1]; simp [x1]
                    obtain ⟨x', y1, y2, row', us, y3, y4, y5⟩ := r5 j _ _ j1 hsj
                    have : x' = xe := born_inj hnd y1 (p2 xe (List.mem_of_getElem? x1)) y2
                    subst this
                    rw [x2] at y3; cases y3
                    rw [lget_eq] at hs
                    obtain ⟨u', u1, u2⟩ := y4.get _ _ hs
                    have ht := y5 _ _ u1
                    have hi : Nat.sub io (Nat.mod io 64) + Nat.mod io 64 = io := Nat.sub_add_cancel (Nat.mod_le io 64)
                    rw [hi] at ht
                    have hv := hu2.1
                    simp only [VR] at hv
                    rw [hv.1] at ht; cases ht
                    exact u2
                  · cases hs
                · cases hs; exact hu2.1
              have hrs : HR V (⟨h.nx, h.ns, (T.full 16).put b (some (.cells el lp [] st))⟩ : H) w := by
                refine ⟨fun b' y hy => ?_, fun b1' b2' x1 x2 c1' s1 s2 e1 e2 hne => ?_, hr.nx, hr.lt, hr.ns, hr.cz, hr.glo⟩
                · obtain ⟨rfl, rfl⟩ := hget b' y hy
                  exact ⟨cb, shb, _, b1, b2, cs0, fz0, rfl, hsym, b4, b5⟩
                · exact absurd ((hget b1' x1 e1).1.trans (hget b2' x2 e2).1.symm) hne
              have hfe := good _ _ _ g3 V w args' kind cs hrs hv hu
              obtain ⟨V', w', v', cs', fr, s, z1, z2, z3, z4, z5, z6, z7, z8, z9, z10⟩ := hfe
              have hs1 : (⟨h.nx, h.ns, (T.full 16).put b (some (.cells el lp [] st))⟩ : H).get b = some (.cells el lp [] st) ∨ True := .inr trivial
              obtain ⟨f1, f2⟩ := HR.frame (hs := ⟨h.nx, h.ns, (T.full 16).put b (some (.cells el lp [] st))⟩) hr hb g5 rfl (fun b' y hy => (hget b' y hy).1) z6 z7 g4 nx ns k2 k3
              exact ⟨V', w', v', cs', fr, s, z1, z2, z3, z4, z5, f1, f2, z8, z9, z10⟩
            · cases e
        · cases e
    · exact ⟨⟨_, _, e⟩, good _ _ _ e⟩
  · exact ⟨⟨_, _, e⟩, good _ _ _ e⟩
end Go.Ev
end

section
/- Calls, by the depth; what a run of the evaluator says of the program. -/
namespace Go.Ev

section
variable {E : Env} {F : Nat → Option FW} {C : Nat → Code → CW} {tr : Nat → CRes → CRes} (T : Table E F C tr)
include T

theorem callN_func {n : Nat} (hcall : CallR E.P (callOf (callN E F C tr n))) (hdef : DefR E.P (defdOf E (callN E F C tr n))) {i : Nat} {args : List AV} {um um' : UM} {h : H} {r : CRes} (hx : E.ext i = none)
    (e : callN E F C tr (n + 1) (.func i) args um h = some (r, um')) : Callable E.P i ∧ ∀ (V : Val) (w : World) (args' : List Value) (kind : CallKind) (cs : List Frame), HR V h w → VRs V args args' → UMR V um kind cs →
      FunEnd E.P V h w cs kind i (lone (Frame.enter E.P i ⟨args'⟩ kind) cs w) um' r := by
  simp only [callN, hx] at e
  split at e
  · rename_i wf hw
    obtain ⟨fn, hf, rfl, hname, hokf⟩ := T.fn i wf hw
    have body : ∀ h' x, (cFunc E fn).run (defdOf E (callN E F C tr n)) (callOf (callN E F C tr n)) args um h' = some x → ∃ c, fn.body = some c := by
      intro h' x hx'
      cases hb : fn.body with
      | some c => exact ⟨c, rfl⟩
      | none => unfold cFunc at hx'; simp [hb] at hx'
    have good : ∀ h r um', (cFunc E fn).run (defdOf E (callN E F C tr n)) (callOf (callN E F C tr n)) args um h = some (r, um') → ∀ (V : Val) (w : World) (args' : List Value) (kind : CallKind) (cs : List Frame), HR V h w → VRs V args args' → UMR V um kind cs →
        FunEnd E.P V h w cs kind i (lone (Frame.enter E.P i ⟨args'⟩ kind) cs w) um' r := by
      intro h r um' he V w args' kind cs hr hv hu
      obtain ⟨c, hb⟩ := body _ _ he
      exact cFunc_ok T.env T.draw hf hb (by unfold okFn at hokf; rw [hb] at hokf; exact hokf) hdef hcall he V w args' kind cs hr hv hu
    cases hs : E.sorts i with
    | true =>
      rw [hs] at e; simp only [cond_true] at e
      obtain ⟨⟨h', x, hx'⟩, k⟩ := forkRun_ok e good
      obtain ⟨c, hb⟩ := body _ _ hx'
      exact ⟨⟨fn, c, hf, hb, hname⟩, k⟩
    | false =>
      rw [hs] at e; simp only [cond_false] at e
      cases hrun : (cFunc E fn).run (defdOf E (callN E F C tr n)) (callOf (callN E F C tr n)) args um h with
      | none => rw [hrun] at e; cases e
      | some ru =>
        obtain ⟨c, hb⟩ := body _ _ hrun
        refine ⟨⟨fn, c, hf, hb, hname⟩, fun V w args' kind cs hr hv hu => ?_⟩
        rw [hrun] at e
        obtain ⟨r0, u0⟩ := ru
        split at e
        · rename_i k u hk
          simp only [Option.some.injEq, Prod.mk.injEq] at e
          obtain ⟨k', hk'⟩ := T.tr i k
          rw [hk'] at e
          rw [← e.1]; trivial
        · cases e
          exact good _ _ _ hrun V w args' kind cs hr hv hu
  · cases e

theorem calls_ok : ∀ n, CallR E.P (callOf (callN E F C tr n)) ∧ DefR E.P (defdOf E (callN E F C tr n)) := by
  intro n
  induction n with
  | zero =>
    refine ⟨fun V h w f g args args' fr cs hr hf hv => ⟨fun v h' e => ?_, fun v h' e => ?_⟩, fun f args um h um' h' e => ?_⟩
    · simp [callOf, callN] at e
    · simp [callOf, callN] at e
    · unfold defdOf at e
      split at e
      · cases e
      · simp [callN] at e
  | succ n ih =>
    obtain ⟨hcall, hdef⟩ := ih
    refine ⟨fun V h w f g args args' fr cs hr hf hv => ?_, fun f args um h um' h' e => ?_⟩
    · have none_case : callN E F C tr (n + 1) f args .no h = none → (∀ v h', callOf (callN E F C tr (n + 1)) f args h = .ret v h' → False) ∧ (∀ v h', callOf (callN E F C tr (n + 1)) f args h = .pan v h' → False) := by
        intro hn
        constructor <;> (intro v h' e; unfold callOf at e; rw [hn] at e; cases e)
      have some_case : ∀ r u, callN E F C tr (n + 1) f args .no h = some (r, u) → callOf (callN E F C tr (n + 1)) f args h = r := by
        intro r u hn; unfold callOf; rw [hn]
      cases hc : callN E F C tr (n + 1) f args .no h with
      | none =>
        obtain ⟨g1, g2⟩ := none_case hc
        exact ⟨fun v h' e => (g1 v h' e).elim, fun v h' e => (g2 v h' e).elim⟩
      | some ru =>
        obtain ⟨r, u⟩ := ru
        rw [some_case r u hc]
        rcases hf.noFail with ⟨i, rfl, rfl⟩ | ⟨l, c, rfl, rfl⟩
        · cases hx : E.ext i with
          | some x =>
            have hc' := hc
            simp only [callN, hx] at hc'
            split at hc'
            · rename_i v0 h0 hx0
              cases hc'
              refine ⟨fun v h' e => ?_, fun v h' e => (by cases e)⟩
              cases e
              obtain ⟨V', w', v', m, e1, e2, e3, e4, e5⟩ := T.ext i x hx args h v0 h0 hx0 V w args' fr cs hr hv
              exact ⟨V', w', v', m, e1, e2, e3, e4, e5⟩
            · cases hc'
          | none =>
            obtain ⟨hcl, hend⟩ := callN_func T hcall hdef hx hc
            have hfe := hend V w args' .normal (fr :: cs) hr hv rfl
            have hm : nextM E.P fr cs ((fnSem (.func i) args').run E.P w) = some (lone (Frame.enter E.P i ⟨args'⟩ .normal) (fr :: cs) w) := by
              simp only [fnSem]; rw [hcl.run]; rfl
            refine ⟨fun v h' e => ?_, fun v h' e => ?_⟩
            · subst e
              obtain ⟨V', w', v', cs', f0, s, p1, p2, p3, p4, ⟨fn, p5, p6⟩, q1, q2, q3, _, q5⟩ := hfe
              have hcs : cs' = fr :: cs := by rcases q5 with h | ⟨h, _⟩; exact h; cases h
              subst hcs
              exact ⟨V', w', v', _, hm, s.trans (.one (step_leave_returned ⟨p3, p4, p2, fn, by rw [p1]; exact p5, p6⟩)), q1, q2, q3⟩
            · subst e
              obtain ⟨V', w', v', cs', f0, s, p1, p2, p3, p4, ⟨fn, p5⟩, q1, q2, q3, _, q5⟩ := hfe
              have hcs : cs' = fr :: cs := by rcases q5 with h | ⟨h, _⟩; exact h; cases h
              subst hcs
              exact ⟨V', w', v', _, hm, s.trans (.one (step_leave_panicked ⟨p3, p4, fn, by rw [p1]; exact p5⟩)), q1, q2, q3⟩
        · obtain ⟨c', hc', hce⟩ : ∃ c', V.ρ l = some (c', 0) ∧ Fn.yield c = .yield c' := hf
          cases hce
          rcases callN_yield T hcall hc V w args' fr cs c hr hv hc' with ⟨k, rfl⟩ | ⟨v0, h0, rfl, V', w', v', m, e1, e2, e3, e4, e5⟩
          · exact ⟨fun _ _ e => (by cases e), fun _ _ e => (by cases e)⟩
          · refine ⟨fun v h' e => ?_, fun v h' e => (by cases e)⟩
            cases e
            exact ⟨V', w', v', m, e1, e2, e3, e4, e5⟩
    · unfold defdOf at e
      split at e
      · cases e
      · rename_i hx
        split at e
        · rename_i v0 h0 um0 hc
          cases e
          obtain ⟨hcl, hend⟩ := callN_func T hcall hdef hx hc
          refine ⟨hcl, fun V w args' c cs hr hv hu => ?_⟩
          obtain ⟨V', w', v', cs', f0, s, p1, p2, p3, p4, ⟨fn, p5, p6⟩, q1, q2, q3, q4, q5⟩ := hend V w args' .deferred (c :: cs) hr hv hu
          obtain ⟨m1, hm1⟩ : ∃ m1, cs' = { c with mode := m1 } :: cs := by
            rcases q5 with h | ⟨_, x, m, r', h1, h2⟩
            · exact ⟨c.mode, h⟩
            · cases h1; exact ⟨m, h2⟩
          subst hm1
          have hst := step_going_returned (P := E.P) (fr := f0) (c := { c with mode := m1 }) (cs := cs) (w := w') (v := v') p2 ⟨p3, p4, fn, by rw [p1]; exact p5, p6⟩
          refine ⟨V', w', settle m1, s.trans (.one hst), q1, q2, ?_⟩
          cases um' with
          | no => cases q4
          | ret =>
            obtain ⟨_, x, r', hxe, hmode⟩ := q4
            cases hxe
            have : m1 = .returning := hmode
            subst this; rfl
          | pan v =>
            obtain ⟨_, x, r', vv, hxe, hmode, hvv⟩ := q4
            cases hxe
            have : m1 = .panicking [{ v := vv, recovered := false }] := hmode
            subst this; exact ⟨vv, rfl, hvv⟩
          | rcd v =>
            obtain ⟨_, x, r', vv, hxe, hmode, hvv⟩ := q4
            cases hxe
            have : m1 = .panicking [{ v := vv, recovered := true }] := hmode
            subst this; rfl
        · cases e

/-- what a run of the evaluator says -/
theorem run_calls {n f : Nat} {args : List AV} {h h' : H} {v : AV} {um' : UM} (hx : E.ext f = none) (e : callN E F C tr (n + 1) (.func f) args .no h = some (.ret v h', um')) (V : Val) (w : World) (args' : List Value) (hr : HR V h w) (hv : VRs V args args') :
    Calls E.P f ⟨args'⟩ w fun e w' => ∃ V' v', e = .returned v' ∧ HR V' h' w' ∧ Ext V h w V' h' w' ∧ VR V' v v' := by
  intro cs
  obtain ⟨hcl, hend⟩ := callN_func T (calls_ok T n).1 (calls_ok T n).2 hx e
  obtain ⟨V', w', v', cs', f0, s, p1, p2, p3, p4, ⟨fn, p5, p6⟩, q1, q2, q3, _, q5⟩ := hend V w args' .normal cs hr hv rfl
  have hcs : cs' = cs := by rcases q5 with h | ⟨h, _⟩; exact h; cases h
  subst hcs
  exact ⟨.returned v', w', f0, ⟨V', v', rfl, q1, q2, q3⟩, s, p1, p3, p4, p2, fn, by rw [p1]; exact p5, p6⟩
end
end Go.Ev
end
