/- The evaluator's operations on values agree with the model's. -/
import Derived.Test.YtjeobamlafahaaaGreatDoorEvA
import Derived.IntWalk
import Derived.Laws.StructEq
import Derived.Laws.Tables
import Derived.Laws.BytesString

section
/- Frames and operands; the operations that only make values. -/
namespace Go.Ev

/-- the slots of a frame of n -/
structure FS (V : Val) (n : Nat) (fr : Fr) (tmps : Array Value) : Prop where
  size : n ≤ tmps.size
  rel : ∀ i, i < 512 → VR V ((getT i).run fr) (tmps.getD i undef)

theorem FS.mono {V V' : Val} (h : V.le V') {n : Nat} {fr : Fr} {t : Array Value} (r : FS V n fr t) : FS V' n fr t := ⟨r.size, fun i hi => VR.mono h _ _ (r.rel i hi)⟩

theorem FS.put {V : Val} {n d : Nat} {fr : Fr} {t : Array Value} (r : FS V n fr t) (hd : d < 512) (hn : d < n) {x : AV} {v : Value} (hv : VR V x v) :
    FS V n ((putT d).run x fr) (t.setIfInBounds d v) := by
  refine ⟨by simpa using r.size, fun i hi => ?_⟩
  rw [getT_putT i d hi hd]
  by_cases e : i = d
  · subst e
    have : i < t.size := Nat.lt_of_lt_of_le hn r.size
    simp [Array.getD, this, hv]
  · rw [if_neg e]
    have := r.rel i hi
    simp only [Array.getD_eq_getD_getElem?] at this ⊢
    rwa [Array.getElem?_setIfInBounds_ne (fun h => e h.symm)]

/-! constants -/
mutual
theorem cv_rel (V : Val) : ∀ (v : Value) (a : AV), cv v = some a → VR V a v
  | .bool b, a, h => by simp only [cv, Option.some.injEq] at h; subst h; simp [VR]
  | .int k n, a, h => by simp only [cv, Option.some.injEq] at h; subst h; simp [VR]
  | .float _ _, a, h => by simp [cv] at h
  | .complex _ _ _, a, h => by simp [cv] at h
  | .string s, a, h => by
    simp only [cv, Option.some.injEq] at h; subst h
    simp only [packB, VR]
    exact ⟨s, rfl, by constructor <;> simp [bytesN]⟩
  | .pointer none, a, h => by simp only [cv, Option.some.injEq] at h; subst h; simp [VR]
  | .pointer (some _), a, h => by simp [cv] at h
  | .slice none 0 0, a, h => by simp only [cv, Option.some.injEq] at h; subst h; simp [VR]
  | .slice none (_ + 1) _, a, h => by simp [cv] at h
  | .slice none 0 (_ + 1), a, h => by simp [cv] at h
  | .slice (some _) _ _, a, h => by simp [cv] at h
  | .map none, a, h => by simp only [cv, Option.some.injEq] at h; subst h; simp [VR]
  | .map (some _), a, h => by simp [cv] at h
  | .chan _, a, h => by simp [cv] at h
  | .func (.func f) ⟨[]⟩ ⟨[]⟩, a, h => by
    simp only [cv, Option.some.injEq] at h; subst h; simp only [VR]
    exact ⟨_, _, _, rfl, rfl, by simp [VRs], by simp [VRs]⟩
  | .func (.func f) ⟨_ :: _⟩ _, a, h => by simp [cv] at h
  | .func (.func f) ⟨[]⟩ ⟨_ :: _⟩, a, h => by simp [cv] at h
  | .func (.method _) _ _, a, h => by simp [cv] at h
  | .func (.methodOf _ _) _ _, a, h => by simp [cv] at h
  | .func (.via _ _ _ _) _ _, a, h => by simp [cv] at h
  | .func (.yield _) _ _, a, h => by simp [cv] at h
  | .nilFunc, a, h => by simp only [cv, Option.some.injEq] at h; subst h; simp [VR]
  | .iface t v, a, h => by
    simp only [cv] at h
    cases e : cv v with
    | none => simp [e] at h
    | some b => simp [e] at h; subst h; simp only [VR]; exact ⟨v, rfl, cv_rel V v b e⟩
  | .nilIface, a, h => by simp only [cv, Option.some.injEq] at h; subst h; simp [VR]
  | .agg ⟨l⟩, a, h => by
    simp only [cv] at h
    cases e : cvs l with
    | none => simp [e] at h
    | some b =>
      simp only [e] at h
      cases hb : b.all cell1 with
      | false => simp [hb] at h
      | true =>
        simp [hb] at h; subst h; simp only [VR]
        have hr := cvs_rel V l b e
        refine ⟨l, rfl, hr, fun u hu => ?_⟩
        obtain ⟨i, hi⟩ := List.mem_iff_getElem?.1 hu
        have hl := hr.length
        have hlt : i < b.length := by
          rw [← hl]
          rcases Nat.lt_or_ge i l.length with h | h
          · exact h
          · rw [List.getElem?_eq_none h] at hi; cases hi
        obtain ⟨u', hu', hv⟩ := hr.get i b[i] (List.getElem?_eq_getElem hlt)
        rw [hi] at hu'; cases hu'
        exact hv.one (List.all_eq_true.1 hb _ (List.getElem_mem hlt))
  | .tuple ⟨l⟩, a, h => by
    simp only [cv] at h
    cases e : cvs l with
    | none => simp [e] at h
    | some b => simp [e] at h; subst h; simp only [VR]; exact ⟨l, rfl, cvs_rel V l b e⟩
theorem cvs_rel (V : Val) : ∀ (v : List Value) (a : List AV), cvs v = some a → VRs V a v
  | [], a, h => by simp only [cvs, Option.some.injEq] at h; subst h; simp [VRs]
  | v :: r, a, h => by
    simp only [cvs] at h
    cases e : cv v with
    | none => simp [e] at h
    | some b =>
      cases e' : cvs r with
      | none => simp [e, e'] at h
      | some c => simp [e, e'] at h; subst h; simp only [VRs]; exact ⟨v, r, rfl, cv_rel V v b e, cvs_rel V r c e'⟩
end
end Go.Ev
end

section
namespace Go.Ev

theorem cOpd_rel {V : Val} {n : Nat} {fr : Fr} {a : Act} (r : FS V n fr a.tmps) {x : Operand} {g : Get} (e : cOpd x = some g) : VR V (g.run fr) (a.eval x) := by
  cases x with
  | tmp t =>
    simp only [cOpd] at e
    split at e
    · rename_i ht; cases e; exact r.rel t ht
    · cases e
  | const v =>
    simp only [cOpd] at e
    split at e
    · rename_i b hb; cases e; exact cv_rel V v b hb
    · cases e
  | global g => simp [cOpd] at e
  | func f => simp only [cOpd, Option.some.injEq] at e; subst e; simp only [VR, Act.eval]; exact ⟨_, _, _, rfl, rfl, by simp [VRs], by simp [VRs]⟩
theorem cOpds_rel {V : Val} {n : Nat} {fr : Fr} {a : Act} (r : FS V n fr a.tmps) : ∀ {l : List Operand} {gs : List Get}, cOpds l = some gs → VRs V (gets gs fr) (l.map a.eval) := by
  intro l
  induction l with
  | nil => intro gs e; simp only [cOpds, Option.some.injEq] at e; subst e; simp [gets, VRs]
  | cons x l ih =>
    intro gs e
    simp only [cOpds] at e
    split at e
    · rename_i g gs' h1 h2; cases e
      simp only [gets, VRs, List.map_cons]
      exact ⟨_, _, rfl, cOpd_rel r h1, ih h2⟩
    · cases e

/-- an operation that makes a value -/
def VS (P : Program) (o : Oper) (f : VF) : Prop := ∀ (V : Val) (n : Nat) (fr : Fr) (a : Act) (h : H) (w : World) (v : AV), FS V n fr a.tmps → HR V h w → f fr h = some v →
  ∃ u, (execOp a.eval o).run P w = .ok (.value u) w ∧ VR V v u

/-! types -/
def EnvS (E : Env) : Prop := ∀ t i, E.ty t = some i → tiOf E.P t = some i
theorem zOf_spec {agg : Bool} {v : Value} {z : List AV} (e : zOf agg v = some z) : ∃ a, cv v = some a ∧ cellsOf a = some z ∧ ((agg = true ∧ a = .agg z) ∨ (agg = false ∧ z = [a])) := by
  unfold zOf at e
  cases hc : cv v with
  | none => rw [hc] at e; cases e
  | some a =>
    rw [hc] at e
    cases a <;> first
      | (simp only at e
         split at e
         · cases e; rename_i h; exact ⟨_, rfl, rfl, .inl ⟨h, rfl⟩⟩
         · cases e; done)
      | (simp only at e
         split at e
         · cases e; done
         · rename_i h
           simp only [cellsOf] at e
           first
             | (cases e; done)
             | (cases e; exact ⟨_, rfl, rfl, .inr ⟨by simpa using h, rfl⟩⟩))
structure TIS (P : Program) (t : Nat) (i : TI) : Prop where
  und : P.underlying t = some i.d
  info : ∃ x, P.info? t = some x ∧ x.size = i.size ∧ x.bytes ≤ 1048576 ∧ (∀ z, i.z = some z → z.length = i.size ∧ ∃ v, x.zero = some v ∧ zOf i.agg v = some z)
  agg : i.agg = match i.d with | .struct _ | .array _ _ => true | _ => false
theorem tiOf_spec {P : Program} {t : Nat} {i : TI} (e : tiOf P t = some i) : TIS P t i := by
  unfold tiOf at e
  split at e
  · rename_i d x h1 h2
    simp only at e
    split at e
    · rename_i hb
      cases e
      refine ⟨h1, ⟨x, h2, rfl, hb, fun z hz => ?_⟩, rfl⟩
      simp only at hz
      split at hz
      · rename_i v hv
        split at hz
        · rename_i l hl
          split at hz
          · rename_i hlen; cases hz; exact ⟨hlen, v, hv, hl⟩
          · cases hz
        · cases hz
      · cases hz
    · cases e
  · cases e
section
variable {P : Program} {t : Nat} {i : TI} (s : TIS P t i) (w : World)
include s
theorem TIS.run_und : (underlying t).run P w = .ok i.d w := run_underlying s.und w
theorem TIS.run_size : (sizeOf t).run P w = .ok i.size w := by
  obtain ⟨x, hx, hs, _⟩ := s.info
  simp [sizeOf, typeInfo, hx, hs]
theorem TIS.run_agg : (isAgg t).run P w = .ok i.agg w := by
  simp only [isAgg, Sem.run_bind, s.run_und w, Result.andThen_ok, s.agg]
  cases i.d <;> rfl
theorem TIS.run_bytes : ∃ n, n ≤ 1048576 ∧ ∃ x, x.bytes = n ∧ (typeInfo t).run P w = .ok x w := by
  obtain ⟨x, hx, _, hb, _⟩ := s.info
  exact ⟨x.bytes, hb, x, rfl, by simp [typeInfo, hx]⟩
theorem TIS.z_length {z : List AV} (hz : i.z = some z) : z.length = i.size := by
  obtain ⟨x, _, _, _, h0⟩ := s.info
  exact (h0 z hz).1
theorem TIS.run_zero {z : List AV} (hz : i.z = some z) (V : Val) : ∃ v l, (zeroValue t).run P w = .ok v w ∧ v.cells = ⟨l⟩ ∧ VRs V z l ∧ (∀ u ∈ l, u.oneCell' = true) ∧ ∀ a, i.zero = some a → VR V a v := by
  obtain ⟨x, hx, _, _, h0⟩ := s.info
  obtain ⟨_, v, hv, hzo⟩ := h0 z hz
  obtain ⟨a, ha, hc, hag⟩ := zOf_spec hzo
  have hr := cv_rel V v a ha
  obtain ⟨l, h1, h2, h3⟩ := cellsOf_rel hr hc
  refine ⟨v, l, by simp [zeroValue, typeInfo, hx, hv], h1, h2, h3, fun a' ha' => ?_⟩
  unfold TI.zero at ha'
  rw [hz] at ha'
  rcases hag with ⟨e1, rfl⟩ | ⟨e1, rfl⟩
  · simp only [e1, if_true, Option.some.injEq] at ha'; subst ha'; exact hr
  · simp only [e1, Bool.false_eq_true, if_false, Option.some.injEq] at ha'; subst ha'; exact hr
end

theorem execOp_move (ρ : Operand → Value) (dst : Option Tmp) (x : Operand) (t : Nat) (pos : String) (af : Array Edge) (gd : Option (Nat × Bool)) (P : Program) (w : World) :
    (execOp ρ ⟨dst, .move x, t, pos, af, gd⟩).run P w = .ok (.value (ρ x)) w := rfl

theorem VS.move {P : Program} {o : Oper} {x : Operand} {g : Get} (ho : o.op = .move x ∨ o.op = .assign x) (e : cOpd x = some g) : VS P o (fMv g) := by
  intro V n fr a h w v r _ hv
  simp only [fMv, Option.some.injEq] at hv; subst hv
  refine ⟨a.eval x, ?_, cOpd_rel r e⟩
  rcases ho with ho | ho <;> simp [execOp, ho]
theorem VS.pick {P : Program} {o : Oper} {c x y : Operand} {gc gx gy : Get} (ho : o.op = .pick c x y) (ec : cOpd c = some gc) (ex : cOpd x = some gx) (ey : cOpd y = some gy) :
    VS P o (fPick gc gx gy) := by
  intro V n fr a h w v r _ hv
  have rc := cOpd_rel r ec
  unfold fPick at hv
  split at hv
  · rename_i hb; rw [hb] at rc; simp only [VR] at rc; cases hv
    exact ⟨a.eval x, by simp [execOp, ho, rc, asBool], cOpd_rel r ex⟩
  · rename_i hb; rw [hb] at rc; simp only [VR] at rc; cases hv
    exact ⟨a.eval y, by simp [execOp, ho, rc, asBool], cOpd_rel r ey⟩
  · cases hv

/-- unary operations on a value alone -/
theorem VS.f1 {P : Program} {o : Oper} {x : Operand} {g : Get} {f : AV → Option AV} (e : cOpd x = some g)
    (hf : ∀ (V : Val) (a : Act) (w : World) (b v : AV), VR V b (a.eval x) → f b = some v → ∃ u, (execOp a.eval o).run P w = .ok (.value u) w ∧ VR V v u) : VS P o (Ev.f1 f g) :=
  fun V _ _ a _ w v r _ hv => hf V a w _ v (cOpd_rel r e) hv
theorem VS.f2 {P : Program} {o : Oper} {x y : Operand} {g g' : Get} {f : AV → AV → Option AV} (e : cOpd x = some g) (e' : cOpd y = some g')
    (hf : ∀ (V : Val) (a : Act) (w : World) (b c v : AV), VR V b (a.eval x) → VR V c (a.eval y) → f b c = some v → ∃ u, (execOp a.eval o).run P w = .ok (.value u) w ∧ VR V v u) : VS P o (Ev.f2 f g g') :=
  fun V _ _ a _ w v r _ hv => hf V a w _ _ v (cOpd_rel r e) (cOpd_rel r e') hv

theorem VS.nilCheck {P : Program} {o : Oper} {x : Operand} {g : Get} (ho : o.op = .nilCheck x) (e : cOpd x = some g) : VS P o (Ev.f1 nilChk g) := by
  refine VS.f1 e fun V a w b v rb hv => ?_
  unfold nilChk at hv
  split at hv
  · cases hv
    have rb' := rb
    simp only [VR] at rb'; obtain ⟨c, sh, _, e1⟩ := rb'
    exact ⟨a.eval x, by simp [execOp, ho, e1], rb⟩
  · cases hv
    have rb' := rb
    simp only [VR] at rb'; obtain ⟨x', e1, _⟩ := rb'
    exact ⟨a.eval x, by simp [execOp, ho, e1], rb⟩
  · cases hv
    have rb' := rb
    simp only [VR, FnR] at rb'; obtain ⟨f', a', c', e1, rfl, _⟩ := rb'
    exact ⟨a.eval x, by simp [execOp, ho, e1], rb⟩
  · cases hv
    have rb' := rb
    simp only [VR, FnR] at rb'; obtain ⟨f', a', c', e1, ⟨cc, _, rfl⟩, _⟩ := rb'
    exact ⟨a.eval x, by simp [execOp, ho, e1], rb⟩
  · cases hv

theorem wrap64_in (r : Int) (h1 : -9223372036854775808 ≤ r) (h2 : r ≤ 9223372036854775807) : IntKind.i64.wrap r = r := IntWalk.i64_in r (by omega)
theorem wrapI_eq (k : IntKind) (r : Int) : wrapI k r = k.wrap r := by
  unfold wrapI
  split
  · split
    · rename_i n
      cases hb : Nat.ble n 9223372036854775807 with
      | false => rw [cond_false]
      | true =>
        have h0 : n ≤ 9223372036854775807 := Nat.le_of_ble_eq_true hb
        have e : (Int.ofNat n) = (n : Int) := rfl
        have h1 := wrap64_in (Int.ofNat n) (by rw [e]; omega) (by rw [e]; omega)
        rw [cond_true, h1]
    · rename_i n
      cases hb : Nat.ble n 9223372036854775807 with
      | false => rw [cond_false]
      | true =>
        have h0 : n ≤ 9223372036854775807 := Nat.le_of_ble_eq_true hb
        have h1 := wrap64_in (-((n : Int) + 1)) (by omega) (by omega)
        rw [show -((n : Int) + 1) = Int.negSucc n from (Int.negSucc_eq n).symm] at h1
        rw [cond_true, h1]
  · rfl
theorem kindEq_iff {a b : IntKind} (h : kindEq a b = true) : a = b := by cases a <;> cases b <;> first | rfl | (simp [kindEq, kindN] at h)

theorem VR.of_int {V : Val} {k : IntKind} {a b : Int} (h : a = b) : VR V (.int k a) (.int k b) := by subst h; simp [VR]
theorem VR.of_bool {V : Val} {a b : Bool} (h : a = b) : VR V (.bool a) (.bool b) := by subst h; simp [VR]
theorem intOp_rel {V : Val} {P : Program} {w : World} {op : BinOp} {k : IntKind} {a b : Int} {v : AV} (hs : op ≠ .shl ∧ op ≠ .shr) (e : intOp op k a b = some v) (t : Nat) :
    ∃ u, (binOp op t (.int k a) (.int k b)).run P w = .ok u w ∧ VR V v u := by
  cases op <;> simp only [intOp, Option.some.injEq] at e <;> first
    | (subst e; exact ⟨.int k _, by simp only [binOp, ne_eq, not_true_eq_false, if_false, Op.intArith]; rfl, .of_int (wrapI_eq _ _)⟩)
    | (subst e; exact ⟨.int k _, by simp only [binOp, ne_eq, not_true_eq_false, if_false, Op.intBits]; rfl, .of_int rfl⟩)
    | (subst e; exact ⟨.bool _, by simp only [binOp, ne_eq, not_true_eq_false, if_false, Op.intCmp]; rfl, .of_bool rfl⟩)
    | (split at e
       · cases e
       · rename_i hb; simp only [Option.some.injEq] at e; subst e
         first
          | exact ⟨.int k _, by simp only [binOp, ne_eq, not_true_eq_false, if_false, Op.intDiv, if_neg hb]; rfl, .of_int (wrapI_eq _ _)⟩
          | exact ⟨.int k _, by simp only [binOp, ne_eq, not_true_eq_false, if_false, Op.intDiv, if_neg hb]; rfl, .of_int rfl⟩)
    | exact absurd rfl hs.1
    | exact absurd rfl hs.2
end Go.Ev
end

section
namespace Go.Ev

/-! equality -/
def CKd : CK → TypeDesc → Prop
  | .int, d => ∃ k, d = .int k
  | .str, d => d = .string
  | .bool, d => d = .bool
def CKt (P : Program) (c : CK) (t : Nat) : Prop := ∃ d, P.underlying t = some d ∧ CKd c d
def isAggD : TypeDesc → Bool
  | .struct _ | .array _ _ => true
  | _ => false
theorem eqC_rel {V : Val} {P : Program} {t : Nat} {c : CK} {x y : AV} {u v : Value} {r : Bool} {d : TypeDesc} (hu : P.underlying t = some d)
    (hd : CKd c d) (rx : VR V x u) (ry : VR V y v) (e : eqC c x y = some r) (n : Nat) (w : World) :
    (Op.equalIn (n + 1) t u v).run P w = .ok r w := by
  unfold eqC at e
  split at e
  · obtain ⟨k0, rfl⟩ := hd
    rename_i k a k' b
    cases hk : kindEq k k' with
    | false => rw [hk] at e; cases e
    | true =>
      rw [hk] at e
      have := kindEq_iff hk; subst this
      simp only [cond_true, Option.some.injEq] at e
      simp only [VR] at rx ry; subst rx; subst ry; subst e
      simp [Op.equalIn, run_underlying hu]
  · cases hd
    simp only [VR] at rx ry
    obtain ⟨s, rfl, hs⟩ := rx
    obtain ⟨s', rfl, hs'⟩ := ry
    simp only [Option.some.injEq] at e
    rw [strEq_iff hs hs'] at e
    subst e
    rw [run_equalIn_string w n t s s' hu, ← beq_toListBytes]
    congr 1
    rw [Bool.eq_iff_iff, decide_eq_true_iff]
    exact ⟨fun h => by
      rw [beq_toListBytes, ByteArray.toList_eq, ByteArray.toList_eq] at h
      have h' : s.data.toList = s'.data.toList := by simpa using h
      cases s with | mk x => cases s' with | mk y => cases x; cases y; simp at h'; rw [h'], fun h => by subst h; rw [beq_toListBytes]; simp⟩
  · cases hd
    simp only [VR] at rx ry; subst rx; subst ry
    simp only [Option.some.injEq] at e; subst e
    simp [Op.equalIn, run_underlying hu]
  · cases e

structure EqS (P : Program) (t : Nat) (q : EqK) : Prop where
  h : match q with
    | .one c => CKt P c t
    | .ptr => ∃ e x, P.underlying t = some (.pointer e) ∧ P.info? e = some x ∧ x.size ≠ 0
    | .map => ∃ a b, P.underlying t = some (.map a b)
    | .slice => ∃ a, P.underlying t = some (.slice a)
    | .func => ∃ a b c, P.underlying t = some (.func a b c)
    | .iface => ∃ ms, P.underlying t = some (.interface ms)
    | .flat cs => ∃ fs : Array Field, P.underlying t = some (.struct fs) ∧ P.stoodInHeld t = false ∧ fs.size = cs.length ∧
        ∀ (j : Nat) (f : Field) (c : CK), fs[j]? = some f → cs[j]? = some c → f.offset = j ∧ f.name ≠ "_" ∧ CKt P c f.type

theorem ckOf_spec {E : Env} (hE : EnvS E) {t : Nat} {c : CK} (e : ckOf E t = some c) : CKt E.P c t := by
  unfold ckOf at e
  split at e
  · rename_i i hi
    have s := tiOf_spec (hE t i hi)
    have hu := s.und
    split at e
    · rename_i k hd; cases e; exact ⟨_, hu, k, hd⟩
    · rename_i hd; cases e; exact ⟨_, hu, hd⟩
    · rename_i hd; cases e; exact ⟨_, hu, hd⟩
    · cases e
  · cases e
theorem flatOf_spec {E : Env} (hE : EnvS E) : ∀ (l : List Field) (j0 : Nat) (cs : List CK), flatOf E j0 l = some cs → l.length = cs.length ∧
    ∀ (j : Nat) (f : Field) (c : CK), l[j]? = some f → cs[j]? = some c → f.offset = j0 + j ∧ f.name ≠ "_" ∧ CKt E.P c f.type := by
  intro l
  induction l with
  | nil => intro j0 cs e; simp only [flatOf, Option.some.injEq] at e; subst e; exact ⟨rfl, fun j f c h => by simp at h⟩
  | cons f l ih =>
    intro j0 cs e
    simp only [flatOf] at e
    split at e
    · rename_i c cs' h1 h2
      split at e
      · rename_i h3
        cases e
        obtain ⟨h4, h5⟩ := ih (j0 + 1) cs' h2
        refine ⟨by simp [h4], fun j f' c' hf hc => ?_⟩
        cases j with
        | zero => simp at hf hc; subst hf; subst hc; exact ⟨by simpa using h3.1, h3.2, ckOf_spec hE h1⟩
        | succ j =>
          obtain ⟨h6, h7⟩ := h5 j f' c' (by simpa using hf) (by simpa using hc)
          exact ⟨by omega, h7⟩
      · cases e
    · cases e
theorem cEq_spec {E : Env} (hE : EnvS E) {t : Nat} {q : EqK} (e : cEq E t = some q) : EqS E.P t q := by
  unfold cEq at e
  split at e
  · rename_i i hi
    have s := tiOf_spec (hE t i hi)
    have hu := s.und
    split at e
    · rename_i k hd; cases e; exact ⟨⟨_, hu, k, hd⟩⟩
    · rename_i hd; cases e; exact ⟨⟨_, hu, hd⟩⟩
    · rename_i hd; cases e; exact ⟨⟨_, hu, hd⟩⟩
    · rename_i x hd
      split at e
      · rename_i ei hei
        split at e
        · cases e
        · rename_i h0
          cases e
          obtain ⟨x', hx', hs', _⟩ := (tiOf_spec (hE _ _ hei)).info
          exact ⟨x, x', by rw [hu, hd], hx', by rw [hs']; exact h0⟩
      · cases e
    · rename_i a b hd; cases e; exact ⟨a, b, by rw [hu, hd]⟩
    · rename_i a hd; cases e; exact ⟨a, by rw [hu, hd]⟩
    · rename_i a b c hd; cases e; exact ⟨a, b, c, by rw [hu, hd]⟩
    · rename_i ms hd; cases e; exact ⟨ms, by rw [hu, hd]⟩
    · rename_i fs hd
      split at e
      · rename_i l hl
        split at e
        · cases e
        · rename_i hst
          cases e
          obtain ⟨h1, h2⟩ := flatOf_spec hE fs.toList 0 l hl
          refine ⟨fs, by rw [hu, hd], by simpa using hst, by simpa using h1, fun j f c hf hc => ?_⟩
          obtain ⟨h3, h4⟩ := h2 j f c (by simpa using hf) hc
          exact ⟨by omega, h4⟩
      · cases e
    · cases e
  · cases e

theorem run_part1 {P : Program} {t : Nat} {d : TypeDesc} (hu : P.underlying t = some d) (hd : isAggD d = false) (cs : Array Value) (off : Nat) (v : Value)
    (hv : cs[off]? = some v) (w : World) : (part t cs off).run P w = .ok v w := by
  have : (isAgg t).run P w = .ok false w := by
    simp only [isAgg, Sem.run_bind, run_underlying hu, Result.andThen_ok]
    cases d <;> first | rfl | (simp [isAggD] at hd)
  simp [part, this, hv]

theorem eqCells_rel {V : Val} {P : Program} (xs ys : Array Value) (n : Nat) (w : World) : ∀ (cs : List CK) (l m : List AV) (us vs : List Value) (j0 : Nat) (fl : List Field) (r : Bool),
    eqCells cs l m = some r → VRs V l us → VRs V m vs → fl.length = cs.length →
    (∀ (i : Nat) (u : Value), us[i]? = some u → xs[j0 + i]? = some u) → (∀ (i : Nat) (v : Value), vs[i]? = some v → ys[j0 + i]? = some v) →
    (∀ (j : Nat) (f : Field) (c : CK), fl[j]? = some f → cs[j]? = some c → f.offset = j0 + j ∧ f.name ≠ "_" ∧ CKt P c f.type) →
    (Op.eqFields (n + 1) xs ys fl).run P w = .ok r w := by
  intro cs
  induction cs with
  | nil =>
    intro l m us vs j0 fl r e _ _ hl _ _ _
    have : fl = [] := List.length_eq_zero_iff.1 hl
    subst this
    cases l <;> cases m <;> simp only [eqCells] at e <;> cases e
    simp [Op.eqFields]
  | cons c cs ih =>
    intro l m us vs j0 fl r e hx hy hl h1 h2 h3
    cases fl with
    | nil => simp at hl
    | cons f fl =>
    cases l with
    | nil => simp [eqCells] at e
    | cons a l =>
    cases m with
    | nil => simp [eqCells] at e
    | cons b m =>
    simp only [VRs] at hx hy
    obtain ⟨u, us', rfl, hxu, hx'⟩ := hx
    obtain ⟨v, vs', rfl, hyv, hy'⟩ := hy
    obtain ⟨ho, hn, hk⟩ := h3 0 f c rfl rfl
    obtain ⟨d, hd, hcd⟩ := hk
    have hda : isAggD d = false := by
      cases c
      · obtain ⟨k, rfl⟩ := hcd; rfl
      · cases hcd; rfl
      · cases hcd; rfl
    have p1 := run_part1 hd hda xs f.offset u (by rw [ho]; exact h1 0 u rfl) w
    have p2 := run_part1 hd hda ys f.offset v (by rw [ho]; exact h2 0 v rfl) w
    simp only [eqCells] at e
    simp only [Op.eqFields, if_pos hn, Sem.run_bind, p1, p2, Result.andThen_ok]
    cases hc : eqC c a b with
    | none => rw [hc] at e; cases e
    | some q =>
      rw [hc] at e
      rw [eqC_rel hd hcd hxu hyv hc n w]
      cases q with
      | false => simp only [Option.some.injEq] at e; subst e; simp
      | true =>
        simp only at e
        simp only [Result.andThen_ok, Bool.not_true, Bool.false_eq_true, if_false]
        exact ih l m us' vs' (j0 + 1) fl r e hx' hy' (by simpa using hl) (fun i u hu => by have := h1 (i + 1) u (by simpa using hu); rwa [show j0 + (i + 1) = j0 + 1 + i by omega] at this)
          (fun i v hv => by have := h2 (i + 1) v (by simpa using hv); rwa [show j0 + (i + 1) = j0 + 1 + i by omega] at this)
          (fun j f c hf hc => by obtain ⟨a, b⟩ := h3 (j + 1) f c (by simpa using hf) (by simpa using hc); exact ⟨by omega, b⟩)

set_option maxHeartbeats 2000000 in
theorem eqKn_rel (n : Nat) {V : Val} {P : Program} {t : Nat} {q : EqK} (s : EqS P t q) {x y : AV} {u v : Value} (rx : VR V x u) (ry : VR V y v) {nilOk r : Bool} (e : eqK nilOk q x y = some r) (w : World) :
    (Op.equalIn (n + 1 + 1) t u v).run P w = .ok r w := by
  have hs := s.h
  cases q with
  | one c =>
    simp only [eqK] at e
    obtain ⟨d, hd, hcd⟩ := hs
    exact eqC_rel hd hcd rx ry e _ w
  | ptr =>
    obtain ⟨el, x', hu, hi, h0⟩ := hs
    simp only [eqK] at e
    unfold eqP at e
    split at e <;> (try simp only [VR] at rx ry)
    · cases e; subst rx; subst ry; simp [Op.equalIn, run_underlying hu]
    · cases e; obtain ⟨c, sh, _, rfl⟩ := ry; subst rx; simp [Op.equalIn, run_underlying hu]
    · cases e; obtain ⟨c, sh, _, rfl⟩ := rx; subst ry; simp [Op.equalIn, run_underlying hu]
    · rename_i a b c d
      cases hb : Nat.beq a c with
      | false => rw [hb] at e; cases e
      | true =>
        rw [hb] at e
        have hac : a = c := Nat.eq_of_beq_eq_true hb
        subst hac
        simp only [cond_true, Option.some.injEq] at e
        obtain ⟨c1, sh1, h1, rfl⟩ := rx
        obtain ⟨c2, sh2, h2, rfl⟩ := ry
        rw [h1] at h2; cases h2
        have hsz : (sizeOf el).run P w = .ok x'.size w := by simp [sizeOf, typeInfo, hi]
        simp only [Op.equalIn, Sem.run_bind, run_underlying hu, Result.andThen_ok, hsz, Sem.run_ite, if_pos h0, sameAddr, beq_self_eq_true, if_true, Sem.run_pure]
        subst e
        congr 1
        rw [Bool.eq_iff_iff]
        simp
    · cases e
  | map =>
    obtain ⟨a, b, hu⟩ := hs
    simp only [eqK] at e
    unfold eqM at e
    split at e <;> (try simp only [VR] at rx ry)
    · cases e; subst rx; subst ry; simp [Op.equalIn, run_underlying hu]
    · cases e; obtain ⟨c, _, rfl⟩ := ry; subst rx; simp [Op.equalIn, run_underlying hu]
    · cases e; obtain ⟨c, _, rfl⟩ := rx; subst ry; simp [Op.equalIn, run_underlying hu]
    · cases e
  | slice =>
    obtain ⟨a, hu⟩ := hs
    simp only [eqK] at e
    unfold eqSl at e
    split at e <;> (try simp only [VR] at rx ry)
    · cases e; subst rx; subst ry; simp [Op.equalIn, run_underlying hu]
    · cases e; obtain ⟨c, sh, cap', _, rfl, _⟩ := ry; subst rx; simp [Op.equalIn, run_underlying hu]
    · cases e; obtain ⟨c, sh, cap', _, rfl, _⟩ := rx; subst ry; simp [Op.equalIn, run_underlying hu]
    · cases e; obtain ⟨c, sh, o, cap', _, rfl, _⟩ := ry; subst rx; simp [Op.equalIn, run_underlying hu]
    · cases e; obtain ⟨c, sh, o, cap', _, rfl, _⟩ := rx; subst ry; simp [Op.equalIn, run_underlying hu]
    · cases e
  | func =>
    obtain ⟨a, b, c, hu⟩ := hs
    simp only [eqK] at e
    unfold eqF at e
    split at e <;> (try simp only [VR] at rx ry)
    · cases e; subst rx; subst ry; simp [Op.equalIn, run_underlying hu]
    · cases e; obtain ⟨f', a', c', rfl, _⟩ := ry; subst rx; simp [Op.equalIn, run_underlying hu]
    · cases e; obtain ⟨f', a', c', rfl, _⟩ := rx; subst ry; simp [Op.equalIn, run_underlying hu]
    · cases e
  | iface =>
    obtain ⟨ms, hu⟩ := hs
    simp only [eqK] at e
    unfold eqI at e
    split at e <;> (try simp only [VR] at rx ry)
    · subst rx; subst ry; cases nilOk <;> simp at e; subst e; simp [Op.equalIn, run_underlying hu]
    · cases e; obtain ⟨x', rfl, _⟩ := ry; subst rx; simp [Op.equalIn, run_underlying hu]
    · cases e; obtain ⟨x', rfl, _⟩ := rx; subst ry; simp [Op.equalIn, run_underlying hu]
    · cases e
  | flat cs =>
    obtain ⟨fs, hu, hst, hl, hf⟩ := hs
    simp only [eqK] at e
    unfold eqAgg at e
    split at e
    · rename_i l m
      simp only [VR] at rx ry
      obtain ⟨us, rfl, hx, _⟩ := rx
      obtain ⟨vs, rfl, hy, _⟩ := ry
      have hfo : P.fieldsOf t = fs := by simp [Program.fieldsOf, hu]
      rw [run_equalIn_struct w _ t _ _ (by rw [hfo]; exact hu) hst, hfo]
      exact eqCells_rel (V := V) ⟨us⟩ ⟨vs⟩ n w cs l m us vs 0 fs.toList r e hx hy (by simpa using hl) (fun i u hu => by simpa using hu) (fun i v hv => by simpa using hv)
        (fun j f c h1 h2 => by obtain ⟨h3, h4⟩ := hf j f c (by simpa using h1) h2; exact ⟨by omega, h4⟩)
    · cases e
theorem eqK_rel {V : Val} {P : Program} {t : Nat} {q : EqK} (s : EqS P t q) {x y : AV} {u v : Value} (rx : VR V x u) (ry : VR V y v) {nilOk r : Bool} (e : eqK nilOk q x y = some r) (w : World) :
    (Op.equal t u v).run P w = .ok r w := by
  have h := eqKn_rel 9998 s rx ry e w
  have : Op.equal t u v = Op.equalIn (9998 + 1 + 1) t u v := by unfold Op.equal Op.maxDepth; rfl
  rw [this]; exact h
end Go.Ev
end

section
namespace Go.Ev

theorem run_eqGuard_int {P : Program} (op : BinOp) (t : Nat) (x y : Operand) (k k' : IntKind) (a b : Int) (w : World) : (eqGuard op t x y (.int k a) (.int k' b)).run P w = .ok () w := by
  unfold eqGuard; cases op <;> rfl
theorem run_eqGuard_str {P : Program} (op : BinOp) (t : Nat) (x y : Operand) (a b : ByteArray) (w : World) : (eqGuard op t x y (.string a) (.string b)).run P w = .ok () w := by
  unfold eqGuard; cases op <;> rfl

theorem execOp_bin (ρ : Operand → Value) (o : Oper) (op : BinOp) (t : Nat) (x y : Operand) (yt : Nat) (ho : o.op = .binOp op t x y yt) :
    execOp ρ o = (do pure (Next.value (← (do eqGuard op t x y (ρ x) (ρ y); binOp op t (ρ x) (ρ y))))) := by
  simp [execOp, ho]

theorem VS.bin {P : Program} {o : Oper} {op : BinOp} {t yt : Nat} {x y : Operand} {g g' : Get} {f : AV → AV → Option AV} (ho : o.op = .binOp op t x y yt) (e : cOpd x = some g) (e' : cOpd y = some g')
    (hf : ∀ (V : Val) (w : World) (b c : AV) (u v : Value) (r : AV), VR V b u → VR V c v → f b c = some r →
      (eqGuard op t x y u v).run P w = .ok () w ∧ ∃ z, (binOp op t u v).run P w = .ok z w ∧ VR V r z) : VS P o (Ev.f2 f g g') := by
  refine VS.f2 e e' fun V a w b c v rb rc hv => ?_
  obtain ⟨h1, z, h2, h3⟩ := hf V w b c _ _ v rb rc hv
  exact ⟨z, by rw [execOp_bin a.eval o op t x y yt ho]; simp [h1, h2], h3⟩

theorem VS.intBin {P : Program} {o : Oper} {op : BinOp} {t yt : Nat} {x y : Operand} {g g' : Get} (ho : o.op = .binOp op t x y yt) (e : cOpd x = some g) (e' : cOpd y = some g') (hs : op ≠ .shl ∧ op ≠ .shr) :
    VS P o (Ev.f2 (Ev.intBin op) g g') := by
  refine VS.bin ho e e' fun V w b c u v r rb rc hr => ?_
  unfold Ev.intBin at hr
  split at hr
  · rename_i k a k' b'
    cases hk : kindEq k k' with
    | false => rw [hk] at hr; cases hr
    | true =>
      rw [hk] at hr
      have := kindEq_iff hk; subst this
      simp only [VR] at rb rc; subst rb; subst rc
      exact ⟨run_eqGuard_int .., intOp_rel hs hr t⟩
  · cases hr
theorem VS.shBin {P : Program} {o : Oper} {op : BinOp} {t yt : Nat} {x y : Operand} {g g' : Get} (ho : o.op = .binOp op t x y yt) (e : cOpd x = some g) (e' : cOpd y = some g') :
    VS P o (Ev.f2 (Ev.shBin op) g g') := by
  refine VS.bin ho e e' fun V w b c u v r rb rc hr => ?_
  unfold Ev.shBin at hr
  split at hr
  · rename_i k a k' b'
    simp only [VR] at rb rc; subst rb; subst rc
    refine ⟨run_eqGuard_int .., ?_⟩
    unfold shiftOp at hr
    split at hr
    · cases hr
    · rename_i hn
      split at hr
      · cases hr
        exact ⟨.int k _, by simp only [binOp, Op.shift, if_neg hn]; rfl, .of_int (wrapI_eq _ _)⟩
      · cases hr
        exact ⟨.int k _, by simp only [binOp, Op.shift, if_neg hn]; rfl, .of_int rfl⟩
      · cases hr
  · cases hr
theorem beqL_iff {s t : ByteArray} : (s.toList == t.toList) = decide (s = t) := by
  rw [Bool.eq_iff_iff, decide_eq_true_iff, ByteArray.toList_eq, ByteArray.toList_eq]
  constructor
  · intro h
    have h' : s.data.toList = t.data.toList := by simpa using h
    cases s with | mk x => cases t with | mk y => cases x; cases y; simp at h'; rw [h']
  · intro h; subst h; simp
theorem bytesLess_tri {l1 n1 l2 n2 : Nat} {s t : ByteArray} (h : SR l1 n1 s) (h' : SR l2 n2 t) : (Op.bytesLess s.data.toList t.data.toList || decide (s = t)) = !Op.bytesLess t.data.toList s.data.toList := by
  rw [← strLt_eq h h', ← strLt_eq h' h, ← strEq_iff h h']
  unfold strLt strEq
  rw [show Nat.max l2 l1 = Nat.max l1 l2 from Nat.max_comm l2 l1]
  have hm1 : l1 ≤ Nat.max l1 l2 := Nat.le_max_left l1 l2
  generalize Nat.max l1 l2 = m at *
  show ((bif Nat.beq (n1 * 256 ^ (m - l1)) (n2 * 256 ^ (m - l2)) then Nat.blt l1 l2 else Nat.blt (n1 * 256 ^ (m - l1)) (n2 * 256 ^ (m - l2))) || bif Nat.beq l1 l2 then Nat.beq n1 n2 else false) =
    !(bif Nat.beq (n2 * 256 ^ (m - l2)) (n1 * 256 ^ (m - l1)) then Nat.blt l2 l1 else Nat.blt (n2 * 256 ^ (m - l2)) (n1 * 256 ^ (m - l1)))
  have hinj : l1 = l2 → n1 * 256 ^ (m - l1) = n2 * 256 ^ (m - l2) → n1 = n2 := fun e1 e2 => by
    subst e1; exact Nat.eq_of_mul_eq_mul_right (Nat.pow_pos (by decide)) e2
  have hinj' : l1 = l2 → n1 = n2 → n1 * 256 ^ (m - l1) = n2 * 256 ^ (m - l2) := fun e1 e2 => by subst e1; subst e2; rfl
  generalize n1 * 256 ^ (m - l1) = A at *
  generalize n2 * 256 ^ (m - l2) = B at *
  have blt : ∀ a b : Nat, Nat.blt a b = decide (a < b) := fun a b => by
    rw [Bool.eq_iff_iff]; simp [Nat.blt]; omega
  have beq : ∀ a b : Nat, Nat.beq a b = decide (a = b) := fun a b => by
    rw [Bool.eq_iff_iff]; simp [Nat.beq_eq]
  simp only [blt, beq]
  by_cases hAB : A = B
  · subst hAB
    simp only [decide_true, cond_true]
    by_cases e1 : l1 = l2
    · have := hinj e1 rfl; subst e1; subst this; simp
    · simp only [e1, decide_false, cond_false, Bool.or_false]
      rw [Bool.eq_iff_iff]; simp; omega
  · have hBA : ¬ B = A := fun h => hAB h.symm
    simp only [hAB, hBA, decide_false, cond_false]
    by_cases e1 : l1 = l2
    · have : ¬ n1 = n2 := fun h => hAB (hinj' e1 h)
      simp only [e1, this, decide_true, decide_false, cond_true, Bool.or_false]
      rw [Bool.eq_iff_iff]; simp; omega
    · simp only [e1, decide_false, cond_false, Bool.or_false]
      rw [Bool.eq_iff_iff]; simp; omega
theorem VS.strBin {P : Program} {o : Oper} {op : BinOp} {t yt : Nat} {x y : Operand} {g g' : Get} (ho : o.op = .binOp op t x y yt) (e : cOpd x = some g) (e' : cOpd y = some g') (hs : op ≠ .shl ∧ op ≠ .shr) :
    VS P o (Ev.f2 (Ev.strBin op) g g') := by
  refine VS.bin ho e e' fun V w b c u v r rb rc hr => ?_
  unfold Ev.strBin at hr
  split at hr
  · rename_i l1 n1 l2 n2
    simp only [VR] at rb rc
    obtain ⟨s, rfl, h1⟩ := rb
    obtain ⟨s', rfl, h2⟩ := rc
    refine ⟨run_eqGuard_str .., ?_⟩
    have hb : ∀ op, op ≠ .shl ∧ op ≠ .shr → binOp op t (.string s) (.string s') = Op.stringOp op s s' := by intro op h; cases op <;> first | rfl | exact absurd rfl h.1 | exact absurd rfl h.2
    rw [hb op hs]
    have e1 : strEq l1 n1 l2 n2 = (s.toList == s'.toList) := by rw [beqL_iff]; exact strEq_iff h1 h2
    have e2 : strLt l1 n1 l2 n2 = Op.bytesLess s.toList s'.toList := by rw [ByteArray.toList_eq, ByteArray.toList_eq]; exact strLt_eq h1 h2
    have e3 : strLt l2 n2 l1 n1 = !(Op.bytesLess s.toList s'.toList || (s.toList == s'.toList)) := by
      rw [beqL_iff, ByteArray.toList_eq, ByteArray.toList_eq, bytesLess_tri h1 h2, Bool.not_not]; exact strLt_eq h2 h1
    cases op <;> simp only [strOp] at hr <;> first | (cases hr; done) | skip
    · cases hble : Nat.ble (Nat.add l1 l2) 1000000000 with
      | false => rw [hble] at hr; cases hr
      | true =>
        rw [hble] at hr
        simp only [cond_true, Option.some.injEq] at hr
        subst hr
        have hl : ¬ ((s.size + s'.size : Nat) : Int) > IntKind.i64.max := by
          have := Nat.le_of_ble_eq_true hble
          have : l1 + l2 ≤ 1000000000 := this
          rw [h1.size, h2.size]
          simp only [IntKind.max, IntKind.bits, IntKind.signed]
          simp; omega
        exact ⟨.string (s ++ s'), by simp only [Op.stringOp, if_neg hl]; rfl, by simp only [VR]; exact ⟨_, rfl, strCat_eq h1 h2⟩⟩
    all_goals
      simp only [Option.some.injEq] at hr
      subst hr
      exact ⟨.bool _, by simp only [Op.stringOp]; rfl, .of_bool (by first | exact e1 | (rw [e1]) | (rw [e2]) | (rw [e3]; try simp) )⟩
  · cases hr
end Go.Ev
end

section
namespace Go.Ev

/-! equality as an operation -/
def plainV : Value → Bool
  | .int .. | .float .. | .complex .. | .string _ => false
  | _ => true
theorem binOp_eql {t : Nat} {u v : Value} (h : plainV u = true) : binOp .eql t u v = (do pure (.bool (← Op.equal t u v))) := by
  cases u <;> first | (simp [plainV] at h; done) | (cases v <;> rfl)
theorem binOp_neq {t : Nat} {u v : Value} (h : plainV u = true) : binOp .neq t u v = (do pure (.bool (!(← Op.equal t u v)))) := by
  cases u <;> first | (simp [plainV] at h; done) | (cases v <;> rfl)
theorem eqK_plain {V : Val} {P : Program} {t : Nat} {q : EqK} {d : TypeDesc} (hu : P.underlying t = some d) (hd : (∀ k, d ≠ .int k) ∧ d ≠ .string) (s : EqS P t q) {b c : AV} {u v : Value} (rb : VR V b u) (rc : VR V c v) {n r : Bool}
    (e : eqK n q b c = some r) : plainV u = true ∧ ((∃ ms, d = .interface ms) ∨ ¬ (u = .nilIface ∧ v = .nilIface)) ∧ (∀ xs ys, u = .agg xs → v = .agg ys → ∃ cs, q = .flat cs) := by
  have hs := s.h
  cases q with
  | one k =>
    obtain ⟨d', hd', hk⟩ := hs
    rw [hu] at hd'; cases hd'
    cases k with
    | int => obtain ⟨k0, rfl⟩ := hk; exact absurd rfl (hd.1 k0)
    | str => cases hk; exact absurd rfl hd.2
    | bool =>
      simp only [eqK] at e; unfold eqC at e
      split at e <;> first | (cases e; done) | skip
      all_goals first | (rename_i heq; cases heq; done) | skip
      simp only [VR] at rb rc; subst rb; subst rc
      exact ⟨rfl, .inr (by simp), fun xs ys h => by cases h⟩
  | ptr =>
    simp only [eqK] at e; unfold eqP at e
    split at e <;> first | (cases e; done) | skip
    all_goals simp only [VR] at rb rc
    · subst rb; subst rc; exact ⟨rfl, .inr (by simp), fun xs ys h => by cases h⟩
    · subst rb; exact ⟨rfl, .inr (by simp), fun xs ys h => by cases h⟩
    · obtain ⟨_, _, _, rfl⟩ := rb; exact ⟨rfl, .inr (by simp), fun xs ys h => by cases h⟩
    · obtain ⟨_, _, _, rfl⟩ := rb; exact ⟨rfl, .inr (by simp), fun xs ys h => by cases h⟩
  | map =>
    simp only [eqK] at e; unfold eqM at e
    split at e <;> first | (cases e; done) | skip
    all_goals simp only [VR] at rb rc
    · subst rb; exact ⟨rfl, .inr (by simp), fun xs ys h => by cases h⟩
    · subst rb; exact ⟨rfl, .inr (by simp), fun xs ys h => by cases h⟩
    · obtain ⟨_, _, rfl⟩ := rb; exact ⟨rfl, .inr (by simp), fun xs ys h => by cases h⟩
  | slice =>
    simp only [eqK] at e; unfold eqSl at e
    split at e <;> first | (cases e; done) | skip
    all_goals simp only [VR] at rb rc
    · subst rb; exact ⟨rfl, .inr (by simp), fun xs ys h => by cases h⟩
    · subst rb; exact ⟨rfl, .inr (by simp), fun xs ys h => by cases h⟩
    · obtain ⟨_, _, _, _, rfl, _⟩ := rb; exact ⟨rfl, .inr (by simp), fun xs ys h => by cases h⟩
    · subst rb; exact ⟨rfl, .inr (by simp), fun xs ys h => by cases h⟩
    · obtain ⟨_, _, _, _, _, rfl, _⟩ := rb; exact ⟨rfl, .inr (by simp), fun xs ys h => by cases h⟩
  | func =>
    simp only [eqK] at e; unfold eqF at e
    split at e <;> first | (cases e; done) | skip
    all_goals simp only [VR] at rb rc
    · subst rb; exact ⟨rfl, .inr (by simp), fun xs ys h => by cases h⟩
    · subst rb; exact ⟨rfl, .inr (by simp), fun xs ys h => by cases h⟩
    · obtain ⟨_, _, _, rfl, _⟩ := rb; exact ⟨rfl, .inr (by simp), fun xs ys h => by cases h⟩
  | iface =>
    obtain ⟨ms, hms⟩ := hs
    rw [hu] at hms; cases hms
    simp only [eqK] at e; unfold eqI at e
    split at e <;> first | (cases e; done) | skip
    all_goals simp only [VR] at rb rc
    · subst rb; exact ⟨rfl, .inl ⟨ms, rfl⟩, fun xs ys h => by cases h⟩
    · subst rb; exact ⟨rfl, .inl ⟨ms, rfl⟩, fun xs ys h => by cases h⟩
    · obtain ⟨_, rfl, _⟩ := rb; exact ⟨rfl, .inl ⟨ms, rfl⟩, fun xs ys h => by cases h⟩
  | flat cs =>
    simp only [eqK] at e; unfold eqAgg at e
    split at e <;> first | (cases e; done) | skip
    all_goals simp only [VR] at rb rc
    obtain ⟨_, rfl, _⟩ := rb
    exact ⟨rfl, .inr (by simp), fun xs ys _ _ => ⟨cs, rfl⟩⟩
/-- flat structs hold no interfaces: the guard has nothing to say -/
theorem eqGuardType_flat {P : Program} {t : Nat} {cs : List CK} (s : EqS P t (.flat cs)) (n : Nat) : P.eqGuardType (n + 1 + 1) t = false := by
  obtain ⟨fs, hu, _, hl, hf⟩ := s.h
  simp only [Program.eqGuardType, hu]
  rw [Array.any_eq_false]
  intro j hj
  have hjc : j < cs.length := by omega
  obtain ⟨_, _, d, hd, hk⟩ := hf j fs[j] cs[j] (by simp [hj]) (List.getElem?_eq_getElem hjc)
  cases hc : cs[j] with
  | int => rw [hc] at hk; obtain ⟨k, rfl⟩ := hk; simp [hd]
  | str => rw [hc] at hk; cases hk; simp [hd]
  | bool => rw [hc] at hk; cases hk; simp [hd]
theorem VS.eqBin {P : Program} {o : Oper} {op : BinOp} {t yt : Nat} {x y : Operand} {g g' : Get} {q : EqK} {d : TypeDesc} {neg : Bool} (ho : o.op = .binOp op t x y yt) (e : cOpd x = some g) (e' : cOpd y = some g')
    (hop : op = if neg then .neq else .eql) (hu : P.underlying t = some d) (hd : (∀ k, d ≠ .int k) ∧ d ≠ .string) (s : EqS P t q) : VS P o (Ev.f2 (Ev.eqBin neg (nilOkOf x y d) q) g g') := by
  refine VS.bin ho e e' fun V w b c u v r rb rc hr => ?_
  clear ho
  unfold Ev.eqBin at hr
  split at hr
  · rename_i r0 hq
    cases hr
    have heq := eqK_rel s rb rc hq w
    obtain ⟨hp, hn, hg⟩ := eqK_plain hu hd s rb rc hq
    have hcase : (binOp op t u v).run P w = .ok (.bool (bif neg then !r0 else r0)) w := by
      rw [hop]
      cases neg
      · simp only [Bool.false_eq_true, if_false, binOp_eql hp, Sem.run_bind, heq, Result.andThen_ok, Sem.run_pure, cond_false]
      · simp only [if_true, binOp_neq hp, Sem.run_bind, heq, Result.andThen_ok, Sem.run_pure, cond_true]
    have hguard : (eqGuard op t x y u v).run P w = .ok () w := by
      have hred : eqGuard op t x y u v = eqGuard .eql t x y u v := by subst hop; cases neg <;> rfl
      rw [hred]
      clear hred hcase hop
      unfold eqGuard
      simp only [Bool.not_true, Bool.false_eq_true, if_false]
      by_cases hnn : u = .nilIface ∧ v = .nilIface
      · obtain ⟨rfl, rfl⟩ := hnn
        rcases hn with ⟨ms, rfl⟩ | hn
        · simp only
          by_cases hxy : isConstOp x = true ∨ isConstOp y = true
          · cases x <;> cases y <;> first | rfl | (simp [isConstOp] at hxy)
          have hx : isConstOp x = false := by simp at hxy; exact hxy.1
          have hy : isConstOp y = false := by simp at hxy; exact hxy.2
          have hms : ms.isEmpty = true := by
            have hs := s.h
            have hnil : nilOkOf x y (.interface ms) = ms.isEmpty := by simp [nilOkOf, hx, hy]
            cases hm : ms.isEmpty with
            | true => rfl
            | false =>
              rw [hnil, hm] at hq
              have hq' := hq
              cases q <;> simp only [eqK] at hq' <;> first
                | (obtain ⟨d', hd', hk⟩ := hs; rw [hu] at hd'; cases hd'; rename_i c0; cases c0 <;> simp [CKd] at hk; done)
                | (obtain ⟨_, _, h1, _⟩ := hs; rw [hu] at h1; cases h1; done)
                | (obtain ⟨_, _, h1⟩ := hs; rw [hu] at h1; cases h1; done)
                | (obtain ⟨_, h1⟩ := hs; rw [hu] at h1; cases h1; done)
                | (obtain ⟨_, _, _, h1⟩ := hs; rw [hu] at h1; cases h1; done)
                | (obtain ⟨_, h1, _⟩ := hs; rw [hu] at h1; cases h1; done)
                | skip
              unfold eqI at hq'
              split at hq' <;> first | (cases hq'; done) | skip
              all_goals simp only [VR] at rb rc
              · obtain ⟨_, h, _⟩ := rc; cases h
              · obtain ⟨_, h, _⟩ := rb; cases h
          have this : ∀ n, (Op.eqGuardIn (n + 1) t .nilIface .nilIface).run P w = .ok false w := fun n => by
            simp only [Op.eqGuardIn, Sem.run_bind, run_underlying hu, Result.andThen_ok, hms, Bool.not_true, Sem.run_pure]
          have this2 : (Op.eqGuardIn Op.maxDepth t .nilIface .nilIface).run P w = .ok false w := this 9999
          clear hxy hq hms e e' this
          generalize Op.eqGuardIn Op.maxDepth t .nilIface .nilIface = G at this2
          cases x <;> cases y <;> first | (simp [isConstOp] at hx hy; done) | (simp [this2]; done)
        · exact absurd ⟨rfl, rfl⟩ hn
      · cases u <;> first
          | (cases v <;> first | rfl | (exact absurd ⟨rfl, rfl⟩ hnn) | skip)
        obtain ⟨cs, rfl⟩ := hg _ _ rfl rfl
        have hgt : P.eqGuardType P.depth t = false := by
          have : P.depth = 2 * (P.types.size + Made.depth) + 1 + 1 := rfl
          rw [this]; exact eqGuardType_flat s _
        simp [hgt]
    exact ⟨hguard, .bool _, hcase, .of_bool rfl⟩
  · cases hr

theorem VS.notA {P : Program} {o : Oper} {t : Nat} {x : Operand} {g : Get} (ho : o.op = .unOp .not t x) (e : cOpd x = some g) : VS P o (Ev.f1 Ev.notA g) := by
  refine VS.f1 e fun V a w b v rb hv => ?_
  unfold Ev.notA at hv
  split at hv
  · cases hv; simp only [VR] at rb
    exact ⟨.bool _, by simp [execOp, ho, rb, Op.unary], .of_bool rfl⟩
  · cases hv
theorem VS.negA {P : Program} {o : Oper} {t : Nat} {x : Operand} {g : Get} (ho : o.op = .unOp .neg t x) (e : cOpd x = some g) : VS P o (Ev.f1 Ev.negA g) := by
  refine VS.f1 e fun V a w b v rb hv => ?_
  unfold Ev.negA at hv
  split at hv
  · cases hv; simp only [VR] at rb
    exact ⟨.int _ _, by simp only [execOp, ho, rb, Op.unary, Op.intArith]; rfl, .of_int (wrapI_eq _ _)⟩
  · cases hv
theorem VS.convInt {P : Program} {o : Oper} {sT dT : Nat} {x : Operand} {g : Get} {k0 k : IntKind} (ho : o.op = .convert sT dT x) (e : cOpd x = some g) (hs : P.underlying sT = some (.int k0)) (hd : P.underlying dT = some (.int k)) :
    VS P o (Ev.f1 (Ev.convInt k) g) := by
  refine VS.f1 e fun V a w b v rb hv => ?_
  unfold Ev.convInt at hv
  split at hv
  · cases hv; simp only [VR] at rb
    exact ⟨.int _ _, by simp only [execOp, ho, rb, convert, Sem.run_bind, run_underlying hs, run_underlying hd, Result.andThen_ok, Conv.intToInt, Sem.run_pure], .of_int (wrapI_eq _ _)⟩
  · cases hv
theorem VS.convStr {P : Program} {o : Oper} {sT dT : Nat} {x : Operand} {g : Get} (ho : o.op = .convert sT dT x) (e : cOpd x = some g) (hs : P.underlying sT = some .string) (hd : P.underlying dT = some .string) :
    VS P o (Ev.f1 Ev.convStr g) := by
  refine VS.f1 e fun V a w b v rb hv => ?_
  unfold Ev.convStr at hv
  split at hv
  · cases hv
    have rb' := rb
    simp only [VR] at rb'; obtain ⟨s, hs', _⟩ := rb'
    exact ⟨a.eval x, by simp only [execOp, ho, hs', convert, Sem.run_bind, run_underlying hs, run_underlying hd, Result.andThen_ok, Sem.run_pure], rb⟩
  · cases hv
theorem VS.mkIface {P : Program} {o : Oper} {t : Nat} {x : Operand} {g : Get} {d : TypeDesc} (ho : o.op = .makeInterface t x) (e : cOpd x = some g) (hu : P.underlying t = some d) (hd : ∀ ms, d ≠ .interface ms) :
    VS P o (Ev.f1 (Ev.mkIface t) g) := by
  refine VS.f1 e fun V a w b v rb hv => ?_
  simp only [Ev.mkIface, Option.some.injEq] at hv
  subst hv
  refine ⟨.iface t (a.eval x), ?_, by simp only [VR]; exact ⟨_, rfl, rb⟩⟩
  simp only [execOp, ho, Instr.makeInterface, Sem.run_bind, run_underlying hu, Result.andThen_ok]
  cases d <;> first | rfl | (exact absurd rfl (hd _))
theorem VS.mkFunc {P : Program} {o : Oper} {f : Nat} {first cap : Array Operand} {ga gb : List Get} (ho : o.op = .makeFunc (.func f) first cap) (e : cOpds first.toList = some ga) (e' : cOpds cap.toList = some gb) :
    VS P o (Ev.fMkFunc (.func f) ga gb) := by
  intro V n fr a h w v r _ hv
  simp only [Ev.fMkFunc, Option.some.injEq] at hv
  subst hv
  refine ⟨.func (.func f) (first.map a.eval) (cap.map a.eval), by simp [execOp, ho, Instr.makeFunc], ?_⟩
  simp only [VR]
  exact ⟨_, (first.map a.eval).toList, (cap.map a.eval).toList, rfl, rfl, by rw [Array.toList_map]; exact cOpds_rel r e, by rw [Array.toList_map]; exact cOpds_rel r e'⟩
theorem VRs.lget {V : Val} {l : List AV} {us : List Value} (h : VRs V l us) {i : Nat} {x : AV} (e : lget l i = some x) : ∃ u, us[i]? = some u ∧ VR V x u := by
  rw [lget_eq] at e; exact h.get i x e
theorem VS.extract {P : Program} {o : Oper} {i : Nat} {x : Operand} {g : Get} (ho : o.op = .extract x i) (e : cOpd x = some g) : VS P o (Ev.f1 (Ev.extr i) g) := by
  refine VS.f1 e fun V a w b v rb hv => ?_
  unfold Ev.extr at hv
  split at hv
  · simp only [VR] at rb; obtain ⟨l', hl, hr⟩ := rb
    obtain ⟨u, hu, hvr⟩ := hr.lget hv
    exact ⟨u, by simp [execOp, ho, hl, Instr.extract, hu], hvr⟩
  · cases hv

/-! parts of values -/
theorem VRs.sub {V : Val} {l r : List AV} {us : List Value} (h : VRs V l us) {off n : Nat} (e : ltake n (ldrop l off) = some r) : VRs V r ((us.drop off).take n) ∧ off + n ≤ us.length ∨ n = 0 ∧ r = [] := by
  rw [ldrop_eq] at e
  obtain ⟨rfl, hn⟩ := ltake_eq _ _ _ e
  by_cases h0 : n = 0
  · right; subst h0; simp
  · left
    have hl := h.length
    simp only [List.length_drop] at hn
    refine ⟨VRs.of_get (by simp [hl]) fun i x u hx hu => ?_, by omega⟩
    rw [List.getElem?_take] at hx hu
    split at hx
    · rename_i hi
      rw [if_pos hi] at hu
      simp only [List.getElem?_drop] at hx hu
      obtain ⟨u', hu', hr⟩ := h.get _ _ hx
      rw [hu] at hu'; cases hu'; exact hr
    · cases hx
/-- a part of a struct's or an array's value -/
theorem part_rel {V : Val} {P : Program} {t : Nat} {i : TI} (s : TIS P t i) {x v : AV} {u : Value} (rx : VR V x u) {off : Nat} (e : partA off i.size i.agg x = some v) (w : World) :
    ∃ cs z, u = .agg cs ∧ (part t cs off).run P w = .ok z w ∧ VR V v z := by
  unfold partA at e
  split at e
  · rename_i l
    simp only [VR] at rx
    obtain ⟨us, rfl, hr, h1⟩ := rx
    cases hag : i.agg with
    | true =>
      rw [hag] at e
      simp only [cond_true] at e
      split at e
      · rename_i l' hl'
        cases e
        refine ⟨⟨us⟩, .agg ((⟨us⟩ : Array Value).extract off (off + i.size)), rfl, by simp only [part, Sem.run_bind, s.run_agg, hag, Result.andThen_ok, if_true, s.run_size, Sem.run_pure], ?_⟩
        simp only [VR]
        rcases hr.sub hl' with ⟨h2, h3⟩ | ⟨h2, rfl⟩
        · refine ⟨(us.drop off).take i.size, by congr 1; apply Array.ext'; simp [List.extract], h2, fun u hu => h1 u (List.mem_of_mem_drop (List.mem_of_mem_take hu))⟩
        · refine ⟨[], by simp [h2], by simp [VRs], by simp⟩
      · cases e
    | false =>
      rw [hag] at e
      simp only [cond_false] at e
      obtain ⟨u, hu, hvr⟩ := hr.lget e
      exact ⟨⟨us⟩, u, rfl, by simp [part, s.run_agg, hag, hu], hvr⟩
  · cases e
theorem VS.field {P : Program} {o : Oper} {t f : Nat} {x : Operand} {g : Get} {fs : Array Field} {fl : Field} {i : TI} (ho : o.op = .field t x f) (e : cOpd x = some g) (hu : P.underlying t = some (.struct fs)) (hf : fs[f]? = some fl)
    (s : TIS P fl.type i) : VS P o (Ev.f1 (Ev.partA fl.offset i.size i.agg) g) := by
  refine VS.f1 e fun V a w b v rb hv => ?_
  obtain ⟨cs, z, h1, h2, h3⟩ := part_rel s rb hv w
  exact ⟨z, by simp [execOp, ho, Instr.field, run_underlying hu, hf, h1, asAgg, h2], h3⟩
end Go.Ev
end

section
namespace Go.Ev

theorem addr_add (c o i : Nat) : (Addr.add ⟨c, o, none⟩ i) = ⟨c, o + i, none⟩ := by unfold Addr.add; split <;> simp_all
theorem addr_add' (c o i j : Nat) : (Addr.add ⟨c, o + i, none⟩ j) = ⟨c, o + (i + j), none⟩ := by rw [addr_add, Nat.add_assoc]

theorem VS.fieldAddr {P : Program} {o : Oper} {s f : Nat} {x : Operand} {g : Get} {fs : Array Field} {fl : Field} {i : TI} (ho : o.op = .fieldAddr s x f) (e : cOpd x = some g) (hu : P.underlying s = some (.struct fs))
    (hf : fs[f]? = some fl) (ti : TIS P fl.type i) (hz : i.size ≠ 0) : VS P o (Ev.f1 (Ev.offP fl.offset) g) := by
  refine VS.f1 e fun V a w b v rb hv => ?_
  unfold offP at hv
  split at hv
  · cases hv
    simp only [VR] at rb
    obtain ⟨c, sh, hc, hp⟩ := rb
    refine ⟨.pointer (some ⟨c, sh + (_ + fl.offset), none⟩), ?_, by simp only [VR]; exact ⟨c, sh, hc, rfl⟩⟩
    simp only [execOp, ho, Instr.fieldAt, Sem.run_bind, run_underlying hu, Result.andThen_ok, hf, hp, Instr.sureAddr, fieldPlace, ti.run_size, if_neg hz, Sem.run_pure, addr_add']
  · cases hv
theorem asIntOf_nat {P : Program} (k : IntKind) (i : Int) (w : World) : (asIntOf (.int k i)).run P w = .ok (k, i) w := rfl
theorem VS.indexV {P : Program} {o : Oper} {t el : Nat} {x ix : Operand} {g g' : Get} {i : TI} (ho : o.op = .indexAddr t x ix) (e : cOpd x = some g) (e' : cOpd ix = some g') (hu : P.underlying t = some (.slice el)) (ti : TIS P el i) :
    VS P o (Ev.f2 (Ev.idxV i.size) g g') := by
  refine VS.f2 e e' fun V a w b c v rb rc hv => ?_
  unfold idxV at hv
  split at hv
  · rename_i b off len cap ex k n
    cases hlt : Nat.blt n len with
    | false => rw [hlt] at hv; cases hv
    | true =>
      rw [hlt] at hv
      simp only [cond_true, Option.some.injEq] at hv
      subst hv
      have hn : n < len := Nat.le_of_ble_eq_true hlt
      simp only [VR] at rb rc
      obtain ⟨c, sh, cap', hc, hp, _⟩ := rb
      refine ⟨.pointer (some ⟨c, sh + (off + n * i.size), none⟩), ?_, by simp only [VR]; exact ⟨c, sh, hc, rfl⟩⟩
      have h0 : (0 : Int) ≤ Int.ofNat n ∧ Int.ofNat n < (len : Int) := ⟨Int.natCast_nonneg n, Int.ofNat_lt.2 hn⟩
      simp only [execOp, ho, Instr.indexAt, rc, hp, Sem.run_bind, asIntOf_nat, run_underlying hu, Result.andThen_ok, Sem.run_pure, h0, and_self, if_true, ti.run_size, addr_add']
      rfl
  · cases hv
theorem VS.indexA {P : Program} {o : Oper} {t el len : Nat} {x ix : Operand} {g g' : Get} {i : TI} (ho : o.op = .indexAddr t x ix) (e : cOpd x = some g) (e' : cOpd ix = some g') (hu : P.underlying t = some (.array len el)) (ti : TIS P el i) :
    VS P o (Ev.f2 (Ev.idxA len i.size) g g') := by
  refine VS.f2 e e' fun V a w b c v rb rc hv => ?_
  unfold idxA at hv
  split at hv
  · rename_i b off k n
    cases hlt : Nat.blt n len with
    | false => rw [hlt] at hv; cases hv
    | true =>
      rw [hlt] at hv
      simp only [cond_true, Option.some.injEq] at hv
      subst hv
      have hn : n < len := Nat.le_of_ble_eq_true hlt
      simp only [VR] at rb rc
      obtain ⟨c, sh, hc, hp⟩ := rb
      refine ⟨.pointer (some ⟨c, sh + (off + n * i.size), none⟩), ?_, by simp only [VR]; exact ⟨c, sh, hc, rfl⟩⟩
      have h0 : (0 : Int) ≤ Int.ofNat n ∧ Int.ofNat n < (len : Int) := ⟨Int.natCast_nonneg n, Int.ofNat_lt.2 hn⟩
      simp only [execOp, ho, Instr.indexAt, rc, hp, Sem.run_bind, asIntOf_nat, run_underlying hu, Result.andThen_ok, Sem.run_pure, Instr.sureAddr, h0, and_self, if_true, ti.run_size, addr_add']
      rfl
  · cases hv
theorem VS.indexS {P : Program} {o : Oper} {t : Nat} {x ix : Operand} {g g' : Get} (ho : o.op = .index t x ix) (e : cOpd x = some g) (e' : cOpd ix = some g') (hu : P.underlying t = some .string) : VS P o (Ev.f2 Ev.idxS g g') := by
  refine VS.f2 e e' fun V a w b c v rb rc hv => ?_
  unfold idxS at hv
  split at hv
  · rename_i len m k n
    cases hlt : Nat.blt n len with
    | false => rw [hlt] at hv; cases hv
    | true =>
      rw [hlt] at hv
      simp only [cond_true, Option.some.injEq] at hv
      subst hv
      have hn : n < len := Nat.le_of_ble_eq_true hlt
      simp only [VR] at rb rc
      obtain ⟨s, hs, hr⟩ := rb
      obtain ⟨y, h1, _, h3⟩ := strByte_eq hr n hn
      refine ⟨.int .u8 y.toNat, ?_, by rw [h3]; exact .of_int rfl⟩
      have h0 : (0 : Int) ≤ Int.ofNat n := Int.natCast_nonneg n
      have h1' : s[(Int.ofNat n).toNat]? = some y := h1
      simp only [execOp, ho, Instr.index, rc, hs, Sem.run_bind, asIntOf_nat, run_underlying hu, Result.andThen_ok, h0, if_true, h1', Sem.run_pure]
  · cases hv
theorem VS.indexG {P : Program} {o : Oper} {t el len : Nat} {x ix : Operand} {g g' : Get} {i : TI} (ho : o.op = .index t x ix) (e : cOpd x = some g) (e' : cOpd ix = some g') (hu : P.underlying t = some (.array len el)) (ti : TIS P el i) :
    VS P o (Ev.f2 (Ev.idxAgg len i.size i.agg) g g') := by
  refine VS.f2 e e' fun V a w b c v rb rc hv => ?_
  unfold idxAgg at hv
  split at hv
  · rename_i k n
    cases hlt : Nat.blt n len with
    | false => rw [hlt] at hv; cases hv
    | true =>
      rw [hlt] at hv
      simp only [cond_true] at hv
      have hn : n < len := Nat.le_of_ble_eq_true hlt
      simp only [VR] at rc
      obtain ⟨cs, z, h1, h2, h3⟩ := part_rel ti rb hv w
      refine ⟨z, ?_, h3⟩
      have h0 : (0 : Int) ≤ Int.ofNat n ∧ Int.ofNat n < (len : Int) := ⟨Int.natCast_nonneg n, Int.ofNat_lt.2 hn⟩
      have h2' : Sem.run P (part el cs ((Int.ofNat n).toNat * i.size)) w = .ok z w := h2
      simp only [execOp, ho, Instr.index, rc, h1, Sem.run_bind, asIntOf_nat, run_underlying hu, Result.andThen_ok, h0, and_self, if_true, ti.run_size, h2', Sem.run_pure]
  · cases hv

/-! loads -/
theorem VS.load1 {P : Program} {o : Oper} {t : Nat} {x : Operand} {g : Get} {i : TI} (ho : o.op = .load t x) (e : cOpd x = some g) (ti : TIS P t i) (ha : i.agg = false) : VS P o (Ev.fLoad1 g) := by
  intro V n fr a h w v r hr hv
  have rx := cOpd_rel r e
  unfold fLoad1 at hv
  split at hv
  · rename_i b off hg
    rw [hg] at rx; simp only [VR] at rx
    obtain ⟨c, sh, hc, hp⟩ := rx
    obtain ⟨u, hu, hcr⟩ := hr.read1 hc hv
    refine ⟨u, ?_, hcr.1⟩
    simp only [execOp, ho, Instr.loadAt, hp, Instr.sureAddr, loadVar, Sem.run_bind, ti.run_agg, ha, Result.andThen_ok, Sem.run_pure, Bool.false_eq_true, if_false, run_load, hu]
  · cases hv
theorem VS.loadN {P : Program} {o : Oper} {t : Nat} {x : Operand} {g : Get} {i : TI} (ho : o.op = .load t x) (e : cOpd x = some g) (ti : TIS P t i) (ha : i.agg = true) : VS P o (Ev.fLoadN i.size g) := by
  intro V n fr a h w v r hr hv
  have rx := cOpd_rel r e
  unfold fLoadN at hv
  split at hv
  · rename_i b off hg
    rw [hg] at rx; simp only [VR] at rx
    obtain ⟨c, sh, hc, hp⟩ := rx
    split at hv
    · rename_i l hl
      cases hv
      obtain ⟨h1, h2⟩ := hr.read hc hl
      obtain ⟨us, hus, hvr, hone⟩ := run_loadCells (P := P) w c (sh + off) l h2
      rw [h1] at hus
      refine ⟨.agg ⟨us⟩, ?_, by simp only [VR]; exact ⟨us, rfl, hvr, hone⟩⟩
      simp only [execOp, ho, Instr.loadAt, hp, Instr.sureAddr, loadVar, Sem.run_bind, ti.run_agg, ha, Result.andThen_ok, Sem.run_pure, if_true, ti.run_size, hus]
    · cases hv
  · cases hv

/-! bounds -/
theorem run_sliceBound {P : Program} {w : World} {k : IntKind} {n y : Nat} (h : n ≤ y) (code : BoundsCode) : (Instr.sliceBound (.int k (n : Int)) y code).run P w = .ok n w := by
  have h0 : (0 : Int) ≤ (n : Int) ∧ (n : Int) ≤ (y : Int) := ⟨Int.natCast_nonneg n, Int.ofNat_le.2 h⟩
  simp only [Instr.sliceBound, Sem.run_bind, asIntOf_nat, Result.andThen_ok, h0, and_self, if_true, Sem.run_pure]
  rfl
theorem bnd_rel {V : Val} {n : Nat} {fr : Fr} {a : Act} (r : FS V n fr a.tmps) {lo : Option Operand} {glo : Option Get} (e : optGet lo = some glo) {d l : Nat} (h : bnd fr d glo = some l) :
    (lo = none ∧ glo = none ∧ l = d) ∨ ∃ x g k, lo = some x ∧ glo = some g ∧ a.eval x = .int k (.ofNat l) := by
  cases lo with
  | none => simp only [optGet, Option.some.injEq] at e; subst e; simp only [bnd, Option.some.injEq] at h; exact .inl ⟨rfl, rfl, h.symm⟩
  | some x =>
    simp only [optGet] at e
    split at e
    · rename_i g hg
      cases e
      simp only [bnd] at h
      split at h
      · rename_i k m hm
        cases h
        have := cOpd_rel r hg
        rw [hm] at this; simp only [VR] at this
        exact .inr ⟨x, g, k, rfl, rfl, this⟩
      · cases h
    · cases e
theorem run_sliceBounds {P : Program} {V : Val} {n : Nat} {fr : Fr} {a : Act} (r : FS V n fr a.tmps) {lo hi mx : Option Operand} {glo ghi gmx : Option Get} (el : optGet lo = some glo) (eh : optGet hi = some ghi) (em : optGet mx = some gmx)
    (hmx : mx ≠ none → hi ≠ none) {sl : Bool} {len cap cap' l u m : Nat} (bl : bnd fr 0 glo = some l) (bh : bnd fr len ghi = some u) (bm : bnd fr cap gmx = some m) (h1 : l ≤ u) (h2 : u ≤ m) (h3 : m ≤ cap) (h4 : cap ≤ cap') (w : World) :
    (Instr.sliceBounds sl len cap' (lo.map a.eval) (hi.map a.eval) (mx.map a.eval)).run P w = .ok (l, u, if gmx = none then cap' else m) w ∧ (gmx = none ↔ mx = none) := by
  rcases bnd_rel r em bm with ⟨rfl, rfl, rfl⟩ | ⟨xm, gm, km, rfl, rfl, em'⟩
  · rcases bnd_rel r eh bh with ⟨rfl, rfl, rfl⟩ | ⟨xh, gh, kh, rfl, rfl, eh'⟩
    · rcases bnd_rel r el bl with ⟨rfl, rfl, rfl⟩ | ⟨xl, gl, kl, rfl, rfl, el'⟩
      · simp [Instr.sliceBounds]
      · simp [Instr.sliceBounds, el', run_sliceBound h1]
    · rcases bnd_rel r el bl with ⟨rfl, rfl, rfl⟩ | ⟨xl, gl, kl, rfl, rfl, el'⟩
      · simp [Instr.sliceBounds, eh', run_sliceBound (Nat.le_trans h2 h4)]
      · simp [Instr.sliceBounds, el', eh', run_sliceBound h1, run_sliceBound (Nat.le_trans h2 h4)]
  · rcases bnd_rel r eh bh with ⟨rfl, rfl, rfl⟩ | ⟨xh, gh, kh, rfl, rfl, eh'⟩
    · exact absurd rfl (hmx (by simp))
    · rcases bnd_rel r el bl with ⟨rfl, rfl, rfl⟩ | ⟨xl, gl, kl, rfl, rfl, el'⟩
      · simp [Instr.sliceBounds, em', eh', run_sliceBound h2, run_sliceBound (Nat.le_trans h3 h4)]
      · simp [Instr.sliceBounds, em', el', eh', run_sliceBound h1, run_sliceBound h2, run_sliceBound (Nat.le_trans h3 h4)]
theorem VS.sliceS {P : Program} {o : Oper} {t : Nat} {x : Operand} {g : Get} {lo hi : Option Operand} {glo ghi : Option Get} (ho : o.op = .slice t x lo hi none) (e : cOpd x = some g) (el : optGet lo = some glo) (eh : optGet hi = some ghi)
    (hu : P.underlying t = some .string) : VS P o (Ev.fSliceS glo ghi g) := by
  intro V n fr a h w v r hr hv
  have rx := cOpd_rel r e
  unfold fSliceS at hv
  split at hv
  · rename_i len m hg
    rw [hg] at rx; simp only [VR] at rx
    obtain ⟨s, hs, hsr⟩ := rx
    split at hv
    · rename_i l u hl hh
      cases hb : (Nat.ble l u && Nat.ble u len) with
      | false => rw [hb] at hv; cases hv
      | true =>
        rw [hb] at hv
        simp only [Bool.and_eq_true, cond_true, Option.some.injEq] at hb hv
        have h1 : l ≤ u := Nat.le_of_ble_eq_true hb.1
        have h2 : u ≤ len := Nat.le_of_ble_eq_true hb.2
        subst hv
        have hsz := hsr.size
        obtain ⟨hrun, _⟩ := run_sliceBounds (P := P) r el eh (mx := none) (gmx := none) rfl (by simp) (sl := false) (cap := len) (cap' := s.size) hl hh (by rfl) h1 h2 (Nat.le_refl _) (by omega) w
        refine ⟨.string (s.extract l u), ?_, by simp only [VR]; exact ⟨_, rfl, strCut_eq hsr l u h1 h2⟩⟩
        rw [hsz] at hrun
        simp only [Option.map_none] at hrun
        simp only [execOp, ho, Instr.sliceAt, Instr.slice, Sem.run_bind, run_underlying hu, Result.andThen_ok, hs, Option.map_none, Option.isSome_none, Bool.false_eq_true, if_false, hsz, hrun, Sem.run_pure]
    · cases hv
  · cases hv
theorem VS.sliceV {P : Program} {o : Oper} {t elm : Nat} {x : Operand} {g : Get} {lo hi mx : Option Operand} {glo ghi gmx : Option Get} {i : TI} (ho : o.op = .slice t x lo hi mx) (e : cOpd x = some g) (el : optGet lo = some glo) (eh : optGet hi = some ghi)
    (em : optGet mx = some gmx) (hmx : mx ≠ none → hi ≠ none) (hu : P.underlying t = some (.slice elm)) (ti : TIS P elm i) : VS P o (Ev.fSliceV i.size glo ghi gmx g) := by
  intro V n fr a h w v r hr hv
  have rx := cOpd_rel r e
  have red : ∀ (ad : Option Addr) (len cap l u m : Nat), a.eval x = .slice ad len cap → (Instr.sliceBounds true len cap (lo.map a.eval) (hi.map a.eval) (mx.map a.eval)).run P w = .ok (l, u, m) w →
      (execOp a.eval o).run P w = .ok (.value (.slice (if m = l then ad else ad.map (·.add (l * i.size))) (u - l) (m - l))) w := by
    intro ad len cap l u m hs hb
    simp only [execOp, ho, Instr.sliceAt, Instr.slice, Sem.run_bind, run_underlying hu, Result.andThen_ok, hs, hb, ti.run_size, Sem.run_pure]
  unfold fSliceV at hv
  split at hv
  · rename_i hg
    rw [hg] at rx; simp only [VR] at rx
    split at hv
    · rename_i hl hh hm
      cases hv
      obtain ⟨hrun, _⟩ := run_sliceBounds (P := P) r el eh em hmx (sl := true) (cap := 0) (cap' := 0) hl hh hm (Nat.le_refl _) (Nat.le_refl _) (Nat.le_refl _) (Nat.le_refl _) w
      rw [ite_self] at hrun
      exact ⟨_, red none 0 0 0 0 0 rx hrun, by simp [VR]⟩
    · cases hv
  · rename_i b off len cap ex hg
    rw [hg] at rx; simp only [VR] at rx
    obtain ⟨c, sh, cap', hc, hs, hcap, hexact, hroom⟩ := rx
    split at hv
    · rename_i l u m hl hh hm
      cases hb : (Nat.ble l u && Nat.ble u m && Nat.ble m cap) with
      | false => rw [hb] at hv; cases hv
      | true =>
        rw [hb] at hv
        simp only [Bool.and_eq_true, cond_true] at hb hv
        have h1 : l ≤ u := Nat.le_of_ble_eq_true hb.1.1
        have h2 : u ≤ m := Nat.le_of_ble_eq_true hb.1.2
        have h3 : m ≤ cap := Nat.le_of_ble_eq_true hb.2
        obtain ⟨hrun, hiff⟩ := run_sliceBounds (P := P) r el eh em hmx (sl := true) (cap := cap) (cap' := cap') hl hh hm h1 h2 h3 hcap w
        have hex := red _ _ _ _ _ _ hs hrun
        refine ⟨_, hex, ?_⟩
        split at hv
        · simp only [if_true] at *
          simp only [bnd, Option.some.injEq] at hm
          subst hm
          cases hex0 : Nat.beq ex 0 with
          | true =>
            rw [hex0] at hv
            simp only [cond_true] at hv
            have hex1 := Nat.eq_of_beq_eq_true hex0
            have hce := hexact hex1
            subst hce
            cases hbq : Nat.beq cap' l with
            | true =>
              rw [hbq] at hv; simp only [cond_true, Option.some.injEq] at hv
              subst hv
              have := Nat.eq_of_beq_eq_true hbq
              subst this
              simp only [if_true, VR, Nat.sub_self]
              exact ⟨c, sh, 0, hc, rfl, Nat.le_refl _, fun _ => rfl, fun h => absurd rfl h⟩
            | false =>
              rw [hbq] at hv; simp only [cond_false, Option.some.injEq] at hv
              subst hv
              have hne : ¬ cap' = l := fun h => by subst h; simp at hbq
              simp only [if_neg hne, Option.map_some, addr_add', VR]
              exact ⟨c, sh, _, hc, rfl, Nat.le_refl _, fun _ => rfl, fun h => absurd rfl h⟩
          | false =>
            rw [hex0] at hv
            simp only [cond_false] at hv
            have hex1 : ex ≠ 0 := fun h => by subst h; simp at hex0
            cases hes : Nat.beq ex i.size with
            | false => rw [hes] at hv; cases hv
            | true =>
            rw [hes] at hv; simp only [cond_true] at hv
            have hsz := Nat.eq_of_beq_eq_true hes
            have hrm := hroom hex1
            have hmul : l ≤ cap' → off + l * i.size + (cap' - l) * ex = off + cap' * ex := fun h => by
              rw [← hsz, Nat.add_assoc, ← Nat.add_mul, Nat.add_sub_cancel' h]
            cases hbq : (Nat.blt l cap || Nat.beq l 0) with
            | true =>
              rw [hbq] at hv; simp only [cond_true, Option.some.injEq] at hv
              subst hv
              simp only [VR]
              refine ⟨c, sh, cap' - l, hc, ?_, Nat.sub_le_sub_right hcap l, fun h => absurd h hex1, fun _ => ?_⟩
              · simp only [Bool.or_eq_true] at hbq
                rcases hbq with hbq | hbq
                · have hlt : l < cap := Nat.le_of_ble_eq_true hbq
                  have hne : ¬ cap' = l := by omega
                  rw [if_neg hne]
                  simp only [Option.map_some, addr_add']
                  rfl
                · have := Nat.eq_of_beq_eq_true hbq
                  subst this
                  have e0 : Nat.add off (Nat.mul 0 i.size) = off := by show off + 0 * i.size = off; omega
                  have e1 : off + 0 * i.size = off := by omega
                  rw [e0]
                  by_cases h0 : cap' = 0
                  · rw [if_pos h0]; rfl
                  · rw [if_neg h0]; simp only [Option.map_some, addr_add', e1]; rfl
              · have := hmul (by omega)
                show sh + (off + l * i.size) + (cap' - l) * ex ≤ V.cz c
                omega
            | false =>
              rw [hbq] at hv; simp only [cond_false, Option.some.injEq] at hv
              subst hv
              simp only [Bool.or_eq_false_iff] at hbq
              have hnl : ¬ l < cap := fun h => by
                have : Nat.blt l cap = true := Nat.ble_eq_true_of_le h
                rw [this] at hbq; cases hbq.1
              have hul : u - l = 0 := by omega
              simp only [VR, hul]
              by_cases h0 : cap' = l
              · rw [if_pos h0]
                exact ⟨c, sh, sh + off, _, hc, rfl, fun h => by omega⟩
              · rw [if_neg h0]
                simp only [Option.map_some, addr_add']
                refine ⟨c, sh, _, _, hc, rfl, fun h => ⟨rfl, ?_⟩⟩
                have := hmul (by omega)
                show sh + (off + l * i.size) + (cap' - l) * ex ≤ V.cz c
                omega
        · rename_i gm
          have hne0 : ¬ (some gm : Option Get) = none := by simp
          simp only [if_neg hne0] at *
          cases hbq : Nat.beq m l with
          | true =>
            rw [hbq] at hv; simp only [cond_true, Option.some.injEq] at hv
            subst hv
            have := Nat.eq_of_beq_eq_true hbq
            subst this
            simp only [if_true, VR, Nat.sub_self]
            exact ⟨c, sh, 0, hc, rfl, Nat.le_refl _, fun _ => rfl, fun h => absurd rfl h⟩
          | false =>
            rw [hbq] at hv; simp only [cond_false, Option.some.injEq] at hv
            subst hv
            have hne : ¬ m = l := fun h => by subst h; simp at hbq
            simp only [if_neg hne, Option.map_some, addr_add', VR]
            exact ⟨c, sh, _, hc, rfl, Nat.le_refl _, fun _ => rfl, fun h => absurd rfl h⟩
    · cases hv
  · cases hv
end Go.Ev
end

section
namespace Go.Ev

/-! filling -/
theorem foldl_over (us : List Value) : ∀ (k off : Nat) (cs : Array Value), (us.zipIdx k).foldl (fun cs x => cs.setIfInBounds (off + x.2) x.1) cs = overA us (off + k) cs := by
  induction us with
  | nil => intro k off cs; rfl
  | cons u r ih => intro k off cs; simp only [List.zipIdx_cons, List.foldl_cons, overA]; rw [ih (k + 1) off]; rfl
theorem VRs.over {V : Val} {z l r : List AV} {zc us : List Value} (hz : VRs V z zc) (hl : VRs V l us) (h1 : ∀ u ∈ zc, u.oneCell' = true) (h2 : ∀ u ∈ us, u.oneCell' = true) {off : Nat} (e : lput z off l = some r) :
    VRs V r (overA us off ⟨zc⟩).toList ∧ (∀ u ∈ (overA us off ⟨zc⟩).toList, u.oneCell' = true) ∧ off + us.length ≤ zc.length := by
  obtain ⟨p1, p2, p3⟩ := lput_eq _ _ _ _ e
  have e1 := hz.length
  have e2 := hl.length
  have hb : off + us.length ≤ (⟨zc⟩ : Array Value).size := by simp only [List.size_toArray]; omega
  have hg := overA_get us off ⟨zc⟩ hb
  refine ⟨VRs.of_get ?_ fun i x u hx hu => ?_, fun u hu => ?_, by omega⟩
  · rw [Array.length_toList, overA_size, List.size_toArray]; omega
  · rw [p3 i] at hx
    rw [Array.getElem?_toList, hg i] at hu
    by_cases hi : off ≤ i ∧ i < off + l.length
    · rw [if_pos hi] at hx
      rw [if_pos (by omega)] at hu
      obtain ⟨u', hu', hv⟩ := hl.get _ _ hx
      rw [hu] at hu'; cases hu'; exact hv
    · rw [if_neg hi] at hx
      rw [if_neg (by omega)] at hu
      obtain ⟨u', hu', hv⟩ := hz.get _ _ hx
      rw [List.getElem?_toArray, hu'] at hu; cases hu; exact hv
  · obtain ⟨i, hi⟩ := List.mem_iff_getElem?.1 hu
    rw [Array.getElem?_toList, hg i] at hi
    split at hi
    · exact h2 u (List.mem_of_getElem? hi)
    · rw [List.getElem?_toArray] at hi; exact h1 u (List.mem_of_getElem? hi)
theorem fill_rel {V : Val} {n : Nat} {fr : Fr} {a : Act} (r : FS V n fr a.tmps) {ty : Nat → Option TI} {place place' : Nat → Option (Nat × Nat)} (hp : ∀ i x, place i = some x → place' i = some x) :
    ∀ (ps : List (Nat × Operand)) (gs : List (Nat × Nat × Get)) (z l : List AV) (zc : List Value), parts ty place ps = some gs → fillP fr z gs = some l → VRs V z zc → (∀ u ∈ zc, u.oneCell' = true) →
    ∃ us, Instr.fill place' ⟨zc⟩ (ps.map fun x => (x.1, a.eval x.2)) = some ⟨us⟩ ∧ VRs V l us ∧ ∀ u ∈ us, u.oneCell' = true := by
  intro ps
  induction ps with
  | nil =>
    intro gs z l zc e hf hz h1
    simp only [parts, Option.some.injEq] at e; subst e
    simp only [fillP, Option.some.injEq] at hf; subst hf
    exact ⟨zc, rfl, hz, h1⟩
  | cons x ps ih =>
    intro gs z l zc e hf hz h1
    obtain ⟨i, x⟩ := x
    simp only [parts] at e
    split at e
    · rename_i off m g gs' hpl hx hr
      cases e
      simp only [fillP] at hf
      split at hf
      · rename_i cl hcl
        cases hb : Nat.beq cl.length m with
        | false => rw [hb] at hf; cases hf
        | true =>
          rw [hb] at hf; simp only [cond_true] at hf
          have hm := Nat.eq_of_beq_eq_true hb
          split at hf
          · rename_i z' hz'
            obtain ⟨us, e1, hv, h2⟩ := cellsOf_rel (cOpd_rel r hx) hcl
            obtain ⟨q1, q2, q3⟩ := hz.over hv h1 h2 hz'
            obtain ⟨us', e3, hv', h4⟩ := ih gs' z' l _ hr hf q1 q2
            refine ⟨us', ?_, hv', h4⟩
            have hlen : us.length = m := by rw [hv.length]; exact hm
            have hsz : ((⟨us⟩ : Array Value).size ≠ m || decide (off + (⟨us⟩ : Array Value).size > (⟨zc⟩ : Array Value).size)) = false := by
              simp only [List.size_toArray, Bool.or_eq_false_iff, decide_eq_false_iff_not]
              exact ⟨by simp [hlen], by omega⟩
            simp only [List.map_cons, Instr.fill, hp _ _ hpl, e1]
            rw [if_neg (by simp [hlen]; omega)]
            have : (⟨us⟩ : Array Value).zipIdx.foldl (fun cs x => cs.setIfInBounds (off + x.2) x.1) ⟨zc⟩ = overA us off ⟨zc⟩ := by
              rw [← Array.foldl_toList]; simpa using foldl_over us 0 off ⟨zc⟩
            rw [this]
            exact e3
          · cases hf
      · cases hf
    · cases e
/-- the places of a struct's fields -/
theorem places_ok {P : Program} : ∀ (fs : List Field), (∀ f ∈ fs, ∃ i, TIS P f.type i) → ∃ pl, fs.mapM (fun (f : Field) => (P.info? f.type).map fun i => (f.offset, i.size)) = some pl ∧
    ∀ (j : Nat) (f : Field) (i : TI), fs[j]? = some f → TIS P f.type i → pl[j]? = some (f.offset, i.size) := by
  intro fs
  induction fs with
  | nil => intro _; exact ⟨[], rfl, fun j f i h => by simp at h⟩
  | cons f r ih =>
    intro h
    obtain ⟨i, hi⟩ := h f (by simp)
    obtain ⟨x, hx, hs, _⟩ := hi.info
    obtain ⟨pl, e, hp⟩ := ih fun f hf => h f (by simp [hf])
    refine ⟨(f.offset, x.size) :: pl, by simp [List.mapM_cons, hx, e], fun j f' i' hj ht => ?_⟩
    cases j with
    | zero =>
      simp at hj; subst hj
      obtain ⟨x', hx', hs', _⟩ := ht.info
      rw [hx] at hx'; cases hx'
      simp [hs']
    | succ j => simp at hj ⊢; exact hp j f' i' hj ht
theorem VS.build {P : Program} {o : Oper} {t : Nat} {ps : Array (Nat × Operand)} {i : TI} {z : List AV} {ty : Nat → Option TI} {place place' : Nat → Option (Nat × Nat)} {l : List (Nat × Nat × Get)} (ho : o.op = .build t ps) (ti : TIS P t i) (hz : i.z = some z)
    (hp : parts ty place ps.toList = some l) (hpp : ∀ j x, place j = some x → place' j = some x)
    (hb : ∀ (xs : List (Nat × Value)) (v : Value), (P.info? t).bind (·.zero) = some v → P.built t xs = Instr.fill place' v.cells xs) : VS P o (Ev.fBuild z l) := by
  intro V n fr a h w v r hr hv
  unfold fBuild at hv
  split at hv
  · rename_i c hc
    cases hv
    obtain ⟨x, hx, _, _, h0⟩ := ti.info
    obtain ⟨_, zv, hzv, _⟩ := h0 z hz
    obtain ⟨v', zc, hrun, hcells, hvz, h1, _⟩ := ti.run_zero w hz V
    have hvv : v' = zv := by
      have : (zeroValue t).run P w = .ok zv w := by simp [zeroValue, typeInfo, hx, hzv]
      rw [this] at hrun; cases hrun; rfl
    subst hvv
    obtain ⟨us, e1, e2, e3⟩ := fill_rel r hpp ps.toList l z c zc hp hc hvz h1
    refine ⟨.agg ⟨us⟩, ?_, by simp only [VR]; exact ⟨us, rfl, e2, e3⟩⟩
    have hbuilt : P.built t (ps.map fun x => (x.1, a.eval x.2)).toList = some ⟨us⟩ := by
      rw [hb _ v' (by simp [hx, hzv]), Array.toList_map, hcells]; exact e1
    simp only [execOp, ho, Sem.run_bind, run_build w t _ _ hbuilt, Result.andThen_ok, Sem.run_pure]
  · cases hv
theorem VS.buildStruct {P : Program} {o : Oper} {t : Nat} {ps : Array (Nat × Operand)} {i : TI} {z : List AV} {ty : Nat → Option TI} {l : List (Nat × Nat × Get)} {fs : Array Field} (ho : o.op = .build t ps) (ti : TIS P t i) (hz : i.z = some z)
    (hd : i.d = .struct fs) (hty : ∀ t i, ty t = some i → TIS P t i) (hall : ∀ f ∈ fs.toList, ∃ i, TIS P f.type i)
    (hp : parts ty (fun j => match fs[j]? with | some f => (match ty f.type with | some fi => some (f.offset, fi.size) | none => none) | none => none) ps.toList = some l) : VS P o (Ev.fBuild z l) := by
  obtain ⟨pl, hpl, hpj⟩ := places_ok fs.toList hall
  refine VS.build (place' := fun j => pl.toArray[j]?) ho ti hz hp (fun j x hx => ?_) fun xs v hv => ?_
  · split at hx
    · rename_i f hf
      split at hx
      · rename_i fi hfi
        cases hx
        simpa using hpj j f fi (by simpa using hf) (hty _ _ hfi)
      · cases hx
    · cases hx
  · obtain ⟨x, hx, _⟩ := ti.info
    have hu := ti.und
    rw [hd] at hu
    simp only [hx, Option.bind_some] at hv
    simp only [Program.built, hx, hu, hv, hpl]
theorem VS.buildArray {P : Program} {o : Oper} {t n el : Nat} {ps : Array (Nat × Operand)} {i ei : TI} {z : List AV} {ty : Nat → Option TI} {l : List (Nat × Nat × Get)} (ho : o.op = .build t ps) (ti : TIS P t i) (hz : i.z = some z)
    (hd : i.d = .array n el) (te : TIS P el ei) (hp : parts ty (fun j => some (j * ei.size, ei.size)) ps.toList = some l) : VS P o (Ev.fBuild z l) := by
  refine VS.build (place' := fun j => some (j * ei.size, ei.size)) ho ti hz hp (fun j x hx => hx) fun xs v hv => ?_
  obtain ⟨x, hx, _⟩ := ti.info
  obtain ⟨ex, hex, hes, _⟩ := te.info
  have hu := ti.und
  rw [hd] at hu
  simp only [hx, Option.bind_some] at hv
  simp only [Program.built, hx, hu, hv, hex, hes]

/-! type assertions, lengths -/
theorem VS.typeAssert {P : Program} {o : Oper} {xt t : Nat} {x : Operand} {g : Get} {ok : Bool} {i : TI} {z : AV} {zl : List AV} (ho : o.op = .typeAssert x xt t ok) (e : cOpd x = some g) (ti : TIS P t i) (hd : ∀ ms, i.d ≠ .interface ms) (hz : i.zero = some z) (hzl : i.z = some zl) :
    VS P o (Ev.f1 (Ev.assertC t ok z) g) := by
  refine VS.f1 e fun V a w b v rb hv => ?_
  have hu := ti.run_und w
  obtain ⟨zv, _, hzr, _, _, _, hzv⟩ := ti.run_zero w hzl V
  have hzv := hzv z hz
  unfold assertC at hv
  split at hv
  · rename_i u y
    simp only [VR] at rb
    obtain ⟨y', hy, ry⟩ := rb
    cases htu : Nat.beq t u with
    | true =>
      rw [htu] at hv; simp only [cond_true, Option.some.injEq] at hv
      have := Nat.eq_of_beq_eq_true htu
      subst this; subst hv
      refine ⟨if ok then .tuple #[y', .bool true] else y', ?_, ?_⟩
      · simp only [execOp, ho, Instr.typeAssert, Sem.run_bind, hu, Result.andThen_ok, hy]
        cases hdd : i.d <;> first | (exact absurd hdd (hd _)) | simp
      · cases ok
        · exact ry
        · simp only [cond_true, if_true, VR]; exact ⟨_, rfl, by simp only [VRs, VR]; exact ⟨y', _, rfl, ry, _, _, rfl, rfl, rfl⟩⟩
    | false =>
      rw [htu] at hv; simp only [cond_false] at hv
      have hne : ¬ u = t := fun h => by subst h; simp at htu
      cases ok with
      | false => cases hv
      | true =>
        simp only [cond_true, Option.some.injEq] at hv
        subst hv
        refine ⟨.tuple #[zv, .bool false], ?_, by simp only [VR]; exact ⟨_, rfl, by simp only [VRs, VR]; exact ⟨zv, _, rfl, hzv, _, _, rfl, rfl, rfl⟩⟩⟩
        simp only [execOp, ho, Instr.typeAssert, Sem.run_bind, hu, Result.andThen_ok, hy]
        cases hdd : i.d <;> first | (exact absurd hdd (hd _)) | simp [hne, hzr]
  · simp only [VR] at rb
    cases ok with
    | false => cases hv
    | true =>
      simp only [cond_true, Option.some.injEq] at hv
      subst hv
      refine ⟨.tuple #[zv, .bool false], ?_, by simp only [VR]; exact ⟨_, rfl, by simp only [VRs, VR]; exact ⟨zv, _, rfl, hzv, _, _, rfl, rfl, rfl⟩⟩⟩
      simp only [execOp, ho, Instr.typeAssert, Sem.run_bind, hu, Result.andThen_ok, rb]
      cases hdd : i.d <;> first | (exact absurd hdd (hd _)) | simp [hzr]
  · cases hv
end Go.Ev
end

section
namespace Go.Ev

theorem run_getObj {P : Program} {w : World} {r : Nat} {o : Obj} (h : w.heap[r]? = some o) (hc : ∀ a b c, o ≠ .cells a b c) : (getObj r).run P w = .ok o w := by
  cases o <;> first | (exact absurd rfl (hc _ _ _)) | simp [getObj, Sem.run, h]
theorem cOpds1 {l : List Operand} {x : Get} (e : cOpds l = some [x]) : ∃ ox, l = [ox] ∧ cOpd ox = some x := by
  cases l with
  | nil => simp [cOpds] at e
  | cons a r =>
    simp only [cOpds] at e
    split at e
    · rename_i g gs h1 h2
      cases e
      cases r with
      | nil => exact ⟨a, rfl, h1⟩
      | cons b r => simp only [cOpds] at h2; split at h2 <;> cases h2
    · cases e
theorem cOpds2 {l : List Operand} {x y : Get} (e : cOpds l = some [x, y]) : ∃ ox oy, l = [ox, oy] ∧ cOpd ox = some x ∧ cOpd oy = some y := by
  cases l with
  | nil => simp [cOpds] at e
  | cons a r =>
    simp only [cOpds] at e
    split at e
    · rename_i g gs h1 h2
      cases e
      obtain ⟨oy, rfl, h3⟩ := cOpds1 h2
      exact ⟨a, oy, rfl, h1, h3⟩
    · cases e
theorem execOp_builtin (P : Program) {o : Oper} {c : Go.Call} {b : Builtin} (ho : o.op = .call c) (hb : c.callee = .builtin b) (ρ : Operand → Value) (w : World) {args : List Operand} (ha : c.args.toList = args) :
    ∃ cs, (execOp ρ o).run P w = (builtin b c.argTypes o.type cs (args.map ρ).toArray).run P w := by
  have : c.args.map ρ = (args.map ρ).toArray := by rw [← ha, ← Array.toList_map]
  refine ⟨c.args.map fun | .const _ => true | _ => false, ?_⟩
  simp only [execOp, ho, resolve, hb, Sem.run_bind, Sem.run_pure, Result.andThen_ok, invoke, this]
  rfl

section
variable {P : Program} {o : Oper} {c : Go.Call} {b : Builtin} (ho : o.op = .call c) (hb : c.callee = .builtin b)
include ho hb
/-- a builtin of one argument that makes a value -/
theorem VS.b1 {x : Get} {F : VF} (e : cOpds c.args.toList = some [x]) {S : Value → Sem Value} (hS : ∀ cs u, builtin b c.argTypes o.type cs #[u] = (do pure (Next.value (← S u))))
    (hF : ∀ (V : Val) (_n : Nat) (fr : Fr) (h : H) (w : World) (v : AV) (u : Value), HR V h w → VR V (x.run fr) u → F fr h = some v → ∃ z, (S u).run P w = .ok z w ∧ VR V v z) : VS P o F := by
  intro V n fr a h w v r hr hv
  obtain ⟨ox, hl, hx⟩ := cOpds1 e
  obtain ⟨cs, hex⟩ := execOp_builtin P ho hb a.eval w hl
  obtain ⟨z, h1, h2⟩ := hF V n fr h w v _ hr (cOpd_rel r hx) hv
  refine ⟨z, ?_, h2⟩
  rw [hex, show ([ox].map a.eval).toArray = #[a.eval ox] from rfl, hS cs]
  simp only [Sem.run_bind, h1, Result.andThen_ok, Sem.run_pure]
theorem VS.b2 {x y : Get} {F : VF} (e : cOpds c.args.toList = some [x, y]) {S : Value → Value → Sem Value} (hS : ∀ cs u v, builtin b c.argTypes o.type cs #[u, v] = (do pure (Next.value (← S u v))))
    (hF : ∀ (V : Val) (_n : Nat) (fr : Fr) (h : H) (w : World) (v : AV) (u u' : Value), HR V h w → VR V (x.run fr) u → VR V (y.run fr) u' → F fr h = some v → ∃ z, (S u u').run P w = .ok z w ∧ VR V v z) : VS P o F := by
  intro V n fr a h w v r hr hv
  obtain ⟨ox, oy, hl, hx, hy⟩ := cOpds2 e
  obtain ⟨cs, hex⟩ := execOp_builtin P ho hb a.eval w hl
  obtain ⟨z, h1, h2⟩ := hF V n fr h w v _ _ hr (cOpd_rel r hx) (cOpd_rel r hy) hv
  refine ⟨z, ?_, h2⟩
  rw [hex, show ([ox, oy].map a.eval).toArray = #[a.eval ox, a.eval oy] from rfl, hS cs]
  simp only [Sem.run_bind, h1, Result.andThen_ok, Sem.run_pure]
end

theorem VS.lenS {P : Program} {o : Oper} {c : Go.Call} {x : Get} {t : Nat} {i : TI} (ho : o.op = .call c) (hb : c.callee = .builtin .len) (e : cOpds c.args.toList = some [x]) (ht : c.argTypes[0]? = some t) (ti : TIS P t i) (hd : i.d = .string) :
    VS P o (Ev.f1 Ev.lenS x) := by
  refine VS.b1 ho hb e (S := fun u => Builtin.len_ c.argTypes o.type #[u]) (fun _ _ => rfl) fun V n fr h w v u hr rx hv => ?_
  have hu := ti.run_und w
  rw [hd] at hu
  simp only [Ev.f1] at hv; unfold Ev.lenS at hv
  split at hv
  · rename_i l m hg
    rw [hg] at rx; simp only [VR] at rx
    obtain ⟨s, rfl, hsr⟩ := rx
    cases hv
    exact ⟨goInt s.size, by simp [Builtin.len_, ht, hu], by rw [hsr.size]; exact .of_int rfl⟩
  · cases hv
theorem VS.lenV {P : Program} {o : Oper} {c : Go.Call} {x : Get} {t el : Nat} {i : TI} (ho : o.op = .call c) (hb : c.callee = .builtin .len) (e : cOpds c.args.toList = some [x]) (ht : c.argTypes[0]? = some t) (ti : TIS P t i) (hd : i.d = .slice el) :
    VS P o (Ev.f1 Ev.lenV x) := by
  refine VS.b1 ho hb e (S := fun u => Builtin.len_ c.argTypes o.type #[u]) (fun _ _ => rfl) fun V n fr h w v u hr rx hv => ?_
  have hu := ti.run_und w
  rw [hd] at hu
  simp only [Ev.f1] at hv; unfold Ev.lenV at hv
  split at hv
  · rename_i hg
    rw [hg] at rx; simp only [VR] at rx; subst rx
    cases hv
    exact ⟨goInt 0, by simp [Builtin.len_, ht, hu], .of_int rfl⟩
  · rename_i b off l cap ex hg
    rw [hg] at rx; simp only [VR] at rx
    obtain ⟨_, _, _, _, rfl, _⟩ := rx
    cases hv
    exact ⟨goInt l, by simp [Builtin.len_, ht, hu], .of_int rfl⟩
  · rename_i hg
    rw [hg] at rx; simp only [VR] at rx
    obtain ⟨_, _, _, _, _, rfl, _⟩ := rx
    cases hv
    exact ⟨goInt 0, by simp [Builtin.len_, ht, hu], .of_int rfl⟩
  · cases hv
theorem ERs.length {V : Val} : ∀ {a : List (AV × AV × Nat)} {v : List MapEntry}, ERs V a v → v.length = a.length := by
  intro a
  induction a with
  | nil => intro v h; simp only [ERs] at h; subst h; rfl
  | cons x l ih => intro v h; obtain ⟨e, r', rfl, _, r2⟩ := h; simp [ih r2]
theorem HR.map {V : Val} {h : H} {w : World} (r : HR V h w) {b : Nat} {es : List (AV × AV × Nat)} {clock : Nat} (e : h.get b = some (.map es clock)) :
    ∃ c es', V.ρ b = some (c, 0) ∧ w.heap[c]? = some (.map ⟨es'⟩ clock) ∧ ERs V es es' := by
  obtain ⟨c, sh, o, h1, h2, rfl, es', rfl, h3⟩ := r.blk b _ e
  exact ⟨c, es', h1, h2, h3⟩
theorem VS.lenM {P : Program} {o : Oper} {c : Go.Call} {x : Get} {t k el : Nat} {i : TI} (ho : o.op = .call c) (hb : c.callee = .builtin .len) (e : cOpds c.args.toList = some [x]) (ht : c.argTypes[0]? = some t) (ti : TIS P t i) (hd : i.d = .map k el) :
    VS P o (Ev.fLenM x) := by
  refine VS.b1 ho hb e (S := fun u => Builtin.len_ c.argTypes o.type #[u]) (fun _ _ => rfl) fun V n fr h w v u hr rx hv => ?_
  have hu := ti.run_und w
  rw [hd] at hu
  unfold Ev.fLenM at hv
  split at hv
  · rename_i hg
    rw [hg] at rx; simp only [VR] at rx; subst rx
    cases hv
    exact ⟨goInt 0, by simp [Builtin.len_, ht, hu], .of_int rfl⟩
  · rename_i b hg
    rw [hg] at rx; simp only [VR] at rx
    obtain ⟨cc, hc, rfl⟩ := rx
    split at hv
    · rename_i es clock hm
      cases hv
      obtain ⟨c', es', hc', ho', her⟩ := hr.map hm
      rw [hc] at hc'; cases hc'
      have hg' : (getObj cc).run P w = .ok (.map ⟨es'⟩ clock) w := run_getObj ho' (by simp)
      exact ⟨goInt es'.length, by simp [Builtin.len_, ht, hu, hg'], by rw [her.length]; exact .of_int rfl⟩
    · cases hv
  · cases hv
theorem VS.cap {P : Program} {o : Oper} {c : Go.Call} {x : Get} {t el : Nat} {i : TI} (ho : o.op = .call c) (hb : c.callee = .builtin .cap) (e : cOpds c.args.toList = some [x]) (ht : c.argTypes[0]? = some t) (ti : TIS P t i) (hd : i.d = .slice el) :
    VS P o (Ev.f1 Ev.capA x) := by
  refine VS.b1 ho hb e (S := fun u => Builtin.cap_ c.argTypes o.type #[u]) (fun _ _ => rfl) fun V n fr h w v u hr rx hv => ?_
  have hu := ti.run_und w
  rw [hd] at hu
  simp only [Ev.f1] at hv; unfold Ev.capA at hv
  split at hv
  · rename_i hg
    rw [hg] at rx; simp only [VR] at rx; subst rx
    cases hv
    exact ⟨goInt 0, by simp [Builtin.cap_, ht, hu], .of_int rfl⟩
  · rename_i l ex hg
    rw [hg] at rx; simp only [VR] at rx
    obtain ⟨_, _, cap', _, rfl, _, h1, _⟩ := rx
    cases hex : Nat.beq ex 0 with
    | false => rw [hex] at hv; cases hv
    | true =>
      rw [hex] at hv
      cases hv
      have := h1 (Nat.eq_of_beq_eq_true hex)
      subst this
      exact ⟨goInt cap', by simp [Builtin.cap_, ht, hu], .of_int rfl⟩
  · cases hv
theorem VS.max {P : Program} {o : Oper} {c : Go.Call} {x y : Get} (ho : o.op = .call c) (hb : c.callee = .builtin .max) (e : cOpds c.args.toList = some [x, y]) : VS P o (Ev.f2 (Ev.maxA false) x y) := by
  refine VS.b2 ho hb e (S := fun u v => Builtin.max_ c.argTypes o.type #[u, v]) (fun _ _ _ => rfl) fun V n fr h w v u u' hr rx ry hv => ?_
  simp only [Ev.f2] at hv; unfold Ev.maxA at hv
  split at hv
  · rename_i k a k' b' h1 h2
    rw [h1] at rx; rw [h2] at ry
    simp only [VR] at rx ry; subst rx; subst ry
    cases hv
    refine ⟨.int k (if b' > a then b' else a), by simp [Builtin.max_, Builtin.max2], .of_int (by simp)⟩
  · cases hv
theorem VS.min {P : Program} {o : Oper} {c : Go.Call} {x y : Get} (ho : o.op = .call c) (hb : c.callee = .builtin .min) (e : cOpds c.args.toList = some [x, y]) : VS P o (Ev.f2 (Ev.maxA true) x y) := by
  refine VS.b2 ho hb e (S := fun u v => Builtin.min_ c.argTypes o.type #[u, v]) (fun _ _ _ => rfl) fun V n fr h w v u u' hr rx ry hv => ?_
  simp only [Ev.f2] at hv; unfold Ev.maxA at hv
  split at hv
  · rename_i k a k' b' h1 h2
    rw [h1] at rx; rw [h2] at ry
    simp only [VR] at rx ry; subst rx; subst ry
    cases hv
    refine ⟨.int k (if b' < a then b' else a), by simp [Builtin.min_, Builtin.min2], .of_int (by simp)⟩
  · cases hv
theorem VS.sliceData {P : Program} {o : Oper} {c : Go.Call} {x : Get} (ho : o.op = .call c) (hb : c.callee = .builtin .unsafeSliceData) (e : cOpds c.args.toList = some [x]) : VS P o (Ev.f1 Ev.sliceData x) := by
  refine VS.b1 ho hb e (S := fun u => Builtin.unsafeSliceData_ c.argTypes o.type #[u]) (fun _ _ => rfl) fun V n fr h w v u hr rx hv => ?_
  simp only [Ev.f1] at hv; unfold Ev.sliceData at hv
  split at hv
  · rename_i hg
    rw [hg] at rx; simp only [VR] at rx; subst rx
    cases hv
    exact ⟨.pointer none, rfl, by simp [VR]⟩
  · rename_i b off l cap ex hg
    rw [hg] at rx; simp only [VR] at rx
    obtain ⟨cc, sh, cap', hc, rfl, hle, _⟩ := rx
    cases hc0 : Nat.beq cap 0 with
    | true => rw [hc0] at hv; cases hv
    | false =>
      rw [hc0] at hv
      cases hv
      have : cap ≠ 0 := fun h => by subst h; simp at hc0
      have h0 : cap' ≠ 0 := by omega
      exact ⟨.pointer (some ⟨cc, sh + off, none⟩), by show Sem.run P (ite (cap' ≠ 0) _ _) w = _; rw [if_pos h0]; rfl, by simp only [VR]; exact ⟨cc, sh, hc, rfl⟩⟩
  · cases hv
end Go.Ev
end

section
namespace Go.Ev

/-! keys of maps -/
theorem run_forIn_unit {P : Program} {α : Type} {w : World} (f : α → PUnit → Sem (ForInStep PUnit)) : ∀ (l : List α), (∀ x ∈ l, (f x ⟨⟩).run P w = .ok (.yield ⟨⟩) w) → (forIn l PUnit.unit f).run P w = .ok ⟨⟩ w := by
  intro l
  induction l with
  | nil => intro _; simp [Sem.run_pure]
  | cons x r ih =>
    intro h
    rw [List.forIn_cons]
    simp only [Sem.run_bind, h x (by simp), Result.andThen_ok]
    exact ih fun y hy => h y (by simp [hy])
theorem kindEq_refl (k : IntKind) : kindEq k k = true := by cases k <;> rfl
theorem strEq_refl (a b : Nat) : strEq a b a b = true := by simp [strEq]
theorem eqC_refl {c : CK} {x : AV} {b : Bool} (e : eqC c x x = some b) : b = true := by
  cases c <;> cases x <;> simp [eqC, kindEq_refl, strEq_refl] at e <;> exact e
theorem strEq_true {a b c d : Nat} (h : strEq a b c d = true) : a = c ∧ b = d := by
  unfold strEq at h
  cases hb : Nat.beq a c with
  | false => rw [hb] at h; cases h
  | true => rw [hb] at h; exact ⟨Nat.eq_of_beq_eq_true hb, Nat.eq_of_beq_eq_true h⟩
theorem eqC_true {c : CK} {x y : AV} (e : eqC c x y = some true) : x = y := by
  unfold eqC at e
  split at e
  · rename_i k a k' b
    cases hk : kindEq k k' with
    | false => rw [hk] at e; cases e
    | true =>
      rw [hk] at e
      have := kindEq_iff hk; subst this
      simp at e; rw [e]
  · simp only [Option.some.injEq] at e
    obtain ⟨rfl, rfl⟩ := strEq_true e; rfl
  · simp at e; rw [e]
  · cases e
theorem eqCells_self : ∀ (cs : List CK) (l : List AV) (r : Bool), eqCells cs l l = some r → cs.length = l.length := by
  intro cs
  induction cs with
  | nil => intro l r e; cases l <;> simp [eqCells] at e; rfl
  | cons c cs ih =>
    intro l r e
    cases l with
    | nil => simp [eqCells] at e
    | cons a l =>
      simp only [eqCells] at e
      split at e
      · simp [ih l r e]
      · rename_i hf; exact absurd (eqC_refl hf) (by simp)
      · cases e
theorem eqCells_true : ∀ (cs : List CK) (l m : List AV), eqCells cs l m = some true → l = m := by
  intro cs
  induction cs with
  | nil => intro l m e; cases l <;> cases m <;> simp [eqCells] at e; rfl
  | cons c cs ih =>
    intro l m e
    cases l <;> cases m <;> simp only [eqCells] at e <;> first | (cases e; done) | skip
    split at e
    · rename_i h; rw [eqC_true h, ih _ _ e]
    · cases e
    · cases e
theorem eqK_true {q : EqK} (hq : keyOk q = true) {x y : AV} (e : eqK true q x y = some true) : x = y := by
  cases q <;> simp only [keyOk, Bool.false_eq_true] at hq <;> simp only [eqK] at e
  · exact eqC_true e
  · unfold eqP at e
    split at e <;> first | rfl | (cases e; done) | skip
    rename_i a b c d
    cases hb : Nat.beq a c with
    | false => rw [hb] at e; cases e
    | true =>
      rw [hb] at e
      simp only [cond_true, Option.some.injEq] at e
      rw [Nat.eq_of_beq_eq_true hb, Nat.eq_of_beq_eq_true e]
  · unfold eqAgg at e
    split at e
    · rw [eqCells_true _ _ _ e]
    · cases e
theorem run_checkKey_rel {V : Val} {P : Program} {t : Nat} {q : EqK} (s : EqS P t q) (hq : keyOk q = true) {x : AV} {u : Value} (rx : VR V x u) (hf : keyFit q x = true) (em : Bool) (w : World) :
    (Instr.checkKey em 10000 t u).run P w = .ok () w := by
  have key : ∀ n, (Instr.checkKey em (n + 1 + 1) t u).run P w = .ok () w := by
    intro n
    have hs := s.h
    have basic : ∀ (n : Nat) (t' : Nat) (d : TypeDesc) (c : CK), P.underlying t' = some d → CKd c d → ∀ v, (Instr.checkKey em (n + 1) t' v).run P w = .ok () w := by
      intro n t' d c hu hc v
      simp only [Instr.checkKey, Sem.run_bind, run_underlying hu, Result.andThen_ok]
      cases c
      · obtain ⟨k, rfl⟩ := hc; rfl
      · cases hc; rfl
      · cases hc; rfl
    unfold keyFit at hf
    split at hf
    · rename_i b hb
      cases q <;> simp only [keyOk, Bool.false_eq_true] at hq
      · obtain ⟨d, hd, hc⟩ := hs
        exact basic _ _ _ _ hd hc _
      · obtain ⟨e, x', hu, _⟩ := hs
        simp only [Instr.checkKey, Sem.run_bind, run_underlying hu, Result.andThen_ok]
        rfl
      · obtain ⟨fs, hu, _, hl, hfl⟩ := hs
        simp only [eqK] at hb
        cases x <;> simp only [eqAgg] at hb <;> first | (cases hb; done) | skip
        · rename_i cs _ l
          have hlen := eqCells_self _ _ _ hb
          simp only [VR] at rx
          obtain ⟨us, rfl, hr, _⟩ := rx
          have hul := hr.length
          have basic' := basic n
          generalize n + 1 = m' at basic'
          simp only [Instr.checkKey, Sem.run_bind, run_underlying hu, Result.andThen_ok]
          rw [← Array.forIn_toList]
          refine (congrArg (fun r => Result.andThen r _) (run_forIn_unit _ fs.toList fun f hfm => ?_)).trans rfl
          obtain ⟨j, hj⟩ := List.mem_iff_getElem?.1 hfm
          have hjl : j < fs.size := by
            rcases Nat.lt_or_ge j fs.toList.length with h | h
            · simpa using h
            · rw [List.getElem?_eq_none h] at hj; cases hj
          have hjc : j < cs.length := by omega
          obtain ⟨ho, hn, d, hd, hc⟩ := hfl j f cs[j] (by simpa using hj) (List.getElem?_eq_getElem hjc)
          have hju : j < us.length := by omega
          have hpart : (part f.type ⟨us⟩ f.offset).run P w = .ok us[j] w := by
            rw [ho]
            refine run_part1 hd ?_ ⟨us⟩ j us[j] (by simp [hju]) w
            generalize cs[j] = cj at hc
            cases cj
            · obtain ⟨k, rfl⟩ := hc; rfl
            · cases hc; rfl
            · cases hc; rfl
          simp only [ne_eq, hn, not_false_eq_true, if_true, Sem.run_bind, hpart, Result.andThen_ok, basic' _ _ _ hd hc, Sem.run_pure]
    · cases hf
  exact key 9998

/-! finding a key -/
def idxK (q : EqK) (k : AV) : List (AV × AV × Nat) → Nat → Option (Option Nat)
  | [], _ => some none
  | (k', _, _) :: r, i => match eqK true q k k' with
    | some true => some (some i)
    | some false => idxK q k r (i + 1)
    | none => none
theorem run_findAsking {V : Val} {P : Program} {t : Nat} {q : EqK} (s : EqS P t q) {k : AV} {ku : Value} (rk : VR V k ku) (w : World) : ∀ (es : List (AV × AV × Nat)) (es' : List MapEntry) (i : Nat) (r : Option Nat), ERs V es es' → idxK q k es i = some r →
    (Instr.findAsking t ku es' i).run P w = .ok (r.map fun j => (j, (es'.getD (j - i) default).val)) w ∧ ∀ j, r = some j → i ≤ j ∧ j - i < es'.length := by
  intro es
  induction es with
  | nil => intro es' i r he hi; simp only [ERs] at he; subst he; simp only [idxK, Option.some.injEq] at hi; subst hi; exact ⟨rfl, fun j h => by cases h⟩
  | cons x es ih =>
    intro es' i r he hi
    obtain ⟨k', v, c⟩ := x
    obtain ⟨e, r', rfl, he1, he2⟩ := he
    simp only [idxK] at hi
    split at hi
    · rename_i hq
      cases hi
      have := eqK_rel s rk he1.1 hq w
      refine ⟨by simp only [Instr.findAsking, Sem.run_bind, this, Result.andThen_ok, if_true, Sem.run_pure]; simp, fun j h => by cases h; simp⟩
    · rename_i hq
      have := eqK_rel s rk he1.1 hq w
      obtain ⟨h1, h2⟩ := ih r' (i + 1) r he2 hi
      refine ⟨?_, fun j h => by have := h2 j h; simp; omega⟩
      simp only [Instr.findAsking, Sem.run_bind, this, Result.andThen_ok, Bool.false_eq_true, if_false, h1]
      congr 1
      cases r with
      | none => rfl
      | some j =>
        have := (h2 j rfl).1
        simp only [Option.map_some, Option.some.injEq, Prod.mk.injEq, true_and]
        rw [show j - i = (j - (i + 1)) + 1 by omega]
        simp
    · cases hi
/-- what can be told without asking is what asking tells -/
theorem sameNow_rel {V : Val} {P : Program} {t : Nat} {q : EqK} {d : TypeDesc} (s : EqS P t q) (hu : P.underlying t = some d) {x y : AV} {u v : Value} (rx : VR V x u) (ry : VR V y v) {b b' : Bool}
    (h : Instr.sameNow d u v = some b) (e : eqK true q x y = some b') : b = b' := by
  have h1 := eqK_rel s rx ry e default
  have h2 : ∀ n, (Op.equalIn (n + 1) t u v).run P default = .ok b default := by
    intro n
    unfold Instr.sameNow at h
    split at h
    · split at h
      · rename_i hk; subst hk; cases h; simp [Op.equalIn, run_underlying hu]
      · cases h
    · cases h; simp [Op.equalIn, run_underlying hu]
    · cases h; simp [Op.equalIn, run_underlying hu]
    · cases h
  have h3 : (Op.equal t u v).run P default = .ok b default := h2 9999
  rw [h1] at h3; cases h3; rfl
theorem findNow_rel {V : Val} {P : Program} {t : Nat} {q : EqK} {d : TypeDesc} (s : EqS P t q) (hu : P.underlying t = some d) {k : AV} {ku : Value} (rk : VR V k ku) : ∀ (es : List (AV × AV × Nat)) (es' : List MapEntry) (i : Nat) (r : Option Nat) (z : Option (Nat × Value)),
    ERs V es es' → idxK q k es i = some r → Instr.findNow d ku es' i = some z → z = r.map fun j => (j, (es'.getD (j - i) default).val) := by
  intro es
  induction es with
  | nil => intro es' i r z he hi hz; simp only [ERs] at he; subst he; simp only [idxK, Option.some.injEq] at hi; subst hi; simp only [Instr.findNow, Option.some.injEq] at hz; exact hz.symm
  | cons x es ih =>
    intro es' i r z he hi hz
    obtain ⟨k', v, c⟩ := x
    obtain ⟨e, r', rfl, he1, he2⟩ := he
    simp only [Instr.findNow] at hz
    simp only [idxK] at hi
    split at hz
    · rename_i hn
      split at hi
      · cases hi; cases hz; simp
      · rename_i hq
        exact absurd (sameNow_rel s hu rk he1.1 hn hq) (by simp)
      · cases hi
    · rename_i hn
      split at hi
      · rename_i hq
        exact absurd (sameNow_rel s hu rk he1.1 hn hq) (by simp)
      · rw [ih r' (i + 1) r z he2 hi hz]
        cases r with
        | none => rfl
        | some j =>
          have hij : i + 1 ≤ j := by
            have := (run_findAsking (P := P) s rk default es r' (i + 1) (some j) he2 hi).2 j rfl
            exact this.1
          simp only [Option.map_some, Option.some.injEq, Prod.mk.injEq, true_and]
          rw [show j - i = (j - (i + 1)) + 1 by omega]
          simp
      · cases hi
    · cases hz
theorem run_findKey {V : Val} {P : Program} {t : Nat} {q : EqK} (s : EqS P t q) {d : TypeDesc} (hu : P.underlying t = some d) {k : AV} {ku : Value} (rk : VR V k ku) (w : World) {es : List (AV × AV × Nat)} {es' : List MapEntry} {r : Option Nat}
    (he : ERs V es es') (hi : idxK q k es 0 = some r) : (Instr.findKey t ku es').run P w = .ok (r.map fun j => (j, (es'.getD j default).val)) w ∧ ∀ j, r = some j → j < es'.length := by
  obtain ⟨h1, h2⟩ := run_findAsking (P := P) s rk w es es' 0 r he hi
  refine ⟨?_, fun j hj => by simpa using (h2 j hj).2⟩
  unfold Instr.findKey
  simp only [Sem.run_bind, run_underlying hu, Result.andThen_ok]
  split
  · rename_i z hz
    rw [findNow_rel s hu rk es es' 0 r z he hi hz]
    simp
  · simpa using h1
theorem findK_idx {q : EqK} {k : AV} : ∀ (es : List (AV × AV × Nat)) (i : Nat) {r : Option AV}, findK q k es = some r → ∃ j, idxK q k es i = some j ∧ (j = none ∧ r = none ∨ ∃ m x, j = some m ∧ i ≤ m ∧ es[m - i]? = some x ∧ r = some x.2.1) := by
  intro es
  induction es with
  | nil => intro i r h; simp only [findK, Option.some.injEq] at h; subst h; exact ⟨none, rfl, .inl ⟨rfl, rfl⟩⟩
  | cons x es ih =>
    intro i r h
    obtain ⟨k', v, c⟩ := x
    simp only [findK] at h
    split at h
    · rename_i hq; cases h; exact ⟨some i, by simp [idxK, hq], .inr ⟨i, (k', v, c), rfl, Nat.le_refl _, by simp, rfl⟩⟩
    · rename_i hq
      obtain ⟨j, h1, h2⟩ := ih (i + 1) h
      refine ⟨j, by simp [idxK, hq, h1], ?_⟩
      rcases h2 with h2 | ⟨m, x, h2, h3, h4, h5⟩
      · exact .inl h2
      · exact .inr ⟨m, x, h2, by omega, by rw [show m - i = (m - (i + 1)) + 1 by omega]; simpa using h4, h5⟩
    · cases h
theorem ERs.get {V : Val} : ∀ {a : List (AV × AV × Nat)} {v : List MapEntry}, ERs V a v → ∀ (i : Nat) (x : AV × AV × Nat), a[i]? = some x → ∃ e, v[i]? = some e ∧ ER V x e := by
  intro a
  induction a with
  | nil => intro v h i x e; simp at e
  | cons y r ih =>
    intro v h i x e
    obtain ⟨w, r', rfl, h1, h2⟩ := h
    cases i with
    | zero => simp at e; subst e; exact ⟨w, rfl, h1⟩
    | succ i => simp at e ⊢; exact ih h2 i x e
theorem VS.lookup {P : Program} {o : Oper} {t kt et : Nat} {x k : Operand} {g g' : Get} {ok : Bool} {q : EqK} {ei ki : TI} {z : AV} {zl : List AV} (ho : o.op = .lookup t x k ok) (e : cOpd x = some g) (e' : cOpd k = some g') (hu : P.underlying t = some (.map kt et))
    (s : EqS P kt q) (hq : keyOk q = true) (tk : TIS P kt ki) (ti : TIS P et ei) (hz : ei.zero = some z) (hzl : ei.z = some zl) : VS P o (Ev.fLookup q z ok g g') := by
  intro V n fr a h w v r hr hv
  have rx := cOpd_rel r e
  have rk := cOpd_rel r e'
  obtain ⟨zv, _, hzr, _, _, _, hzv⟩ := ti.run_zero w hzl V
  have hzv := hzv z hz
  unfold fLookup at hv
  cases hf : keyFit q (g'.run fr) with
  | false => rw [hf] at hv; cases hv
  | true =>
    rw [hf] at hv
    simp only [cond_true] at hv
    have body : ∀ (es : List (AV × AV × Nat)) (es' : List MapEntry) (fo : Option AV), ERs V es es' → findK q (g'.run fr) es = some fo →
        ((∃ mv, a.eval x = .map mv ∧ (match mv with | none => es' = [] | some c => ∃ cl, w.heap[c]? = some (.map ⟨es'⟩ cl)))) →
        ∃ u, (execOp a.eval o).run P w = .ok (.value u) w ∧ VR V (match fo with | some v => (bif ok then .tup [v, .bool true] else v) | none => (bif ok then .tup [z, .bool false] else z)) u := by
      intro es es' fo her hfo ⟨mv, hm, hmc⟩
      obtain ⟨j, hj, hcase⟩ := findK_idx es 0 hfo
      obtain ⟨hrun, hlt⟩ := run_findKey (P := P) s tk.und rk w her hj
      have hck := fun em => run_checkKey_rel (P := P) s hq rk hf em w
      have red : ∀ (res : Option (Nat × Value)), (Instr.findKey kt (a.eval k) es').run P w = .ok res w →
          (execOp a.eval o).run P w = .ok (.value (match res with | some (_, v) => (if ok then .tuple #[v, .bool true] else v) | none => (if ok then .tuple #[zv, .bool false] else zv))) w := by
        intro res hres
        cases mv with
        | none =>
          subst hmc
          simp only [execOp, ho, Instr.lookup, Sem.run_bind, run_underlying hu, Result.andThen_ok, hm, Sem.run_pure, hck]
          simp only [hres, Result.andThen_ok]
          cases res with
          | none => simp only [Sem.run_bind, hzr, Result.andThen_ok, Sem.run_pure]
          | some r => rfl
        | some c =>
          obtain ⟨cl, hc⟩ := hmc
          have hg : (getObj c).run P w = .ok (.map ⟨es'⟩ cl) w := run_getObj hc (by simp)
          simp only [execOp, ho, Instr.lookup, Sem.run_bind, run_underlying hu, Result.andThen_ok, hm, Sem.run_pure, hg, hck]
          simp only [hres, Result.andThen_ok]
          cases res with
          | none => simp only [Sem.run_bind, hzr, Result.andThen_ok, Sem.run_pure]
          | some r => rfl
      refine ⟨_, red _ hrun, ?_⟩
      rcases hcase with ⟨rfl, rfl⟩ | ⟨m, y, rfl, _, hy, rfl⟩
      · cases ok
        · exact hzv
        · simp only [Option.map_none, if_true, cond_true, VR]; exact ⟨_, rfl, by simp only [VRs, VR]; exact ⟨zv, _, rfl, hzv, _, _, rfl, rfl, rfl⟩⟩
      · obtain ⟨en, hen, her1⟩ := her.get m y (by simpa using hy)
        have : (es'.getD m default) = en := by simp [List.getD, hen]
        simp only [Option.map_some, this]
        cases ok
        · exact her1.2.1
        · simp only [if_true, cond_true, VR]; exact ⟨_, rfl, by simp only [VRs, VR]; exact ⟨en.val, _, rfl, her1.2.1, _, _, rfl, rfl, rfl⟩⟩
    split at hv
    · rename_i fv hfv
      split at hfv
      · rename_i hg; cases hfv
      · rename_i b hg
        rw [hg] at rx; simp only [VR] at rx
        obtain ⟨c, hc, hm⟩ := rx
        split at hfv
        · rename_i es clock hmm
          obtain ⟨c', es', hc', ho', her⟩ := hr.map hmm
          rw [hc] at hc'; cases hc'
          obtain ⟨u, h1, h2⟩ := body es es' (some fv) her hfv ⟨some c, hm, clock, ho'⟩
          cases hv
          exact ⟨u, h1, h2⟩
        · cases hfv
      · cases hfv
    · rename_i hfv
      split at hfv
      · rename_i hg
        rw [hg] at rx; simp only [VR] at rx
        obtain ⟨u, h1, h2⟩ := body [] [] none rfl rfl ⟨none, rx, rfl⟩
        cases hv
        exact ⟨u, h1, h2⟩
      · rename_i b hg
        rw [hg] at rx; simp only [VR] at rx
        obtain ⟨c, hc, hm⟩ := rx
        split at hfv
        · rename_i es clock hmm
          obtain ⟨c', es', hc', ho', her⟩ := hr.map hmm
          rw [hc] at hc'; cases hc'
          obtain ⟨u, h1, h2⟩ := body es es' none her hfv ⟨some c, hm, clock, ho'⟩
          cases hv
          exact ⟨u, h1, h2⟩
        · cases hfv
      · cases hfv
    · cases hv
end Go.Ev
end

section
namespace Go.Ev

theorem findB_rel {V : Val} (s : Nat) : ∀ (es : List (AV × AV × Nat)) (es' : List MapEntry) (k v : AV), ERs V es es' → findB s es = some (k, v) → ∃ e, es'.find? (fun e => e.born == s) = some e ∧ VR V k e.key ∧ VR V v e.val := by
  intro es
  induction es with
  | nil => intro es' k v _ h; simp [findB] at h
  | cons x es ih =>
    intro es' k v he h
    obtain ⟨k', v', c⟩ := x
    obtain ⟨e, r', rfl, he1, he2⟩ := he
    simp only [findB] at h
    cases hb : Nat.beq c s with
    | true =>
      rw [hb] at h; simp only [cond_true, Option.some.injEq, Prod.mk.injEq] at h
      have hc := Nat.eq_of_beq_eq_true hb
      have hbo : e.born = c := he1.2.2
      refine ⟨e, by simp [hbo, hc], ?_⟩
      rw [← h.1, ← h.2]; exact ⟨he1.1, he1.2.1⟩
    | false =>
      rw [hb] at h; simp only [cond_false] at h
      obtain ⟨e', h1, h2⟩ := ih r' k v he2 h
      have hbo : e.born = c := he1.2.2
      have hne : (e.born == s) = false := by
        rw [hbo]
        cases hcs : (c == s) with
        | false => rfl
        | true => have := eq_of_beq hcs; subst this; simp at hb
      exact ⟨e', by simp [hne, h1], h2⟩
theorem HR.miter {V : Val} {h : H} {w : World} (r : HR V h w) {b m since st : Nat} {seen : List Nat} (e : h.get b = some (.miter (some m) since seen st)) :
    ∃ c c', V.ρ b = some (c, 0) ∧ w.heap[c]? = some (.mapIter (some c') since ⟨seen.reverse⟩ st) ∧ V.ρ m = some (c', 0) := by
  obtain ⟨c, sh, o, h1, h2, rfl, m', rfl, c', h3, rfl⟩ := r.blk b _ e
  exact ⟨c, c', h1, h2, h3⟩
theorem VS.entry {P : Program} {o : Oper} {x : Operand} {g : Get} (ho : o.op = .entry x) (e : cOpd x = some g) : VS P o (Ev.fEntry g) := by
  intro V n fr a h w v r hr hv
  have rx := cOpd_rel r e
  unfold fEntry at hv
  split at hv
  · rename_i b hg
    rw [hg] at rx; simp only [VR] at rx
    obtain ⟨c, sh, hc, hp⟩ := rx
    split at hv
    · rename_i m since s seen st hb
      obtain ⟨c1, c2, h1, h2, h3⟩ := hr.miter hb
      rw [hc] at h1; cases h1
      split at hv
      · rename_i es clock hm
        obtain ⟨c3, es', h4, h5, her⟩ := hr.map hm
        rw [h3] at h4; cases h4
        cases hcl : Nat.beq clock st with
        | false => rw [hcl] at hv; cases hv
        | true =>
          rw [hcl] at hv; simp only [cond_true] at hv
          have hcs := Nat.eq_of_beq_eq_true hcl
          split at hv
          · rename_i k y hf
            cases hv
            obtain ⟨en, e1, e2, e3⟩ := findB_rel s es es' k y her hf
            have g1 : (getObj c).run P w = .ok (.mapIter (some c2) since ⟨(s :: seen).reverse⟩ st) w := run_getObj h2 (by simp)
            have g2 : (getObj c2).run P w = .ok (.map ⟨es'⟩ clock) w := run_getObj h5 (by simp)
            have hback : (⟨(s :: seen).reverse⟩ : Array Nat).back? = some s := by simp
            have hfind : (⟨es'⟩ : Array MapEntry).find? (fun e => e.born == s) = some en := by simpa using e1
            refine ⟨.tuple #[en.key, en.val], ?_, by simp only [VR]; exact ⟨_, rfl, by simp only [VRs]; exact ⟨_, _, rfl, e2, _, _, rfl, e3, rfl⟩⟩⟩
            have hp' : a.eval x = .pointer (some ⟨c, 0, none⟩) := hp
            simp only [execOp, ho, Instr.entry, hp', Sem.run_bind, g1, Result.andThen_ok, hback, g2, hcs, bne_self_eq_false, Bool.false_eq_true, if_false, hfind, Sem.run_pure]
          · cases hv
      · cases hv
    · cases hv
  · cases hv

/-! bytes to a string -/
theorem bytesPack_rel {V : Val} : ∀ (l : List AV) (acc n : Nat), bytesPack l acc = some n → ∃ bs : List Nat, small bs ∧ bs.length = l.length ∧ n = packL bs acc ∧ ∀ us, VRs V l us → us = bs.map fun b => Value.int .u8 (Int.ofNat b) := by
  intro l
  induction l with
  | nil => intro acc n h; simp only [bytesPack, Option.some.injEq] at h; exact ⟨[], by simp [small], rfl, h.symm, fun us hu => by simp only [VRs] at hu; simp [hu]⟩
  | cons x r ih =>
    intro acc n h
    unfold bytesPack at h
    split at h
    · rename_i heq; cases heq
    · rename_i b r' heq
      cases heq
      cases hb : Nat.blt b 256 with
      | false => rw [hb] at h; cases h
      | true =>
        rw [hb] at h; simp only [cond_true] at h
        obtain ⟨bs, h1, h2, h3, h4⟩ := ih _ n h
        have hlt : b < 256 := Nat.le_of_ble_eq_true hb
        refine ⟨b :: bs, ?_, by simp [h2], by simp only [packL]; exact h3, fun us hu => ?_⟩
        · intro y hy
          rcases List.mem_cons.1 hy with rfl | hy
          · exact hlt
          · exact h1 y hy
        · simp only [VRs] at hu
          obtain ⟨v, r', rfl, hv, hr⟩ := hu
          simp only [VR] at hv; subst hv
          simp [h4 _ hr]
    · cases h
def bytesOfL (bs : List Nat) : ByteArray := ⟨⟨bs.map UInt8.ofNat⟩⟩
theorem bytesOfL_SR {bs : List Nat} (h : small bs) : SR bs.length (packL bs 0) (bytesOfL bs) := by
  have : bytesN (bytesOfL bs) = bs := by
    unfold bytesN bytesOfL
    simp only [List.map_map]
    conv => rhs; rw [← List.map_id bs]
    apply List.map_congr_left
    intro b hb
    have := h b hb
    simp [UInt8.toNat_ofNat', Nat.mod_eq_of_lt this]
  constructor
  · rw [this]
  · rw [this]
theorem foldl_push (bs : List Nat) : ∀ (s : ByteArray), (bs.map fun b => Int.ofNat b).foldl (fun r n => r.push (UInt8.ofNat n.toNat)) s = ⟨s.data ++ ⟨bs.map UInt8.ofNat⟩⟩ := by
  induction bs with
  | nil => intro s; simp
  | cons b r ih => intro s; simp only [List.map_cons, List.foldl_cons]; rw [ih]; simp [ByteArray.push]
theorem foldl_push0 (bs : List Nat) : (bs.map fun b => Int.ofNat b).foldl (fun r n => r.push (UInt8.ofNat n.toNat)) ByteArray.empty = bytesOfL bs := by
  rw [foldl_push]
  have : ByteArray.empty.data = #[] := rfl
  rw [this]; unfold bytesOfL
  congr 1
  apply Array.ext'; simp
theorem VS.bytesToStr {P : Program} {o : Oper} {sT dT el : Nat} {x : Operand} {g : Get} (ho : o.op = .convert sT dT x) (e : cOpd x = some g) (hs : P.underlying sT = some (.slice el)) (he : P.underlying el = some (.int .u8)) (hd : P.underlying dT = some .string) :
    VS P o (Ev.fBytesToStr g) := by
  intro V n fr a h w v r hr hv
  have rx := cOpd_rel r e
  unfold fBytesToStr at hv
  split at hv
  · rename_i hg
    rw [hg] at rx; simp only [VR] at rx
    cases hv
    refine ⟨.string .empty, ?_, by simp only [VR]; exact ⟨_, rfl, by constructor <;> rfl⟩⟩
    simp only [execOp, ho, rx, Sem.run_bind, run_convert_bytes_string w sT dT el none 0 0 hs he hd, Conv.bytesToString, Sem.run_pure, Result.andThen_ok]
  · rename_i b off len cap ex hg
    rw [hg] at rx; simp only [VR] at rx
    obtain ⟨c, sh, cap', hc, hp, _⟩ := rx
    split at hv
    · rename_i l hl
      split at hv
      · rename_i m hm
        cases hv
        obtain ⟨h1, h2⟩ := hr.read hc hl
        obtain ⟨us, hus, hvr, _⟩ := run_loadCells (P := P) w c (sh + off) l h2
        obtain ⟨bs, b1, b2, b3, b4⟩ := bytesPack_rel (V := V) l 0 m hm
        have hue := b4 us hvr
        rw [h1] at hus
        have hns : us = (bs.map fun b => Int.ofNat b).map (Value.int .u8) := by rw [hue, List.map_map]; rfl
        have hrun := run_bytesToString (P := P) w ⟨c, sh + off, none⟩ len cap' (bs.map fun b => Int.ofNat b) (by rw [hus, hns])
        refine ⟨.string (bytesOfL bs), ?_, by simp only [VR]; exact ⟨_, rfl, by rw [b3, ← h1, ← b2]; exact bytesOfL_SR b1⟩⟩
        simp only [execOp, ho, hp, Sem.run_bind, run_convert_bytes_string w sT dT el _ _ _ hs he hd, hrun, Result.andThen_ok, Sem.run_pure, foldl_push0]
      · cases hv
    · cases hv
  · cases hv
end Go.Ev
end

section
namespace Go.Ev

theorem run_shape (P : Program) (w : World) (r : Nat) : (shape r).run P w = .ok (w.shape? r) w := rfl
theorem run_program (P : Program) (w : World) : program.run P w = .ok P w := rfl
theorem HR.cells {V : Val} {h : H} {w : World} (r : HR V h w) {b el : Nat} {l : List AV} {anc : List Nat} {st : St} (e : h.get b = some (.cells el l anc st)) :
    ∃ c sh cs fz, V.ρ b = some (c, sh) ∧ w.heap[c]? = some (.cells cs el fz) ∧ CRs V l (cs.toList.drop sh) ∧ (st.wr = true → ∀ i, i < cs.size → ¬ (fz.1 ≤ i ∧ i < fz.2)) ∧ (st = .op → sh = 0) ∧ (l ≠ [] → sh + l.length ≤ cs.size) := by
  obtain ⟨c, sh, o, h1, h2, cs, fz, rfl, h3, h4, h5⟩ := r.blk b _ e
  refine ⟨c, sh, cs, fz, h1, h2, h3, h4, fun hs => by subst hs; exact h5, fun hl => ?_⟩
  have : 0 < l.length := List.length_pos_iff.2 hl
  obtain ⟨u, hu, _⟩ := h3 (l.length - 1) (l[l.length - 1]'(by omega)) (List.getElem?_eq_getElem _)
  have : l.length - 1 < (cs.toList.drop sh).length := by
    rcases Nat.lt_or_ge (l.length - 1) (cs.toList.drop sh).length with h | h
    · exact h
    · rw [List.getElem?_eq_none h] at hu; cases hu
  simp at this; omega
theorem shape_cells {w : World} {c : Nat} {cs : Array Value} {el : Nat} {fz : Nat × Nat} (h : w.heap[c]? = some (.cells cs el fz)) : w.shape? c = some (el, cs.size) := by simp [World.shape?, h]
theorem run_seenAt {P : Program} {w : World} {c o : Nat} {cs : Array Value} {el : Nat} {fz : Nat × Nat} (h : w.heap[c]? = some (.cells cs el fz)) : (Conv.seenAt ⟨c, o, none⟩).run P w = .ok ⟨c, o, none⟩ w := by
  simp [Conv.seenAt, viewAt, shape_cells h]
theorem VS.toUnsafe {P : Program} {o : Oper} {sT dT el : Nat} {x : Operand} {g : Get} {ei : TI} (ho : o.op = .convert sT dT x) (e : cOpd x = some g) (hs : P.underlying sT = some (.pointer el)) (hd : P.underlying dT = some .unsafePointer) (ti : TIS P el ei) (h0 : ei.size ≠ 0) :
    VS P o (Ev.fToUnsafe g) := by
  intro V n fr a h w v r hr hv
  have rx := cOpd_rel r e
  have red : ∀ p, a.eval x = .pointer p → (execOp a.eval o).run P w = (do pure (Next.value (← Conv.unsafePointer sT dT (.pointer p))) : Sem Next).run P w := by
    intro p hp
    simp only [execOp, ho, hp, convert, Sem.run_bind, run_underlying hs, run_underlying hd, Result.andThen_ok]
  unfold fToUnsafe at hv
  split at hv
  · rename_i hg
    rw [hg] at rx; simp only [VR] at rx
    cases hv
    refine ⟨.pointer none, ?_, by simp [VR]⟩
    rw [red _ rx]
    simp only [Conv.unsafePointer, Sem.run_bind, run_underlying hs, run_underlying hd, Result.andThen_ok, Sem.run_pure]
  · rename_i b off hg
    rw [hg] at rx; simp only [VR] at rx
    obtain ⟨c, sh, hc, hp⟩ := rx
    split at hv
    · rename_i el' l anc st hb
      cases hlt : Nat.blt off l.length with
      | false => rw [hlt] at hv; cases hv
      | true =>
        rw [hlt] at hv; cases hv
        have hlt := Nat.le_of_ble_eq_true hlt
        obtain ⟨c', sh', cs, fz, h1, h2, _, _, _, h6⟩ := hr.cells hb
        rw [hc] at h1; cases h1
        have hsz := h6 (by intro h; subst h; simp at hlt)
        refine ⟨.pointer (some ⟨c, sh + off, none⟩), ?_, by simp only [VR]; exact ⟨c, sh, hc, rfl⟩⟩
        rw [red _ hp]
        have hcells : (cellsIn c).run P w = .ok (some cs.size) w := by simp [cellsIn, shape_cells h2]
        have hno : (decide (ei.size = 0) || (decide (sh + off ≥ cs.size) && (none : Option Nat).isNone)) = false := by
          simp [h0]; omega
        simp only [Conv.unsafePointer, Sem.run_bind, run_underlying hs, run_underlying hd, Result.andThen_ok, run_seenAt h2, hcells, ti.run_size]
        rw [if_neg (by simp [h0]; omega)]
        simp only [Sem.run_pure, Result.andThen_ok]
    · cases hv
  · cases hv
theorem sameLayout_refl (P : Program) (n t : Nat) : sameLayout P (n + 1) t t = true := by simp [sameLayout]
theorem liesAt_self (P : Program) {t off n cells size : Nat} (hs : P.cellsOf t = size) (h0 : size ≠ 0) (hd : off % size = 0) (hn : off + n * size ≤ cells) : liesAt P P.depth t (cells / size) off t n = true := by
  have e : P.depth = (2 * (P.types.size + Made.depth) + 1) + 1 := rfl
  have hrow : rowAt P (sameLayout P P.depth · t) P.depth t (cells / size) off n = true := by
    rw [e]
    have hpos : 0 < size := Nat.pos_of_ne_zero h0
    have hle : off / size + n ≤ cells / size := by
      rw [Nat.le_div_iff_mul_le hpos, Nat.add_mul]
      have := Nat.div_add_mod off size
      rw [hd, Nat.add_zero, Nat.mul_comm] at this
      omega
    simp only [rowAt, hs, if_neg h0, hd, sameLayout_refl, beq_self_eq_true, Bool.and_true, hle, decide_true, Bool.true_or]
  rw [e] at hrow ⊢
  simp only [liesAt]
  rw [e, hrow]; rfl
theorem TIS.cellsOf {P : Program} {t : Nat} {i : TI} (s : TIS P t i) : P.cellsOf t = i.size := by
  obtain ⟨x, hx, hs, _⟩ := s.info
  simp [Program.cellsOf, hx, hs]
theorem run_variablesAt {P : Program} {w : World} {c o n u size : Nat} {cs : Array Value} {fz : Nat × Nat} (h : w.heap[c]? = some (.cells cs u fz)) (hs : P.cellsOf u = size) (h0 : size ≠ 0) (hd : o % size = 0) (hn : o + n * size ≤ cs.size) :
    (variablesAt ⟨c, o, none⟩ u n).run P w = .ok true w := by
  simp only [variablesAt, Sem.run_bind, run_program, run_shape, shape_cells h, Result.andThen_ok, Sem.run_pure, hs, liesAt_self P hs h0 hd hn]
theorem VS.ofUnsafe {P : Program} {o : Oper} {sT dT el : Nat} {x : Operand} {g : Get} {ei : TI} (ho : o.op = .convert sT dT x) (e : cOpd x = some g) (hs : P.underlying sT = some .unsafePointer) (hd : P.underlying dT = some (.pointer el)) (ti : TIS P el ei) (h0 : ei.size ≠ 0) :
    VS P o (Ev.fOfUnsafe el ei.size g) := by
  intro V n fr a h w v r hr hv
  have rx := cOpd_rel r e
  have red : ∀ p, a.eval x = .pointer p → (execOp a.eval o).run P w = (do pure (Next.value (← Conv.unsafePointer sT dT (.pointer p))) : Sem Next).run P w := by
    intro p hp
    simp only [execOp, ho, hp, convert, Sem.run_bind, run_underlying hs, run_underlying hd, Result.andThen_ok]
  unfold fOfUnsafe at hv
  split at hv
  · rename_i hg
    rw [hg] at rx; simp only [VR] at rx
    cases hv
    refine ⟨.pointer none, ?_, by simp [VR]⟩
    rw [red _ rx]
    simp only [Conv.unsafePointer, Sem.run_bind, run_underlying hs, run_underlying hd, Result.andThen_ok, Sem.run_pure]
  · rename_i b off hg
    rw [hg] at rx; simp only [VR] at rx
    obtain ⟨c, sh, hc, hp⟩ := rx
    split at hv
    · rename_i el' l anc hb
      cases hcond : (Nat.beq el' el && Nat.beq (Nat.mod off ei.size) 0 && Nat.ble (Nat.add off ei.size) l.length) with
      | false => rw [hcond] at hv; cases hv
      | true =>
        rw [hcond] at hv; cases hv
        simp only [Bool.and_eq_true] at hcond
        obtain ⟨⟨q1, q2⟩, q3⟩ := hcond
        have q1 := Nat.eq_of_beq_eq_true q1; subst q1
        have q2 : off % ei.size = 0 := Nat.eq_of_beq_eq_true q2
        have q3 : off + ei.size ≤ l.length := Nat.le_of_ble_eq_true q3
        obtain ⟨c', sh', cs, fz, h1, h2, _, _, h5, h6⟩ := hr.cells hb
        rw [hc] at h1; cases h1
        have hsh := h5 rfl
        subst hsh
        have hsz := h6 (by intro h; subst h; simp at q3; omega)
        refine ⟨.pointer (some ⟨c, 0 + off, none⟩), ?_, by simp only [VR]; exact ⟨c, 0, hc, rfl⟩⟩
        rw [red _ hp]
        have hva := run_variablesAt (P := P) (n := 1) (o := 0 + off) h2 ti.cellsOf h0 (by simpa using q2) (by omega)
        simp only [Conv.unsafePointer, Sem.run_bind, run_underlying hs, run_underlying hd, Result.andThen_ok, run_seenAt h2, ti.run_size]
        simp only [h0, decide_false, hva, Result.andThen_ok, Bool.false_or, if_true, Sem.run_pure]
    · cases hv
  · cases hv
end Go.Ev
end
