/- The evaluator's operations with an effect agree with the model's. -/
import Derived.Test.YtjeobamlafahaaaGreatDoorEvB
import Derived.Laws.MakeOwn
import Derived.Laws.RangeString
import Derived.Deep.AppendSrc
import Derived.Room.Entries
import Derived.Deep.Upon

section
namespace Go.Ev

/-- an operation that changes the heap -/
def XS (P : Program) (o : Oper) (F : Op1) (p : Put) : Prop := ∀ (V : Val) (n : Nat) (fr : Fr) (a : Act) (h : H) (w : World) (call : Call), FS V n fr a.tmps → HR V h w →
  (∀ v fr' h', F call fr h ≠ .pan v fr' h') ∧
  ∀ fr' h', F call fr h = .ok fr' h' → ∃ v nx V' w', fr' = p.run v fr ∧ (execOp a.eval o).run P w = .ok nx w' ∧ HR V' h' w' ∧ Ext V h w V' h' w' ∧ ((∃ u, nx = .value u ∧ VR V' v u) ∨ (nx = .skip ∧ v = .unk))

theorem alloc_ok {h h' : H} {x : AB} {k : Nat} {K : Nat → H → ORes} {fr' : Fr} (e : h.alloc x (.fail k) K = .ok fr' h') : h.nx ≠ 0 ∧ K h.nx (h.new x) = .ok fr' h' := by
  rw [H.alloc_eq] at e
  by_cases h0 : h.nx = 0
  · rw [if_pos h0] at e; cases e
  · rw [if_neg h0] at e; exact ⟨h0, e⟩
theorem alloc_pan {h h' : H} {x : AB} {k : Nat} {K : Nat → H → ORes} {v : AV} {fr' : Fr} (e : h.alloc x (.fail k) K = .pan v fr' h') : K h.nx (h.new x) = .pan v fr' h' := by
  rw [H.alloc_eq] at e
  by_cases h0 : h.nx = 0
  · rw [if_pos h0] at e; cases e
  · rw [if_neg h0] at e; exact e
theorem run_newObj (P : Program) (w : World) (o : Obj) : (newObj o).run P w = .ok w.heap.size { w with heap := w.heap.push o } := rfl

/-- a row of values as cells of a new block -/
theorem CRs.of_list {V : Val} : ∀ {l : List AV} {us : List Value}, VRs V l us → (∀ u ∈ us, u.oneCell' = true) → CRs V l us := by
  intro l us h h1 i x hx
  obtain ⟨u, hu, hv⟩ := h.get i x hx
  exact ⟨u, hu, hv, h1 u (List.mem_of_getElem? hu)⟩
theorem CRs.of_prefix {V : Val} {l : List AV} {us r : List Value} (h : VRs V l us) (h1 : ∀ u ∈ us, u.oneCell' = true) : CRs V l (us ++ r) := by
  intro i x hx
  obtain ⟨u, hu, hv⟩ := h.get i x hx
  refine ⟨u, ?_, hv, h1 u (List.mem_of_getElem? hu)⟩
  have : i < us.length := by
    rcases Nat.lt_or_ge i us.length with h | h
    · exact h
    · rw [List.getElem?_eq_none h] at hu; cases hu
  rw [List.getElem?_append_left this]; exact hu

/-! the bytes of a string -/
theorem strBytes_go' : ∀ (rs : List Nat) (acc : List AV), small rs.reverse → strBytes (packL rs.reverse 0) rs.reverse.length acc = rs.reverse.map (fun b => AV.int .u8 (Int.ofNat b)) ++ acc := by
  intro rs
  induction rs with
  | nil => intro acc _; rfl
  | cons b q ih =>
    intro acc hs
    rw [List.reverse_cons] at hs ⊢
    generalize q.reverse = r at *
    have hb : b < 256 := hs b (by simp)
    have hr : small r := fun x hx => hs x (by simp [hx])
    have hp : packL (r ++ [b]) 0 = packL r 0 * 256 + b := by rw [packL_append]; simp [packL]
    rw [List.length_append, List.length_singleton]
    simp only [strBytes]
    have e1 : Nat.land (packL (r ++ [b]) 0) 255 = b := by
      show (packL (r ++ [b]) 0) &&& 255 = b
      rw [show (255 : Nat) = 2 ^ 8 - 1 from rfl, Nat.and_two_pow_sub_one_eq_mod, hp]; omega
    have e2 : Nat.shiftRight (packL (r ++ [b]) 0) 8 = packL r 0 := by
      show (packL (r ++ [b]) 0) >>> 8 = _
      rw [Nat.shiftRight_eq_div_pow, hp]; omega
    rw [e1, e2, ih _ hr]; simp
theorem strBytes_go (bs : List Nat) (acc : List AV) (h : small bs) : strBytes (packL bs 0) bs.length acc = bs.map (fun b => AV.int .u8 (Int.ofNat b)) ++ acc := by
  have := strBytes_go' bs.reverse acc
  rw [List.reverse_reverse] at this
  exact this h
theorem strBytes_rel {len n : Nat} {s : ByteArray} (h : SR len n s) (V : Val) : VRs V (strBytes n len []) (s.data.toList.map fun b => Value.int .u8 b.toNat) ∧ (strBytes n len []).length = len := by
  have e := strBytes_go (bytesN s) [] (small_bytesN s)
  rw [h.1, h.2] at e
  rw [e]
  refine ⟨?_, by simp [h.1]⟩
  simp only [List.append_nil, bytesN, List.map_map]
  refine VRs.of_get (by simp) fun i x u hx hu => ?_
  simp only [List.getElem?_map] at hx hu
  cases hb : s.data.toList[i]? with
  | none => rw [hb] at hx; simp at hx
  | some b =>
    rw [hb] at hx hu
    simp only [Option.map_some, Option.some.injEq] at hx hu
    subst hx; subst hu
    simp [VR]
theorem XS.strToBytes {P : Program} {o : Oper} {sT dT el : Nat} {x : Operand} {g : Get} {p : Put} (ho : o.op = .convert sT dT x) (e : cOpd x = some g) (hs : P.underlying sT = some .string) (hd : P.underlying dT = some (.slice el)) (he : P.underlying el = some (.int .u8)) :
    XS P o (Ev.xStrToBytes el g p) p := by
  intro V n fr a h w call r hr
  have rx := cOpd_rel r e
  constructor
  · intro v fr' h' hp
    unfold xStrToBytes at hp
    split at hp
    · have := alloc_pan hp; cases this
    · cases hp
  · intro fr' h' hp
    unfold xStrToBytes at hp
    split at hp
    · rename_i len m hg
      rw [hg] at rx; simp only [VR] at rx
      obtain ⟨s, hsv, hsr⟩ := rx
      obtain ⟨_, hp⟩ := alloc_ok hp
      cases hp
      obtain ⟨b1, b2⟩ := strBytes_rel hsr V
      have hsz := hsr.size
      -- the capacity
      let cap := (Question.appendCap s.size 0 el).cut (w.tape w.drawn (.appendCap s.size 0 el))
      have hcap : s.size ≤ cap := Nat.le_add_right _ _
      let us : List Value := s.data.toList.map fun b => Value.int .u8 b.toNat
      let cells : Array Value := (s.data.map fun b => Value.int .u8 b.toNat) ++ Array.replicate (cap - s.size) (.int .u8 0)
      have hcl : cells.toList = us ++ List.replicate (cap - s.size) (.int .u8 0) := by simp [cells, us]
      have husl : us.length = s.size := by simp [us]
      have hcs : cells.size = cap := by rw [← Array.length_toList, hcl, List.length_append, husl, List.length_replicate]; omega
      let w1 : World := { w with drawn := w.drawn + 1 }
      have hone : ∀ u ∈ us, u.oneCell' = true := by intro u hu; obtain ⟨b, _, rfl⟩ := List.mem_map.1 hu; rfl
      have hbr : BR (V.bind h.nx (w1.heap.size, 0) (objCells (.cells cells el (cells.size, cells.size + 1)))) (.cells el (strBytes m len []) [] .op) 0 (.cells cells el (cells.size, cells.size + 1)) := by
        refine ⟨cells, _, rfl, ?_, fun _ i hi h => by simp only at h; omega, rfl⟩
        rw [List.drop_zero, hcl]
        exact CRs.of_prefix (strBytes_rel hsr _).1 hone
      refine ⟨.slc h.nx 0 len len 1, .value (.slice (some ⟨w.heap.size, 0, none⟩) s.size cap), V.bind h.nx (w1.heap.size, 0) (objCells (.cells cells el (cells.size, cells.size + 1))), _, rfl, ?_, HR.alloc (hr.drew _) _ _ rfl hbr, (Ext.drew V _ w _).trans (Ext.alloc (hr.drew _) _ _), .inl ⟨_, rfl, ?_⟩⟩
      · have hfz : (World.freeze { w1 with heap := w1.heap.push (.cells cells el) } { block := w1.heap.size, off := cells.size } 1) = { w1 with heap := w1.heap.push (.cells cells el (cells.size, cells.size + 1)) } := by
          unfold World.freeze
          simp only [Nat.succ_ne_zero, if_false]
          congr 1
          apply Array.ext
          · simp
          · intro i h1 h2
            simp only [Array.getElem_modify]
            by_cases hi : w1.heap.size = i
            · subst hi; simp
            · rw [if_neg hi]
              have : i < w1.heap.size := by simp at h2; omega
              simp [Array.getElem_push, this]
        have hsh : World.shape? { w1 with heap := w1.heap.push (.cells cells el) } w1.heap.size = some (el, cells.size) := by simp [World.shape?]
        have hrun : (Conv.stringToBytes el s).run P w = .ok (.slice (some ⟨w1.heap.size, 0, none⟩) s.size cap) { w1 with heap := w1.heap.push (.cells cells el (cells.size, cells.size + 1)) } := by
          have hch : (choose (.appendCap s.size 0 el)).run P w = .ok cap w1 := rfl
          have hrow : (newRow el cells).run P w1 = .ok ⟨w1.heap.size, 0, none⟩ { w1 with heap := w1.heap.push (.cells cells el) } := rfl
          have hmk : (markStringish ⟨w1.heap.size, 0, none⟩).run P { w1 with heap := w1.heap.push (.cells cells el) } = .ok () { w1 with heap := w1.heap.push (.cells cells el (cells.size, cells.size + 1)) } := by
            simp only [markStringish, Sem.run_bind, run_shape, hsh, Result.andThen_ok]
            show Result.ok () (World.freeze _ _ _) = _
            rw [hfz]
          simp only [Conv.stringToBytes, Sem.run_bind, hch, Result.andThen_ok]
          simp only [show (Array.map (fun b => Value.int .u8 b.toNat) s.data ++ Array.replicate (cap - s.size) (Value.int .u8 0)) = cells from rfl, hrow, Result.andThen_ok, hmk, Sem.run_pure]
        simp only [execOp, ho, hsv, convert, Sem.run_bind, run_underlying hs, run_underlying hd, run_underlying he, Result.andThen_ok, hrun, Sem.run_pure]
        rfl
      · simp only [VR]
        refine ⟨w.heap.size, 0, cap, Val.bind_self .., by rw [hsz], by omega, (fun h => by cases h), fun _ => ?_⟩
        simp [Val.bind, objCells, w1, hcs]
    · cases hp
end Go.Ev
end

section
namespace Go.Ev

/-! new blocks -/
def NS (P : Program) (o : Oper) (f : NF) (mk : Nat → AV) : Prop := ∀ (V : Val) (n : Nat) (fr : Fr) (a : Act) (h : H) (w : World) (x : AB), FS V n fr a.tmps → HR V h w → f fr h = some x →
  x.anc = [] ∧ ∃ ob u, (execOp a.eval o).run P w = .ok (.value u) { w with heap := w.heap.push ob } ∧ (∀ V', V.le V' → BR V' x 0 ob) ∧
    ∀ V' b, V'.ρ b = some (w.heap.size, 0) → VR V' (mk b) u
theorem NS.xs {P : Program} {o : Oper} {f : NF} {mk : Nat → AV} {p : Put} (s : NS P o f mk) : XS P o (Ev.runNew f mk p) p := by
  intro V n fr a h w call r hr
  constructor
  · intro v fr' h' hp
    unfold runNew at hp
    split at hp
    · have := alloc_pan hp; cases this
    · cases hp
  · intro fr' h' hp
    unfold runNew at hp
    split at hp
    · rename_i x hx
      obtain ⟨_, hp⟩ := alloc_ok hp
      cases hp
      obtain ⟨h1, ob, u, h2, h3, h4⟩ := s V n fr a h w x r hr hx
      have hle : V.le (V.bind h.nx (w.heap.size, 0) (objCells ob)) := (Ext.alloc hr x ob).le
      exact ⟨_, _, _, _, rfl, h2, HR.alloc hr x ob h1 (h3 _ hle), Ext.alloc hr x ob, .inl ⟨u, rfl, h4 _ _ (Val.bind_self ..)⟩⟩
    · cases hp
theorem NS.of_row {P : Program} {o : Oper} {el : Nat} {f : NF} 
    (s : ∀ (V : Val) (n : Nat) (fr : Fr) (a : Act) (h : H) (w : World) (x : AB), FS V n fr a.tmps → HR V h w → f fr h = some x → ∃ l us, x = .cells el l [] .op ∧ VRs V l us ∧ (∀ u ∈ us, u.oneCell' = true) ∧
      (execOp a.eval o).run P w = .ok (.value (.pointer (some ⟨w.heap.size, 0, none⟩))) { w with heap := w.heap.push (.cells ⟨us⟩ el) }) : NS P o f (fun id => .ptr id 0) := by
  intro V n fr a h w x r hr hx
  obtain ⟨l, us, rfl, h1, h2, h3⟩ := s V n fr a h w x r hr hx
  refine ⟨rfl, _, _, h3, fun V' hle => ⟨⟨us⟩, _, rfl, ?_, fun _ i _ h => by simp only at h; omega, rfl⟩, fun V' b hb => by simp only [VR]; exact ⟨_, _, hb, rfl⟩⟩
  rw [List.drop_zero]
  exact CRs.of_list (VRs.mono hle l us h1) h2
theorem NS.alloc {P : Program} {o : Oper} {t : Nat} {i : TI} {z : List AV} (ho : o.op = .alloc t) (ti : TIS P t i) (hz : i.z = some z) : NS P o (Ev.nAlloc t z) (fun id => .ptr id 0) := by
  refine NS.of_row (el := t) fun V n fr a h w x r hr hx => ?_
  simp only [nAlloc, Option.some.injEq] at hx
  obtain ⟨v, l, h1, h2, h3, h4, _⟩ := ti.run_zero w hz V
  refine ⟨z, l, hx.symm, h3, h4, ?_⟩
  simp only [execOp, ho, Instr.alloc, Sem.run_bind, h1, Result.andThen_ok, newVar, newRow, h2, run_newObj, Sem.run_pure]
theorem NS.box {P : Program} {o : Oper} {t : Nat} {x : Operand} {g : Get} (ho : o.op = .box t x) (e : cOpd x = some g) : NS P o (Ev.nBox t g) (fun id => .ptr id 0) := by
  refine NS.of_row (el := t) fun V n fr a h w y r hr hx => ?_
  have rx := cOpd_rel r e
  unfold nBox at hx
  split at hx
  · rename_i l hl
    cases hx
    obtain ⟨us, h1, h2, h3⟩ := cellsOf_rel rx hl
    refine ⟨l, us, rfl, h2, h3, ?_⟩
    simp only [execOp, ho, Instr.box, Sem.run_bind, newVar, newRow, h1, run_newObj, Result.andThen_ok, Sem.run_pure]
  · cases hx
theorem lrep_length (z : List AV) : ∀ n, (lrep z n).length = n * z.length := by
  intro n
  induction n with
  | zero => simp [lrep]
  | succ n ih => simp [lrep, ih, Nat.add_mul]; omega
theorem lrep_get (z : List AV) : ∀ n i, i < n * z.length → (lrep z n)[i]? = z[i % z.length]? := by
  intro n
  induction n with
  | zero => intro i h; simp at h
  | succ n ih =>
    intro i h
    rw [Nat.add_mul, Nat.one_mul] at h
    simp only [lrep]
    rcases Nat.lt_or_ge i z.length with h1 | h1
    · rw [List.getElem?_append_left h1, Nat.mod_eq_of_lt h1]
    · rw [List.getElem?_append_right h1, ih _ (by omega), ← Nat.mod_eq_sub_mod h1]
theorem VRs.rep {V : Val} {z : List AV} {zl : List Value} (h : VRs V z zl) (h1 : ∀ u ∈ zl, u.oneCell' = true) (n : Nat) :
    VRs V (lrep z n) ((Array.range (n * z.length)).map ((⟨zl⟩ : Array Value)[· % (⟨zl⟩ : Array Value).size]!)).toList ∧ ∀ u ∈ ((Array.range (n * z.length)).map ((⟨zl⟩ : Array Value)[· % (⟨zl⟩ : Array Value).size]!)).toList, u.oneCell' = true := by
  have hl := h.length
  have get : ∀ i, i < n * z.length → ∃ x u, z[i % z.length]? = some x ∧ (⟨zl⟩ : Array Value)[i % (⟨zl⟩ : Array Value).size]! = u ∧ zl[i % z.length]? = some u ∧ VR V x u := by
    intro i hi
    have hz : 0 < z.length := by
      rcases Nat.eq_zero_or_pos z.length with h0 | h0
      · rw [h0] at hi; simp at hi
      · exact h0
    have hm : i % z.length < z.length := Nat.mod_lt _ hz
    obtain ⟨u, hu, hv⟩ := h.get (i % z.length) (z[i % z.length]'hm) (List.getElem?_eq_getElem hm)
    refine ⟨_, u, List.getElem?_eq_getElem hm, ?_, hu, hv⟩
    have : (⟨zl⟩ : Array Value).size = z.length := hl
    rw [this]
    simp [getElem!_def, hu]
  constructor
  · refine VRs.of_get (by simp [lrep_length]) fun i x u hx hu => ?_
    have hi : i < n * z.length := by
      rcases Nat.lt_or_ge i (lrep z n).length with h2 | h2
      · rwa [lrep_length] at h2
      · rw [List.getElem?_eq_none h2] at hx; cases hx
    rw [lrep_get z n i hi] at hx
    obtain ⟨x', u', e1, e2, e3, e4⟩ := get i hi
    rw [e1] at hx; cases hx
    rw [Array.getElem?_toList, Array.getElem?_map, Array.getElem?_range] at hu
    simp only [hi, if_true, Option.map_some, Option.some.injEq] at hu
    rw [e2] at hu; subst hu; exact e4
  · intro u hu
    obtain ⟨i, hi⟩ := List.mem_iff_getElem?.1 hu
    rw [Array.getElem?_toList, Array.getElem?_map, Array.getElem?_range] at hi
    split at hi
    · rename_i hlt
      obtain ⟨x', u', e1, e2, e3, e4⟩ := get i hlt
      simp only [Option.map_some, Option.some.injEq] at hi
      rw [e2] at hi; subst hi
      exact h1 _ (List.mem_of_getElem? e3)
    · cases hi
theorem NS.map {P : Program} {o : Oper} {t : Nat} (ho : o.op = .makeMap t none) : NS P o Ev.nMap (fun id => .map id) := by
  intro V n fr a h w x r hr hx
  simp only [nMap, Option.some.injEq] at hx
  subst hx
  refine ⟨rfl, .map #[] 0, .map (some w.heap.size), ?_, fun V' _ => ⟨rfl, [], rfl, rfl⟩, fun V' b hb => by simp only [VR]; exact ⟨_, hb, rfl⟩⟩
  simp only [execOp, ho, Instr.makeMap, Option.map_none, Sem.run_bind, run_newObj, Result.andThen_ok, Sem.run_pure]
theorem NS.rangeS {P : Program} {o : Oper} {t : Nat} {x : Operand} {g : Get} (ho : o.op = .range t x) (e : cOpd x = some g) (hu : P.underlying t = some .string) : NS P o (Ev.nRangeS g) (fun id => .ptr id 0) := by
  intro V n fr a h w y r hr hx
  have rx := cOpd_rel r e
  unfold nRangeS at hx
  split at hx
  · rename_i len m hg
    rw [hg] at rx; simp only [VR] at rx
    obtain ⟨s, hs, hsr⟩ := rx
    cases hx
    refine ⟨rfl, .stringIter s 0, .pointer (some ⟨w.heap.size, 0, none⟩), ?_, fun V' _ => ⟨rfl, s, rfl, hsr⟩, fun V' b hb => by simp only [VR]; exact ⟨_, _, hb, rfl⟩⟩
    simp only [execOp, ho, Instr.range, hs, Sem.run_bind, run_underlying hu, Result.andThen_ok, Sem.run_pure, run_newObj]
  · cases hx
theorem NS.rangeM {P : Program} {o : Oper} {t kt et : Nat} {x : Operand} {g : Get} (ho : o.op = .range t x) (e : cOpd x = some g) (hu : P.underlying t = some (.map kt et)) : NS P o (Ev.nRangeM g) (fun id => .ptr id 0) := by
  intro V n fr a h w y r hr hx
  have rx := cOpd_rel r e
  unfold nRangeM at hx
  split at hx
  · rename_i hg
    rw [hg] at rx; simp only [VR] at rx
    cases hx
    refine ⟨rfl, .mapIter none 0 #[] 0, .pointer (some ⟨w.heap.size, 0, none⟩), ?_, fun V' _ => ⟨rfl, none, rfl, rfl⟩, fun V' b hb => by simp only [VR]; exact ⟨_, _, hb, rfl⟩⟩
    simp only [execOp, ho, Instr.range, rx, Sem.run_bind, run_underlying hu, Result.andThen_ok, Sem.run_pure, run_newObj]
  · rename_i b hg
    rw [hg] at rx; simp only [VR] at rx
    obtain ⟨c, hc, hm⟩ := rx
    split at hx
    · rename_i es clock hb
      cases hx
      obtain ⟨c', es', hc', ho', her⟩ := hr.map hb
      rw [hc] at hc'; cases hc'
      have hg' : (getObj c).run P w = .ok (.map ⟨es'⟩ clock) w := run_getObj ho' (by simp)
      refine ⟨rfl, .mapIter (some c) clock #[] clock, .pointer (some ⟨w.heap.size, 0, none⟩), ?_, fun V' hle => ⟨rfl, some c, rfl, c, hle.ρ _ _ hc, rfl⟩, fun V' b hb => by simp only [VR]; exact ⟨_, _, hb, rfl⟩⟩
      simp only [execOp, ho, Instr.range, hm, Sem.run_bind, run_underlying hu, Result.andThen_ok, Sem.run_pure, run_newObj, hg']
    · cases hx
  · cases hx
theorem NS.buildSlice {P : Program} {o : Oper} {t el len : Nat} {ps : Array (Nat × Operand)} {ei : TI} {z : List AV} {ty : Nat → Option TI} {l : List (Nat × Nat × Get)} (ho : o.op = .buildSlice t len ps) (hu : P.underlying t = some (.slice el)) (ti : TIS P el ei) (hz : ei.z = some z)
    (hp : parts ty (fun j => some (j * ei.size, ei.size)) ps.toList = some l) (hsm : len * ei.size ≤ 16777216) : NS P o (Ev.nBuildS el (lrep z len) l) (fun id => .slc id 0 len len 0) := by
  intro V n fr a h w x r hr hx
  unfold nBuildS at hx
  split at hx
  · rename_i c hc
    cases hx
    obtain ⟨v, zl, h1, h2, h3, h4, _⟩ := ti.run_zero w hz V
    obtain ⟨q1, q2⟩ := h3.rep h4 len
    rw [ti.z_length hz] at q1 q2
    obtain ⟨us, e1, e2, e3⟩ := fill_rel r (place' := fun j => some (j * ei.size, ei.size)) (fun _ _ hx => hx) ps.toList l (lrep z len) c _ hp hc q1 q2
    have hrun : (Instr.buildSlice t len (ps.map fun x => (x.1, a.eval x.2))).run P w = .ok (.slice (some ⟨w.heap.size, 0, none⟩) len len) { w with heap := w.heap.push (.cells ⟨us⟩ el) } := by
      have hno : ¬ len * ei.size > 2 ^ 24 := by omega
      have e1' : Instr.fill (fun i => some (i * ei.size, ei.size)) ((Array.range (len * ei.size)).map ((⟨zl⟩ : Array Value)[· % (⟨zl⟩ : Array Value).size]!)) (ps.map fun x => (x.1, a.eval x.2)).toList = some ⟨us⟩ := by
        rw [Array.toList_map]; exact e1
      simp only [Instr.buildSlice, Sem.run_bind, run_underlying hu, Result.andThen_ok, ti.run_size]
      rw [if_neg hno]
      by_cases h0 : len * ei.size = 0
      · rw [if_pos h0]
        rw [h0] at e1'
        try simp only [Sem.run_bind, Sem.run_pure, Result.andThen_ok]
        rw [h0]
        have : ((Array.range 0).map ((#[] : Array Value)[· % (#[] : Array Value).size]!)) = ((Array.range 0).map ((⟨zl⟩ : Array Value)[· % (⟨zl⟩ : Array Value).size]!)) := by simp
        rw [this, e1']
        simp only [Sem.run_bind, newRow, run_newObj, Result.andThen_ok, Sem.run_pure]
      · rw [if_neg h0]
        simp only [Sem.run_bind, h1, h2, Result.andThen_ok, Sem.run_pure, e1', newRow, run_newObj]
    refine ⟨rfl, .cells ⟨us⟩ el, .slice (some ⟨w.heap.size, 0, none⟩) len len, ?_, fun V' hle => ⟨⟨us⟩, _, rfl, ?_, fun _ i _ h => by simp only at h; omega, rfl⟩, fun V' b hb => by simp only [VR]; exact ⟨_, _, _, hb, rfl, Nat.le_refl _, fun _ => rfl, fun h => absurd rfl h⟩⟩
    · simp only [execOp, ho, Sem.run_bind, hrun, Result.andThen_ok, Sem.run_pure]
    · rw [List.drop_zero]
      exact CRs.of_list (VRs.mono hle c us e2) e3
  · cases hx

/-! make -/
theorem TIS.zero_info {P : Program} {t : Nat} {i : TI} (s : TIS P t i) {z : List AV} (hz : i.z = some z) (V : Val) :
    ∃ x v zl, P.info? t = some x ∧ x.size = i.size ∧ x.bytes ≤ 1048576 ∧ x.zero = some v ∧ v.cells = ⟨zl⟩ ∧ VRs V z zl ∧ (∀ u ∈ zl, u.oneCell' = true) ∧ z.length = i.size := by
  obtain ⟨x, hx, hs, hb, h0⟩ := s.info
  obtain ⟨hl, v, hv, hzo⟩ := h0 z hz
  obtain ⟨a, ha, hc, _⟩ := zOf_spec hzo
  obtain ⟨l, h1, h2, h3⟩ := cellsOf_rel (cv_rel V v a ha) hc
  exact ⟨x, v, l, hx, hs, hb, hv, h1, h2, h3, hl⟩
theorem XS.mkSlice {P : Program} {o : Oper} {t el : Nat} {lx cx : Operand} {gl gc : Get} {p : Put} {ei : TI} {z : List AV} (ho : o.op = .makeSlice t lx cx) (e : cOpd lx = some gl) (e' : cOpd cx = some gc) (hu : P.underlying t = some (.slice el)) (ti : TIS P el ei) (hz : ei.z = some z) :
    XS P o (Ev.xMkSlice el z gl gc p) p := by
  intro V n fr a h w call r hr
  have rl := cOpd_rel r e
  have rc := cOpd_rel r e'
  constructor
  · intro v fr' h' hp
    unfold xMkSlice at hp
    split at hp
    · rename_i kl l kc c _ _
      cases hb : (Nat.ble l c && Nat.ble c 1000000) with
      | false => rw [hb] at hp; cases hp
      | true => rw [hb] at hp; simp only [cond_true] at hp; have := alloc_pan hp; cases this
    · cases hp
  · intro fr' h' hp
    unfold xMkSlice at hp
    split at hp
    · rename_i kl l kc c hl hc
      cases hb : (Nat.ble l c && Nat.ble c 1000000) with
      | false => rw [hb] at hp; cases hp
      | true =>
        rw [hb] at hp
        simp only [cond_true] at hp
        simp only [Bool.and_eq_true] at hb
        have b1 : l ≤ c := Nat.le_of_ble_eq_true hb.1
        have b2 : c ≤ 1000000 := Nat.le_of_ble_eq_true hb.2
        obtain ⟨_, hp⟩ := alloc_ok hp
        cases hp
        rw [hl] at rl; rw [hc] at rc
        simp only [VR] at rl rc
        obtain ⟨x, v, zl, i1, i2, i3, i4, i5, i6, i7, i8⟩ := ti.zero_info hz V
        obtain ⟨q1, q2⟩ := i6.rep i7 c
        rw [i8] at q1 q2
        have hmulc : x.bytes * c ≤ 1048576 * 1000000 := Nat.mul_le_mul i3 b2
        have hrun := run_make (P := P) w t el x v hu i1 i4 kl kc (Int.ofNat l) (Int.ofNat c) (Int.natCast_nonneg l) (Int.ofNat_le.2 b1)
          (by have h2 : ((x.bytes * c : Nat) : Int) ≤ ((1048576 * 1000000 : Nat) : Int) := Int.ofNat_le.2 hmulc
              have h3 : (x.bytes : Int) * Int.ofNat c = ((x.bytes * c : Nat) : Int) := by rw [Int.natCast_mul]; rfl
              omega)
          (by have : Int.ofNat c = (c : Int) := rfl
              omega)
        have hcells : madeCells v.cells ((Int.ofNat c).toNat * x.size) = (⟨((Array.range (c * ei.size)).map ((⟨zl⟩ : Array Value)[· % (⟨zl⟩ : Array Value).size]!)).toList⟩ : Array Value) := by
          rw [i5, i2]; rfl
        rw [hcells] at hrun
        generalize ((Array.range (c * ei.size)).map ((⟨zl⟩ : Array Value)[· % (⟨zl⟩ : Array Value).size]!)).toList = us at hrun q1 q2
        have hle := (Ext.alloc hr .defd (.cells ⟨us⟩ el)).le
        have hbr : BR (V.bind h.nx (w.heap.size, 0) (objCells (.cells ⟨us⟩ el))) (.cells el (lrep z c) [] .op) 0 (.cells ⟨us⟩ el) :=
          ⟨⟨us⟩, _, rfl, by rw [List.drop_zero]; exact CRs.of_list (VRs.mono hle _ us q1) q2, fun _ i _ h => by simp only at h; omega, rfl⟩
        refine ⟨.slc h.nx 0 l c 0, .value (.slice (some ⟨w.heap.size, 0, none⟩) l c), _, _, rfl, ?_, HR.alloc hr _ _ rfl hbr, Ext.alloc hr _ _, .inl ⟨_, rfl, by simp only [VR]; exact ⟨_, _, _, Val.bind_self .., rfl, Nat.le_refl _, fun _ => rfl, fun h => absurd rfl h⟩⟩⟩
        simp only [execOp, ho, rl, rc, Sem.run_bind, hrun, Result.andThen_ok, Sem.run_pure]
        rfl
    · cases hp
/-! stores -/
theorem XS.store {P : Program} {o : Oper} {t : Nat} {ax vx : Operand} {g gv : Get} {p : Put} {i : TI} (ho : o.op = .store t ax vx) (e : cOpd ax = some g) (e' : cOpd vx = some gv) (ti : TIS P t i) : XS P o (Ev.xStore i.size g gv p) p := by
  intro V n fr a h w call r hr
  have ra := cOpd_rel r e
  have rv := cOpd_rel r e'
  constructor
  · intro v fr' h' hp
    unfold xStore at hp
    split at hp
    · split at hp
      · rename_i l hl
        cases hb : Nat.beq l.length i.size with
        | false => rw [hb] at hp; cases hp
        | true => rw [hb] at hp; simp only [cond_true] at hp; split at hp <;> cases hp
      · cases hp
    · cases hp
  · intro fr' h' hp
    unfold xStore at hp
    split at hp
    · rename_i b off hg
      rw [hg] at ra; simp only [VR] at ra
      obtain ⟨c, sh, hc, hpt⟩ := ra
      split at hp
      · rename_i l hl
        cases hb : Nat.beq l.length i.size with
        | false => rw [hb] at hp; cases hp
        | true =>
          rw [hb] at hp; simp only [cond_true] at hp
          have hlen := Nat.eq_of_beq_eq_true hb
          split at hp
          · rename_i h2 hw
            cases hp
            obtain ⟨us, e1, e2, e3⟩ := cellsOf_rel rv hl
            obtain ⟨w', hrun, hr', hext⟩ := hr.write hc hw e2 e3 P
            refine ⟨.unk, .skip, V, w', rfl, ?_, hr', hext, .inr ⟨rfl, rfl⟩⟩
            have hsz : ¬ ((a.eval vx).cells.size ≠ i.size) := by
              rw [e1]; simp only [List.size_toArray, ne_eq, Decidable.not_not]; rw [e2.length]; exact hlen
            simp only [execOp, ho, Instr.storeAt, hpt, Instr.sureAddr, Sem.run_bind, Sem.run_pure, Result.andThen_ok, storeVar, ti.run_size]
            rw [if_neg hsz]
            simp only [e1, hrun, Result.andThen_ok]
          · cases hp
      · cases hp
    · cases hp
end Go.Ev
end

section
namespace Go.Ev

theorem run_setObj {P : Program} {w : World} {r : Nat} {o : Obj} (o' : Obj) (h : w.heap[r]? = some o) (hc : ∀ a b c, o ≠ .cells a b c) : (setObj r o').run P w = .ok () { w with heap := w.heap.setIfInBounds r o' } := by
  cases o <;> first | (exact absurd rfl (hc _ _ _)) | simp [setObj, Sem.run, h]
/-- a block that is no row of cells is changed -/
theorem HR.setObj {V : Val} {h : H} {w : World} (r : HR V h w) {b c sh : Nat} {x y : AB} {o : Obj} (hx : h.get b = some x) (hn : x.isFk = false) (ha : x.anc = []) (hc : V.ρ b = some (c, sh)) (hy : BR V y sh o) (ho : ∀ a b c, o ≠ .cells a b c) :
    HR V (h.put b y) { w with heap := w.heap.setIfInBounds c o } ∧ Ext V h w V (h.put b y) { w with heap := w.heap.setIfInBounds c o } :=
  ⟨r.set hc y o (r.excl hc hx hn ha) hy (fun a el fz e => absurd e (ho a el fz)), Ext.set hx hc y o⟩
/-- the list of a map, one value changed -/
theorem updK_idx {q : EqK} {k v : AV} {clock : Nat} : ∀ (es : List (AV × AV × Nat)) (i : Nat) {l : List (AV × AV × Nat)} {nw : Bool}, updK q k v clock es = some (l, nw) →
    ∃ j, idxK q k es i = some j ∧ ((j = none ∧ nw = true ∧ l = es ++ [(k, v, clock)]) ∨ ∃ m x, j = some m ∧ nw = false ∧ i ≤ m ∧ es[m - i]? = some x ∧ eqK true q k x.1 = some true ∧ l = es.set (m - i) (x.1, v, x.2.2)) := by
  intro es
  induction es with
  | nil => intro i l nw h; simp only [updK, Option.some.injEq, Prod.mk.injEq] at h; exact ⟨none, rfl, .inl ⟨rfl, h.2.symm, h.1.symm⟩⟩
  | cons x es ih =>
    intro i l nw h
    obtain ⟨k', v', c⟩ := x
    simp only [updK] at h
    split at h
    · rename_i hq
      simp only [Option.some.injEq, Prod.mk.injEq] at h
      exact ⟨some i, by simp [idxK, hq], .inr ⟨i, (k', v', c), rfl, h.2.symm, Nat.le_refl _, by simp, hq, by rw [← h.1]; simp⟩⟩
    · rename_i hq
      split at h
      · rename_i l' b' hl
        simp only [Option.some.injEq, Prod.mk.injEq] at h
        obtain ⟨j, h1, h2⟩ := ih (i + 1) hl
        refine ⟨j, by simp [idxK, hq, h1], ?_⟩
        rcases h2 with ⟨e1, e2, e3⟩ | ⟨m, x, e1, e2, e3, e4, e5, e6⟩
        · exact .inl ⟨e1, by rw [← h.2]; exact e2, by rw [← h.1, e3]; rfl⟩
        · refine .inr ⟨m, x, e1, by rw [← h.2]; exact e2, by omega, by rw [show m - i = (m - (i + 1)) + 1 by omega]; simpa using e4, e5, ?_⟩
          rw [← h.1, e6, show m - i = (m - (i + 1)) + 1 by omega]; simp
      · cases h
    · cases h
theorem delK_idx {q : EqK} {k : AV} : ∀ (es : List (AV × AV × Nat)) (i : Nat) {l : List (AV × AV × Nat)}, delK q k es = some l →
    ∃ j, idxK q k es i = some j ∧ ((j = none ∧ l = es) ∨ ∃ m, j = some m ∧ i ≤ m ∧ l = es.eraseIdx (m - i)) := by
  intro es
  induction es with
  | nil => intro i l h; simp only [delK, Option.some.injEq] at h; exact ⟨none, rfl, .inl ⟨rfl, h.symm⟩⟩
  | cons x es ih =>
    intro i l h
    obtain ⟨k', v', c⟩ := x
    simp only [delK] at h
    split at h
    · rename_i hq
      cases h
      exact ⟨some i, by simp [idxK, hq], .inr ⟨i, rfl, Nat.le_refl _, by simp⟩⟩
    · rename_i hq
      split at h
      · rename_i l' hl
        cases h
        obtain ⟨j, h1, h2⟩ := ih (i + 1) hl
        refine ⟨j, by simp [idxK, hq, h1], ?_⟩
        rcases h2 with ⟨e1, e2⟩ | ⟨m, e1, e2, e3⟩
        · exact .inl ⟨e1, by rw [e2]⟩
        · refine .inr ⟨m, e1, by omega, ?_⟩
          rw [e3, show m - i = (m - (i + 1)) + 1 by omega]; simp
      · cases h
    · cases h
theorem ERs.append {V : Val} : ∀ {a b : List (AV × AV × Nat)} {v u : List MapEntry}, ERs V a v → ERs V b u → ERs V (a ++ b) (v ++ u) := by
  intro a
  induction a with
  | nil => intro b v u h h'; simp only [ERs] at h; subst h; simpa using h'
  | cons x r ih => intro b v u h h'; obtain ⟨e, r', rfl, h1, h2⟩ := h; exact ⟨e, r' ++ u, rfl, h1, ih h2 h'⟩
theorem ERs.set {V : Val} : ∀ {a : List (AV × AV × Nat)} {v : List MapEntry} (i : Nat) {x : AV × AV × Nat} {e : MapEntry}, ERs V a v → ER V x e → ERs V (a.set i x) (v.set i e) := by
  intro a
  induction a with
  | nil => intro v i x e h _; simp only [ERs] at h; subst h; simp [ERs]
  | cons y r ih =>
    intro v i x e h he
    obtain ⟨e', r', rfl, h1, h2⟩ := h
    cases i with
    | zero => exact ⟨e, r', rfl, he, h2⟩
    | succ i => exact ⟨e', r'.set i e, rfl, h1, ih i h2 he⟩
theorem ERs.erase {V : Val} : ∀ {a : List (AV × AV × Nat)} {v : List MapEntry} (i : Nat), ERs V a v → ERs V (a.eraseIdx i) (v.eraseIdx i) := by
  intro a
  induction a with
  | nil => intro v i h; simp only [ERs] at h; subst h; simp [ERs]
  | cons y r ih =>
    intro v i h
    obtain ⟨e', r', rfl, h1, h2⟩ := h
    cases i with
    | zero => exact h2
    | succ i => exact ⟨e', r'.eraseIdx i, rfl, h1, ih i h2⟩
theorem run_keyThatStays {P : Program} (old new : Value) (w : World) : ∃ z d, (Instr.keyThatStays old new).run P w = .ok z { w with drawn := d } ∧ (z = old ∨ z = new) ∧ w.drawn ≤ d := by
  unfold Instr.keyThatStays
  split
  · exact ⟨new, w.drawn, rfl, .inr rfl, Nat.le_refl _⟩
  · have hch : ∃ k, (choose (.extern "map.whichKeyStays" 2)).run P w = .ok k { w with drawn := w.drawn + 1 } := ⟨_, rfl⟩
    obtain ⟨k, hk⟩ := hch
    simp only [Sem.run_bind, hk, Result.andThen_ok]
    by_cases h0 : k = 0
    · exact ⟨new, _, by rw [if_pos h0]; rfl, .inr rfl, Nat.le_succ _⟩
    · exact ⟨old, _, by rw [if_neg h0]; rfl, .inl rfl, Nat.le_succ _⟩
theorem XS.mapUpdate {P : Program} {o : Oper} {t kt et : Nat} {mx kx vx : Operand} {gm gk gv : Get} {p : Put} {q : EqK} {ki : TI} (ho : o.op = .mapUpdate t mx kx vx) (em : cOpd mx = some gm) (ek : cOpd kx = some gk) (ev : cOpd vx = some gv)
    (hu : P.underlying t = some (.map kt et)) (s : EqS P kt q) (hq : keyOk q = true) (tk : TIS P kt ki) : XS P o (Ev.xMapUpd q gm gk gv p) p := by
  intro V n fr a h w call r hr
  have rm := cOpd_rel r em
  have rk := cOpd_rel r ek
  have rv := cOpd_rel r ev
  constructor
  · intro v fr' h' hp
    unfold xMapUpd at hp
    cases hf : keyFit q (gk.run fr) with
    | false => rw [hf] at hp; cases hp
    | true =>
      rw [hf] at hp; simp only [cond_true] at hp
      split at hp
      · split at hp
        · split at hp <;> cases hp
        · cases hp
      · cases hp
  · intro fr' h' hp
    unfold xMapUpd at hp
    cases hf : keyFit q (gk.run fr) with
    | false => rw [hf] at hp; cases hp
    | true =>
      rw [hf] at hp; simp only [cond_true] at hp
      split at hp
      · rename_i b hg
        rw [hg] at rm; simp only [VR] at rm
        obtain ⟨c, hc, hm⟩ := rm
        split at hp
        · rename_i es clock hb
          obtain ⟨c', es', hc', ho', her⟩ := hr.map hb
          rw [hc] at hc'; cases hc'
          have hgo : (getObj c).run P w = .ok (.map ⟨es'⟩ clock) w := run_getObj ho' (by simp)
          have hck := run_checkKey_rel (P := P) s hq rk hf false w
          have fin : ∀ (l : List (AV × AV × Nat)) (nw : Bool) (cl : Nat), updK q (gk.run fr) (gv.run fr) clock es = some (l, nw) → cl = (if nw then clock + 1 else clock) →
              ∃ w', (execOp a.eval o).run P w = .ok .skip w' ∧ HR V (h.put b (.map l cl)) w' ∧ Ext V h w V (h.put b (.map l cl)) w' := by
            intro l nw cl hl hcl
            obtain ⟨j, hj, hcase⟩ := updK_idx es 0 hl
            obtain ⟨hrun, hlt⟩ := run_findKey (P := P) s tk.und rk w her hj
            rcases hcase with ⟨rfl, rfl, rfl⟩ | ⟨m, x, rfl, rfl, _, hx, hqx, rfl⟩
            · have hbr : BR V (.map (es ++ [(gk.run fr, gv.run fr, clock)]) cl) 0 (.map ((⟨es'⟩ : Array MapEntry).push { key := a.eval kx, val := a.eval vx, born := clock }) (clock + 1)) := by
                refine ⟨rfl, es' ++ [{ key := a.eval kx, val := a.eval vx, born := clock }], ?_, her.append ⟨_, [], rfl, ⟨rk, rv, rfl⟩, rfl⟩⟩
                simp only [if_true] at hcl
                subst hcl; simp
              obtain ⟨g1, g2⟩ := hr.setObj hb rfl rfl hc hbr (by simp)
              refine ⟨_, ?_, g1, g2⟩
              simp only [execOp, ho, Instr.mapUpdate, Sem.run_bind, run_underlying hu, Result.andThen_ok, hm, hgo, hck]
              simp only [hrun, Option.map_none, Result.andThen_ok, run_setObj _ ho' (by simp), Sem.run_pure]
            · obtain ⟨en, hen, her1⟩ := her.get m x (by simpa using hx)
              have hml := hlt m rfl
              have hkk := eqK_true hq hqx
              obtain ⟨z, d, hks, hz, hdr⟩ := run_keyThatStays (P := P) en.key (a.eval kx) w
              have hzr : VR V x.1 z := by
                rcases hz with rfl | rfl
                · exact her1.1
                · rw [← hkk]; exact rk
              have hbr : BR V (.map (es.set m (x.1, gv.run fr, x.2.2)) cl) 0 (.map ((⟨es'⟩ : Array MapEntry).modify m fun e => { e with key := z, val := a.eval vx }) clock) := by
                refine ⟨rfl, es'.set m { en with key := z, val := a.eval vx }, ?_, her.set m ⟨hzr, rv, her1.2.2⟩⟩
                simp only [Bool.false_eq_true, if_false] at hcl
                subst hcl
                congr 1
                apply Array.ext'
                rw [Array.toList_modify]
                apply List.ext_getElem?
                intro i
                have hem : es'[m] = en := by rw [List.getElem?_eq_getElem hml] at hen; exact Option.some.inj hen
                by_cases hi : m = i
                · subst hi; simp [hml, hem]
                · simp [hi]
              obtain ⟨g1, g2⟩ := (hr.drew d).setObj hb rfl rfl hc hbr (by simp)
              refine ⟨_, ?_, by simpa using g1, (Ext.drew V _ w d hdr).trans g2⟩
              have hold : (((⟨es'⟩ : Array MapEntry)[m]?).map (·.key)).getD (a.eval kx) = en.key := by simp [hen]
              simp only [execOp, ho, Instr.mapUpdate, Sem.run_bind, run_underlying hu, Result.andThen_ok, hm, hgo, hck]
              simp only [hrun, Option.map_some, Result.andThen_ok, hold, hks, Sem.run_bind, Sem.run_pure]
              rw [run_setObj (w := { w with drawn := d }) _ ho' (by simp)]
              rfl
          split at hp
          · rename_i l hl
            cases hp
            obtain ⟨w', g1, g2, g3⟩ := fin l true (Nat.succ clock) hl rfl
            exact ⟨.unk, .skip, V, w', rfl, g1, g2, g3, .inr ⟨rfl, rfl⟩⟩
          · rename_i l hl
            cases hp
            obtain ⟨w', g1, g2, g3⟩ := fin l false clock hl rfl
            exact ⟨.unk, .skip, V, w', rfl, g1, g2, g3, .inr ⟨rfl, rfl⟩⟩
          · cases hp
        · cases hp
      · cases hp
end Go.Ev
end

section
namespace Go.Ev

section
variable {P : Program} {o : Oper} {c : Go.Call} {b : Builtin} (ho : o.op = .call c) (hb : c.callee = .builtin b)
include ho hb
/-- a builtin with an effect -/
theorem XS.b1 {x : Get} {F : Op1} {p : Put} (e : cOpds c.args.toList = some [x]) {S : Value → Sem Value} (hS : ∀ cs u, builtin b c.argTypes o.type cs #[u] = (do pure (Next.value (← S u))))
    (hF : ∀ (V : Val) (_n : Nat) (fr : Fr) (h : H) (w : World) (call : Call) (u : Value), HR V h w → VR V (x.run fr) u →
      (∀ v fr' h', F call fr h ≠ .pan v fr' h') ∧ ∀ fr' h', F call fr h = .ok fr' h' → ∃ v z V' w', fr' = p.run v fr ∧ (S u).run P w = .ok z w' ∧ HR V' h' w' ∧ Ext V h w V' h' w' ∧ VR V' v z) : XS P o F p := by
  intro V n fr a h w call r hr
  obtain ⟨ox, hl, hx⟩ := cOpds1 e
  obtain ⟨cs, hex⟩ := execOp_builtin P ho hb a.eval w hl
  obtain ⟨h1, h2⟩ := hF V n fr h w call _ hr (cOpd_rel r hx)
  refine ⟨h1, fun fr' h' hp => ?_⟩
  obtain ⟨v, z, V', w', g1, g2, g3, g4, g5⟩ := h2 fr' h' hp
  refine ⟨v, .value z, V', w', g1, ?_, g3, g4, .inl ⟨z, rfl, g5⟩⟩
  rw [hex, show ([ox].map a.eval).toArray = #[a.eval ox] from rfl, hS cs]
  simp only [Sem.run_bind, g2, Result.andThen_ok, Sem.run_pure]
theorem XS.b2 {x y : Get} {F : Op1} {p : Put} (e : cOpds c.args.toList = some [x, y]) {S : Value → Value → Sem Value} (hS : ∀ cs u v, builtin b c.argTypes o.type cs #[u, v] = (do pure (Next.value (← S u v))))
    (hF : ∀ (V : Val) (_n : Nat) (fr : Fr) (h : H) (w : World) (call : Call) (u u' : Value), HR V h w → VR V (x.run fr) u → VR V (y.run fr) u' →
      (∀ v fr' h', F call fr h ≠ .pan v fr' h') ∧ ∀ fr' h', F call fr h = .ok fr' h' → ∃ v z V' w', fr' = p.run v fr ∧ (S u u').run P w = .ok z w' ∧ HR V' h' w' ∧ Ext V h w V' h' w' ∧ VR V' v z) : XS P o F p := by
  intro V n fr a h w call r hr
  obtain ⟨ox, oy, hl, hx, hy⟩ := cOpds2 e
  obtain ⟨cs, hex⟩ := execOp_builtin P ho hb a.eval w hl
  obtain ⟨h1, h2⟩ := hF V n fr h w call _ _ hr (cOpd_rel r hx) (cOpd_rel r hy)
  refine ⟨h1, fun fr' h' hp => ?_⟩
  obtain ⟨v, z, V', w', g1, g2, g3, g4, g5⟩ := h2 fr' h' hp
  refine ⟨v, .value z, V', w', g1, ?_, g3, g4, .inl ⟨z, rfl, g5⟩⟩
  rw [hex, show ([ox, oy].map a.eval).toArray = #[a.eval ox, a.eval oy] from rfl, hS cs]
  simp only [Sem.run_bind, g2, Result.andThen_ok, Sem.run_pure]
end

theorem XS.delete {P : Program} {o : Oper} {c : Go.Call} {t kt et : Nat} {gm gk : Get} {p : Put} {q : EqK} {ki : TI} (ho : o.op = .call c) (hb : c.callee = .builtin .delete) (e : cOpds c.args.toList = some [gm, gk]) (ht : c.argTypes[0]? = some t)
    (hu : P.underlying t = some (.map kt et)) (s : EqS P kt q) (hq : keyOk q = true) (tk : TIS P kt ki) : XS P o (Ev.xDelete q gm gk p) p := by
  refine XS.b2 ho hb e (S := fun u v => Builtin.delete_ c.argTypes o.type #[u, v]) (fun _ _ _ => rfl) fun V n fr h w call u u' hr rm rk => ?_
  constructor
  · intro v fr' h' hp
    unfold xDelete at hp
    cases hf : keyFit q (gk.run fr) with
    | false => rw [hf] at hp; cases hp
    | true =>
      rw [hf] at hp; simp only [cond_true] at hp
      split at hp
      · cases hp
      · split at hp
        · split at hp <;> cases hp
        · cases hp
      · cases hp
  · intro fr' h' hp
    unfold xDelete at hp
    cases hf : keyFit q (gk.run fr) with
    | false => rw [hf] at hp; cases hp
    | true =>
      rw [hf] at hp; simp only [cond_true] at hp
      have hck := fun em => run_checkKey_rel (P := P) s hq rk hf em w
      split at hp
      · rename_i hg
        rw [hg] at rm; simp only [VR] at rm; subst rm
        cases hp
        refine ⟨.tup [], .tuple #[], V, w, rfl, ?_, hr, Ext.refl _ _ _, by simp only [VR]; exact ⟨[], rfl, rfl⟩⟩
        have e2 : (#[Value.map none, u'] : Array Value)[1]? = some u' := rfl
        have e1 : (#[Value.map none, u'] : Array Value)[0]? = some (.map none) := rfl
        simp only [Builtin.delete_, ht, e1, e2, Sem.run_bind, run_underlying hu, Result.andThen_ok, hck, Sem.run_pure]
      · rename_i b hg
        rw [hg] at rm; simp only [VR] at rm
        obtain ⟨cc, hc, rfl⟩ := rm
        split at hp
        · rename_i es clock hbm
          obtain ⟨c', es', hc', ho', her⟩ := hr.map hbm
          rw [hc] at hc'; cases hc'
          split at hp
          · rename_i l hl
            cases hp
            have hgo : (getObj cc).run P w = .ok (.map ⟨es'⟩ clock) w := run_getObj ho' (by simp)
            obtain ⟨j, hj, hcase⟩ := delK_idx es 0 hl
            obtain ⟨hrun, hlt⟩ := run_findKey (P := P) s tk.und rk w her hj
            have e2 : (#[Value.map (some cc), u'] : Array Value)[1]? = some u' := rfl
            have e1 : (#[Value.map (some cc), u'] : Array Value)[0]? = some (.map (some cc)) := rfl
            rcases hcase with ⟨rfl, rfl⟩ | ⟨m, rfl, _, rfl⟩
            · obtain ⟨g1, g2⟩ := hr.setObj (y := .map l clock) hbm rfl rfl hc ⟨rfl, es', rfl, her⟩ (by simp)
              refine ⟨.tup [], .tuple #[], V, _, rfl, ?_, g1, g2, by simp only [VR]; exact ⟨[], rfl, rfl⟩⟩
              simp only [Builtin.delete_, ht, e1, e2, Sem.run_bind, run_underlying hu, Result.andThen_ok, hck, hgo]
              simp only [hrun, Option.map_none, Result.andThen_ok, Sem.run_bind, run_setObj _ ho' (by simp), Sem.run_pure]
            · have hml := hlt m rfl
              obtain ⟨g1, g2⟩ := hr.setObj (y := .map (es.eraseIdx m) clock) (o := .map ((⟨es'⟩ : Array MapEntry).eraseIdxIfInBounds m) clock) hbm rfl rfl hc
                ⟨rfl, es'.eraseIdx m, by congr 1; apply Array.ext'; simp [Array.eraseIdxIfInBounds, hml], her.erase m⟩ (by simp)
              refine ⟨.tup [], .tuple #[], V, _, rfl, ?_, by simpa using g1, g2, by simp only [VR]; exact ⟨[], rfl, rfl⟩⟩
              simp only [Builtin.delete_, ht, e1, e2, Sem.run_bind, run_underlying hu, Result.andThen_ok, hck, hgo]
              simp only [hrun, Option.map_some, Result.andThen_ok, Sem.run_bind, run_setObj _ ho' (by simp), Sem.run_pure]
          · cases hp
        · cases hp
      · cases hp

/-! iteration -/
theorem XS.nextS {P : Program} {o : Oper} {x : Operand} {g : Get} {p : Put} (ho : o.op = .next x true) (e : cOpd x = some g) : XS P o (Ev.xNextS g p) p := by
  intro V n fr a h w call r hr
  have rx := cOpd_rel r e
  constructor
  · intro v fr' h' hp
    unfold xNextS at hp
    split at hp
    · split at hp
      · rename_i len m pos _
        cases h1 : Nat.blt pos len with
        | false => rw [h1] at hp; cases hp
        | true =>
          rw [h1] at hp; simp only [cond_true] at hp
          cases h2 : Nat.blt (strByte len m pos) 128 with
          | false => rw [h2] at hp; cases hp
          | true => rw [h2] at hp; cases hp
      · cases hp
    · cases hp
  · intro fr' h' hp
    unfold xNextS at hp
    split at hp
    · rename_i b hg
      rw [hg] at rx; simp only [VR] at rx
      obtain ⟨c, sh, hc, hpt⟩ := rx
      split at hp
      · rename_i len m pos hb
        obtain ⟨c', sh', ob, hc', ho', rfl, s, rfl, hsr⟩ := hr.blk b _ hb
        rw [hc] at hc'; cases hc'
        have hgo : (getObj c).run P w = .ok (.stringIter s pos) w := run_getObj ho' (by simp)
        have hpt' : a.eval x = .pointer (some ⟨c, 0, none⟩) := hpt
        have hsz := hsr.size
        cases h1 : Nat.blt pos len with
        | false =>
          rw [h1] at hp; cases hp
          have hn : ¬ pos < s.size := by
            rw [hsz]; intro h
            have : Nat.blt pos len = true := Nat.ble_eq_true_of_le h
            rw [this] at h1; cases h1
          refine ⟨.tup [.bool false], .value (.tuple #[.bool false]), V, w, rfl, ?_, hr, Ext.refl _ _ _, .inl ⟨_, rfl, by simp only [VR, VRs]; exact ⟨_, rfl, _, _, rfl, rfl, rfl⟩⟩⟩
          simp only [execOp, ho, Instr.next, hpt', Sem.run_bind, hgo, Result.andThen_ok, if_neg hn, Sem.run_pure]
        | true =>
          rw [h1] at hp; simp only [cond_true] at hp
          have hn : pos < s.size := by rw [hsz]; exact Nat.le_of_ble_eq_true h1
          obtain ⟨y, y1, y2, y3⟩ := strByte_eq hsr pos (by rw [← hsz]; exact hn)
          cases h2 : Nat.blt (strByte len m pos) 128 with
          | false => rw [h2] at hp; cases hp
          | true =>
            rw [h2] at hp; cases hp
            rw [y3] at h2
            have hlt : y.toNat < 128 := Nat.le_of_ble_eq_true h2
            have hdec : Utf8.decode s pos = (y.toNat, 1) := by
              have hy : s[pos]'hn = y := by rw [getElem?_pos s pos hn] at y1; exact Option.some.inj y1
              rw [← hy] at hlt ⊢
              exact decode_ascii s pos hn hlt
            obtain ⟨g1, g2⟩ := hr.setObj (y := .siter len m (pos + 1)) (o := .stringIter s (pos + 1)) hb rfl rfl hc ⟨rfl, s, rfl, hsr⟩ (by simp)
            refine ⟨_, .value (.tuple #[.bool true, goInt pos, .int .i32 y.toNat]), V, _, rfl, ?_, g1, g2, .inl ⟨_, rfl, ?_⟩⟩
            · simp only [execOp, ho, Instr.next, hpt', Sem.run_bind, hgo, Result.andThen_ok, if_pos hn, hdec, run_setObj _ ho' (by simp), Sem.run_pure]
            · rw [y3]; simp only [VR, VRs]; exact ⟨_, rfl, _, _, rfl, rfl, _, _, rfl, rfl, _, _, rfl, rfl, rfl⟩
      · cases hp
    · cases hp
theorem leftE_rel {V : Val} {seen : List Nat} {sc : Array Nat} (hs : ∀ n, sc.contains n = memN n seen) : ∀ (es : List (AV × AV × Nat)) (es' : List MapEntry), ERs V es es' → ERs V (leftE seen es) (es'.filter fun e => !sc.contains e.born) := by
  intro es
  induction es with
  | nil => intro es' h; simp only [ERs] at h; subst h; rfl
  | cons x es ih =>
    intro es' h
    obtain ⟨e, r', rfl, h1, h2⟩ := h
    simp only [leftE]
    have hb : e.born = x.2.2 := h1.2.2
    cases hm : memN x.2.2 seen with
    | true =>
      simp only [cond_true]
      rw [List.filter_cons_of_neg (by rw [hb, hs, hm]; simp)]
      exact ih r' h2
    | false =>
      simp only [cond_false]
      rw [List.filter_cons_of_pos (by rw [hb, hs, hm]; rfl)]
      exact ⟨e, _, rfl, h1, ih r' h2⟩
theorem memN_eq (n : Nat) : ∀ (l : List Nat), memN n l = l.contains n := by
  intro l
  induction l with
  | nil => rfl
  | cons a r ih =>
    simp only [memN, List.contains_cons, ih]
    cases h : Nat.beq a n with
    | true => have := Nat.eq_of_beq_eq_true h; subst this; simp
    | false =>
      have : (n == a) = false := by
        cases hh : (n == a) with
        | false => rfl
        | true => have := eq_of_beq hh; subst this; simp at h
      simp [this]
end Go.Ev
end

section
/- Iterations whose order is open: symbols stand for the cells of the entries. -/
namespace Go.Ev

theorem bornIn_iff (b : Nat) : ∀ (es : List (AV × AV × Nat)), bornIn b es = true ↔ ∃ x ∈ es, x.2.2 = b := by
  intro es
  induction es with
  | nil => simp [bornIn]
  | cons e r ih =>
    simp only [bornIn, Bool.cond_eq_ite]
    by_cases h : Nat.beq e.2.2 b = true
    · simp [Nat.eq_of_beq_eq_true h]
    · have hne : ¬ e.2.2 = b := fun h2 => h (by subst h2; simp)
      rw [if_neg h, ih]; simp [hne]
theorem famOk_spec {ks vs : Option Nat} {since : Nat} : ∀ (es : List (AV × AV × Nat)), famOk ks vs since es = true → (∀ x ∈ es, shEq (shOf x.1) ks = true ∧ shEq (shOf x.2.1) vs = true ∧ x.2.2 < since) ∧ (es.map (·.2.2)).Nodup := by
  intro es
  induction es with
  | nil => intro _; simp
  | cons e r ih =>
    intro h
    simp only [famOk, Bool.and_eq_true] at h
    obtain ⟨⟨⟨⟨h1, h2⟩, h3⟩, h4⟩, h5⟩ := h
    obtain ⟨k1, k2⟩ := ih h5
    refine ⟨fun x hx => ?_, ?_⟩
    · rcases List.mem_cons.1 hx with rfl | hx
      · exact ⟨h1, h2, Nat.le_of_ble_eq_true h3⟩
      · exact k1 x hx
    · simp only [List.map_cons, List.nodup_cons]
      refine ⟨fun hm => ?_, k2⟩
      obtain ⟨x, hx, he⟩ := List.mem_map.1 hm
      have : bornIn e.2.2 r = true := (bornIn_iff _ _).2 ⟨x, hx, he⟩
      simp [this] at h4
theorem famGo_spec {b since : Nat} {es : List (AV × AV × Nat)} {ks vs : Option Nat} (h : famGo b es since = some (ks, vs)) : famOk ks vs since es = true ∧ shN ks + shN vs ≤ 64 ∧ b < 268435456 ∧ es ≠ [] := by
  unfold famGo at h
  split at h
  · cases h
  · split at h
    · rename_i ks' vs' h1 h2
      cases hc : (famOk ks' vs' since _ && Nat.ble (Nat.add (shN ks') (shN vs')) 64 && Nat.blt b 268435456) with
      | false => rw [hc] at h; cases h
      | true =>
        rw [hc] at h; cases h
        simp only [Bool.and_eq_true] at hc
        exact ⟨hc.1.1, Nat.le_of_ble_eq_true hc.1.2, Nat.le_of_ble_eq_true hc.2, by simp⟩
    · cases h
theorem esEq_sound : ∀ (a b : List (AV × AV × Nat)), esEq a b = true → a = b := by
  intro a
  induction a with
  | nil => intro b h; cases b <;> simp [esEq] at h; rfl
  | cons x l ih =>
    intro b h
    cases b with
    | nil => simp [esEq] at h
    | cons y m =>
      simp only [esEq, Bool.and_eq_true] at h
      obtain ⟨⟨⟨h1, h2⟩, h3⟩, h4⟩ := h
      have e1 := avEq_sound _ _ h1
      have e2 := avEq_sound _ _ h2
      have e3 := Nat.eq_of_beq_eq_true h3
      rw [ih m h4]
      congr 1
      exact Prod.ext e1 (Prod.ext e2 e3)
/-- entries, place by place -/
theorem ERs.mem {V : Val} : ∀ {es : List (AV × AV × Nat)} {es' : List MapEntry}, ERs V es es' → (∀ e ∈ es', ∃ x ∈ es, ER V x e) ∧ (∀ x ∈ es, ∃ e ∈ es', ER V x e) ∧ es'.length = es.length := by
  intro es
  induction es with
  | nil => intro es' h; simp only [ERs] at h; subst h; simp
  | cons x es ih =>
    intro es' h
    obtain ⟨e, r', rfl, h1, h2⟩ := h
    obtain ⟨k1, k2, k3⟩ := ih h2
    refine ⟨fun e' he' => ?_, fun y hy => ?_, by simp [k3]⟩
    · rcases List.mem_cons.1 he' with rfl | he'
      · exact ⟨x, by simp, h1⟩
      · obtain ⟨y, hy, hr⟩ := k1 e' he'; exact ⟨y, by simp [hy], hr⟩
    · rcases List.mem_cons.1 hy with rfl | hy
      · exact ⟨e, by simp, h1⟩
      · obtain ⟨e', he', hr⟩ := k2 y hy; exact ⟨e', by simp [he'], hr⟩

/-! new symbols -/
def Val.sym (V : Val) (s : Nat) (us : List Value) : Val := { V with θ := fun i => if s ≤ i ∧ i < s + us.length then us[i - s]? else V.θ i }
theorem symBase_eq (ns b : Nat) : symBase ns b = (ns * 268435456 + b) * 64 := rfl
theorem HR.sym {V : Val} {h : H} {w : World} (r : HR V h w) {b : Nat} (hb : b < 268435456) {us : List Value} (hu : us.length ≤ 64) :
    HR (V.sym (symBase h.ns b) us) h.bump w ∧ Ext V h w (V.sym (symBase h.ns b) us) h.bump w ∧ ∀ (i : Nat) (v : Value), us[i]? = some v → (V.sym (symBase h.ns b) us).θ (symBase h.ns b + i) = some v := by
  have hle : V.le (V.sym (symBase h.ns b) us) := by
    refine ⟨fun _ _ e => e, fun i v e => ?_, fun _ _ _ _ => rfl⟩
    have hlt : i < symBase h.ns 0 := by
      rcases Nat.lt_or_ge i (symBase h.ns 0) with h1 | h1
      · exact h1
      · rw [r.ns i h1] at e; cases e
    simp only [Val.sym]
    rw [symBase_eq] at hlt
    rw [if_neg (by rw [symBase_eq]; omega)]
    exact e
  refine ⟨⟨fun b' x e => ?_, fun b1 b2 x1 x2 c s1 s2 e1 e2 => r.ali b1 b2 x1 x2 c s1 s2 e1 e2, r.nx, r.lt, fun i hi => ?_, r.cz, r.glo⟩, ⟨hle, Nat.le_refl _, fun c _ hn => ⟨rfl, fun b' x sh e => hn b' x sh e⟩, rfl, rfl, rfl, Nat.le_refl _, Nat.le_refl _, fun _ _ h => h⟩, fun i v hv => ?_⟩
  · obtain ⟨c, sh, o, h1, h2, h3⟩ := r.blk b' x e
    exact ⟨c, sh, o, h1, h2, h3.mono hle⟩
  · have hns : h.bump.ns = h.ns + 1 := rfl
    rw [hns, symBase_eq] at hi
    simp only [Val.sym]
    rw [if_neg (by rw [symBase_eq]; omega)]
    have h6 : symBase h.ns 0 ≤ symBase (h.ns + 1) 0 := by
      rw [symBase_eq, symBase_eq]
      exact Nat.mul_le_mul_right 64 (Nat.add_le_add_right (Nat.mul_le_mul_right 268435456 (Nat.le_succ h.ns)) 0)
    refine r.ns i (Nat.le_trans h6 ?_)
    rw [symBase_eq]; exact hi
  · have hi : i < us.length := by
      rcases Nat.lt_or_ge i us.length with h | h
      · exact h
      · rw [List.getElem?_eq_none h] at hv; cases hv
    simp only [Val.sym]
    rw [if_pos (by omega), Nat.add_sub_cancel_left]; exact hv
theorem symL_rel {V : Val} : ∀ (n s : Nat) (us : List Value), us.length = n → (∀ (i : Nat) (v : Value), us[i]? = some v → V.θ (s + i) = some v) → (∀ u ∈ us, u.oneCell' = true) → VRs V (symL s n) us := by
  intro n
  induction n with
  | zero => intro s us h _ _; simp at h; subst h; simp [symL, VRs]
  | succ n ih =>
    intro s us h ht h1
    cases us with
    | nil => simp at h
    | cons u us =>
      simp only [symL, VRs]
      refine ⟨u, us, rfl, ?_, ih (Nat.succ s) us (by simpa using h) (fun i v hv => ?_) (fun x hx => h1 x (by simp [hx]))⟩
      · simp only [VR]; exact ⟨by simpa using ht 0 u rfl, h1 u (by simp)⟩
      · have := ht (i + 1) v (by simpa using hv)
        rwa [show s + (i + 1) = Nat.succ s + i by omega] at this
/-- symbols for a value of a shape -/
theorem symOf_rel {V : Val} {x : AV} {u : Value} {sh : Option Nat} (hx : VR V x u) (hs : shEq (shOf x) sh = true) : ∃ l us, cellsOf x = some l ∧ u.cells = ⟨us⟩ ∧ VRs V l us ∧ (∀ y ∈ us, y.oneCell' = true) ∧ us.length = shN sh ∧
    ∀ (V' : Val) (s : Nat), (∀ (i : Nat) (v : Value), us[i]? = some v → V'.θ (s + i) = some v) → VR V' (symOf s sh) u := by
  cases sh with
  | none =>
    have hc : cell1 x = true ∧ cellsOf x = some [x] := by
      cases x <;> simp [shOf, shEq] at hs <;> exact ⟨rfl, rfl⟩
    obtain ⟨us, h1, h2, h3⟩ := cellsOf_rel hx hc.2
    have hl : us.length = 1 := h2.length
    match us, hl with
    | [u'], _ =>
      have hu : u' = u := by
        have h4 := hx.one hc.1
        cases u <;> first | (simp [Value.cells] at h1; exact h1.symm) | (simp [Value.oneCell'] at h4)
      subst hu
      exact ⟨[x], [u'], hc.2, h1, h2, h3, rfl, fun V' s ht => by simp only [symOf, VR]; exact ⟨by simpa using ht 0 u' rfl, h3 u' (by simp)⟩⟩
  | some n =>
    cases x <;> simp [shOf, shEq] at hs
    rename_i l
    have hx' := hx
    simp only [VR] at hx'
    obtain ⟨us, rfl, h2, h3⟩ := hx'
    exact ⟨l, us, rfl, rfl, h2, h3, by rw [h2.length, hs]; rfl, fun V' s ht => by
      simp only [symOf, VR]
      exact ⟨us, rfl, symL_rel n s us (by rw [h2.length, hs]) ht h3, h3⟩⟩

theorem run_mapNext_one {P : Program} {w : World} {n : Nat} (h : n ≤ 1) : (choose (.mapNext n)).run P w = .ok 0 w := by
  have : (Question.mapNext n).forced = true := by simp [Question.forced, h]
  simp [choose, Sem.run, this]
theorem run_mapNext {P : Program} (w : World) {n : Nat} (h : 1 ≤ n) : ∃ i d, i < n ∧ (choose (.mapNext n)).run P w = .ok i { w with drawn := d } ∧ w.drawn ≤ d := by
  by_cases h1 : n ≤ 1
  · exact ⟨0, w.drawn, by omega, by
      have : (Question.mapNext n).forced = true := by simp [Question.forced, h1]
      simp [choose, Sem.run, this], Nat.le_refl _⟩
  · refine ⟨w.tape w.drawn (.mapNext n) % n, w.drawn + 1, Nat.mod_lt _ (by omega), ?_, Nat.le_succ _⟩
    have : (Question.mapNext n).forced = false := by simp [Question.forced]; omega
    simp [choose, Sem.run, this, Question.cut]

/-- a step of such an iteration -/
theorem famStep_ok {P : Program} {V : Val} {h : H} {w : World} (hr : HR V h w) {b m since st k clock c c2 : Nat} {es : List (AV × AV × Nat)} {es' : List MapEntry} {syms : List Nat} {seen : List Nat} {p : Put} {fr fr' : Fr} {h' : H} {x0 : AB}
    (hb : h.get b = some x0) (hfk : x0.isFk = false) (hanc : x0.anc = []) (hc : V.ρ b = some (c, 0)) (ho : w.heap[c]? = some (.mapIter (some c2) since ⟨seen⟩ st)) (hm : V.ρ m = some (c2, 0)) (hom : w.heap[c2]? = some (.map ⟨es'⟩ clock)) (her : ERs V es es')
    (hk : seen.length = k) (hnd : seen.Nodup) (hin : ∀ bn ∈ seen, ∃ x ∈ es, x.2.2 = bn) (hsy : ∀ (j s bn : Nat), syms[j]? = some s → seen[j]? = some bn → ∃ x ∈ es, x.2.2 = bn ∧ SymR V s x)
    (hno : seen = [] ∨ ∃ e ∈ es', ¬ (e.born ≥ st)) (ty : Nat) (hp : famStep b m since es k syms clock p fr h = .ok fr' h') :
    ∃ v u w', fr' = p.run v fr ∧ (Instr.next (.pointer (some ⟨c, 0, none⟩)) false ty).run P w = .ok u w' ∧ HR V h' w' ∧ Ext V h w V h' w' ∧ VR V v u := by
  unfold famStep at hp
  split at hp
  · rename_i kv hg
    obtain ⟨ks, vs⟩ := kv
    obtain ⟨hf, _, _, _⟩ := famGo_spec hg
    obtain ⟨hall, hbn⟩ := famOk_spec es hf
    obtain ⟨m1, m2, m3⟩ := her.mem
    cases hlen : Nat.beq syms.length k with
    | false => rw [hlen] at hp; cases hp
    | true =>
    rw [hlen] at hp; simp only [cond_true] at hp
    have hlen := Nat.eq_of_beq_eq_true hlen
    have hgo : (getObj c).run P w = .ok (.mapIter (some c2) since ⟨seen⟩ st) w := run_getObj ho (by simp)
    have hgm : (getObj c2).run P w = .ok (.map ⟨es'⟩ clock) w := run_getObj hom (by simp)
    have hun : (!(⟨seen⟩ : Array Nat).isEmpty && !(⟨es'⟩ : Array MapEntry).isEmpty && (⟨es'⟩ : Array MapEntry).all (·.born ≥ st)) = false := by
      rcases hno with rfl | ⟨e', he', hlt⟩
      · simp
      · have : (⟨es'⟩ : Array MapEntry).all (fun x => decide (x.born ≥ st)) = false := by
          rw [Array.all_eq_false]
          obtain ⟨i, hi, hie⟩ := List.mem_iff_getElem.1 he'
          exact ⟨i, by simpa using hi, by simp only [List.getElem_toArray, hie]; simpa using hlt⟩
        simp only [this, Bool.and_false]
    have hfil : (⟨es'⟩ : Array MapEntry).filter (fun e => !(⟨seen⟩ : Array Nat).contains e.born) = ⟨es'.filter fun e => !seen.contains e.born⟩ := by simp
    generalize hleft : (es'.filter fun e => !seen.contains e.born) = left at hfil
    have hmemL : ∀ e, e ∈ left ↔ e ∈ es' ∧ e.born ∉ seen := by intro e; rw [← hleft]; simp
    have hold : (⟨left⟩ : Array MapEntry).filter (fun x => decide (x.born < since)) = ⟨left⟩ := by
      have : left.filter (fun x => decide (x.born < since)) = left := by
        rw [List.filter_eq_self]
        intro e he
        obtain ⟨x, hx, hxe⟩ := m1 e ((hmemL e).1 he).1
        have := (hall x hx).2.2
        rw [hxe.2.2]; simpa using this
      simp [this]
    have hnew : (⟨left⟩ : Array MapEntry).filter (fun x => decide (x.born ≥ since)) = #[] := by
      have : left.filter (fun x => decide (x.born ≥ since)) = [] := by
        rw [List.filter_eq_nil_iff]
        intro e he
        obtain ⟨x, hx, hxe⟩ := m1 e ((hmemL e).1 he).1
        have := (hall x hx).2.2
        rw [hxe.2.2]; simp; omega
      simp [this]
    have hpre : (Instr.next (.pointer (some ⟨c, 0, none⟩)) false ty).run P w = (do
        let candidates := (if (⟨left⟩ : Array MapEntry).isEmpty then #[none] else #[]) ++ ((⟨left⟩ : Array MapEntry) ++ (#[] : Array MapEntry)).map some
        match candidates[← choose (.mapNext candidates.size)]? with
        | some (some e) =>
          setObj c (.mapIter (some c2) since ((⟨seen⟩ : Array Nat).push e.born) clock)
          pure (.tuple #[.bool true, e.key, e.val])
        | some none => pure (.tuple #[.bool false])
        | none => stuck "Next: no such candidate" : Sem Value).run P w := by
      simp only [Instr.next, Sem.run_bind, hgo, hgm, Result.andThen_ok, hun, Bool.false_eq_true, if_false, hfil, hold, hnew]
      rfl
    cases hfin : Nat.beq k es.length with
    | true =>
      rw [hfin] at hp; cases hp
      have hfin := Nat.eq_of_beq_eq_true hfin
      have hl0 : left = [] := by
        rw [List.eq_nil_iff_forall_not_mem]
        intro e he
        obtain ⟨he1, he2⟩ := (hmemL e).1 he
        obtain ⟨x, hx, hxe⟩ := m1 e he1
        have := List.Nodup.length_le_of_subset (l₁ := e.born :: seen) (l₂ := es.map (·.2.2)) (List.nodup_cons.2 ⟨he2, hnd⟩) (fun y hy => by
          rcases List.mem_cons.1 hy with rfl | hy
          · exact List.mem_map.2 ⟨x, hx, hxe.2.2.symm⟩
          · obtain ⟨z, hz, hzb⟩ := hin y hy; exact List.mem_map.2 ⟨z, hz, hzb⟩)
        simp at this; omega
      subst hl0
      refine ⟨.tup [.bool false], .tuple #[.bool false], w, rfl, ?_, hr, Ext.refl _ _ _, by simp only [VR, VRs]; exact ⟨_, rfl, _, _, rfl, rfl, rfl⟩⟩
      rw [hpre]
      have hch : (choose (.mapNext ((if (⟨[]⟩ : Array MapEntry).isEmpty = true then (#[none] : Array (Option MapEntry)) else #[]) ++ Array.map some ((⟨[]⟩ : Array MapEntry) ++ (#[] : Array MapEntry))).size)).run P w = .ok 0 w := run_mapNext_one (by simp)
      have hcand : ((if (⟨[]⟩ : Array MapEntry).isEmpty = true then (#[none] : Array (Option MapEntry)) else #[]) ++ Array.map some ((⟨[]⟩ : Array MapEntry) ++ (#[] : Array MapEntry)))[0]? = some none := by simp
      simp only [Sem.run_bind, hch, Result.andThen_ok, hcand, Sem.run_pure]
    | false =>
      rw [hfin] at hp; cases hp
      have hfin : k ≠ es.length := fun e => by rw [e] at hfin; simp at hfin
      have hle : seen.length ≤ es.length := by
        have := List.Nodup.length_le_of_subset (l₁ := seen) (l₂ := es.map (·.2.2)) hnd (fun y hy => by obtain ⟨z, hz, hzb⟩ := hin y hy; exact List.mem_map.2 ⟨z, hz, hzb⟩)
        simpa using this
      have hne : left ≠ [] := by
        intro h0
        have := List.Nodup.length_le_of_subset (l₁ := es.map (·.2.2)) (l₂ := seen) hbn (fun y hy => by
          obtain ⟨x, hx, hxy⟩ := List.mem_map.1 hy
          obtain ⟨e, he, hxe⟩ := m2 x hx
          by_cases hs : y ∈ seen
          · exact hs
          · have : e ∈ left := (hmemL e).2 ⟨he, by rw [hxe.2.2, hxy]; exact hs⟩
            rw [h0] at this; simp at this)
        simp at this; omega
      have hemp : (⟨left⟩ : Array MapEntry).isEmpty = false := by cases left with | nil => exact absurd rfl hne | cons _ _ => rfl
      have hpos : 1 ≤ left.length := List.length_pos_iff.2 hne
      obtain ⟨i, d, hi, hch, hdr⟩ := run_mapNext (P := P) w hpos
      have hget : (((⟨left⟩ : Array MapEntry) ++ (#[] : Array MapEntry)).map some)[i]? = some (some (left[i])) := by simp [hi]
      generalize left[i] = e at hget
      have heL : e ∈ left := by
        have h2 : (((⟨left⟩ : Array MapEntry) ++ (#[] : Array MapEntry)).map some)[i]? = some (some e) := hget
        simp [hi] at h2
        rw [← h2]; exact List.getElem_mem _
      obtain ⟨he1, he2⟩ := (hmemL e).1 heL
      obtain ⟨x, hx, hxe⟩ := m1 e he1
      have hr1 := hr.drew d
      obtain ⟨g1, g2⟩ := hr1.setObj (y := .fiter m since es clock (Nat.succ k) syms) (o := .mapIter (some c2) since ((⟨seen⟩ : Array Nat).push e.born) clock) hb hfk hanc hc
        ⟨rfl, c2, seen ++ [e.born], by simp, hm, by simp [hk], by
          rw [List.nodup_append]
          exact ⟨hnd, by simp, fun a ha b' hb' hab => by simp at hb'; subst hb'; subst hab; exact he2 ha⟩, fun bn hbn' => by
          rcases List.mem_append.1 hbn' with h1 | h1
          · exact hin bn h1
          · simp at h1; subst h1; exact ⟨x, hx, hxe.2.2.symm⟩, fun j s bn hs hsj => by
          have hj : j < syms.length := by
            rcases Nat.lt_or_ge j syms.length with h | h
            · exact h
            · rw [List.getElem?_eq_none h] at hs; cases hs
          rw [List.getElem?_append_left (by omega)] at hsj
          exact hsy j s bn hs hsj⟩ (by simp)
      refine ⟨.tup [.bool true, .unk, .unk], .tuple #[.bool true, e.key, e.val], _, rfl, ?_, g1, (Ext.drew V h w d hdr).trans g2, by simp only [VR, VRs]; exact ⟨_, rfl, _, _, rfl, rfl, _, _, rfl, trivial, _, _, rfl, trivial, rfl⟩⟩
      rw [hpre]
      have hsz : ((if (⟨left⟩ : Array MapEntry).isEmpty = true then (#[none] : Array (Option MapEntry)) else #[]) ++ ((⟨left⟩ : Array MapEntry) ++ (#[] : Array MapEntry)).map some).size = left.length := by simp [hemp]
      have hcand : ((if (⟨left⟩ : Array MapEntry).isEmpty = true then (#[none] : Array (Option MapEntry)) else #[]) ++ ((⟨left⟩ : Array MapEntry) ++ (#[] : Array MapEntry)).map some)[i]? = some (some e) := by
        simp only [hemp, Bool.false_eq_true, if_false, Array.empty_append]; exact hget
      simp only [Sem.run_bind, hsz, hch, Result.andThen_ok, hcand]
      have ho1 : ({ w with drawn := d } : World).heap[c]? = some (.mapIter (some c2) since ⟨seen⟩ st) := ho
      simp only [run_setObj _ ho1 (by simp), Result.andThen_ok, Sem.run_pure]
  · cases hp
end Go.Ev
end

section
namespace Go.Ev

theorem anyOld_rel {V : Val} {st : Nat} : ∀ (es : List (AV × AV × Nat)) (es' : List MapEntry), ERs V es es' → anyOld st es = true → ∃ e ∈ es', ¬ (e.born ≥ st) := by
  intro es
  induction es with
  | nil => intro es' _ h; simp [anyOld] at h
  | cons x es ih =>
    intro es' he h
    obtain ⟨e, r', rfl, h1, h2⟩ := he
    simp only [anyOld] at h
    cases hb : Nat.blt x.2.2 st with
    | true =>
      have : x.2.2 < st := Nat.le_of_ble_eq_true hb
      refine ⟨e, by simp, ?_⟩
      rw [h1.2.2]; omega
    | false =>
      rw [hb] at h
      obtain ⟨e', he', h3⟩ := ih r' h2 h
      exact ⟨e', by simp [he'], h3⟩
theorem XS.nextM {P : Program} {o : Oper} {x : Operand} {g : Get} {p : Put} (ho : o.op = .next x false) (e : cOpd x = some g) : XS P o (Ev.xNextM g p) p := by
  intro V n fr a h w call r hr
  have rx := cOpd_rel r e
  constructor
  · intro v fr' h' hp
    unfold xNextM famStep at hp
    simp only [Bool.cond_eq_ite] at hp
    repeat' (split at hp)
    all_goals cases hp
  · intro fr' h' hp
    unfold xNextM at hp
    split at hp
    · rename_i b hg
      rw [hg] at rx; simp only [VR] at rx
      obtain ⟨c, sh, hc, hpt⟩ := rx
      have hpt' : ∀ c', c = c' → sh = 0 → a.eval x = .pointer (some ⟨c', 0, none⟩) := fun c' e1 e2 => by rw [hpt, e1, e2]
      have over : VR V (.tup [.bool false]) (.tuple #[.bool false]) := by simp only [VR, VRs]; exact ⟨_, rfl, _, _, rfl, rfl, rfl⟩
      split at hp
      · rename_i since seen st hb
        obtain ⟨c', sh', ob, hc', ho', rfl, m', rfl, hm'⟩ := hr.blk b _ hb
        simp only at hm'
        subst hm'
        rw [hc] at hc'; cases hc'
        cases hp
        have hgo : (getObj c).run P w = .ok (.mapIter none since ⟨seen.reverse⟩ st) w := run_getObj ho' (by simp)
        refine ⟨.tup [.bool false], .value (.tuple #[.bool false]), V, w, rfl, ?_, hr, Ext.refl _ _ _, .inl ⟨_, rfl, over⟩⟩
        simp only [execOp, ho, Instr.next, hpt' c rfl rfl, Sem.run_bind, hgo, Result.andThen_ok, Sem.run_pure]
      · rename_i m since seen st hb
        obtain ⟨c1, c2, q1, q2, q3⟩ := hr.miter hb
        rw [hc] at q1; cases q1
        have hgo : (getObj c).run P w = .ok (.mapIter (some c2) since ⟨seen.reverse⟩ st) w := run_getObj q2 (by simp)
        split at hp
        · rename_i es clock hm
          obtain ⟨c3, es', q4, q5, her⟩ := hr.map hm
          rw [q3] at q4; cases q4
          have hgm : (getObj c2).run P w = .ok (.map ⟨es'⟩ clock) w := run_getObj q5 (by simp)
          cases h1 : stillOld seen st es with
          | false => rw [h1] at hp; cases hp
          | true =>
            rw [h1] at hp; simp only [cond_true] at hp
            have hno : (!(⟨seen.reverse⟩ : Array Nat).isEmpty && !(⟨es'⟩ : Array MapEntry).isEmpty && (⟨es'⟩ : Array MapEntry).all (·.born ≥ st)) = false := by
              unfold stillOld at h1
              split at h1
              · simp
              · split at h1
                · simp only [ERs] at her; subst her; simp
                · obtain ⟨e', he', hlt⟩ := anyOld_rel es es' her h1
                  have : (⟨es'⟩ : Array MapEntry).all (fun x => decide (x.born ≥ st)) = false := by
                    rw [Array.all_eq_false]
                    obtain ⟨i, hi, hie⟩ := List.mem_iff_getElem.1 he'
                    exact ⟨i, by simpa using hi, by simp only [List.getElem_toArray, hie]; simpa using hlt⟩
                  simp only [this, Bool.and_false]
            have hleft := leftE_rel (V := V) (seen := seen) (sc := ⟨seen.reverse⟩) (fun n => by rw [memN_eq]; simp) es es' her
            have hfil : (⟨es'⟩ : Array MapEntry).filter (fun e => !(⟨seen.reverse⟩ : Array Nat).contains e.born) = ⟨es'.filter fun e => !(⟨seen.reverse⟩ : Array Nat).contains e.born⟩ := by simp
            split at hp
            · rename_i hle
              cases hp
              rw [hle] at hleft
              simp only [ERs] at hleft
              refine ⟨.tup [.bool false], .value (.tuple #[.bool false]), V, w, rfl, ?_, hr, Ext.refl _ _ _, .inl ⟨_, rfl, over⟩⟩
              have f1 : Array.filter (fun x : MapEntry => decide (x.born < since)) (⟨[]⟩ : Array MapEntry) = #[] := by simp
              have f2 : Array.filter (fun x : MapEntry => decide (x.born ≥ since)) (⟨[]⟩ : Array MapEntry) = #[] := by simp
              simp only [execOp, ho, Instr.next, hpt' c rfl rfl, Sem.run_bind, hgo, hgm, Result.andThen_ok, hno, Bool.false_eq_true, if_false, hfil, hleft, f1, f2]
              have hch : (choose (.mapNext ((if (#[] : Array MapEntry).isEmpty = true then #[none] else #[]) ++ Array.map some (#[] ++ (#[] : Array MapEntry))).size)).run P w = .ok 0 w := run_mapNext_one (by simp)
              simp only [hch, Result.andThen_ok]
              have hget : ((if (#[] : Array MapEntry).isEmpty = true then #[none] else #[]) ++ Array.map some (#[] ++ (#[] : Array MapEntry)))[0]? = some none := by simp
              simp only [hget, Sem.run_pure, Result.andThen_ok]
            · rename_i k y born hle
              rw [hle] at hleft
              obtain ⟨e1, r1, hl1, her1, hr1⟩ := hleft
              simp only [ERs] at hr1
              subst hr1
              cases h2 : Nat.blt born since with
              | false => rw [h2] at hp; cases hp
              | true =>
                rw [h2] at hp; simp only [cond_true] at hp
                cases hp
                have hlt : born < since := Nat.le_of_ble_eq_true h2
                have hb1 : e1.born = born := her1.2.2
                have f1 : Array.filter (fun x : MapEntry => decide (x.born < since)) (⟨[e1]⟩ : Array MapEntry) = #[e1] := by simp [hb1, hlt]
                have f2 : Array.filter (fun x : MapEntry => decide (x.born ≥ since)) (⟨[e1]⟩ : Array MapEntry) = #[] := by simp [hb1]; omega
                obtain ⟨g1, g2⟩ := hr.setObj (y := .miter (some m) since (born :: seen) clock) (o := .mapIter (some c2) since ((⟨seen.reverse⟩ : Array Nat).push e1.born) clock) hb rfl rfl hc
                  ⟨rfl, some c2, by simp [hb1], c2, q3, rfl⟩ (by simp)
                refine ⟨.tup [.bool true, k, y], .value (.tuple #[.bool true, e1.key, e1.val]), V, _, rfl, ?_, g1, g2, .inl ⟨_, rfl, by simp only [VR, VRs]; exact ⟨_, rfl, _, _, rfl, rfl, _, _, rfl, her1.1, _, _, rfl, her1.2.1, rfl⟩⟩⟩
                simp only [execOp, ho, Instr.next, hpt' c rfl rfl, Sem.run_bind, hgo, hgm, Result.andThen_ok, hno, Bool.false_eq_true, if_false, hfil, hl1, f1, f2]
                have hch : (choose (.mapNext ((if (#[e1] : Array MapEntry).isEmpty = true then #[none] else #[]) ++ Array.map some (#[e1] ++ (#[] : Array MapEntry))).size)).run P w = .ok 0 w := run_mapNext_one (by simp)
                simp only [hch, Result.andThen_ok]
                have hget : ((if (#[e1] : Array MapEntry).isEmpty = true then #[none] else #[]) ++ Array.map some (#[e1] ++ (#[] : Array MapEntry)))[0]? = some (some e1) := by simp
                simp only [hget, Sem.run_bind, run_setObj _ q2 (by simp), Result.andThen_ok, Sem.run_pure]
            · split at hp
              · obtain ⟨v, u, w', k1, k2, k3, k4, k5⟩ := famStep_ok (P := P) hr hb rfl rfl hc q2 q3 q5 her (seen := []) (syms := []) rfl (by simp) (by simp) (by simp) (.inl rfl) o.type hp
                exact ⟨v, .value u, V, w', k1, by simp only [execOp, ho, hpt' c rfl rfl, Sem.run_bind, k2, Result.andThen_ok, Sem.run_pure], k3, k4, .inl ⟨u, rfl, k5⟩⟩
              · cases hp
        · cases hp
      · rename_i m since es st k syms hb
        obtain ⟨c1, sh1, ob, q1, q2, rfl, c2, seen, rfl, r1, r2, r3, r4, r5⟩ := hr.blk b _ hb
        rw [hc] at q1; cases q1
        split at hp
        · rename_i es1 clock hm
          obtain ⟨c3, es', q4, q5, her⟩ := hr.map hm
          rw [r1] at q4; cases q4
          cases hcnd : (esEq es es1 && (Nat.beq k 0 || anyOld st es)) with
          | false => rw [hcnd] at hp; cases hp
          | true =>
            rw [hcnd] at hp; simp only [cond_true] at hp
            simp only [Bool.and_eq_true, Bool.or_eq_true] at hcnd
            have := esEq_sound _ _ hcnd.1
            subst this
            have hno : seen = [] ∨ ∃ e ∈ es', ¬ (e.born ≥ st) := by
              rcases hcnd.2 with h1 | h1
              · left
                have := Nat.eq_of_beq_eq_true h1
                subst this
                exact List.length_eq_zero_iff.1 r2
              · exact .inr (anyOld_rel es es' her h1)
            obtain ⟨v, u, w', k1, k2, k3, k4, k5⟩ := famStep_ok (P := P) hr hb rfl rfl hc q2 r1 q5 her r2 r3 r4 r5 hno o.type hp
            exact ⟨v, .value u, V, w', k1, by simp only [execOp, ho, hpt' c rfl rfl, Sem.run_bind, k2, Result.andThen_ok, Sem.run_pure], k3, k4, .inl ⟨u, rfl, k5⟩⟩
        · cases hp
      · cases hp
    · cases hp

theorem XS.entry {P : Program} {o : Oper} {x : Operand} {g : Get} {p : Put} (ho : o.op = .entry x) (e : cOpd x = some g) : XS P o (Ev.xEntry g p) p := by
  have hnd : ∀ c, o.op ≠ .defer c := by rw [ho]; intro c h; cases h
  intro V n fr a h w call r hr
  have rx := cOpd_rel r e
  have old := (VS.entry (P := P) ho e)
  have oldX : (∀ v fr' h', runVal (fEntry g) p call fr h ≠ .pan v fr' h') ∧ ∀ fr' h', runVal (fEntry g) p call fr h = .ok fr' h' → ∃ v nx V' w', fr' = p.run v fr ∧ (execOp a.eval o).run P w = .ok nx w' ∧ HR V' h' w' ∧ Ext V h w V' h' w' ∧ ((∃ u, nx = .value u ∧ VR V' v u) ∨ (nx = .skip ∧ v = .unk)) := by
    refine ⟨fun v fr' h' e => ?_, fun fr' h' e => ?_⟩
    · unfold runVal at e; split at e <;> cases e
    · unfold runVal at e
      split at e
      · rename_i v hv
        cases e
        obtain ⟨u, hu, hvr⟩ := old V n fr a h w v r hr hv
        exact ⟨v, _, V, w, rfl, hu, hr, Ext.refl _ _ _, .inl ⟨u, rfl, hvr⟩⟩
      · cases e
  unfold xEntry
  split
  · rename_i b hg
    rw [hg] at rx; simp only [VR] at rx
    obtain ⟨c, sh, hc, hpt⟩ := rx
    split
    · rename_i m since es st k syms hb
      obtain ⟨c1, sh1, ob, q1, q2, rfl, c2, seen, rfl, r1, r2, r3, r4, r5⟩ := hr.blk b _ hb
      rw [hc] at q1; cases q1
      split
      · rename_i es1 clock ks vs hm hfam
        obtain ⟨c3, es', q4, q5, her⟩ := hr.map hm
        rw [r1] at q4; cases q4
        cases hcnd : (Nat.beq clock st && esEq es es1 && Nat.beq k (Nat.succ syms.length)) with
        | false => exact ⟨fun _ _ _ h => (by cases h), fun _ _ h => (by cases h)⟩
        | true =>
          simp only [cond_true]
          refine ⟨fun _ _ _ h => (by cases h), fun fr' h' hp => ?_⟩
          cases hp
          simp only [Bool.and_eq_true] at hcnd
          obtain ⟨⟨z1, z2⟩, z3⟩ := hcnd
          have z1 := Nat.eq_of_beq_eq_true z1; subst z1
          have := esEq_sound _ _ z2; subst this
          have z3 := Nat.eq_of_beq_eq_true z3
          obtain ⟨hf, h64, hb28, _⟩ := famGo_spec hfam
          obtain ⟨hall, hbn⟩ := famOk_spec es hf
          obtain ⟨m1, m2, m3⟩ := her.mem
          have hsl : seen.length = syms.length + 1 := by rw [r2, z3]
          -- the entry of the last step
          obtain ⟨bn, hbk⟩ : ∃ bn, seen[syms.length]? = some bn := ⟨seen[syms.length]'(by omega), List.getElem?_eq_getElem _⟩
          have hback : (⟨seen⟩ : Array Nat).back? = some bn := by
            have hsz : (⟨seen⟩ : Array Nat).size - 1 = syms.length := by simp [hsl]
            rw [Array.back?, hsz]; simpa using hbk
          obtain ⟨x1, hx1, hxb⟩ := r4 bn (List.mem_of_getElem? hbk)
          obtain ⟨e1, he1, hxe1⟩ := m2 x1 hx1
          obtain ⟨e0, hfind⟩ : ∃ e0, es'.find? (·.born == bn) = some e0 := by
            cases hf0 : es'.find? (·.born == bn) with
            | some e0 => exact ⟨e0, rfl⟩
            | none =>
              rw [List.find?_eq_none] at hf0
              exact absurd (by rw [hxe1.2.2, hxb]; simp) (hf0 e1 he1)
          have he0 : e0 ∈ es' := List.mem_of_find?_eq_some hfind
          have hb0 : e0.born = bn := by simpa using List.find?_some hfind
          obtain ⟨x0, hx0, hxe⟩ := m1 e0 he0
          have hx0b : x0.2.2 = bn := by rw [← hxe.2.2, hb0]
          obtain ⟨hs1, hs2, _⟩ := hall x0 hx0
          obtain ⟨lk, uk, c1', c2', c3', c4', c5', c6'⟩ := symOf_rel hxe.1 hs1
          obtain ⟨lv, uv, d1, d2, d3, d4, d5, d6⟩ := symOf_rel hxe.2.1 hs2
          obtain ⟨g1, g2, g3⟩ := hr.sym hb28 (us := uk ++ uv) (by simp; omega)
          have hsymR : SymR (V.sym (symBase h.ns b) (uk ++ uv)) (symBase h.ns b) x0 := ⟨lk ++ lv, uk ++ uv, by simp [rowOf, c1', d1], (VRs.mono g2.le _ _ c3').append (VRs.mono g2.le _ _ d3), g3⟩
          have hb' : h.bump.get b = some (.fiter m since es clock k syms) := hb
          obtain ⟨k1, k2⟩ := g1.setObj (y := .fiter m since es clock k (syms ++ [symBase h.ns b])) (o := .mapIter (some c2) since ⟨seen⟩ clock) hb' rfl rfl hc
            ⟨rfl, c2, seen, rfl, r1, r2, r3, r4, fun j s bn' hj hsj => by
              by_cases hlt : j < syms.length
              · rw [List.getElem?_append_left hlt] at hj
                obtain ⟨x, hx, hxb', hs⟩ := r5 j s bn' hj hsj
                exact ⟨x, hx, hxb', hs.mono g2.le⟩
              · have hjl : j < (syms ++ [symBase h.ns b]).length := by
                  rcases Nat.lt_or_ge j (syms ++ [symBase h.ns b]).length with h | h
                  · exact h
                  · rw [List.getElem?_eq_none h] at hj; cases hj
                have : j = syms.length := by simp at hjl; omega
                subst this
                simp at hj; subst hj
                rw [hbk] at hsj; cases hsj
                exact ⟨x0, hx0, hx0b, hsymR⟩⟩ (by simp)
          have hheap : ({ w with heap := w.heap.setIfInBounds c (.mapIter (some c2) since ⟨seen⟩ clock) } : World) = w := by
            have : w.heap.setIfInBounds c (.mapIter (some c2) since ⟨seen⟩ clock) = w.heap := by
              apply Array.ext
              · simp
              · intro j h1 h2
                by_cases e : c = j
                · subst e
                  rw [Array.getElem?_eq_getElem h2] at q2
                  simp at q2
                  simp [q2]
                · rw [Array.getElem_setIfInBounds_ne (h := e)]
            rw [this]
          rw [hheap] at k1 k2
          refine ⟨_, .value (.tuple #[e0.key, e0.val]), V.sym (symBase h.ns b) (uk ++ uv), w, rfl, ?_, k1, g2.trans k2, .inl ⟨_, rfl, ?_⟩⟩
          · have hgo : (getObj c).run P w = .ok (.mapIter (some c2) since ⟨seen⟩ clock) w := run_getObj q2 (by simp)
            have hgm : (getObj c2).run P w = .ok (.map ⟨es'⟩ clock) w := run_getObj q5 (by simp)
            have hfA : (⟨es'⟩ : Array MapEntry).find? (fun x => x.born == bn) = some e0 := by simpa using hfind
            have hp' : a.eval x = .pointer (some ⟨c, 0, none⟩) := hpt
            simp only [execOp, ho, Instr.entry, hp', Sem.run_bind, hgo, Result.andThen_ok, hback, hgm, bne_self_eq_false, Bool.false_eq_true, if_false, hfA, Sem.run_pure]
          · simp only [VR, VRs]
            refine ⟨_, rfl, _, _, rfl, c6' _ _ fun i v hv => g3 i v ?_, _, _, rfl, d6 _ _ fun i v hv => ?_, rfl⟩
            · have : i < uk.length := by
                rcases Nat.lt_or_ge i uk.length with h | h
                · exact h
                · rw [List.getElem?_eq_none h] at hv; cases hv
              rw [List.getElem?_append_left this]; exact hv
            · have e3 : Nat.add (symBase h.ns b) (shN ks) + i = symBase h.ns b + (uk.length + i) := by
                rw [c5']; show symBase h.ns b + shN ks + i = _; omega
              rw [e3]
              refine g3 _ v ?_
              rw [List.getElem?_append_right (by omega), Nat.add_sub_cancel_left]; exact hv
      · exact ⟨fun _ _ _ h => (by cases h), fun _ _ h => (by cases h)⟩
    · exact oldX
  · exact ⟨fun _ _ _ h => (by cases h), fun _ _ h => (by cases h)⟩
end Go.Ev
end

section
namespace Go.Ev

theorem HR.readU {V : Val} {h : H} {w : World} (r : HR V h w) {b off n c sh : Nat} {l : List AV} (hc : V.ρ b = some (c, sh)) (e : h.read b off n = some l) :
    ∃ us : List Value, us.length = n ∧ VRs V l us ∧ (∀ u ∈ us, u.oneCell' = true) ∧ ∀ j v, us[j]? = some v → w.cell? ⟨c, sh + off + j, none⟩ = some v := by
  obtain ⟨h1, h2⟩ := r.read hc e
  have key : ∀ (l : List AV) (k : Nat), (∀ (i : Nat) (x : AV), l[i]? = some x → ∃ u, w.cell? ⟨c, sh + off + (k + i), none⟩ = some u ∧ CR V x u) →
      ∃ us : List Value, us.length = l.length ∧ VRs V l us ∧ (∀ u ∈ us, u.oneCell' = true) ∧ ∀ j v, us[j]? = some v → w.cell? ⟨c, sh + off + (k + j), none⟩ = some v := by
    intro l
    induction l with
    | nil => intro k _; exact ⟨[], rfl, by simp [VRs], by simp, fun j v h => by simp at h⟩
    | cons x r ih =>
      intro k hl
      obtain ⟨u, hu, hcr⟩ := hl 0 x rfl
      obtain ⟨us, q1, q2, q3, q4⟩ := ih (k + 1) fun i y hy => by
        have := hl (i + 1) y (by simpa using hy)
        rwa [show k + (i + 1) = k + 1 + i by omega] at this
      refine ⟨u :: us, by simp [q1], by simp only [VRs]; exact ⟨u, us, rfl, hcr.1, q2⟩, ?_, fun j v hj => ?_⟩
      · intro y hy
        rcases List.mem_cons.1 hy with rfl | hy
        · exact hcr.2
        · exact q3 y hy
      · cases j with
        | zero => simp at hj; subst hj; exact hu
        | succ j =>
          have := q4 j v (by simpa using hj)
          rwa [show k + 1 + j = k + (j + 1) by omega] at this
  obtain ⟨us, q1, q2, q3, q4⟩ := key l 0 fun i x hx => by have := h2 i x hx; rwa [Nat.zero_add]
  exact ⟨us, q1.trans h1, q2, q3, fun j v hj => by have := q4 j v hj; rwa [Nat.zero_add] at this⟩
/-- what an append adds -/
theorem addCells_rel {P : Program} {V : Val} {h : H} {w : World} (hr : HR V h w) {size n tx : Nat} {x : AV} {u : Value} {new : List AV} (rx : VR V x u) (e : addCells size h x = some (n, new))
    (hk : (∃ e', P.underlying tx = some (.slice e')) ∨ P.underlying tx = some .string) : ∃ news, VRs V new news ∧ Src P size tx u n news w := by
  have nil0 : ∀ (w : World) a, (loadCells a 0).run P w = .ok #[] w := fun _ _ => rfl
  unfold addCells at e
  split at e
  · simp only [VR] at rx; subst rx; cases e
    exact ⟨[], by simp [VRs], hk, fun _ => rfl, rfl, rfl, by simp, by simp⟩
  · simp only [VR] at rx
    obtain ⟨c, sh, o, cap', _, rfl, _⟩ := rx; cases e
    refine ⟨[], by simp [VRs], hk, fun _ => rfl, ?_, ?_, by simp, by simp⟩
    · simp only [Builtin.firstCells, Nat.zero_mul, nil0]
    · simp only [Builtin.firstCells, Nat.zero_mul, nil0]
  · rename_i b off len cap ex
    simp only [VR] at rx
    obtain ⟨c, sh, cap', hc, rfl, _⟩ := rx
    split at e
    · rename_i l hl
      cases e
      obtain ⟨us, q1, q2, q3, q4⟩ := hr.readU hc hl
      have q1' : us.length = n * size := q1
      have ld : ∀ w' : World, (∀ a, w'.cell? a = w.cell? a) → (loadCells ⟨c, sh + off, none⟩ (n * size)).run P w' = .ok us.toArray w' := fun w' hw => by
        have := run_loadCells_list (P := P) w' ⟨c, sh + off, none⟩ us (fun j v hj => by rw [addr_add, hw]; exact q4 j v hj)
        rwa [q1'] at this
      refine ⟨us, q2, hk, fun _ => rfl, ?_, ?_, q1', q3⟩
      · simp only [Builtin.firstCells]; exact ld w fun _ => rfl
      · simp only [Builtin.firstCells]; exact ld w.drew fun _ => rfl
    · cases e
  · rename_i len m
    simp only [VR] at rx
    obtain ⟨s, rfl, hsr⟩ := rx
    cases hs : Nat.beq size 1 with
    | false => rw [hs] at e; cases e
    | true =>
      rw [hs] at e; cases e
      have hs1 := Nat.eq_of_beq_eq_true hs
      subst hs1
      obtain ⟨b1, b2⟩ := strBytes_rel hsr V
      refine ⟨byteCells s, b1, hk, fun _ => by rw [← hsr.size]; rfl, ?_, ?_, ?_, ?_⟩
      · have := firstCells_string (P := P) s w; rw [hsr.size] at this; exact this
      · have := firstCells_string (P := P) s w.drew; rw [hsr.size] at this; exact this
      · rw [byteCells_length, Nat.mul_one]; exact hsr.size
      · intro u hu; obtain ⟨_, _, rfl⟩ := List.mem_map.1 hu; rfl
  · cases e

/-- there is room -/
theorem run_append_fits {P : Program} {w w' : World} {t tx ty e : Nat} {i : TypeInfo} (ht : P.underlying t = some (.slice e)) (hi : P.info? e = some i) {b off sLen sCap : Nat} {x : Value} {n : Nat} {news : List Value} (hs : Src P i.size tx x n news w)
    (hroom : sLen + n ≤ sCap) (hst : (storeCells ⟨b, off + sLen * i.size, none⟩ news).run P w = .ok () w') :
    (Builtin.append_ #[t, tx] ty #[.slice (some ⟨b, off, none⟩) sLen sCap, x]).run P w = .ok (.slice (some ⟨b, off, none⟩) (sLen + n) sCap) w' := by
  rcases hs.kind with ⟨e', hk⟩ | hk <;> simp [Builtin.append_, run_underlying ht, run_underlying hk, sizeOf, typeInfo, hi, hs.len, hroom, hs.cells, Addr.add_lit, hst]
theorem growBy_le (newLen : Nat) : ∀ (k c : Nat), c ≤ newLen + (newLen + 768) / 4 → Builtin.growBy newLen k c ≤ newLen + (newLen + 768) / 4 := by
  intro k
  induction k with
  | zero => intro c h; exact h
  | succ k ih =>
    intro c h
    simp only [Builtin.growBy]
    split
    · exact h
    · exact ih _ (by omega)
theorem nextslicecap_le {need cap : Nat} (h : cap < need) (hn : need ≤ 1000000) : Builtin.nextslicecap need cap ≤ 2000000 := by
  unfold Builtin.nextslicecap
  split
  · omega
  · split
    · omega
    · have := growBy_le need 4 cap (by omega)
      omega
theorem zeroCells_size (z : Array Value) (n : Nat) : (Builtin.zeroCells z n).size = n * z.size := by simp [Builtin.zeroCells]
/-- there is none: a new row -/
theorem grow_rel {P : Program} {V : Val} {h : H} {w : World} (_hr : HR V h w) {t tx ty el : Nat} {ei : TI} {z : List AV} (ht : P.underlying t = some (.slice el)) (ti : TIS P el ei) (hz : ei.z = some z) {base : Option Addr} {sLen sCap n : Nat} {olds news : List Value} {x : Value}
    (hold : (Builtin.firstCells ei.size sLen (.slice base sLen sCap)).run P w.drew = .ok olds.toArray w.drew) (hs : Src P ei.size tx x n news w) (ho1 : ∀ u ∈ olds, u.oneCell' = true) (hol : olds.length = sLen * ei.size) {old new : List AV} (ro : VRs V old olds) (rn : VRs V new news)
    (hg : sCap < sLen + n) (hn : sLen + n ≤ 1000000) {x' : AB} {anc : List Nat} {st : St} (hx : x' = .cells el (old ++ new) anc st) (hst : st = .op ∨ st = .so) :
    ∃ cells : Array Value, cells.size = (grownCap w (sLen + n) sCap el) * ei.size ∧ sLen + n ≤ grownCap w (sLen + n) sCap el ∧
      (Builtin.append_ #[t, tx] ty #[.slice base sLen sCap, x]).run P w = .ok (.slice (some ⟨w.heap.size, 0, none⟩) (sLen + n) (grownCap w (sLen + n) sCap el)) { w.drew with heap := w.heap.push (.cells cells el) } ∧
      ∀ V', V.le V' → BR V' x' 0 (.cells cells el) := by
  obtain ⟨i, zv, zl, i1, i2, i3, i4, i5, i6, i7, i8⟩ := ti.zero_info hz V
  rw [← i2] at hold hs hol
  have hfit : Builtin.nextslicecap (sLen + n) sCap * i.bytes ≤ 281474976710656 := by
    have h1 := nextslicecap_le hg hn
    have := Nat.mul_le_mul h1 i3
    omega
  have hrun := run_append_grow_src (P := P) w t tx ty el i zv ht i1 i4 base sLen sCap olds hold x n news hs hg (by omega) hfit
  have hge : sLen + n ≤ grownCap w (sLen + n) sCap el := Nat.le_add_right _ _
  refine ⟨_, ?_, hge, hrun, fun V' hle => ?_⟩
  · have hzs : zv.cells.size = i.size := by rw [i5, List.size_toArray, i6.length, i8, i2]
    simp only [Array.size_append, List.size_toArray, List.length_append, zeroCells_size, hol, hs.newsLen, hzs, i2]
    rw [← Nat.add_mul, ← Nat.add_mul]
    congr 1; omega
  · subst hx
    refine ⟨_, _, rfl, ?_, fun _ j _ h => by simp only at h; omega, by rcases hst with rfl | rfl <;> simp⟩
    rw [List.drop_zero, Array.toList_append]
    exact CRs.of_prefix ((VRs.mono hle _ _ ro).append (VRs.mono hle _ _ rn)) (by
      intro u hu
      rcases List.mem_append.1 hu with hu | hu
      · exact ho1 u hu
      · exact hs.one u hu)
end Go.Ev
end

section
namespace Go.Ev

theorem HR.fork {V : Val} {h : H} {w : World} (hr : HR V h w) {b el c sh off : Nat} {l old new : List AV} {anc : List Nat} {st : St} {cs : Array Value} {fz : Nat × Nat} {news : List Value}
    (hb : h.get b = some (.cells el l anc st)) (hwr : st.wr = true) (hc : V.ρ b = some (c, sh)) (ho : w.heap[c]? = some (.cells cs el fz)) (hold : old = l.drop off) (hoff : off ≤ l.length) (hfit : sh + l.length + news.length ≤ cs.size)
    (rn : VRs V new news) (h1 : ∀ u ∈ news, u.oneCell' = true) :
    HR (V.bind h.nx (c, sh + off) (V.cz c)) ((h.put b (.cells el l anc .fk)).new (.cells el (old ++ new) (b :: anc) (bif Nat.beq off 0 then st else .so))) { w with heap := w.heap.setIfInBounds c (.cells (overA news (sh + l.length) cs) el fz) } ∧
    Ext V h w (V.bind h.nx (c, sh + off) (V.cz c)) ((h.put b (.cells el l anc .fk)).new (.cells el (old ++ new) (b :: anc) (bif Nat.beq off 0 then st else .so))) { w with heap := w.heap.setIfInBounds c (.cells (overA news (sh + l.length) cs) el fz) } := by
  have hlt := hr.lt b c sh hc
  have hnx : V.ρ h.nx = none := hr.nx _ (Nat.le_refl _)
  have hle : V.le (V.bind h.nx (c, sh + off) (V.cz c)) := Val.le_bind hnx (.inr rfl)
  obtain ⟨c0, sh0, o0, hc0, ho0, cs0, fz0, rfl, hcr, hfz, hsh⟩ := hr.blk b _ hb
  rw [hc] at hc0; cases hc0
  rw [ho] at ho0; cases ho0
  have hsz : (overA news (sh + l.length) cs).size = cs.size := overA_size ..
  have hget := overA_get news (sh + l.length) cs hfit
  -- a cell below the end is what it was
  have below : ∀ j, j < sh + l.length → (overA news (sh + l.length) cs)[j]? = cs[j]? := fun j hj => by rw [hget j, if_neg (by omega)]
  have hbn : b ≠ h.nx := fun e => by rw [e, hnx] at hc; cases hc
  have hget' : ∀ b' y, ((h.put b (.cells el l anc .fk)).new (.cells el (old ++ new) (b :: anc) (bif Nat.beq off 0 then st else .so))).get b' = some y →
      (b' = h.nx ∧ y = .cells el (old ++ new) (b :: anc) (bif Nat.beq off 0 then st else .so)) ∨ (b' ≠ h.nx ∧ b' = b ∧ y = .cells el l anc .fk) ∨ (b' ≠ h.nx ∧ b' ≠ b ∧ h.get b' = some y) := by
    intro b' y e
    rcases T.get_put (h.put b (.cells el l anc .fk)).t (h.put b (.cells el l anc .fk)).nx (some _) b' y e with ⟨e1, e2⟩ | ⟨e1, e2⟩
    · exact .inl ⟨e1, (Option.some.inj e2).symm⟩
    · rcases h.get_put b _ b' y e2 with ⟨e3, e4⟩ | ⟨e3, e4⟩
      · exact .inr (.inl ⟨e1, e3, e4.symm⟩)
      · exact .inr (.inr ⟨e1, e3, e4⟩)
  -- others that share
  have shared : ∀ b' y sh', h.get b' = some y → b' ≠ b → V.ρ b' = some (c, sh') → b' ∈ anc ∧ y.isFk = true ∧ sh' + y.len ≤ sh + l.length := by
    intro b' y sh' e hne hc'
    rcases hr.ali b b' _ y c sh sh' hb e (fun e => hne e.symm) hc hc' with ⟨_, e2, _⟩ | h2
    · cases st <;> simp [AB.isFk, St.wr] at e2 hwr
    · exact h2
  refine ⟨⟨fun b' y e => ?_, fun b1 b2 x1 x2 c1 s1 s2 e1 e2 hne hc1 hc2 => ?_, fun b' hb' => ?_, fun b' c' sh' e => ?_, hr.ns, fun b' c' sh' a el' fz' e ho' => ?_, hr.glo.1.set (fun e => by subst e; exact hr.glo.2 _ _ hc) _, fun b' sh' e => (by
    by_cases hbq : b' = h.nx
    · subst hbq; rw [Val.bind_self] at e; cases e; exact hr.glo.2 _ _ hc
    · rw [Val.bind_ne _ _ hbq] at e; exact hr.glo.2 b' sh' e)⟩, ⟨hle, by simp, fun c' hc' hn => ⟨by rw [Array.getElem?_setIfInBounds_ne (fun e => by subst e; exact hn b _ sh hb hc)], fun b' y' sh' hy e => ?_⟩, rfl, rfl, rfl, Nat.le_refl _, Nat.le_succ _, fun b' hb' hn => by rw [Val.bind_ne _ _ (Nat.ne_of_lt hb')]; exact hn⟩⟩
  · rcases hget' b' y e with ⟨rfl, rfl⟩ | ⟨e1, rfl, rfl⟩ | ⟨e1, e2, e3⟩
    · refine ⟨c, sh + off, .cells (overA news (sh + l.length) cs) el fz, Val.bind_self .., by simp [hlt], _, _, rfl, fun i x hx => ?_, fun _ i hi => by rw [hsz] at hi; exact hfz hwr i hi, ?_⟩
      · have hg : ((overA news (sh + l.length) cs).toList.drop (sh + off))[i]? = (overA news (sh + l.length) cs)[sh + off + i]? := by simp
        rw [hg]
        subst hold
        by_cases hi : i < (l.drop off).length
        · rw [List.getElem?_append_left hi] at hx
          simp only [List.getElem?_drop] at hx
          rw [List.length_drop] at hi
          rw [below _ (by omega)]
          obtain ⟨u, hu, hv⟩ := hcr (off + i) x hx
          exact ⟨u, by rw [List.getElem?_drop] at hu; simpa [Nat.add_assoc] using hu, hv.mono hle⟩
        · rw [List.getElem?_append_right (by omega)] at hx
          obtain ⟨u, hu, hv⟩ := rn.get _ x hx
          rw [List.length_drop] at hx hu hi
          have hlt2 : i - (l.length - off) < news.length := by
            rcases Nat.lt_or_ge (i - (l.length - off)) news.length with h | h
            · exact h
            · rw [List.getElem?_eq_none h] at hu; cases hu
          refine ⟨u, ?_, VR.mono hle _ _ hv, h1 u (List.mem_of_getElem? hu)⟩
          rw [hget, if_pos (by omega), show sh + off + i - (sh + l.length) = i - (l.length - off) by omega]
          exact hu
      · cases h0 : Nat.beq off 0 with
        | true =>
          have := Nat.eq_of_beq_eq_true h0
          subst this
          simp only [cond_true]
          cases st <;> simp only at hsh ⊢
          omega
        | false => simp only [cond_false]
    · refine ⟨c, sh, .cells (overA news (sh + l.length) cs) el fz, by rw [Val.bind_ne _ _ e1]; exact hc, by simp [hlt], _, _, rfl, fun i x hx => ?_, fun h => by simp [St.wr] at h, trivial⟩
      have hg : ((overA news (sh + l.length) cs).toList.drop sh)[i]? = (overA news (sh + l.length) cs)[sh + i]? := by simp
      have hil : i < l.length := by
        rcases Nat.lt_or_ge i l.length with h | h
        · exact h
        · rw [List.getElem?_eq_none h] at hx; cases hx
      rw [hg, below _ (by omega)]
      obtain ⟨u, hu, hv⟩ := hcr i x hx
      exact ⟨u, by simpa using hu, hv.mono hle⟩
    · obtain ⟨c2, sh2, o2, hc2, ho2, hbr⟩ := hr.blk b' y e3
      by_cases hcc : c2 = c
      · subst hcc
        obtain ⟨_, hfk, hext⟩ := shared b' y sh2 e3 e2 hc2
        rw [ho] at ho2; cases ho2
        cases y <;> simp only [AB.isFk, Bool.false_eq_true] at hfk
        rename_i el2 l2 anc2 st2
        cases st2 <;> simp only [Bool.false_eq_true] at hfk
        obtain ⟨cs2, fz2, e4, hcr2, _⟩ := hbr
        cases e4
        refine ⟨c2, sh2, .cells (overA news (sh + l.length) cs) el fz, by rw [Val.bind_ne _ _ e1]; exact hc2, by simp [hlt], _, _, rfl, fun i x hx => ?_, fun h => by simp [St.wr] at h, trivial⟩
        have hg : ((overA news (sh + l.length) cs).toList.drop sh2)[i]? = (overA news (sh + l.length) cs)[sh2 + i]? := by simp
        have hil : i < l2.length := by
          rcases Nat.lt_or_ge i l2.length with h | h
          · exact h
          · rw [List.getElem?_eq_none h] at hx; cases hx
        simp only [AB.len] at hext
        rw [hg, below _ (by omega)]
        obtain ⟨u, hu, hv⟩ := hcr2 i x hx
        exact ⟨u, by simpa using hu, hv.mono hle⟩
      · exact ⟨c2, sh2, o2, by rw [Val.bind_ne _ _ e1]; exact hc2, by rw [Array.getElem?_setIfInBounds_ne (fun e => hcc e.symm)]; exact ho2, hbr.mono hle⟩
  · have lenid : sh + off + (old ++ new).length ≥ sh + l.length := by subst hold; simp only [List.length_append, List.length_drop]; omega
    rcases hget' b1 x1 e1 with ⟨rfl, rfl⟩ | ⟨q1, rfl, rfl⟩ | ⟨q1, q2, q3⟩ <;> rcases hget' b2 x2 e2 with ⟨rfl, rfl⟩ | ⟨p1, rfl, rfl⟩ | ⟨p1, p2, p3⟩
    · exact absurd rfl hne
    · rw [Val.bind_self] at hc1; cases hc1
      rw [Val.bind_ne _ _ p1, hc] at hc2; cases hc2
      exact .inr ⟨by simp [AB.anc], rfl, by simp only [AB.len]; omega⟩
    · rw [Val.bind_self] at hc1; cases hc1
      rw [Val.bind_ne _ _ p1] at hc2
      obtain ⟨g1, g2, g3⟩ := shared b2 x2 s2 p3 p2 hc2
      exact .inr ⟨by simp [AB.anc, g1], g2, by simp only [AB.len] at *; omega⟩
    · rw [Val.bind_self] at hc2; cases hc2
      rw [Val.bind_ne _ _ q1, hc] at hc1; cases hc1
      exact .inl ⟨by simp [AB.anc], rfl, by simp only [AB.len]; omega⟩
    · exact absurd rfl hne
    · rw [Val.bind_ne _ _ q1, hc] at hc1; cases hc1
      rw [Val.bind_ne _ _ p1] at hc2
      obtain ⟨g1, g2, g3⟩ := shared b2 x2 s2 p3 p2 hc2
      exact .inr ⟨g1, g2, by simpa only [AB.len] using g3⟩
    · rw [Val.bind_self] at hc2; cases hc2
      rw [Val.bind_ne _ _ q1] at hc1
      obtain ⟨g1, g2, g3⟩ := shared b1 x1 s1 q3 q2 hc1
      exact .inl ⟨by simp [AB.anc, g1], g2, by simp only [AB.len] at *; omega⟩
    · rw [Val.bind_ne _ _ p1, hc] at hc2; cases hc2
      rw [Val.bind_ne _ _ q1] at hc1
      obtain ⟨g1, g2, g3⟩ := shared b1 x1 s1 q3 q2 hc1
      exact .inl ⟨g1, g2, by simpa only [AB.len] using g3⟩
    · rw [Val.bind_ne _ _ q1] at hc1
      rw [Val.bind_ne _ _ p1] at hc2
      exact hr.ali b1 b2 x1 x2 c1 s1 s2 q3 p3 hne hc1 hc2
  · have hb2 : h.nx + 1 ≤ b' := hb'
    rw [Val.bind_ne _ _ (by omega)]; exact hr.nx b' (by omega)
  · simp only [Array.size_setIfInBounds]
    by_cases hbq : b' = h.nx
    · subst hbq; rw [Val.bind_self] at e; cases e; exact hlt
    · rw [Val.bind_ne _ _ hbq] at e; exact hr.lt b' c' sh' e
  · have hczs : ∀ c', (V.bind h.nx (c, sh + off) (V.cz c)).cz c' = V.cz c' := by intro c'; simp only [Val.bind]; split <;> simp_all
    rw [hczs]
    by_cases hcc : c = c'
    · subst hcc
      simp only [Array.getElem?_setIfInBounds, if_true, hlt, Option.some.injEq] at ho'
      cases ho'
      rw [hsz]; exact hr.cz b c sh _ _ _ hc ho
    · rw [Array.getElem?_setIfInBounds_ne hcc] at ho'
      by_cases hbq : b' = h.nx
      · subst hbq; rw [Val.bind_self] at e; cases e; exact absurd rfl hcc
      · rw [Val.bind_ne _ _ hbq] at e; exact hr.cz b' c' sh' a el' fz' e ho'
  · by_cases hbq : b' = h.nx
    · subst hbq; rw [Val.bind_self] at e; cases e; exact hn b _ sh hb hc
    · rw [Val.bind_ne _ _ hbq] at e
      rcases hget' b' y' hy with ⟨e1, _⟩ | ⟨_, rfl, _⟩ | ⟨_, _, e3⟩
      · exact hbq e1
      · exact hn b' _ sh' hb e
      · exact hn b' y' sh' e3 e
end Go.Ev
end

section
namespace Go.Ev

/-- append, when it stays within the row or goes into a new one -/
theorem append_fork {P : Program} {V : Val} {h : H} {w : World} (hr : HR V h w) {t tx ty el : Nat} {ei : TI} {z : List AV} (ht : P.underlying t = some (.slice el)) (ti : TIS P el ei) (hz : ei.z = some z) (hsz : ei.size ≠ 0)
    {b c sh off len n cap' : Nat} {l old new : List AV} {anc : List Nat} {st : St} {news : List Value} {x : Value} {o' : Nat} (hb : h.get b = some (.cells el l anc st)) (hwr : st.wr = true) (hc : V.ρ b = some (c, sh))
    (hold : old = l.drop off) (hend : l.length = off + len * ei.size) (rn : VRs V new news) (hs : Src P ei.size tx x n news w) (hn : len + n ≤ 1000000) (hroom : 0 < cap' → o' = sh + off ∧ sh + off + cap' * ei.size ≤ V.cz c) (hlc : len ≤ cap') (hn0 : 0 < n) :
    ∃ V' w' u, (Builtin.append_ #[t, tx] ty #[.slice (some ⟨c, o', none⟩) len cap', x]).run P w = .ok u w' ∧
      HR V' ((h.put b (.cells el l anc .fk)).new (.cells el (old ++ new) (b :: anc) (bif Nat.beq off 0 then st else .so))) w' ∧ Ext V h w V' ((h.put b (.cells el l anc .fk)).new (.cells el (old ++ new) (b :: anc) (bif Nat.beq off 0 then st else .so))) w' ∧ VR V' (.slc h.nx 0 (len + n) (len + n) ei.size) u := by
  obtain ⟨c0, sh0, cs, fz, q1, q2, q3, q4, q5, q6⟩ := hr.cells hb
  rw [hc] at q1; cases q1
  obtain ⟨i, zv, zl, i1, i2, i3, i4, i5, i6, i7, i8⟩ := ti.zero_info hz V
  have hcz := hr.cz b c sh _ _ _ hc q2
  by_cases hfit : len + n ≤ cap'
  · obtain ⟨rfl, hrm⟩ := hroom (by omega)
    have hm1 : (len + n) * ei.size ≤ cap' * ei.size := Nat.mul_le_mul_right _ hfit
    have hm2 : (len + n) * ei.size = len * ei.size + n * ei.size := Nat.add_mul ..
    have hnl := hs.newsLen
    have hcap : sh + l.length + news.length ≤ cs.size := by rw [hcz, hnl, hend]; omega
    obtain ⟨g1, g2⟩ := hr.fork hb hwr hc q2 hold (by omega) hcap rn hs.one
    have hst := run_storeCells (P := P) c (sh + l.length) cs el fz news 0 w q2 (fun _ => by simpa using hcap) (q4 hwr) hs.one
    refine ⟨_, _, .slice (some ⟨c, sh + off, none⟩) (len + n) cap', ?_, g1, g2, ?_⟩
    · refine run_append_fits ht i1 (by rw [i2]; exact hs) hfit ?_
      rw [i2, show sh + off + len * ei.size = sh + l.length by rw [hend]; omega]
      simpa using hst
    · simp only [VR]
      refine ⟨c, sh + off, cap', Val.bind_self .., rfl, hfit, fun h => absurd h hsz, fun _ => ?_⟩
      simp only [Val.bind, if_true]
      omega
  · -- a new row
    have hg : cap' < len + n := by omega
    -- what was there
    have hol : ∃ olds : List Value, olds.length = len * ei.size ∧ VRs V old olds ∧ (∀ u ∈ olds, u.oneCell' = true) ∧ (Builtin.firstCells ei.size len (.slice (some ⟨c, o', none⟩) len cap')).run P w.drew = .ok olds.toArray w.drew := by
      have hoe : old = l.drop off := hold
      have hread : h.read b off (len * ei.size) = some old := by
        unfold H.read; rw [hb]; simp only
        rw [ldrop_eq, hoe]
        have : ∀ (l : List AV) n, l.length = n → ltake n l = some l := by
          intro l
          induction l with
          | nil => intro n hn; subst hn; rfl
          | cons a r ih => intro n hn; subst hn; simp only [List.length_cons, ltake, ih r.length rfl]
        exact this _ _ (by rw [List.length_drop]; omega)
      obtain ⟨us, u1, u2, u3, u4⟩ := hr.readU hc hread
      refine ⟨us, u1, u2, u3, ?_⟩
      simp only [Builtin.firstCells]
      rcases Nat.eq_zero_or_pos cap' with h0 | h0
      · have : len = 0 := by omega
        subst this
        have : us = [] := List.length_eq_zero_iff.1 (by rw [u1]; omega)
        subst this
        rw [Nat.zero_mul]; rfl
      · obtain ⟨rfl, _⟩ := hroom h0
        have := run_loadCells_list (P := P) w.drew ⟨c, sh + off, none⟩ us (fun j v hj => by rw [addr_add]; exact u4 j v hj)
        rw [u1] at this; exact this
    obtain ⟨olds, o1, o2, o3, o4⟩ := hol
    obtain ⟨cells, k1, k2, k3, k4⟩ := grow_rel (P := P) hr (tx := tx) (ty := ty) ht ti hz o4 hs o3 o1 o2 rn hg hn (x' := .cells el (old ++ new) [] (bif Nat.beq off 0 then st else .so)) rfl (by cases Nat.beq off 0 <;> cases st <;> simp [St.wr] at hwr ⊢)
    -- the parent is closed first
    have hrp : HR V (h.put b (.cells el l anc .fk)) w.drew := by
      refine ⟨fun b' y e => ?_, fun b1 b2 x1 x2 c1 s1 s2 e1 e2 hne hc1 hc2 => ?_, hr.nx, hr.lt, hr.ns, hr.cz, hr.glo⟩
      · rcases h.get_put b _ b' y e with ⟨e3, e4⟩ | ⟨e3, e4⟩
        · subst e3; subst e4
          obtain ⟨c2, sh2, o2, p1, p2, cs2, fz2, rfl, p3, p4⟩ := hr.blk b' _ hb
          exact ⟨c2, sh2, _, p1, p2, cs2, fz2, rfl, p3, fun h => by simp [St.wr] at h, trivial⟩
        · exact hr.blk b' y e4
      · have nfk : (AB.cells el l anc st).isFk = false := by cases st <;> simp [AB.isFk, St.wr] at hwr ⊢
        rcases h.get_put b _ b1 x1 e1 with ⟨e3, e4⟩ | ⟨e3, e4⟩ <;> rcases h.get_put b _ b2 x2 e2 with ⟨e5, e6⟩ | ⟨e5, e6⟩
        · exact absurd (e3.trans e5.symm) hne
        · subst e3; subst e4
          rcases hr.ali b1 b2 _ x2 c1 s1 s2 hb e6 hne hc1 hc2 with ⟨_, f, _⟩ | g
          · rw [nfk] at f; cases f
          · exact .inr g
        · subst e5; subst e6
          rcases hr.ali b1 b2 x1 _ c1 s1 s2 e4 hb hne hc1 hc2 with g | ⟨_, f, _⟩
          · exact .inl g
          · rw [nfk] at f; cases f
        · exact hr.ali b1 b2 x1 x2 c1 s1 s2 e4 e6 hne hc1 hc2
    have hbr := k4 (V.bind h.nx (w.heap.size, 0) (objCells (.cells cells el))) (Ext.alloc hr .defd _).le
    have hbr' : BR (V.bind h.nx (w.heap.size, 0) (objCells (.cells cells el))) (.cells el (old ++ new) (b :: anc) (bif Nat.beq off 0 then st else .so)) 0 (.cells cells el) := hbr
    refine ⟨_, _, _, k3, hrp.alloc' (.cells el (old ++ new) (b :: anc) (bif Nat.beq off 0 then st else .so)) _ hbr', (Ext.drew V _ w _).trans ((Ext.put V _ hb _).trans (Ext.alloc hrp _ _)), ?_⟩
    simp only [VR]
    refine ⟨w.heap.size, 0, _, Val.bind_self .., rfl, k2, fun h => absurd h hsz, fun _ => ?_⟩
    simp [Val.bind, objCells, k1]

theorem XS.append {P : Program} {o : Oper} {c : Go.Call} {t tx el : Nat} {gs gx : Get} {p : Put} {ei : TI} {z : List AV} (ho : o.op = .call c) (hb : c.callee = .builtin .append) (e : cOpds c.args.toList = some [gs, gx]) (ht0 : c.argTypes = #[t, tx])
    (ht : P.underlying t = some (.slice el)) (ti : TIS P el ei) (hz : ei.z = some z) (hsz : ei.size ≠ 0) (hk : (∃ e', P.underlying tx = some (.slice e')) ∨ P.underlying tx = some .string) : XS P o (Ev.xAppend el ei.size gs gx p) p := by
  refine XS.b2 ho hb e (S := fun u v => Builtin.append_ c.argTypes o.type #[u, v]) (fun _ _ _ => rfl) fun V n fr h w call u u' hr rs rx => ?_
  constructor
  · intro v fr' h' hp
    unfold xAppend at hp
    simp only [Bool.cond_eq_ite] at hp
    repeat' (split at hp)
    all_goals first
      | (cases hp; done)
      | (have := alloc_pan hp; cases this)
  · intro fr' h' hp
    rw [ht0]
    unfold xAppend at hp
    cases ha : addCells ei.size h (gx.run fr) with
    | none => rw [ha] at hp; cases hp
    | some nn =>
      obtain ⟨n, new⟩ := nn
      rw [ha] at hp
      simp only at hp
      obtain ⟨news, rn, hs⟩ := addCells_rel (P := P) hr rx ha hk
      obtain ⟨i, zv, zl, i1, i2, i3, i4, i5, i6, i7, i8⟩ := ti.zero_info hz V
      have nothing : ∀ (base : Option Addr) (sLen sCap : Nat), sLen ≤ sCap → n = 0 → (Builtin.append_ #[t, tx] o.type #[.slice base sLen sCap, u']).run P w = .ok (.slice base sLen sCap) w := by
        intro base sLen sCap hle h0
        subst h0
        have hnews : news = [] := List.length_eq_zero_iff.1 (by rw [hs.newsLen, Nat.zero_mul])
        subst hnews
        exact run_append_nothing (P := P) w t tx o.type el i ht i1 base sLen sCap hle u' (by rw [i2]; exact hs)
      split at hp
      · -- empty, at the end
        rename_i b off es hg
        rw [hg] at rs; simp only [VR] at rs
        obtain ⟨cc, sh, oo, cap', hc, rfl, hroom⟩ := rs
        cases hn0 : Nat.beq n 0 with
        | true =>
          rw [hn0] at hp; cases hp
          have h0 := Nat.eq_of_beq_eq_true hn0
          exact ⟨.sle b off es, _, V, w, rfl, nothing _ _ _ (Nat.zero_le _) h0, hr, Ext.refl _ _ _, by simp only [VR]; exact ⟨cc, sh, oo, cap', hc, rfl, hroom⟩⟩
        | false =>
          rw [hn0] at hp; simp only [cond_false] at hp
          have hnp : 0 < n := Nat.pos_of_ne_zero fun h => by subst h; simp at hn0
          cases hbig : Nat.blt 1000000 n with
          | true => rw [hbig] at hp; cases hp
          | false =>
            rw [hbig] at hp; simp only [cond_false] at hp
            have hle : n ≤ 1000000 := Nat.le_of_not_lt fun h => by
              have : Nat.blt 1000000 n = true := Nat.ble_eq_true_of_le h
              rw [this] at hbig; cases hbig
            split at hp
            · rename_i el' l anc st hbk
              cases hcond : (st.wr && Nat.beq el' el && Nat.beq l.length off && Nat.beq es ei.size) with
              | false => rw [hcond] at hp; cases hp
              | true =>
                rw [hcond] at hp; simp only [cond_true] at hp
                simp only [Bool.and_eq_true] at hcond
                obtain ⟨⟨⟨c1, c2⟩, c3⟩, c4⟩ := hcond
                have c2 := Nat.eq_of_beq_eq_true c2; subst c2
                have c3 := Nat.eq_of_beq_eq_true c3
                have c4 := Nat.eq_of_beq_eq_true c4; subst c4
                obtain ⟨_, hp⟩ := alloc_ok hp
                cases hp
                obtain ⟨V', w', z', g1, g2, g3, g4⟩ := append_fork (P := P) hr (tx := tx) (ty := o.type) ht ti hz hsz (len := 0) (old := []) hbk c1 hc (by rw [c3.symm]; simp) (by rw [c3]; simp) rn hs (by omega) hroom (Nat.zero_le _) hnp
                rw [Nat.zero_add] at g4
                exact ⟨_, z', V', w', rfl, g1, g2, g3, g4⟩
            · cases hp
      · -- nil
        rename_i hg
        rw [hg] at rs; simp only [VR] at rs
        subst rs
        cases hn0 : Nat.beq n 0 with
        | true =>
          rw [hn0] at hp; cases hp
          have h0 := Nat.eq_of_beq_eq_true hn0
          exact ⟨.nils, _, V, w, rfl, nothing _ _ _ (Nat.le_refl _) h0, hr, Ext.refl _ _ _, by simp [VR]⟩
        | false =>
          rw [hn0] at hp; simp only [cond_false] at hp
          have hnp : 0 < n := Nat.pos_of_ne_zero fun h => by subst h; simp at hn0
          cases hbig : Nat.blt 1000000 n with
          | true => rw [hbig] at hp; cases hp
          | false =>
            rw [hbig] at hp; simp only [cond_false] at hp
            have hle : n ≤ 1000000 := Nat.le_of_not_lt fun h => by
              have : Nat.blt 1000000 n = true := Nat.ble_eq_true_of_le h
              rw [this] at hbig; cases hbig
            obtain ⟨_, hp⟩ := alloc_ok hp
            cases hp
            obtain ⟨cells, k1, k2, k3, k4⟩ := grow_rel (P := P) hr (tx := tx) (ty := o.type) (base := none) (sLen := 0) (sCap := 0) (olds := []) (old := []) ht ti hz rfl hs (by simp) (by simp) (by simp [VRs]) rn (by omega) (by omega) (x' := .cells el ([] ++ new) [] .op) rfl (.inl rfl)
            have hbr := k4 (V.bind h.nx (w.heap.size, 0) (objCells (.cells cells el))) (Ext.alloc hr .defd _).le
            rw [List.nil_append] at hbr
            refine ⟨.slc h.nx 0 n n ei.size, _, _, _, rfl, k3, (hr.drew (w.drawn + 1)).alloc' _ _ hbr, (Ext.drew V _ w _).trans (Ext.alloc (hr.drew (w.drawn + 1)) _ _), ?_⟩
            simp only [Nat.zero_add] at k1 k2 ⊢
            simp only [VR]
            refine ⟨w.heap.size, 0, _, Val.bind_self .., rfl, k2, fun h => absurd h hsz, fun _ => ?_⟩
            simp [Val.bind, objCells, k1]
      · -- a row
        rename_i b off len cap ex hg
        rw [hg] at rs; simp only [VR] at rs
        obtain ⟨cc, sh, cap', hc, rfl, hcap, hexact, hroom⟩ := rs
        cases hfit : Nat.ble (Nat.add len n) cap with
        | true =>
          rw [hfit] at hp; simp only [cond_true] at hp
          have hfit' : len + n ≤ cap := Nat.le_of_ble_eq_true hfit
          cases hn0 : Nat.beq n 0 with
          | true =>
            rw [hn0] at hp; cases hp
            have h0 := Nat.eq_of_beq_eq_true hn0
            exact ⟨.slc b off len cap ex, _, V, w, rfl, nothing _ _ _ (by omega) h0, hr, Ext.refl _ _ _, by simp only [VR]; exact ⟨cc, sh, cap', hc, rfl, hcap, hexact, hroom⟩⟩
          | false =>
            rw [hn0] at hp; simp only [cond_false] at hp
            split at hp
            · rename_i h2 hw
              cases hp
              obtain ⟨w', hst, hr', hext⟩ := hr.write hc hw rn hs.one P
              refine ⟨.slc b off (len + n) cap ex, _, V, w', rfl, run_append_fits ht i1 (by rw [i2]; exact hs) (by omega) (by rw [i2, Nat.add_assoc]; exact hst), hr', hext, by simp only [VR]; exact ⟨cc, sh, cap', hc, rfl, hcap, hexact, hroom⟩⟩
            · cases hp
        | false =>
          rw [hfit] at hp; simp only [cond_false] at hp
          cases hbig : Nat.blt 1000000 (Nat.add len n) with
          | true => rw [hbig] at hp; cases hp
          | false =>
            rw [hbig] at hp; simp only [cond_false] at hp
            have hle : len + n ≤ 1000000 := Nat.le_of_not_lt fun h => by
              have : Nat.blt 1000000 (Nat.add len n) = true := Nat.ble_eq_true_of_le h
              rw [this] at hbig; cases hbig
            have hnfit : ¬ (len + n ≤ cap) := fun h => by
              have : Nat.ble (Nat.add len n) cap = true := Nat.ble_eq_true_of_le h
              rw [this] at hfit; cases hfit
            split at hp
            · rename_i el' l anc st hbk
              split at hp
              · rename_i old hold
                have hread : h.read b off (len * ei.size) = some old := by unfold H.read; rw [hbk]; exact hold
                cases hex0 : Nat.beq ex 0 with
                | true =>
                  rw [hex0] at hp; simp only [cond_true] at hp
                  have hx0 := Nat.eq_of_beq_eq_true hex0
                  have hce := hexact hx0
                  obtain ⟨_, hp⟩ := alloc_ok hp
                  cases hp
                  obtain ⟨us, u1, u2, u3, u4⟩ := hr.readU hc hread
                  have hfc : (Builtin.firstCells ei.size len (.slice (some ⟨cc, sh + off, none⟩) len cap')).run P w.drew = .ok us.toArray w.drew := by
                    simp only [Builtin.firstCells]
                    have := run_loadCells_list (P := P) w.drew ⟨cc, sh + off, none⟩ us (fun j v hj => by rw [addr_add]; exact u4 j v hj)
                    rw [u1] at this; exact this
                  obtain ⟨cells, k1, k2, k3, k4⟩ := grow_rel (P := P) hr (tx := tx) (ty := o.type) ht ti hz hfc hs u3 u1 u2 rn (by omega) hle (x' := .cells el (old ++ new) [] .op) rfl (.inl rfl)
                  have hbr := k4 (V.bind h.nx (w.heap.size, 0) (objCells (.cells cells el))) (Ext.alloc hr .defd _).le
                  refine ⟨.slc h.nx 0 (len + n) (len + n) ei.size, _, _, _, rfl, k3, (hr.drew (w.drawn + 1)).alloc' _ _ hbr, (Ext.drew V _ w _).trans (Ext.alloc (hr.drew (w.drawn + 1)) _ _), ?_⟩
                  simp only [VR]
                  refine ⟨w.heap.size, 0, _, Val.bind_self .., rfl, k2, fun h => absurd h hsz, fun _ => ?_⟩
                  simp [Val.bind, objCells, k1]
                | false =>
                  rw [hex0] at hp; simp only [cond_false] at hp
                  have hx0 : ex ≠ 0 := fun h => by subst h; simp at hex0
                  cases hcond : (st.wr && Nat.beq el' el && Nat.beq ex ei.size && Nat.beq l.length (Nat.add off (Nat.mul len ei.size)) && Nat.ble len cap) with
                  | false => rw [hcond] at hp; cases hp
                  | true =>
                    rw [hcond] at hp; simp only [cond_true] at hp
                    simp only [Bool.and_eq_true] at hcond
                    obtain ⟨⟨⟨⟨c1, c2⟩, c3⟩, c4⟩, c5⟩ := hcond
                    have c5 : len ≤ cap := Nat.le_of_ble_eq_true c5
                    have c2 := Nat.eq_of_beq_eq_true c2; subst c2
                    have c3 := Nat.eq_of_beq_eq_true c3; subst c3
                    have c4 : l.length = off + len * ei.size := Nat.eq_of_beq_eq_true c4
                    obtain ⟨_, hp⟩ := alloc_ok hp
                    cases hp
                    have hold' : old = l.drop off := by
                      rw [ldrop_eq] at hold
                      obtain ⟨e1, _⟩ := ltake_eq _ _ _ hold
                      rw [e1, List.take_of_length_le]
                      rw [List.length_drop, c4]; show off + len * ei.size - off ≤ len * ei.size; omega
                    have hnp : 0 < n := by omega
                    obtain ⟨V', w', z', g1, g2, g3, g4⟩ := append_fork (P := P) hr (tx := tx) (ty := o.type) ht ti hz hsz (len := len) (old := old) hbk c1 hc hold' c4 rn hs hle (fun _ => ⟨rfl, hroom hx0⟩) (by omega) hnp
                    exact ⟨_, z', V', w', rfl, g1, g2, g3, g4⟩
              · cases hp
            · cases hp
      · cases hp
end Go.Ev
end

section
namespace Go.Ev

theorem XS.clearM {P : Program} {o : Oper} {c : Go.Call} {t kt et : Nat} {g : Get} {p : Put} (ho : o.op = .call c) (hb : c.callee = .builtin .clear) (e : cOpds c.args.toList = some [g]) (ht0 : c.argTypes[0]? = some t)
    (ht : P.underlying t = some (.map kt et)) : XS P o (Ev.xClearM g p) p := by
  refine XS.b1 ho hb e (S := fun u => Builtin.clear_ c.argTypes o.type #[u]) (fun _ _ => rfl) fun V n fr h w call u hr rx => ?_
  constructor
  · intro v fr' h' hp
    unfold xClearM at hp
    repeat' (split at hp)
    all_goals cases hp
  · intro fr' h' hp
    have tr : VR V (.tup []) (.tuple #[]) := by simp only [VR]; exact ⟨[], rfl, rfl⟩
    unfold xClearM at hp
    split at hp
    · rename_i hg
      rw [hg] at rx; simp only [VR] at rx; subst rx; cases hp
      exact ⟨.tup [], .tuple #[], V, w, rfl, by simp [Builtin.clear_, ht0, run_underlying ht], hr, Ext.refl _ _ _, tr⟩
    · rename_i b hg
      rw [hg] at rx; simp only [VR] at rx
      obtain ⟨cc, hc, rfl⟩ := rx
      split at hp
      · rename_i es clock hbm
        cases hp
        obtain ⟨c', es', hc', ho', her⟩ := hr.map hbm
        rw [hc] at hc'; cases hc'
        have hgo : (getObj cc).run P w = .ok (.map ⟨es'⟩ clock) w := run_getObj ho' (by simp)
        obtain ⟨g1, g2⟩ := hr.setObj (y := .map [] clock) (o := .map #[] clock) hbm rfl rfl hc ⟨rfl, [], rfl, rfl⟩ (by simp)
        exact ⟨.tup [], .tuple #[], V, _, rfl, by simp [Builtin.clear_, ht0, run_underlying ht, hgo, run_setObj _ ho' (by simp)], g1, g2, tr⟩
      · cases hp
    · cases hp
theorem XS.clearV {P : Program} {o : Oper} {c : Go.Call} {t el : Nat} {g : Get} {p : Put} {ei : TI} {z : List AV} (ho : o.op = .call c) (hb : c.callee = .builtin .clear) (e : cOpds c.args.toList = some [g]) (ht0 : c.argTypes[0]? = some t)
    (ht : P.underlying t = some (.slice el)) (ti : TIS P el ei) (hz : ei.z = some z) : XS P o (Ev.xClear z g p) p := by
  refine XS.b1 ho hb e (S := fun u => Builtin.clear_ c.argTypes o.type #[u]) (fun _ _ => rfl) fun V n fr h w call u hr rx => ?_
  constructor
  · intro v fr' h' hp
    unfold xClear at hp
    simp only [Bool.cond_eq_ite] at hp
    repeat' (split at hp)
    all_goals cases hp
  · intro fr' h' hp
    have tr : VR V (.tup []) (.tuple #[]) := by simp only [VR]; exact ⟨[], rfl, rfl⟩
    unfold xClear at hp
    split at hp
    · rename_i hg
      rw [hg] at rx; simp only [VR] at rx; subst rx; cases hp
      exact ⟨.tup [], .tuple #[], V, w, rfl, by simp [Builtin.clear_, ht0, run_underlying ht], hr, Ext.refl _ _ _, tr⟩
    · rename_i hg
      rw [hg] at rx; simp only [VR] at rx
      obtain ⟨cc, sh, oo, cap', _, rfl, _⟩ := rx; cases hp
      exact ⟨.tup [], .tuple #[], V, w, rfl, by simp [Builtin.clear_, ht0, run_underlying ht], hr, Ext.refl _ _ _, tr⟩
    · rename_i b off len cap ex hg
      rw [hg] at rx; simp only [VR] at rx
      obtain ⟨cc, sh, cap', hc, rfl, _⟩ := rx
      cases h0 : Nat.beq len 0 with
      | true =>
        rw [h0] at hp; cases hp
        have := Nat.eq_of_beq_eq_true h0
        subst this
        exact ⟨.tup [], .tuple #[], V, w, rfl, by simp [Builtin.clear_, ht0, run_underlying ht], hr, Ext.refl _ _ _, tr⟩
      | false =>
        rw [h0] at hp; simp only [cond_false] at hp
        have hl0 : len ≠ 0 := fun h => by subst h; simp at h0
        split at hp
        · rename_i h2 hw
          cases hp
          obtain ⟨zv, zl, r1, r2, r3, r4, _⟩ := ti.run_zero w hz V
          obtain ⟨q1, q2⟩ := r3.rep r4 len
          obtain ⟨w', hst, hr', hext⟩ := hr.write hc hw q1 q2 P
          have hzl : zl.length = z.length := r3.length
          refine ⟨.tup [], .tuple #[], V, w', rfl, ?_, hr', hext, tr⟩
          have hzc : Builtin.zeroCells (⟨zl⟩ : Array Value) len = (Array.range (len * z.length)).map ((⟨zl⟩ : Array Value)[· % (⟨zl⟩ : Array Value).size]!) := by
            simp only [Builtin.zeroCells, List.size_toArray, hzl]
          cases len with
          | zero => exact absurd rfl hl0
          | succ m =>
            simp only [Builtin.clear_, ht0, show (#[Value.slice (some ⟨cc, sh + off, none⟩) (m + 1) cap'] : Array Value)[0]? = some (.slice (some ⟨cc, sh + off, none⟩) (m + 1) cap') from rfl, Sem.run_bind, run_underlying ht, Result.andThen_ok, r1, r2, hzc, hst, Sem.run_pure]
        · cases hp
    · cases hp
end Go.Ev
end

section
namespace Go.Ev

/-- the first cells of what is copied -/
theorem firstCells_rel {P : Program} {V : Val} {h : H} {w : World} (hr : HR V h w) {size n m : Nat} {x : AV} {u : Value} {new l : List AV} (rx : VR V x u) (e : addCells size h x = some (n, new)) (hm : m ≤ n) (hl : ltake (m * size) new = some l) :
    ∃ us, VRs V l us ∧ (∀ y ∈ us, y.oneCell' = true) ∧ us.length = m * size ∧ (Builtin.firstCells size m u).run P w = .ok us.toArray w ∧ ∀ w' : World, (Builtin.lenOf u).run P w' = .ok n w' := by
  obtain ⟨rfl, hlen⟩ := ltake_eq _ _ _ hl
  unfold addCells at e
  split at e
  · simp only [VR] at rx; subst rx; cases e
    have : m = 0 := by omega
    subst this
    exact ⟨[], by simp [VRs], by simp, by simp, rfl, fun _ => rfl⟩
  · simp only [VR] at rx
    obtain ⟨c, sh, o, cap', _, rfl, _⟩ := rx; cases e
    have : m = 0 := by omega
    subst this
    exact ⟨[], by simp [VRs], by simp, by simp, by simp only [Builtin.firstCells, Nat.zero_mul]; rfl, fun _ => rfl⟩
  · rename_i b off len cap ex
    simp only [VR] at rx
    obtain ⟨c, sh, cap', hc, rfl, _⟩ := rx
    split at e
    · rename_i l0 hl0
      cases e
      obtain ⟨us, q1, q2, q3, q4⟩ := hr.readU hc hl0
      have hlt : (us.take (m * size)).length = m * size := by
        have h3 := Nat.mul_le_mul_right size hm
        rw [List.length_take, Nat.min_eq_left (by rw [q1]; exact h3)]
      refine ⟨us.take (m * size), ?_, fun y hy => q3 y (List.mem_of_mem_take hy), hlt, ?_, fun _ => rfl⟩
      · refine VRs.of_get (by simp only [List.length_take, q2.length]) fun i x u hx hu => ?_
        rw [List.getElem?_take] at hx hu
        split at hx
        · rename_i hi
          rw [if_pos hi] at hu
          obtain ⟨u', hu', hv⟩ := q2.get i x hx
          rw [hu] at hu'; cases hu'; exact hv
        · cases hx
      · simp only [Builtin.firstCells]
        have := run_loadCells_list (P := P) w ⟨c, sh + off, none⟩ (us.take (m * size)) (fun j v hj => by
          rw [List.getElem?_take] at hj
          split at hj
          · rw [addr_add]; exact q4 j v hj
          · cases hj)
        rw [hlt] at this; exact this
    · cases e
  · rename_i len k
    simp only [VR] at rx
    obtain ⟨s, rfl, hsr⟩ := rx
    cases hs : Nat.beq size 1 with
    | false => rw [hs] at e; cases e
    | true =>
      rw [hs] at e; cases e
      have hs1 := Nat.eq_of_beq_eq_true hs
      subst hs1
      obtain ⟨b1, b2⟩ := strBytes_rel hsr V
      have hsz := hsr.size
      refine ⟨(byteCells s).take (m * 1), ?_, ?_, ?_, ?_, fun _ => by rw [← hsz]; rfl⟩
      · refine VRs.of_get (by simp only [List.length_take, byteCells_length, b2, hsz]) fun i x u hx hu => ?_
        rw [List.getElem?_take] at hx hu
        split at hx
        · rename_i hi
          rw [if_pos hi] at hu
          obtain ⟨u', hu', hv⟩ := b1.get i x hx
          rw [show (byteCells s)[i]? = _ from hu'] at hu; cases hu; exact hv
        · cases hx
      · intro y hy
        obtain ⟨_, _, rfl⟩ := List.mem_map.1 (List.mem_of_mem_take hy); rfl
      · rw [List.length_take, byteCells_length, hsz]; omega
      · simp only [Builtin.firstCells, Sem.run_pure]
        congr 1
        apply Array.ext'
        simp [byteCells]
  · cases e
theorem XS.copy {P : Program} {o : Oper} {c : Go.Call} {t el : Nat} {gd gs : Get} {p : Put} {ei : TI} (ho : o.op = .call c) (hb : c.callee = .builtin .copy) (e : cOpds c.args.toList = some [gd, gs]) (ht0 : c.argTypes[0]? = some t)
    (ht : P.underlying t = some (.slice el)) (ti : TIS P el ei) : XS P o (Ev.xCopy ei.size gd gs p) p := by
  refine XS.b2 ho hb e (S := fun u v => Builtin.copy_ c.argTypes o.type #[u, v]) (fun _ _ _ => rfl) fun V n0 fr h w call u u' hr rd rs => ?_
  have int0 : ∀ m : Nat, VR V (.int .i64 (.ofNat m)) (goInt m) := fun m => .of_int rfl
  have red : ∀ (base : Option Addr) (dLen dCap n : Nat) (us : List Value) (w' : World), u = .slice base dLen dCap → (∀ w' : World, (Builtin.lenOf u').run P w' = .ok n w') → (Builtin.firstCells ei.size (Nat.min n dLen) u').run P w = .ok us.toArray w →
      (match base with | some a => (storeCells a us).run P w = .ok () w' | none => w' = w) → (Builtin.copy_ c.argTypes o.type #[u, u']).run P w = .ok (goInt (Nat.min n dLen)) w' := by
    intro base dLen dCap n us w' hu hl hf hst
    subst hu
    cases base with
    | none => subst hst; simp [Builtin.copy_, ht0, run_underlying ht, hl, ti.run_size, hf]
    | some a => simp [Builtin.copy_, ht0, run_underlying ht, hl, ti.run_size, hf, hst]
  constructor
  · intro v fr' h' hp
    unfold xCopy at hp
    simp only [Bool.cond_eq_ite] at hp
    repeat' (split at hp)
    all_goals cases hp
  · intro fr' h' hp
    unfold xCopy at hp
    split at hp
    · rename_i nn hg ha
      obtain ⟨n, new⟩ := nn
      rw [hg] at rd; simp only [VR] at rd
      cases hp
      obtain ⟨us, e1, e2, e3, e4, e5⟩ := firstCells_rel (P := P) hr (m := 0) (l := []) rs ha (Nat.zero_le _) (by rw [Nat.zero_mul]; rfl)
      have hu0 : us = [] := List.length_eq_zero_iff.1 (by rw [e3, Nat.zero_mul])
      subst hu0
      refine ⟨_, _, V, w, rfl, red none 0 0 n [] w rd e5 (by rw [show Nat.min n 0 = 0 from Nat.min_zero n]; exact e4) rfl, hr, Ext.refl _ _ _, ?_⟩
      rw [show Nat.min n 0 = 0 from Nat.min_zero n]; exact int0 0
    · rename_i bb off es nn hg ha
      obtain ⟨n, new⟩ := nn
      rw [hg] at rd; simp only [VR] at rd
      obtain ⟨cc, sh, oo, cap', hc, hd, _⟩ := rd
      cases hp
      obtain ⟨us, e1, e2, e3, e4, e5⟩ := firstCells_rel (P := P) hr (m := 0) (l := []) rs ha (Nat.zero_le _) (by rw [Nat.zero_mul]; rfl)
      have hu0 : us = [] := List.length_eq_zero_iff.1 (by rw [e3, Nat.zero_mul])
      subst hu0
      refine ⟨_, _, V, w, rfl, red _ 0 cap' n [] w hd e5 (by rw [show Nat.min n 0 = 0 from Nat.min_zero n]; exact e4) rfl, hr, Ext.refl _ _ _, ?_⟩
      rw [show Nat.min n 0 = 0 from Nat.min_zero n]; exact int0 0
    · rename_i b off len cap ex n new hg ha
      rw [hg] at rd; simp only [VR] at rd
      obtain ⟨cc, sh, cap', hc, hd, _⟩ := rd
      have hmin : (bif Nat.ble n len then n else len) = Nat.min n len := by
        cases hb : Nat.ble n len with
        | true => have := Nat.le_of_ble_eq_true hb; simp only [cond_true]; exact (Nat.min_eq_left this).symm
        | false =>
          have : ¬ n ≤ len := fun h => by rw [Nat.ble_eq_true_of_le h] at hb; cases hb
          simp only [cond_false]; exact (Nat.min_eq_right (by omega)).symm
      simp only [hmin] at hp
      split at hp
      · rename_i l hl
        obtain ⟨us, e1, e2, e3, e4, e5⟩ := firstCells_rel (P := P) hr rs ha (Nat.min_le_left n len) hl
        cases h0 : Nat.beq (Nat.min n len) 0 with
        | true =>
          rw [h0] at hp; cases hp
          have hm0 := Nat.eq_of_beq_eq_true h0
          have hu0 : us = [] := List.length_eq_zero_iff.1 (by rw [e3, show min n len = 0 from hm0, Nat.zero_mul])
          subst hu0
          refine ⟨_, _, V, w, rfl, red _ len cap' n [] w hd e5 e4 rfl, hr, Ext.refl _ _ _, ?_⟩
          rw [hm0]; exact int0 0
        | false =>
          rw [h0] at hp; simp only [cond_false] at hp
          split at hp
          · rename_i h2 hw
            cases hp
            obtain ⟨w', hst, hr', hext⟩ := hr.write hc hw e1 e2 P
            exact ⟨_, _, V, w', rfl, red _ len cap' n us w' hd e5 e4 hst, hr', hext, int0 _⟩
          · cases hp
      · cases hp
    · cases hp
end Go.Ev
end

section
namespace Go.Ev

theorem HR.refz {V : Val} {h : H} {w : World} (hr : HR V h w) {b el c sh : Nat} {l : List AV} {anc : List Nat} {st : St} {cs : Array Value} {fz : Nat × Nat} (hb : h.get b = some (.cells el l anc st)) (hnf : st ≠ .fk) (hc : V.ρ b = some (c, sh))
    (ho : w.heap[c]? = some (.cells cs el fz)) (fz' : Nat × Nat) :
    HR V (h.put b (.cells el l anc .fz)) { w with heap := w.heap.setIfInBounds c (.cells cs el fz') } ∧ Ext V h w V (h.put b (.cells el l anc .fz)) { w with heap := w.heap.setIfInBounds c (.cells cs el fz') } := by
  have hlt := hr.lt b c sh hc
  have nfk : (AB.cells el l anc st).isFk = false := by cases st <;> simp [AB.isFk] at hnf ⊢
  refine ⟨⟨fun b' y e => ?_, fun b1 b2 x1 x2 c1 s1 s2 e1 e2 hne hc1 hc2 => ?_, hr.nx, fun b' c' sh' e => by simpa using hr.lt b' c' sh' e, hr.ns, fun b' c' sh' a el' fz2 e ho' => ?_, hr.glo.1.set (fun e => by subst e; exact hr.glo.2 _ _ hc) _, hr.glo.2⟩, Ext.set hb hc _ _⟩
  · rcases h.get_put b _ b' y e with ⟨rfl, rfl⟩ | ⟨e1, e2⟩
    · obtain ⟨c2, sh2, o2, p1, p2, cs2, fz2, rfl, p3, _⟩ := hr.blk b' _ hb
      rw [hc] at p1; cases p1
      rw [ho] at p2; cases p2
      exact ⟨c, sh, .cells cs el fz', hc, by simp [hlt], cs, fz', rfl, p3, fun h => by simp [St.wr] at h, trivial⟩
    · obtain ⟨c2, sh2, o2, hc2, ho2, hbr⟩ := hr.blk b' y e2
      by_cases hcc : c = c2
      · subst hcc
        rcases hr.ali b b' _ y c sh sh2 hb e2 (fun e => e1 e.symm) hc hc2 with ⟨_, f, _⟩ | ⟨_, hfk, hext⟩
        · rw [nfk] at f; cases f
        · rw [ho] at ho2; cases ho2
          cases y <;> simp only [AB.isFk, Bool.false_eq_true] at hfk
          rename_i el2 l2 anc2 st2
          cases st2 <;> simp only [Bool.false_eq_true] at hfk
          obtain ⟨cs2, fz2, e4, hcr2, _⟩ := hbr
          cases e4
          exact ⟨c, sh2, .cells cs el fz', hc2, by simp [hlt], cs, fz', rfl, hcr2, fun h => by simp [St.wr] at h, trivial⟩
      · exact ⟨c2, sh2, o2, hc2, by rw [Array.getElem?_setIfInBounds_ne hcc]; exact ho2, hbr⟩
  · rcases h.get_put b _ b1 x1 e1 with ⟨e3, e4⟩ | ⟨e3, e4⟩ <;> rcases h.get_put b _ b2 x2 e2 with ⟨e5, e6⟩ | ⟨e5, e6⟩
    · exact absurd (e3.trans e5.symm) hne
    · subst e3; subst e4
      rcases hr.ali b1 b2 _ x2 c1 s1 s2 hb e6 hne hc1 hc2 with ⟨_, f, _⟩ | g
      · rw [nfk] at f; cases f
      · exact .inr g
    · subst e5; subst e6
      rcases hr.ali b1 b2 x1 _ c1 s1 s2 e4 hb hne hc1 hc2 with g | ⟨_, f, _⟩
      · exact .inl g
      · rw [nfk] at f; cases f
    · exact hr.ali b1 b2 x1 x2 c1 s1 s2 e4 e6 hne hc1 hc2
  · by_cases hcc : c = c'
    · subst hcc
      simp only [Array.getElem?_setIfInBounds, if_true, hlt, Option.some.injEq] at ho'
      cases ho'
      exact hr.cz b c sh _ _ _ hc ho
    · rw [Array.getElem?_setIfInBounds_ne hcc] at ho'
      exact hr.cz b' c' sh' a el' fz2 e ho'
theorem run_loadBytes {P : Program} {w : World} {c : Nat} : ∀ (bs : List Nat) (o : Nat) (acc : ByteArray), (∀ j b, bs[j]? = some b → w.cell? ⟨c, o + j, none⟩ = some (.int .u8 (Int.ofNat b))) →
    (loadBytes ⟨c, o, none⟩ acc bs.length).run P w = .ok ⟨acc.data ++ ⟨bs.map UInt8.ofNat⟩⟩ w := by
  intro bs
  induction bs with
  | nil => intro o acc _; simp [loadBytes]
  | cons b r ih =>
    intro o acc h
    have h0 := h 0 b rfl
    simp only [Nat.add_zero] at h0
    simp only [List.length_cons, loadBytes, Sem.run_bind, run_load, h0, Result.andThen_ok, addr_add]
    rw [ih (o + 1) _ fun j b' hj => by
      have := h (j + 1) b' (by simpa using hj)
      rwa [show o + (j + 1) = o + 1 + j by omega] at this]
    simp [ByteArray.push]
theorem freeze_eq {w : World} {c o n : Nat} {cs : Array Value} {el : Nat} {fz : Nat × Nat} (h : w.heap[c]? = some (.cells cs el fz)) (h0 : n ≠ 0) :
    ∃ fz', w.freeze ⟨c, o, none⟩ n = { w with heap := w.heap.setIfInBounds c (.cells cs el fz') } := by
  refine ⟨if fz.1 == fz.2 then (o, o + n) else (min fz.1 o, max fz.2 (o + n)), ?_⟩
  unfold World.freeze
  rw [if_neg h0]
  congr 1
  have hlt : c < w.heap.size := by
    rcases Nat.lt_or_ge c w.heap.size with h' | h'
    · exact h'
    · rw [Array.getElem?_eq_none h'] at h; cases h
  have hget : w.heap[c] = .cells cs el fz := by rw [Array.getElem?_eq_getElem hlt] at h; simpa using h
  apply Array.ext
  · simp
  · intro j h1 h2
    simp only [Array.getElem_modify]
    by_cases e : c = j
    · subst e; simp [hget]
    · rw [if_neg e, Array.getElem_setIfInBounds_ne (h := e)]

theorem unsafeString_at (ts : Array TypeId) (ty : TypeId) (pp : Option Addr) (l : Value) : Builtin.unsafeString_ ts ty #[.pointer pp, l] = (do
    let n ← asInt l
    let some pt := ts[0]? | stuck "unsafe.String: no argument types"
    if n < 0 then runtimePanic (.error "unsafe.String: len out of range")
    if n > IntKind.i64.max then unsupported (.unsafePointer "String: a length above the largest int")
    match pp with
    | none => if n = 0 then pure (.string .empty) else runtimePanic (.error "unsafe.String: ptr is nil and len is not zero")
    | some a =>
      if n = 0 then pure (.string .empty)
      else if ← variablesAt a (← Go.elemOf pt) n.toNat then do
        let s ← loadBytes a .empty n.toNat
        freeze a n.toNat
        pure (.string s)
      else unsupported (.unsafePointer "String: not so many bytes at ptr")) := rfl
theorem XS.unsafeStr {P : Program} {o : Oper} {c : Go.Call} {t el : Nat} {gp gn : Get} {p : Put} {ei : TI} (ho : o.op = .call c) (hb : c.callee = .builtin .unsafeString) (e : cOpds c.args.toList = some [gp, gn]) (ht0 : c.argTypes[0]? = some t)
    (ht : P.underlying t = some (.pointer el)) (ti : TIS P el ei) (h1 : ei.size = 1) : XS P o (Ev.xUnsafeStr el gp gn p) p := by
  refine XS.b2 ho hb e (S := fun u v => Builtin.unsafeString_ c.argTypes o.type #[u, v]) (fun _ _ _ => rfl) fun V n0 fr h w call u u' hr rp rn => ?_
  have hel : (Go.elemOf t).run P w = .ok el w := by simp [Go.elemOf, run_underlying ht]
  constructor
  · intro v fr' h' hp
    unfold xUnsafeStr at hp
    simp only [Bool.cond_eq_ite] at hp
    repeat' (split at hp)
    all_goals cases hp
  · intro fr' h' hp
    unfold xUnsafeStr at hp
    split at hp
    · rename_i k hg
      rw [hg] at rn; simp only [VR] at rn; subst rn
      have em : ∃ pp, u = .pointer pp ∧ fr' = p.run (.str 0 0) fr ∧ h' = h := by
        split at hp
        · rename_i hg'; rw [hg'] at rp; simp only [VR] at rp; cases hp; exact ⟨_, rp, rfl, rfl⟩
        · rename_i hg'; rw [hg'] at rp; simp only [VR] at rp; obtain ⟨_, _, _, rp⟩ := rp; cases hp; exact ⟨_, rp, rfl, rfl⟩
        · cases hp
      obtain ⟨pp, rfl, rfl, rfl⟩ := em
      refine ⟨.str 0 0, .string .empty, V, w, rfl, ?_, hr, Ext.refl _ _ _, by simp only [VR]; exact ⟨_, rfl, by constructor <;> rfl⟩⟩
      have hmx : ¬ ((0 : Int) > IntKind.i64.max) := by decide
      cases pp <;> simp [unsafeString_at, ht0, asInt, asIntOf]
    · rename_i k n hn0 hg
      rw [hg] at rn; simp only [VR] at rn; subst rn
      have hnz : n ≠ 0 := fun h => hn0 h
      split at hp
      · rename_i b off hg'
        rw [hg'] at rp; simp only [VR] at rp
        obtain ⟨c', sh, hc, rfl⟩ := rp
        split at hp
        · cases hp
        · rename_i el' l anc st hnf hgb
          cases hq : (Nat.beq el' el && Nat.ble n 1000000000) with
          | false => rw [hq] at hp; cases hp
          | true =>
          rw [hq] at hp; simp only [cond_true] at hp
          simp only [Bool.and_eq_true] at hq
          have q1 := Nat.eq_of_beq_eq_true hq.1; subst q1
          have q2 : n ≤ 1000000000 := Nat.le_of_ble_eq_true hq.2
          split at hp
          · rename_i cl hcl
            split at hp
            · rename_i s hs
              cases hp
              obtain ⟨c2, sh2, cs, fz, p1, p2, _, _, _, p6⟩ := hr.cells hgb
              rw [hc] at p1; cases p1
              have hread : h.read b off n = some cl := by simp only [H.read, hgb]; exact hcl
              obtain ⟨us, r1, r2, r3, r4⟩ := hr.readU hc hread
              rw [ldrop_eq] at hcl
              obtain ⟨hcl1, hcl2⟩ := ltake_eq _ _ _ hcl
              simp only [List.length_drop] at hcl2
              have hsz := p6 (by intro h; subst h; simp at hcl2; exact hnz hcl2)
              obtain ⟨bs, b1, b2, b3, b4⟩ := bytesPack_rel (V := V) cl 0 s hs
              have hue := b4 us r2
              have hbl : bs.length = n := by rw [← r1, hue, List.length_map]
              have hva := run_variablesAt (P := P) (n := n) (o := sh + off) p2 ti.cellsOf (by omega) (by rw [h1]; exact Nat.mod_one _) (by rw [h1]; omega)
              have hlb := run_loadBytes (P := P) (w := w) (c := c') bs (sh + off) .empty fun j b' hj => by
                exact r4 j _ (by rw [hue]; simp [hj])
              rw [hbl] at hlb
              obtain ⟨fz', hfz⟩ := freeze_eq (o := sh + off) (n := n) p2 hnz
              obtain ⟨g1, g2⟩ := hr.refz hgb hnf hc p2 fz'
              refine ⟨.str n s, .string (bytesOfL bs), V, _, rfl, ?_, g1, g2, by simp only [VR]; exact ⟨_, rfl, by rw [← hbl, b3]; exact bytesOfL_SR b1⟩⟩
              have hmx : ¬ ((n : Int) > IntKind.i64.max) := by
                have : IntKind.i64.max = 9223372036854775807 := by decide
                rw [this]; omega
              have hm0 : ¬ ((n : Int) < 0) := by omega
              have hm1 : ¬ ((n : Int) = 0) := by omega
              have hemp : (⟨ByteArray.empty.data ++ ⟨bs.map UInt8.ofNat⟩⟩ : ByteArray) = bytesOfL bs := by
                have : ByteArray.empty.data = #[] := rfl
                rw [this]; unfold bytesOfL
                congr 1
                apply Array.ext'; simp
              rw [hemp] at hlb
              simp only [Int.ofNat_eq_natCast, unsafeString_at, ht0, asInt, asIntOf, hm0, hmx, hm1, if_false, Sem.run_bind, Sem.run_pure, Result.andThen_ok, hel, Int.toNat_natCast, hva, if_true, hlb, run_freeze, hfz]
            · cases hp
          · cases hp
        · cases hp
      · cases hp
    · cases hp

end Go.Ev
end
