/- The evaluator: its memory, its operations, the compiler of bodies; the relations between its states and the model's. -/
import GoSem.Step
import Derived.Recover
import Derived.Laws.Sem
import Derived.Laws.Entries

section
/- The abstract evaluator: an interpreter of the model's code over an abstract heap. -/
namespace Go.Ev

/-- Abstract values. -/
inductive AV where
  | unk
  | bool (b : Bool)
  | int (k : IntKind) (n : Int)
  | str (len n : Nat)
  | ptr (b off : Nat) | nilp
  | slc (b off len cap ex : Nat) | nils | sle (b off es : Nat)   -- ex: 0: the capacity is cap; else it is at least cap, and an element has ex cells
  | map (b : Nat) | nilm
  | fn (f : Fn) (first cap : List AV) | nilf
  | ifc (t : Nat) (v : AV) | nili
  | agg (l : List AV) | tup (l : List AV)
  | opq (i : Nat)
  deriving Inhabited

/-- Frames: 512 slots in three levels, the deferred calls, and what a deferred call may recover. -/
structure F8 where
  mk ::
  a0 : AV
  a1 : AV
  a2 : AV
  a3 : AV
  a4 : AV
  a5 : AV
  a6 : AV
  a7 : AV
structure F64 where
  mk ::
  a0 : F8
  a1 : F8
  a2 : F8
  a3 : F8
  a4 : F8
  a5 : F8
  a6 : F8
  a7 : F8
inductive UM where
  | no
  | ret
  | pan (v : AV)
  | rcd (v : AV)
  deriving Inhabited
/-- what a frame has deferred -/
inductive DS where
  | call (f : AV) (args : List AV)
  | coll (b : Nat)
  deriving Inhabited
structure Fr where
  mk ::
  a0 : F64
  a1 : F64
  a2 : F64
  a3 : F64
  a4 : F64
  a5 : F64
  a6 : F64
  a7 : F64
  ds : List DS
  um : UM
  rd : Option Nat
/-- May a block be written? op, so: yes (so: it may begin inside a block of the model); fk: no, for a newer one may share it; fz: no, a string shares it. -/
inductive St where
  | op | so | fk | fz
  deriving Inhabited
def St.wr : St → Bool
  | .op | .so => true
  | _ => false

/-- Abstract blocks. -/
inductive AB where
  | cells (el : Nat) (l : List AV) (anc : List Nat) (st : St)
  | map (es : List (AV × AV × Nat)) (clock : Nat)
  | siter (len n pos : Nat)
  | miter (m : Option Nat) (since : Nat) (seen : List Nat) (stepped : Nat)
  | loop (n : Nat) (st : LoopState) (pend : Option Code) (fr : Fr) (ps : List Nat) (asg body : Code) (defers : Nat)
  | defd
  | fiter (m since : Nat) (es : List (AV × AV × Nat)) (st k : Nat) (syms : List Nat)      -- an iteration whose order is open: the steps' symbols

/-! tables by number: four levels of sixteen -/
structure B16 (α : Type) where
  mk ::
  c0 : α
  c1 : α
  c2 : α
  c3 : α
  c4 : α
  c5 : α
  c6 : α
  c7 : α
  c8 : α
  c9 : α
  c10 : α
  c11 : α
  c12 : α
  c13 : α
  c14 : α
  c15 : α
def q16_0 {α : Type} (m : α → α) (t : B16 α) : B16 α := B16.casesOn (motive := fun _ => B16 α) t (fun c0 c1 c2 c3 c4 c5 c6 c7 c8 c9 c10 c11 c12 c13 c14 c15 => B16.mk (m c0) c1 c2 c3 c4 c5 c6 c7 c8 c9 c10 c11 c12 c13 c14 c15)
def q16_1 {α : Type} (m : α → α) (t : B16 α) : B16 α := B16.casesOn (motive := fun _ => B16 α) t (fun c0 c1 c2 c3 c4 c5 c6 c7 c8 c9 c10 c11 c12 c13 c14 c15 => B16.mk c0 (m c1) c2 c3 c4 c5 c6 c7 c8 c9 c10 c11 c12 c13 c14 c15)
def q16_2 {α : Type} (m : α → α) (t : B16 α) : B16 α := B16.casesOn (motive := fun _ => B16 α) t (fun c0 c1 c2 c3 c4 c5 c6 c7 c8 c9 c10 c11 c12 c13 c14 c15 => B16.mk c0 c1 (m c2) c3 c4 c5 c6 c7 c8 c9 c10 c11 c12 c13 c14 c15)
def q16_3 {α : Type} (m : α → α) (t : B16 α) : B16 α := B16.casesOn (motive := fun _ => B16 α) t (fun c0 c1 c2 c3 c4 c5 c6 c7 c8 c9 c10 c11 c12 c13 c14 c15 => B16.mk c0 c1 c2 (m c3) c4 c5 c6 c7 c8 c9 c10 c11 c12 c13 c14 c15)
def q16_4 {α : Type} (m : α → α) (t : B16 α) : B16 α := B16.casesOn (motive := fun _ => B16 α) t (fun c0 c1 c2 c3 c4 c5 c6 c7 c8 c9 c10 c11 c12 c13 c14 c15 => B16.mk c0 c1 c2 c3 (m c4) c5 c6 c7 c8 c9 c10 c11 c12 c13 c14 c15)
def q16_5 {α : Type} (m : α → α) (t : B16 α) : B16 α := B16.casesOn (motive := fun _ => B16 α) t (fun c0 c1 c2 c3 c4 c5 c6 c7 c8 c9 c10 c11 c12 c13 c14 c15 => B16.mk c0 c1 c2 c3 c4 (m c5) c6 c7 c8 c9 c10 c11 c12 c13 c14 c15)
def q16_6 {α : Type} (m : α → α) (t : B16 α) : B16 α := B16.casesOn (motive := fun _ => B16 α) t (fun c0 c1 c2 c3 c4 c5 c6 c7 c8 c9 c10 c11 c12 c13 c14 c15 => B16.mk c0 c1 c2 c3 c4 c5 (m c6) c7 c8 c9 c10 c11 c12 c13 c14 c15)
def q16_7 {α : Type} (m : α → α) (t : B16 α) : B16 α := B16.casesOn (motive := fun _ => B16 α) t (fun c0 c1 c2 c3 c4 c5 c6 c7 c8 c9 c10 c11 c12 c13 c14 c15 => B16.mk c0 c1 c2 c3 c4 c5 c6 (m c7) c8 c9 c10 c11 c12 c13 c14 c15)
def q16_8 {α : Type} (m : α → α) (t : B16 α) : B16 α := B16.casesOn (motive := fun _ => B16 α) t (fun c0 c1 c2 c3 c4 c5 c6 c7 c8 c9 c10 c11 c12 c13 c14 c15 => B16.mk c0 c1 c2 c3 c4 c5 c6 c7 (m c8) c9 c10 c11 c12 c13 c14 c15)
def q16_9 {α : Type} (m : α → α) (t : B16 α) : B16 α := B16.casesOn (motive := fun _ => B16 α) t (fun c0 c1 c2 c3 c4 c5 c6 c7 c8 c9 c10 c11 c12 c13 c14 c15 => B16.mk c0 c1 c2 c3 c4 c5 c6 c7 c8 (m c9) c10 c11 c12 c13 c14 c15)
def q16_10 {α : Type} (m : α → α) (t : B16 α) : B16 α := B16.casesOn (motive := fun _ => B16 α) t (fun c0 c1 c2 c3 c4 c5 c6 c7 c8 c9 c10 c11 c12 c13 c14 c15 => B16.mk c0 c1 c2 c3 c4 c5 c6 c7 c8 c9 (m c10) c11 c12 c13 c14 c15)
def q16_11 {α : Type} (m : α → α) (t : B16 α) : B16 α := B16.casesOn (motive := fun _ => B16 α) t (fun c0 c1 c2 c3 c4 c5 c6 c7 c8 c9 c10 c11 c12 c13 c14 c15 => B16.mk c0 c1 c2 c3 c4 c5 c6 c7 c8 c9 c10 (m c11) c12 c13 c14 c15)
def q16_12 {α : Type} (m : α → α) (t : B16 α) : B16 α := B16.casesOn (motive := fun _ => B16 α) t (fun c0 c1 c2 c3 c4 c5 c6 c7 c8 c9 c10 c11 c12 c13 c14 c15 => B16.mk c0 c1 c2 c3 c4 c5 c6 c7 c8 c9 c10 c11 (m c12) c13 c14 c15)
def q16_13 {α : Type} (m : α → α) (t : B16 α) : B16 α := B16.casesOn (motive := fun _ => B16 α) t (fun c0 c1 c2 c3 c4 c5 c6 c7 c8 c9 c10 c11 c12 c13 c14 c15 => B16.mk c0 c1 c2 c3 c4 c5 c6 c7 c8 c9 c10 c11 c12 (m c13) c14 c15)
def q16_14 {α : Type} (m : α → α) (t : B16 α) : B16 α := B16.casesOn (motive := fun _ => B16 α) t (fun c0 c1 c2 c3 c4 c5 c6 c7 c8 c9 c10 c11 c12 c13 c14 c15 => B16.mk c0 c1 c2 c3 c4 c5 c6 c7 c8 c9 c10 c11 c12 c13 (m c14) c15)
def q16_15 {α : Type} (m : α → α) (t : B16 α) : B16 α := B16.casesOn (motive := fun _ => B16 α) t (fun c0 c1 c2 c3 c4 c5 c6 c7 c8 c9 c10 c11 c12 c13 c14 c15 => B16.mk c0 c1 c2 c3 c4 c5 c6 c7 c8 c9 c10 c11 c12 c13 c14 (m c15))
structure G16 (α : Type) where
  g : B16 α → α
  p : (α → α) → B16 α → B16 α
def s16 (α : Type) (i : Nat) : G16 α :=
  Nat.casesOn (motive := fun _ => G16 α) i ⟨B16.c0, q16_0⟩ (fun i => Nat.casesOn (motive := fun _ => G16 α) i ⟨B16.c1, q16_1⟩ (fun i => Nat.casesOn (motive := fun _ => G16 α) i ⟨B16.c2, q16_2⟩ (fun i => Nat.casesOn (motive := fun _ => G16 α) i ⟨B16.c3, q16_3⟩ (fun i => Nat.casesOn (motive := fun _ => G16 α) i ⟨B16.c4, q16_4⟩ (fun i => Nat.casesOn (motive := fun _ => G16 α) i ⟨B16.c5, q16_5⟩ (fun i => Nat.casesOn (motive := fun _ => G16 α) i ⟨B16.c6, q16_6⟩ (fun i => Nat.casesOn (motive := fun _ => G16 α) i ⟨B16.c7, q16_7⟩ (fun i => Nat.casesOn (motive := fun _ => G16 α) i ⟨B16.c8, q16_8⟩ (fun i => Nat.casesOn (motive := fun _ => G16 α) i ⟨B16.c9, q16_9⟩ (fun i => Nat.casesOn (motive := fun _ => G16 α) i ⟨B16.c10, q16_10⟩ (fun i => Nat.casesOn (motive := fun _ => G16 α) i ⟨B16.c11, q16_11⟩ (fun i => Nat.casesOn (motive := fun _ => G16 α) i ⟨B16.c12, q16_12⟩ (fun i => Nat.casesOn (motive := fun _ => G16 α) i ⟨B16.c13, q16_13⟩ (fun i => Nat.casesOn (motive := fun _ => G16 α) i ⟨B16.c14, q16_14⟩ (fun _ => ⟨B16.c15, q16_15⟩)))))))))))))))
abbrev T (α : Type) : Type := B16 (B16 (B16 (B16 (Option α))))
structure TGet (α : Type) where
  run : T α → Option α
structure TPut (α : Type) where
  run : Option α → T α → T α
namespace T
variable {α : Type}
def rep {β : Type} (b : β) : B16 β := ⟨b, b, b, b, b, b, b, b, b, b, b, b, b, b, b, b⟩
def full (_ : Nat) : T α := rep (rep (rep (rep none)))
def getN (α : Type) (k : Nat) : TGet α :=
  G16.casesOn (motive := fun _ => TGet α) (s16 (Option α) (Nat.mod k 16)) fun g0 _ => G16.casesOn (motive := fun _ => TGet α) (s16 (B16 (Option α)) (Nat.mod (Nat.div k 16) 16)) fun g1 _ =>
    G16.casesOn (motive := fun _ => TGet α) (s16 (B16 (B16 (Option α))) (Nat.mod (Nat.div k 256) 16)) fun g2 _ => G16.casesOn (motive := fun _ => TGet α) (s16 (B16 (B16 (B16 (Option α)))) (Nat.div k 4096)) fun g3 _ =>
      ⟨fun t => g0 (g1 (g2 (g3 t)))⟩
def putN (α : Type) (k : Nat) : TPut α :=
  G16.casesOn (motive := fun _ => TPut α) (s16 (Option α) (Nat.mod k 16)) fun _ p0 => G16.casesOn (motive := fun _ => TPut α) (s16 (B16 (Option α)) (Nat.mod (Nat.div k 16) 16)) fun _ p1 =>
    G16.casesOn (motive := fun _ => TPut α) (s16 (B16 (B16 (Option α))) (Nat.mod (Nat.div k 256) 16)) fun _ p2 => G16.casesOn (motive := fun _ => TPut α) (s16 (B16 (B16 (B16 (Option α)))) (Nat.div k 4096)) fun _ p3 =>
      ⟨fun x t => p3 (p2 (p1 (p0 fun _ => x))) t⟩
def get (t : T α) (k : Nat) : Option α := bif Nat.blt k 65536 then (getN α k).run t else none
def put (t : T α) (k : Nat) (x : Option α) : T α := bif Nat.blt k 65536 then (putN α k).run x t else t
instance : Inhabited (T α) := ⟨full 0⟩
end T
structure Get where
  run : Fr → AV
structure Put where
  run : AV → Fr → Fr
structure G8 where
  g : F8 → AV
  p : AV → F8 → F8
structure G64 where
  g : F64 → F8
  p : (F8 → F8) → F64 → F64
structure GFr where
  g : Fr → F64
  p : (F64 → F64) → Fr → Fr
def p8_0 (v : AV) (f : F8) : F8 := F8.casesOn (motive := fun _ => F8) f (fun _ a1 a2 a3 a4 a5 a6 a7 => F8.mk v a1 a2 a3 a4 a5 a6 a7)
def p8_1 (v : AV) (f : F8) : F8 := F8.casesOn (motive := fun _ => F8) f (fun a0 _ a2 a3 a4 a5 a6 a7 => F8.mk a0 v a2 a3 a4 a5 a6 a7)
def p8_2 (v : AV) (f : F8) : F8 := F8.casesOn (motive := fun _ => F8) f (fun a0 a1 _ a3 a4 a5 a6 a7 => F8.mk a0 a1 v a3 a4 a5 a6 a7)
def p8_3 (v : AV) (f : F8) : F8 := F8.casesOn (motive := fun _ => F8) f (fun a0 a1 a2 _ a4 a5 a6 a7 => F8.mk a0 a1 a2 v a4 a5 a6 a7)
def p8_4 (v : AV) (f : F8) : F8 := F8.casesOn (motive := fun _ => F8) f (fun a0 a1 a2 a3 _ a5 a6 a7 => F8.mk a0 a1 a2 a3 v a5 a6 a7)
def p8_5 (v : AV) (f : F8) : F8 := F8.casesOn (motive := fun _ => F8) f (fun a0 a1 a2 a3 a4 _ a6 a7 => F8.mk a0 a1 a2 a3 a4 v a6 a7)
def p8_6 (v : AV) (f : F8) : F8 := F8.casesOn (motive := fun _ => F8) f (fun a0 a1 a2 a3 a4 a5 _ a7 => F8.mk a0 a1 a2 a3 a4 a5 v a7)
def p8_7 (v : AV) (f : F8) : F8 := F8.casesOn (motive := fun _ => F8) f (fun a0 a1 a2 a3 a4 a5 a6 _ => F8.mk a0 a1 a2 a3 a4 a5 a6 v)
def p64_0 (m : F8 → F8) (f : F64) : F64 := F64.casesOn (motive := fun _ => F64) f (fun a0 a1 a2 a3 a4 a5 a6 a7 => F64.mk (m a0) a1 a2 a3 a4 a5 a6 a7)
def p64_1 (m : F8 → F8) (f : F64) : F64 := F64.casesOn (motive := fun _ => F64) f (fun a0 a1 a2 a3 a4 a5 a6 a7 => F64.mk a0 (m a1) a2 a3 a4 a5 a6 a7)
def p64_2 (m : F8 → F8) (f : F64) : F64 := F64.casesOn (motive := fun _ => F64) f (fun a0 a1 a2 a3 a4 a5 a6 a7 => F64.mk a0 a1 (m a2) a3 a4 a5 a6 a7)
def p64_3 (m : F8 → F8) (f : F64) : F64 := F64.casesOn (motive := fun _ => F64) f (fun a0 a1 a2 a3 a4 a5 a6 a7 => F64.mk a0 a1 a2 (m a3) a4 a5 a6 a7)
def p64_4 (m : F8 → F8) (f : F64) : F64 := F64.casesOn (motive := fun _ => F64) f (fun a0 a1 a2 a3 a4 a5 a6 a7 => F64.mk a0 a1 a2 a3 (m a4) a5 a6 a7)
def p64_5 (m : F8 → F8) (f : F64) : F64 := F64.casesOn (motive := fun _ => F64) f (fun a0 a1 a2 a3 a4 a5 a6 a7 => F64.mk a0 a1 a2 a3 a4 (m a5) a6 a7)
def p64_6 (m : F8 → F8) (f : F64) : F64 := F64.casesOn (motive := fun _ => F64) f (fun a0 a1 a2 a3 a4 a5 a6 a7 => F64.mk a0 a1 a2 a3 a4 a5 (m a6) a7)
def p64_7 (m : F8 → F8) (f : F64) : F64 := F64.casesOn (motive := fun _ => F64) f (fun a0 a1 a2 a3 a4 a5 a6 a7 => F64.mk a0 a1 a2 a3 a4 a5 a6 (m a7))
def pFr_0 (m : F64 → F64) (f : Fr) : Fr := Fr.casesOn (motive := fun _ => Fr) f (fun a0 a1 a2 a3 a4 a5 a6 a7 ds um rd => Fr.mk (m a0) a1 a2 a3 a4 a5 a6 a7 ds um rd)
def pFr_1 (m : F64 → F64) (f : Fr) : Fr := Fr.casesOn (motive := fun _ => Fr) f (fun a0 a1 a2 a3 a4 a5 a6 a7 ds um rd => Fr.mk a0 (m a1) a2 a3 a4 a5 a6 a7 ds um rd)
def pFr_2 (m : F64 → F64) (f : Fr) : Fr := Fr.casesOn (motive := fun _ => Fr) f (fun a0 a1 a2 a3 a4 a5 a6 a7 ds um rd => Fr.mk a0 a1 (m a2) a3 a4 a5 a6 a7 ds um rd)
def pFr_3 (m : F64 → F64) (f : Fr) : Fr := Fr.casesOn (motive := fun _ => Fr) f (fun a0 a1 a2 a3 a4 a5 a6 a7 ds um rd => Fr.mk a0 a1 a2 (m a3) a4 a5 a6 a7 ds um rd)
def pFr_4 (m : F64 → F64) (f : Fr) : Fr := Fr.casesOn (motive := fun _ => Fr) f (fun a0 a1 a2 a3 a4 a5 a6 a7 ds um rd => Fr.mk a0 a1 a2 a3 (m a4) a5 a6 a7 ds um rd)
def pFr_5 (m : F64 → F64) (f : Fr) : Fr := Fr.casesOn (motive := fun _ => Fr) f (fun a0 a1 a2 a3 a4 a5 a6 a7 ds um rd => Fr.mk a0 a1 a2 a3 a4 (m a5) a6 a7 ds um rd)
def pFr_6 (m : F64 → F64) (f : Fr) : Fr := Fr.casesOn (motive := fun _ => Fr) f (fun a0 a1 a2 a3 a4 a5 a6 a7 ds um rd => Fr.mk a0 a1 a2 a3 a4 a5 (m a6) a7 ds um rd)
def pFr_7 (m : F64 → F64) (f : Fr) : Fr := Fr.casesOn (motive := fun _ => Fr) f (fun a0 a1 a2 a3 a4 a5 a6 a7 ds um rd => Fr.mk a0 a1 a2 a3 a4 a5 a6 (m a7) ds um rd)
def s8 (i : Nat) : G8 :=
  Nat.casesOn (motive := fun _ => G8) i ⟨F8.a0, p8_0⟩ (fun i => Nat.casesOn (motive := fun _ => G8) i ⟨F8.a1, p8_1⟩ (fun i => Nat.casesOn (motive := fun _ => G8) i ⟨F8.a2, p8_2⟩ (fun i => Nat.casesOn (motive := fun _ => G8) i ⟨F8.a3, p8_3⟩ (fun i => Nat.casesOn (motive := fun _ => G8) i ⟨F8.a4, p8_4⟩ (fun i => Nat.casesOn (motive := fun _ => G8) i ⟨F8.a5, p8_5⟩ (fun i => Nat.casesOn (motive := fun _ => G8) i ⟨F8.a6, p8_6⟩ (fun _ => ⟨F8.a7, p8_7⟩)))))))
def s64 (i : Nat) : G64 :=
  Nat.casesOn (motive := fun _ => G64) i ⟨F64.a0, p64_0⟩ (fun i => Nat.casesOn (motive := fun _ => G64) i ⟨F64.a1, p64_1⟩ (fun i => Nat.casesOn (motive := fun _ => G64) i ⟨F64.a2, p64_2⟩ (fun i => Nat.casesOn (motive := fun _ => G64) i ⟨F64.a3, p64_3⟩ (fun i => Nat.casesOn (motive := fun _ => G64) i ⟨F64.a4, p64_4⟩ (fun i => Nat.casesOn (motive := fun _ => G64) i ⟨F64.a5, p64_5⟩ (fun i => Nat.casesOn (motive := fun _ => G64) i ⟨F64.a6, p64_6⟩ (fun _ => ⟨F64.a7, p64_7⟩)))))))
def sFr (i : Nat) : GFr :=
  Nat.casesOn (motive := fun _ => GFr) i ⟨Fr.a0, pFr_0⟩ (fun i => Nat.casesOn (motive := fun _ => GFr) i ⟨Fr.a1, pFr_1⟩ (fun i => Nat.casesOn (motive := fun _ => GFr) i ⟨Fr.a2, pFr_2⟩ (fun i => Nat.casesOn (motive := fun _ => GFr) i ⟨Fr.a3, pFr_3⟩ (fun i => Nat.casesOn (motive := fun _ => GFr) i ⟨Fr.a4, pFr_4⟩ (fun i => Nat.casesOn (motive := fun _ => GFr) i ⟨Fr.a5, pFr_5⟩ (fun i => Nat.casesOn (motive := fun _ => GFr) i ⟨Fr.a6, pFr_6⟩ (fun _ => ⟨Fr.a7, pFr_7⟩)))))))
def getT (i : Nat) : Get :=
  G8.casesOn (motive := fun _ => Get) (s8 (Nat.mod i 8)) fun g8 _ => G64.casesOn (motive := fun _ => Get) (s64 (Nat.mod (Nat.div i 8) 8)) fun g64 _ =>
    GFr.casesOn (motive := fun _ => Get) (sFr (Nat.div i 64)) fun gf _ => ⟨fun fr => g8 (g64 (gf fr))⟩
def putT (i : Nat) : Put :=
  G8.casesOn (motive := fun _ => Put) (s8 (Nat.mod i 8)) fun _ p8 => G64.casesOn (motive := fun _ => Put) (s64 (Nat.mod (Nat.div i 8) 8)) fun _ p64 =>
    GFr.casesOn (motive := fun _ => Put) (sFr (Nat.div i 64)) fun _ pf => ⟨fun v fr => pf (p64 (p8 v)) fr⟩

structure H where
  mk ::
  nx : Nat
  ns : Nat
  t : T AB

inductive ORes where
  | ok (fr : Fr) (h : H)
  | pan (v : AV) (fr : Fr) (h : H)
  | fail (why : Nat)

inductive KRes where
  | norm (fr : Fr) (h : H)
  | brk (id : Nat) (fr : Fr) (h : H)
  | ret (fr : Fr) (h : H)
  | pan (v : AV) (fr : Fr) (h : H)
  | fail (why : Nat)

inductive CRes where
  | ret (v : AV) (h : H)
  | pan (v : AV) (h : H)
  | fail (why : Nat)

/-- What a call does: the function, the arguments, what a deferred call may recover. -/
abbrev Call := Fn → List AV → H → CRes
/-- deferred call -/
structure OW where
  run : Call → Fr → H → ORes
structure CW where
  run : Call → Fr → H → KRes

/-! strings: the length and the bytes as one number, the first byte the greatest -/
def strByte (len n i : Nat) : Nat := Nat.land (Nat.shiftRight n (Nat.mul 8 (Nat.sub (Nat.sub len 1) i))) 255
def strCut (len n lo hi : Nat) : Nat := Nat.mod (Nat.shiftRight n (Nat.mul 8 (Nat.sub len hi))) (Nat.pow 2 (Nat.mul 8 (Nat.sub hi lo)))
def packL : List Nat → Nat → Nat
  | [], acc => acc
  | b :: r, acc => packL r (acc * 256 + b)

def packB (s : ByteArray) : AV := .str s.data.toList.length (packL (s.data.toList.map (·.toNat)) 0)

def cell1 : AV → Bool
  | .unk | .agg _ | .tup _ => false
  | _ => true
/-! constants -/
mutual
def cv : Value → Option AV
  | .bool b => some (.bool b)
  | .int k n => some (.int k n)
  | .string s => some (packB s)
  | .pointer none => some .nilp
  | .slice none 0 0 => some .nils
  | .map none => some .nilm
  | .nilFunc => some .nilf
  | .nilIface => some .nili
  | .func (.func f) ⟨[]⟩ ⟨[]⟩ => some (.fn (.func f) [] [])
  | .iface t v => (cv v).map (.ifc t)
  | .agg ⟨l⟩ => match cvs l with | some a => bif a.all cell1 then some (.agg a) else none | none => none
  | .tuple ⟨l⟩ => (cvs l).map .tup
  | _ => none
def cvs : List Value → Option (List AV)
  | [] => some []
  | v :: r => match cv v, cvs r with
    | some a, some b => some (a :: b)
    | _, _ => none
end

/-- the cells of a value -/
def cellsOf : AV → Option (List AV)
  | .agg l => some l
  | .unk | .tup _ => none
  | v => some [v]

/-! lists of cells -/
def ldrop (l : List AV) : Nat → List AV
  | 0 => l
  | n + 1 => match l with | [] => [] | _ :: r => ldrop r n
def lget (l : List AV) (i : Nat) : Option AV := match ldrop l i with | [] => none | v :: _ => some v
/-- the first n, if there are n -/
def ltake : Nat → List AV → Option (List AV)
  | 0, _ => some []
  | _ + 1, [] => none
  | n + 1, v :: r => match ltake n r with | none => none | some l => some (v :: l)
/-- overwrite -/
def lover : List AV → List AV → Option (List AV)
  | l, [] => some l
  | [], _ :: _ => none
  | _ :: l, v :: vs => match lover l vs with | none => none | some r => some (v :: r)
def lput (l : List AV) (i : Nat) (vs : List AV) : Option (List AV) := match i, l with
  | 0, l => lover l vs
  | i + 1, v :: l => match lput l i vs with | none => none | some r => some (v :: r)
  | _ + 1, [] => none
def lrep (l : List AV) : Nat → List AV
  | 0 => []
  | n + 1 => l ++ lrep l n

/-! the heap -/
def H.get (h : H) (b : Nat) : Option AB := h.t.get b
def H.put (h : H) (b : Nat) (x : AB) : H := H.casesOn (motive := fun _ => H) h fun nx ns t => ⟨nx, ns, t.put b (some x)⟩
def H.drop (h : H) (b : Nat) : H := H.casesOn (motive := fun _ => H) h fun nx ns t => ⟨nx, ns, t.put b none⟩
def H.drops (h : H) : List Nat → H
  | [] => h
  | b :: r => H.drops (h.drop b) r
def H.bump (h : H) : H := H.casesOn (motive := fun _ => H) h fun nx ns t => ⟨nx, Nat.succ ns, t⟩
def H.alloc {R : Type} (h : H) (x : AB) (fail : R) (k : Nat → H → R) : R :=
  H.casesOn (motive := fun _ => R) h fun nx ns t => Nat.casesOn (motive := fun _ => R) nx fail fun m => k (Nat.succ m) ⟨Nat.succ (Nat.succ m), ns, t.put (Nat.succ m) (some x)⟩

/-- write cells into a block -/
def H.write (h : H) (b off : Nat) (vs : List AV) : Option H :=
  match h.get b with
  | some (.cells el l anc st) => bif st.wr then match lput l off vs with
    | some l => match anc with
      | [] => some (h.put b (.cells el l [] st))
      | _ => some ((h.drops anc).put b (.cells el l [] st))
    | none => none
    else none
  | _ => none
def H.read (h : H) (b off n : Nat) : Option (List AV) :=
  match h.get b with
  | some (.cells _ l _ _) => ltake n (ldrop l off)
  | _ => none
def H.read1 (h : H) (b off : Nat) : Option AV :=
  match h.get b with
  | some (.cells _ l _ _) => lget l off
  | _ => none

/-! types -/
structure TI where
  d : TypeDesc
  size : Nat
  z : Option (List AV)
  agg : Bool

/-- the cells of a type's zero value -/
def zOf (agg : Bool) (v : Value) : Option (List AV) := match cv v with
  | some (.agg l) => if agg then some l else none
  | some a => if agg then none else cellsOf a
  | none => none
def tiOf (P : Program) (t : Nat) : Option TI :=
  match P.underlying t, P.info? t with
  | some d, some i =>
    let agg := match d with | .struct _ | .array _ _ => true | _ => false
    if i.bytes ≤ 1048576 then some { d, size := i.size, z := match i.zero with | some v => (match zOf agg v with | some l => if l.length = i.size then some l else none | none => none) | none => none, agg } else none
  | _, _ => none
def TI.zero (i : TI) : Option AV := match i.z with
  | some l => if i.agg then some (.agg l) else (match l with | [v] => some v | _ => none)
  | none => none

/-! operations on values -/
def kindN : IntKind → Nat
  | .i8 => 0 | .i16 => 1 | .i32 => 2 | .i64 => 3 | .u8 => 4 | .u16 => 5 | .u32 => 6 | .u64 => 7
def kindEq (a b : IntKind) : Bool := Nat.beq (kindN a) (kindN b)
def wrapI (k : IntKind) (r : Int) : Int :=
  match k with
  | .i64 => match r with
    | .ofNat n => bif Nat.ble n 9223372036854775807 then .ofNat n else k.wrap r
    | .negSucc n => bif Nat.ble n 9223372036854775807 then .negSucc n else k.wrap r
  | _ => k.wrap r

def intOp (op : BinOp) (k : IntKind) (a b : Int) : Option AV :=
  match op with
  | .add => some (.int k (wrapI k (Int.add a b)))
  | .sub => some (.int k (wrapI k (Int.sub a b)))
  | .mul => some (.int k (wrapI k (Int.mul a b)))
  | .quo => if b = 0 then none else some (.int k (wrapI k (a.tdiv b)))
  | .rem => if b = 0 then none else some (.int k (a.tmod b))
  | .and => some (.int k (k.wrap ((BitVec.ofInt k.bits a &&& BitVec.ofInt k.bits b).toNat)))
  | .or => some (.int k (k.wrap ((BitVec.ofInt k.bits a ||| BitVec.ofInt k.bits b).toNat)))
  | .xor => some (.int k (k.wrap ((BitVec.ofInt k.bits a ^^^ BitVec.ofInt k.bits b).toNat)))
  | .andNot => some (.int k (k.wrap ((BitVec.ofInt k.bits a &&& ~~~BitVec.ofInt k.bits b).toNat)))
  | .eql => some (.bool (a == b))
  | .neq => some (.bool (a != b))
  | .lss => some (.bool (a < b))
  | .leq => some (.bool (a ≤ b))
  | .gtr => some (.bool (a > b))
  | .geq => some (.bool (a ≥ b))
  | .shl | .shr => none
def shiftOp (op : BinOp) (k : IntKind) (x y : Int) : Option AV :=
  if y < 0 then none else
  let n := min y.toNat k.bits
  match op with
  | .shl => some (.int k (wrapI k (x * 2 ^ n)))
  | .shr => some (.int k (x.fdiv (2 ^ n)))
  | _ => none
def strLt (l1 n1 l2 n2 : Nat) : Bool :=
  let m := Nat.max l1 l2
  let a := Nat.mul n1 (Nat.pow 256 (Nat.sub m l1))
  let b := Nat.mul n2 (Nat.pow 256 (Nat.sub m l2))
  bif Nat.beq a b then Nat.blt l1 l2 else Nat.blt a b
def strEq (l1 n1 l2 n2 : Nat) : Bool := bif Nat.beq l1 l2 then Nat.beq n1 n2 else false
def strOp (op : BinOp) (l1 n1 l2 n2 : Nat) : Option AV :=
  match op with
  | .add => bif Nat.ble (Nat.add l1 l2) 1000000000 then some (.str (Nat.add l1 l2) (Nat.add (Nat.mul n1 (Nat.pow 256 l2)) n2)) else none
  | .eql => some (.bool (strEq l1 n1 l2 n2))
  | .neq => some (.bool (!strEq l1 n1 l2 n2))
  | .lss => some (.bool (strLt l1 n1 l2 n2))
  | .leq => some (.bool (!strLt l2 n2 l1 n1))
  | .gtr => some (.bool (strLt l2 n2 l1 n1))
  | .geq => some (.bool (!strLt l1 n1 l2 n2))
  | _ => none

/-- kinds of cells, and of what may be compared -/
inductive CK where
  | int | str | bool
inductive EqK where
  | one (c : CK)
  | ptr | map | slice | func | iface
  | flat (cs : List CK)
def eqC : CK → AV → AV → Option Bool
  | .int, .int k a, .int k' b => bif kindEq k k' then some (a == b) else none
  | .str, .str a b, .str c d => some (strEq a b c d)
  | .bool, .bool a, .bool b => some (a == b)
  | _, _, _ => none
def eqCells : List CK → List AV → List AV → Option Bool
  | [], [], [] => some true
  | c :: cs, a :: l, b :: m => match eqC c a b with
    | some true => eqCells cs l m
    | some false => some false
    | none => none
  | _, _, _ => none
def eqP : AV → AV → Option Bool
  | .nilp, .nilp => some true
  | .nilp, .ptr _ _ => some false
  | .ptr _ _, .nilp => some false
  | .ptr a b, .ptr c d => bif Nat.beq a c then some (Nat.beq b d) else none
  | _, _ => none
def eqM : AV → AV → Option Bool
  | .nilm, .nilm => some true
  | .nilm, .map _ => some false
  | .map _, .nilm => some false
  | _, _ => none
def eqSl : AV → AV → Option Bool
  | .nils, .nils => some true
  | .nils, .slc .. => some false
  | .slc .., .nils => some false
  | .nils, .sle .. => some false
  | .sle .., .nils => some false
  | _, _ => none
def eqF : AV → AV → Option Bool
  | .nilf, .nilf => some true
  | .nilf, .fn .. => some false
  | .fn .., .nilf => some false
  | _, _ => none
def eqI (nilOk : Bool) : AV → AV → Option Bool
  | .nili, .nili => bif nilOk then some true else none
  | .nili, .ifc .. => some false
  | .ifc .., .nili => some false
  | _, _ => none
def eqAgg (cs : List CK) : AV → AV → Option Bool
  | .agg l, .agg m => eqCells cs l m
  | _, _ => none
def eqK (nilOk : Bool) : EqK → AV → AV → Option Bool
  | .one c => eqC c
  | .ptr => eqP
  | .map => eqM
  | .slice => eqSl
  | .func => eqF
  | .iface => eqI nilOk
  | .flat cs => eqAgg cs

/-! equal values -/
mutual
def avEq : AV → AV → Bool
  | .bool a, .bool b => a == b
  | .int k a, .int k' b => kindEq k k' && (a == b)
  | .str a b, .str c d => Nat.beq a c && Nat.beq b d
  | .ptr a b, .ptr c d => Nat.beq a c && Nat.beq b d
  | .nilp, .nilp => true
  | .slc a b c d e, .slc a' b' c' d' e' => Nat.beq a a' && Nat.beq b b' && Nat.beq c c' && Nat.beq d d' && Nat.beq e e'
  | .nils, .nils => true
  | .sle a b c, .sle a' b' c' => Nat.beq a a' && Nat.beq b b' && Nat.beq c c'
  | .map a, .map b => Nat.beq a b
  | .nilm, .nilm => true
  | .fn (.func f) a c, .fn (.func g) b d => Nat.beq f g && avsEq a b && avsEq c d
  | .nilf, .nilf => true
  | .ifc t a, .ifc u b => Nat.beq t u && avEq a b
  | .nili, .nili => true
  | .agg a, .agg b => avsEq a b
  | .tup a, .tup b => avsEq a b
  | .opq a, .opq b => Nat.beq a b
  | _, _ => false
def avsEq : List AV → List AV → Bool
  | [], [] => true
  | a :: l, b :: m => avEq a b && avsEq l m
  | _, _ => false
end

end Go.Ev
end

section
/- The operations: values, new blocks, effects. -/
namespace Go.Ev

def unkFr : Fr :=
  let f : F8 := ⟨.unk, .unk, .unk, .unk, .unk, .unk, .unk, .unk⟩
  let g : F64 := ⟨f, f, f, f, f, f, f, f⟩
  ⟨g, g, g, g, g, g, g, g, [], .no, none⟩

abbrev Op1 := Call → Fr → H → ORes
/-- An operation: val: a value, the heap stays (rd: it reads the heap); new: a new block; eff: all else. -/
inductive OK1 where
  | val (rd : Bool) (f : Fr → H → Option AV) (p : Put)
  | new (f : Fr → H → Option AB) (mk : Nat → AV) (p : Put)
  | eff (F : Op1)
def runVal (f : Fr → H → Option AV) (p : Put) : Op1 := fun _ fr h => match f fr h with
  | some v => .ok (p.run v fr) h
  | none => .fail 1
def runNew (f : Fr → H → Option AB) (mk : Nat → AV) (p : Put) : Op1 := fun _ fr h => match f fr h with
  | some x => h.alloc x (.fail 2) fun id h => .ok (p.run (mk id) fr) h
  | none => .fail 2
def OK1.run : OK1 → Op1
  | .val _ f p => runVal f p
  | .new f mk p => runNew f mk p
  | .eff F => F

/-- operands -/
def cOpd : Operand → Option Get
  | .tmp t => if t < 512 then some (getT t) else none
  | .const v => match cv v with | some a => some ⟨fun _ => a⟩ | none => none
  | .global _g => none
  | .func f => some ⟨fun _ => .fn (.func f) [] []⟩
def cOpds : List Operand → Option (List Get)
  | [] => some []
  | x :: r => match cOpd x, cOpds r with
    | some a, some b => some (a :: b)
    | _, _ => none
def gets : List Get → Fr → List AV
  | [], _ => []
  | g :: r, fr => g.run fr :: gets r fr

/-! values -/
abbrev VF := Fr → H → Option AV
def fMv (g : Get) : VF := fun fr _ => some (g.run fr)
def f1 (f : AV → Option AV) (g : Get) : VF := fun fr _ => f (g.run fr)
def f2 (f : AV → AV → Option AV) (g g' : Get) : VF := fun fr _ => f (g.run fr) (g'.run fr)
def fPick (c a b : Get) : VF := fun fr _ => match c.run fr with
  | .bool true => some (a.run fr)
  | .bool false => some (b.run fr)
  | _ => none
/-- fill parts: (offset, size, operand) -/
def fillP (fr : Fr) : List AV → List (Nat × Nat × Get) → Option (List AV)
  | z, [] => some z
  | z, (off, n, g) :: r => match cellsOf (g.run fr) with
    | some l => bif Nat.beq l.length n then (match lput z off l with | some z => fillP fr z r | none => none) else none
    | none => none
def fBuild (z : List AV) (ps : List (Nat × Nat × Get)) : VF := fun fr _ => match fillP fr z ps with
  | some l => some (.agg l)
  | none => none
def fLoad1 (g : Get) : VF := fun fr h => match g.run fr with
  | .ptr b off => h.read1 b off
  | _ => none
def fLoadN (n : Nat) (g : Get) : VF := fun fr h => match g.run fr with
  | .ptr b off => match h.read b off n with
    | some l => some (.agg l)
    | none => none
  | _ => none
def nilChk : AV → Option AV
  | .ptr b o => some (.ptr b o)
  | .ifc t v => some (.ifc t v)
  | .fn (.func f) a b => some (.fn (.func f) a b)
  | .fn (.yield f) a b => some (.fn (.yield f) a b)
  | _ => none
def notA : AV → Option AV
  | .bool b => some (.bool !b)
  | _ => none
def negA : AV → Option AV
  | .int k n => some (.int k (wrapI k (Int.sub 0 n)))
  | _ => none
def intBin (op : BinOp) : AV → AV → Option AV
  | .int k a, .int k' b => bif kindEq k k' then intOp op k a b else none
  | _, _ => none
def shBin (op : BinOp) : AV → AV → Option AV
  | .int k a, .int _ b => shiftOp op k a b
  | _, _ => none
def strBin (op : BinOp) : AV → AV → Option AV
  | .str a b, .str c d => strOp op a b c d
  | _, _ => none
def eqBin (neg : Bool) (nilOk : Bool) (k : EqK) (a b : AV) : Option AV := match eqK nilOk k a b with
  | some r => some (.bool (bif neg then !r else r))
  | none => none
def convInt (k : IntKind) : AV → Option AV
  | .int _ n => some (.int k (wrapI k n))
  | _ => none
def convStr : AV → Option AV
  | .str a b => some (.str a b)
  | _ => none
def strBytes (n : Nat) : Nat → List AV → List AV
  | 0, acc => acc
  | k + 1, acc => strBytes (Nat.shiftRight n 8) k (.int .u8 (.ofNat (Nat.land n 255)) :: acc)
def bytesPack : List AV → Nat → Option Nat
  | [], acc => some acc
  | .int .u8 (.ofNat b) :: r, acc => bif Nat.blt b 256 then bytesPack r (acc * 256 + b) else none
  | _, _ => none
def fBytesToStr (g : Get) : VF := fun fr h => match g.run fr with
  | .nils => some (.str 0 0)
  | .slc b off len _ _ => match h.read b off len with
    | some l => match bytesPack l 0 with
      | some n => some (.str len n)
      | none => none
    | none => none
  | _ => none
def isConcrete : AV → Bool
  | .unk => false
  | _ => true
def mkIface (t : Nat) (v : AV) : Option AV := some (.ifc t v)
def fMkFunc (f : Fn) (a b : List Get) : VF := fun fr _ => some (.fn f (gets a fr) (gets b fr))
/-- bounds of a slice expression: none: left out -/
def bnd (fr : Fr) (d : Nat) : Option Get → Option Nat
  | none => some d
  | some g => match g.run fr with
    | .int _ (.ofNat n) => some n
    | _ => none
def fSliceS (lo hi : Option Get) (g : Get) : VF := fun fr _ => match g.run fr with
  | .str len n => match bnd fr 0 lo, bnd fr len hi with
    | some l, some u => bif Nat.ble l u && Nat.ble u len then some (.str (Nat.sub u l) (strCut len n l u)) else none
    | _, _ => none
  | _ => none
/-- a slice of a slice: size: the cells of an element -/
def fSliceV (size : Nat) (lo hi mx : Option Get) (g : Get) : VF := fun fr _ => match g.run fr with
  | .nils => match bnd fr 0 lo, bnd fr 0 hi, bnd fr 0 mx with
    | some 0, some 0, some 0 => some .nils
    | _, _, _ => none
  | .slc b off len cap ex => match bnd fr 0 lo, bnd fr len hi, bnd fr cap mx with
    | some l, some u, some m => bif Nat.ble l u && Nat.ble u m && Nat.ble m cap then
        (match mx with
          | none => bif Nat.beq ex 0 then (bif Nat.beq cap l then some (.slc b off (Nat.sub u l) 0 0) else some (.slc b (Nat.add off (Nat.mul l size)) (Nat.sub u l) (Nat.sub cap l) 0))
              else bif Nat.beq ex size then (bif Nat.blt l cap || Nat.beq l 0 then some (.slc b (Nat.add off (Nat.mul l size)) (Nat.sub u l) (Nat.sub cap l) ex) else some (.sle b (Nat.add off (Nat.mul l size)) ex)) else none
          | some _ => bif Nat.beq m l then some (.slc b off (Nat.sub u l) 0 0) else some (.slc b (Nat.add off (Nat.mul l size)) (Nat.sub u l) (Nat.sub m l) 0))
        else none
    | _, _, _ => none
  | _ => none
def offP (off : Nat) : AV → Option AV
  | .ptr b o => some (.ptr b (Nat.add o off))
  | _ => none
def partA (off n : Nat) (agg : Bool) : AV → Option AV
  | .agg l => bif agg then (match ltake n (ldrop l off) with | some l => some (.agg l) | none => none) else lget l off
  | _ => none
def idxV (size : Nat) : AV → AV → Option AV
  | .slc b off len _ _, .int _ (.ofNat i) => bif Nat.blt i len then some (.ptr b (Nat.add off (Nat.mul i size))) else none
  | _, _ => none
def idxA (n size : Nat) : AV → AV → Option AV
  | .ptr b off, .int _ (.ofNat i) => bif Nat.blt i n then some (.ptr b (Nat.add off (Nat.mul i size))) else none
  | _, _ => none
def idxS : AV → AV → Option AV
  | .str len n, .int _ (.ofNat i) => bif Nat.blt i len then some (.int .u8 (.ofNat (strByte len n i))) else none
  | _, _ => none
def idxAgg (len size : Nat) (agg : Bool) : AV → AV → Option AV
  | a, .int _ (.ofNat i) => bif Nat.blt i len then partA (Nat.mul i size) size agg a else none
  | _, _ => none
/-- a key that can be compared -/
def keyFit (q : EqK) (k : AV) : Bool := match eqK true q k k with
  | some _ => true
  | none => false
/-- find a key -/
def findK (q : EqK) (k : AV) : List (AV × AV × Nat) → Option (Option AV)
  | [] => some none
  | (k', v, _) :: r => match eqK true q k k' with
    | some true => some (some v)
    | some false => findK q k r
    | none => none
def fLookup (q : EqK) (zero : AV) (ok : Bool) (m k : Get) : VF := fun fr h =>
  match (bif keyFit q (k.run fr) then match m.run fr with
    | .nilm => some none
    | .map b => match h.get b with
      | some (.map es _) => findK q (k.run fr) es
      | _ => none
    | _ => none
    else none) with
  | some (some v) => some (bif ok then .tup [v, .bool true] else v)
  | some none => some (bif ok then .tup [zero, .bool false] else zero)
  | none => none
def findB (n : Nat) : List (AV × AV × Nat) → Option (AV × AV)
  | [] => none
  | (k, v, c) :: r => bif Nat.beq c n then some (k, v) else findB n r
def fEntry (g : Get) : VF := fun fr h => match g.run fr with
  | .ptr b 0 => match h.get b with
    | some (.miter (some m) _ (s :: _) st) => match h.get m with
      | some (.map es clock) => bif Nat.beq clock st then (match findB s es with
        | some (k, v) => some (.tup [k, v])
        | none => none) else none
      | _ => none
    | _ => none
  | _ => none
def assertC (t : Nat) (ok : Bool) (zero : AV) : AV → Option AV
  | .ifc u v => bif Nat.beq t u then some (bif ok then .tup [v, .bool true] else v) else bif ok then some (.tup [zero, .bool false]) else none
  | .nili => bif ok then some (.tup [zero, .bool false]) else none
  | _ => none
def extr (i : Nat) : AV → Option AV
  | .tup l => lget l i
  | _ => none
def lenS : AV → Option AV
  | .str l _ => some (.int .i64 (.ofNat l))
  | _ => none
def lenV : AV → Option AV
  | .nils => some (.int .i64 (.ofNat 0))
  | .slc _ _ l _ _ => some (.int .i64 (.ofNat l))
  | .sle .. => some (.int .i64 (.ofNat 0))
  | _ => none
def fLenM (g : Get) : VF := fun fr h => match g.run fr with
  | .nilm => some (.int .i64 (.ofNat 0))
  | .map b => match h.get b with
    | some (.map es _) => some (.int .i64 (.ofNat es.length))
    | _ => none
  | _ => none
def capA : AV → Option AV
  | .nils => some (.int .i64 (.ofNat 0))
  | .slc _ _ _ c ex => bif Nat.beq ex 0 then some (.int .i64 (.ofNat c)) else none
  | _ => none
def maxA (mn : Bool) : AV → AV → Option AV
  | .int k a, .int _ b => some (.int k (if mn then (if b < a then b else a) else (if b > a then b else a)))
  | _, _ => none
/-- a pointer as unsafe.Pointer -/
def fToUnsafe (g : Get) : VF := fun fr h => match g.run fr with
  | .nilp => some .nilp
  | .ptr b off => match h.get b with
    | some (.cells _ l _ _) => bif Nat.blt off l.length then some (.ptr b off) else none
    | _ => none
  | _ => none
/-- back; u: the type, of size cells -/
def fOfUnsafe (u size : Nat) (g : Get) : VF := fun fr h => match g.run fr with
  | .nilp => some .nilp
  | .ptr b off => match h.get b with
    | some (.cells el l _ .op) => bif Nat.beq el u && Nat.beq (Nat.mod off size) 0 && Nat.ble (Nat.add off size) l.length then some (.ptr b off) else none
    | _ => none
  | _ => none
def sliceData : AV → Option AV
  | .nils => some .nilp
  | .slc b off _ cap _ => bif Nat.beq cap 0 then none else some (.ptr b off)
  | _ => none

/-! new blocks -/
abbrev NF := Fr → H → Option AB
def nAlloc (el : Nat) (z : List AV) : NF := fun _ _ => some (.cells el z [] .op)
def nBox (el : Nat) (g : Get) : NF := fun fr _ => match cellsOf (g.run fr) with
  | some l => some (.cells el l [] .op)
  | none => none
def nBuildS (el : Nat) (z : List AV) (ps : List (Nat × Nat × Get)) : NF := fun fr _ => match fillP fr z ps with
  | some l => some (.cells el l [] .op)
  | none => none
def nMap : NF := fun _ _ => some (.map [] 0)
def nRangeS (g : Get) : NF := fun fr _ => match g.run fr with
  | .str len n => some (.siter len n 0)
  | _ => none
def nRangeM (g : Get) : NF := fun fr h => match g.run fr with
  | .nilm => some (.miter none 0 [] 0)
  | .map b => match h.get b with
    | some (.map _ c) => some (.miter (some b) c [] c)
    | _ => none
  | _ => none

/-! effects -/
def xStrToBytes (el : Nat) (g : Get) (p : Put) : Op1 := fun _ fr h => match g.run fr with
  | .str len n => h.alloc (.cells el (strBytes n len []) [] .op) (.fail 15) fun id h => .ok (p.run (.slc id 0 len len 1) fr) h
  | _ => .fail 15
def xMkSlice (el : Nat) (z : List AV) (l c : Get) (p : Put) : Op1 := fun _ fr h => match l.run fr, c.run fr with
  | .int _ (.ofNat l), .int _ (.ofNat c) => bif Nat.ble l c && Nat.ble c 1000000 then
      h.alloc (.cells el (lrep z c) [] .op) (.fail 18) fun id h => .ok (p.run (.slc id 0 l c 0) fr) h else .fail 18
  | _, _ => .fail 18
def xStore (n : Nat) (g v : Get) (p : Put) : Op1 := fun _ fr h => match g.run fr with
  | .ptr b off => match cellsOf (v.run fr) with
    | some l => bif Nat.beq l.length n then (match h.write b off l with
      | some h => .ok (p.run .unk fr) h
      | none => .fail 12) else .fail 13
    | none => .fail 14
  | _ => .fail 14
def updK (q : EqK) (k v : AV) (clock : Nat) : List (AV × AV × Nat) → Option (List (AV × AV × Nat) × Bool)
  | [] => some ([(k, v, clock)], true)
  | (k', v', c) :: r => match eqK true q k k' with
    | some true => some ((k', v, c) :: r, false)
    | some false => match updK q k v clock r with | some (l, b) => some ((k', v', c) :: l, b) | none => none
    | none => none
def delK (q : EqK) (k : AV) : List (AV × AV × Nat) → Option (List (AV × AV × Nat))
  | [] => some []
  | (k', v', c) :: r => match eqK true q k k' with
    | some true => some r
    | some false => match delK q k r with | some l => some ((k', v', c) :: l) | none => none
    | none => none
def xMapUpd (q : EqK) (m k v : Get) (p : Put) : Op1 := fun _ fr h => bif keyFit q (k.run fr) then match m.run fr with
  | .map b => match h.get b with
    | some (.map es c) => match updK q (k.run fr) (v.run fr) c es with
      | some (l, true) => .ok (p.run .unk fr) (h.put b (.map l (Nat.succ c)))
      | some (l, false) => .ok (p.run .unk fr) (h.put b (.map l c))
      | none => .fail 23
    | _ => .fail 23
  | _ => .fail 23
  else .fail 24
def memN (n : Nat) : List Nat → Bool
  | [] => false
  | a :: r => bif Nat.beq a n then true else memN n r
def leftE (seen : List Nat) : List (AV × AV × Nat) → List (AV × AV × Nat)
  | [] => []
  | e :: r => bif memN e.2.2 seen then leftE seen r else e :: leftE seen r
def xNextS (g : Get) (p : Put) : Op1 := fun _ fr h => match g.run fr with
  | .ptr b 0 => match h.get b with
    | some (.siter len n pos) => bif Nat.blt pos len then
        (let c := strByte len n pos
         bif Nat.blt c 128 then .ok (p.run (.tup [.bool true, .int .i64 (.ofNat pos), .int .i32 (.ofNat c)]) fr) (h.put b (.siter len n (Nat.succ pos))) else .fail 26)
        else .ok (p.run (.tup [.bool false]) fr) h
    | _ => .fail 26
  | _ => .fail 26
/-- an entry that was there at the last step -/
def anyOld (st : Nat) : List (AV × AV × Nat) → Bool
  | [] => false
  | e :: r => bif Nat.blt e.2.2 st then true else anyOld st r
def stillOld (seen : List Nat) (st : Nat) (es : List (AV × AV × Nat)) : Bool := match seen with
  | [] => true
  | _ => match es with
    | [] => true
    | _ => anyOld st es
/-! iterations whose order is open: each step yields symbols -/
def shOf : AV → Option (Option Nat)
  | .agg l => some (some l.length)
  | .unk | .tup _ => none
  | _ => some none
def shN : Option Nat → Nat
  | none => 1
  | some n => n
def shEq : Option (Option Nat) → Option Nat → Bool
  | some none, none => true
  | some (some a), some b => Nat.beq a b
  | _, _ => false
def symL : Nat → Nat → List AV
  | _, 0 => []
  | s, n + 1 => .opq s :: symL (Nat.succ s) n
def symOf (s : Nat) : Option Nat → AV
  | none => .opq s
  | some n => .agg (symL s n)
def bornIn (b : Nat) : List (AV × AV × Nat) → Bool
  | [] => false
  | e :: r => bif Nat.beq e.2.2 b then true else bornIn b r
def famOk (ks vs : Option Nat) (since : Nat) : List (AV × AV × Nat) → Bool
  | [] => true
  | e :: r => shEq (shOf e.1) ks && shEq (shOf e.2.1) vs && Nat.blt e.2.2 since && !bornIn e.2.2 r && famOk ks vs since r
def esEq : List (AV × AV × Nat) → List (AV × AV × Nat) → Bool
  | [], [] => true
  | a :: l, b :: m => avEq a.1 b.1 && avEq a.2.1 b.2.1 && Nat.beq a.2.2 b.2.2 && esEq l m
  | _, _ => false
def symBase (ns b : Nat) : Nat := Nat.mul (Nat.add (Nat.mul ns 268435456) b) 64
def famGo (b : Nat) (es : List (AV × AV × Nat)) (since : Nat) : Option (Option Nat × Option Nat) := match es with
  | [] => none
  | e :: _ => match shOf e.1, shOf e.2.1 with
    | some ks, some vs => bif famOk ks vs since es && Nat.ble (Nat.add (shN ks) (shN vs)) 64 && Nat.blt b 268435456 then some (ks, vs) else none
    | _, _ => none
def famStep (b m since : Nat) (es : List (AV × AV × Nat)) (k : Nat) (syms : List Nat) (clock : Nat) (p : Put) (fr : Fr) (h : H) : ORes := match famGo b es since with
  | some _ => bif Nat.beq syms.length k then
        (bif Nat.beq k es.length then .ok (p.run (.tup [.bool false]) fr) h else
          .ok (p.run (.tup [.bool true, .unk, .unk]) fr) (h.put b (.fiter m since es clock (Nat.succ k) syms)))
        else .fail 28
  | none => .fail 28
def xNextM (g : Get) (p : Put) : Op1 := fun _ fr h => match g.run fr with
  | .ptr b 0 => match h.get b with
    | some (.miter none _ _ _) => .ok (p.run (.tup [.bool false]) fr) h
    | some (.miter (some m) since seen st) => match h.get m with
      | some (.map es clock) => bif stillOld seen st es then match leftE seen es with
        | [] => .ok (p.run (.tup [.bool false]) fr) h
        | [(k, v, born)] => bif Nat.blt born since then .ok (p.run (.tup [.bool true, k, v]) fr) (h.put b (.miter (some m) since (born :: seen) clock)) else .fail 27
        | _ => match seen with
          | [] => famStep b m since es 0 [] clock p fr h
          | _ => .fail 28
        else .fail 29
      | _ => .fail 27
    | some (.fiter m since es st k syms) => match h.get m with
      | some (.map es' clock) => bif esEq es es' && (Nat.beq k 0 || anyOld st es) then famStep b m since es k syms clock p fr h else .fail 29
      | _ => .fail 27
    | _ => .fail 27
  | _ => .fail 27
def xEntry (g : Get) (p : Put) : Op1 := fun call fr h => match g.run fr with
  | .ptr b 0 => match h.get b with
    | some (.fiter m since es st k syms) => match h.get m, famGo b es since with
      | some (.map es' clock), some (ks, vs) => bif Nat.beq clock st && esEq es es' && Nat.beq k (Nat.succ syms.length) then
          .ok (p.run (.tup [symOf (symBase h.ns b) ks, symOf (Nat.add (symBase h.ns b) (shN ks)) vs]) fr) (h.bump.put b (.fiter m since es st k (syms ++ [symBase h.ns b])))
          else .fail 25
      | _, _ => .fail 25
    | _ => runVal (fEntry g) p call fr h
  | _ => .fail 25
/-- the cells that an append adds -/
def addCells (size : Nat) (h : H) : AV → Option (Nat × List AV)
  | .nils => some (0, [])
  | .sle .. => some (0, [])
  | .slc b off len _ _ => match h.read b off (Nat.mul len size) with
    | some l => some (len, l)
    | none => none
  | .str len n => bif Nat.beq size 1 then some (len, strBytes n len []) else none
  | _ => none
def xAppend (el size : Nat) (s x : Get) (p : Put) : Op1 := fun _ fr h => match addCells size h (x.run fr) with
  | none => .fail 30
  | some (n, new) => match s.run fr with
    | .sle b off es => bif Nat.beq n 0 then .ok (p.run (.sle b off es) fr) h else bif Nat.blt 1000000 n then .fail 36 else match h.get b with
        | some (.cells el' l anc st) => bif st.wr && Nat.beq el' el && Nat.beq l.length off && Nat.beq es size then
            (h.put b (.cells el' l anc .fk)).alloc (.cells el new (b :: anc) (bif Nat.beq off 0 then st else .so)) (.fail 33) fun id h => .ok (p.run (.slc id 0 n n size) fr) h
            else .fail 35
        | _ => .fail 37
    | .nils => bif Nat.beq n 0 then .ok (p.run .nils fr) h else bif Nat.blt 1000000 n then .fail 36 else
        h.alloc (.cells el new [] .op) (.fail 31) fun id h => .ok (p.run (.slc id 0 n n size) fr) h
    | .slc b off len cap ex =>
      bif Nat.ble (Nat.add len n) cap then
        (bif Nat.beq n 0 then .ok (p.run (.slc b off len cap ex) fr) h else match h.write b (Nat.add off (Nat.mul len size)) new with
        | some h => .ok (p.run (.slc b off (Nat.add len n) cap ex) fr) h
        | none => .fail 32)
      else bif Nat.blt 1000000 (Nat.add len n) then .fail 36 else match h.get b with
        | some (.cells el' l anc st) => match ltake (Nat.mul len size) (ldrop l off) with
          | some old => bif Nat.beq ex 0 then h.alloc (.cells el (old ++ new) [] .op) (.fail 33) fun id h => .ok (p.run (.slc id 0 (Nat.add len n) (Nat.add len n) size) fr) h
              else bif st.wr && Nat.beq el' el && Nat.beq ex size && Nat.beq l.length (Nat.add off (Nat.mul len size)) && Nat.ble len cap then
                (h.put b (.cells el' l anc .fk)).alloc (.cells el (old ++ new) (b :: anc) (bif Nat.beq off 0 then st else .so)) (.fail 33) fun id h => .ok (p.run (.slc id 0 (Nat.add len n) (Nat.add len n) size) fr) h
                else .fail 35
          | none => .fail 36
        | _ => .fail 37
    | _ => .fail 38
def xCopy (size : Nat) (d s : Get) (p : Put) : Op1 := fun _ fr h => match d.run fr, addCells size h (s.run fr) with
  | .nils, some _ => .ok (p.run (.int .i64 (.ofNat 0)) fr) h
  | .sle .., some _ => .ok (p.run (.int .i64 (.ofNat 0)) fr) h
  | .slc b off len _ _, some (n, l) =>
    let m := bif Nat.ble n len then n else len
    match ltake (Nat.mul m size) l with
    | some l => bif Nat.beq m 0 then .ok (p.run (.int .i64 (.ofNat 0)) fr) h else match h.write b off l with
      | some h => .ok (p.run (.int .i64 (.ofNat m)) fr) h
      | none => .fail 39
    | none => .fail 39
  | _, _ => .fail 39
def xClearM (s : Get) (p : Put) : Op1 := fun _ fr h => match s.run fr with
  | .nilm => .ok (p.run (.tup []) fr) h
  | .map b => match h.get b with
    | some (.map _ c) => .ok (p.run (.tup []) fr) (h.put b (.map [] c))
    | _ => .fail 40
  | _ => .fail 40
def xClear (z : List AV) (s : Get) (p : Put) : Op1 := fun _ fr h => match s.run fr with
  | .nils | .sle .. => .ok (p.run (.tup []) fr) h
  | .slc b off len _ _ => bif Nat.beq len 0 then .ok (p.run (.tup []) fr) h else match h.write b off (lrep z len) with
    | some h => .ok (p.run (.tup []) fr) h
    | none => .fail 40
  | _ => .fail 40
def xDelete (q : EqK) (m k : Get) (p : Put) : Op1 := fun _ fr h => bif keyFit q (k.run fr) then match m.run fr with
  | .nilm => .ok (p.run (.tup []) fr) h
  | .map b => match h.get b with
    | some (.map es c) => match delK q (k.run fr) es with
      | some l => .ok (p.run (.tup []) fr) (h.put b (.map l c))
      | none => .fail 41
    | _ => .fail 41
  | _ => .fail 41
  else .fail 24
def after (p : Put) (fr : Fr) : CRes → ORes
  | .ret v h => .ok (p.run v fr) h
  | .pan v h => .pan v fr h
  | .fail n => .fail n
def xCall (f : Nat) (as : List Get) (p : Put) : Op1 := fun call fr h => after p fr (call (.func f) (gets as fr) h)
def xCallV (g : Get) (as : List Get) (p : Put) : Op1 := fun call fr h => match g.run fr with
  | .fn (.func f) first cap => after p fr (call (.func f) ((first ++ gets as fr) ++ cap) h)
  | .fn (.yield l) first _ => after p fr (call (.yield l) (first ++ gets as fr) h)
  | _ => .fail 42
def xInvoke (find : Nat → Option Nat) (g : Get) (as : List Get) (p : Put) : Op1 := fun call fr h => match g.run fr with
  | .ifc t v => match find t with
    | some f => after p fr (call (.func f) (v :: gets as fr) h)
    | none => .fail 43
  | _ => .fail 43
def xPanic (g : Get) : Op1 := fun _ fr h => match g.run fr with
  | .ifc t v => .pan (.ifc t v) fr h
  | _ => .fail 44
def Fr.defer (fr : Fr) (d : DS) : Fr := Fr.casesOn (motive := fun _ => Fr) fr fun a0 a1 a2 a3 a4 a5 a6 a7 ds um rd => ⟨a0, a1, a2, a3, a4, a5, a6, a7, d :: ds, um, rd⟩
def Fr.setUm (fr : Fr) (u : UM) : Fr := Fr.casesOn (motive := fun _ => Fr) fr fun a0 a1 a2 a3 a4 a5 a6 a7 ds _ rd => ⟨a0, a1, a2, a3, a4, a5, a6, a7, ds, u, rd⟩
def xDefer (g : Get) (as : List Get) (p : Put) : Op1 := fun _ fr h => match fr.rd, g.run fr with
  | none, .fn (.func f) a b => .ok (p.run .unk (fr.defer (.call (.fn (.func f) a b) (gets as fr)))) h
  | _, _ => .fail 45
def xRecover (p : Put) : Op1 := fun _ fr h => match fr.rd with
  | some _ => .fail 46
  | none => match fr.um with
    | .pan v => .ok (p.run v (fr.setUm (.rcd v))) h
    | _ => .ok (p.run .nili fr) h
def xUnsafeStr (u : Nat) (g n : Get) (p : Put) : Op1 := fun _ fr h => match n.run fr with
  | .int _ (.ofNat 0) => match g.run fr with
    | .nilp => .ok (p.run (.str 0 0) fr) h
    | .ptr _ _ => .ok (p.run (.str 0 0) fr) h
    | _ => .fail 48
  | .int _ (.ofNat n) => match g.run fr with
    | .ptr b off => match h.get b with
      | some (.cells _ _ _ .fk) => .fail 49
      | some (.cells el l anc _) => bif Nat.beq el u && Nat.ble n 1000000000 then (match ltake n (ldrop l off) with
        | some c => match bytesPack c 0 with
          | some s => .ok (p.run (.str n s) fr) (h.put b (.cells el l anc .fz))
          | none => .fail 48
        | none => .fail 48) else .fail 48
      | _ => .fail 48
    | _ => .fail 48
  | _ => .fail 48
end Go.Ev
end

section
namespace Go.Ev

/-- what the compiler knows of a program -/
structure Env where
  P : Program
  ty : Nat → Option TI
  ext : Nat → Option (List AV → H → Option (AV × H))    -- functions without a body
  sorts : Nat → Bool := fun _ => false                 -- functions that sort: they are tried in each order of a family of symbols

def pOf (n : Nat) : Option Nat → Option Put
  | some d => if d < 512 then (if d < n then some (putT d) else none) else none
  | none => some ⟨fun _ fr => fr⟩

def optGet : Option Operand → Option (Option Get)
  | none => some none
  | some x => match cOpd x with | some g => some (some g) | none => none

/-- the method of an interface value's type -/
def methOf (P : Program) (name : String) (t : Nat) : Option Nat :=
  match P.info? t with
  | some i => match i.methods.find? (·.name == name) with
    | some m => if m.path.isEmpty then (match m.func, P.underlying t with
      | some (f, true), some (.pointer _) => some f
      | some (_, false), some (.pointer _) => none
      | some (f, false), some _ => some f
      | _, _ => none) else none
    | none => none
  | none => none

def parts (ty : Nat → Option TI) (place : Nat → Option (Nat × Nat)) : List (Nat × Operand) → Option (List (Nat × Nat × Get))
  | [] => some []
  | (i, x) :: r => match place i, cOpd x, parts ty place r with
    | some (o, n), some g, some l => some ((o, n, g) :: l)
    | _, _, _ => none

def isConstOp : Operand → Bool
  | .const _ => true
  | _ => false
def nilOkOf (x y : Operand) : TypeDesc → Bool
  | .interface ms => ms.isEmpty || isConstOp x || isConstOp y
  | _ => false

def ckOf (E : Env) (t : Nat) : Option CK := match E.ty t with
  | some i => match i.d with
    | .int _ => some .int
    | .string => some .str
    | .bool => some .bool
    | _ => none
  | none => none
def flatOf (E : Env) : Nat → List Field → Option (List CK)
  | _, [] => some []
  | j, f :: r => match ckOf E f.type, flatOf E (j + 1) r with
    | some c, some l => if f.offset = j ∧ f.name ≠ "_" then some (c :: l) else none
    | _, _ => none
def cEq (E : Env) (t : Nat) : Option EqK := match E.ty t with
  | some i => match i.d with
    | .int _ => some (.one .int)
    | .string => some (.one .str)
    | .bool => some (.one .bool)
    | .pointer e => match E.ty e with
      | some ei => if ei.size = 0 then none else some .ptr
      | none => none
    | .map _ _ => some .map
    | .slice _ => some .slice
    | .func _ _ _ => some .func
    | .interface _ => some .iface
    | .struct fs => match flatOf E 0 fs.toList with
      | some l => if E.P.stoodInHeld t then none else some (.flat l)
      | none => none
    | _ => none
  | none => none

/-- keys whose check is without effect -/
def keyOk : EqK → Bool
  | .one _ | .ptr | .flat _ => true
  | _ => false
def cKey (E : Env) (t : Nat) : Option EqK := match cEq E t with
  | some q => if keyOk q then some q else none
  | none => none

def cBin (E : Env) (p : Put) (op : BinOp) (t : Nat) (x y : Operand) : Option OK1 :=
  match E.ty t, cOpd x, cOpd y with
  | some i, some a, some b =>
    match op with
    | .shl | .shr => match i.d with
      | .int _ => some (.val false (f2 (shBin op) a b) p)
      | _ => none
    | _ => match i.d with
      | .int _ => some (.val false (f2 (intBin op) a b) p)
      | .string => some (.val false (f2 (strBin op) a b) p)
      | d => match op, cEq E t with
        | .eql, some q => some (.val false (f2 (eqBin false (nilOkOf x y d) q) a b) p)
        | .neq, some q => some (.val false (f2 (eqBin true (nilOkOf x y d) q) a b) p)
        | _, _ => none
  | _, _, _ => none

def cConv (E : Env) (p : Put) (s d : Nat) (x : Operand) : Option OK1 :=
  match E.ty s, E.ty d, cOpd x with
  | some si, some di, some g =>
    match si.d, di.d with
    | .int _, .int k => some (.val false (f1 (convInt k) g) p)
    | .string, .string => some (.val false (f1 convStr g) p)
    | .string, .slice e => match E.ty e with
      | some ei => match ei.d with
        | .int .u8 => some (.eff (xStrToBytes e g p))
        | _ => none
      | none => none
    | .slice e, .string => match E.ty e with
      | some ei => match ei.d with
        | .int .u8 => some (.val true (fBytesToStr g) p)
        | _ => none
      | none => none
    | .pointer e, .unsafePointer => match E.ty e with
      | some ei => if ei.size = 0 then none else some (.val true (fToUnsafe g) p)
      | none => none
    | .unsafePointer, .pointer e => match E.ty e with
      | some ei => if ei.size = 0 then none else some (.val true (fOfUnsafe e ei.size g) p)
      | none => none
    | _, _ => none
  | _, _, _ => none

def fieldOf (E : Env) (s f : Nat) : Option (Nat × TI) :=
  match E.ty s with
  | some i => match i.d with
    | .struct fs => match fs[f]? with
      | some fl => match E.ty fl.type with
        | some ti => some (fl.offset, ti)
        | none => none
      | none => none
    | _ => none
  | none => none
def elemOf (E : Env) (t : Nat) : Option (Nat × TI) :=
  match E.ty t with
  | some i => match i.d with
    | .slice e => match E.ty e with
      | some ti => some (e, ti)
      | none => none
    | _ => none
  | none => none

def cBuiltin (E : Env) (p : Put) (b : Builtin) (ts : Array Nat) (as : List Get) : Option OK1 :=
  match as with
  | [] => match b with
    | .recover => some (.eff (xRecover p))
    | _ => none
  | [x] => match b with
    | .len => match ts[0]? with
      | some t => match E.ty t with
        | some i => match i.d with
          | .string => some (.val false (f1 lenS x) p)
          | .slice _ => some (.val false (f1 lenV x) p)
          | .map _ _ => some (.val true (fLenM x) p)
          | _ => none
        | none => none
      | none => none
    | .cap => match ts[0]? with
      | some t => match elemOf E t with
        | some _ => some (.val false (f1 capA x) p)
        | none => none
      | none => none
    | .clear => match ts[0]? with
      | some t => match E.ty t with
        | some i => match i.d with
          | .slice e => match E.ty e with
            | some ti => match ti.z with
              | some z => some (.eff (xClear z x p))
              | none => none
            | none => none
          | .map _ _ => some (.eff (xClearM x p))
          | _ => none
        | none => none
      | none => none
    | .unsafeSliceData => some (.val false (f1 sliceData x) p)
    | _ => none
  | [x, y] => match b with
    | .append => match ts with
      | ⟨[t, t1]⟩ => match elemOf E t, E.ty t1 with
        | some (e, ti), some i1 => match i1.d, ti.z with
          | .slice _, some _ => if ti.size = 0 then none else some (.eff (xAppend e ti.size x y p))
          | .string, some _ => if ti.size = 0 then none else some (.eff (xAppend e ti.size x y p))
          | _, _ => none
        | _, _ => none
      | _ => none
    | .copy => match ts[0]? with
      | some t => match elemOf E t with
        | some (_, ti) => some (.eff (xCopy ti.size x y p))
        | none => none
      | none => none
    | .delete => match ts[0]? with
      | some t => match E.ty t with
        | some i => match i.d with
          | .map k _ => match cKey E k with
            | some q => some (.eff (xDelete q x y p))
            | none => none
          | _ => none
        | none => none
      | none => none
    | .max => some (.val false (f2 (maxA false) x y) p)
    | .min => some (.val false (f2 (maxA true) x y) p)
    | .unsafeString => match ts[0]? with
      | some t => match E.ty t with
        | some i => match i.d with
          | .pointer e => match E.ty e with
            | some ei => if ei.size = 1 then some (.eff (xUnsafeStr e x y p)) else none
            | none => none
          | _ => none
        | none => none
      | none => none
    | _ => none
  | _ => none

def cCall (E : Env) (p : Put) (c : Go.Call) : Option OK1 :=
  match cOpds c.args.toList with
  | some as => match c.callee with
    | .value x => match x with
      | .func f => some (.eff (xCall f as p))
      | x => match cOpd x with
        | some g => some (.eff (xCallV g as p))
        | none => none
    | .invoke x m => match cOpd x with
      | some g => some (.eff (xInvoke (methOf E.P m) g as p))
      | none => none
    | .builtin b => cBuiltin E p b c.argTypes as
  | none => none

def cOp2 (E : Env) (p : Put) : Op → Option OK1
  | .move x | .assign x => match cOpd x with | some g => some (.val false (fMv g) p) | none => none
  | .pick c a b => match cOpd c, cOpd a, cOpd b with | some c, some a, some b => some (.val false (fPick c a b) p) | _, _, _ => none
  | .alloc t => match E.ty t with
    | some i => match i.z with | some z => some (.new (nAlloc t z) (fun id => .ptr id 0) p) | none => none
    | none => none
  | .box t x => match cOpd x with | some g => some (.new (nBox t g) (fun id => .ptr id 0) p) | none => none
  | .build t ps => match E.ty t with
    | some i => match i.z, i.d with
      | some z, .struct fs => if fs.toList.all fun f => (E.ty f.type).isSome then match parts E.ty (fun j => match fs[j]? with | some f => (match E.ty f.type with | some fi => some (f.offset, fi.size) | none => none) | none => none) ps.toList with
        | some l => some (.val false (fBuild z l) p)
        | none => none
        else none
      | some z, .array _ e => match E.ty e with
        | some ei => match parts E.ty (fun j => some (j * ei.size, ei.size)) ps.toList with
          | some l => some (.val false (fBuild z l) p)
          | none => none
        | none => none
      | _, _ => none
    | none => none
  | .buildSlice t n ps => match elemOf E t with
    | some (e, ei) => match ei.z with
      | some z => match parts E.ty (fun j => some (j * ei.size, ei.size)) ps.toList with
        | some l => if n * ei.size ≤ 16777216 then some (.new (nBuildS e (lrep z n) l) (fun id => .slc id 0 n n 0) p) else none
        | none => none
      | none => none
    | none => none
  | .load t a => match E.ty t, cOpd a with
    | some i, some g => if i.agg then some (.val true (fLoadN i.size g) p) else some (.val true (fLoad1 g) p)
    | _, _ => none
  | .store t a v => match E.ty t, cOpd a, cOpd v with
    | some i, some g, some v => some (.eff (xStore i.size g v p))
    | _, _, _ => none
  | .nilCheck x => match cOpd x with | some g => some (.val false (f1 nilChk g) p) | none => none
  | .binOp op t x y _ => cBin E p op t x y
  | .unOp op _ x => match op, cOpd x with
    | .not, some g => some (.val false (f1 notA g) p)
    | .neg, some g => some (.val false (f1 negA g) p)
    | _, _ => none
  | .convert s d x => cConv E p s d x
  | .makeInterface t x => match E.ty t, cOpd x with
    | some i, some g => match i.d with
      | .interface _ => none
      | _ => some (.val false (f1 (mkIface t) g) p)
    | _, _ => none
  | .makeFunc f a b => match cOpds a.toList, cOpds b.toList with
    | some a, some b => match f with
      | .func _ => some (.val false (fMkFunc f a b) p)
      | _ => none
    | _, _ => none
  | .makeMap _ r => match r with
    | none => some (.new nMap (fun id => .map id) p)
    | some _ => none
  | .makeSlice t l c => match elemOf E t, cOpd l, cOpd c with
    | some (e, ei), some l, some c => match ei.z with
      | some z => some (.eff (xMkSlice e z l c p))
      | none => none
    | _, _, _ => none
  | .slice t x lo hi mx => match E.ty t, cOpd x, optGet lo, optGet hi, optGet mx with
    | some i, some g, some lo, some hi, some mx => match i.d with
      | .string => match mx with
        | none => some (.val false (fSliceS lo hi g) p)
        | some _ => none
      | .slice e => match E.ty e with
        | some ei => if (match mx, hi with | some _, none => true | _, _ => false) then none else some (.val false (fSliceV ei.size lo hi mx g) p)
        | none => none
      | _ => none
    | _, _, _, _, _ => none
  | .fieldAddr s x f => match fieldOf E s f, cOpd x with
    | some (off, ti), some g => if ti.size = 0 then none else some (.val false (f1 (offP off) g) p)
    | _, _ => none
  | .field t x f => match fieldOf E t f, cOpd x with
    | some (off, ti), some g => some (.val false (f1 (partA off ti.size ti.agg) g) p)
    | _, _ => none
  | .indexAddr t x ix => match E.ty t, cOpd x, cOpd ix with
    | some i, some g, some g' => match i.d with
      | .slice e => match E.ty e with
        | some ei => some (.val false (f2 (idxV ei.size) g g') p)
        | none => none
      | .array n e => match E.ty e with
        | some ei => some (.val false (f2 (idxA n ei.size) g g') p)
        | none => none
      | _ => none
    | _, _, _ => none
  | .index t x ix => match E.ty t, cOpd x, cOpd ix with
    | some i, some g, some g' => match i.d with
      | .string => some (.val false (f2 idxS g g') p)
      | .array n e => match E.ty e with
        | some ei => some (.val false (f2 (idxAgg n ei.size ei.agg) g g') p)
        | none => none
      | _ => none
    | _, _, _ => none
  | .lookup t x k ok => match E.ty t, cOpd x, cOpd k with
    | some i, some g, some g' => match i.d with
      | .map kt e => match E.ty e, cKey E kt with
        | some ei, some q => match ei.zero with
          | some z => some (.val true (fLookup q z ok g g') p)
          | none => none
        | _, _ => none
      | _ => none
    | _, _, _ => none
  | .mapUpdate t m k v => match E.ty t, cOpd m, cOpd k, cOpd v with
    | some i, some m, some k, some v => match i.d with
      | .map kt _ => match cKey E kt with
        | some q => some (.eff (xMapUpd q m k v p))
        | none => none
      | _ => none
    | _, _, _, _ => none
  | .range t x => match E.ty t, cOpd x with
    | some i, some g => match i.d with
      | .string => some (.new (nRangeS g) (fun id => .ptr id 0) p)
      | .map _ _ => some (.new (nRangeM g) (fun id => .ptr id 0) p)
      | _ => none
    | _, _ => none
  | .next it s => match cOpd it with
    | some g => if s then some (.eff (xNextS g p)) else some (.eff (xNextM g p))
    | none => none
  | .entry it => match cOpd it with | some g => some (.eff (xEntry g p)) | none => none
  | .typeAssert x _ t ok => match E.ty t, cOpd x with
    | some i, some g => match i.d with
      | .interface _ => none
      | _ => match i.zero with
        | some z => some (.val false (f1 (assertC t ok z) g) p)
        | none => none
    | _, _ => none
  | .extract t i => match cOpd t with | some g => some (.val false (f1 (extr i) g) p) | none => none
  | .call c => cCall E p c
  | .panic x => match cOpd x with | some g => some (.eff (xPanic g)) | none => none
  | .defer c => match cOpds c.args.toList, c.callee with
    | some as, .value x => match cOpd x with
      | some g => some (.eff (xDefer g as p))
      | none => none
    | _, _ => none
  | _ => none

def cOp (E : Env) (n : Nat) (o : Oper) : Option OK1 := match pOf n o.dst with
  | some p => cOp2 E p o.op
  | none => none

/-- an operation, wrapped -/
def cOpW (E : Env) (n : Nat) (o : Oper) : OW := match cOp E n o with
  | some f => ⟨f.run⟩
  | none => ⟨fun _ _ _ => .fail 1000⟩

/-- an operation of a region with its guard -/
structure GW where
  run : Call → Fr → H → ORes
def cGuard (ops : Array Oper) (E : Env) (n : Nat) (o : Oper) : GW :=
  match o.guard with
  | none => ⟨(cOpW E n o).run⟩
  | some (j, want) => match (ops[j]?).bind (·.dst), pOf n o.dst with
    | some d, some p => if d < 512 then ⟨fun call fr h => match (getT d).run fr with
      | .bool b => if b == want then (cOpW E n o).run call fr h else .ok (p.run (.tup []) fr) h
      | .tup [] => .ok (p.run (.tup []) fr) h
      | _ => .fail 1001⟩ else ⟨fun _ _ _ => .fail 1002⟩
    | _, _ => ⟨fun _ _ _ => .fail 1002⟩
def runOps : List GW → Call → Fr → H → KRes
  | [], _, fr, h => .norm fr h
  | o :: r, call, fr, h => match o.run call fr h with
    | .ok fr h => runOps r call fr h
    | .pan v fr h => .pan v fr h
    | .fail n => .fail n

def seqK (a b : CW) : CW := ⟨fun call fr h => match a.run call fr h with
  | .norm fr h => b.run call fr h
  | r => r⟩
def condK (g : Get) (a b : CW) : CW := ⟨fun call fr h => match g.run fr with
  | .bool true => a.run call fr h
  | .bool false => b.run call fr h
  | _ => .fail 1003⟩
def blockK (id : Nat) (a : CW) : CW := ⟨fun call fr h => match a.run call fr h with
  | .brk i fr h => bif Nat.beq i id then .norm fr h else .brk i fr h
  | r => r⟩
def loopN (a : CW) (call : Call) : Nat → Fr → H → KRes
  | 0, _, _ => .fail 1004
  | n + 1, fr, h => match a.run call fr h with
    | .norm fr h => loopN a call n fr h
    | r => r
def failK (n : Nat) : CW := ⟨fun _ _ _ => .fail n⟩

def setTs (n : Nat) : List Nat → List AV → Fr → Option Fr
  | [], [], fr => some fr
  | t :: ts, v :: vs, fr => bif Nat.blt t n && Nat.blt t 512 then setTs n ts vs ((putT t).run v fr) else none
  | _, _, _ => none

/-- range over a function: the loop's state lies in a block -/
def rangeGo (n : Nat) (g : Get) (ps : List Nat) (asg body : Code) (call : Call) (fr : Fr) (d : Nat) (h : H) : KRes :=
  h.alloc (.loop n .ready none fr ps asg body d) (.fail 1005) fun id h =>
    match g.run fr with
    | .fn (.func f) first cap => match call (.func f) ((first ++ [.fn (.yield id) [] []]) ++ cap) h with
      | .ret _ h => match h.get id with
        | some (.loop _ .busy ..) => .fail 1006
        | some (.loop n _ pend t p a b d) =>
          let h := h.put id (.loop n .exhausted pend t p a b d)
          match pend with
          | none => .norm fr h
          | some (.exit i) => .brk i fr h
          | some .ret => .ret fr h
          | _ => .fail 1007
        | _ => .fail 1008
      | .pan v h => .pan v fr h
      | .fail n => .fail n
    | _ => .fail 1009
def rangeK (n : Nat) (g : Get) (ps : List Nat) (asg body : Code) : CW := ⟨fun call fr h =>
  match fr.rd with
  | none => h.alloc .defd (.fail 1005) fun r h => rangeGo n g ps asg body call (fr.defer (.coll r)) r h
  | some l => match h.get l with
    | some (.loop _ _ _ _ _ _ _ d) => rangeGo n g ps asg body call fr d h
    | _ => .fail 1005⟩

/-! regions whose order is drawn: evaluated in one order, and so that each order comes to the same -/
/-- operations that touch the frame itself -/
def special : Op → Bool
  | .defer _ => true
  | .call c => match c.callee with | .builtin .recover => true | _ => false
  | _ => false
def isRange : Op → Bool
  | .range _ _ => true
  | _ => false
/-- an operation of such a region -/
structure DOp where
  i : Nat
  o : Oper
  bef : Nat
  ts : List Nat
  ms : List (Get × Put)
  gd : Option (Get × Bool)
  p : Put
  k : OK1
  rs : Get
structure DRec where
  i : Nat
  on : Bool
  f : Option VF
  mfr : Fr
  v : AV
  pend : Option (Nat × AB)
def bit (m i : Nat) : Bool := Nat.beq (Nat.land (Nat.shiftRight m i) 1) 1
def befOf (acc : List Nat) : List Edge → Nat
  | [] => 0
  | e :: r => if Region.binds .any e then Nat.lor (Nat.lor (Nat.shiftLeft 1 e.on) (acc.getD e.on 0)) (befOf acc r) else befOf acc r
def befs : List Oper → List Nat → List Nat
  | [], acc => acc
  | o :: r, acc => befs r (acc ++ [befOf acc o.after.toList])
def tmpsOf : List Operand → List Nat
  | [] => []
  | .tmp t :: r => if t < 512 then t :: tmpsOf r else tmpsOf r
  | _ :: r => tmpsOf r
def maskG : List (Get × Put) → Fr → Fr → Fr
  | [], _, acc => acc
  | x :: r, fr, acc => maskG r fr (x.2.run (x.1.run fr) acc)
inductive DOut where
  | on | off | bad
def gdOut : Option (Get × Bool) → Fr → DOut
  | none, _ => .on
  | some (g, want), fr => match g.run fr with
    | .bool b => if b == want then .on else .off
    | .tup [] => .off
    | _ => .bad
def mkGd (ops : Array Oper) (bef : Nat) : Option (Nat × Bool) → Option (Option (Get × Bool))
  | none => some none
  | some (j, want) => match (ops[j]?).bind (·.dst) with
    | some s => if s < 512 ∧ bit bef j = true then some (some (getT s, want)) else none
    | none => none
def okK (o : Op) : OK1 → Bool
  | .val _ _ _ => true
  | .new _ _ _ => !isRange o
  | .eff _ => !special o
def isE : OK1 → Bool
  | .eff _ => true
  | _ => false
def isN : OK1 → Bool
  | .new _ _ _ => true
  | _ => false
def mkD (E : Env) (n : Nat) (ops : Array Oper) (i : Nat) (o : Oper) (bef : Nat) : Option DOp :=
  match pOf n o.dst, mkGd ops bef o.guard with
  | some p, some gd => match cOp2 E p o.op with
    | some k => if okK o.op k then
        (let ts := tmpsOf o.op.operands.toList
         some { i, o, bef, ts, ms := ts.map fun t => (getT t, putT t), gd, p, k, rs := match o.dst with | some d => getT d | none => ⟨fun _ => .unk⟩ }) else none
    | none => none
  | _, _ => none
def mkDs (E : Env) (n : Nat) (ops : Array Oper) : Nat → List Oper → List Nat → Option (List DOp)
  | _, [], [] => some []
  | i, o :: r, b :: bs => match mkD E n ops i o b, mkDs E n ops (i + 1) r bs with
    | some d, some l => some (d :: l)
    | _, _ => none
  | _, _, _ => none
def maskOf : List DOp → Nat
  | [] => 0
  | d :: r => Nat.lor (Nat.shiftLeft 1 d.i) (maskOf r)
def stages : List DOp → List DOp → List (DOp × List DOp)
  | [], _ => []
  | e :: es, rest => (e, rest.filter fun d => Nat.beq (Nat.land d.bef (maskOf es)) 0) :: stages es (rest.filter fun d => !Nat.beq (Nat.land d.bef (maskOf es)) 0)
def flatS : List (DOp × List DOp) → List DOp
  | [] => []
  | (e, rd) :: r => e :: (rd ++ flatS r)
/-- checks of the order of evaluation -/
def canonChk : Nat → List DOp → Bool
  | _, [] => true
  | m, d :: r => Nat.beq (Nat.land d.bef m) d.bef && !bit m d.i && canonChk (Nat.lor m (Nat.shiftLeft 1 d.i)) r
def stChk : List (DOp × List DOp) → Bool
  | [] => true
  | (e, rd) :: r => isE e.k && rd.all (fun d => bit d.bef e.i && !isE d.k) && r.all (fun x => bit x.1.bef e.i) && stChk r
def pairChk (c : List DOp) : Bool := c.all fun d => c.all fun d' => Nat.beq d.i d'.i || ((match d.o.dst, d'.o.dst with | some a, some b => !Nat.beq a b | _, _ => true) &&
  (match d'.o.dst with | some t => d.ts.all fun u => !Nat.beq u t || bit d.bef d'.i || bit d'.bef d.i | none => true))
def coverChk (m : Nat) (c : List DOp) : Bool := (List.range m).all fun i => c.any fun d => Nat.beq d.i i
/-- an order in which the operations can be listed -/
def topo (md : Region.Mode) (ops : Array Oper) : List Nat → List Nat → Bool
  | _, [] => true
  | seen, i :: r => (match ops[i]? with | some o => o.after.toList.all fun e => !Region.binds md e || memN e.on seen | none => false) && topo md ops (i :: seen) r
def topoAll (md : Region.Mode) (ops : Array Oper) (L : List Nat) : Bool := topo md ops [] L && (List.range ops.size).all fun i => memN i L
def schedChk (P : Program) (ops : Array Oper) : Bool := topoAll .any ops (List.range ops.size) &&
  (P.follows .mixedOrders || !Region.departs ops || (topoAll .text ops (List.range ops.size) && topoAll .gc ops (Region.linearise .gc ops 0)))
structure DPlan where
  m : Nat
  rd : List DOp
  sts : List (DOp × List DOp)
  ps : List Put
def planChk (E : Env) (ops : Array Oper) (rd : List DOp) (sts : List (DOp × List DOp)) (c : List DOp) : Bool :=
  canonChk 0 c && (rd.all fun d => !isE d.k) && stChk sts && pairChk c && coverChk ops.size c && schedChk E.P ops
def mkPlan (E : Env) (chk : Bool) (n : Nat) (ops : Array Oper) : Option DPlan :=
  match mkDs E n ops 0 ops.toList (befs ops.toList []) with
  | none => none
  | some ds =>
    let es := ds.filter fun d => isE d.k
    let os := ds.filter fun d => !isE d.k
    let rd := os.filter fun d => Nat.beq (Nat.land d.bef (maskOf es)) 0
    let sts := stages es (os.filter fun d => !Nat.beq (Nat.land d.bef (maskOf es)) 0)
    let c := rd ++ flatS sts
    bif (bif chk then planChk E ops rd sts c else true) then
      some { m := if ds.any (fun d => isN d.k) then ops.size else 0, rd, sts, ps := ds.map (·.p) } else none
/-- the plan's checks, done beforehand -/
def planOk (E : Env) (n : Nat) (ops : Array Oper) : Bool :=
  match mkDs E n ops 0 ops.toList (befs ops.toList []) with
  | none => true
  | some ds =>
    let es := ds.filter fun d => isE d.k
    let os := ds.filter fun d => !isE d.k
    let rd := os.filter fun d => Nat.beq (Nat.land d.bef (maskOf es)) 0
    let sts := stages es (os.filter fun d => !Nat.beq (Nat.land d.bef (maskOf es)) 0)
    planChk E ops rd sts (rd ++ flatS sts)
def evalD (base : Nat) (d : DOp) (fr : Fr) (h : H) : Option (DRec × Fr) := match gdOut d.gd fr with
  | .bad => none
  | .off => some (⟨d.i, false, none, unkFr, .tup [], none⟩, d.p.run (.tup []) fr)
  | .on => match d.k with
    | .val rd f _ => match f (maskG d.ms fr unkFr) h with
      | some v => some (⟨d.i, true, bif rd then some f else none, maskG d.ms fr unkFr, v, none⟩, d.p.run v fr)
      | none => none
    | .new f mk _ => match f (maskG d.ms fr unkFr) h with
      | some x => some (⟨d.i, true, none, maskG d.ms fr unkFr, mk (Nat.add base d.i), some (Nat.add base d.i, x)⟩, d.p.run (mk (Nat.add base d.i)) fr)
      | none => none
    | .eff _ => none
def evalAll (base : Nat) : List DOp → Fr → H → List DRec → Option (Fr × List DRec)
  | [], fr, _, live => some (fr, live)
  | d :: r, fr, h, live => match evalD base d fr h with
    | some (x, fr) => evalAll base r fr h (x :: live)
    | none => none
def bindL : List DRec → H → H
  | [], h => h
  | r :: l, h => match r.pend with
    | some (id, x) => bindL l (h.put id x)
    | none => bindL l h
def deadOf (e : DOp) (live : List DRec) : List DRec := live.filter fun r => bit e.bef r.i
def liveOf (e : DOp) (live : List DRec) : List DRec := live.filter fun r => !bit e.bef r.i
def recheck (h : H) : List DRec → Bool
  | [] => true
  | r :: l => (match r.f with
    | some f => (match f r.mfr h with | some v => avEq v r.v | none => false)
    | none => true) && recheck h l
def clrG : List Put → Fr → Fr
  | [], fr => fr
  | p :: r, fr => clrG r (p.run .unk fr)
def drawLoop (base : Nat) (ps : List Put) (call : Call) : List (DOp × List DOp) → Fr → H → List DRec → KRes
  | [], fr, h, live => .norm fr (bindL live h)
  | (e, rd) :: r, fr, h, live =>
    match (match gdOut e.gd fr with
      | .bad => ORes.fail 1031
      | .off => .ok (e.p.run (.tup []) fr) (bindL (deadOf e live) h)
      | .on => match e.k with
        | .eff F => match F call (maskG e.ms fr unkFr) (bindL (deadOf e live) h) with
          | .ok fr' h' => .ok (e.p.run (e.rs.run fr') fr) h'
          | .pan v _ h' => .pan v (clrG ps fr) h'
          | .fail n => .fail n
        | _ => .fail 1032) with
    | .fail n => .fail n
    | .pan v fr h => .pan v fr h
    | .ok fr h => bif recheck h (liveOf e live) then (match evalAll base rd fr h (liveOf e live) with
        | some (fr, live) => drawLoop base ps call r fr h live
        | none => .fail 1033) else .fail 1034
def H.reserve (h : H) (m : Nat) : H := H.casesOn (motive := fun _ => H) h fun nx ns t => ⟨Nat.add nx m, ns, t⟩
def drawK (E : Env) (chk : Bool) (n : Nat) (ops : Array Oper) : CW := match mkPlan E chk n ops with
  | some pl => ⟨fun call fr h => match evalAll h.nx pl.rd fr (h.reserve pl.m) [] with
    | some (fr, live) => drawLoop h.nx pl.ps call pl.sts fr (h.reserve pl.m) live
    | none => .fail 1035⟩
  | none => failK 1036

def cCode (E : Env) (chk : Bool) (n : Nat) : Code → CW
  | .skip => ⟨fun _ fr h => .norm fr h⟩
  | .region _ ops draw => bif draw then drawK E chk n ops else (let l := ops.toList.map (cGuard ops E n); ⟨fun call fr h => runOps l call fr h⟩)
  | .seq a b => seqK (cCode E chk n a) (cCode E chk n b)
  | .cond c a b => match cOpd c with
    | some g => condK g (cCode E chk n a) (cCode E chk n b)
    | none => failK 1010
  | .block id a => blockK id (cCode E chk n a)
  | .loop a => let c := cCode E chk n a; ⟨fun call fr h => loopN c call 1000000 fr h⟩
  | .exit id => ⟨fun _ fr h => .brk id fr h⟩
  | .ret => ⟨fun _ fr h => .ret fr h⟩
  | .label _ => ⟨fun _ fr h => .norm fr h⟩
  | .rangeFunc f ps asg body => match cOpd f with
    | some g => rangeK n g ps.toList asg body
    | none => failK 1011
  | .scope a => cCode E chk n a
  | _ => failK 1012

/-- the checks of all regions whose order is drawn, done beforehand -/
def okCode (E : Env) (n : Nat) : Code → Bool
  | .region _ ops draw => bif draw then planOk E n ops else true
  | .seq a b => okCode E n a && okCode E n b
  | .cond _ a b => okCode E n a && okCode E n b
  | .block _ a => okCode E n a
  | .loop a => okCode E n a
  | .scope a => okCode E n a
  | _ => true
def okFn (E : Env) (fn : Func) : Bool := match fn.body with
  | some c => okCode E fn.ntmps c
  | none => true

def unRes (E : Env) (fr : Fr) (h : H) : List ResultVar → Option (List AV)
  | [] => some []
  | .tmp t :: r => bif Nat.blt t 512 then (match unRes E fr h r with | some l => some ((getT t).run fr :: l) | none => none) else none
  | .cell a t :: r => bif Nat.blt a 512 then (match (getT a).run fr, E.ty t, unRes E fr h r with
    | .ptr b off, some i, some l => if i.agg then (match h.read b off i.size with | some c => some (.agg c :: l) | none => none)
        else (match h.read1 b off with | some c => some (c :: l) | none => none)
    | _, _, _ => none) else none
def tuple1 : List AV → AV
  | [v] => v
  | l => .tup l

def doneK (E : Env) (rs : List ResultVar) (fr : Fr) (h : H) : CRes := match unRes E fr h rs with
  | some l => .ret (tuple1 l) h
  | none => .fail 1013

/-- a function -/
structure FW where
  run : (Nat → List AV → UM → H → Option (UM × H)) → Call → List AV → UM → H → Option (CRes × UM)

/-- run deferred calls; the mode: ret or pan -/
def unwindK (E : Env) (rs : List ResultVar) (defd : Nat → List AV → UM → H → Option (UM × H)) : List DS → UM → Fr → H → CRes
  | [], .pan v, _, h => .pan v h
  | [], .ret, fr, h => doneK E rs fr h
  | [], _, _, _ => .fail 1014
  | .coll b :: r, um, fr, h => match h.get b with
    | some .defd => unwindK E rs defd r um fr (h.drop b)
    | _ => .fail 1017
  | .call (.fn (.func f) a b) as :: r, um, fr, h => match defd f ((a ++ as) ++ b) um h with
    | some (.rcd _, h) => unwindK E rs defd r .ret fr h
    | some (um, h) => unwindK E rs defd r um fr h
    | none => .fail 1015
  | _ :: _, _, _, _ => .fail 1016

def cFunc (E : Env) (fn : Func) : FW :=
  match fn.body with
  | none => ⟨fun _ _ _ _ _ => none⟩
  | some c =>
    let k := cCode E false fn.ntmps c
    ⟨fun defd call args um h => match setTs fn.ntmps (List.range args.length) args (unkFr.setUm um) with
      | none => none
      | some fr => match k.run call fr h with
        | .norm fr h | .ret fr h => some (unwindK E fn.results.toList defd fr.ds .ret fr h, fr.um)
        | .pan v fr h => some (unwindK E fn.results.toList defd fr.ds (.pan v) fr h, fr.um)
        | .brk .. => none
        | .fail n => some (.fail n, .no)⟩

/-- the frame of a round -/
def Fr.inRound (fr : Fr) (l : Nat) : Fr := Fr.casesOn (motive := fun _ => Fr) fr fun a0 a1 a2 a3 a4 a5 a6 a7 _ _ _ => ⟨a0, a1, a2, a3, a4, a5, a6, a7, [], .no, some l⟩
abbrev CallN := Fn → List AV → UM → H → Option (CRes × UM)
def callOf (cn : CallN) : Call := fun f args h => match cn f args .no h with
  | some (r, _) => r
  | none => .fail 1020
def defdOf (E : Env) (cn : CallN) : Nat → List AV → UM → H → Option (UM × H) := fun f args um h => match E.ext f with
  | some _ => none
  | none => match cn (.func f) args um h with
    | some (.ret _ h, um) => some (um, h)
    | _ => none
/-- the end of a round -/
def finRound (l : Nat) (j : Option Code) (h : H) : Option (CRes × UM) := match h.get l with
  | some (.loop n _ _ ft ps asg body d) => some (.ret (.bool j.isNone) (h.put l (.loop n (if j.isNone then .ready else .done) j ft ps asg body d)), .no)
  | _ => none
/-- a round's body -/
def bodyRound (call : Call) (body : CW) (l : Nat) (fr : Fr) (h : H) : Option (CRes × UM) := match h.get l with
  | some (.loop n .ready pend ft ps asg bd d) => match body.run call fr (h.put l (.loop n .busy pend ft ps asg bd d)) with
    | .norm _ h => finRound l none h
    | .brk i _ h => finRound l (some (.exit i)) h
    | .ret _ h => finRound l (some .ret) h
    | .pan _ _ _ => none
    | .fail n => some (.fail n, .no)
  | _ => none
/-! a family of symbols, tried in each order -/
def isOpq : AV → Option Nat
  | .opq i => some i
  | _ => none
def firstOpq : List AV → Option Nat
  | [] => none
  | .opq i :: _ => some i
  | _ :: r => firstOpq r
def rowOf (e : AV × AV × Nat) : Option (List AV) := match cellsOf e.1, cellsOf e.2.1 with
  | some a, some b => some (a ++ b)
  | _, _ => none
def rowAtS (s : Nat) : List (Nat × List AV) → Option (List AV)
  | [] => none
  | (t, l) :: r => bif Nat.beq t s then some l else rowAtS s r
/-- a cell, its symbol replaced -/
def substC (z : List (Nat × List AV)) : AV → Option AV
  | .opq i => match rowAtS (Nat.sub i (Nat.mod i 64)) z with
    | some l => lget l (Nat.mod i 64)
    | none => none
  | v => some v
def substL (z : List (Nat × List AV)) : List AV → Option (List AV)
  | [] => some []
  | v :: r => match substC z v, substL z r with
    | some a, some l => some (a :: l)
    | _, _ => none
def inserts (x : AV × AV × Nat) : List (AV × AV × Nat) → List (List (AV × AV × Nat))
  | [] => [[x]]
  | y :: r => (x :: y :: r) :: (inserts x r).map (y :: ·)
def permsE : List (AV × AV × Nat) → List (List (AV × AV × Nat))
  | [] => [[]]
  | x :: r => (permsE r).flatMap (inserts x)
def rowsOf : List (AV × AV × Nat) → Option (List (List AV))
  | [] => some []
  | e :: r => match rowOf e, rowsOf r with
    | some a, some l => some (a :: l)
    | _, _ => none
def nodupE : List (AV × AV × Nat) → Bool
  | [] => true
  | e :: r => !bornIn e.2.2 r && nodupE r
def zipS : List Nat → List (List AV) → List (Nat × List AV)
  | s :: ss, l :: ls => (s, l) :: zipS ss ls
  | _, _ => []
def stEq : St → St → Bool
  | .op, .op | .so, .so => true
  | _, _ => false
def H.renum (h : H) (nx ns : Nat) : H := H.casesOn (motive := fun _ => H) h fun _ _ t => ⟨nx, ns, t⟩
/-- what one order comes to: the value, the cells, the next numbers -/
def forkOne (b el : Nat) (l : List AV) (st : St) (syms : List Nat) (run : H → Option (CRes × UM)) (h : H) (es : List (AV × AV × Nat)) : Option (AV × List AV × Nat × Nat) :=
  match rowsOf es with
  | some rows => match substL (zipS syms rows) l with
    | some l => match run ⟨h.nx, h.ns, (T.full 16).put b (some (.cells el l [] st))⟩ with
      | some (.ret v h', .no) => match h'.get b with
        | some (.cells el' l' _ st') => bif Nat.beq el el' && stEq st st' then some (v, l', h'.nx, h'.ns) else none
        | _ => none
      | _ => none
    | none => none
  | none => none
def forkAll (b el : Nat) (l : List AV) (st : St) (syms : List Nat) (run : H → Option (CRes × UM)) (h : H) : List (List (AV × AV × Nat)) → Option (AV × List AV × Nat × Nat)
  | [] => none
  | [es] => forkOne b el l st syms run h es
  | es :: r => match forkOne b el l st syms run h es, forkAll b el l st syms run h r with
    | some (v, l', nx, ns), some (v2, l2, nx2, ns2) => bif avEq v v2 && avsEq l' l2 then some (v, l', Nat.max nx nx2, Nat.max ns ns2) else none
    | _, _ => none
def forkRun (run : H → Option (CRes × UM)) (args : List AV) (h : H) : Option (CRes × UM) := match args with
  | .slc b _ _ _ _ :: _ => match h.get b with
    | some (.cells el l anc st) => match firstOpq l with
      | none => run h
      | some i => match h.get (Nat.mod (Nat.div i 64) 268435456) with
        | some (.fiter _ _ es _ k syms) => bif Nat.beq syms.length es.length && Nat.beq k es.length && nodupE es && Nat.ble es.length 4 && stEq st st then
            (match forkAll b el l st syms run h (permsE es) with
            | some (v, l', nx, ns) => some (.ret v (H.renum ((h.drops anc).put b (.cells el l' [] st)) nx ns), .no)
            | none => none)
            else none
        | _ => none
    | _ => run h
  | _ => run h
/-- calls, by the depth -/
def callN (E : Env) (F : Nat → Option FW) (C : Nat → Code → CW) (tr : Nat → CRes → CRes) : Nat → CallN
  | 0, _, _, _, _ => none
  | n + 1, .func f, args, um, h =>
    match E.ext f with
    | some x => match x args h with
      | some (v, h) => some (.ret v h, um)
      | none => none
    | none => match F f with
      | some w => bif E.sorts f then forkRun (w.run (defdOf E (callN E F C tr n)) (callOf (callN E F C tr n)) args um) args h else
        match w.run (defdOf E (callN E F C tr n)) (callOf (callN E F C tr n)) args um h with
        | some (.fail k, u) => some (tr f (.fail k), u)
        | r => r
      | none => none
  | n + 1, .yield l, args, _, h =>
    match h.get l with
    | some (.loop nt _ _ ft ps asg body _) => match setTs nt ps args (ft.inRound l) with
      | none => none
      | some fr => match (C nt asg).run (callOf (callN E F C tr n)) fr h with
          | .norm fr h => bodyRound (callOf (callN E F C tr n)) (C nt body) l fr h
          | _ => none
    | _ => none
  | _, _, _, _, _ => none
end Go.Ev
end

section
namespace Go.Ev

/-! the tables -/
theorem lt16 {i : Nat} (h : i < 16) : i = 0 ∨ i = 1 ∨ i = 2 ∨ i = 3 ∨ i = 4 ∨ i = 5 ∨ i = 6 ∨ i = 7 ∨ i = 8 ∨ i = 9 ∨ i = 10 ∨ i = 11 ∨ i = 12 ∨ i = 13 ∨ i = 14 ∨ i = 15 := by omega
theorem s16_law {α : Type} (i j : Nat) (hi : i < 16) (hj : j < 16) (m : α → α) (f : B16 α) : (s16 α i).g ((s16 α j).p m f) = if i = j then m ((s16 α i).g f) else (s16 α i).g f := by
  cases f
  rcases lt16 hi with h | h | h | h | h | h | h | h | h | h | h | h | h | h | h | h <;> rcases lt16 hj with h' | h' | h' | h' | h' | h' | h' | h' | h' | h' | h' | h' | h' | h' | h' | h' <;> subst h <;> subst h' <;> rfl
theorem s16_rep {α : Type} (i : Nat) (hi : i < 16) (b : α) : (s16 α i).g (T.rep b) = b := by
  rcases lt16 hi with h | h | h | h | h | h | h | h | h | h | h | h | h | h | h | h <;> subst h <;> rfl
theorem T.getN_eq {α : Type} (k : Nat) (t : T α) : (T.getN α k).run t = (s16 _ (k % 16)).g ((s16 _ (k / 16 % 16)).g ((s16 _ (k / 256 % 16)).g ((s16 _ (k / 4096)).g t))) := rfl
theorem T.putN_eq {α : Type} (k : Nat) (x : Option α) (t : T α) : (T.putN α k).run x t = (s16 _ (k / 4096)).p ((s16 _ (k / 256 % 16)).p ((s16 _ (k / 16 % 16)).p ((s16 _ (k % 16)).p fun _ => x))) t := rfl
theorem blt_dec (a b : Nat) : Nat.blt a b = decide (a < b) := by
  cases h : Nat.blt a b with
  | true => have : a < b := Nat.le_of_ble_eq_true h; simp [this]
  | false =>
    have : ¬ a < b := fun h2 => by
      have : Nat.blt a b = true := Nat.ble_eq_true_of_le h2
      rw [this] at h; cases h
    simp [this]
theorem T.get_put {α : Type} (t : T α) (k : Nat) (x : Option α) (k' : Nat) (y : α) (h : (t.put k x).get k' = some y) : (k' = k ∧ x = some y) ∨ (k' ≠ k ∧ t.get k' = some y) := by
  unfold T.get T.put at h
  rw [blt_dec, blt_dec] at h
  by_cases h' : k' < 65536
  · rw [decide_eq_true h', cond_true] at h
    have hg : t.get k' = (T.getN α k').run t := by unfold T.get; rw [blt_dec, decide_eq_true h', cond_true]
    by_cases hk : k < 65536
    · rw [decide_eq_true hk, cond_true] at h
      rw [hg]
      rw [T.getN_eq, T.putN_eq, s16_law _ _ (by omega) (by omega)] at h
      by_cases e1 : k' / 4096 = k / 4096
      · rw [if_pos e1, s16_law _ _ (by omega) (by omega)] at h
        by_cases e2 : k' / 256 % 16 = k / 256 % 16
        · rw [if_pos e2, s16_law _ _ (by omega) (by omega)] at h
          by_cases e3 : k' / 16 % 16 = k / 16 % 16
          · rw [if_pos e3, s16_law _ _ (by omega) (by omega)] at h
            by_cases e4 : k' % 16 = k % 16
            · rw [if_pos e4] at h; exact .inl ⟨by omega, h⟩
            · rw [if_neg e4] at h; exact .inr ⟨fun e => e4 (by rw [e]), by rw [T.getN_eq]; exact h⟩
          · rw [if_neg e3] at h; exact .inr ⟨fun e => e3 (by rw [e]), by rw [T.getN_eq]; exact h⟩
        · rw [if_neg e2] at h; exact .inr ⟨fun e => e2 (by rw [e]), by rw [T.getN_eq]; exact h⟩
      · rw [if_neg e1] at h; exact .inr ⟨fun e => e1 (by rw [e]), by rw [T.getN_eq]; exact h⟩
    · rw [decide_eq_false hk, cond_false] at h
      exact .inr ⟨fun e => hk (by rw [← e]; exact h'), by rw [hg]; exact h⟩
  · rw [decide_eq_false h', cond_false] at h; cases h
theorem T.full_get {α : Type} (n k : Nat) : (T.full n : T α).get k = none := by
  unfold T.get
  rw [blt_dec]
  by_cases h : k < 65536
  · rw [decide_eq_true h, cond_true, T.getN_eq]
    unfold T.full
    rw [s16_rep _ (by omega), s16_rep _ (by omega), s16_rep _ (by omega), s16_rep _ (by omega)]
  · rw [decide_eq_false h, cond_false]

/-! the frame -/
theorem lt8 {i : Nat} (h : i < 8) : i = 0 ∨ i = 1 ∨ i = 2 ∨ i = 3 ∨ i = 4 ∨ i = 5 ∨ i = 6 ∨ i = 7 := by omega
theorem s8_law (i j : Nat) (hi : i < 8) (hj : j < 8) (v : AV) (f : F8) : (s8 i).g ((s8 j).p v f) = if i = j then v else (s8 i).g f := by
  cases f
  rcases lt8 hi with h | h | h | h | h | h | h | h <;> rcases lt8 hj with h' | h' | h' | h' | h' | h' | h' | h' <;> subst h <;> subst h' <;> rfl
theorem s64_law (i j : Nat) (hi : i < 8) (hj : j < 8) (m : F8 → F8) (f : F64) : (s64 i).g ((s64 j).p m f) = if i = j then m ((s64 i).g f) else (s64 i).g f := by
  cases f
  rcases lt8 hi with h | h | h | h | h | h | h | h <;> rcases lt8 hj with h' | h' | h' | h' | h' | h' | h' | h' <;> subst h <;> subst h' <;> rfl
theorem sFr_law (i j : Nat) (hi : i < 8) (hj : j < 8) (m : F64 → F64) (f : Fr) : (sFr i).g ((sFr j).p m f) = if i = j then m ((sFr i).g f) else (sFr i).g f := by
  cases f
  rcases lt8 hi with h | h | h | h | h | h | h | h <;> rcases lt8 hj with h' | h' | h' | h' | h' | h' | h' | h' <;> subst h <;> subst h' <;> rfl
theorem sFr_ds (j : Nat) (hj : j < 8) (m : F64 → F64) (f : Fr) : ((sFr j).p m f).ds = f.ds ∧ ((sFr j).p m f).um = f.um := by
  cases f
  rcases lt8 hj with h' | h' | h' | h' | h' | h' | h' | h' <;> subst h' <;> exact ⟨rfl, rfl⟩
theorem getT_eq (i : Nat) (fr : Fr) : (getT i).run fr = (s8 (i % 8)).g ((s64 (i / 8 % 8)).g ((sFr (i / 64)).g fr)) := rfl
theorem putT_eq (i : Nat) (v : AV) (fr : Fr) : (putT i).run v fr = (sFr (i / 64)).p ((s64 (i / 8 % 8)).p ((s8 (i % 8)).p v)) fr := rfl
theorem getT_putT (i j : Nat) (hi : i < 512) (hj : j < 512) (v : AV) (fr : Fr) : (getT i).run ((putT j).run v fr) = if i = j then v else (getT i).run fr := by
  rw [getT_eq, putT_eq, getT_eq, sFr_law _ _ (by omega) (by omega)]
  by_cases h1 : i / 64 = j / 64
  · rw [if_pos h1, s64_law _ _ (by omega) (by omega)]
    by_cases h2 : i / 8 % 8 = j / 8 % 8
    · rw [if_pos h2, s8_law _ _ (by omega) (by omega)]
      by_cases h3 : i % 8 = j % 8
      · rw [if_pos h3, if_pos (by omega)]
      · rw [if_neg h3, if_neg (by omega)]
    · rw [if_neg h2, if_neg (by intro h; subst h; exact h2 rfl)]
  · rw [if_neg h1, if_neg (by intro h; subst h; exact h1 rfl)]
theorem putT_ds (j : Nat) (hj : j < 512) (v : AV) (fr : Fr) : ((putT j).run v fr).ds = fr.ds ∧ ((putT j).run v fr).um = fr.um := by
  rw [putT_eq]; exact sFr_ds _ (by omega) _ _
theorem getT_unk (i : Nat) (hi : i < 512) : (getT i).run unkFr = .unk := by
  rw [getT_eq]
  have h1 : i / 64 < 8 := by omega
  have h2 : i / 8 % 8 < 8 := by omega
  have h3 : i % 8 < 8 := by omega
  rcases lt8 h1 with h | h | h | h | h | h | h | h <;> rw [h] <;> rcases lt8 h2 with h' | h' | h' | h' | h' | h' | h' | h' <;> rw [h'] <;>
    rcases lt8 h3 with h'' | h'' | h'' | h'' | h'' | h'' | h'' | h'' <;> rw [h''] <;> rfl

/-! equal values -/
theorem kindEq_eq {a b : IntKind} (h : kindEq a b = true) : a = b := by
  cases a <;> cases b <;> first | rfl | (exact absurd h (by decide))
mutual
theorem avEq_sound : ∀ (a b : AV), avEq a b = true → a = b
  | .bool a, b, h => by cases b <;> simp [avEq] at h; subst h; rfl
  | .int k a, b, h => by cases b <;> simp [avEq] at h; obtain ⟨h1, h2⟩ := h; rw [kindEq_eq h1, h2]
  | .str a c, b, h => by cases b <;> simp [avEq] at h; obtain ⟨h1, h2⟩ := h; rw [h1, h2]
  | .ptr a c, b, h => by cases b <;> simp [avEq] at h; obtain ⟨h1, h2⟩ := h; rw [h1, h2]
  | .nilp, b, h => by cases b <;> simp [avEq] at h; rfl
  | .slc a1 a2 a3 a4 a5, b, h => by cases b <;> simp [avEq] at h; obtain ⟨⟨⟨⟨h1, h2⟩, h3⟩, h4⟩, h5⟩ := h; rw [h1, h2, h3, h4, h5]
  | .nils, b, h => by cases b <;> simp [avEq] at h; rfl
  | .sle a1 a2 a3, b, h => by cases b <;> simp [avEq] at h; obtain ⟨⟨h1, h2⟩, h3⟩ := h; rw [h1, h2, h3]
  | .map a, b, h => by cases b <;> simp [avEq] at h; rw [h]
  | .nilm, b, h => by cases b <;> simp [avEq] at h; rfl
  | .fn f a c, b, h => by
    cases f with
    | func f =>
      cases b with
      | fn g a' c' =>
        cases g with
        | func g => simp [avEq] at h; obtain ⟨⟨h1, h2⟩, h3⟩ := h; rw [h1, avsEq_sound a a' h2, avsEq_sound c c' h3]
        | _ => simp [avEq] at h
      | _ => simp [avEq] at h
    | _ => simp [avEq] at h
  | .nilf, b, h => by cases b <;> simp [avEq] at h; rfl
  | .ifc t a, b, h => by
    cases b with
    | ifc u b => simp [avEq] at h; obtain ⟨h1, h2⟩ := h; rw [h1, avEq_sound a b h2]
    | _ => simp [avEq] at h
  | .nili, b, h => by cases b <;> simp [avEq] at h; rfl
  | .agg a, b, h => by
    cases b with
    | agg b => simp [avEq] at h; rw [avsEq_sound a b h]
    | _ => simp [avEq] at h
  | .tup a, b, h => by
    cases b with
    | tup b => simp [avEq] at h; rw [avsEq_sound a b h]
    | _ => simp [avEq] at h
  | .opq a, b, h => by cases b <;> simp [avEq] at h; rw [h]
  | .unk, b, h => by cases b <;> simp [avEq] at h
theorem avsEq_sound : ∀ (a b : List AV), avsEq a b = true → a = b
  | [], b, h => by cases b <;> simp [avsEq] at h; rfl
  | a :: l, b, h => by
    cases b with
    | nil => simp [avsEq] at h
    | cons b m => simp [avsEq] at h; rw [avEq_sound a b h.1, avsEq_sound l m h.2]
end

end Go.Ev
end

section
/- Strings as a length and one number. -/
namespace Go.Ev

def small (l : List Nat) : Prop := ∀ b ∈ l, b < 256
theorem packL_acc (l : List Nat) : ∀ acc, packL l acc = acc * 256 ^ l.length + packL l 0 := by
  induction l with
  | nil => intro acc; simp [packL]
  | cons b r ih =>
    intro acc
    simp only [packL, List.length_cons]
    rw [ih (acc * 256 + b), ih (0 * 256 + b), Nat.pow_succ, Nat.add_mul]
    simp only [Nat.zero_mul, Nat.zero_add, Nat.mul_assoc, Nat.mul_comm (256 ^ r.length) 256, Nat.add_assoc]
theorem packL_cons (b : Nat) (r : List Nat) : packL (b :: r) 0 = b * 256 ^ r.length + packL r 0 := by
  rw [packL, packL_acc]; simp
theorem packL_append (l m : List Nat) : packL (l ++ m) 0 = packL l 0 * 256 ^ m.length + packL m 0 := by
  induction l with
  | nil => simp [packL]
  | cons b r ih =>
    rw [List.cons_append, packL_cons, packL_cons, ih, List.length_append, Nat.pow_add, Nat.add_mul, Nat.mul_assoc, Nat.add_assoc]
theorem packL_lt : ∀ (l : List Nat), small l → packL l 0 < 256 ^ l.length := by
  intro l
  induction l with
  | nil => intro _; simp [packL]
  | cons b r ih =>
    intro h
    have h1 := ih fun x hx => h x (List.mem_cons_of_mem _ hx)
    have h2 : b < 256 := h b (List.mem_cons_self)
    rw [packL_cons, List.length_cons, Nat.pow_succ]
    have : (b + 1) * 256 ^ r.length ≤ 256 * 256 ^ r.length := Nat.mul_le_mul_right _ h2
    rw [Nat.add_mul] at this
    rw [Nat.mul_comm (256 ^ r.length) 256]
    omega
theorem small_drop {l : List Nat} (h : small l) (k : Nat) : small (l.drop k) := fun b hb => h b (List.mem_of_mem_drop hb)
theorem small_take {l : List Nat} (h : small l) (k : Nat) : small (l.take k) := fun b hb => h b (List.mem_of_mem_take hb)
theorem packL_drop (l : List Nat) (h : small l) (k : Nat) : packL (l.drop k) 0 = packL l 0 % 256 ^ (l.drop k).length := by
  conv => rhs; rw [← List.take_append_drop k l]
  rw [packL_append]
  have := packL_lt _ (small_drop h k)
  conv => rhs; arg 1; rw [Nat.add_comm]
  have e : (List.drop k (List.take k l ++ List.drop k l)).length = (l.drop k).length := by rw [List.take_append_drop]
  rw [e, Nat.add_mul_mod_self_right, Nat.mod_eq_of_lt this]
theorem packL_take (l : List Nat) (h : small l) (k : Nat) : packL (l.take k) 0 = packL l 0 / 256 ^ (l.drop k).length := by
  conv => rhs; rw [← List.take_append_drop k l]
  rw [packL_append]
  have := packL_lt _ (small_drop h k)
  have e : (List.drop k (List.take k l ++ List.drop k l)).length = (l.drop k).length := by rw [List.take_append_drop]
  rw [e, Nat.add_comm, Nat.add_mul_div_right _ _ (Nat.pow_pos (by decide)), Nat.div_eq_of_lt this, Nat.zero_add]
theorem packL_inj : ∀ (l m : List Nat), small l → small m → l.length = m.length → packL l 0 = packL m 0 → l = m := by
  intro l
  induction l with
  | nil => intro m _ _ h _; cases m with | nil => rfl | cons => simp at h
  | cons b r ih =>
    intro m hl hm h e
    cases m with
    | nil => simp at h
    | cons c s =>
      have hr : small r := fun x hx => hl x (List.mem_cons_of_mem _ hx)
      have hs : small s := fun x hx => hm x (List.mem_cons_of_mem _ hx)
      have hlen : r.length = s.length := by simpa using h
      rw [packL_cons, packL_cons, hlen] at e
      have h1 := packL_lt r hr
      have h2 := packL_lt s hs
      rw [hlen] at h1
      have hbc : b = c := by
        rcases Nat.lt_trichotomy b c with hbc | hbc | hbc
        · have : (b + 1) * 256 ^ s.length ≤ c * 256 ^ s.length := Nat.mul_le_mul_right _ hbc
          rw [Nat.add_mul] at this; omega
        · exact hbc
        · have : (c + 1) * 256 ^ s.length ≤ b * 256 ^ s.length := Nat.mul_le_mul_right _ hbc
          rw [Nat.add_mul] at this; omega
      subst hbc
      rw [ih s hr hs hlen (by omega)]

/-- the bytes of a string -/
def bytesN (s : ByteArray) : List Nat := s.data.toList.map (·.toNat)
theorem small_bytesN (s : ByteArray) : small (bytesN s) := by
  intro b hb
  obtain ⟨x, _, rfl⟩ := List.mem_map.1 hb
  exact x.toNat_lt
def SR (len n : Nat) (s : ByteArray) : Prop := (bytesN s).length = len ∧ packL (bytesN s) 0 = n
theorem SR.mk (s : ByteArray) : SR (bytesN s).length (packL (bytesN s) 0) s := ⟨rfl, rfl⟩
theorem bytesN_length (s : ByteArray) : (bytesN s).length = s.size := by simp [bytesN]
theorem SR.size {len n : Nat} {s : ByteArray} (h : SR len n s) : s.size = len := by rw [← bytesN_length, h.1]
theorem bytesN_inj {s t : ByteArray} (h : bytesN s = bytesN t) : s = t := by
  have : s.data.toList = t.data.toList := by
    exact List.map_inj_right (fun a b h => UInt8.toNat_inj.1 h) |>.1 h
  cases s with | mk d => cases t with | mk e => simp at this; rw [this]
theorem SR.inj {len n : Nat} {s t : ByteArray} (h : SR len n s) (h' : SR len n t) : s = t :=
  bytesN_inj (packL_inj _ _ (small_bytesN s) (small_bytesN t) (h.1.trans h'.1.symm) (h.2.trans h'.2.symm))
theorem strEq_iff {l1 n1 l2 n2 : Nat} {s t : ByteArray} (h : SR l1 n1 s) (h' : SR l2 n2 t) : strEq l1 n1 l2 n2 = decide (s = t) := by
  unfold strEq
  by_cases e : s = t
  · subst e
    have e1 : l1 = l2 := h.1.symm.trans h'.1
    have e2 : n1 = n2 := h.2.symm.trans h'.2
    subst e1; subst e2; simp
  · rw [decide_eq_false e]
    cases hb : Nat.beq l1 l2 with
    | false => rfl
    | true =>
      simp only [cond_true]
      have e1 : l1 = l2 := Nat.eq_of_beq_eq_true hb
      subst e1
      cases hn : Nat.beq n1 n2 with
      | false => rfl
      | true => have e2 : n1 = n2 := Nat.eq_of_beq_eq_true hn; subst e2; exact absurd (SR.inj h h') e
theorem pow256 (k : Nat) : 256 ^ k = 2 ^ (8 * k) := by rw [Nat.pow_mul]
theorem strByte_eq {len n : Nat} {s : ByteArray} (h : SR len n s) (i : Nat) (hi : i < len) : ∃ b : UInt8, s[i]? = some b ∧ s.data.toList[i]? = some b ∧ strByte len n i = b.toNat := by
  have hl : i < (bytesN s).length := by rw [h.1]; exact hi
  have hs : i < s.data.toList.length := by simpa [bytesN] using hl
  refine ⟨s.data.toList[i], ?_, List.getElem?_eq_getElem hs, ?_⟩
  · have hsz : i < s.size := by rw [h.size]; exact hi
    rw [getElem?_pos s i hsz]; rfl
  · unfold strByte
    have hd : (bytesN s).drop i = (s.data.toList[i]).toNat :: (bytesN s).drop (i + 1) := by
      rw [List.drop_eq_getElem_cons hl]; congr 1; simp [bytesN]
    have e1 := packL_drop (bytesN s) (small_bytesN s) i
    have e2 := packL_take (bytesN s) (small_bytesN s) (i + 1)
    have e3 : (bytesN s).take (i + 1) = (bytesN s).take i ++ [(s.data.toList[i]).toNat] := by
      rw [List.take_succ_eq_append_getElem hl]; congr 2; simp [bytesN]
    rw [e3, packL_append] at e2
    have hlen : ((bytesN s).drop (i + 1)).length = len - 1 - i := by rw [List.length_drop, h.1]; omega
    rw [hlen, h.2] at e2
    clear hd e1
    have eshift : Nat.shiftRight n (Nat.mul 8 (Nat.sub (Nat.sub len 1) i)) = n / 256 ^ (len - 1 - i) := by
      rw [pow256]; exact Nat.shiftRight_eq_div_pow _ _
    have eland : ∀ x : Nat, Nat.land x 255 = x % 256 := fun x => Nat.and_two_pow_sub_one_eq_mod x 8
    rw [eshift, eland, ← e2]
    have hb : (s.data.toList[i]).toNat < 256 := UInt8.toNat_lt _
    simp only [packL, Nat.zero_mul, Nat.zero_add, List.length_cons, List.length_nil]
    omega
theorem strCut_eq {len n : Nat} {s : ByteArray} (h : SR len n s) (lo hi : Nat) (h1 : lo ≤ hi) (h2 : hi ≤ len) : SR (hi - lo) (strCut len n lo hi) (s.extract lo hi) := by
  have hb : bytesN (s.extract lo hi) = ((bytesN s).take hi).drop lo := by
    unfold bytesN
    rw [← List.map_take, ← List.map_drop]
    congr 1
    simp [ByteArray.data_extract, List.drop_take]
  have hl : (((bytesN s).take hi).drop lo).length = hi - lo := by
    rw [List.length_drop, List.length_take, h.1]; omega
  refine ⟨by rw [hb, hl], ?_⟩
  rw [hb, packL_drop _ (small_take (small_bytesN s) hi), hl, packL_take _ (small_bytesN s), List.length_drop, h.1, h.2]
  unfold strCut
  have eshift : Nat.shiftRight n (Nat.mul 8 (Nat.sub len hi)) = n / 256 ^ (len - hi) := by
    rw [pow256]; exact Nat.shiftRight_eq_div_pow _ _
  rw [eshift]
  have : Nat.pow 2 (Nat.mul 8 (Nat.sub hi lo)) = 256 ^ (hi - lo) := by rw [pow256]; rfl
  rw [this]
  rfl
theorem strCat_eq {l1 n1 l2 n2 : Nat} {s t : ByteArray} (h : SR l1 n1 s) (h' : SR l2 n2 t) : SR (Nat.add l1 l2) (Nat.add (Nat.mul n1 (Nat.pow 256 l2)) n2) (s ++ t) := by
  have hb : bytesN (s ++ t) = bytesN s ++ bytesN t := by simp [bytesN, ByteArray.data_append]
  refine ⟨by rw [hb, List.length_append, h.1, h'.1]; rfl, ?_⟩
  rw [hb, packL_append, h'.1, h.2, h'.2]; rfl
theorem bytesLess_iff : ∀ (x y : List UInt8) (m : Nat), x.length ≤ m → y.length ≤ m →
    (Op.bytesLess x y = true ↔ (packL (x.map (·.toNat)) 0 * 256 ^ (m - x.length) < packL (y.map (·.toNat)) 0 * 256 ^ (m - y.length) ∨
      (packL (x.map (·.toNat)) 0 * 256 ^ (m - x.length) = packL (y.map (·.toNat)) 0 * 256 ^ (m - y.length) ∧ x.length < y.length))) := by
  intro x
  induction x with
  | nil =>
    intro y m _ hy
    cases y with
    | nil => simp [Op.bytesLess, packL]
    | cons b y =>
      simp only [Op.bytesLess, List.map_nil, packL, Nat.zero_mul, List.length_nil, List.length_cons, true_iff]
      omega
  | cons a x ih =>
    intro y m hx hy
    cases y with
    | nil => simp only [Op.bytesLess, List.map_nil, packL, Nat.zero_mul, List.length_nil, List.length_cons]; simp
    | cons b y =>
      simp only [List.length_cons] at hx hy
      obtain ⟨m, rfl⟩ : ∃ k, m = k + 1 := ⟨m - 1, by omega⟩
      have hx' : x.length ≤ m := by omega
      have hy' : y.length ≤ m := by omega
      have ihm := ih y m hx' hy'
      simp only [List.map_cons, packL_cons, List.length_map, List.length_cons, Nat.add_sub_add_right, Nat.add_mul, Nat.mul_assoc, ← Nat.pow_add]
      rw [show x.length + (m - x.length) = m by omega, show y.length + (m - y.length) = m by omega]
      have hsx : small (x.map (·.toNat)) := fun c hc => by obtain ⟨z, _, rfl⟩ := List.mem_map.1 hc; exact z.toNat_lt
      have hsy : small (y.map (·.toNat)) := fun c hc => by obtain ⟨z, _, rfl⟩ := List.mem_map.1 hc; exact z.toNat_lt
      have bx : packL (x.map (·.toNat)) 0 * 256 ^ (m - x.length) < 256 ^ m := by
        have h1 := packL_lt _ hsx
        rw [List.length_map] at h1
        have := Nat.mul_lt_mul_of_pos_right h1 (Nat.pow_pos (n := m - x.length) (show 0 < 256 by decide))
        rwa [← Nat.pow_add, show x.length + (m - x.length) = m by omega] at this
      have by' : packL (y.map (·.toNat)) 0 * 256 ^ (m - y.length) < 256 ^ m := by
        have h1 := packL_lt _ hsy
        rw [List.length_map] at h1
        have := Nat.mul_lt_mul_of_pos_right h1 (Nat.pow_pos (n := m - y.length) (show 0 < 256 by decide))
        rwa [← Nat.pow_add, show y.length + (m - y.length) = m by omega] at this
      generalize packL (x.map (·.toNat)) 0 * 256 ^ (m - x.length) = X at *
      generalize packL (y.map (·.toNat)) 0 * 256 ^ (m - y.length) = Y at *
      simp only [Op.bytesLess, Bool.or_eq_true, Bool.and_eq_true, decide_eq_true_eq, beq_iff_eq, UInt8.lt_iff_toNat_lt]
      rcases Nat.lt_trichotomy a.toNat b.toNat with h | h | h
      · have : (a.toNat + 1) * 256 ^ m ≤ b.toNat * 256 ^ m := Nat.mul_le_mul_right _ h
        rw [Nat.add_mul] at this
        constructor
        · intro _; left; omega
        · intro _; left; exact h
      · have hab : a = b := UInt8.toNat_inj.1 h
        subst hab
        constructor
        · rintro (h0 | ⟨_, h0⟩)
          · omega
          · rcases ihm.1 h0 with h1 | ⟨h1, h2⟩
            · left; omega
            · right; omega
        · rintro (h0 | ⟨h0, h1⟩)
          · right; exact ⟨rfl, ihm.2 (.inl (by omega))⟩
          · right; exact ⟨rfl, ihm.2 (.inr ⟨by omega, by omega⟩)⟩
      · have : (b.toNat + 1) * 256 ^ m ≤ a.toNat * 256 ^ m := Nat.mul_le_mul_right _ h
        rw [Nat.add_mul] at this
        constructor
        · rintro (h0 | ⟨h0, _⟩)
          · omega
          · rw [h0] at h; omega
        · rintro (h0 | ⟨h0, _⟩) <;> omega
theorem strLt_eq {l1 n1 l2 n2 : Nat} {s t : ByteArray} (h : SR l1 n1 s) (h' : SR l2 n2 t) : strLt l1 n1 l2 n2 = Op.bytesLess s.data.toList t.data.toList := by
  have hl1 : s.data.toList.length = l1 := by have := h.1; simpa [bytesN] using this
  have hl2 : t.data.toList.length = l2 := by have := h'.1; simpa [bytesN] using this
  have key := bytesLess_iff s.data.toList t.data.toList (max l1 l2) (by omega) (by omega)
  have e1 : packL (s.data.toList.map (·.toNat)) 0 = n1 := h.2
  have e2 : packL (t.data.toList.map (·.toNat)) 0 = n2 := h'.2
  rw [e1, e2, hl1, hl2] at key
  rw [Bool.eq_iff_iff, key]
  unfold strLt
  show (bif Nat.beq (n1 * 256 ^ (max l1 l2 - l1)) (n2 * 256 ^ (max l1 l2 - l2)) then Nat.blt l1 l2 else Nat.blt (n1 * 256 ^ (max l1 l2 - l1)) (n2 * 256 ^ (max l1 l2 - l2))) = true ↔ _
  generalize n1 * 256 ^ (max l1 l2 - l1) = A
  generalize n2 * 256 ^ (max l1 l2 - l2) = B
  cases hb : Nat.beq A B with
  | true =>
    have : A = B := Nat.eq_of_beq_eq_true hb
    simp only [cond_true]
    have : Nat.blt l1 l2 = true ↔ l1 < l2 := by simp [Nat.blt]; omega
    rw [this]; omega
  | false =>
    have : A ≠ B := Nat.ne_of_beq_eq_false hb
    simp only [cond_false]
    have : Nat.blt A B = true ↔ A < B := by simp [Nat.blt]; omega
    rw [this]; omega
end Go.Ev
end

section
/- What the abstract values, frames and heaps say of the model's. -/
namespace Go.Ev

/-- a valuation: where the abstract blocks lie, and what the symbols are -/
structure Val where
  ρ : Nat → Option (Nat × Nat)
  θ : Nat → Option Value
  cz : Nat → Nat          -- how many cells a block of the model has

structure Val.le (V V' : Val) : Prop where
  ρ : ∀ b x, V.ρ b = some x → V'.ρ b = some x
  θ : ∀ i v, V.θ i = some v → V'.θ i = some v
  cz : ∀ b c sh, V.ρ b = some (c, sh) → V'.cz c = V.cz c
theorem Val.le.refl (V : Val) : V.le V := ⟨fun _ _ h => h, fun _ _ h => h, fun _ _ _ _ => rfl⟩
theorem Val.le.trans {V V' V'' : Val} (h : V.le V') (h' : V'.le V'') : V.le V'' :=
  ⟨fun b x e => h'.ρ b x (h.ρ b x e), fun b x e => h'.θ b x (h.θ b x e), fun b c sh e => (h'.cz b c sh (h.ρ b _ e)).trans (h.cz b c sh e)⟩

def FnR (V : Val) : Fn → Fn → Prop
  | .func f, g => g = .func f
  | .yield l, g => ∃ c, V.ρ l = some (c, 0) ∧ g = .yield c
  | _, _ => False

mutual
def VR (V : Val) : AV → Value → Prop
  | .unk, _ => True
  | .bool b, v => v = .bool b
  | .int k n, v => v = .int k n
  | .str l n, v => ∃ s, v = .string s ∧ SR l n s
  | .ptr b off, v => ∃ c sh, V.ρ b = some (c, sh) ∧ v = .pointer (some ⟨c, sh + off, none⟩)
  | .nilp, v => v = .pointer none
  | .slc b off len cap ex, v => ∃ c sh cap', V.ρ b = some (c, sh) ∧ v = .slice (some ⟨c, sh + off, none⟩) len cap' ∧ cap ≤ cap' ∧ (ex = 0 → cap' = cap) ∧ (ex ≠ 0 → sh + off + cap' * ex ≤ V.cz c)
  | .nils, v => v = .slice none 0 0
  | .sle b off es, v => ∃ c sh o cap', V.ρ b = some (c, sh) ∧ v = .slice (some ⟨c, o, none⟩) 0 cap' ∧ (0 < cap' → o = sh + off ∧ sh + off + cap' * es ≤ V.cz c)
  | .map b, v => ∃ c, V.ρ b = some (c, 0) ∧ v = .map (some c)
  | .nilm, v => v = .map none
  | .fn f a c, v => ∃ f' a' c', v = .func f' ⟨a'⟩ ⟨c'⟩ ∧ FnR V f f' ∧ VRs V a a' ∧ VRs V c c'
  | .nilf, v => v = .nilFunc
  | .ifc t x, v => ∃ x', v = .iface t x' ∧ VR V x x'
  | .nili, v => v = .nilIface
  | .agg l, v => ∃ l', v = .agg ⟨l'⟩ ∧ VRs V l l' ∧ ∀ u ∈ l', u.oneCell' = true
  | .tup l, v => ∃ l', v = .tuple ⟨l'⟩ ∧ VRs V l l'
  | .opq i, v => V.θ i = some v ∧ v.oneCell' = true
def VRs (V : Val) : List AV → List Value → Prop
  | [], l => l = []
  | a :: r, l => ∃ v r', l = v :: r' ∧ VR V a v ∧ VRs V r r'
end

/-- a cell -/
def CR (V : Val) (a : AV) (v : Value) : Prop := VR V a v ∧ v.oneCell' = true

theorem FnR.mono {V V' : Val} (h : V.le V') {f f' : Fn} (r : FnR V f f') : FnR V' f f' := by
  cases f <;> simp only [FnR] at r ⊢
  · exact r
  · obtain ⟨c, hc, e⟩ := r; exact ⟨c, h.ρ _ _ hc, e⟩

mutual
theorem VR.mono {V V' : Val} (h : V.le V') : ∀ (a : AV) (v : Value), VR V a v → VR V' a v
  | .unk, _, _ => by simp [VR]
  | .bool b, v, r => by simpa [VR] using r
  | .int k n, v, r => by simpa [VR] using r
  | .str l n, v, r => by simpa [VR] using r
  | .ptr b off, v, r => by
    simp only [VR] at r ⊢
    obtain ⟨c, sh, e, e'⟩ := r
    exact ⟨c, sh, h.ρ _ _ e, e'⟩
  | .nilp, v, r => by simpa [VR] using r
  | .slc b off len cap ex, v, r => by
    simp only [VR] at r ⊢
    obtain ⟨c, sh, cap', e, e1, e2, e3, e4⟩ := r
    exact ⟨c, sh, cap', h.ρ _ _ e, e1, e2, e3, fun hx => by rw [h.cz _ _ _ e]; exact e4 hx⟩
  | .nils, v, r => by simpa [VR] using r
  | .sle b off es, v, r => by
    simp only [VR] at r ⊢
    obtain ⟨c, sh, o, cap', e, e1, e2⟩ := r
    exact ⟨c, sh, o, cap', h.ρ _ _ e, e1, fun hx => by rw [h.cz _ _ _ e]; exact e2 hx⟩
  | .map b, v, r => by
    simp only [VR] at r ⊢
    obtain ⟨c, e, e'⟩ := r
    exact ⟨c, h.ρ _ _ e, e'⟩
  | .nilm, v, r => by simpa [VR] using r
  | .fn f a c, v, r => by
    simp only [VR] at r ⊢
    obtain ⟨f', a', c', e, r1, r2, r3⟩ := r
    exact ⟨f', a', c', e, r1.mono h, VRs.mono h a a' r2, VRs.mono h c c' r3⟩
  | .nilf, v, r => by simpa [VR] using r
  | .ifc t x, v, r => by
    simp only [VR] at r ⊢
    obtain ⟨x', e, r1⟩ := r
    exact ⟨x', e, VR.mono h x x' r1⟩
  | .nili, v, r => by simpa [VR] using r
  | .agg l, v, r => by
    simp only [VR] at r ⊢
    obtain ⟨l', e, r1, r2⟩ := r
    exact ⟨l', e, VRs.mono h l l' r1, r2⟩
  | .tup l, v, r => by
    simp only [VR] at r ⊢
    obtain ⟨l', e, r1⟩ := r
    exact ⟨l', e, VRs.mono h l l' r1⟩
  | .opq i, v, r => by
    simp only [VR] at r ⊢
    exact ⟨h.θ _ _ r.1, r.2⟩
theorem VRs.mono {V V' : Val} (h : V.le V') : ∀ (a : List AV) (v : List Value), VRs V a v → VRs V' a v
  | [], v, r => by simpa [VRs] using r
  | a :: l, v, r => by
    simp only [VRs] at r ⊢
    obtain ⟨u, r', e, r1, r2⟩ := r
    exact ⟨u, r', e, VR.mono h a u r1, VRs.mono h l r' r2⟩
end
theorem CR.mono {V V' : Val} (h : V.le V') {a : AV} {v : Value} (r : CR V a v) : CR V' a v := ⟨VR.mono h _ _ r.1, r.2⟩

/-! lists -/
theorem VRs.length {V : Val} : ∀ {a : List AV} {v : List Value}, VRs V a v → v.length = a.length := by
  intro a
  induction a with
  | nil => intro v h; simp [VRs] at h; simp [h]
  | cons x r ih => intro v h; simp only [VRs] at h; obtain ⟨u, r', rfl, _, h2⟩ := h; simp [ih h2]
theorem VRs.append {V : Val} : ∀ {a b : List AV} {v u : List Value}, VRs V a v → VRs V b u → VRs V (a ++ b) (v ++ u) := by
  intro a
  induction a with
  | nil => intro b v u h h'; simp [VRs] at h; subst h; simpa using h'
  | cons x r ih => intro b v u h h'; simp only [VRs, List.cons_append] at h ⊢; obtain ⟨w, r', rfl, h1, h2⟩ := h; exact ⟨w, r' ++ u, rfl, h1, ih h2 h'⟩
theorem VRs.get {V : Val} : ∀ {a : List AV} {v : List Value}, VRs V a v → ∀ (i : Nat) (x : AV), a[i]? = some x → ∃ u, v[i]? = some u ∧ VR V x u := by
  intro a
  induction a with
  | nil => intro v h i x e; simp at e
  | cons y r ih =>
    intro v h i x e
    simp only [VRs] at h; obtain ⟨w, r', rfl, h1, h2⟩ := h
    cases i with
    | zero => simp at e; subst e; exact ⟨w, rfl, h1⟩
    | succ i => simp at e ⊢; exact ih h2 i x e
theorem VRs.of_get {V : Val} : ∀ {a : List AV} {v : List Value}, v.length = a.length → (∀ (i : Nat) (x : AV) (u : Value), a[i]? = some x → v[i]? = some u → VR V x u) → VRs V a v := by
  intro a
  induction a with
  | nil => intro v h _; simp at h; simp [VRs, h]
  | cons y r ih =>
    intro v h hr
    cases v with
    | nil => simp at h
    | cons w r' =>
      simp only [VRs]
      exact ⟨w, r', rfl, hr 0 y w rfl rfl, ih (by simpa using h) fun i x u e e' => hr (i + 1) x u (by simpa using e) (by simpa using e')⟩

/-- cells of a block, from a shift on -/
def CRs (V : Val) (l : List AV) (c : List Value) : Prop := ∀ (i : Nat) (x : AV), l[i]? = some x → ∃ u, c[i]? = some u ∧ CR V x u

/-! what a value's cells are -/
theorem VR.one {V : Val} {a : AV} {v : Value} (h : VR V a v) (hc : cell1 a = true) : v.oneCell' = true := by
  cases a <;> simp only [cell1, Bool.false_eq_true] at hc <;> simp only [VR] at h
  all_goals first
    | (subst h; rfl)
    | (obtain ⟨s, rfl, _⟩ := h; rfl)
    | (obtain ⟨c, sh, _, rfl⟩ := h; rfl)
    | (obtain ⟨c, sh, cap', _, rfl, _⟩ := h; rfl)
    | (obtain ⟨f', a', c', rfl, _⟩ := h; rfl)
    | (obtain ⟨c, sh, o, cap', _, rfl, _⟩ := h; rfl)
    | exact h.2
theorem cellsOf_rel {V : Val} {a : AV} {v : Value} {l : List AV} (h : VR V a v) (e : cellsOf a = some l) :
    ∃ l', v.cells = ⟨l'⟩ ∧ VRs V l l' ∧ ∀ u ∈ l', u.oneCell' = true := by
  have one : cell1 a = true → cellsOf a = some [a] → ∃ l', v.cells = ⟨l'⟩ ∧ VRs V l l' ∧ ∀ u ∈ l', u.oneCell' = true := by
    intro hc he
    rw [he] at e; cases e
    have h1 := h.one hc
    refine ⟨[v], ?_, by simp only [VRs]; exact ⟨v, [], rfl, h, rfl⟩, by simpa using h1⟩
    cases v <;> first | rfl | (simp [Value.oneCell'] at h1)
  cases a <;> first
    | (exact one rfl rfl)
    | (simp [cellsOf] at e; done)
    | skip
  simp only [cellsOf, Option.some.injEq] at e
  subst e
  simp only [VR] at h
  obtain ⟨l', rfl, h1, h2⟩ := h
  exact ⟨l', rfl, h1, h2⟩

/-! blocks -/
def AB.anc : AB → List Nat
  | .cells _ _ a _ => a
  | _ => []
def AB.isFk : AB → Bool
  | .cells _ _ _ .fk => true
  | _ => false

def ER (V : Val) (x : AV × AV × Nat) (e : MapEntry) : Prop := VR V x.1 e.key ∧ VR V x.2.1 e.val ∧ e.born = x.2.2
def ERs (V : Val) : List (AV × AV × Nat) → List MapEntry → Prop
  | [], l => l = []
  | x :: r, l => ∃ e r', l = e :: r' ∧ ER V x e ∧ ERs V r r'
theorem ERs.mono {V V' : Val} (h : V.le V') : ∀ {a : List (AV × AV × Nat)} {v : List MapEntry}, ERs V a v → ERs V' a v := by
  intro a
  induction a with
  | nil => intro v r; exact r
  | cons x l ih => intro v r; obtain ⟨e, r', e1, r1, r2⟩ := r; exact ⟨e, r', e1, ⟨VR.mono h _ _ r1.1, VR.mono h _ _ r1.2.1, r1.2.2⟩, ih r2⟩

/-- the slots of a frame -/
def TR (V : Val) (n : Nat) (fr : Fr) (tmps : Array Value) : Prop := n ≤ tmps.size ∧ ∀ i, i < 512 → VR V ((getT i).run fr) (tmps.getD i undef)

/-- symbols from s on stand for the cells of an entry -/
def SymR (V : Val) (s : Nat) (x : AV × AV × Nat) : Prop := ∃ l us, rowOf x = some l ∧ VRs V l us ∧ ∀ (i : Nat) (v : Value), us[i]? = some v → V.θ (s + i) = some v
theorem SymR.mono {V V' : Val} (h : V.le V') {s : Nat} {x : AV × AV × Nat} (r : SymR V s x) : SymR V' s x := by
  obtain ⟨l, us, h1, h2, h3⟩ := r
  exact ⟨l, us, h1, VRs.mono h _ _ h2, fun i v hv => h.θ _ _ (h3 i v hv)⟩
def BR (V : Val) (x : AB) (sh : Nat) (o : Obj) : Prop :=
  match x with
  | .cells el l _ st => ∃ c fz, o = .cells c el fz ∧ CRs V l (c.toList.drop sh) ∧ (st.wr = true → ∀ i, i < c.size → ¬ (fz.1 ≤ i ∧ i < fz.2)) ∧ (match st with | .op => sh = 0 | _ => True)
  | .map es clock => sh = 0 ∧ ∃ es', o = .map ⟨es'⟩ clock ∧ ERs V es es'
  | .siter len n pos => sh = 0 ∧ ∃ s, o = .stringIter s pos ∧ SR len n s
  | .miter m since seen st => sh = 0 ∧ ∃ m', o = .mapIter m' since ⟨seen.reverse⟩ st ∧ (match m with | none => m' = none | some b => ∃ c, V.ρ b = some (c, 0) ∧ m' = some c)
  | .loop n st pend fr ps asg body d => sh = 0 ∧ ∃ fn tmps d', o = .loop { state := st, pending := pend, fn, tmps, params := ⟨ps⟩, assign := asg, body, defers := d' } ∧ TR V n fr tmps ∧ V.ρ d = some (d', 0)
  | .defd => sh = 0 ∧ o = .deferred (some [])
  | .fiter m since es st k syms => sh = 0 ∧ ∃ c seen, o = .mapIter (some c) since ⟨seen⟩ st ∧ V.ρ m = some (c, 0) ∧ seen.length = k ∧ seen.Nodup ∧ (∀ bn ∈ seen, ∃ x ∈ es, x.2.2 = bn) ∧
      ∀ (j s bn : Nat), syms[j]? = some s → seen[j]? = some bn → ∃ x ∈ es, x.2.2 = bn ∧ SymR V s x
end Go.Ev
end

section
/- The heap relation and what reading, writing and making blocks does to it. -/
namespace Go.Ev

theorem BR.mono {V V' : Val} (h : V.le V') {x : AB} {sh : Nat} {o : Obj} (r : BR V x sh o) : BR V' x sh o := by
  cases x with
  | cells el l anc st =>
    obtain ⟨c, fz, e, r1, r2⟩ := r
    refine ⟨c, fz, e, fun i x hx => ?_, r2⟩
    obtain ⟨u, hu, hr⟩ := r1 i x hx
    exact ⟨u, hu, hr.mono h⟩
  | map es clock => obtain ⟨e0, es', e, r1⟩ := r; exact ⟨e0, es', e, r1.mono h⟩
  | siter len n pos => exact r
  | miter m since seen st =>
    obtain ⟨e0, m', e, r1⟩ := r
    refine ⟨e0, m', e, ?_⟩
    cases m with
    | none => exact r1
    | some b => obtain ⟨c, hc, e'⟩ := r1; exact ⟨c, h.ρ _ _ hc, e'⟩
  | loop n st pend fr ps asg body d =>
    obtain ⟨e0, fn, tmps, d', e, r1, r2⟩ := r
    exact ⟨e0, fn, tmps, d', e, ⟨r1.1, fun i hi => VR.mono h _ _ (r1.2 i hi)⟩, h.ρ _ _ r2⟩
  | defd => exact r
  | fiter m since es st k syms =>
    obtain ⟨e0, c, seen, e, r1, r2, r3, r4, r5⟩ := r
    exact ⟨e0, c, seen, e, h.ρ _ _ r1, r2, r3, r4, fun j s bn h1 h2 => by
      obtain ⟨x, hx, hb, hs⟩ := r5 j s bn h1 h2
      exact ⟨x, hx, hb, hs.mono h⟩⟩

def AB.len : AB → Nat
  | .cells _ l _ _ => l.length
  | _ => 0
/-- the package's first variable (an open one) is an integer; the evaluator owns it not -/
def Glo (w : World) : Prop := ∃ m, w.cell? ⟨0, 0, none⟩ = some (.int .i64 m)
theorem Glo.pos {w : World} (g : Glo w) : 0 < w.heap.size := by
  obtain ⟨m, h⟩ := g
  rcases Nat.eq_zero_or_pos w.heap.size with h0 | h0
  · simp [World.cell?, h0] at h
  · exact h0
theorem Glo.of {w w' : World} (g : Glo w) (h : w'.heap[0]? = w.heap[0]?) : Glo w' := by
  obtain ⟨m, hm⟩ := g
  exact ⟨m, by simpa [World.cell?, h] using hm⟩
theorem Glo.push {w : World} (g : Glo w) (o : Obj) : Glo { w with heap := w.heap.push o } := g.of (by
  have := g.pos
  show (w.heap.push o)[0]? = w.heap[0]?
  rw [Array.getElem?_push, if_neg (by omega)])
theorem Glo.set {w : World} (g : Glo w) {c : Nat} (hc : c ≠ 0) (o : Obj) : Glo { w with heap := w.heap.setIfInBounds c o } := g.of (by
  simp only
  rw [Array.getElem?_setIfInBounds_ne hc])
structure HR (V : Val) (h : H) (w : World) : Prop where
  blk : ∀ b x, h.get b = some x → ∃ c sh o, V.ρ b = some (c, sh) ∧ w.heap[c]? = some o ∧ BR V x sh o
  ali : ∀ b b' x x' c sh sh', h.get b = some x → h.get b' = some x' → b ≠ b' → V.ρ b = some (c, sh) → V.ρ b' = some (c, sh') →
    (b ∈ x'.anc ∧ x.isFk = true ∧ sh + x.len ≤ sh' + x'.len) ∨ (b' ∈ x.anc ∧ x'.isFk = true ∧ sh' + x'.len ≤ sh + x.len)
  nx : ∀ b, h.nx ≤ b → V.ρ b = none
  lt : ∀ b c sh, V.ρ b = some (c, sh) → c < w.heap.size
  ns : ∀ i, symBase h.ns 0 ≤ i → V.θ i = none
  cz : ∀ b c sh a el fz, V.ρ b = some (c, sh) → w.heap[c]? = some (.cells a el fz) → a.size = V.cz c
  glo : Glo w ∧ ∀ b sh, V.ρ b ≠ some (0, sh)

/-- what a part of a run may change: nothing that no block of the abstract heap owns -/
structure Ext (V : Val) (h : H) (w : World) (V' : Val) (h' : H) (w' : World) : Prop where
  le : V.le V'
  size : w.heap.size ≤ w'.heap.size
  keep : ∀ c, c < w.heap.size → (∀ b x sh, h.get b = some x → V.ρ b ≠ some (c, sh)) → w'.heap[c]? = w.heap[c]? ∧ ∀ b x sh, h'.get b = some x → V'.ρ b ≠ some (c, sh)
  os : w'.os = w.os
  out : w'.output = w.output
  tp : w'.tape = w.tape
  dr : w.drawn ≤ w'.drawn
  nx : h.nx ≤ h'.nx
  old : ∀ b, b < h.nx → V.ρ b = none → V'.ρ b = none
theorem Ext.refl (V : Val) (h : H) (w : World) : Ext V h w V h w := ⟨Val.le.refl V, Nat.le_refl _, fun _ _ h => ⟨rfl, h⟩, rfl, rfl, rfl, Nat.le_refl _, Nat.le_refl _, fun _ _ h => h⟩
theorem Ext.trans {V V' V'' : Val} {h h' h'' : H} {w w' w'' : World} (a : Ext V h w V' h' w') (b : Ext V' h' w' V'' h'' w'') : Ext V h w V'' h'' w'' := by
  refine ⟨a.le.trans b.le, Nat.le_trans a.size b.size, fun c hc hn => ?_, b.os.trans a.os, b.out.trans a.out, b.tp.trans a.tp, Nat.le_trans a.dr b.dr, Nat.le_trans a.nx b.nx, fun x hx hn => b.old x (Nat.lt_of_lt_of_le hx a.nx) (a.old x hx hn)⟩
  obtain ⟨e1, n1⟩ := a.keep c hc hn
  obtain ⟨e2, n2⟩ := b.keep c (Nat.lt_of_lt_of_le hc a.size) n1
  exact ⟨e2.trans e1, n2⟩
theorem Ext.drew (V : Val) (h : H) (w : World) (n : Nat) (hn : w.drawn ≤ n := by omega) : Ext V h w V h { w with drawn := n } := ⟨Val.le.refl V, Nat.le_refl _, fun _ _ h => ⟨rfl, h⟩, rfl, rfl, rfl, hn, Nat.le_refl _, fun _ _ h => h⟩
theorem HR.drew {V : Val} {h : H} {w : World} (r : HR V h w) (n : Nat) : HR V h { w with drawn := n } := ⟨r.blk, r.ali, r.nx, r.lt, r.ns, r.cz, r.glo⟩
/-- a world with the same heap -/
theorem HR.of_heap {V : Val} {h : H} {w w' : World} (r : HR V h w) (e : w'.heap = w.heap) : HR V h w' :=
  ⟨fun b x hb => by rw [e]; exact r.blk b x hb, r.ali, r.nx, fun b c sh hb => by rw [e]; exact r.lt b c sh hb, r.ns, by rw [e]; exact r.cz, r.glo.1.of (by rw [e]), r.glo.2⟩

/-! dropping -/
theorem H.get_put (h : H) (b : Nat) (x : AB) (b' : Nat) (y : AB) (e : (h.put b x).get b' = some y) : (b' = b ∧ x = y) ∨ (b' ≠ b ∧ h.get b' = some y) := by
  rcases T.get_put h.t b (some x) b' y e with ⟨e1, e2⟩ | h2
  · exact .inl ⟨e1, Option.some.inj e2⟩
  · exact .inr h2
theorem H.get_drop (h : H) (b b' : Nat) (y : AB) (e : (h.drop b).get b' = some y) : b' ≠ b ∧ h.get b' = some y := by
  rcases T.get_put h.t b none b' y e with ⟨_, e2⟩ | h2
  · cases e2
  · exact h2
theorem H.drop_nx (h : H) (b : Nat) : (h.drop b).nx = h.nx ∧ (h.drop b).ns = h.ns := ⟨rfl, rfl⟩
theorem HR.drop {V : Val} {h : H} {w : World} (r : HR V h w) (b : Nat) : HR V (h.drop b) w :=
  ⟨fun b' x e => r.blk b' x (h.get_drop b b' x e).2, fun b1 b2 x x' c sh sh' e1 e2 => r.ali b1 b2 x x' c sh sh' (h.get_drop b b1 x e1).2 (h.get_drop b b2 x' e2).2, r.nx, r.lt, r.ns, r.cz, r.glo⟩
theorem H.get_drops : ∀ (l : List Nat) (h : H) (b' : Nat) (y : AB), (h.drops l).get b' = some y → b' ∉ l ∧ h.get b' = some y := by
  intro l
  induction l with
  | nil => intro h b' y e; exact ⟨by simp, e⟩
  | cons b r ih =>
    intro h b' y e
    obtain ⟨h1, h2⟩ := ih (h.drop b) b' y e
    obtain ⟨h3, h4⟩ := h.get_drop b b' y h2
    exact ⟨by simp [h1, h3], h4⟩
theorem H.drops_nx : ∀ (l : List Nat) (h : H), (h.drops l).nx = h.nx ∧ (h.drops l).ns = h.ns := by
  intro l
  induction l with
  | nil => intro h; exact ⟨rfl, rfl⟩
  | cons b r ih => intro h; exact ih (h.drop b)
theorem HR.drops {V : Val} {w : World} : ∀ (l : List Nat) {h : H}, HR V h w → HR V (h.drops l) w := by
  intro l
  induction l with
  | nil => intro h r; exact r
  | cons b l ih => intro h r; exact ih (r.drop b)

theorem Ext.drops (V : Val) (h : H) (w : World) (l : List Nat) : Ext V h w V (h.drops l) w :=
  ⟨Val.le.refl V, Nat.le_refl _, fun _ _ hn => ⟨rfl, fun b x sh e => hn b x sh (H.get_drops l h b x e).2⟩, rfl, rfl, rfl, Nat.le_refl _, Nat.le_of_eq (H.drops_nx l h).1.symm, fun _ _ h => h⟩
theorem Ext.put (V : Val) {h : H} (w : World) {b : Nat} {x : AB} (hb : h.get b = some x) (y : AB) : Ext V h w V (h.put b y) w :=
  ⟨Val.le.refl V, Nat.le_refl _, fun _ _ hn => ⟨rfl, fun b' x' sh e => by
    rcases h.get_put b y b' x' e with ⟨rfl, _⟩ | ⟨_, e2⟩
    · exact hn b' x sh hb
    · exact hn b' x' sh e2⟩, rfl, rfl, rfl, Nat.le_refl _, Nat.le_refl _, fun _ _ h => h⟩

/-! a new block -/
def H.new (h : H) (x : AB) : H := ⟨h.nx + 1, h.ns, h.t.put h.nx (some x)⟩
theorem H.alloc_eq {R : Type} (h : H) (x : AB) (fail : R) (k : Nat → H → R) : h.alloc x fail k = if h.nx = 0 then fail else k h.nx (h.new x) := by
  cases h with | mk nx ns t => cases nx <;> rfl
def Val.bind (V : Val) (b : Nat) (p : Nat × Nat) (n : Nat) : Val := { V with ρ := fun b' => if b' = b then some p else V.ρ b', cz := fun c => if c = p.1 then n else V.cz c }
def objCells : Obj → Nat
  | .cells a _ _ => a.size
  | _ => 0
theorem Val.le_bind {V : Val} {b : Nat} {p : Nat × Nat} {n : Nat} (h : V.ρ b = none) (hn : (∀ b sh, V.ρ b ≠ some (p.1, sh)) ∨ n = V.cz p.1) : V.le (V.bind b p n) :=
  ⟨fun b' x e => by unfold Val.bind; simp only; split
                    · rename_i e'; subst e'; rw [h] at e; cases e
                    · exact e, fun _ _ e => e, fun b' c sh e => by
      unfold Val.bind; simp only; split
      · rename_i e'; subst e'
        rcases hn with hn | hn
        · exact absurd e (hn _ _)
        · exact hn
      · rfl⟩
theorem Val.bind_self (V : Val) (b : Nat) (p : Nat × Nat) (n : Nat) : (V.bind b p n).ρ b = some p := by simp [Val.bind]
theorem Val.bind_ne (V : Val) {b b' : Nat} (p : Nat × Nat) {n : Nat} (h : b' ≠ b) : (V.bind b p n).ρ b' = V.ρ b' := by simp [Val.bind, h]
theorem HR.alloc' {V : Val} {h : H} {w : World} (r : HR V h w) (x : AB) (o : Obj) (hb : BR (V.bind h.nx (w.heap.size, 0) (objCells o)) x 0 o) :
    HR (V.bind h.nx (w.heap.size, 0) (objCells o)) (h.new x) { w with heap := w.heap.push o } := by
  have hle : V.le (V.bind h.nx (w.heap.size, 0) (objCells o)) := Val.le_bind (r.nx _ (Nat.le_refl _)) (.inl fun b sh e => Nat.lt_irrefl _ (r.lt b _ sh e))
  refine ⟨fun b y e => ?_, fun b b' y y' c sh sh' e e' hne hc hc' => ?_, fun b hb' => ?_, fun b c sh e => ?_, r.ns, fun b c sh a el fz e ho => ?_, r.glo.1.push o, fun b sh e => ?_⟩
  · rcases T.get_put h.t h.nx (some x) b y e with ⟨e1, e2⟩ | ⟨e1, e2⟩
    · subst e1; cases e2
      exact ⟨w.heap.size, 0, o, Val.bind_self .., by simp, hb⟩
    · obtain ⟨c, sh, o', hc, ho, hr⟩ := r.blk b y e2
      have hlt := r.lt b c sh hc
      exact ⟨c, sh, o', by rw [Val.bind_ne _ _ e1]; exact hc, by simp [Array.getElem?_push, Nat.ne_of_lt hlt, ho], hr.mono hle⟩
  · have no : ∀ b1 c1 sh1, b1 ≠ h.nx → (V.bind h.nx (w.heap.size, 0) (objCells o)).ρ b1 = some (c1, sh1) → c1 ≠ w.heap.size := by
      intro b1 c1 sh1 hn hh
      rw [Val.bind_ne _ _ hn] at hh
      exact Nat.ne_of_lt (r.lt _ _ _ hh)
    rcases T.get_put h.t h.nx (some x) b y e with ⟨e1, e2⟩ | ⟨e1, e2⟩ <;> rcases T.get_put h.t h.nx (some x) b' y' e' with ⟨e3, e4⟩ | ⟨e3, e4⟩
    · exact absurd (e1.trans e3.symm) hne
    · subst e1; rw [Val.bind_self] at hc; cases hc; exact absurd rfl (no _ _ _ e3 hc')
    · subst e3; rw [Val.bind_self] at hc'; cases hc'; exact absurd rfl (no _ _ _ e1 hc)
    · rw [Val.bind_ne _ _ e1] at hc; rw [Val.bind_ne _ _ e3] at hc'
      exact r.ali b b' y y' c sh sh' e2 e4 hne hc hc'
  · have hb' : h.nx + 1 ≤ b := hb'
    rw [Val.bind_ne _ _ (by omega)]; exact r.nx b (by omega)
  · simp only [Array.size_push]
    by_cases hbn : b = h.nx
    · subst hbn; rw [Val.bind_self] at e; cases e; omega
    · rw [Val.bind_ne _ _ hbn] at e; have := r.lt b c sh e; omega
  · by_cases hbn : b = h.nx
    · subst hbn; rw [Val.bind_self] at e; cases e
      simp only [Array.getElem?_push_size, Option.some.injEq] at ho
      subst ho
      simp [Val.bind, objCells]
    · rw [Val.bind_ne _ _ hbn] at e
      have hlt := r.lt b c sh e
      have h2 : (V.bind h.nx (w.heap.size, 0) (objCells o)).cz c = V.cz c := hle.cz b c sh e
      rw [h2]
      refine r.cz b c sh a el fz e ?_
      simpa [Array.getElem?_push, Nat.ne_of_lt hlt] using ho
  · by_cases hbn : b = h.nx
    · subst hbn; rw [Val.bind_self] at e; have := r.glo.1.pos; simp only [Option.some.injEq, Prod.mk.injEq] at e; omega
    · rw [Val.bind_ne _ _ hbn] at e; exact r.glo.2 b sh e
theorem HR.alloc {V : Val} {h : H} {w : World} (r : HR V h w) (x : AB) (o : Obj) (_ : x.anc = []) (hb : BR (V.bind h.nx (w.heap.size, 0) (objCells o)) x 0 o) :
    HR (V.bind h.nx (w.heap.size, 0) (objCells o)) (h.new x) { w with heap := w.heap.push o } := r.alloc' x o hb
theorem Ext.alloc {V : Val} {h : H} {w : World} (r : HR V h w) (x : AB) (o : Obj) : Ext V h w (V.bind h.nx (w.heap.size, 0) (objCells o)) (h.new x) { w with heap := w.heap.push o } := by
  refine ⟨Val.le_bind (r.nx _ (Nat.le_refl _)) (.inl fun b sh e => Nat.lt_irrefl _ (r.lt b _ sh e)), by simp, fun c hc hn => ⟨by simp [Array.getElem?_push, Nat.ne_of_lt hc], fun b y sh hb e => ?_⟩, rfl, rfl, rfl, Nat.le_refl _, Nat.le_succ _, fun b hb hn => by rw [Val.bind_ne _ _ (Nat.ne_of_lt hb)]; exact hn⟩
  by_cases hbn : b = h.nx
  · subst hbn; rw [Val.bind_self] at e; cases e; omega
  · rw [Val.bind_ne _ _ hbn] at e
    rcases T.get_put h.t h.nx (some x) b y hb with ⟨e1, _⟩ | ⟨_, e2⟩
    · exact hbn e1
    · exact hn b y sh e2 e

/-! changing one block that nothing shares -/
theorem HR.set {V : Val} {h : H} {w : World} (r : HR V h w) {b c sh : Nat} (hc : V.ρ b = some (c, sh)) (y : AB) (o : Obj)
    (hex : ∀ b' x', h.get b' = some x' → b' ≠ b → ∀ sh', V.ρ b' ≠ some (c, sh')) (hy : BR V y sh o) (hz : ∀ a el fz, o = .cells a el fz → a.size = V.cz c) :
    HR V (h.put b y) { w with heap := w.heap.setIfInBounds c o } := by
  have hlt := r.lt b c sh hc
  refine ⟨fun b' x e => ?_, fun b1 b2 x x' c1 sh1 sh2 e1 e2 hne hc1 hc2 => ?_, r.nx, fun b' c' sh' e => by simpa using r.lt b' c' sh' e, r.ns, fun b' c' sh' a el fz e ho => ?_, r.glo.1.set (fun e => by subst e; exact r.glo.2 _ _ hc) o, r.glo.2⟩
  rotate_left 2
  · by_cases hcc : c = c'
    · subst hcc
      simp only [Array.getElem?_setIfInBounds, if_true, hlt, Option.some.injEq] at ho
      exact hz a el fz ho
    · rw [Array.getElem?_setIfInBounds_ne hcc] at ho
      exact r.cz b' c' sh' a el fz e ho
  · rcases h.get_put b y b' x e with ⟨e1, e2⟩ | ⟨e1, e2⟩
    · subst e1; subst e2; exact ⟨c, sh, o, hc, by simp [hlt], hy⟩
    · obtain ⟨c', sh', o', hc', ho, hr⟩ := r.blk b' x e2
      have : c ≠ c' := fun e3 => by subst e3; exact hex b' x e2 e1 sh' hc'
      exact ⟨c', sh', o', hc', by rw [Array.getElem?_setIfInBounds_ne this]; exact ho, hr⟩
  · rcases h.get_put b y b1 x e1 with ⟨e3, _⟩ | ⟨e3, e4⟩ <;> rcases h.get_put b y b2 x' e2 with ⟨e5, _⟩ | ⟨e5, e6⟩
    · exact absurd (e3.trans e5.symm) hne
    · subst e3; rw [hc] at hc1; cases hc1; exact absurd hc2 (hex b2 x' e6 e5 sh2)
    · subst e5; rw [hc] at hc2; cases hc2; exact absurd hc1 (hex b1 x e4 e3 sh1)
    · exact r.ali b1 b2 x x' c1 sh1 sh2 e4 e6 hne hc1 hc2
theorem HR.excl {V : Val} {h : H} {w : World} (r : HR V h w) {b c sh : Nat} {x : AB} (hc : V.ρ b = some (c, sh)) (hx : h.get b = some x) (h1 : x.isFk = false) (h2 : x.anc = []) :
    ∀ b' x', h.get b' = some x' → b' ≠ b → ∀ sh', V.ρ b' ≠ some (c, sh') := by
  intro b' x' e hne sh' hc'
  rcases r.ali b b' x x' c sh sh' hx e (fun e => hne e.symm) hc hc' with ⟨_, e2, _⟩ | ⟨e2, _⟩
  · rw [h1] at e2; cases e2
  · rw [h2] at e2; cases e2
theorem Ext.set {V : Val} {h : H} {w : World} {b c sh : Nat} {x : AB} (hb : h.get b = some x) (hc : V.ρ b = some (c, sh)) (y : AB) (o : Obj) : Ext V h w V (h.put b y) { w with heap := w.heap.setIfInBounds c o } :=
  ⟨Val.le.refl V, by simp, fun c' _ hn => ⟨by rw [Array.getElem?_setIfInBounds_ne (fun e => by subst e; exact hn b x sh hb hc)], fun b' x' sh' e => by
    rcases h.get_put b y b' x' e with ⟨rfl, _⟩ | ⟨_, e2⟩
    · exact hn b' x sh' hb
    · exact hn b' x' sh' e2⟩, rfl, rfl, rfl, Nat.le_refl _, Nat.le_refl _, fun _ _ h => h⟩

/-! reading -/
theorem lget_eq : ∀ (l : List AV) (i : Nat), lget l i = l[i]? := by
  intro l
  induction l with
  | nil => intro i; cases i <;> simp [lget, ldrop]
  | cons a r ih => intro i; cases i with | zero => simp [lget, ldrop] | succ i => simpa [lget, ldrop] using ih i
theorem ldrop_eq : ∀ (l : List AV) (i : Nat), ldrop l i = l.drop i := by
  intro l
  induction l with
  | nil => intro i; cases i <;> simp [ldrop]
  | cons a r ih => intro i; cases i with | zero => simp [ldrop] | succ i => simpa [ldrop] using ih i
theorem ltake_eq : ∀ (n : Nat) (l r : List AV), ltake n l = some r → r = l.take n ∧ n ≤ l.length := by
  intro n
  induction n with
  | zero => intro l r h; simp [ltake] at h; simp [h]
  | succ n ih =>
    intro l r h
    cases l with
    | nil => simp [ltake] at h
    | cons a l =>
      simp only [ltake] at h
      split at h
      · cases h
      · rename_i l' he
        cases h
        obtain ⟨e, hl⟩ := ih l l' he
        exact ⟨by simp [e], by simpa using hl⟩

theorem HR.read1 {V : Val} {h : H} {w : World} (r : HR V h w) {b off c sh : Nat} {v : AV} (hc : V.ρ b = some (c, sh)) (e : h.read1 b off = some v) :
    ∃ u, w.cell? ⟨c, sh + off, none⟩ = some u ∧ CR V v u := by
  unfold H.read1 at e
  split at e
  · rename_i el l anc st hg
    obtain ⟨c', sh', o, hc', ho, cs, fz, rfl, hr, _⟩ := r.blk b _ hg
    rw [hc] at hc'; cases hc'
    rw [lget_eq] at e
    obtain ⟨u, hu, hcr⟩ := hr off v e
    refine ⟨u, ?_, hcr⟩
    simp only [World.cell?, ho]
    simpa using hu
  · cases e
theorem HR.read {V : Val} {h : H} {w : World} (r : HR V h w) {b off n c sh : Nat} {l : List AV} (hc : V.ρ b = some (c, sh)) (e : h.read b off n = some l) :
    l.length = n ∧ ∀ i x, l[i]? = some x → ∃ u, w.cell? ⟨c, sh + off + i, none⟩ = some u ∧ CR V x u := by
  unfold H.read at e
  split at e
  · rename_i el l0 anc st hg
    obtain ⟨c', sh', o, hc', ho, cs, fz, rfl, hr, _⟩ := r.blk b _ hg
    rw [hc] at hc'; cases hc'
    rw [ldrop_eq] at e
    obtain ⟨rfl, hn⟩ := ltake_eq _ _ _ e
    refine ⟨by simp only [List.length_take]; omega, fun i x hx => ?_⟩
    have hx' : l0[off + i]? = some x := by
      rw [List.getElem?_take] at hx
      split at hx
      · simpa using hx
      · cases hx
    obtain ⟨u, hu, hcr⟩ := hr (off + i) x hx'
    refine ⟨u, ?_, hcr⟩
    simp only [World.cell?, ho]
    simpa [Nat.add_assoc] using hu
  · cases e

theorem run_loadCells {P : Program} {V : Val} (w : World) (c o : Nat) : ∀ (l : List AV), (∀ (i : Nat) (x : AV), l[i]? = some x → ∃ u, w.cell? ⟨c, o + i, none⟩ = some u ∧ CR V x u) →
    ∃ us : List Value, (loadCells ⟨c, o, none⟩ l.length).run P w = .ok ⟨us⟩ w ∧ VRs V l us ∧ ∀ u ∈ us, u.oneCell' = true := by
  intro l hl
  have key : ∀ (l : List AV) (i : Nat) (acc : Array Value), (∀ (j : Nat) (x : AV), l[j]? = some x → ∃ u, w.cell? ⟨c, o + i + j, none⟩ = some u ∧ CR V x u) →
      ∃ us : List Value, (loadCellsFrom ⟨c, o, none⟩ i l.length acc).run P w = .ok (acc ++ us.toArray) w ∧ VRs V l us ∧ ∀ u ∈ us, u.oneCell' = true := by
    intro l
    induction l with
    | nil => intro i acc _; exact ⟨[], by simp [loadCellsFrom], by simp [VRs], by simp⟩
    | cons a r ih =>
      intro i acc hl
      obtain ⟨u, hu, hr⟩ := hl 0 a rfl
      obtain ⟨us, e, hv, h1⟩ := ih (i + 1) (acc.push u) fun j x hx => by
        have := hl (j + 1) x (by simpa using hx)
        rwa [show o + i + (j + 1) = o + (i + 1) + j by omega] at this
      refine ⟨u :: us, ?_, by simp only [VRs]; exact ⟨u, us, rfl, hr.1, hv⟩, by simpa using ⟨hr.2, h1⟩⟩
      have ha : (Addr.add ⟨c, o, none⟩ i) = ⟨c, o + i, none⟩ := by unfold Addr.add; split <;> simp_all
      simp only [List.length_cons, loadCellsFrom, Sem.run_bind, run_load, ha]
      rw [show o + i + 0 = o + i by omega] at hu
      simp only [hu, Result.andThen_ok, e]
      simp
  obtain ⟨us, e, hv, h1⟩ := key l 0 #[] (by simpa using hl)
  exact ⟨us, by unfold loadCells; simpa using e, hv, h1⟩

/-! writing -/
theorem lover_eq : ∀ (vs l r : List AV), lover l vs = some r → vs.length ≤ l.length ∧ r.length = l.length ∧ ∀ i, r[i]? = if i < vs.length then vs[i]? else l[i]? := by
  intro vs
  induction vs with
  | nil => intro l r h; cases l <;> (simp [lover] at h; subst h; simp)
  | cons v vs ih =>
    intro l r h
    cases l with
    | nil => simp [lover] at h
    | cons a l =>
      simp only [lover] at h
      split at h
      · cases h
      · rename_i r' he
        cases h
        obtain ⟨h1, h2, h3⟩ := ih l r' he
        refine ⟨by simpa using h1, by simpa using h2, fun i => ?_⟩
        cases i with
        | zero => simp
        | succ i => simpa using h3 i
theorem lput_eq : ∀ (i : Nat) (l vs r : List AV), lput l i vs = some r → i + vs.length ≤ l.length ∧ r.length = l.length ∧ ∀ j, r[j]? = if i ≤ j ∧ j < i + vs.length then vs[j - i]? else l[j]? := by
  intro i
  induction i with
  | zero =>
    intro l vs r h
    obtain ⟨h1, h2, h3⟩ := lover_eq vs l r (by simpa [lput] using h)
    exact ⟨by simpa using h1, h2, fun j => by simpa using h3 j⟩
  | succ i ih =>
    intro l vs r h
    cases l with
    | nil => simp [lput] at h
    | cons a l =>
      simp only [lput] at h
      split at h
      · cases h
      · rename_i r' he
        cases h
        obtain ⟨h1, h2, h3⟩ := ih l vs r' he
        refine ⟨by simp; omega, by simpa using h2, fun j => ?_⟩
        cases j with
        | zero => simp
        | succ j =>
          simp only [List.getElem?_cons_succ, h3 j]
          by_cases hj : i ≤ j ∧ j < i + vs.length
          · rw [if_pos hj, if_pos (by omega)]; congr 1; omega
          · rw [if_neg hj, if_neg (by omega)]

/-- a row of values laid over an array -/
def overA : List Value → Nat → Array Value → Array Value
  | [], _, a => a
  | v :: r, i, a => overA r (i + 1) (a.setIfInBounds i v)
theorem overA_size : ∀ (us : List Value) (i : Nat) (a : Array Value), (overA us i a).size = a.size := by
  intro us
  induction us with
  | nil => intro i a; rfl
  | cons u r ih => intro i a; simp [overA, ih]
theorem overA_get : ∀ (us : List Value) (i : Nat) (a : Array Value), i + us.length ≤ a.size → ∀ j, (overA us i a)[j]? = if i ≤ j ∧ j < i + us.length then us[j - i]? else a[j]? := by
  intro us
  induction us with
  | nil => intro i a _ j; simp only [overA, List.length_nil]; rw [if_neg (by omega)]
  | cons u r ih =>
    intro i a h j
    simp only [List.length_cons] at h
    simp only [overA, List.length_cons]
    rw [ih (i + 1) _ (by simpa using by omega)]
    by_cases hj : i + 1 ≤ j ∧ j < i + 1 + r.length
    · rw [if_pos hj, if_pos (by omega)]
      rw [show j - i = (j - (i + 1)) + 1 by omega]; simp
    · rw [if_neg hj]
      by_cases hi : j = i
      · subst hi; rw [if_pos (by omega), Nat.sub_self, Array.getElem?_setIfInBounds_self_of_lt (by omega)]; rfl
      · rw [if_neg (by omega), Array.getElem?_setIfInBounds_ne (fun e => hi e.symm)]

def World.over (w : World) (c off : Nat) (us : List Value) : World :=
  { w with heap := w.heap.modify c fun | .cells a e f => .cells (overA us off a) e f | o => o }
theorem run_storeCells {P : Program} (c o : Nat) (a0 : Array Value) (el : Nat) (fz : Nat × Nat) : ∀ (us : List Value) (i : Nat) (w : World), w.heap[c]? = some (.cells a0 el fz) → (us ≠ [] → o + i + us.length ≤ a0.size) →
    (∀ j, j < a0.size → ¬ (fz.1 ≤ j ∧ j < fz.2)) → (∀ u ∈ us, u.oneCell' = true) → (storeCells ⟨c, o, none⟩ us i).run P w = .ok () { w with heap := w.heap.setIfInBounds c (.cells (overA us (o + i) a0) el fz) } := by
  intro us
  induction us generalizing a0 with
  | nil =>
    intro i w hc _ _ _
    have : w.heap.setIfInBounds c (.cells a0 el fz) = w.heap := by
      apply Array.ext
      · simp
      · intro j h1 h2
        by_cases e : c = j
        · subst e
          have : w.heap[c] = .cells a0 el fz := by rw [Array.getElem?_eq_getElem h2] at hc; simpa using hc
          simp [this]
        · rw [Array.getElem_setIfInBounds_ne (h := e)]
    simp only [storeCells, overA, this]; rfl
  | cons u r ih =>
    intro i w hc hl hf h1
    have hl := hl (by simp)
    simp only [List.length_cons] at hl
    have ha : (Addr.add ⟨c, o, none⟩ i) = ⟨c, o + i, none⟩ := by unfold Addr.add; split <;> simp_all
    have hcell : w.cell? ⟨c, o + i, none⟩ = some (a0[o + i]'(by omega)) := by simp [World.cell?, hc]
    have hfr : w.frozen? ⟨c, o + i, none⟩ = false := by
      have h2 := hf (o + i) (by omega)
      unfold World.frozen?
      simp only [hc]
      cases hd : (decide (fz.1 ≤ o + i) && decide (o + i < fz.2)) with
      | false => rfl
      | true => simp at hd; exact absurd hd h2
    have hset : w.setCell ⟨c, o + i, none⟩ u = { w with heap := w.heap.setIfInBounds c (.cells (a0.setIfInBounds (o + i) u) el fz) } := by
      unfold World.setCell
      congr 1
      have hlt : c < w.heap.size := by
        rcases Nat.lt_or_ge c w.heap.size with h | h
        · exact h
        · rw [Array.getElem?_eq_none h] at hc; cases hc
      have hget : w.heap[c] = .cells a0 el fz := by rw [Array.getElem?_eq_getElem hlt] at hc; simpa using hc
      apply Array.ext
      · simp
      · intro j h1 h2
        simp only [Array.getElem_modify]
        by_cases e : c = j
        · subst e; simp [hget]
        · rw [if_neg e, Array.getElem_setIfInBounds_ne (h := e)]
    simp only [storeCells, Sem.run_bind, ha]
    rw [run_store P w _ u .plain (h1 u (by simp))]
    simp only [hcell, hfr, Bool.false_eq_true, if_false, Result.andThen_ok, hset]
    have hlt : c < w.heap.size := by
      rcases Nat.lt_or_ge c w.heap.size with h | h
      · exact h
      · rw [Array.getElem?_eq_none h] at hc; cases hc
    rw [ih (a0.setIfInBounds (o + i) u) (i + 1) _ (by simp [hlt]) (fun _ => by simp only [Array.size_setIfInBounds]; omega) (by simpa using hf) (fun v hv => h1 v (by simp [hv]))]
    simp only [overA, Nat.add_assoc]
    congr 2
    apply Array.ext
    · simp
    · intro j h1 h2
      by_cases e : c = j
      · subst e; simp
      · simp

/-- what H.write does -/
theorem HR.write {V : Val} {h h' : H} {w : World} (r : HR V h w) {b off c sh : Nat} {vs : List AV} {us : List Value} (hc : V.ρ b = some (c, sh)) (e : h.write b off vs = some h')
    (hv : VRs V vs us) (h1 : ∀ u ∈ us, u.oneCell' = true) (P : Program) :
    ∃ w', (storeCells ⟨c, sh + off, none⟩ us).run P w = .ok () w' ∧ HR V h' w' ∧ Ext V h w V h' w' := by
  unfold H.write at e
  split at e
  · rename_i el l anc st hg
    cases hwr : st.wr with
    | false => rw [hwr] at e; cases e
    | true =>
    rw [hwr] at e; simp only [cond_true] at e
    split at e
    · rename_i l' hl
      obtain ⟨c', sh', o, hc', ho, cs, fz, rfl, hr, hfz0, hsh0⟩ := r.blk b _ hg
      rw [hc] at hc'; cases hc'
      have hfz := hfz0 hwr
      obtain ⟨p1, p2, p3⟩ := lput_eq _ _ _ _ hl
      have hlen : us.length = vs.length := hv.length
      have hsz : sh + l.length ≤ cs.size ∨ l.length = 0 := by
        by_cases h0 : l.length = 0
        · exact .inr h0
        · left
          obtain ⟨u, hu, _⟩ := hr (l.length - 1) (l[l.length - 1]'(by omega)) (List.getElem?_eq_getElem _)
          have : l.length - 1 < (cs.toList.drop sh).length := by
            rcases Nat.lt_or_ge (l.length - 1) (cs.toList.drop sh).length with h | h
            · exact h
            · rw [List.getElem?_eq_none h] at hu; cases hu
          simp at this; omega
      have hb' : BR V (.cells el l' [] st) sh (.cells (overA us (sh + off) cs) el fz) := by
        refine ⟨_, _, rfl, fun i x hx => ?_, ?_, hsh0⟩
        · rw [p3 i] at hx
          have hget : ((overA us (sh + off) cs).toList.drop sh)[i]? = (overA us (sh + off) cs)[sh + i]? := by simp
          rw [hget]
          by_cases h0 : vs.length = 0
          · have : us = [] := List.length_eq_zero_iff.1 (hlen.trans h0)
            subst this
            rw [if_neg (by omega)] at hx
            obtain ⟨u, hu, hcr⟩ := hr i x hx
            exact ⟨u, by simpa [overA] using hu, hcr⟩
          · rw [overA_get us _ cs (by rcases hsz with h | h <;> omega)]
            by_cases hi : off ≤ i ∧ i < off + vs.length
            · rw [if_pos hi] at hx
              rw [if_pos (by omega)]
              obtain ⟨u, hu, hvr⟩ := hv.get _ _ hx
              refine ⟨u, ?_, hvr, h1 u (List.mem_of_getElem? hu)⟩
              rw [show sh + i - (sh + off) = i - off by omega]; exact hu
            · rw [if_neg hi] at hx
              rw [if_neg (by omega)]
              obtain ⟨u, hu, hcr⟩ := hr i x hx
              exact ⟨u, by simpa using hu, hcr⟩
        · intro _ i hi; rw [overA_size] at hi; exact hfz i hi
      have hrun : (storeCells ⟨c, sh + off, none⟩ us).run P w = .ok () { w with heap := w.heap.setIfInBounds c (.cells (overA us (sh + off) cs) el fz) } := by
        have := run_storeCells (P := P) c (sh + off) cs el fz us 0 w ho (fun hne => by have : 0 < us.length := List.length_pos_iff.2 hne; rcases hsz with h | h <;> omega) hfz h1
        simpa using this
      have hb2 : ∀ anc', BR V (.cells el l' anc' st) sh (.cells (overA us (sh + off) cs) el fz) := fun _ => hb'
      refine ⟨_, hrun, ?_, ?_⟩
      rotate_left
      · have done' : ∀ hd : H, hd = h.drops anc → Ext V h w V (hd.put b (.cells el l' [] st)) { w with heap := w.heap.setIfInBounds c (.cells (overA us (sh + off) cs) el fz) } := by
          intro hd ed
          subst ed
          refine ⟨Val.le.refl V, by simp, fun c' _ hn => ⟨by rw [Array.getElem?_setIfInBounds_ne (fun e => by subst e; exact hn b _ sh hg hc)], fun b' x' sh' e => ?_⟩, rfl, rfl, rfl, Nat.le_refl _, Nat.le_of_eq (H.drops_nx anc h).1.symm, fun _ _ h => h⟩
          rcases (h.drops anc).get_put b _ b' x' e with ⟨rfl, _⟩ | ⟨_, e2⟩
          · exact hn b' _ sh' hg
          · exact hn b' x' sh' (H.get_drops anc h b' x' e2).2
        split at e
        · cases e; exact done' h rfl
        · cases e; exact done' _ rfl
      have done : ∀ hd : H, hd = h.drops anc → HR V (hd.put b (.cells el l' [] st)) { w with heap := w.heap.setIfInBounds c (.cells (overA us (sh + off) cs) el fz) } := by
        intro hd ed
        subst ed
        refine (HR.drops anc r).set hc _ _ (fun b' x' e' hne sh' hc' => ?_) hb' (fun a el fz e => by cases e; rw [overA_size]; exact r.cz b c sh _ _ _ hc ho)
        obtain ⟨hn, e2⟩ := H.get_drops anc h b' x' e'
        rcases r.ali b b' _ x' c sh sh' hg e2 (fun e => hne e.symm) hc hc' with ⟨_, e3, _⟩ | ⟨e3, _⟩
        · cases st <;> simp [AB.isFk, St.wr] at e3 hwr
        · exact hn e3
      split at e
      · cases e; exact done h rfl
      · cases e; exact done _ rfl
    · cases e
  · cases e
end Go.Ev
end
