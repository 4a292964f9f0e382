/- The values by which a program's steps are reckoned, and what they mean; part one: a tool of this claim's proof, no statement of the program. -/
import Derived.Orders
import Derived.WalkKit
import Derived.RangeFuncLeaves
import Derived.OrdersIn

/- The evaluator over tree values: definitions. -/
namespace Go.Tv
open Go

/-! ## frames: the last that was laid first -/
inductive Tr (α : Type) where
  | nil
  | cons (n : Nat) (v : α) (t : Tr α)

namespace Tr
variable {α : Type}
def get : Tr α → Nat → Option α
  | .nil => fun _ => none
  | .cons n v t => fun m => match Nat.beq n m with | true => some v | false => t.get m
def set (_ : Nat) (t : Tr α) (n : Nat) (v : α) : Tr α := .cons n v t

theorem get_nil (n : Nat) : (Tr.nil : Tr α).get n = none := rfl
theorem get_set_same (k : Nat) (t : Tr α) (n : Nat) (v : α) : (t.set k n v).get n = some v := by
  simp [set, get, Nat.beq_refl]
theorem get_set_ne (k : Nat) (t : Tr α) (n m : Nat) (v : α) (h : m ≠ n) : (t.set k n v).get m = t.get m := by
  have hb : Nat.beq n m = false := by
    cases hb : Nat.beq n m with
    | false => rfl
    | true => exact absurd (Nat.eq_of_beq_eq_true hb).symm h
  simp [set, get, hb]
end Tr

/-! ## values -/
inductive Own where
  | sh | ex
  | tk (id ver : Nat)

inductive TV where
  | undef
  | bool (b : Bool)
  | int (k : IntKind) (n : Int)
  | str (s : List UInt8)
  | nilp
  | ptr (r off : Nat)
  | view (o : Own) (cs : List TV)
  | slice (o : Own) (es : List TV)
  | bsl (r off len sz : Nat) (ag : Bool)
  | nilm
  | map (r : Nat)
  | func (fn : Fn) (first captured : List TV)
  | nilf
  | iface (t : TypeId) (v : TV)
  | nili
  | agg (cs : List TV)
  | tuple (vs : List TV)

def TV.cells : TV → List TV
  | .agg cs => cs
  | v => [v]

/-- the value of one cell, surely -/
def TV.one : TV → Bool
  | .agg _ | .tuple _ | .undef => false
  | _ => true

def oneL : List TV → Bool
  | [] => true
  | v :: vs => v.one && oneL vs

def TV.known : TV → Bool
  | .undef | .tuple _ => false
  | _ => true

inductive Ent where
  | box (ty : TypeId) (cs : List TV)
  | ice (cs : List TV)
  | tok (ver : Nat) (pin : Bool) (sz : Nat)
  | map (t : TypeId) (es : List (TV × TV))
  | iter (s : List UInt8) (pos : Nat)
  | dfr
  | rl (f id : Nat) (vals : List TV) (st : Nat) (pend : Option Nat)   -- a range over a function: 0 ready, 1 busy, 2 left (pend: by which block; none: by return)
  | dead

inductive Dfr where
  | mark (r : Nat)
  | fn (f : FuncId) (args : List TV)

structure St where
  ents : List Ent
  esc : Bool
  defs : List Dfr

inductive TE where
  | normal
  | exit (id : Nat)
  | ret
  | pan (v : TV)

structure Ans where
  e : TE
  vs : List TV
  σ : St

inductive Req where
  | call (f : FuncId) (args : List TV) (σ : St)
  | loop (rd : Bool) (f : FuncId) (id : Nat) (vs : List TV) (σ : St)
  | round (r : Nat) (args : List TV) (σ : St)
  | dcall (f : FuncId) (args : List TV) (σ : St)

abbrev Rec := Req → Option Ans

/-! ## types -/
structure Fld where
  off : Nat
  size : Nat
  ag : Bool
  ty : TypeId

structure Lay where
  und : TypeDesc
  size : Nat
  bytes : Nat
  agg : Bool
  zero : TV
  flds : List Fld
  elt : TypeId
  esz : Nat
  ebytes : Nat
  eagg : Bool
  ezero : TV
  eflat : Bool
  feq : Bool
  guard : Bool
  key : TypeId

def ofVal1 : Value → TV
  | .bool b => .bool b
  | .int k n => .int k n
  | .string s => .str s.data.toList
  | .pointer none => .nilp
  | .slice none 0 0 => .slice .ex []
  | .map none => .nilm
  | .nilFunc => .nilf
  | .nilIface => .nili
  | _ => .undef
def ofVal : Value → TV
  | .agg cs => .agg (cs.toList.map ofVal1)
  | v => ofVal1 v

def isAggD : TypeDesc → Bool
  | .struct _ | .array _ _ => true
  | _ => false

def layFlds (P : Program) : List Field → Option (List Fld)
  | [] => some []
  | f :: fs => do
    let i ← P.info? f.type
    let d ← P.underlying f.type
    let r ← layFlds P fs
    pure (⟨f.offset, i.size, isAggD d, f.type⟩ :: r)

def eltOf : TypeDesc → Option TypeId
  | .slice e | .array _ e | .map _ e => some e
  | _ => none

/-- holds values of this type no reference? (looked at so deep) -/
def noRefs (P : Program) : Nat → TypeId → Bool
  | 0, _ => false
  | d + 1, t => match P.underlying t with
    | some (.slice e) | some (.array _ e) => noRefs P d e
    | some (.struct fs) => fs.toList.all fun f => noRefs P d f.type
    | some .bool | some (.int _) | some .string => true
    | _ => false

/-- may values of this struct type be compared field by field? -/
def structEq (P : Program) (t : TypeId) : Bool :=
  match P.underlying t with
  | some (.struct fs) => (fs.toList.all fun f => f.name != "_") && !P.stoodInHeld t
  | _ => false

def zeroT (z : Option Value) : TV := match z with | some v => ofVal v | none => .undef

def fldsOf (P : Program) : TypeDesc → Option (List Fld)
  | .struct fs => layFlds P fs.toList
  | _ => some []
def keyOfD : TypeDesc → TypeId
  | .map k _ => k
  | _ => 0

def layOf (P : Program) (t : TypeId) : Option Lay := do
  let i ← P.info? t
  let d ← P.underlying t
  let fs ← fldsOf P d
  match eltOf d with
  | none => pure { und := d, size := i.size, bytes := i.bytes, agg := isAggD d, zero := zeroT i.zero, flds := fs, elt := 0, esz := 0, ebytes := 0, eagg := false, ezero := .undef, eflat := false, feq := structEq P t, guard := P.eqGuardType P.depth t, key := 0 }
  | some e => do
    let j ← P.info? e
    let dj ← P.underlying e
    pure { und := d, size := i.size, bytes := i.bytes, agg := isAggD d, zero := zeroT i.zero, flds := fs, elt := e, esz := j.size, ebytes := j.bytes, eagg := isAggD dj, ezero := zeroT j.zero, eflat := noRefs P 9 e, feq := false, guard := true, key := keyOfD d }

structure Env where
  code : FuncId → Option Func
  lay : TypeId → Option Lay
  glob : Nat → List TV
  iso : FuncId → Bool
  live : FuncId → Nat → Option (List Nat × List Nat)
  ext : FuncId → Option (List TV → St → Option (TV × St))
  bad : FuncId → Nat → Bool
  pext : FuncId → Option (List TV → Option TV)

/-! ## the evaluator -/
def tst {α : Type} (b : Bool) (t e : α) : α := match b with | true => t | false => e

section
variable {R : Type}

/-- The token's state now. -/
def curK (σ : St) (id ver : Nat) (k : Bool → Nat → Option R) : Option R :=
  match σ.ents[id]? with
  | some (.tok v pin sz) => tst (Nat.beq v ver) (k pin sz) none
  | _ => none

def ownK (σ : St) (o : Own) (k : Option R) : Option R :=
  match o with
  | .tk id ver => curK σ id ver fun _ _ => k
  | _ => k

def derefK (σ : St) (p : TV) (K : List TV → Option R) : Option R :=
  match p with
  | .ptr r off =>
    match σ.ents[r]? with
    | some (.box _ cs) => K (cs.drop off)
    | some (.ice cs) => K (cs.drop off)
    | _ => none
  | .view o cs => ownK σ o (K cs)
  | _ => none

/-- A value of a type out of the cells from a place on. -/
def partK (ag : Bool) (size : Nat) (cs : List TV) (K : TV → Option R) : Option R :=
  match ag with
  | true => tst (Nat.ble size cs.length) (K (.agg (cs.take size))) none
  | false => match cs with | c :: _ => K c | [] => none

def layK (E : Env) (t : TypeId) (K : Lay → Option R) : Option R :=
  match E.lay t with | some l => K l | none => none

def loadK (E : Env) (σ : St) (t : TypeId) (p : TV) (K : TV → Option R) : Option R :=
  layK E t fun l => derefK σ p fun cs => partK l.agg l.size cs K

def fnRef : Fn → Nat
  | .yield r => r + 1
  | _ => 0

mutual
def TV.refs : TV → Nat
  | .ptr r _ => r + 1
  | .view (.tk id _) _ => id + 1
  | .slice (.tk id _) _ => id + 1
  | .bsl r _ _ _ _ => r + 1
  | .map r => r + 1
  | .func fn a b => max (fnRef fn) (max (TV.refsL a) (TV.refsL b))
  | .iface _ v => v.refs
  | .agg cs => TV.refsL cs
  | .tuple cs => TV.refsL cs
  | _ => 0
def TV.refsL : List TV → Nat
  | [] => 0
  | v :: vs => max v.refs (TV.refsL vs)
end

mutual
/-- no reference, all known -/
def TV.flat : TV → Bool
  | .undef | .ptr _ _ | .view (.tk _ _) _ | .slice (.tk _ _) _ | .slice .ex (_ :: _) | .bsl _ _ _ _ _ | .map _ => false
  | .func fn a b => Nat.beq (fnRef fn) 0 && TV.flatL a && TV.flatL b
  | .iface _ v => v.flat
  | .agg cs => TV.flatL cs
  | .tuple cs => TV.flatL cs
  | _ => true
def TV.flatL : List TV → Bool
  | [] => true
  | v :: vs => v.flat && TV.flatL vs
end

def St.put (σ : St) (r : Nat) (e : Ent) : St := { σ with ents := σ.ents.set r e }
def St.add (σ : St) (e : Ent) : St := { σ with ents := σ.ents ++ [e] }

/-- the elements of a row of cells -/
def chunks (ag : Bool) (sz : Nat) : Nat → List TV → List TV
  | 0, _ => []
  | n + 1, cs => (match ag with | true => TV.agg (cs.take sz) | false => cs.headD .undef) :: chunks ag sz n (cs.drop sz)

/-- may these cells be read as elements for good? -/
def fitK (ag : Bool) (off len sz : Nat) (cs : List TV) : Bool :=
  TV.flatL cs && oneL cs && Nat.ble (off + len * sz) cs.length && (match ag with | true => true | false => Nat.beq sz 1)

mutual
/-- what is kept for good: no token stays; what the tokens hold is pinned -/
def freezeK (v : TV) (σ : St) (K : TV → St → Option R) : Option R :=
  match v with
  | .slice (.tk id ver) es => curK σ id ver fun _ sz => K (.slice .sh es) (σ.put id (.tok ver true sz))
  | .view (.tk id ver) cs => curK σ id ver fun _ sz => K (.view .sh cs) (σ.put id (.tok ver true sz))
  | .bsl r off len sz ag =>
    match σ.ents[r]? with
    | some (.box _ cs) => tst (fitK ag off len sz cs) (K (.slice .sh (chunks ag sz len (cs.drop off))) (σ.put r (.ice cs))) (K (.bsl r off len sz ag) σ)
    | some (.ice cs) => tst (fitK ag off len sz cs) (K (.slice .sh (chunks ag sz len (cs.drop off))) σ) none
    | _ => none
  | .slice .ex (e :: es) => K (.slice .sh (e :: es)) σ
  | .iface t v => freezeK v σ fun v σ => K (.iface t v) σ
  | .agg cs => freezeLK cs σ fun cs σ => K (.agg cs) σ
  | .tuple cs => freezeLK cs σ fun cs σ => K (.tuple cs) σ
  | v => K v σ
def freezeLK (vs : List TV) (σ : St) (K : List TV → St → Option R) : Option R :=
  match vs with
  | [] => K [] σ
  | v :: vs => freezeK v σ fun v σ => freezeLK vs σ fun vs σ => K (v :: vs) σ
end
end
end Go.Tv

/- The evaluator over tree values: operations. -/
namespace Go.Tv
open Go

section
variable {R : Type}

def opd (E : Env) (fr : Tr TV) : Operand → TV
  | .tmp t => (fr.get t).getD .undef
  | .const v => ofVal v
  | .global g => .view .sh (E.glob g)
  | .func f => .func (.func f) [] []

def opds (E : Env) (fr : Tr TV) : List Operand → List TV
  | [] => []
  | o :: os => opd E fr o :: opds E fr os

/-- The value, its make known. -/
def seeK (v : TV) (K : TV → Option R) : Option R :=
  match v with
  | .undef => K .undef
  | .bool b => K (.bool b)
  | .int k n => K (.int k n)
  | .str s => K (.str s)
  | .nilp => K .nilp
  | .ptr r off => K (.ptr r off)
  | .view o cs => K (.view o cs)
  | .slice o es => K (.slice o es)
  | .bsl r off len sz ag => K (.bsl r off len sz ag)
  | .nilm => K .nilm
  | .map r => K (.map r)
  | .func fn a b => K (.func fn a b)
  | .nilf => K .nilf
  | .iface t v => K (.iface t v)
  | .nili => K .nili
  | .agg cs => K (.agg cs)
  | .tuple vs => K (.tuple vs)

/-! ### numbers, strings, tests -/
def intK (op : BinOp) (k : IntKind) (x y : Int) (K : TV → Option R) : Option R :=
  match op with
  | .add => K (.int k (k.wrap (x + y)))
  | .sub => K (.int k (k.wrap (x - y)))
  | .mul => K (.int k (k.wrap (x * y)))
  | .quo => tst (decide (y = 0)) none (K (.int k (k.wrap (x.tdiv y))))
  | .rem => tst (decide (y = 0)) none (K (.int k (x.tmod y)))
  | .and => K (.int k (k.wrap (BitVec.ofInt k.bits x &&& BitVec.ofInt k.bits y).toNat))
  | .or => K (.int k (k.wrap (BitVec.ofInt k.bits x ||| BitVec.ofInt k.bits y).toNat))
  | .xor => K (.int k (k.wrap (BitVec.ofInt k.bits x ^^^ BitVec.ofInt k.bits y).toNat))
  | .andNot => K (.int k (k.wrap (BitVec.ofInt k.bits x &&& ~~~(BitVec.ofInt k.bits y)).toNat))
  | .eql => K (.bool (decide (x = y)))
  | .neq => K (.bool (!decide (x = y)))
  | .lss => K (.bool (decide (x < y)))
  | .leq => K (.bool (decide (x ≤ y)))
  | .gtr => K (.bool (decide (y < x)))
  | .geq => K (.bool (decide (y ≤ x)))
  | _ => none

def strK (op : BinOp) (x y : List UInt8) (K : TV → Option R) : Option R :=
  match op with
  | .add => tst (Nat.ble (x.length + y.length) 9223372036854775807) (K (.str (x ++ y))) none
  | .eql => K (.bool (x == y))
  | .neq => K (.bool (!(x == y)))
  | .lss => K (.bool (Op.bytesLess x y))
  | .leq => K (.bool (Op.bytesLess x y || x == y))
  | .gtr => K (.bool (!(Op.bytesLess x y || x == y)))
  | .geq => K (.bool (!Op.bytesLess x y))
  | _ => none

/-- are two cells of a plain kind the same? -/
def eqCell : TypeDesc → TV → TV → Option Bool
  | .bool, .bool a, .bool b => some (a == b)
  | .int _, .int j a, .int k b => match decide (j = k) with | true => some (decide (a = b)) | false => none
  | .string, .str a, .str b => some (a == b)
  | _, _, _ => none

def andO (a b : Option Bool) : Option Bool := match a, b with | some x, some y => some (x && y) | _, _ => none

def eqList (g : Fld → Option Bool) : List Fld → Option Bool
  | [] => some true
  | f :: fs => andO (g f) (eqList g fs)

/-- '==' on structs, field by field. -/
def eqFlds (E : Env) : Nat → List Fld → List TV → List TV → Option Bool
  | 0, _, _, _ => none
  | d + 1, fs, xs, ys => eqList (fun f =>
      match E.lay f.ty with
      | none => none
      | some l =>
        match f.ag with
        | false => match xs[f.off]?, ys[f.off]? with | some a, some b => eqCell l.und a b | _, _ => none
        | true => match l.feq && Nat.ble (f.off + f.size) xs.length && Nat.ble (f.off + f.size) ys.length with
          | true => eqFlds E d l.flds ((xs.drop f.off).take f.size) ((ys.drop f.off).take f.size)
          | false => none) fs

def someK (b : Option Bool) (K : Bool → Option R) : Option R := match b with | some b => K b | none => none

/-- '==' on what is no number and no string. -/
def eqlK (E : Env) (t : TypeId) (x y : TV) (K : Bool → Option R) : Option R :=
  layK E t fun l =>
    match l.und, x, y with
    | .bool, .bool a, .bool b => K (a == b)
    | .pointer _, .nilp, .nilp => K true
    | .pointer _, .ptr _ _, .nilp | .pointer _, .nilp, .ptr _ _ | .pointer _, .view _ _, .nilp | .pointer _, .nilp, .view _ _ => K false
    | .func _ _ _, .nilf, .nilf => K true
    | .func _ _ _, .func _ _ _, .nilf | .func _ _ _, .nilf, .func _ _ _ => K false
    | .interface _, .iface _ _, .nili | .interface _, .nili, .iface _ _ => K false
    | .map _ _, .nilm, .nilm => K true
    | .map _ _, .map _, .nilm => K false
    | .struct _, .agg xs, .agg ys => tst (l.feq && !l.guard) (someK (eqFlds E 4 l.flds xs ys) K) none
    | _, _, _ => none

def binK (E : Env) (op : BinOp) (t : TypeId) (x y : TV) (K : TV → Option R) : Option R :=
  match x, y with
  | .int k a, .int j b =>
    match op with
    | .shl => tst (decide (b < 0)) none (K (.int k (k.wrap (a * 2 ^ (min b.toNat k.bits)))))
    | .shr => tst (decide (b < 0)) none (K (.int k (a.fdiv (2 ^ (min b.toNat k.bits)))))
    | op => match decide (k = j) with | true => intK op k a b K | false => none
  | .str a, .str b => strK op a b K
  | x, y =>
    match op with
    | .eql => eqlK E t x y fun b => K (.bool b)
    | .neq => eqlK E t x y fun b => K (.bool (!b))
    | _ => none

def unK (op : UnOp) (x : TV) (K : TV → Option R) : Option R :=
  match op, x with
  | .not, .bool b => K (.bool (!b))
  | .neg, .int k n => K (.int k (k.wrap (0 - n)))
  | _, _ => none

def bytesOf : List UInt8 → List TV
  | [] => []
  | b :: bs => .int .u8 b.toNat :: bytesOf bs
def unbytes : List TV → Option (List UInt8)
  | [] => some []
  | .int .u8 n :: vs => match unbytes vs with | some l => some (UInt8.ofNat n.toNat :: l) | none => none
  | _ => none
def strOfK (es : List TV) (K : List UInt8 → Option R) : Option R :=
  match unbytes es with | some l => K l | none => none

def isU8 (d : Option Lay) : Bool := match d with | some { und := .int .u8, .. } => true | _ => false

def convK (E : Env) (src dst : TypeId) (σ : St) (x : TV) (K : TV → Option R) : Option R :=
  layK E src fun ls => layK E dst fun ld =>
    match ld.und, x with
    | .int k, .int _ n => K (.int k (k.wrap n))
    | .string, .str s => K (.str s)
    | .slice e, .str s => match ls.und, isU8 (E.lay e) with
      | .string, true => K (.slice .sh (bytesOf s))
      | _, _ => none
    | .slice e, .slice .ex (.int k n :: es) => match Nat.beq src dst, isU8 (E.lay e) with
      | true, true => K (.slice .ex (.int k n :: es))
      | _, _ => none
    | .string, .slice o es =>
      match ls.und with
      | .slice e => match isU8 (E.lay e) with
        | true => ownK σ o (strOfK es fun l => K (.str l))
        | false => none
      | _ => none
    | .string, .bsl r off len _ _ =>
      match ls.und with
      | .slice e => match isU8 (E.lay e) with
        | true => derefK σ (.ptr r off) fun cs => tst (Nat.ble len cs.length) (strOfK (cs.take len) fun l => K (.str l)) none
        | false => none
      | _ => none
    | _, _ => none

/-! ### memory -/
def fillAt (zero : List TV) (off : Nat) (cs : List TV) : List TV := zero.take off ++ cs ++ zero.drop (off + cs.length)

/-- The parts of a struct laid over its zero cells. -/
def buildK (place : Nat → Option (Nat × Nat)) : List (Nat × TV) → List TV → (List TV → Option R) → Option R
  | [], cs, K => K cs
  | (i, v) :: ps, cs, K =>
    match place i with
    | some (off, sz) => tst (v.known && Nat.beq v.cells.length sz && Nat.ble (off + sz) cs.length) (buildK place ps (fillAt cs off v.cells) K) none
    | none => none

def fldPlace (l : Lay) (i : Nat) : Option (Nat × Nat) := match l.flds[i]? with | some f => some (f.off, f.size) | none => none
def eltPlace (l : Lay) (i : Nat) : Option (Nat × Nat) := some (i * l.esz, l.esz)

def parts (E : Env) (fr : Tr TV) : List (Nat × Operand) → List (Nat × TV)
  | [] => []
  | (i, o) :: ps => (i, opd E fr o) :: parts E fr ps

def repl : Nat → List TV → List TV
  | 0, _ => []
  | n + 1, cs => cs ++ repl n cs

def storeK (E : Env) (σ : St) (t : TypeId) (p v : TV) (K : St → Option R) : Option R :=
  layK E t fun l =>
    match p with
    | .ptr r off =>
      match σ.ents[r]? with
      | some (.box ty cs) =>
        tst (Nat.beq v.cells.length l.size && Nat.ble (off + l.size) cs.length && oneL v.cells)
          (K { σ with ents := σ.ents.set r (.box ty (fillAt cs off v.cells)), esc := σ.esc || !Nat.ble (TV.refsL v.cells) (r + 1) }) none
      | _ => none
    | _ => none

def fieldAddrK (E : Env) (t : TypeId) (p : TV) (f : Nat) (K : TV → Option R) : Option R :=
  layK E t fun l =>
    match l.flds[f]? with
    | some f =>
      tst (Nat.beq f.size 0) none (
        match p with
        | .ptr r off => K (.ptr r (off + f.off))
        | .view w cs => tst (Nat.ble f.off cs.length) (K (.view w (cs.drop f.off))) none
        | _ => none)
    | none => none

def fieldK (E : Env) (t : TypeId) (x : TV) (f : Nat) (K : TV → Option R) : Option R :=
  layK E t fun l =>
    match l.flds[f]?, x with
    | some f, .agg cs => partK f.ag f.size (cs.drop f.off) K
    | _, _ => none

/-- An element of a list. -/
def atK (es : List TV) (i : Nat) (K : TV → Option R) : Option R :=
  match es[i]? with | some e => K e | none => none

def indexAddrK (E : Env) (σ : St) (t : TypeId) (x i : TV) (K : TV → Option R) : Option R :=
  layK E t fun l =>
    match i with
    | .int _ i =>
      match l.und with
      | .slice _ =>
        match x with
        | .slice o es => tst (decide (0 ≤ i ∧ i < es.length)) (ownK σ o (atK es i.toNat fun e => tst (Nat.beq e.cells.length l.esz) (K (.view o e.cells)) none)) none
        | .bsl r off len sz _ => tst (decide (0 ≤ i ∧ i < len) && Nat.beq sz l.esz) (K (.ptr r (off + i.toNat * sz))) none
        | _ => none
      | .array n _ =>
        tst (decide (0 ≤ i ∧ i < n)) (
          match x with
          | .ptr r off => K (.ptr r (off + i.toNat * l.esz))
          | .view w cs => tst (Nat.ble (i.toNat * l.esz) cs.length) (K (.view w (cs.drop (i.toNat * l.esz)))) none
          | _ => none) none
      | _ => none
    | _ => none

def indexK (E : Env) (t : TypeId) (x i : TV) (K : TV → Option R) : Option R :=
  layK E t fun l =>
    match i with
    | .int _ i =>
      match l.und, x with
      | .string, .str s => tst (decide (0 ≤ i ∧ i < s.length)) (match s[i.toNat]? with | some b => K (.int .u8 b.toNat) | none => none) none
      | .array n _, .agg cs => tst (decide (0 ≤ i ∧ i < n)) (partK l.eagg l.esz (cs.drop (i.toNat * l.esz)) K) none
      | _, _ => none
    | _ => none

/-- A bound of a slice, or what stands for it. -/
def boundK (x : Option TV) (d : Nat) (y : Nat) (K : Nat → Option R) : Option R :=
  match x with
  | none => K d
  | some (.int _ i) => tst (decide (0 ≤ i ∧ i ≤ y)) (K i.toNat) none
  | _ => none

/-- 's[lo:hi]': 'hi' at most the length. -/
def cutK (σ : St) (o : Own) (es : List TV) (lo hi : Nat) (mx : Bool) (K : TV → St → Option R) : Option R :=
  match o with
  | .tk id ver => curK σ id ver fun pin sz =>
      match mx with
      | true => match pin with
        | true => K (.slice .ex ((es.take hi).drop lo)) σ
        | false => none
      | false =>
        tst (Nat.beq hi es.length) (K (.slice o ((es.take hi).drop lo)) σ) (
          match pin with
          | true => K (.slice .sh ((es.take hi).drop lo)) σ
          | false => K (.slice (.tk id (ver + 1)) ((es.take hi).drop lo)) (σ.put id (.tok (ver + 1) false sz)))
  | .sh => K (.slice .sh ((es.take hi).drop lo)) σ
  | .ex => match mx with
    | true => K (.slice .ex ((es.take hi).drop lo)) σ
    | false => tst (Nat.beq hi es.length) (K (.slice .ex ((es.take hi).drop lo)) σ) (K (.slice .sh ((es.take hi).drop lo)) σ)

/-- the first element's size (all are alike) -/
def headSz (sz : Nat) : List TV → Bool
  | [] => true
  | e :: _ => Nat.beq e.cells.length sz

def sliceK (E : Env) (σ : St) (t : TypeId) (x : TV) (lo hi mx : Option TV) (K : TV → St → Option R) : Option R :=
  layK E t fun l =>
    match l.und, x with
    | .string, .str s =>
      match mx with
      | some _ => none
      | none => boundK hi s.length s.length fun h => boundK lo 0 h fun l => K (.str ((s.take h).drop l)) σ
    | .slice _, .slice o es =>
      tst (headSz l.esz es) (
        match mx with
        | none => boundK hi es.length es.length fun h => boundK lo 0 h fun a => cutK σ o es a h false K
        | some m => tst hi.isSome (boundK hi es.length es.length fun h => boundK (some m) 0 es.length fun m => tst (Nat.beq h m) (boundK lo 0 h fun a => cutK σ o es a h true K) none) none) none
    | .slice _, .bsl r off len sz ag =>
      tst (Nat.beq sz l.esz) (
        match mx with
        | none => boundK hi len len fun h => boundK lo 0 h fun a => K (.bsl r (off + a * sz) (h - a) sz ag) σ
        | some m => tst hi.isSome (boundK hi len len fun h => boundK (some m) 0 len fun m => tst (Nat.ble h m) (boundK lo 0 h fun a => K (.bsl r (off + a * sz) (h - a) sz ag) σ) none) none) none
    | .array n _, .view .sh cs =>
      match mx with
      | none => boundK hi n n fun h => boundK lo 0 h fun a =>
          tst (fitK l.eagg (a * l.esz) (h - a) l.esz cs) (K (.slice .sh (chunks l.eagg l.esz (h - a) (cs.drop (a * l.esz)))) σ) none
      | some _ => none
    | _, _ => none

def lenK (E : Env) (σ : St) (t : TypeId) (x : TV) (K : TV → Option R) : Option R :=
  layK E t fun l =>
    match l.und, x with
    | .string, .str s => K (.int .i64 s.length)
    | .slice _, .slice _ es => K (.int .i64 es.length)
    | .slice _, .bsl _ _ len _ _ => K (.int .i64 len)
    | .array n _, _ => K (.int .i64 n)
    | .map _ _, .nilm => K (.int .i64 0)
    | .map _ _, .map r => match σ.ents[r]? with | some (.map _ es) => K (.int .i64 es.length) | _ => none
    | _, _ => none

/-- what may be appended, as elements -/
def appendedK (l : Lay) (σ : St) (x : TV) (K : List TV → Option R) : Option R :=
  match x with
  | .slice o es => ownK σ o (K es)
  | .str s => tst (Nat.beq l.esz 1) (K (bytesOf s)) none
  | .bsl r off len sz ag => tst (Nat.beq sz l.esz) (derefK σ (.ptr r off) fun cs => tst (fitK ag 0 len sz cs) (K (chunks ag sz len cs)) none) none
  | _ => none

/-- elements of this size, without references -/
def sizedL (ag : Bool) (sz : Nat) : List TV → Bool
  | [] => true
  | e :: es => (match ag, e with | true, .agg cs => Nat.beq cs.length sz && oneL cs && TV.flatL cs | true, _ => false | false, e => Nat.beq sz 1 && e.one && e.flat) && sizedL ag sz es

def isData : TypeDesc → Bool
  | .slice _ | .string => true
  | _ => false

def appendK (E : Env) (σ : St) (t t2 : TypeId) (s x : TV) (K : TV → St → Option R) : Option R :=
  layK E t fun l => layK E t2 fun l2 =>
    match l.und, s with
    | .slice _, .slice o es =>
      tst (isData l2.und && l.ezero.known && Nat.beq l.ezero.cells.length l.esz) (
      appendedK l σ x fun xs =>
        tst (Nat.beq xs.length 0) (K (.slice o es) σ) (
          tst (Nat.ble ((es.length + xs.length) * l.ebytes) 140737488355328 && Nat.ble (es.length + xs.length) 140737488355328 && headSz l.esz xs && headSz l.esz es) (
            match o with
            | .tk id ver => curK σ id ver fun pin sz => tst (Nat.beq sz l.esz && !Nat.beq sz 0) (K (.slice (.tk id (ver + 1)) (es ++ xs)) (σ.put id (.tok (ver + 1) pin sz))) none
            | .ex => K (.slice (.tk σ.ents.length 0) (es ++ xs)) (σ.add (.tok 0 false l.esz))
            | .sh => none) none)) none
    | _, _ => none

def makeSliceK (E : Env) (σ : St) (t : TypeId) (n c : TV) (K : TV → St → Option R) : Option R :=
  layK E t fun l =>
    match l.und, n, c with
    | .slice _, .int .i64 n, .int .i64 c =>
      tst (decide (0 ≤ n ∧ n ≤ c ∧ c * l.ebytes ≤ 281474976710656 ∧ c ≤ 281474976710656) && l.ezero.known && Nat.beq l.ezero.cells.length l.esz) (
        tst (decide (n = 0)) (K (.slice (.tk σ.ents.length 0) []) (σ.add (.tok 0 false l.esz)))
          (tst (decide (n = c)) (K (.bsl σ.ents.length 0 n.toNat l.esz l.eagg) (σ.add (.box l.elt (repl n.toNat l.ezero.cells)))) none)) none
    | _, _, _ => none

def copyK (E : Env) (σ : St) (t : TypeId) (d s : TV) (K : TV → St → Option R) : Option R :=
  layK E t fun l => tst (match l.und with | .slice _ => true | _ => false) (
    match d with
    | .bsl r off len sz _ =>
      appendedK l σ s fun xs =>
        match σ.ents[r]? with
        | some (.box ty cs) =>
          tst (Nat.beq sz 1 && Nat.beq l.esz 1 && Nat.ble (off + len) cs.length && oneL xs && TV.flatL xs) (
            K (.int .i64 ((min xs.length len : Nat) : Int)) (σ.put r (.box ty (fillAt cs off (xs.take (min xs.length len)))))) none
        | _ => none
    | .slice _ [] => appendedK l σ s fun xs => tst (headSz l.esz xs) (K (.int .i64 0) σ) none
    | _ => none) none

/-! ### maps -/
/-- are two keys the same? -/
def keyEq (E : Env) (lk : Option Lay) (a b : TV) : Option Bool :=
  match lk with
  | some l =>
    match l.und, a, b with
    | .string, .str x, .str y => some (x == y)
    | .struct _, .agg xs, .agg ys => match l.feq with | true => eqFlds E 4 l.flds xs ys | false => none
    | _, _, _ => none
  | none => none

/-- Where a key stands; what cannot be compared ends it. -/
def findKey (E : Env) (lk : Option Lay) (k : TV) : List (TV × TV) → Nat → Option (Option Nat)
  | [], _ => some none
  | (j, _) :: r, i =>
    match keyEq E lk k j with
    | some true => some (some i)
    | some false => findKey E lk k r (i + 1)
    | none => none

/-- a door, so that a proof may say what it is -/
def keyK (E : Env) (lk : Option Lay) (k : TV) (es : List (TV × TV)) (yes : Nat → Option R) (no : Option R) : Option R :=
  match findKey E lk k es 0 with
  | some (some i) => yes i
  | some none => no
  | none => none

/-- a key that may be asked for -/
def keyFit (E : Env) (lk : Option Lay) (k : TV) : Bool :=
  match lk with
  | some l =>
    match l.und, k with
    | .string, .str _ => true
    | .struct _, .agg xs => l.feq && TV.flatL xs && (eqFlds E 4 l.flds xs xs).isSome
    | _, _ => false
  | none => false

def sameCell : TV → TV → Bool
  | .bool a, .bool b => a == b
  | .int i a, .int j b => decide (i = j) && decide (a = b)
  | .str a, .str b => a == b
  | _, _ => false
def sameCells : List TV → List TV → Bool
  | [], [] => true
  | a :: as, b :: bs => sameCell a b && sameCells as bs
  | _, _ => false
/-- Is the key that was there, that was found equal, the very same? -/
def sameKey : TV → TV → Bool
  | .str a, .str b => a == b
  | .agg xs, .agg ys => sameCells xs ys
  | _, _ => false
def keyAtK (es : List (TV × TV)) (i : Nat) (k : TV) (K : TV → Option R) : Option R :=
  match es[i]? with | some (j, v) => tst (sameKey j k) (K v) none | none => none

def isMapD : TypeDesc → Bool
  | .map _ _ => true
  | _ => false

def valAtK (es : List (TV × TV)) (i : Nat) (K : TV → Option R) : Option R :=
  match es[i]? with | some (_, v) => K v | none => none

def mapK (σ : St) (m : TV) (K : Nat → TypeId → List (TV × TV) → Option R) : Option R :=
  match m with
  | .map r => match σ.ents[r]? with | some (.map t es) => K r t es | _ => none
  | _ => none

def lookupK (E : Env) (σ : St) (t : TypeId) (m k : TV) (ok : Bool) (K : TV → Option R) : Option R :=
  layK E t fun l =>
    tst (isMapD l.und && keyFit E (E.lay l.key) k && l.ezero.known) (
      match m with
      | .nilm => match ok with | true => K (.tuple [l.ezero, .bool false]) | false => K l.ezero
      | m => mapK σ m fun _ _ es =>
        keyK E (E.lay l.key) k es (fun i => valAtK es i fun v => match ok with | true => K (.tuple [v, .bool true]) | false => K v)
          (match ok with | true => K (.tuple [l.ezero, .bool false]) | false => K l.ezero)) none

def escOf (σ : St) (r : Nat) (v : TV) : Bool := σ.esc || !Nat.ble v.refs r

def mapUpdateK (E : Env) (σ : St) (t : TypeId) (m k v : TV) (K : St → Option R) : Option R :=
  layK E t fun l =>
    tst (isMapD l.und && keyFit E (E.lay l.key) k && l.ezero.known) (
      freezeK v σ fun v σ => mapK σ m fun r t es =>
        keyK E (E.lay l.key) k es (fun i => keyAtK es i k fun _ => K { σ with ents := σ.ents.set r (.map t (es.set i (k, v))), esc := escOf σ r v })
          (K { σ with ents := σ.ents.set r (.map t (es ++ [(k, v)])), esc := escOf σ r v })) none

def makeMapK (E : Env) (σ : St) (t : TypeId) (r : Option TV) (K : TV → St → Option R) : Option R :=
  match r with
  | none => K (.map σ.ents.length) (σ.add (.map t []))
  | some (.int _ _) => layK E t fun l => tst (isMapD l.und) (K (.map σ.ents.length) (σ.add (.map t []))) none
  | _ => none

def mapEntryK (E : Env) (σ : St) (t : TypeId) (m k : TV) (K : TV → St → Option R) : Option R :=
  layK E t fun l =>
    tst (isMapD l.und && keyFit E (E.lay l.key) k && l.ezero.known) (
      mapK σ m fun r t es =>
        keyK E (E.lay l.key) k es (fun i => keyAtK es i k fun v => K (.tuple [v, .int .i64 i]) { σ with ents := σ.ents.set r (.map t (es.set i (k, v))) })
          (K (.tuple [l.ezero, .int .i64 es.length]) { σ with ents := σ.ents.set r (.map t (es ++ [(k, l.ezero)])) })) none

def entryStoreK (σ : St) (m st v : TV) (K : St → Option R) : Option R :=
  match st with
  | .int _ i =>
    tst (decide (0 ≤ i)) (
      freezeK v σ fun v σ => mapK σ m fun r t es =>
        match es[i.toNat]? with
        | some (k, _) => K { σ with ents := σ.ents.set r (.map t (es.set i.toNat (k, v))), esc := escOf σ r v }
        | none => none) none
  | _ => none

def maxK (op : Bool) (x y : TV) (K : TV → Option R) : Option R :=
  match x, y with
  | .int k a, .int j b => match decide (k = j) with
    | true => K (.int k (match op with | true => max a b | false => min a b))
    | false => none
  | _, _ => none
end
end Go.Tv

/- The evaluator over tree values: calls, regions, code, runs. -/
namespace Go.Tv
open Go

/-! ## equal values -/
def Own.beq : Own → Own → Bool
  | .sh, .sh | .ex, .ex => true
  | .tk a b, .tk c d => Nat.beq a c && Nat.beq b d
  | _, _ => false
mutual
def TV.beq : TV → TV → Bool
  | .undef, .undef | .nilp, .nilp | .nilm, .nilm | .nilf, .nilf | .nili, .nili => true
  | .bool a, .bool b => a == b
  | .int j a, .int k b => decide (j = k) && decide (a = b)
  | .str a, .str b => a == b
  | .ptr a b, .ptr c d => Nat.beq a c && Nat.beq b d
  | .view o as, .view p bs => o.beq p && TV.beqL as bs
  | .slice o as, .slice p bs => o.beq p && TV.beqL as bs
  | .bsl a b c d e, .bsl a' b' c' d' e' => Nat.beq a a' && Nat.beq b b' && Nat.beq c c' && Nat.beq d d' && e == e'
  | .map a, .map b => Nat.beq a b
  | .func f as bs, .func g cs ds => decide (f = g) && TV.beqL as cs && TV.beqL bs ds
  | .iface t a, .iface u b => Nat.beq t u && a.beq b
  | .agg as, .agg bs => TV.beqL as bs
  | .tuple as, .tuple bs => TV.beqL as bs
  | _, _ => false
def TV.beqL : List TV → List TV → Bool
  | [], [] => true
  | a :: as, b :: bs => a.beq b && TV.beqL as bs
  | _, _ => false
end

section
variable {R : Type}

def bindR (q : Option Ans) (K : Ans → Option R) : Option R := match q with | some a => K a | none => none

def extK (q : Option (TV × St)) (K : TV → St → Option R) : Option R := match q with | some (v, σ) => K v σ | none => none

/-- A library function that leaves the state alone. -/
def pextK (q : Option TV) (σ : St) (K : TV → St → Option R) : Option R :=
  match q with
  | some v => K v σ
  | none => none

/-- A call of a function by its number; its arguments are kept. -/
def enterK (E : Env) (rec : Rec) (f : FuncId) (args : List TV) (σ : St) (K KP : TV → St → Option R) : Option R :=
  match E.pext f with
  | some g => pextK (g args) σ K
  | none => match E.ext f with
  | some g => extK (g args σ) K
  | none =>
    freezeLK args σ fun args σ =>
      match E.iso f with
      | true => tst (TV.flatL args)
          (bindR (rec (.call f args ⟨[], false, []⟩)) fun a =>
            match a.e, a.vs with
            | .ret, [v] => tst v.flat (K v σ) none
            | .pan v, _ => tst v.flat (KP v σ) none
            | _, _ => none) none
      | false =>
          bindR (rec (.call f args ⟨σ.ents, false, []⟩)) fun a =>
            match a.e, a.vs with
            | .ret, [v] => tst (!a.σ.esc && Nat.ble v.refs σ.ents.length)
                (K v ⟨a.σ.ents.take σ.ents.length, σ.esc, σ.defs⟩) (K v ⟨a.σ.ents, σ.esc || a.σ.esc, σ.defs⟩)
            | .pan v, _ => KP v ⟨a.σ.ents, σ.esc || a.σ.esc, σ.defs⟩
            | _, _ => none

def callK (E : Env) (rec : Rec) (fv : TV) (args : List TV) (σ : St) (K KP : TV → St → Option R) : Option R :=
  match fv with
  | .func (.func f) first captured => enterK E rec f (first ++ args ++ captured) σ K KP
  | .func (.yield r) [] [] =>
    bindR (rec (.round r args { σ with defs := [] })) fun a =>
      match a.e, a.vs with
      | .ret, [v] => K v { a.σ with defs := σ.defs }
      | .pan v, _ => KP v { a.σ with defs := σ.defs }
      | _, _ => none
  | _ => none

def optOpd (E : Env) (fr : Tr TV) : Option Operand → Option TV
  | some o => some (opd E fr o)
  | none => none

/-- One operation. 'd': its region draws its order. -/
def evalOp (E : Env) (rec : Rec) (rd d : Bool) (o : Oper) (fr : Tr TV) (σ : St) (K KP : TV → St → Option R) : Option R :=
  match o.op with
  | .move x => seeK (opd E fr x) fun v => K v σ
  | .assign x => seeK (opd E fr x) fun v => K v σ
  | .pick c a b => match opd E fr c with
    | .bool t => tst t (seeK (opd E fr a) fun v => K v σ) (seeK (opd E fr b) fun v => K v σ)
    | _ => none
  | .alloc t => layK E t fun l => tst (l.zero.known && Nat.beq l.zero.cells.length l.size) (K (.ptr σ.ents.length 0) (σ.add (.box t l.zero.cells))) none
  | .box t x => seeK (opd E fr x) fun v => tst v.known (K (.ptr σ.ents.length 0) (σ.add (.box t v.cells))) none
  | .build t ps => layK E t fun l =>
    tst l.zero.known (match l.und with
    | .struct _ => buildK (fldPlace l) (parts E fr ps.toList) l.zero.cells fun cs => K (.agg cs) σ
    | .array _ _ => buildK (eltPlace l) (parts E fr ps.toList) l.zero.cells fun cs => K (.agg cs) σ
    | _ => none) none
  | .buildSlice t n ps => layK E t fun l =>
    match l.und with
    | .slice _ => tst (l.ezero.known && Nat.beq l.ezero.cells.length l.esz && Nat.ble (n * l.esz) 16777216)
      (buildK (eltPlace l) (parts E fr ps.toList) (repl n l.ezero.cells) fun cs =>
        match l.eflat with
        | true =>
          tst (fitK l.eagg 0 n l.esz cs) (K (.slice .ex (chunks l.eagg l.esz n cs)) σ) (
            match d with
            | true => none
            | false => freezeLK cs σ fun cs σ => tst (fitK l.eagg 0 n l.esz cs) (K (.slice .ex (chunks l.eagg l.esz n cs)) σ) none)
        | false => K (.bsl σ.ents.length 0 n l.esz l.eagg) (σ.add (.box l.elt cs))) none
    | _ => none
  | .load t a => loadK E σ t (opd E fr a) fun v => K v σ
  | .store t a x => storeK E σ t (opd E fr a) (opd E fr x) fun σ => K .undef σ
  | .nilCheck x => match opd E fr x with
    | .ptr r off => K (.ptr r off) σ
    | .view o cs => K (.view o cs) σ
    | .func (.func f) a b => K (.func (.func f) a b) σ
    | .iface t v => K (.iface t v) σ
    | _ => none
  | .binOp op t x y _ => binK E op t (opd E fr x) (opd E fr y) fun v => K v σ
  | .unOp op _ x => unK op (opd E fr x) fun v => K v σ
  | .convert s t x => convK E s t σ (opd E fr x) fun v => K v σ
  | .makeInterface t x => layK E t fun l => match l.und with
    | .interface _ => none
    | _ => seeK (opd E fr x) fun v => K (.iface t v) σ
  | .makeFunc fn a b => match fn with
    | .func f => K (.func (.func f) (opds E fr a.toList) (opds E fr b.toList)) σ
    | _ => none
  | .makeMap t r => makeMapK E σ t (optOpd E fr r) K
  | .makeSlice t n c => makeSliceK E σ t (opd E fr n) (opd E fr c) K
  | .slice t x lo hi mx => sliceK E σ t (opd E fr x) (optOpd E fr lo) (optOpd E fr hi) (optOpd E fr mx) K
  | .fieldAddr t x i => fieldAddrK E t (opd E fr x) i fun v => K v σ
  | .field t x i => fieldK E t (opd E fr x) i fun v => K v σ
  | .indexAddr t x i => indexAddrK E σ t (opd E fr x) (opd E fr i) fun v => K v σ
  | .index t x i => indexK E t (opd E fr x) (opd E fr i) fun v => K v σ
  | .lookup t m k ok => lookupK E σ t (opd E fr m) (opd E fr k) ok fun v => K v σ
  | .mapUpdate t m k x => mapUpdateK E σ t (opd E fr m) (opd E fr k) (opd E fr x) fun σ => K .undef σ
  | .mapEntry t m k => mapEntryK E σ t (opd E fr m) (opd E fr k) K
  | .entryStore _ m s x => entryStoreK σ (opd E fr m) (opd E fr s) (opd E fr x) fun σ => K .undef σ
  | .defer c => match rd, d, c.callee with
    | false, false, .value f => match opd E fr f with
      | .func (.func g) a b => freezeLK (a ++ opds E fr c.args.toList ++ b) σ fun vs σ => K .undef { σ with defs := .fn g vs :: σ.defs }
      | _ => none
    | _, _, _ => none
  | .extract x i => match opd E fr x with
    | .tuple vs => atK vs i fun v => K v σ
    | _ => none
  | .panic x => match opd E fr x with
    | .iface t v => KP (.iface t v) σ
    | _ => none
  | .call c =>
    match c.callee with
    | .value f => callK E rec (opd E fr f) (opds E fr c.args.toList) σ K KP
    | .builtin b =>
      match b, opds E fr c.args.toList, c.argTypes.toList with
      | .len, [x], [t] => lenK E σ t x fun v => K v σ
      | .append, [s, x], [t, t2] => appendK E σ t t2 s x K
      | .copy, [a, b], t :: _ => copyK E σ t a b K
      | .max, [x, y], _ => maxK true x y fun v => K v σ
      | .min, [x, y], _ => maxK false x y fun v => K v σ
      | _, _, _ => none
    | _ => none
  | _ => none

def putT (fr : Tr TV) (dst : Option Tmp) (v : TV) : Tr TV := match dst with | some d => fr.set 12 d v | none => fr

def yieldT (ops : Array Oper) (fr : Tr TV) (j : Nat) : TV :=
  match ops[j]? with
  | some o => match o.dst with | some d => (fr.get d).getD .undef | none => .undef
  | none => .undef

/-- Is it wanted? -/
def wantK (ops : Array Oper) (o : Oper) (fr : Tr TV) (yes no : Option R) : Option R :=
  match o.guard with
  | none => yes
  | some (j, want) => match yieldT ops fr j with
    | .bool b => match want with | true => tst b yes no | false => tst b no yes
    | .tuple [] => no
    | _ => none

def evalOps (E : Env) (rec : Rec) (rd : Bool) (ops : Array Oper) : List Oper → Tr TV → St → (Tr TV → St → Option R) → (TV → Tr TV → St → Option R) → Option R
  | [], fr, σ, K, _ => K fr σ
  | o :: os, fr, σ, K, KP =>
    wantK ops o fr
      (evalOp E rec rd false o fr σ (fun v σ => evalOps E rec rd ops os (putT fr o.dst v) σ K KP) (fun v σ => KP v fr σ))
      (evalOps E rec rd ops os (putT fr o.dst (.tuple [])) σ K KP)

/-! ### regions that draw -/
inductive Kd where | q | l | w

def kdSlice : Option Lay → Kd
  | some l => match l.eflat with | true => .q | false => .w
  | none => .w

def kdOf (E : Env) (o : Oper) : Kd :=
  match o.op with
  | .buildSlice t _ _ => kdSlice (E.lay t)
  | .move _ | .assign _ | .pick _ _ _ | .build _ _ | .nilCheck _ | .binOp _ _ _ _ _ | .unOp _ _ _ | .makeInterface _ _
  | .makeFunc _ _ _ | .fieldAddr _ _ _ | .field _ _ _ | .index _ _ _ | .extract _ _ => .q
  | .load _ _ | .indexAddr _ _ _ | .convert _ _ _ | .lookup _ _ _ _ => .l
  | .call c => match c.callee with
    | .value (.func f) => match E.pext f with | some _ => .q | none => match E.iso f, E.ext f with | true, none => .q | _, _ => .w
    | .builtin .max | .builtin .min => .q
    | .builtin .len => .l
    | _ => .w
  | _ => .w

def opRun (E : Env) (rec : Rec) (rd : Bool) (o : Oper) (fr : Tr TV) (σ : St) : Option Ans :=
  evalOp E rec rd true o fr σ (fun v σ => some ⟨.ret, [v], σ⟩) (fun _ _ => none)
/-- what an operation has given -/
def givenK {R : Type} (q : Option Ans) (K : TV → St → Option R) : Option R :=
  match q with
  | some ⟨.ret, [v], σ⟩ => K v σ
  | _ => none

def sameRun (E : Env) (rec : Rec) (rd : Bool) (o : Oper) (fr : Tr TV) (σ : St) (v : TV) : Bool :=
  match opRun E rec rd o fr σ with | some ⟨.ret, [u], _⟩ => u.beq v | _ => false

def chkW (E : Env) (rec : Rec) (rd : Bool) (m : Nat) (o : Oper) (fr : Tr TV) (v : TV) : List (Nat × St) → Bool
  | [] => true
  | (j, σ) :: ws => (m.testBit j || sameRun E rec rd o fr σ v) && chkW E rec rd m o fr v ws
def chkL (E : Env) (rec : Rec) (rd : Bool) (m : Nat) (σ : St) : List (Nat × Oper × Tr TV × TV) → Bool
  | [] => true
  | (j, o, fr, v) :: ls => (m.testBit j || sameRun E rec rd o fr σ v) && chkL E rec rd m σ ls

/-- What stands ahead of each operation, as bits. -/
def maskOf (ms : List Nat) : List Edge → Nat
  | [] => 0
  | e :: es => bif Region.binds .any e then (1 <<< e.on) ||| ms.getD e.on 0 ||| maskOf ms es else maskOf ms es
def masks : List Oper → List Nat → List Nat
  | [], ms => ms
  | o :: os, ms => masks os (ms ++ [maskOf ms o.after.toList])

/-- Does the operation not look at the state? -/
def drawFlat (E : Env) (o : Oper) (fr : Tr TV) : Bool :=
  match o.op with
  | .call c => match c.callee with
    | .value _ => TV.flatL (opds E fr c.args.toList)
    | _ => true
  | _ => true

def evalDraw (E : Env) (rec : Rec) (rd : Bool) (ops : Array Oper) (ms : List Nat) : Nat → List Oper → Tr TV → St → List (Nat × Oper × Tr TV × TV) → List (Nat × St) → (Tr TV → St → Option R) → Option R
  | _, [], fr, σ, _, _, K => K fr σ
  | i, o :: os, fr, σ, ls, ws, K =>
    wantK ops o fr
      (givenK (opRun E rec rd o fr σ) fun v σ' =>
        match kdOf E o with
        | .q => tst (drawFlat E o fr) (evalDraw E rec rd ops ms (i + 1) os (putT fr o.dst v) σ ls ws K) none
        | .l => tst (chkW E rec rd (ms.getD i 0) o fr v ws) (evalDraw E rec rd ops ms (i + 1) os (putT fr o.dst v) σ ((i, o, fr, v) :: ls) ws K) none
        | .w => tst (chkL E rec rd (ms.getD i 0) σ' ls) (evalDraw E rec rd ops ms (i + 1) os (putT fr o.dst v) σ' ls ((i, σ) :: ws) K) none)
      (evalDraw E rec rd ops ms (i + 1) os (putT fr o.dst (.tuple [])) σ ls ws K)

/-! ### code -/
def firstId : Code → Option Nat
  | .region id _ _ => some id
  | .seq a b => match firstId a with | some i => some i | none => firstId b
  | .cond _ a b => match firstId a with | some i => some i | none => firstId b
  | .block _ b => firstId b
  | .loop b => firstId b
  | .scope b => firstId b
  | _ => none

def findLoop (id : Nat) : Code → Option Code
  | .loop b => match firstId b with
    | some i => match Nat.beq i id with | true => some b | false => findLoop id b
    | none => findLoop id b
  | .seq a b => match findLoop id a with | some c => some c | none => findLoop id b
  | .cond _ a b => match findLoop id a with | some c => some c | none => findLoop id b
  | .block _ b => findLoop id b
  | .rangeFunc _ _ a b => match findLoop id a with | some c => some c | none => findLoop id b
  | .scope b => findLoop id b
  | _ => none

def findRange (id : Nat) : Code → Option (Array Tmp × Code × Code)
  | .rangeFunc _ ps as b => match (match firstId b with | some i => Nat.beq i id | none => false) with
    | true => some (ps, as, b)
    | false => match findRange id as with | some c => some c | none => findRange id b
  | .loop b => findRange id b
  | .seq a b => match findRange id a with | some c => some c | none => findRange id b
  | .cond _ a b => match findRange id a with | some c => some c | none => findRange id b
  | .block _ b => findRange id b
  | .scope b => findRange id b
  | _ => none

def gets (fr : Tr TV) : List Nat → List TV
  | [] => []
  | t :: ts => (fr.get t).getD .undef :: gets fr ts
def ofSlots : List Nat → List TV → Tr TV → Tr TV
  | t :: ts, v :: vs, fr => ofSlots ts vs (fr.set 12 t v)
  | _, _, fr => fr

/-- A range over a function begins. -/
def rangeK (σ : St) (rd : Bool) (f id : Nat) (vs : List TV) (K : Nat → St → Option R) : Option R :=
  match rd with
  | true => none
  | false => K (σ.ents.length + 1) { σ with ents := σ.ents ++ [.dfr, .rl f id vs 0 none], defs := .mark σ.ents.length :: σ.defs }

def evalCode (E : Env) (rec : Rec) (rd : Bool) (f : FuncId) : Code → Tr TV → St → (TE → Tr TV → St → Option R) → Option R
  | .skip, fr, σ, K => K .normal fr σ
  | .label _, fr, σ, K => K .normal fr σ
  | .region id ops draw, fr, σ, K =>
    match draw with
    | false => evalOps E rec rd ops ops.toList fr σ (fun fr σ => K .normal fr σ) (fun v fr σ => K (.pan v) fr σ)
    | true => match E.bad f id with
      | true => none
      | false => evalDraw E rec rd ops (masks ops.toList []) 0 ops.toList fr σ [] [] (fun fr σ => K .normal fr σ)
  | .seq a b, fr, σ, K => evalCode E rec rd f a fr σ fun e fr σ => match e with
    | .normal => evalCode E rec rd f b fr σ K
    | e => K e fr σ
  | .cond c a b, fr, σ, K => match opd E fr c with
    | .bool t => tst t (evalCode E rec rd f a fr σ K) (evalCode E rec rd f b fr σ K)
    | _ => none
  | .block id b, fr, σ, K => evalCode E rec rd f b fr σ fun e fr σ => match e with
    | .exit i => match Nat.beq i id with | true => K .normal fr σ | false => K (.exit i) fr σ
    | e => K e fr σ
  | .scope b, fr, σ, K => evalCode E rec rd f b fr σ K
  | .loop b, fr, σ, K => match firstId b with
    | some id => match E.live f id with
      | some (ins, outs) => bindR (rec (.loop rd f id (gets fr ins) σ)) fun a => K a.e (ofSlots outs a.vs .nil) a.σ
      | none => none
    | none => none
  | .rangeFunc fo _ _ b, fr, σ, K => match firstId b with
    | some id => match E.live f id with
      | some (ins, _) =>
        rangeK σ rd f id (gets fr ins) fun r σ₁ =>
          match opd E fr fo with
          | .func (.func g) x y =>
            freezeLK (x ++ [.func (.yield r) [] []] ++ y) σ₁ fun args σ₂ =>
              bindR (rec (.call g args ⟨σ₂.ents, false, []⟩)) fun ans =>
                match ans.e, ans.vs with
                | .ret, [_] =>
                  match ans.σ.ents[r]? with
                  | some (.rl _ _ _ 0 _) => K .normal fr ⟨ans.σ.ents.set r .dead, σ₂.esc || ans.σ.esc, σ₂.defs⟩
                  | some (.rl _ _ _ 2 (some i)) => K (.exit i) fr ⟨ans.σ.ents.set r .dead, σ₂.esc || ans.σ.esc, σ₂.defs⟩
                  | some (.rl _ _ _ 2 none) => K .ret fr ⟨ans.σ.ents.set r .dead, σ₂.esc || ans.σ.esc, σ₂.defs⟩
                  | _ => none
                | _, _ => none
          | _ => none
      | none => none
    | none => none
  | .exit id, fr, σ, K => K (.exit id) fr σ
  | .ret, fr, σ, K => K .ret fr σ
  | _, _, _, _ => none

def resultsK (E : Env) (fr : Tr TV) (σ : St) : List ResultVar → (List TV → Option R) → Option R
  | [], K => K []
  | .tmp t :: rs, K => seeK ((fr.get t).getD .undef) fun v => resultsK E fr σ rs fun vs => K (v :: vs)
  | .cell a t :: rs, K => loadK E σ t ((fr.get a).getD .undef) fun v => resultsK E fr σ rs fun vs => K (v :: vs)

def tupleOf : List TV → TV
  | [v] => v
  | vs => .tuple vs
end

def argSlots : Nat → List TV → Tr TV → Tr TV
  | _, [], fr => fr
  | i, v :: vs, fr => argSlots (i + 1) vs (fr.set 12 i v)

/-- The deferred calls, the last laid first. -/
def leaveK {R : Type} (E : Env) (rec : Rec) : List Dfr → St → (St → Option R) → Option R
  | [], σ, K => K σ
  | .mark r :: ds, σ, K => match σ.ents[r]? with
    | some .dfr => leaveK E rec ds (σ.put r .dead) K
    | _ => none
  | .fn f args :: ds, σ, K => bindR (rec (.dcall f args ⟨σ.ents, false, []⟩)) fun a =>
      match a.e with
      | .ret => leaveK E rec ds ⟨a.σ.ents, σ.esc || a.σ.esc, σ.defs⟩ K
      | _ => none

def finK {R : Type} (E : Env) (rec : Rec) (σ : St) (K : St → Option R) : Option R :=
  leaveK E rec σ.defs { σ with defs := [] } K

def stepR (E : Env) (rec : Rec) : Rec
  | .call f args σ =>
    match E.code f with
    | some fn =>
      match fn.body with
      | some c =>
        evalCode E rec false f c (argSlots 0 args .nil) σ fun e fr σ =>
          match e with
          | .ret | .normal => finK E rec σ fun σ => resultsK E fr σ fn.results.toList fun vs => freezeK (tupleOf vs) σ fun v σ => some ⟨.ret, [v], σ⟩
          | .pan v => match σ.defs with | [] => some ⟨.pan v, [], σ⟩ | _ => none
          | _ => none
      | none => none
    | none => none
  | .dcall f args σ =>
    match E.code f with
    | some fn =>
      match fn.body with
      | some c =>
        evalCode E rec false f c (argSlots 0 args .nil) σ fun e fr σ =>
          match σ.defs with
          | [] => match e with
            | .ret | .normal => resultsK E fr σ fn.results.toList fun vs => freezeK (tupleOf vs) σ fun v σ => some ⟨.ret, [v], σ⟩
            | _ => none
          | _ => none
      | none => none
    | none => none
  | .loop rd f id vs σ =>
    match E.code f, E.live f id with
    | some fn, some (ins, outs) =>
      match fn.body with
      | some c =>
        match findLoop id c with
        | some b => evalCode E rec rd f b (ofSlots ins vs .nil) σ fun e fr σ =>
          match e with
          | .normal => rec (.loop rd f id (gets fr ins) σ)
          | e => some ⟨e, gets fr outs, σ⟩
        | none => none
      | none => none
    | _, _ => none

  | .round r args σ =>
    match σ.ents[r]? with
    | some (.rl f id vals st _) =>
      match E.code f, E.live f id with
      | some fn, some (ins, _) =>
        match fn.body with
        | some c =>
          match findRange id c with
          | some (ps, as, b) =>
            tst (Nat.beq st 0 && Nat.beq ps.size args.length)
              (evalCode E rec true f as (ofSlots ps.toList args (ofSlots ins vals .nil)) σ fun e fr σ =>
                match e with
                | .normal =>
                  match σ.ents[r]? with
                  | some (.rl f₁ id₁ vals₁ 0 _) =>
                    evalCode E rec true f b fr (σ.put r (.rl f₁ id₁ vals₁ 1 none)) fun e _ σ =>
                      match σ.ents[r]? with
                      | some (.rl f₂ id₂ vals₂ 1 _) =>
                        match e with
                        | .normal => some ⟨.ret, [.bool true], σ.put r (.rl f₂ id₂ vals₂ 0 none)⟩
                        | .exit i => some ⟨.ret, [.bool false], σ.put r (.rl f₂ id₂ vals₂ 2 (some i))⟩
                        | .ret => some ⟨.ret, [.bool false], σ.put r (.rl f₂ id₂ vals₂ 2 none)⟩
                        | .pan _ => none
                      | _ => none
                  | _ => none
                | _ => none) none
          | none => none
        | none => none
      | _, _ => none
    | _ => none

def run (E : Env) : Nat → Rec
  | 0 => fun _ => none
  | k + 1 => stepR E (run E k)
end Go.Tv

/- How tree values stand for what lies in memory. -/
namespace Go.Tv
open Go Go.RowKit

structure Ctx where
  w : World
  ents : List Ent
  loc : Nat → Nat
  fz : Nat → Nat
  fe : Nat → Nat
  base : Nat

namespace Ctx
def tok (C : Ctx) (id ver : Nat) (pin : Bool) (sz : Nat) : Prop := C.ents[id]? = some (.tok ver pin sz)
/-- no later version than the token's own -/
def past (C : Ctx) (id ver : Nat) : Prop := ∃ v p s, C.tok id v p s ∧ ver ≤ v
def cur (C : Ctx) : Own → Prop
  | .tk id ver => ∃ pin sz, C.tok id ver pin sz
  | _ => True
/-- the cells of block b below e: a value that is owned so may lean on them -/
def held (C : Ctx) (o : Own) (b e : Nat) : Prop :=
  match o with
  | .tk id ver => C.past id ver ∧ ∀ pin sz, C.tok id ver pin sz → b = C.loc id ∧ e ≤ C.fe id ∧ (pin = true → e ≤ C.fz b)
  | _ => e ≤ C.fz b
def room (C : Ctx) (b n : Nat) : Prop := ∃ arr ty fr, C.w.heap[b]? = some (.cells arr ty fr) ∧ n ≤ arr.size
def plain (C : Ctx) (r : Nat) : Prop := r < C.ents.length ∧ ∀ v p s, ¬ C.tok r v p s
end Ctx

def fnTo (C : Ctx) : Fn → Fn
  | .yield r => .yield (C.loc r)
  | f => f
def fnOk (C : Ctx) : Fn → Prop
  | .yield r => C.plain r
  | _ => True

structure SlAt (C : Ctx) (o : Own) (a : Option Addr) (len cap sz : Nat) : Prop where
  none : a = none → cap = 0
  some : ∀ ad, a = some ad → ad.spot = .none ∧ (len ≠ 0 → C.held o ad.block (ad.off + len * sz))
  ex : o = .ex → cap = len ∧ (len ≠ 0 → ∀ ad, a = .some ad → C.base ≤ ad.block)
  tk : ∀ id ver, o = .tk id ver → C.past id ver ∧ ∀ pin s, C.tok id ver pin s → (len ≠ 0 → sz = s) ∧ ∃ ad, a = .some ad ∧ ad.block = C.loc id ∧ (len < cap → ad.off + len * s = C.fe id) ∧ C.room ad.block (ad.off + cap * s)

mutual
/-- no slice here that may be appended to -/
def TV.noex : TV → Bool
  | .slice .ex (_ :: _) => false
  | .func _ a b => TV.noexL a && TV.noexL b
  | .iface _ v => v.noex
  | .agg cs => TV.noexL cs
  | .tuple cs => TV.noexL cs
  | _ => true
def TV.noexL : List TV → Bool
  | [] => true
  | v :: vs => v.noex && TV.noexL vs
end

/-- what may stand in memory that is read by value -/
def Bare (cs : List TV) : Prop := TV.refsL cs = 0 ∧ TV.noexL cs = true

inductive Rep (C : Ctx) : Value → TV → Prop where
  | undef (v : Value) : Rep C v .undef
  | bool (b : Bool) : Rep C (.bool b) (.bool b)
  | int (k : IntKind) (n : Int) : Rep C (.int k n) (.int k n)
  | str (l : List UInt8) : Rep C (.string ⟨⟨l⟩⟩) (.str l)
  | nilp : Rep C (.pointer none) .nilp
  | ptr {r off : Nat} : C.plain r → Rep C (.pointer (some ⟨C.loc r, off, none⟩)) (.ptr r off)
  | view {o : Own} {b off : Nat} {cs : List TV} (f : Nat → Value) : C.held o b (off + cs.length) → Bare cs →
      (C.cur o → ∀ j, j < cs.length → C.w.cell? ⟨b, off + j, none⟩ = some (f j)) → (∀ (j : Nat) (c : TV), cs[j]? = some c → Rep C (f j) c) →
      Rep C (.pointer (some ⟨b, off, none⟩)) (.view o cs)
  | slice {o : Own} {a : Option Addr} {len cap : Nat} {es : List TV} (sz : Nat) (f : Nat → Nat → Value) : len = es.length → len ≤ cap →
      (∀ e, e ∈ es → e.cells.length = sz ∧ Bare e.cells ∧ oneL e.cells = true) → SlAt C o a len cap sz →
      (∀ ad i j, a = some ad → C.cur o → i < len → j < sz → C.w.cell? ⟨ad.block, ad.off + (i * sz + j), none⟩ = some (f i j)) →
      (∀ (i j : Nat) (e c : TV), es[i]? = some e → e.cells[j]? = some c → Rep C (f i j) c) →
      Rep C (.slice a len cap) (.slice o es)
  | bsl {r off off' len sz cap : Nat} {ag : Bool} : C.plain r → len ≤ cap → (len ≠ 0 → off' = off) → Rep C (.slice (some ⟨C.loc r, off', none⟩) len cap) (.bsl r off len sz ag)
  | nilm : Rep C (.map none) .nilm
  | map {r : Nat} : C.plain r → Rep C (.map (some (C.loc r))) (.map r)
  | func {fn : Fn} {x y : Array Value} {a b : List TV} : fnOk C fn → x.toList.length = a.length → y.toList.length = b.length →
      (∀ (i : Nat) (v : Value) (t : TV), x.toList[i]? = some v → a[i]? = some t → Rep C v t) → (∀ (i : Nat) (v : Value) (t : TV), y.toList[i]? = some v → b[i]? = some t → Rep C v t) →
      Rep C (.func (fnTo C fn) x y) (.func fn a b)
  | nilf : Rep C .nilFunc .nilf
  | iface {t : TypeId} {v : Value} {x : TV} : Rep C v x → Rep C (.iface t v) (.iface t x)
  | nili : Rep C .nilIface .nili
  | agg {x : Array Value} {cs : List TV} : x.toList.length = cs.length → (∀ (i : Nat) (v : Value) (t : TV), x.toList[i]? = some v → cs[i]? = some t → Rep C v t) → Rep C (.agg x) (.agg cs)
  | tuple {x : Array Value} {cs : List TV} : x.toList.length = cs.length → (∀ (i : Nat) (v : Value) (t : TV), x.toList[i]? = some v → cs[i]? = some t → Rep C v t) → Rep C (.tuple x) (.tuple cs)

def RepL (C : Ctx) (vs : List Value) (ts : List TV) : Prop := vs.length = ts.length ∧ ∀ (i : Nat) (v : Value) (t : TV), vs[i]? = some v → ts[i]? = some t → Rep C v t

/-- What turns between two states and leaves every value standing for what it stood for. -/
structure Ext (C D : Ctx) : Prop where
  base : D.base ≤ C.base
  len : C.ents.length ≤ D.ents.length
  plain : ∀ r, C.plain r → D.plain r ∧ D.loc r = C.loc r
  past : ∀ id ver, C.past id ver → D.past id ver
  cur : ∀ id ver pin sz, D.tok id ver pin sz → C.past id ver → ∃ pin0, C.tok id ver pin0 sz ∧ D.loc id = C.loc id ∧ D.fe id = C.fe id ∧
    (pin = true → D.fe id ≤ D.fz (D.loc id)) ∧ ∀ off v, off < C.fe id → C.w.cell? ⟨C.loc id, off, none⟩ = some v → D.w.cell? ⟨C.loc id, off, none⟩ = some v
  frz : ∀ b off v, off < C.fz b → C.w.cell? ⟨b, off, none⟩ = some v → D.w.cell? ⟨b, off, none⟩ = some v
  fz : ∀ b, C.fz b ≤ D.fz b
  room : ∀ b n, C.room b n → D.room b n

theorem Ext.cur_back {C D : Ctx} (h : Ext C D) {o : Own} (hlt : ∀ id ver, o = .tk id ver → C.past id ver) (hc : D.cur o) : C.cur o := by
  cases o with
  | sh => trivial
  | ex => trivial
  | tk id ver =>
    obtain ⟨pin, sz, ht⟩ := hc
    obtain ⟨p0, h0, _⟩ := h.cur id ver pin sz ht (hlt id ver rfl)
    exact ⟨p0, sz, h0⟩

theorem Ext.held {C D : Ctx} (h : Ext C D) {o : Own} {b e : Nat} (hh : C.held o b e) : D.held o b e := by
  cases o with
  | sh => exact Nat.le_trans hh (h.fz b)
  | ex => exact Nat.le_trans hh (h.fz b)
  | tk id ver =>
    refine ⟨h.past _ _ hh.1, fun pin sz ht => ?_⟩
    obtain ⟨p0, h0, hl, hf, hp, _⟩ := h.cur id ver pin sz ht hh.1
    obtain ⟨hb, he, _⟩ := hh.2 p0 sz h0
    refine ⟨hb.trans hl.symm, hf ▸ he, fun hpin => ?_⟩
    have := hp hpin
    rw [hl, ← hb, hf] at this
    omega

/-- A cell that an owned value leans on stands. -/
theorem Ext.cell {C D : Ctx} (h : Ext C D) {o : Own} {b e off : Nat} {v : Value} (hh : C.held o b e) (hlt : off < e) (hc : D.cur o)
    (hv : C.w.cell? ⟨b, off, none⟩ = some v) : D.w.cell? ⟨b, off, none⟩ = some v := by
  cases o with
  | sh => exact h.frz b off v (Nat.lt_of_lt_of_le hlt hh) hv
  | ex => exact h.frz b off v (Nat.lt_of_lt_of_le hlt hh) hv
  | tk id ver =>
    obtain ⟨pin, sz, ht⟩ := hc
    obtain ⟨p0, h0, _, _, _, hcell⟩ := h.cur id ver pin sz ht hh.1
    obtain ⟨hb, he, _⟩ := hh.2 p0 sz h0
    subst hb
    exact hcell off v (by omega) hv

theorem held_lt {C : Ctx} {o : Own} {b e : Nat} (hh : C.held o b e) : ∀ id ver, o = .tk id ver → C.past id ver := by
  rintro id ver rfl
  exact hh.1

theorem fnTo_ext {C D : Ctx} (h : Ext C D) {fn : Fn} (hf : fnOk C fn) : fnTo D fn = fnTo C fn ∧ fnOk D fn := by
  cases fn with
  | yield r => exact ⟨congrArg Fn.yield (h.plain r hf).2, (h.plain r hf).1⟩
  | _ => exact ⟨rfl, trivial⟩

theorem Rep.ext {C D : Ctx} (h : Ext C D) {v : Value} {t : TV} (hr : Rep C v t) : Rep D v t := by
  induction hr with
  | undef v => exact .undef v
  | bool b => exact .bool b
  | int k n => exact .int k n
  | str l => exact .str l
  | nilp => exact .nilp
  | ptr hp => rename_i r off; rw [← (h.plain r hp).2]; exact .ptr (h.plain r hp).1
  | view f hh hz hc _ ih => exact .view f (h.held hh) hz (fun hD j hj => h.cell hh (by omega) hD (hc (h.cur_back (held_lt hh) hD) j hj)) ih
  | slice sz f hl hcap he hs hc _ ih =>
    rename_i o a len cap es _
    refine .slice sz f hl hcap he ⟨hs.none, fun ad ha => ⟨(hs.some ad ha).1, fun h0 => h.held ((hs.some ad ha).2 h0)⟩, fun ho => ⟨(hs.ex ho).1, fun hl ad ha => Nat.le_trans h.base ((hs.ex ho).2 hl ad ha)⟩, fun id ver ho => ?_⟩ (fun ad i j ha hD hi hj => ?_) ih
    · obtain ⟨h1, h2⟩ := hs.tk id ver ho
      refine ⟨h.past _ _ h1, fun pin s ht => ?_⟩
      obtain ⟨p0, h0, hl', hf, _⟩ := h.cur id ver pin s ht h1
      obtain ⟨h3, ad, ha, hbl, hoff, hroom⟩ := h2 p0 s h0
      exact ⟨h3, ad, ha, hbl.trans hl'.symm, fun hlc => by rw [hf]; exact hoff hlc, h.room _ _ hroom⟩
    · have hh := (hs.some ad ha).2 (by omega)
      refine h.cell hh ?_ hD (hc ad i j ha (h.cur_back (held_lt hh) hD) hi hj)
      have : (i + 1) * sz ≤ len * sz := Nat.mul_le_mul_right sz hi
      have h2 : (i + 1) * sz = i * sz + sz := Nat.succ_mul i sz
      omega
  | bsl hp hl ho => rename_i r _ _ _ _ _ _; rw [← (h.plain r hp).2]; exact .bsl (h.plain r hp).1 hl ho
  | nilm => exact .nilm
  | map hp => rename_i r; rw [← (h.plain r hp).2]; exact .map (h.plain r hp).1
  | func hf hx hy _ _ ihx ihy => rw [← (fnTo_ext h hf).1]; exact .func (fnTo_ext h hf).2 hx hy ihx ihy
  | nilf => exact .nilf
  | iface _ ih => exact .iface ih
  | nili => exact .nili
  | agg hx _ ih => exact .agg hx ih
  | tuple hx _ ih => exact .tuple hx ih

theorem RepL.ext {C D : Ctx} (h : Ext C D) {vs : List Value} {ts : List TV} (hr : RepL C vs ts) : RepL D vs ts :=
  ⟨hr.1, fun i v t hv ht => (hr.2 i v t hv ht).ext h⟩
end Go.Tv

/- States that are in order; steps from state to state; operands. -/
namespace Go.Tv
open Go Go.RowKit

def Ent.alive : Ent → Prop
  | .dead => False
  | _ => True

/-- a slot's value stands -/
def RepS (C : Ctx) (tmps : Array Value) : List Nat → List TV → Prop
  | [], [] => True
  | t :: ts, v :: vs => Rep C (tmps.getD t undef) v ∧ RepS C tmps ts vs
  | _, _ => False

def lstate : Nat → LoopState
  | 0 => .ready
  | 1 => .busy
  | _ => .done
def lpend : Nat → Option Nat → Option Code
  | 2, some i => some (.exit i)
  | 2, none => some .ret
  | _, _ => none

def EntOk (P : Program) (E : Env) (C : Ctx) (r : Nat) : Ent → Prop
  | .box ty cs => C.fz (C.loc r) = 0 ∧ ∃ arr lo hi, C.w.heap[C.loc r]? = some (.cells arr ty (lo, hi)) ∧ (lo = hi ∨ arr.size ≤ lo) ∧ RepL C arr.toList cs
  | .ice cs => ∃ arr ty fr, C.w.heap[C.loc r]? = some (.cells arr ty fr) ∧ arr.size ≤ C.fz (C.loc r) ∧ RepL C arr.toList cs
  | .tok _ pin sz => (∃ arr ty lo hi, C.w.heap[C.loc r]? = some (.cells arr ty (lo, hi)) ∧ (sz = 0 ∨ lo = hi ∨ arr.size ≤ lo)) ∧ (pin = false → C.fz (C.loc r) = 0) ∧ C.fz (C.loc r) ≤ C.fe r ∧ (pin = true → C.fe r ≤ C.fz (C.loc r))
  | .map _ es => C.fz (C.loc r) = 0 ∧ ∃ entries : Array MapEntry, C.w.heap[C.loc r]? = some (.map entries es.length) ∧ entries.size = es.length ∧
      ∀ (i : Nat) (en : MapEntry) (kv : TV × TV), entries[i]? = some en → es[i]? = some kv → en.born = i ∧ Rep C en.key kv.1 ∧ Rep C en.val kv.2
  | .iter s pos => C.fz (C.loc r) = 0 ∧ C.w.heap[C.loc r]? = some (.stringIter ⟨⟨s⟩⟩ pos)
  | .dfr => C.fz (C.loc r) = 0 ∧ C.w.heap[C.loc r]? = some (.deferred (some []))
  | .rl f id vals st pend => C.fz (C.loc r) = 0 ∧ ∃ tmps ps as b d fn c ins outs f0, C.w.heap[C.loc r]? = some (.loop { state := lstate st, pending := lpend st pend, fn := f0, tmps := tmps, params := ps, assign := as, body := b, defers := d }) ∧
      P.funcs[f]? = some fn ∧ fn.body = some c ∧ fn.ntmps ≤ tmps.size ∧ findRange id c = some (ps, as, b) ∧ E.live f id = some (ins, outs) ∧ RepS C tmps ins vals
  | .dead => True

structure Ok (P : Program) (E : Env) (C : Ctx) : Prop where
  lt : ∀ r e, C.ents[r]? = some e → e.alive → C.base ≤ C.loc r ∧ C.loc r < C.w.heap.size
  inj : ∀ r s e f, C.ents[r]? = some e → C.ents[s]? = some f → e.alive → f.alive → C.loc r = C.loc s → r = s
  obj : ∀ r e, C.ents[r]? = some e → EntOk P E C r e
  fresh : ∀ b, C.w.heap.size ≤ b → C.fz b = 0
  base : C.base ≤ C.w.heap.size

structure Adv (C D : Ctx) : Prop where
  rep : ∀ v t, Rep C v t → Rep D v t
  below : Below C.base C.w D.w
  base : D.base = C.base
  len : C.ents.length ≤ D.ents.length
  fzb : ∀ b, b < C.base → D.fz b = C.fz b
  plain : ∀ r, C.plain r → D.plain r ∧ D.loc r = C.loc r

theorem Adv.refl (C : Ctx) : Adv C C := ⟨fun _ _ h => h, Below.refl _ _, rfl, Nat.le_refl _, fun _ _ => rfl, fun _ h => ⟨h, rfl⟩⟩
theorem Adv.trans {A B C : Ctx} (h : Adv A B) (k : Adv B C) : Adv A C :=
  ⟨fun v t r => k.rep v t (h.rep v t r), h.below.trans (h.base ▸ k.below), k.base.trans h.base, Nat.le_trans h.len k.len,
   fun b hb => (k.fzb b (h.base ▸ hb)).trans (h.fzb b hb),
   fun r hr => ⟨(k.plain r (h.plain r hr).1).1, (k.plain r (h.plain r hr).1).2.trans (h.plain r hr).2⟩⟩

theorem Adv.repL {C D : Ctx} (h : Adv C D) {vs : List Value} {ts : List TV} (hr : RepL C vs ts) : RepL D vs ts :=
  ⟨hr.1, fun i v t hv ht => h.rep v t (hr.2 i v t hv ht)⟩
theorem RepS.adv {C D : Ctx} (h : ∀ v t, Rep C v t → Rep D v t) {tmps : Array Value} : ∀ {ts : List Nat} {vs : List TV}, RepS C tmps ts vs → RepS D tmps ts vs
  | [], [], _ => trivial
  | _ :: _, _ :: _, ⟨a, b⟩ => ⟨h _ _ a, RepS.adv h b⟩

theorem RepL.nil {C : Ctx} : RepL C [] [] := ⟨rfl, fun i v t hv _ => by simp at hv⟩
theorem RepL.cons {C : Ctx} {v : Value} {vs : List Value} {t : TV} {ts : List TV} (h : Rep C v t) (hs : RepL C vs ts) : RepL C (v :: vs) (t :: ts) :=
  ⟨by simp [hs.1], fun i => by
    cases i with
    | zero => intro u s hu hs'; simp at hu hs'; subst hu; subst hs'; exact h
    | succ i => intro u s hu hs'; simp at hu hs'; exact hs.2 i u s hu hs'⟩
theorem RepL.head {C : Ctx} {v : Value} {vs : List Value} {t : TV} {ts : List TV} (h : RepL C (v :: vs) (t :: ts)) : Rep C v t ∧ RepL C vs ts :=
  ⟨h.2 0 v t rfl rfl, by simpa using h.1, fun i u s hu hs => h.2 (i + 1) u s (by simpa using hu) (by simpa using hs)⟩
theorem RepL.nil_inv {C : Ctx} {vs : List Value} (h : RepL C vs []) : vs = [] := List.length_eq_zero_iff.1 h.1
theorem RepL.cons_inv {C : Ctx} {vs : List Value} {t : TV} {ts : List TV} (h : RepL C vs (t :: ts)) : ∃ v us, vs = v :: us ∧ Rep C v t ∧ RepL C us ts := by
  cases vs with
  | nil => exact absurd h.1 (by simp)
  | cons v us => exact ⟨v, us, rfl, h.head⟩
theorem RepL.append {C : Ctx} {us vs : List Value} {ss ts : List TV} (h : RepL C us ss) (k : RepL C vs ts) : RepL C (us ++ vs) (ss ++ ts) := by
  refine ⟨by simp [h.1, k.1], fun i v t hv ht => ?_⟩
  rcases Nat.lt_or_ge i us.length with hi | hi
  · rw [List.getElem?_append_left hi] at hv
    rw [List.getElem?_append_left (h.1 ▸ hi)] at ht
    exact h.2 i v t hv ht
  · rw [List.getElem?_append_right hi] at hv
    rw [List.getElem?_append_right (h.1 ▸ hi), ← h.1] at ht
    exact k.2 _ v t hv ht
theorem RepL.take {C : Ctx} {us : List Value} {ss : List TV} (n : Nat) (h : RepL C us ss) : RepL C (us.take n) (ss.take n) := by
  refine ⟨by simp [h.1], fun i v t hv ht => ?_⟩
  rw [List.getElem?_take] at hv ht
  split at hv
  · rename_i hi
    rw [if_pos hi] at ht
    exact h.2 i v t hv ht
  · cases hv
theorem RepL.drop {C : Ctx} {us : List Value} {ss : List TV} (n : Nat) (h : RepL C us ss) : RepL C (us.drop n) (ss.drop n) := by
  refine ⟨by simp [h.1], fun i v t hv ht => ?_⟩
  rw [List.getElem?_drop] at hv ht
  exact h.2 _ v t hv ht

theorem Rep.agg_iff {C : Ctx} {x : Array Value} {cs : List TV} : Rep C (.agg x) (.agg cs) ↔ RepL C x.toList cs :=
  ⟨fun h => by cases h with | agg a b => exact ⟨a, b⟩, fun h => .agg h.1 h.2⟩
theorem Rep.tuple_iff {C : Ctx} {x : Array Value} {cs : List TV} : Rep C (.tuple x) (.tuple cs) ↔ RepL C x.toList cs :=
  ⟨fun h => by cases h with | tuple a b => exact ⟨a, b⟩, fun h => .tuple h.1 h.2⟩
theorem Rep.mkAgg {C : Ctx} {vs : List Value} {cs : List TV} (h : RepL C vs cs) : Rep C (.agg vs.toArray) (.agg cs) := Rep.agg_iff.2 h
theorem Rep.mkTuple {C : Ctx} {vs : List Value} {cs : List TV} (h : RepL C vs cs) : Rep C (.tuple vs.toArray) (.tuple cs) := Rep.tuple_iff.2 h

theorem Rep.cells {C : Ctx} {v : Value} {t : TV} (h : Rep C v t) (hk : t.known = true) : RepL C v.cells.toList t.cells := by
  cases h with
  | undef => cases hk
  | agg a b => exact ⟨a, b⟩
  | tuple a b => cases hk
  | _ =>
    refine RepL.cons ?_ RepL.nil
    constructor <;> assumption

/-- The empty slice, nil. -/
theorem Rep.nilSlice (C : Ctx) : Rep C (.slice none 0 0) (.slice .ex []) :=
  .slice 0 (fun _ _ => Go.undef) rfl (Nat.le_refl _) (fun _ h => nomatch h) ⟨fun _ => rfl, (fun _ h => nomatch h), fun _ => ⟨rfl, fun h => absurd rfl h⟩, (fun _ _ h => nomatch h)⟩
    (fun _ _ _ h => nomatch h) (fun i j e c h => by simp at h)

theorem rep_ofVal1 (C : Ctx) (v : Value) : Rep C v (ofVal1 v) := by
  unfold ofVal1
  split
  · exact .bool _
  · exact .int _ _
  · exact .str _
  · exact .nilp
  · exact .nilSlice C
  · exact .nilm
  · exact .nilf
  · exact .nili
  · exact .undef _

theorem rep_ofVal (C : Ctx) (v : Value) : Rep C v (ofVal v) := by
  unfold ofVal
  split
  · rename_i cs
    refine .agg (by simp) fun i u t hu ht => ?_
    rw [List.getElem?_map, hu] at ht
    cases ht
    exact rep_ofVal1 C u
  · exact rep_ofVal1 C _

def GOk (E : Env) (C : Ctx) : Prop := ∀ g, Rep C (.pointer (some ⟨g, 0, none⟩)) (.view .sh (E.glob g))

def FrOk (C : Ctx) (a : Act) (fr : Tr TV) : Prop := ∀ t, Rep C (a.tmps.getD t undef) ((fr.get t).getD .undef)

theorem rep_opd {E : Env} {C : Ctx} {a : Act} {fr : Tr TV} (hg : GOk E C) (hf : FrOk C a fr) (x : Operand) : Rep C (a.eval x) (opd E fr x) := by
  cases x with
  | tmp t => exact hf t
  | const v => exact rep_ofVal C v
  | global g => exact hg g
  | func f => exact .func (fn := .func f) trivial rfl rfl (fun i v t h _ => by simp at h) (fun i v t h _ => by simp at h)

theorem rep_opds {E : Env} {C : Ctx} {a : Act} {fr : Tr TV} (hg : GOk E C) (hf : FrOk C a fr) : ∀ xs : List Operand, RepL C (xs.map a.eval) (opds E fr xs)
  | [] => RepL.nil
  | x :: xs => RepL.cons (rep_opd hg hf x) (rep_opds hg hf xs)

theorem seeK_some {R : Type} {v : TV} {K : TV → Option R} {r : R} (h : seeK v K = some r) : K v = some r := by
  cases v <;> exact h

theorem tst_some {α : Type} {b : Bool} {t e : Option α} {r : α} (h : tst b t e = some r) : (b = true ∧ t = some r) ∨ (b = false ∧ e = some r) := by
  cases b
  · exact .inr ⟨rfl, h⟩
  · exact .inl ⟨rfl, h⟩
theorem tst_none {α : Type} {b : Bool} {t : Option α} {r : α} (h : tst b t none = some r) : b = true ∧ t = some r := by
  cases b
  · cases h
  · exact ⟨rfl, h⟩
theorem layK_some {R : Type} {E : Env} {t : TypeId} {K : Lay → Option R} {r : R} (h : layK E t K = some r) : ∃ l, E.lay t = some l ∧ K l = some r := by
  unfold layK at h
  split at h
  · exact ⟨_, by assumption, h⟩
  · cases h

/-! ### what refers to nothing -/
theorem refsL_iff {vs : List TV} : TV.refsL vs = 0 ↔ ∀ v ∈ vs, v.refs = 0 := by
  induction vs with
  | nil => simp [TV.refsL]
  | cons v vs ih =>
    simp only [TV.refsL, List.mem_cons, forall_eq_or_imp]
    rw [← ih]; omega
theorem noexL_iff {vs : List TV} : TV.noexL vs = true ↔ ∀ v ∈ vs, v.noex = true := by
  induction vs with
  | nil => simp [TV.noexL]
  | cons v vs ih => simp only [TV.noexL, List.mem_cons, forall_eq_or_imp, Bool.and_eq_true, ih]
theorem Bare.of {cs ds : List TV} (h : Bare cs) (hs : ∀ d ∈ ds, d ∈ cs) : Bare ds :=
  ⟨refsL_iff.2 fun d hd => refsL_iff.1 h.1 d (hs d hd), noexL_iff.2 fun d hd => noexL_iff.1 h.2 d (hs d hd)⟩
theorem Bare.drop {cs : List TV} (h : Bare cs) (n : Nat) : Bare (cs.drop n) := h.of fun _ hd => List.mem_of_mem_drop hd
theorem Bare.take {cs : List TV} (h : Bare cs) (n : Nat) : Bare (cs.take n) := h.of fun _ hd => List.mem_of_mem_take hd

/-! ### what a step of the evaluator leaves alone -/
def refsE : List (TV × TV) → Nat
  | [] => 0
  | (k, v) :: es => max (max k.refs v.refs) (refsE es)

def Ent.refs : Ent → Nat
  | .box _ cs | .ice cs => TV.refsL cs
  | .map _ es => refsE es
  | .rl _ _ vals _ _ => TV.refsL vals
  | _ => 0

/-- the entries below n refer to entries below n -/
def Below0 (n : Nat) (ents : List Ent) : Prop := ∀ (r : Nat) (e : Ent), r < n → ents[r]? = some e → e.refs ≤ n

structure Tame (σ σ' : St) : Prop where
  defs : σ'.defs = σ.defs
  len : σ.ents.length ≤ σ'.ents.length
  esc : σ'.esc = false → σ.esc = false ∧ ∀ n, n ≤ σ.ents.length → Below0 n σ.ents → Below0 n σ'.ents

/-- ... but for what is deferred -/
structure Tame0 (σ σ' : St) : Prop where
  len : σ.ents.length ≤ σ'.ents.length
  esc : σ'.esc = false → σ.esc = false ∧ ∀ n, n ≤ σ.ents.length → Below0 n σ.ents → Below0 n σ'.ents
theorem Tame.t0 {σ σ' : St} (h : Tame σ σ') : Tame0 σ σ' := ⟨h.len, h.esc⟩
theorem Tame0.refl (σ : St) : Tame0 σ σ := ⟨Nat.le_refl _, fun h => ⟨h, fun _ _ h => h⟩⟩
theorem Tame0.trans {σ₁ σ₂ σ₃ : St} (h : Tame0 σ₁ σ₂) (k : Tame0 σ₂ σ₃) : Tame0 σ₁ σ₃ :=
  ⟨Nat.le_trans h.len k.len, fun he => ⟨(h.esc (k.esc he).1).1, fun n hn hb => (k.esc he).2 n (Nat.le_trans hn h.len) ((h.esc (k.esc he).1).2 n hn hb)⟩⟩
theorem Tame0.of {σ₁ σ₂ τ₁ τ₂ : St} (h : Tame0 σ₁ σ₂) (h1 : τ₁.ents = σ₁.ents) (h2 : τ₁.esc = σ₁.esc) (h3 : τ₂.ents = σ₂.ents) (h4 : τ₂.esc = σ₂.esc) : Tame0 τ₁ τ₂ := by
  refine ⟨by rw [h1, h3]; exact h.len, fun he => ?_⟩
  rw [h4] at he
  rw [h1, h2, h3]
  exact h.esc he

theorem Tame.refl (σ : St) : Tame σ σ := ⟨rfl, Nat.le_refl _, fun h => ⟨h, fun _ _ h => h⟩⟩
theorem Tame.trans {σ₁ σ₂ σ₃ : St} (h : Tame σ₁ σ₂) (k : Tame σ₂ σ₃) : Tame σ₁ σ₃ :=
  ⟨k.defs.trans h.defs, Nat.le_trans h.len k.len, fun he => ⟨(h.esc (k.esc he).1).1, fun n hn hb => (k.esc he).2 n (Nat.le_trans hn h.len) ((h.esc (k.esc he).1).2 n hn hb)⟩⟩
theorem Tame.add (σ : St) (e : Ent) : Tame σ (σ.add e) :=
  ⟨rfl, by simp [St.add], fun h => ⟨h, fun n hn hb r e' hr he => hb r e' hr (by
    have : (σ.ents ++ [e])[r]? = some e' := he
    rwa [List.getElem?_append_left (by omega)] at this)⟩⟩
/-- An entry is another; it refers no farther, or to entries ahead of it. -/
theorem Tame.set {σ : St} {r : Nat} {e e' : Ent} {b : Bool} (hr : σ.ents[r]? = some e) (h : b = false → σ.esc = false ∧ ∀ n, r < n → e.refs ≤ n → e'.refs ≤ n) :
    Tame σ { σ with ents := σ.ents.set r e', esc := b } := by
  refine ⟨rfl, by simp, fun hb => ⟨(h hb).1, fun n hn hbn s x hs hx => ?_⟩⟩
  have hx' : (σ.ents.set r e')[s]? = some x := hx
  by_cases hsr : s = r
  · subst hsr
    rw [List.getElem?_set_self (List.getElem?_eq_some_iff.1 hr).1] at hx'
    cases hx'
    exact (h hb).2 n hs (hbn s e hs hr)
  · rw [List.getElem?_set_ne (Ne.symm hsr)] at hx'
    exact hbn s x hs hx'
theorem Tame.put {σ : St} {r : Nat} {e e' : Ent} (hr : σ.ents[r]? = some e) (h : ∀ n, r < n → e.refs ≤ n → e'.refs ≤ n) : Tame σ (σ.put r e') :=
  Tame.set (b := σ.esc) hr fun hb => ⟨hb, h⟩

theorem refsL_append (a b : List TV) : TV.refsL (a ++ b) = max (TV.refsL a) (TV.refsL b) := by
  induction a with
  | nil => simp [TV.refsL]
  | cons x a ih => simp only [List.cons_append, TV.refsL, ih]; omega
theorem refsL_take (n : Nat) (a : List TV) : TV.refsL (a.take n) ≤ TV.refsL a := by
  have := refsL_append (a.take n) (a.drop n)
  rw [List.take_append_drop] at this; omega
theorem refsL_drop (n : Nat) (a : List TV) : TV.refsL (a.drop n) ≤ TV.refsL a := by
  have := refsL_append (a.take n) (a.drop n)
  rw [List.take_append_drop] at this; omega
theorem refsL_fillAt (zs : List TV) (off : Nat) (cs : List TV) : TV.refsL (fillAt zs off cs) ≤ max (TV.refsL zs) (TV.refsL cs) := by
  unfold fillAt
  rw [refsL_append, refsL_append]
  have := refsL_take off zs
  have := refsL_drop (off + cs.length) zs
  omega
theorem refsE_append (a b : List (TV × TV)) : refsE (a ++ b) = max (refsE a) (refsE b) := by
  induction a with
  | nil => simp [refsE]
  | cons x a ih => obtain ⟨k, v⟩ := x; simp only [List.cons_append, refsE, ih]; omega
theorem refsE_set (a : List (TV × TV)) (i : Nat) (k v : TV) : refsE (a.set i (k, v)) ≤ max (refsE a) (max k.refs v.refs) := by
  induction a generalizing i with
  | nil => simp [refsE]
  | cons x a ih =>
    obtain ⟨k', v'⟩ := x
    cases i with
    | zero => simp only [List.set_cons_zero, refsE]; omega
    | succ i => have := ih i; simp only [List.set_cons_succ, refsE]; omega
theorem ble_false_or {a : Bool} {x y : Nat} (h : (a || !Nat.ble x y) = false) : a = false ∧ x ≤ y := by
  rw [Bool.or_eq_false_iff] at h
  refine ⟨h.1, Nat.le_of_ble_eq_true ?_⟩
  have := h.2
  simpa using this
end Go.Tv

/- Operations that leave the state as it is. -/
namespace Go.Tv
open Go Go.RowKit

def ExtOk (P : Program) (E : Env) (f : FuncId) (g : List TV → St → Option (TV × St)) : Prop :=
  ∀ (C : Ctx) (σ : St) (args : List TV) (vs : Array Value) (v : TV) (σ' : St), Ok P E C → C.ents = σ.ents → RepL C vs.toList args → g args σ = some (v, σ') →
    σ'.defs = σ.defs ∧ (P.funcs[f]?.map (·.body.isSome)).isSome ∧ ∀ (_x : Unit),
    CallsIn Fence.wide 0 P f vs C.w fun e w' => ∃ D val, e = .returned val ∧ Adv C D ∧ Ok P E D ∧ D.w = w' ∧ D.ents = σ'.ents ∧ Rep D val v

section
variable {P : Program} {E : Env} {C : Ctx}

theorem layOf_facts {t : TypeId} {l : Lay} (h : layOf P t = some l) : ∃ i, P.info? t = some i ∧ P.underlying t = some l.und ∧ l.size = i.size ∧ l.bytes = i.bytes ∧ l.agg = isAggD l.und ∧ l.zero = zeroT i.zero ∧
    (∀ e, eltOf l.und = some e → ∃ j d, P.info? e = some j ∧ P.underlying e = some d ∧ l.elt = e ∧ l.esz = j.size ∧ l.ebytes = j.bytes ∧ l.eagg = isAggD d ∧ l.ezero = zeroT j.zero ∧ l.eflat = noRefs P 9 e) ∧
    (∀ fs, l.und = .struct fs → layFlds P fs.toList = some l.flds) ∧
    (l.feq = true → structEq P t = true) ∧ (l.guard = false → P.eqGuardType P.depth t = false) ∧ (∀ k e, l.und = .map k e → l.key = k) ∧ (l.flds ≠ [] → ∃ fs, l.und = .struct fs) := by
  unfold layOf at h
  cases hi : P.info? t with
  | none => simp [hi] at h
  | some i =>
    cases hd : P.underlying t with
    | none => simp [hi, hd] at h
    | some d =>
      simp only [hi, hd, Option.bind_eq_bind, Option.bind_some] at h
      cases hf : fldsOf P d with
      | none => simp [hf] at h
      | some fs =>
        have hne : fs ≠ [] → ∃ gs, d = .struct gs := by
          intro h0
          cases d <;> first | exact ⟨_, rfl⟩ | (simp only [fldsOf] at hf; exact absurd (Option.some.inj hf).symm h0)
        simp only [hf, Option.bind_some] at h
        cases he : eltOf d with
        | none =>
          simp only [he] at h
          obtain rfl := Option.some.inj h
          refine ⟨i, rfl, rfl, rfl, rfl, rfl, rfl, ?_, ?_, fun h => h, fun h => h, ?_, hne⟩
          · intro e h'; rw [show eltOf d = none from he] at h'; cases h'
          · intro gs hg; cases hg; exact hf
          · intro k e h'; cases h'; cases he
        | some e =>
          simp only [he] at h
          cases hj : P.info? e with
          | none => simp [hj] at h
          | some j =>
            cases hdj : P.underlying e with
            | none => simp [hj, hdj] at h
            | some dj =>
              simp only [hj, hdj, Option.bind_some] at h
              obtain rfl := Option.some.inj h
              refine ⟨i, rfl, rfl, rfl, rfl, rfl, rfl, ?_, ?_, (fun h => nomatch h), (fun h => nomatch h), ?_, hne⟩
              · intro e' h'; rw [show eltOf d = some e from he] at h'; cases h'
                exact ⟨j, dj, hj, hdj, rfl, rfl, rfl, rfl, rfl, rfl⟩
              · intro gs hg; cases hg; exact hf
              · intro k e' h'; cases h'; rfl

theorem bytes_append (l m : List UInt8) : (⟨⟨l⟩⟩ : ByteArray) ++ ⟨⟨m⟩⟩ = ⟨⟨l ++ m⟩⟩ := by
  apply ByteArray.ext
  simp [ByteArray.data_append]

theorem bytes_toList (l : List UInt8) : (⟨⟨l⟩⟩ : ByteArray).toList = l := by
  rw [ByteArray.toList_eq]

theorem intK_sound {R : Type} {op : BinOp} {k : IntKind} {x y : Int} {K : TV → Option R} {r : R} (h : intK op k x y K = some r) (t : TypeId) (w : World) (hs : op ≠ .shl) (hs' : op ≠ .shr) :
    ∃ val v, (binOp op t (.int k x) (.int k y)).run P w = .ok val w ∧ Rep C val v ∧ K v = some r := by
  cases op <;> simp only [intK] at h <;> first
    | (exact absurd rfl hs)
    | (exact absurd rfl hs')
    | (obtain ⟨hy, h⟩ | ⟨hy, h⟩ := tst_some h
       · cases h
       · have hy' : ¬ y = 0 := of_decide_eq_false hy
         exact ⟨_, _, by simp [binOp, Op.intDiv, hy'], .int _ _, h⟩)
    | exact ⟨_, _, by simp [binOp, Op.intArith, Op.intBits, Op.intCmp], .int _ _, h⟩
    | (refine ⟨_, _, ?_, .bool _, h⟩
       simp [binOp, Op.intCmp]; done)
    | (refine ⟨_, _, ?_, .bool _, h⟩
       simp only [binOp, Op.intCmp, ne_eq, not_true_eq_false, if_false]
       rfl)

theorem strK_sound {R : Type} {op : BinOp} {x y : List UInt8} {K : TV → Option R} {r : R} (h : strK op x y K = some r) (t : TypeId) (w : World) :
    ∃ val v, (binOp op t (.string ⟨⟨x⟩⟩) (.string ⟨⟨y⟩⟩)).run P w = .ok val w ∧ Rep C val v ∧ K v = some r := by
  cases op <;> simp only [strK] at h <;> first
    | (cases h; done)
    | (obtain ⟨hb, h⟩ := tst_none h
       refine ⟨_, _, ?_, .str _, h⟩
       have hle : x.length + y.length ≤ 9223372036854775807 := Nat.le_of_ble_eq_true hb
       have hsz : ¬ (((⟨⟨x⟩⟩ : ByteArray).size + (⟨⟨y⟩⟩ : ByteArray).size : Nat) : Int) > IntKind.i64.max := by
         have e : IntKind.i64.max = 9223372036854775807 := by decide
         rw [e]; show ¬ (((x.length + y.length : Nat) : Int) > _); omega
       simp only [binOp, Op.stringOp]
       rw [if_neg hsz, bytes_append]; rfl)
    | (refine ⟨_, _, ?_, .bool _, h⟩
       simp only [binOp, Op.stringOp, bytes_toList]
       rfl)

theorem partK_some {R : Type} {ag : Bool} {n : Nat} {cs : List TV} {K : TV → Option R} {r : R} (h : partK ag n cs K = some r) :
    (ag = true ∧ n ≤ cs.length ∧ K (.agg (cs.take n)) = some r) ∨ (ag = false ∧ ∃ c rest, cs = c :: rest ∧ K c = some r) := by
  unfold partK at h
  split at h
  · obtain ⟨hb, h⟩ := tst_none h
    exact .inl ⟨rfl, Nat.le_of_ble_eq_true hb, h⟩
  · split at h
    · exact .inr ⟨rfl, _, _, rfl, h⟩
    · cases h

/-- the run of 'part', whatever is laid out -/
theorem run_part {t : TypeId} {i : TypeInfo} {d : TypeDesc} (hi : P.info? t = some i) (hd : P.underlying t = some d) (cs : Array Value) (off : Nat) (w : World) :
    (part t cs off).run P w = (if isAggD d then .ok (.agg (cs.extract off (off + i.size))) w else match cs[off]? with | some v => .ok v w | none => .halt (.stuck "part: no such cell") w) := by
  have hag : (isAgg t).run P w = .ok (isAggD d) w := by
    simp only [isAgg, Sem.run_bind, run_underlying hd, Result.andThen_ok]
    cases d <;> rfl
  simp only [part, Sem.run_bind, hag, Result.andThen_ok]
  cases hq : isAggD d
  · simp only [if_false, Bool.false_eq_true]
    cases cs[off]? <;> rfl
  · simp [sizeOf, typeInfo, hi]

/-- a part of a row of cells, as values -/
theorem rep_part {R : Type} {t : TypeId} {i : TypeInfo} {d : TypeDesc} (hi : P.info? t = some i) (hd : P.underlying t = some d) {x : Array Value} {cs : List TV} (hr : RepL C x.toList cs)
    {off : Nat} {K : TV → Option R} {r : R} (h : partK (isAggD d) i.size (cs.drop off) K = some r) (w : World) :
    ∃ val v, (part t x off).run P w = .ok val w ∧ Rep C val v ∧ K v = some r := by
  rw [run_part hi hd]
  rcases partK_some h with ⟨ha, hn, hk⟩ | ⟨ha, c, rest, hc, hk⟩
  · rw [if_pos ha]
    refine ⟨_, _, rfl, ?_, hk⟩
    refine Rep.agg_iff.2 ?_
    have e : (x.extract off (off + i.size)).toList = (x.toList.drop off).take i.size := by
      rw [Array.toList_extract, List.extract_eq_take_drop]; congr 1; omega
    rw [e]
    exact (hr.drop off).take i.size
  · rw [if_neg (by simp [ha])]
    have hl : cs[off]? = some c := by
      have := congrArg List.head? hc
      rw [List.head?_drop] at this
      exact this
    have hlt : off < cs.length := by
      rcases Nat.lt_or_ge off cs.length with h' | h'
      · exact h'
      · rw [List.getElem?_eq_none h'] at hl; cases hl
    have hx : off < x.toList.length := hr.1 ▸ hlt
    have hv : x.toList[off]? = some x.toList[off] := List.getElem?_eq_getElem hx
    have hv2 : x[off]? = some x.toList[off] := by rw [← Array.getElem?_toList]; exact hv
    rw [hv2]
    exact ⟨_, _, rfl, hr.2 off _ _ hv hl, hk⟩
end
end Go.Tv

/- '==', conversions, tests: the state stays. -/
namespace Go.Tv
open Go Go.RowKit

structure EnvOk0 (P : Program) (E : Env) : Prop where
  code : ∀ f fn, E.code f = some fn → P.funcs[f]? = some fn
  lay : ∀ t l, E.lay t = some l → layOf P t = some l

section
variable {P : Program} {E : Env} {C : Ctx}

theorem eqCell_sound {d : TypeDesc} {t : TypeId} {a b : TV} {x y : Value} {r : Bool} (hd : P.underlying t = some d) (ha : Rep C x a) (hb : Rep C y b) (h : eqCell d a b = some r) (n : Nat) (w : World) :
    (Op.equalIn (n + 1) t x y).run P w = .ok r w := by
  unfold eqCell at h
  split at h
  · cases ha; cases hb; cases h; exact run_equalIn_bool' w n t _ _ hd
  · split at h
    · rename_i hk
      cases ha; cases hb; cases h
      obtain rfl := of_decide_eq_true hk
      rw [run_equalIn_int w n t _ _ _ _ hd]; rfl
    · cases h
  · cases ha; cases hb; cases h
    rw [run_equalIn_string w n t _ _ hd, bytes_toList, bytes_toList]
  · cases h

theorem andO_some {a b : Option Bool} {r : Bool} (h : andO a b = some r) : ∃ x y, a = some x ∧ b = some y ∧ r = (x && y) := by
  unfold andO at h
  split at h
  · cases h; exact ⟨_, _, rfl, rfl, rfl⟩
  · cases h

theorem layFlds_cons {f : Field} {fs : List Field} {l : List Fld} (h : layFlds P (f :: fs) = some l) :
    ∃ i d r, P.info? f.type = some i ∧ P.underlying f.type = some d ∧ layFlds P fs = some r ∧ l = ⟨f.offset, i.size, isAggD d, f.type⟩ :: r := by
  unfold layFlds at h
  cases hi : P.info? f.type with
  | none => simp [hi] at h
  | some i =>
    cases hd : P.underlying f.type with
    | none => simp [hi, hd] at h
    | some d =>
      cases hr : layFlds P fs with
      | none => simp [hi, hd, hr] at h
      | some r => simp [hi, hd, hr] at h; exact ⟨i, d, r, rfl, rfl, rfl, h.symm⟩

theorem structEq_facts {t : TypeId} (h : structEq P t = true) : ∃ fs, P.underlying t = some (.struct fs) ∧ P.fieldsOf t = fs ∧ (∀ f ∈ fs.toList, f.name ≠ "_") ∧ P.stoodInHeld t = false := by
  unfold structEq at h
  split at h
  · rename_i fs hu
    simp only [Bool.and_eq_true, Bool.not_eq_true', List.all_eq_true, bne_iff_ne] at h
    exact ⟨fs, hu, by simp [Program.fieldsOf, hu], h.1, h.2⟩
  · cases h

theorem eqFlds_sound (hE : EnvOk0 P E) : ∀ (n : Nat) (fs : List Field) (l : List Fld) (xs ys : List TV) (x y : Array Value) (r : Bool) (m : Nat) (w : World), n ≤ m → layFlds P fs = some l → (∀ f ∈ fs, f.name ≠ "_") →
    RepL C x.toList xs → RepL C y.toList ys → eqFlds E n l xs ys = some r → (Op.eqFields m x y fs).run P w = .ok r w := by
  intro n
  induction n with
  | zero => intro fs l xs ys x y r m w _ _ _ _ _ h; simp [eqFlds] at h
  | succ n ihn =>
    intro fs
    induction fs with
    | nil =>
      intro l xs ys x y r m w _ hl _ _ _ h
      simp [layFlds] at hl; subst hl
      simp only [eqFlds, eqList] at h
      cases h; rfl
    | cons f fs ih =>
      intro l xs ys x y r m w hm hl hn hx hy h
      obtain ⟨i, d, rest, hi, hd, hr, rfl⟩ := layFlds_cons hl
      simp only [eqFlds, eqList] at h
      obtain ⟨b1, b2, h1, h2, rfl⟩ := andO_some h
      have hrest := ih rest xs ys x y b2 m w hm hr (fun g hg => hn g (List.mem_cons_of_mem _ hg)) hx hy (by simp only [eqFlds]; exact h2)
      obtain ⟨m', rfl⟩ : ∃ m', m = m' + 1 := ⟨m - 1, by omega⟩
      -- the first field
      have hfirst : ∃ a b, (part f.type x f.offset).run P w = .ok a w ∧ (part f.type y f.offset).run P w = .ok b w ∧ (Op.equalIn (m' + 1) f.type a b).run P w = .ok b1 w := by
        split at h1
        · cases h1
        · rename_i lf hlf
          obtain ⟨i', hi', hd', _, _, _, _, _, hfl, hfe, _⟩ := layOf_facts (hE.lay _ _ hlf)
          rw [hi] at hi'; cases hi'
          rw [hd] at hd'; cases hd'
          split at h1
          · rename_i hag
            split at h1
            · rename_i a b ha hb
              have ha' : x.toList[f.offset]? = some (x.toList[f.offset]'(by rw [hx.1]; exact (List.getElem?_eq_some_iff.1 ha).1)) := List.getElem?_eq_getElem _
              have hb' : y.toList[f.offset]? = some (y.toList[f.offset]'(by rw [hy.1]; exact (List.getElem?_eq_some_iff.1 hb).1)) := List.getElem?_eq_getElem _
              refine ⟨_, _, ?_, ?_, eqCell_sound hd (hx.2 _ _ _ ha' ha) (hy.2 _ _ _ hb' hb) h1 m' w⟩
              · rw [run_part hi hd, if_neg (by simp [hag]), ← Array.getElem?_toList, ha']
              · rw [run_part hi hd, if_neg (by simp [hag]), ← Array.getElem?_toList, hb']
            · cases h1
          · rename_i hag
            split at h1
            · rename_i hcond
              simp only [Bool.and_eq_true] at hcond
              obtain ⟨⟨hq, hxl⟩, hyl⟩ := hcond
              obtain ⟨gs, hu, hfo, hnames, hst⟩ := structEq_facts (hfe hq)
              refine ⟨_, _, by rw [run_part hi hd, if_pos hag], by rw [run_part hi hd, if_pos hag], ?_⟩
              rw [run_equalIn_agg w m' f.type _ _ (by rw [hfo]; exact hu) hst, hfo]
              rw [hd] at hu
              have hu' : lf.und = .struct gs := Option.some.inj hu
              have e1 : (x.extract f.offset (f.offset + i.size)).toList = (x.toList.drop f.offset).take i.size := by
                rw [Array.toList_extract, List.extract_eq_take_drop]; congr 1; omega
              have e2 : (y.extract f.offset (f.offset + i.size)).toList = (y.toList.drop f.offset).take i.size := by
                rw [Array.toList_extract, List.extract_eq_take_drop]; congr 1; omega
              exact ihn gs.toList lf.flds _ _ _ _ b1 m' w (by omega) (hfl gs hu') hnames (by rw [e1]; exact (hx.drop _).take _) (by rw [e2]; exact (hy.drop _).take _) h1
            · cases h1
      obtain ⟨a, b, r1, r2, r3⟩ := hfirst
      have hname := hn f List.mem_cons_self
      simp only [Op.eqFields, if_pos hname, Sem.run_bind, r1, r2, r3, Result.andThen_ok, Sem.run_ite]
      cases b1
      · rfl
      · simp only [Bool.not_true, Bool.false_eq_true, if_false, Bool.true_and]; exact hrest

theorem someK_some {R : Type} {b : Option Bool} {K : Bool → Option R} {r : R} (h : someK b K = some r) : ∃ q, b = some q ∧ K q = some r := by
  cases b with
  | none => cases h
  | some q => exact ⟨q, rfl, h⟩

theorem Rep.agg_inv {v : Value} {cs : List TV} (h : Rep C v (.agg cs)) : ∃ X, v = .agg X ∧ RepL C X.toList cs := by
  cases h with
  | agg p q => exact ⟨_, rfl, p, q⟩

theorem bin_eql_of {t : TypeId} {a b : Value} {q : Bool} (w : World) (h : ∀ d, (Op.equalIn (d + 1) t a b).run P w = .ok q w)
    (he : binOp .eql t a b = (do pure (.bool (← Op.equal t a b)))) : (binOp .eql t a b).run P w = .ok (.bool q) w := by
  have h9 : (Op.equal t a b).run P w = .ok q w := h 9999
  rw [he, Sem.run_bind, h9]; rfl
theorem bin_neq_of {t : TypeId} {a b : Value} {q : Bool} (w : World) (h : ∀ d, (Op.equalIn (d + 1) t a b).run P w = .ok q w)
    (he : binOp .neq t a b = (do pure (.bool (!(← Op.equal t a b))))) : (binOp .neq t a b).run P w = .ok (.bool (!q)) w := by
  have h9 : (Op.equal t a b).run P w = .ok q w := h 9999
  rw [he, Sem.run_bind, h9]; rfl

set_option maxHeartbeats 1000000 in
theorem eqlK_sound {R : Type} (hE : EnvOk0 P E) {t : TypeId} {x y : TV} {a b : Value} {K : Bool → Option R} {r : R} (h : eqlK E t x y K = some r) (ha : Rep C a x) (hb : Rep C b y)
    (op : BinOp) (xo yo : Operand) (w : World) :
    ∃ q, (eqGuard op t xo yo a b).run P w = .ok () w ∧ (binOp .eql t a b).run P w = .ok (.bool q) w ∧ (binOp .neq t a b).run P w = .ok (.bool (!q)) w ∧ K q = some r := by
  obtain ⟨l, hl, h⟩ := layK_some h
  obtain ⟨i, hi, hd, _, _, _, _, _, hfl, hfe, hgu, _⟩ := layOf_facts (hE.lay _ _ hl)
  generalize hund : l.und = und at h
  rw [hund] at hd
  split at h
  case h_14 =>
    rename_i xs ys _h0
    obtain ⟨hb0, h⟩ := tst_none h
    simp only [Bool.and_eq_true, Bool.not_eq_true'] at hb0
    obtain ⟨q, hq, hk⟩ := someK_some h
    obtain ⟨gs, hu, hfo, hnames, hst⟩ := structEq_facts (hfe hb0.1)
    obtain ⟨X, rfl, hX⟩ := ha.agg_inv
    obtain ⟨Y, rfl, hY⟩ := hb.agg_inv
    have heq : (Op.equalIn 10000 t (.agg X) (.agg Y)).run P w = .ok q w := by
      rw [run_equalIn_agg w 9999 t _ _ (by rw [hfo]; exact hu) hst, hfo]
      have hu' : l.und = .struct gs := by rw [hund]; exact Option.some.inj (hd.symm.trans hu)
      exact eqFlds_sound hE 4 gs.toList l.flds xs ys _ _ q 9999 w (by omega) (hfl gs hu') hnames hX hY hq
    exact ⟨q, run_eqGuard_agg w op t xo yo _ _ (hgu hb0.2), by rw [run_eql_struct, heq]; rfl, by rw [run_neq_struct, heq]; rfl, hk⟩
  all_goals first
    | (cases h; done)
    | (cases ha <;> cases hb <;>
        exact ⟨_, by cases op <;> simp [eqGuard], bin_eql_of w (fun d => by simp only [Op.equalIn, Sem.run_bind, run_underlying hd, Result.andThen_ok]; rfl) rfl, bin_neq_of w (fun d => by simp only [Op.equalIn, Sem.run_bind, run_underlying hd, Result.andThen_ok]; rfl) rfl, h⟩)

theorem guard_plain (op : BinOp) (t : TypeId) (xo yo : Operand) (w : World) {a b : Value} (h : (∃ k n, a = .int k n) ∨ ∃ s, a = .string s) :
    (eqGuard op t xo yo a b).run P w = .ok () w := by
  rcases h with ⟨k, n, rfl⟩ | ⟨s, rfl⟩ <;> cases op <;> simp [eqGuard]

theorem binK_sound {R : Type} (hE : EnvOk0 P E) {op : BinOp} {t : TypeId} {x y : TV} {a b : Value} {K : TV → Option R} {r : R} (h : binK E op t x y K = some r) (ha : Rep C a x) (hb : Rep C b y)
    (xo yo : Operand) (w : World) :
    ∃ val v, ((do eqGuard op t xo yo a b; binOp op t a b) : Sem Value).run P w = .ok val w ∧ Rep C val v ∧ K v = some r := by
  unfold binK at h
  split at h
  · -- numbers
    rename_i k x j y
    cases ha; cases hb
    have hg := guard_plain (P := P) op t xo yo w (a := .int k x) (b := .int j y) (.inl ⟨_, _, rfl⟩)
    simp only [Sem.run_bind, hg, Result.andThen_ok]
    split at h
    · obtain ⟨hy, h⟩ | ⟨hy, h⟩ := tst_some h
      · cases h
      · have hy' : ¬ y < 0 := of_decide_eq_false hy
        exact ⟨_, _, by simp only [binOp, Op.shift, if_neg hy']; rfl, .int _ _, h⟩
    · obtain ⟨hy, h⟩ | ⟨hy, h⟩ := tst_some h
      · cases h
      · have hy' : ¬ y < 0 := of_decide_eq_false hy
        exact ⟨_, _, by simp only [binOp, Op.shift, if_neg hy']; rfl, .int _ _, h⟩
    · rename_i hs hs'
      split at h
      · rename_i hk
        obtain rfl := of_decide_eq_true hk
        exact intK_sound h t w hs hs'
      · cases h
  · -- strings
    rename_i x y
    cases ha; cases hb
    have hg := guard_plain (P := P) op t xo yo w (a := .string ⟨⟨x⟩⟩) (b := .string ⟨⟨y⟩⟩) (.inr ⟨_, rfl⟩)
    simp only [Sem.run_bind, hg, Result.andThen_ok]
    exact strK_sound h t w
  · split at h
    · obtain ⟨q, hg, h1, _, hk⟩ := eqlK_sound hE h ha hb .eql xo yo w
      simp only [Sem.run_bind, hg, Result.andThen_ok]
      exact ⟨_, _, h1, .bool _, hk⟩
    · obtain ⟨q, hg, _, h2, hk⟩ := eqlK_sound hE h ha hb .neq xo yo w
      simp only [Sem.run_bind, hg, Result.andThen_ok]
      exact ⟨_, _, h2, .bool _, hk⟩
    · cases h

theorem unK_sound {R : Type} {op : UnOp} {x : TV} {a : Value} {K : TV → Option R} {r : R} (h : unK op x K = some r) (ha : Rep C a x) (w : World) :
    ∃ val v, (Op.unary op a).run P w = .ok val w ∧ Rep C val v ∧ K v = some r := by
  unfold unK at h
  split at h
  · cases ha; exact ⟨_, _, by simp [Op.unary], .bool _, h⟩
  · cases ha; exact ⟨_, _, by simp [Op.unary, Op.intArith], .int _ _, h⟩
  · cases h
end
end Go.Tv

/- Reading memory. -/
namespace Go.Tv
open Go Go.RowKit

section
variable {P : Program} {E : Env} {C : Ctx} {R : Type}

/-- From this address on these cells read so. -/
def Reads (C : Ctx) (b off : Nat) (cs : List TV) : Prop :=
  ∀ (j : Nat) (c : TV), cs[j]? = some c → ∃ v, C.w.cell? ⟨b, off + j, none⟩ = some v ∧ Rep C v c

theorem curK_some {σ : St} {id ver : Nat} {k : Bool → Nat → Option R} {r : R} (h : curK σ id ver k = some r) : ∃ pin sz, σ.ents[id]? = some (.tok ver pin sz) ∧ k pin sz = some r := by
  unfold curK at h
  split at h
  · rename_i v pin sz he
    obtain ⟨hb, h2⟩ := tst_none h
    rw [Nat.eq_of_beq_eq_true hb] at he
    exact ⟨pin, sz, he, h2⟩
  · cases h

theorem ownK_some {σ : St} {o : Own} {k : Option R} {r : R} (hc : C.ents = σ.ents) (h : ownK σ o k = some r) : C.cur o ∧ k = some r := by
  cases o with
  | tk id ver =>
    obtain ⟨pin, sz, he, h2⟩ := curK_some h
    exact ⟨⟨pin, sz, by unfold Ctx.tok; rw [hc]; exact he⟩, h2⟩
  | sh => exact ⟨trivial, h⟩
  | ex => exact ⟨trivial, h⟩

theorem reads_row {b : Nat} {arr : Array Value} {ty : TypeId} {fr : Nat × Nat} {cs : List TV} (hb : C.w.heap[b]? = some (.cells arr ty fr)) (hr : RepL C arr.toList cs) (off : Nat) :
    Reads C b off (cs.drop off) := by
  intro j c hc
  rw [List.getElem?_drop] at hc
  have hlt : off + j < arr.toList.length := hr.1 ▸ (List.getElem?_eq_some_iff.1 hc).1
  have hv : arr.toList[off + j]? = some arr.toList[off + j] := List.getElem?_eq_getElem hlt
  refine ⟨_, ?_, hr.2 _ _ _ hv hc⟩
  simp only [World.cell?, hb]
  rw [← Array.getElem?_toList]
  exact hv

theorem derefK_some {σ : St} (hok : Ok P E C) (hc : C.ents = σ.ents) {p : TV} {a : Value} {K : List TV → Option R} {r : R} (hp : Rep C a p) (h : derefK σ p K = some r) :
    ∃ b off cs, a = .pointer (some ⟨b, off, none⟩) ∧ Reads C b off cs ∧ K cs = some r := by
  unfold derefK at h
  split at h
  · rename_i r' off
    cases hp with
    | ptr hpl =>
      split at h
      · rename_i ty cs he
        obtain ⟨_, arr, lo, hi, hh, _, hr⟩ := hok.obj _ _ (hc ▸ he)
        exact ⟨_, _, _, rfl, reads_row hh hr off, h⟩
      · rename_i cs he
        obtain ⟨arr, ty, fr, hh, _, hr⟩ := hok.obj _ _ (hc ▸ he)
        exact ⟨_, _, _, rfl, reads_row hh hr off, h⟩
      · cases h
  · rename_i o cs
    obtain ⟨hcur, h⟩ := ownK_some hc h
    cases hp with
    | view f hh hz hcell hrep =>
      refine ⟨_, _, _, rfl, fun j c hj => ⟨f j, hcell hcur j (List.getElem?_eq_some_iff.1 hj).1, hrep j c hj⟩, h⟩
  · cases h

theorem Reads.list {b off : Nat} {cs : List TV} (h : Reads C b off cs) : ∃ vs : List Value, RepL C vs cs ∧ ∀ j v, vs[j]? = some v → C.w.cell? ⟨b, off + j, none⟩ = some v := by
  induction cs generalizing off with
  | nil => exact ⟨[], RepL.nil, fun j v hv => by simp at hv⟩
  | cons c cs ih =>
    obtain ⟨v, hv, hr⟩ := h 0 c rfl
    obtain ⟨vs, hvs, hcell⟩ := ih (off := off + 1) (fun j d hd => by
      have := h (j + 1) d (by simpa using hd)
      rwa [show off + (j + 1) = off + 1 + j by omega] at this)
    refine ⟨v :: vs, RepL.cons hr hvs, fun j => ?_⟩
    cases j with
    | zero => intro u hu; simp at hu; subst hu; exact hv
    | succ j => intro u hu; rw [show off + (j + 1) = off + 1 + j by omega]; exact hcell j u (by simpa using hu)

theorem addr_add (b off n : Nat) : (⟨b, off, none⟩ : Addr).add n = ⟨b, off + n, none⟩ := by
  unfold Addr.add; split <;> simp_all

theorem run_isAgg {t : TypeId} {d : TypeDesc} (hd : P.underlying t = some d) (w : World) : (isAgg t).run P w = .ok (isAggD d) w := by
  simp only [isAgg, Sem.run_bind, run_underlying hd, Result.andThen_ok]
  cases d <;> rfl

theorem run_size {t : TypeId} {i : TypeInfo} (hi : P.info? t = some i) (w : World) : (sizeOf t).run P w = .ok i.size w := by simp [sizeOf, typeInfo, hi]

theorem loadCells_reads {b off n : Nat} {cs : List TV} (h : Reads C b off cs) (hn : n ≤ cs.length) :
    ∃ vs : List Value, (loadCells ⟨b, off, none⟩ n).run P C.w = .ok vs.toArray C.w ∧ RepL C vs (cs.take n) := by
  obtain ⟨vs, hvs, hcell⟩ := h.list
  refine ⟨vs.take n, ?_, hvs.take n⟩
  have hl : (vs.take n).length = n := by simp [hvs.1]; omega
  have := run_loadCells_list (P := P) C.w ⟨b, off, none⟩ (vs.take n) (fun j v hv => by
    rw [addr_add]
    rw [List.getElem?_take] at hv
    split at hv
    · exact hcell j v hv
    · cases hv)
  rwa [hl] at this

theorem loadVar_reads {t : TypeId} {i : TypeInfo} {d : TypeDesc} (hi : P.info? t = some i) (hd : P.underlying t = some d) {b off : Nat} {cs : List TV} (h : Reads C b off cs) {K : TV → Option R} {r : R}
    (hk : partK (isAggD d) i.size cs K = some r) : ∃ val v, (loadVar t ⟨b, off, none⟩).run P C.w = .ok val C.w ∧ Rep C val v ∧ K v = some r := by
  simp only [loadVar, Sem.run_bind, run_isAgg hd, Result.andThen_ok]
  rcases partK_some hk with ⟨ha, hn, hk2⟩ | ⟨ha, c, rest, rfl, hk2⟩
  · obtain ⟨vs, hrun, hr⟩ := loadCells_reads (P := P) h hn
    refine ⟨_, _, ?_, Rep.mkAgg hr, hk2⟩
    simp only [ha, if_true, Sem.run_bind, run_size hi, Result.andThen_ok, hrun, Sem.run_pure]
  · obtain ⟨v, hv, hr⟩ := h 0 c rfl
    refine ⟨v, c, ?_, hr, hk2⟩
    simp only [ha, Bool.false_eq_true, if_false, run_load]
    rw [Nat.add_zero] at hv
    rw [hv]

theorem loadK_sound (hE : EnvOk0 P E) {σ : St} (hok : Ok P E C) (hc : C.ents = σ.ents) {t : TypeId} {p : TV} {a : Value} {K : TV → Option R} {r : R} (hp : Rep C a p) (h : loadK E σ t p K = some r) :
    ∃ val v, (Instr.loadAt t a).run P C.w = .ok val C.w ∧ Rep C val v ∧ K v = some r := by
  obtain ⟨l, hl, h⟩ := layK_some h
  obtain ⟨i, hi, hd, hs, _, hag, _⟩ := layOf_facts (hE.lay _ _ hl)
  obtain ⟨b, off, cs, rfl, hr, hk⟩ := derefK_some hok hc hp h
  rw [hag, hs] at hk
  simpa [Instr.loadAt, Instr.sureAddr] using loadVar_reads hi hd hr hk

theorem layFlds_get : ∀ {fs : List Field} {l : List Fld}, layFlds P fs = some l → ∀ (n : Nat) (f : Fld), l[n]? = some f →
    ∃ (g : Field) (i : TypeInfo) (d : TypeDesc), fs[n]? = some g ∧ P.info? g.type = some i ∧ P.underlying g.type = some d ∧ f = Fld.mk g.offset i.size (isAggD d) g.type
  | [], l, h, n, f, hf => by simp [layFlds] at h; subst h; simp at hf
  | g :: gs, l, h, n, f, hf => by
    obtain ⟨i, d, r, hi, hd, hr, rfl⟩ := layFlds_cons h
    cases n with
    | zero => simp at hf; subst hf; exact ⟨g, i, d, rfl, hi, hd, rfl⟩
    | succ n => exact layFlds_get hr n f (by simpa using hf)

theorem Rep.view_drop {o : Own} {b off n : Nat} {cs : List TV} (h : Rep C (.pointer (some ⟨b, off, none⟩)) (.view o cs)) (hn : n ≤ cs.length) :
    Rep C (.pointer (some ⟨b, off + n, none⟩)) (.view o (cs.drop n)) := by
  cases h with
  | view f hh hz hcell hrep =>
    refine .view (fun j => f (n + j)) ?_ ?_ (fun hc j hj => ?_) (fun j c hj => ?_)
    · rw [List.length_drop, show off + n + (cs.length - n) = off + cs.length by omega]; exact hh
    · exact hz.drop n
    · rw [List.length_drop] at hj
      rw [Nat.add_assoc]; exact hcell hc (n + j) (by omega)
    · rw [List.getElem?_drop] at hj; exact hrep _ c hj

theorem fieldAddrK_sound (hE : EnvOk0 P E) {t : TypeId} {p : TV} {a : Value} {f : Nat} {K : TV → Option R} {r : R} (hp : Rep C a p) (h : fieldAddrK E t p f K = some r) :
    ∃ val v, (Instr.fieldAt t a f).run P C.w = .ok val C.w ∧ Rep C val v ∧ K v = some r := by
  obtain ⟨l, hl, h1⟩ := layK_some h
  obtain ⟨i, hi, hd, _, _, _, _, _, hfl, _, _, _, hst⟩ := layOf_facts (hE.lay _ _ hl)
  split at h1
  · rename_i fd hfd
    obtain ⟨hs, h2⟩ | ⟨hs, h2⟩ := tst_some h1
    · cases h2
    have hne : fd.size ≠ 0 := by intro e; rw [e] at hs; cases hs
    obtain ⟨fs, hu⟩ := hst (by intro e; rw [e] at hfd; simp at hfd)
    obtain ⟨g, gi, gd, hg, hgi, hgd, rfl⟩ := layFlds_get (hfl fs hu) f fd hfd
    rw [hu] at hd
    have hg' : fs[f]? = some g := by rw [← Array.getElem?_toList]; exact hg
    have hrun : ∀ b off, (Instr.fieldAt t (.pointer (some ⟨b, off, none⟩)) f).run P C.w = .ok (.pointer (some ⟨b, off + g.offset, none⟩)) C.w := by
      intro b off
      simp only [Instr.fieldAt, Sem.run_bind, run_underlying hd, Result.andThen_ok, hg', Instr.sureAddr, Sem.run_pure, fieldPlace, run_size hgi]
      rw [if_neg hne]
      simp only [Sem.run_pure, Result.andThen_ok, addr_add]
    split at h2
    · cases hp with
      | ptr hpl => exact ⟨_, _, hrun _ _, .ptr hpl, h2⟩
    · obtain ⟨hb, h3⟩ := tst_none h2
      have hp' := hp
      cases hp with
      | view f' hh hz hcell hrep => exact ⟨_, _, hrun _ _, hp'.view_drop (Nat.le_of_ble_eq_true hb), h3⟩
    · cases h2
  · cases h1

theorem fieldK_sound (hE : EnvOk0 P E) {t : TypeId} {x : TV} {a : Value} {f : Nat} {K : TV → Option R} {r : R} (hx : Rep C a x) (h : fieldK E t x f K = some r) :
    ∃ val v, (Instr.field t a f).run P C.w = .ok val C.w ∧ Rep C val v ∧ K v = some r := by
  obtain ⟨l, hl, h1⟩ := layK_some h
  obtain ⟨i, hi, hd, _, _, _, _, _, hfl, _, _, _, hst⟩ := layOf_facts (hE.lay _ _ hl)
  split at h1
  · rename_i fd cs hfd
    obtain ⟨fs, hu⟩ := hst (by intro e; rw [e] at hfd; simp at hfd)
    obtain ⟨g, gi, gd, hg, hgi, hgd, rfl⟩ := layFlds_get (hfl fs hu) f fd hfd
    rw [hu] at hd
    have hg' : fs[f]? = some g := by rw [← Array.getElem?_toList]; exact hg
    obtain ⟨X, rfl, hX⟩ := hx.agg_inv
    obtain ⟨val, v, hrun, hr, hk⟩ := rep_part hgi hgd hX h1 C.w
    refine ⟨val, v, ?_, hr, hk⟩
    simp only [Instr.field, Sem.run_bind, run_underlying hd, Result.andThen_ok, hg', asAgg, Sem.run_pure]
    exact hrun
  · cases h1
end
end Go.Tv

/- Elements, lengths, cuts: the world stays. -/
namespace Go.Tv
open Go Go.RowKit

section
variable {P : Program} {E : Env} {C : Ctx} {R : Type}

theorem Ctx.held_mono {o : Own} {b e e' : Nat} (h : C.held o b e) (hle : e' ≤ e) : C.held o b e' := by
  cases o with
  | sh => exact Nat.le_trans hle h
  | ex => exact Nat.le_trans hle h
  | tk id ver => exact ⟨h.1, fun pin sz ht => ⟨(h.2 pin sz ht).1, Nat.le_trans hle (h.2 pin sz ht).2.1, fun hp => Nat.le_trans hle ((h.2 pin sz ht).2.2 hp)⟩⟩

theorem atK_some {es : List TV} {i : Nat} {K : TV → Option R} {r : R} (h : atK es i K = some r) : ∃ e, es[i]? = some e ∧ K e = some r := by
  unfold atK at h
  split at h
  · exact ⟨_, by assumption, h⟩
  · cases h

/-- An element of a slice, by its address. -/
theorem Rep.elem {o : Own} {a : Option Addr} {len cap : Nat} {es : List TV} (h : Rep C (.slice a len cap) (.slice o es)) {i : Nat} {e : TV} (hi : es[i]? = some e) :
    ∃ b off, a = some ⟨b, off, none⟩ ∧ Rep C (.pointer (some ⟨b, off + i * e.cells.length, none⟩)) (.view o e.cells) := by
  cases h with
  | slice sz f hl hcap he hs hc hr =>
    have hlt : i < es.length := (List.getElem?_eq_some_iff.1 hi).1
    have hlen : i < len := by omega
    obtain ⟨hsz, hz, _⟩ := he e (List.mem_of_getElem? hi)
    cases a with
    | none => have := hs.none rfl; omega
    | some ad =>
      obtain ⟨hsp, hh⟩ := hs.some ad rfl
      replace hh := hh (by omega)
      obtain ⟨b, off, spot⟩ := ad
      simp only at hsp; subst hsp
      refine ⟨b, off, rfl, ?_⟩
      have hmul : (i + 1) * sz ≤ len * sz := Nat.mul_le_mul_right sz hlen
      have h2 : (i + 1) * sz = i * sz + sz := Nat.succ_mul i sz
      refine .view (f i) (C.held_mono hh (by rw [hsz]; simp only; omega)) hz (fun hcur j hj => ?_) (fun j c hj => hr i j e c hi hj)
      have := hc _ i j rfl hcur hlen (by omega)
      rw [hsz, Nat.add_assoc]; exact this

theorem indexAddrK_sound (hE : EnvOk0 P E) {σ : St} (hc : C.ents = σ.ents) {t : TypeId} {x i : TV} {a ia : Value} {K : TV → Option R} {r : R} (hx : Rep C a x) (hi : Rep C ia i)
    (h : indexAddrK E σ t x i K = some r) : ∃ val v, (Instr.indexAt t a ia).run P C.w = .ok val C.w ∧ Rep C val v ∧ K v = some r := by
  obtain ⟨l, hl, h1⟩ := layK_some h
  obtain ⟨ti, hti, hd, _, _, _, _, helt, _⟩ := layOf_facts (hE.lay _ _ hl)
  split at h1
  · rename_i k n
    cases hi
    split at h1
    · -- a slice
      rename_i e hu
      obtain ⟨j, d, hj, hdj, _, hesz, _⟩ := helt e (by rw [hu]; rfl)
      rw [hu] at hd
      split at h1
      · rename_i o es
        obtain ⟨hb, h2⟩ := tst_none h1
        have hb' := of_decide_eq_true hb
        obtain ⟨hcur, h3⟩ := ownK_some hc h2
        obtain ⟨el, hel, h4⟩ := atK_some h3
        obtain ⟨hsz, h5⟩ := tst_none h4
        have hsz' := Nat.eq_of_beq_eq_true hsz
        obtain ⟨sl, sl2, sl3, rfl⟩ : ∃ p q s, a = .slice p q s := by cases hx; exact ⟨_, _, _, rfl⟩
        obtain ⟨b, off, rfl, hv⟩ := hx.elem hel
        have hlen : sl2 = es.length := by cases hx; assumption
        refine ⟨_, _, ?_, hv, h5⟩
        have hlt : n < (sl2 : Int) := by rw [hlen]; exact hb'.2
        simp only [Instr.indexAt, asIntOf, Sem.run_bind, Sem.run_pure, Result.andThen_ok, run_underlying hd]
        rw [if_pos ⟨hb'.1, hlt⟩]
        simp only [Sem.run_bind, run_size hj, Result.andThen_ok, Sem.run_pure, addr_add, hsz', hesz]
      · rename_i r' off len sz ag
        obtain ⟨hb, h2⟩ := tst_none h1
        simp only [Bool.and_eq_true] at hb
        have hb' := of_decide_eq_true hb.1
        have hsz' := Nat.eq_of_beq_eq_true hb.2
        cases hx with
        | bsl hp hlc hoo =>
          obtain rfl := hoo (by omega)
          refine ⟨_, _, ?_, .ptr hp, h2⟩
          simp only [Instr.indexAt, asIntOf, Sem.run_bind, Sem.run_pure, Result.andThen_ok, run_underlying hd]
          rw [if_pos hb']
          simp only [Sem.run_bind, run_size hj, Result.andThen_ok, Sem.run_pure, addr_add, hsz', hesz]
      · cases h1
    · -- an array
      rename_i m e hu
      obtain ⟨j, d, hj, hdj, _, hesz, _⟩ := helt e (by rw [hu]; rfl)
      rw [hu] at hd
      obtain ⟨hb, h2⟩ := tst_none h1
      have hb' := of_decide_eq_true hb
      have hrun : ∀ b off, (Instr.indexAt t (.pointer (some ⟨b, off, none⟩)) (.int k n)).run P C.w = .ok (.pointer (some ⟨b, off + n.toNat * l.esz, none⟩)) C.w := by
        intro b off
        simp only [Instr.indexAt, asIntOf, Sem.run_bind, Sem.run_pure, Result.andThen_ok, run_underlying hd, Instr.sureAddr]
        rw [if_pos hb']
        simp only [Sem.run_bind, run_size hj, Result.andThen_ok, Sem.run_pure, addr_add, hesz]
      split at h2
      · cases hx with
        | ptr hp => exact ⟨_, _, hrun _ _, .ptr hp, h2⟩
      · obtain ⟨hle, h3⟩ := tst_none h2
        have hx' := hx
        cases hx with
        | view f hh hz hcell hrep => exact ⟨_, _, hrun _ _, hx'.view_drop (Nat.le_of_ble_eq_true hle), h3⟩
      · cases h2
    · cases h1
  · cases h1

theorem bytes_get (s : List UInt8) (i : Nat) : (⟨⟨s⟩⟩ : ByteArray)[i]? = s[i]? := by
  rcases Nat.lt_or_ge i s.length with h | h
  · rw [List.getElem?_eq_getElem h]
    show (if h' : _ then some _ else none) = _
    rw [dif_pos (show i < (⟨⟨s⟩⟩ : ByteArray).size from h)]
    rfl
  · rw [List.getElem?_eq_none h]
    show (if h' : _ then some _ else none) = _
    rw [dif_neg (show ¬ i < (⟨⟨s⟩⟩ : ByteArray).size from by show ¬ i < s.length; omega)]

theorem indexK_sound (hE : EnvOk0 P E) {t : TypeId} {x i : TV} {a ia : Value} {K : TV → Option R} {r : R} (hx : Rep C a x) (hi : Rep C ia i)
    (h : indexK E t x i K = some r) : ∃ val v, (Instr.index t a ia).run P C.w = .ok val C.w ∧ Rep C val v ∧ K v = some r := by
  obtain ⟨l, hl, h1⟩ := layK_some h
  obtain ⟨ti, hti, hd, _, _, _, _, helt, _⟩ := layOf_facts (hE.lay _ _ hl)
  split at h1
  · rename_i k n
    cases hi
    split at h1
    · rename_i s hu
      rw [hu] at hd
      obtain ⟨hb, h2⟩ := tst_none h1
      have hb' := of_decide_eq_true hb
      cases hx
      split at h2
      · rename_i b hb2
        refine ⟨_, _, ?_, .int _ _, h2⟩
        simp only [Instr.index, asIntOf, Sem.run_bind, Sem.run_pure, Result.andThen_ok, run_underlying hd]
        rw [if_pos hb'.1, bytes_get, hb2]
        rfl
      · cases h2
    · rename_i m e cs hu
      obtain ⟨j, d, hj, hdj, _, hesz, _, heag, _⟩ := helt e (by rw [hu]; rfl)
      rw [hu] at hd
      obtain ⟨hb, h2⟩ := tst_none h1
      have hb' := of_decide_eq_true hb
      obtain ⟨X, rfl, hX⟩ := hx.agg_inv
      rw [heag, hesz] at h2
      obtain ⟨val, v, hrun, hr, hk⟩ := rep_part hj hdj hX h2 C.w
      refine ⟨val, v, ?_, hr, hk⟩
      simp only [Instr.index, asIntOf, Sem.run_bind, Sem.run_pure, Result.andThen_ok, run_underlying hd]
      rw [if_pos hb']
      simp only [Sem.run_bind, run_size hj, Result.andThen_ok]
      exact hrun
    · cases h1
  · cases h1

theorem Rep.slice_len {o : Own} {a : Value} {es : List TV} (h : Rep C a (.slice o es)) : ∃ p cap, a = .slice p es.length cap ∧ es.length ≤ cap := by
  cases h with
  | slice sz f hl hcap _ _ _ _ => subst hl; exact ⟨_, _, rfl, hcap⟩

theorem lenK_sound (hE : EnvOk0 P E) {σ : St} (hok : Ok P E C) (hc : C.ents = σ.ents) {t ty : TypeId} {x : TV} {a : Value} {K : TV → Option R} {r : R} (hx : Rep C a x)
    (h : lenK E σ t x K = some r) : ∃ val v, (Builtin.len_ #[t] ty #[a]).run P C.w = .ok val C.w ∧ Rep C val v ∧ K v = some r := by
  obtain ⟨l, hl, h1⟩ := layK_some h
  obtain ⟨ti, hti, hd, _⟩ := layOf_facts (hE.lay _ _ hl)
  generalize hu : l.und = und at h1
  rw [hu] at hd
  split at h1
  · cases hx
    exact ⟨_, _, by simp [Builtin.len_, run_underlying hd, goInt]; rfl, .int _ _, h1⟩
  · obtain ⟨p, cap, rfl, _⟩ := hx.slice_len
    exact ⟨_, _, by simp [Builtin.len_, run_underlying hd, goInt], .int _ _, h1⟩
  · cases hx
    exact ⟨_, _, by simp [Builtin.len_, run_underlying hd, goInt], .int _ _, h1⟩
  · exact ⟨_, _, by simp [Builtin.len_, run_underlying hd, goInt], .int _ _, h1⟩
  · cases hx
    exact ⟨_, _, by simp [Builtin.len_, run_underlying hd, goInt], .int _ _, h1⟩
  · rename_i r'
    cases hx with
    | map hp =>
      split at h1
      · rename_i mt es he
        obtain ⟨_, entries, hh, hs, _⟩ := hok.obj _ _ (hc ▸ he)
        refine ⟨_, _, ?_, .int _ _, h1⟩
        have hg : (getObj (C.loc r')).run P C.w = .ok (.map entries es.length) C.w := by simp only [getObj, Sem.run]; rw [hh]
        simp only [Builtin.len_, List.getElem?_toArray, List.getElem?_cons_zero, goInt]
        simp only [Sem.run_bind, run_underlying hd, Result.andThen_ok, hg, Sem.run_pure, hs]
      · cases h1
  · cases h1
end
end Go.Tv

/- States that turn. -/
namespace Go.Tv
open Go Go.RowKit

section
variable {P : Program} {E : Env} {C D : Ctx} {R : Type}

theorem RepS.ext (h : Ext C D) {tmps : Array Value} {ts : List Nat} {vs : List TV} (hr : RepS C tmps ts vs) : RepS D tmps ts vs := RepS.adv (fun _ _ hr => hr.ext h) hr

/-- An entry whose block nobody has turned. -/
theorem EntOk.same {s : Nat} {e : Ent} (h : Ext C D) (hl : e.alive → D.loc s = C.loc s) (hh : e.alive → D.w.heap[C.loc s]? = C.w.heap[C.loc s]?) (hz : e.alive → D.fz (C.loc s) = C.fz (C.loc s)) (hf : e.alive → D.fe s = C.fe s)
    (ho : EntOk P E C s e) : EntOk P E D s e := by
  cases e with
  | dead => trivial
  | box ty cs =>
    obtain ⟨h0, arr, lo, hi, h1, h2, h3⟩ := ho
    exact ⟨by rw [hl trivial, hz trivial]; exact h0, arr, lo, hi, by rw [hl trivial, hh trivial]; exact h1, h2, h3.ext h⟩
  | ice cs =>
    obtain ⟨arr, ty, fr, h1, h2, h3⟩ := ho
    exact ⟨arr, ty, fr, by rw [hl trivial, hh trivial]; exact h1, by rw [hl trivial, hz trivial]; exact h2, h3.ext h⟩
  | tok v p sz =>
    obtain ⟨⟨arr, ty, lo, hi, h1, h2⟩, h3, h4, h5⟩ := ho
    exact ⟨⟨arr, ty, lo, hi, by rw [hl trivial, hh trivial]; exact h1, h2⟩, fun hp => by rw [hl trivial, hz trivial]; exact h3 hp, by rw [hl trivial, hz trivial, hf trivial]; exact h4, fun hp => by rw [hl trivial, hz trivial, hf trivial]; exact h5 hp⟩
  | map t es =>
    obtain ⟨h0, en, h1, h2, h3⟩ := ho
    exact ⟨by rw [hl trivial, hz trivial]; exact h0, en, by rw [hl trivial, hh trivial]; exact h1, h2, fun i x kv hx hkv => ⟨(h3 i x kv hx hkv).1, (h3 i x kv hx hkv).2.1.ext h, (h3 i x kv hx hkv).2.2.ext h⟩⟩
  | iter st pos => exact ⟨by rw [hl trivial, hz trivial]; exact ho.1, by rw [hl trivial, hh trivial]; exact ho.2⟩
  | dfr => exact ⟨by rw [hl trivial, hz trivial]; exact ho.1, by rw [hl trivial, hh trivial]; exact ho.2⟩
  | rl f id vals st pend =>
    obtain ⟨h0, tmps, ps, as, b, d, fn, c, ins, outs, f0, h1, h2, h3, h4, h5, h6, h7⟩ := ho
    exact ⟨by rw [hl trivial, hz trivial]; exact h0, tmps, ps, as, b, d, fn, c, ins, outs, f0, by rw [hl trivial, hh trivial]; exact h1, h2, h3, h4, h5, h6, h7.ext h⟩

/-- A state that has grown: new blocks, new entries; nothing that was there has turned. -/
structure Grew (C D : Ctx) : Prop where
  below : Below C.w.heap.size C.w D.w
  base : D.base = C.base
  ents : ∀ r, r < C.ents.length → D.ents[r]? = C.ents[r]?
  len : C.ents.length ≤ D.ents.length
  loc : ∀ r, r < C.ents.length → D.loc r = C.loc r
  fe : ∀ r, r < C.ents.length → D.fe r = C.fe r
  fz : ∀ b, b < C.w.heap.size → D.fz b = C.fz b

theorem Grew.refl (C : Ctx) : Grew C C := ⟨Below.refl _ _, rfl, fun _ _ => rfl, Nat.le_refl _, fun _ _ => rfl, fun _ _ => rfl, fun _ _ => rfl⟩

theorem cell_lt {w : World} {b off : Nat} {v : Value} (h : w.cell? ⟨b, off, none⟩ = some v) : b < w.heap.size := World.block_lt_of_cell? w (a := ⟨b, off, none⟩) h

theorem Grew.cell (h : Grew C D) {b off : Nat} {v : Value} (hv : C.w.cell? ⟨b, off, none⟩ = some v) : D.w.cell? ⟨b, off, none⟩ = some v := by
  rw [h.below.cell (p := ⟨b, off, none⟩) (cell_lt hv)]; exact hv

theorem Grew.ext (hok : Ok P E C) (h : Grew C D) : Ext C D where
  base := Nat.le_of_eq h.base
  len := h.len
  plain r hr := ⟨⟨Nat.lt_of_lt_of_le hr.1 h.len, fun v p s ht => hr.2 v p s (by unfold Ctx.tok at *; rw [← h.ents r hr.1]; exact ht)⟩, h.loc r hr.1⟩
  past id ver := by
    rintro ⟨v, p, s, ht, hv⟩
    refine ⟨v, p, s, ?_, hv⟩
    have hlt : id < C.ents.length := (List.getElem?_eq_some_iff.1 ht).1
    unfold Ctx.tok at *; rw [h.ents id hlt]; exact ht
  cur id ver pin sz ht hpast := by
    obtain ⟨v, p, s, ht', _⟩ := hpast
    have hlt : id < C.ents.length := (List.getElem?_eq_some_iff.1 ht').1
    have h0 : C.tok id ver pin sz := by unfold Ctx.tok at *; rw [← h.ents id hlt]; exact ht
    have hlive := hok.lt id _ h0 trivial
    obtain ⟨_, _, _, h5⟩ := hok.obj id _ h0
    refine ⟨pin, h0, h.loc id hlt, h.fe id hlt, fun hp => ?_, fun off v _ hv => h.cell hv⟩
    rw [h.loc id hlt, h.fe id hlt, h.fz _ hlive.2]; exact h5 hp
  frz b off v _ hv := h.cell hv
  fz b := by
    rcases Nat.lt_or_ge b C.w.heap.size with hb | hb
    · rw [h.fz b hb]; exact Nat.le_refl _
    · rw [hok.fresh b hb]; exact Nat.zero_le _
  room b n := by
    rintro ⟨arr, ty, fr, hh, hn⟩
    refine ⟨arr, ty, fr, ?_, hn⟩
    rw [h.below.block b (Array.getElem?_eq_some_iff.1 hh).1]; exact hh

theorem Grew.adv (hok : Ok P E C) (h : Grew C D) : Adv C D where
  rep _ _ hr := hr.ext (h.ext hok)
  below := h.below.mono hok.base
  base := h.base
  len := h.len
  fzb b hb := h.fz b (Nat.lt_of_lt_of_le hb hok.base)
  plain r hr := (h.ext hok).plain r hr

/-- A grown state is in order if what is new is. -/
theorem Grew.ok (hok : Ok P E C) (h : Grew C D) (hfresh : ∀ b, D.w.heap.size ≤ b → D.fz b = 0)
    (hnew : ∀ r e, D.ents[r]? = some e → C.ents.length ≤ r → EntOk P E D r e ∧ (e.alive → C.w.heap.size ≤ D.loc r ∧ D.loc r < D.w.heap.size))
    (hinj : ∀ r s e f, D.ents[r]? = some e → D.ents[s]? = some f → C.ents.length ≤ r → C.ents.length ≤ s → e.alive → f.alive → D.loc r = D.loc s → r = s) : Ok P E D where
  lt r e he ha := by
    rcases Nat.lt_or_ge r C.ents.length with hr | hr
    · have := hok.lt r e (by rw [← h.ents r hr]; exact he) ha
      rw [h.loc r hr, h.base]
      exact ⟨this.1, Nat.lt_of_lt_of_le this.2 h.below.size⟩
    · have := (hnew r e he hr).2 ha
      rw [h.base]
      exact ⟨Nat.le_trans hok.base this.1, this.2⟩
  inj r s e f he hf ha hb hl := by
    rcases Nat.lt_or_ge r C.ents.length with hr | hr <;> rcases Nat.lt_or_ge s C.ents.length with hs | hs
    · rw [h.loc r hr, h.loc s hs] at hl
      exact hok.inj r s e f (by rw [← h.ents r hr]; exact he) (by rw [← h.ents s hs]; exact hf) ha hb hl
    · have h1 := (hok.lt r e (by rw [← h.ents r hr]; exact he) ha).2
      have h2 := ((hnew s f hf hs).2 hb).1
      rw [h.loc r hr] at hl; omega
    · have h1 := (hok.lt s f (by rw [← h.ents s hs]; exact hf) hb).2
      have h2 := ((hnew r e he hr).2 ha).1
      rw [h.loc s hs] at hl; omega
    · exact hinj r s e f he hf hr hs ha hb hl
  obj r e he := by
    rcases Nat.lt_or_ge r C.ents.length with hr | hr
    · have he' : C.ents[r]? = some e := by rw [← h.ents r hr]; exact he
      exact EntOk.same (h.ext hok) (fun _ => h.loc r hr) (fun ha => h.below.block _ (hok.lt r e he' ha).2) (fun ha => h.fz _ (hok.lt r e he' ha).2) (fun _ => h.fe r hr) (hok.obj r e he')
    · exact (hnew r e he hr).1
  fresh := hfresh
  base := by rw [h.base]; exact Nat.le_trans hok.base h.below.size

/-! ### the plain ways of growing -/
def upd {α : Type} (f : Nat → α) (n : Nat) (x : α) : Nat → α := fun k => if k = n then x else f k
theorem upd_same {α : Type} (f : Nat → α) (n : Nat) (x : α) : upd f n x n = x := by simp [upd]
theorem upd_ne {α : Type} (f : Nat → α) {n k : Nat} (x : α) (h : k ≠ n) : upd f n x k = f k := by simp [upd, h]

/-- only draws -/
def Ctx.drewN (C : Ctx) (n : Nat) : Ctx := { C with w := { C.w with drawn := n } }

theorem below_alloc' (w : World) (o : Obj) : Below w.heap.size w (w.alloc o) := (Below.refl _ _).alloc (Nat.le_refl _) o

/-- a new block that is no entry's: its first cells may be leant on -/
def Ctx.push (C : Ctx) (o : Obj) (n : Nat) : Ctx := { C with w := C.w.alloc o, fz := upd C.fz C.w.heap.size n }
theorem grew_push (C : Ctx) (o : Obj) (n : Nat) : Grew C (C.push o n) :=
  ⟨below_alloc' _ _, rfl, fun _ _ => rfl, Nat.le_refl _, fun _ _ => rfl, fun _ _ => rfl, fun b hb => upd_ne _ _ (Nat.ne_of_lt hb)⟩
theorem ok_push (hok : Ok P E C) (o : Obj) (n : Nat) : Ok P E (C.push o n) :=
  (grew_push C o n).ok hok (fun b hb => by
      have hb' : C.w.heap.size + 1 ≤ b := by simpa [Ctx.push] using hb
      show upd C.fz _ _ _ = 0
      rw [upd_ne _ _ (by omega)]; exact hok.fresh b (by omega))
    (fun r e he hr => by
      have : r < C.ents.length := (List.getElem?_eq_some_iff.1 he).1
      omega)
    (fun r s e f he hf hr hs => by
      have : r < C.ents.length := (List.getElem?_eq_some_iff.1 he).1
      omega)

/-- a new block that is a new entry's -/
def Ctx.add (C : Ctx) (o : Obj) (e : Ent) (n k : Nat) : Ctx :=
  { C with w := C.w.alloc o, ents := C.ents ++ [e], loc := upd C.loc C.ents.length C.w.heap.size, fz := upd C.fz C.w.heap.size n, fe := upd C.fe C.ents.length k }
theorem grew_add (C : Ctx) (o : Obj) (e : Ent) (n k : Nat) : Grew C (C.add o e n k) :=
  ⟨below_alloc' _ _, rfl, fun r hr => List.getElem?_append_left hr, by simp [Ctx.add], fun r hr => upd_ne _ _ (Nat.ne_of_lt hr), fun r hr => upd_ne _ _ (Nat.ne_of_lt hr), fun b hb => upd_ne _ _ (Nat.ne_of_lt hb)⟩
theorem add_new {o : Obj} {e e' : Ent} {n k r : Nat} (he : (C.add o e n k).ents[r]? = some e') (hr : C.ents.length ≤ r) : r = C.ents.length ∧ e' = e := by
  have he2 : (C.ents ++ [e])[r]? = some e' := he
  rw [List.getElem?_append_right hr] at he2
  rcases Nat.eq_or_lt_of_le hr with h | h
  · subst h; simp at he2; exact ⟨rfl, he2.symm⟩
  · rw [List.getElem?_eq_none (by simp; omega)] at he2; cases he2
theorem ok_add (hok : Ok P E C) (o : Obj) (e : Ent) (n k : Nat) (he : EntOk P E (C.add o e n k) C.ents.length e) : Ok P E (C.add o e n k) :=
  (grew_add C o e n k).ok hok (fun b hb => by
      have hb' : C.w.heap.size + 1 ≤ b := by simpa [Ctx.add] using hb
      show upd C.fz _ _ _ = 0
      rw [upd_ne _ _ (by omega)]; exact hok.fresh b (by omega))
    (fun r e' he' hr => by
      obtain ⟨rfl, rfl⟩ := add_new he' hr
      refine ⟨he, fun _ => ?_⟩
      have h1 : (C.add o e' n k).loc C.ents.length = C.w.heap.size := upd_same _ _ _
      have h2 : (C.add o e' n k).w.heap.size = C.w.heap.size + 1 := by simp [Ctx.add]
      rw [h1, h2]; omega)
    (fun r s e1 f he1 hf hr hs _ _ _ => by rw [(add_new he1 hr).1, (add_new hf hs).1])
theorem add_loc (o : Obj) (e : Ent) (n k : Nat) : (C.add o e n k).loc C.ents.length = C.w.heap.size := upd_same _ _ _
theorem add_fz (o : Obj) (e : Ent) (n k : Nat) : (C.add o e n k).fz C.w.heap.size = n := upd_same _ _ _
theorem add_fe (o : Obj) (e : Ent) (n k : Nat) : (C.add o e n k).fe C.ents.length = k := upd_same _ _ _
theorem add_heap (o : Obj) (e : Ent) (n k : Nat) : (C.add o e n k).w.heap[C.w.heap.size]? = some o := by
  show (C.w.heap.push o)[C.w.heap.size]? = _
  rw [Array.getElem?_push, if_pos rfl]
theorem add_plain {o : Obj} {e : Ent} {n k : Nat} (h : ∀ v p s, e ≠ .tok v p s) : (C.add o e n k).plain C.ents.length := by
  refine ⟨by simp [Ctx.add], fun v p s ht => ?_⟩
  have h2 : (C.ents ++ [e])[C.ents.length]? = some (.tok v p s) := ht
  simp at h2
  exact h v p s h2

theorem grew_drewN (C : Ctx) (n : Nat) : Grew C (C.drewN n) :=
  ⟨(⟨rfl, rfl, rfl, Nat.le_refl _, fun _ _ => rfl⟩ : Below C.w.heap.size C.w { C.w with drawn := n }), rfl, fun _ _ => rfl, Nat.le_refl _, fun _ _ => rfl, fun _ _ => rfl, fun _ _ => rfl⟩
theorem ok_drewN (hok : Ok P E C) (n : Nat) : Ok P E (C.drewN n) :=
  (grew_drewN C n).ok hok (fun b hb => hok.fresh b hb)
    (fun r e he hr => by
      have : r < C.ents.length := (List.getElem?_eq_some_iff.1 he).1
      omega)
    (fun r s e f he hf hr hs => by
      have : r < C.ents.length := (List.getElem?_eq_some_iff.1 he).1
      omega)
end
end Go.Tv

/- A state of which one entry's block turns; stores. -/
namespace Go.Tv
open Go Go.RowKit

section
variable {P : Program} {E : Env} {C D : Ctx} {R : Type}

/-- One entry, no token, and its block have turned. -/
structure Turned (C D : Ctx) (r : Nat) (e e' : Ent) : Prop where
  heap : ∀ b, b ≠ C.loc r → D.w.heap[b]? = C.w.heap[b]?
  size : D.w.heap.size = C.w.heap.size
  os : D.w.os = C.w.os
  tape : D.w.tape = C.w.tape
  output : D.w.output = C.w.output
  base : D.base = C.base
  loc : D.loc = C.loc
  fz : D.fz = C.fz
  fe : D.fe = C.fe
  ents : D.ents = C.ents.set r e'
  was : C.ents[r]? = some e
  alive : e.alive
  tok : ∀ v p s, e ≠ .tok v p s
  tok' : ∀ v p s, e' ≠ .tok v p s
  fz0 : C.fz (C.loc r) = 0
  room : ∀ n, C.room (C.loc r) n → D.room (C.loc r) n

theorem Turned.get_ne {r s : Nat} {e e' : Ent} (h : Turned C D r e e') (hs : s ≠ r) : D.ents[s]? = C.ents[s]? := by
  rw [h.ents, List.getElem?_set_ne (fun x => hs x.symm)]
theorem Turned.get_same {r : Nat} {e e' : Ent} (h : Turned C D r e e') : D.ents[r]? = some e' := by
  rw [h.ents, List.getElem?_set_self]
  exact (List.getElem?_eq_some_iff.1 h.was).1
theorem Turned.tokIff {r : Nat} {e e' : Ent} (h : Turned C D r e e') (id ver : Nat) (p : Bool) (s : Nat) : D.tok id ver p s ↔ C.tok id ver p s := by
  unfold Ctx.tok
  by_cases hr : id = r
  · subst hr
    rw [h.get_same, h.was]
    exact ⟨fun x => absurd (Option.some.inj x) (h.tok' _ _ _), fun x => absurd (Option.some.inj x) (h.tok _ _ _)⟩
  · rw [h.get_ne hr]

theorem cell_heap {w w' : World} {b off : Nat} (h : w'.heap[b]? = w.heap[b]?) : w'.cell? ⟨b, off, none⟩ = w.cell? ⟨b, off, none⟩ := by
  simp only [World.cell?, h]

theorem Turned.ext (hok : Ok P E C) {r : Nat} {e e' : Ent} (h : Turned C D r e e') : Ext C D where
  base := Nat.le_of_eq h.base
  len := by rw [h.ents, List.length_set]; exact Nat.le_refl _
  plain s hs := ⟨⟨by rw [h.ents, List.length_set]; exact hs.1, fun v p z ht => hs.2 v p z ((h.tokIff s v p z).1 ht)⟩, by rw [h.loc]⟩
  past id ver := by
    rintro ⟨v, p, s, ht, hv⟩
    exact ⟨v, p, s, (h.tokIff _ _ _ _).2 ht, hv⟩
  cur id ver pin sz ht _ := by
    have h0 := (h.tokIff id ver pin sz).1 ht
    obtain ⟨_, _, _, h5⟩ := hok.obj id _ h0
    refine ⟨pin, h0, by rw [h.loc], by rw [h.fe], fun hp => by rw [h.loc, h.fe, h.fz]; exact h5 hp, fun off v _ hv => ?_⟩
    have hne : C.loc id ≠ C.loc r := by
      intro e1
      obtain rfl := hok.inj id r _ _ h0 h.was trivial h.alive e1
      have := Option.some.inj (h0.symm.trans h.was)
      exact h.tok _ _ _ this.symm
    rw [cell_heap (h.heap _ hne)]; exact hv
  frz b off v hlt hv := by
    have hne : b ≠ C.loc r := by intro e1; subst e1; rw [h.fz0] at hlt; omega
    rw [cell_heap (h.heap _ hne)]; exact hv
  fz b := by rw [h.fz]; exact Nat.le_refl _
  room b n hb := by
    by_cases hbr : b = C.loc r
    · subst hbr; exact h.room n hb
    · obtain ⟨arr, ty, fr, hh, hn⟩ := hb
      exact ⟨arr, ty, fr, by rw [h.heap b hbr]; exact hh, hn⟩

theorem Turned.adv (hok : Ok P E C) {r : Nat} {e e' : Ent} (h : Turned C D r e e') : Adv C D where
  rep _ _ hr := hr.ext (h.ext hok)
  below := by
    have hlt := (hok.lt r e h.was h.alive).1
    exact ⟨h.os, h.tape, h.output, by rw [h.size]; exact Nat.le_refl _, fun k hk => h.heap k (by omega)⟩
  base := h.base
  len := (h.ext hok).len
  fzb b _ := by rw [h.fz]
  plain r hr := (h.ext hok).plain r hr

theorem Turned.ok (hok : Ok P E C) {r : Nat} {e e' : Ent} (h : Turned C D r e e') (hnew : EntOk P E D r e') : Ok P E D where
  lt s f hf ha := by
    rw [h.base, h.loc, h.size]
    by_cases hs : s = r
    · subst hs; exact hok.lt s e h.was h.alive
    · exact hok.lt s f (by rw [← h.get_ne hs]; exact hf) ha
  inj s t f g hf hg ha hb hl := by
    rw [h.loc] at hl
    have hs : ∃ f', C.ents[s]? = some f' ∧ f'.alive := by
      by_cases hs : s = r
      · subst hs; exact ⟨e, h.was, h.alive⟩
      · exact ⟨f, by rw [← h.get_ne hs]; exact hf, ha⟩
    have ht : ∃ f', C.ents[t]? = some f' ∧ f'.alive := by
      by_cases ht : t = r
      · subst ht; exact ⟨e, h.was, h.alive⟩
      · exact ⟨g, by rw [← h.get_ne ht]; exact hg, hb⟩
    obtain ⟨f', hf', ha'⟩ := hs
    obtain ⟨g', hg', hb'⟩ := ht
    exact hok.inj s t f' g' hf' hg' ha' hb' hl
  obj s f hf := by
    by_cases hs : s = r
    · subst hs
      rw [h.get_same] at hf
      cases hf; exact hnew
    · have hf' : C.ents[s]? = some f := by rw [← h.get_ne hs]; exact hf
      refine EntOk.same (h.ext hok) (fun _ => by rw [h.loc]) (fun ha => h.heap _ (fun e1 => hs (hok.inj s r f e hf' h.was ha h.alive e1))) (fun _ => by rw [h.fz]) (fun _ => by rw [h.fe]) (hok.obj s f hf')
  fresh b hb := by rw [h.fz]; exact hok.fresh b (by rw [← h.size]; exact hb)
  base := by rw [h.base, h.size]; exact hok.base

theorem rep_one {v : Value} {t : TV} (h : Rep C v t) (ho : t.one = true) : v.oneCell' = true := by
  cases h <;> first | rfl | (cases ho)

theorem oneL_all {ts : List TV} (h : oneL ts = true) {vs : List Value} (hr : RepL C vs ts) : ∀ v ∈ vs, v.oneCell' = true := by
  induction ts generalizing vs with
  | nil => rw [hr.nil_inv]; intro v hv; cases hv
  | cons t ts ih =>
    obtain ⟨v, us, rfl, h1, h2⟩ := hr.cons_inv
    simp only [oneL, Bool.and_eq_true] at h
    intro u hu
    rcases List.mem_cons.1 hu with rfl | hu
    · exact rep_one h1 h.1
    · exact ih h.2 h2 u hu

/-- cells put into a row -/
def putCells (arr : Array Value) (off : Nat) (vs : List Value) : Array Value := (arr.toList.take off ++ vs ++ arr.toList.drop (off + vs.length)).toArray

theorem run_storeCells_at (g : Nat) (t : TypeId) (lo hi0 : Nat) (off : Nat) : ∀ (vs : List Value) (i : Nat) (cur : Array Value) (w : World), w.heap[g]? = some (.cells cur t (lo, hi0)) → (lo = hi0 ∨ cur.size ≤ lo) →
    off + i + vs.length ≤ cur.size → (∀ v ∈ vs, v.oneCell' = true) →
    (storeCells ⟨g, off, none⟩ vs i).run P w = .ok () (w.setRow g (putCells cur (off + i) vs))
  | [], i, cur, w, hg, hf, hl, _ => by
    have e : putCells cur (off + i) [] = cur := by simp [putCells]
    rw [e]
    show Result.ok () w = _
    congr 1
    unfold World.setRow
    cases w with
    | mk heap tape drawn os output =>
      congr 1
      apply Array.ext
      · simp
      · intro k h1 h2
        simp only [Array.getElem_modify]
        split
        · rename_i hk; subst hk
          have := (Array.getElem?_eq_some_iff.1 hg).2
          simp only at this; simp [this]
        · rfl
  | v :: rest, i, cur, w, hg, hf, hl, h1 => by
    have hi : off + i < cur.size := by simp at hl; omega
    have hcell : w.cell? ⟨g, off + i, none⟩ = some cur[off + i] := by simp [World.cell?, hg, hi]
    have hfro : w.frozen? ⟨g, off + i, none⟩ = false := by
      simp only [World.frozen?, hg]
      rcases hf with h | h
      · subst h; simp only [Bool.and_eq_false_iff, decide_eq_false_iff_not]; omega
      · simp only [Bool.and_eq_false_iff, decide_eq_false_iff_not]; omega
    have hst : (store ((⟨g, off, none⟩ : Addr).add i) v).run P w = .ok () (w.setRow g (cur.setIfInBounds (off + i) v)) := by
      rw [addr_add, run_store P w _ v _ (h1 v (by simp)), hcell]
      simp [hfro, setCell_eq_setRow w g (off + i) cur t (lo, hi0) v hg]
    have ih := run_storeCells_at g t lo hi0 off rest (i + 1) (cur.setIfInBounds (off + i) v) (w.setRow g (cur.setIfInBounds (off + i) v)) (setRow_heap w g cur _ t _ hg) (by simpa using hf) (by simp at hl ⊢; omega) (fun x hx => h1 x (by simp [hx]))
    simp only [storeCells, Sem.run_bind, hst, Result.andThen_ok, ih, setRow_setRow]
    congr 2
    unfold putCells
    congr 1
    have hlen : cur.toList.length = cur.size := Array.length_toList
    have hset : (cur.setIfInBounds (off + i) v).toList = cur.toList.take (off + i) ++ v :: cur.toList.drop (off + i + 1) := by
      rw [Array.toList_setIfInBounds, List.set_eq_take_append_cons_drop, if_pos (by omega)]
    rw [hset]
    have htl : (cur.toList.take (off + i)).length = off + i := by simp; omega
    rw [show off + (i + 1) = off + i + 1 by omega]
    have e1 : (cur.toList.take (off + i) ++ v :: cur.toList.drop (off + i + 1)).take (off + i + 1) = cur.toList.take (off + i) ++ [v] := by
      rw [List.take_append, htl]
      simp [show off + i + 1 - (off + i) = 1 by omega, List.take_of_length_le (show (cur.toList.take (off + i)).length ≤ off + i + 1 by omega)]
    have e2 : (cur.toList.take (off + i) ++ v :: cur.toList.drop (off + i + 1)).drop (off + i + 1 + rest.length) = cur.toList.drop (off + i + (v :: rest).length) := by
      rw [List.drop_append, htl, List.drop_eq_nil_of_le (show (cur.toList.take (off + i)).length ≤ off + i + 1 + rest.length by omega)]
      simp only [List.nil_append, List.length_cons]
      rw [show off + i + 1 + rest.length - (off + i) = rest.length + 1 by omega, List.drop_succ_cons, List.drop_drop]
      congr 1; omega
    rw [e1, e2]
    simp

theorem putCells_rep {arr : Array Value} {cs : List TV} {off : Nat} {vs : List Value} {ts : List TV} (h : RepL C arr.toList cs) (k : RepL C vs ts) : RepL C (putCells arr off vs).toList (fillAt cs off ts) := by
  unfold putCells fillAt
  rw [k.1]
  exact ((h.take off).append k).append (h.drop _)

theorem putCells_size {arr : Array Value} {off : Nat} {vs : List Value} (h : off + vs.length ≤ arr.size) : (putCells arr off vs).size = arr.size := by
  simp [putCells]; omega

/-- A box's block is written. -/
def Ctx.setBox (C : Ctx) (r : Nat) (ty : TypeId) (arr : Array Value) (cs : List TV) : Ctx := { C with w := C.w.setRow (C.loc r) arr, ents := C.ents.set r (.box ty cs) }

theorem turned_box (hok : Ok P E C) {r : Nat} {ty : TypeId} {cs cs' : List TV} (he : C.ents[r]? = some (.box ty cs)) {arr arr' : Array Value} {lo hi : Nat} (hh : C.w.heap[C.loc r]? = some (.cells arr ty (lo, hi))) (hs : arr'.size = arr.size) :
    Turned C (C.setBox r ty arr' cs') r (.box ty cs) (.box ty cs') where
  heap b hb := setRow_other C.w (C.loc r) b arr' hb
  size := setRow_size _ _ _
  os := rfl
  tape := rfl
  output := rfl
  base := rfl
  loc := rfl
  fz := rfl
  fe := rfl
  ents := rfl
  was := he
  alive := trivial
  tok _ _ _ h := nomatch h
  tok' _ _ _ h := nomatch h
  fz0 := (hok.obj r _ he).1
  room n := by
    rintro ⟨a, t, fr, h1, h2⟩
    rw [hh] at h1; cases h1
    exact ⟨arr', ty, (lo, hi), setRow_heap C.w (C.loc r) arr arr' ty (lo, hi) hh, by omega⟩

theorem box_ok (hok : Ok P E C) {r : Nat} {ty : TypeId} {cs cs' : List TV} (he : C.ents[r]? = some (.box ty cs)) {arr arr' : Array Value} {lo hi : Nat} (hh : C.w.heap[C.loc r]? = some (.cells arr ty (lo, hi)))
    (hf : lo = hi ∨ arr.size ≤ lo) (hs : arr'.size = arr.size) (hr : RepL C arr'.toList cs') : Adv C (C.setBox r ty arr' cs') ∧ Ok P E (C.setBox r ty arr' cs') := by
  have ht := turned_box hok he hh (cs' := cs') hs
  refine ⟨ht.adv hok, ht.ok hok ⟨(hok.obj r _ he).1, arr', lo, hi, setRow_heap C.w (C.loc r) arr arr' ty (lo, hi) hh, by rw [hs]; exact hf, hr.ext (ht.ext hok)⟩⟩

theorem storeK_sound (hE : EnvOk0 P E) {σ : St} (hok : Ok P E C) (hc : C.ents = σ.ents) {t : TypeId} {p v : TV} {a x : Value} {K : St → Option R} {r : R} (hp : Rep C a p) (hx : Rep C x v) (h : storeK E σ t p v K = some r) :
    ∃ D σ', (Instr.storeAt t a x).run P C.w = .ok () D.w ∧ Adv C D ∧ Ok P E D ∧ D.ents = σ'.ents ∧ Tame σ σ' ∧ K σ' = some r := by
  obtain ⟨l, hl, h1⟩ := layK_some h
  obtain ⟨i, hi, hd, hs, _⟩ := layOf_facts (hE.lay _ _ hl)
  split at h1
  · rename_i r' off
    split at h1
    · rename_i ty cs he
      obtain ⟨hb, h2⟩ := tst_none h1
      simp only [Bool.and_eq_true] at hb
      have hn := Nat.eq_of_beq_eq_true hb.1.1
      have hle := Nat.le_of_ble_eq_true hb.1.2
      have he' : C.ents[r']? = some (.box ty cs) := hc ▸ he
      obtain ⟨_, arr, lo, hi', hh, hf, hr⟩ := hok.obj _ _ he'
      have hk : v.known = true := by
        cases v <;> first | rfl | (simp [TV.cells, oneL, TV.one] at hb; done) | (simp [TV.cells, oneL, TV.one] at hb)
      have hxc := hx.cells hk
      cases hp with
      | ptr hpl =>
        have hlen : arr.size = cs.length := by rw [← Array.length_toList]; exact hr.1
        have hxl : x.cells.toList.length = l.size := by rw [hxc.1]; exact hn
        have hfit : off + 0 + x.cells.toList.length ≤ arr.size := by rw [hxl, hlen]; omega
        have hrun := run_storeCells_at (P := P) (C.loc r') ty lo hi' off x.cells.toList 0 arr C.w hh hf hfit (oneL_all hb.2 hxc)
        obtain ⟨hadv, hok'⟩ := box_ok hok he' hh hf (putCells_size (by simpa using hfit)) (putCells_rep (off := off + 0) hr hxc)
        refine ⟨_, _, ?_, hadv, hok', ?_, ?_, h2⟩
        · simp only [Instr.storeAt, Instr.sureAddr, Sem.run_bind, Sem.run_pure, Result.andThen_ok, storeVar, run_size hi]
          rw [if_neg (by rw [← Array.length_toList, hxl, hs]; simp), hrun]
          rfl
        · simp [Ctx.setBox, hc]
        · refine Tame.set he fun hb => ?_
          obtain ⟨h1, h2⟩ := ble_false_or hb
          refine ⟨h1, fun n hn hle => ?_⟩
          have := refsL_fillAt cs off v.cells
          have hle' : TV.refsL cs ≤ n := hle
          show TV.refsL (fillAt cs off v.cells) ≤ n
          omega
    · cases h1
  · cases h1
end
end Go.Tv

/- A state of which one token turns; what is kept for good. -/
namespace Go.Tv
open Go Go.RowKit

section
variable {P : Program} {E : Env} {C D : Ctx} {R : Type}

structure Retok (P : Program) (E : Env) (C D : Ctx) (id ver : Nat) (pin : Bool) (sz ver' : Nat) (pin' : Bool) (sz' : Nat) : Prop where
  was : C.tok id ver pin sz
  ents : D.ents = C.ents.set id (.tok ver' pin' sz')
  mono : ver ≤ ver'
  base : D.base = C.base
  os : D.w.os = C.w.os
  tape : D.w.tape = C.w.tape
  output : D.w.output = C.w.output
  size : C.w.heap.size ≤ D.w.heap.size
  loc : ∀ r, r ≠ id → D.loc r = C.loc r
  fe : ∀ r, r ≠ id → D.fe r = C.fe r
  heap : ∀ b, b < C.w.heap.size → b ≠ C.loc id → D.w.heap[b]? = C.w.heap[b]?
  fz : ∀ b, b < C.w.heap.size → b ≠ C.loc id → D.fz b = C.fz b
  cells : ∀ off v, off < C.fz (C.loc id) → C.w.cell? ⟨C.loc id, off, none⟩ = some v → D.w.cell? ⟨C.loc id, off, none⟩ = some v
  fzold : C.fz (C.loc id) ≤ D.fz (C.loc id)
  room : ∀ n, C.room (C.loc id) n → D.room (C.loc id) n
  same : ver' = ver → sz' = sz ∧ D.loc id = C.loc id ∧ D.fe id = C.fe id ∧ ∀ off v, off < C.fe id → C.w.cell? ⟨C.loc id, off, none⟩ = some v → D.w.cell? ⟨C.loc id, off, none⟩ = some v
  lt : D.base ≤ D.loc id ∧ D.loc id < D.w.heap.size
  apart : ∀ s e, s ≠ id → C.ents[s]? = some e → e.alive → C.loc s ≠ D.loc id
  pinned : pin' = true → D.fe id ≤ D.fz (D.loc id)
  fresh : ∀ b, D.w.heap.size ≤ b → D.fz b = 0

section
variable {id ver sz ver' sz' : Nat} {pin pin' : Bool}
theorem Retok.get_ne (h : Retok P E C D id ver pin sz ver' pin' sz') {s : Nat} (hs : s ≠ id) : D.ents[s]? = C.ents[s]? := by rw [h.ents, List.getElem?_set_ne (fun x => hs x.symm)]
theorem Retok.get_same (h : Retok P E C D id ver pin sz ver' pin' sz') : D.ents[id]? = some (.tok ver' pin' sz') := by
  rw [h.ents, List.getElem?_set_self]
  exact (List.getElem?_eq_some_iff.1 h.was).1

theorem Retok.cell_ne (h : Retok P E C D id ver pin sz ver' pin' sz') {b off : Nat} {v : Value} (hb : b ≠ C.loc id) (hv : C.w.cell? ⟨b, off, none⟩ = some v) : D.w.cell? ⟨b, off, none⟩ = some v := by
  rw [cell_heap (h.heap b (cell_lt hv) hb)]; exact hv

theorem Retok.ext (h : Retok P E C D id ver pin sz ver' pin' sz') (hok : Ok P E C) : Ext C D where
  base := Nat.le_of_eq h.base
  len := by rw [h.ents, List.length_set]; exact Nat.le_refl _
  plain r hr := by
    have hne : r ≠ id := by rintro rfl; exact hr.2 _ _ _ h.was
    exact ⟨⟨by rw [h.ents, List.length_set]; exact hr.1, fun v p s ht => hr.2 v p s (by unfold Ctx.tok at *; rw [← h.get_ne hne]; exact ht)⟩, h.loc r hne⟩
  past i v := by
    rintro ⟨w, p, s, ht, hv⟩
    by_cases hi : i = id
    · subst hi
      have := Option.some.inj (ht.symm.trans h.was)
      cases this
      exact ⟨ver', pin', sz', h.get_same, Nat.le_trans hv h.mono⟩
    · exact ⟨w, p, s, by unfold Ctx.tok at *; rw [h.get_ne hi]; exact ht, hv⟩
  cur i v p s ht hpast := by
    by_cases hi : i = id
    · subst hi
      have := Option.some.inj (ht.symm.trans h.get_same)
      cases this
      obtain ⟨w, q, u, hw, hle⟩ := hpast
      have := Option.some.inj (hw.symm.trans h.was)
      cases this
      have hv : ver' = ver := Nat.le_antisymm hle h.mono
      subst hv
      obtain ⟨h0, h1, h2, h3⟩ := h.same rfl
      subst h0
      exact ⟨pin, h.was, h1, h2, h.pinned, h3⟩
    · have h0 : C.tok i v p s := by unfold Ctx.tok at *; rw [← h.get_ne hi]; exact ht
      have hlive := hok.lt i _ h0 trivial
      have hne : C.loc i ≠ C.loc id := fun e => hi (hok.inj i id _ _ h0 h.was trivial trivial e)
      obtain ⟨_, _, _, h5⟩ := hok.obj i _ h0
      refine ⟨p, h0, h.loc i hi, h.fe i hi, fun hp => ?_, fun off u _ hu => h.cell_ne hne hu⟩
      rw [h.loc i hi, h.fe i hi, h.fz _ hlive.2 hne]; exact h5 hp
  frz b off v hlt hv := by
    by_cases hb : b = C.loc id
    · subst hb; exact h.cells off v hlt hv
    · exact h.cell_ne hb hv
  fz b := by
    by_cases hb : b = C.loc id
    · subst hb; exact h.fzold
    · rcases Nat.lt_or_ge b C.w.heap.size with hlt | hge
      · rw [h.fz b hlt hb]; exact Nat.le_refl _
      · rw [hok.fresh b hge]; exact Nat.zero_le _
  room b n hr := by
    by_cases hb : b = C.loc id
    · subst hb; exact h.room n hr
    · obtain ⟨arr, ty, fr, hh, hn⟩ := hr
      exact ⟨arr, ty, fr, by rw [h.heap b (Array.getElem?_eq_some_iff.1 hh).1 hb]; exact hh, hn⟩

theorem Retok.adv (h : Retok P E C D id ver pin sz ver' pin' sz') (hok : Ok P E C) : Adv C D where
  rep _ _ hr := hr.ext (h.ext hok)
  below := by
    have hlt := hok.lt id _ h.was trivial
    exact ⟨h.os, h.tape, h.output, h.size, fun k hk => h.heap k (by omega) (by omega)⟩
  base := h.base
  len := (h.ext hok).len
  fzb b hb := by
    have hlt := hok.lt id _ h.was trivial
    exact h.fz b (by omega) (by omega)
  plain r hr := (h.ext hok).plain r hr

theorem Retok.ok (h : Retok P E C D id ver pin sz ver' pin' sz') (hok : Ok P E C) (hnew : EntOk P E D id (.tok ver' pin' sz')) : Ok P E D where
  lt s e he ha := by
    by_cases hs : s = id
    · subst hs; exact h.lt
    · have := hok.lt s e (by rw [← h.get_ne hs]; exact he) ha
      rw [h.base, h.loc s hs]
      exact ⟨this.1, Nat.lt_of_lt_of_le this.2 h.size⟩
  inj s t e f he hf ha hb hl := by
    by_cases hs : s = id <;> by_cases ht : t = id
    · rw [hs, ht]
    · exfalso
      rw [hs, h.loc t ht] at hl
      exact h.apart t f ht (by rw [← h.get_ne ht]; exact hf) hb hl.symm
    · exfalso
      rw [ht, h.loc s hs] at hl
      exact h.apart s e hs (by rw [← h.get_ne hs]; exact he) ha hl
    · rw [h.loc s hs, h.loc t ht] at hl
      exact hok.inj s t e f (by rw [← h.get_ne hs]; exact he) (by rw [← h.get_ne ht]; exact hf) ha hb hl
  obj s e he := by
    by_cases hs : s = id
    · subst hs
      rw [h.get_same] at he
      cases he; exact hnew
    · have he' : C.ents[s]? = some e := by rw [← h.get_ne hs]; exact he
      have hne : e.alive → C.loc s ≠ C.loc id := fun ha e1 => hs (hok.inj s id _ _ he' h.was ha trivial e1)
      exact EntOk.same (h.ext hok) (fun _ => h.loc s hs) (fun ha => h.heap _ (hok.lt s e he' ha).2 (hne ha)) (fun ha => h.fz _ (hok.lt s e he' ha).2 (hne ha)) (fun _ => h.fe s hs) (hok.obj s e he')
  fresh := h.fresh
  base := by rw [h.base]; exact Nat.le_trans hok.base h.size
end

/-- What a token holds is kept for good. -/
def Ctx.pin (C : Ctx) (id ver sz : Nat) : Ctx := { C with ents := C.ents.set id (.tok ver true sz), fz := upd C.fz (C.loc id) (C.fe id) }

theorem retok_pin (hok : Ok P E C) {id ver sz : Nat} {p : Bool} (ht : C.tok id ver p sz) : Retok P E C (C.pin id ver sz) id ver p sz ver true sz := by
  have hlt := hok.lt id _ ht trivial
  obtain ⟨_, h3, h4, h5⟩ := hok.obj id _ ht
  exact {
    was := ht
    ents := rfl
    mono := Nat.le_refl _
    base := rfl
    os := rfl
    tape := rfl
    output := rfl
    size := Nat.le_refl _
    loc := fun _ _ => rfl
    fe := fun _ _ => rfl
    heap := fun _ _ _ => rfl
    fz := fun b _ hb => upd_ne _ _ hb
    cells := fun _ _ _ h => h
    fzold := by show _ ≤ upd C.fz _ _ _; rw [upd_same]; exact h4
    room := fun _ h => h
    same := fun _ => ⟨rfl, rfl, rfl, fun _ _ _ h => h⟩
    lt := hlt
    apart := fun s e hs he ha e1 => hs (hok.inj s id _ _ he ht ha trivial e1)
    pinned := fun _ => by show C.fe id ≤ upd C.fz (C.loc id) (C.fe id) (C.loc id); rw [upd_same]; exact Nat.le_refl _
    fresh := fun b hb => by
      show upd C.fz _ _ _ = 0
      have hb' : C.w.heap.size ≤ b := hb
      rw [upd_ne _ _ (by omega)]; exact hok.fresh b hb }

theorem pin_ok (hok : Ok P E C) {id ver sz : Nat} {p : Bool} (ht : C.tok id ver p sz) : Adv C (C.pin id ver sz) ∧ Ok P E (C.pin id ver sz) := by
  have h := retok_pin hok ht
  obtain ⟨h1, _, h4, _⟩ := hok.obj id _ ht
  refine ⟨h.adv hok, h.ok hok ⟨h1, (fun x => nomatch x), ?_, h.pinned⟩⟩
  show upd C.fz (C.loc id) (C.fe id) (C.loc id) ≤ C.fe id
  rw [upd_same]; exact Nat.le_refl _

/-- The pinned token's own value, without the token. -/
theorem Rep.unpin (hok : Ok P E C) {id ver sz : Nat} {p : Bool} (ht : C.tok id ver p sz) {v : Value} {es : List TV} (hr : Rep C v (.slice (.tk id ver) es)) : Rep (C.pin id ver sz) v (.slice .sh es) := by
  have hx := (retok_pin hok ht).ext hok
  have hr' := hr.ext hx
  have hcur : (C.pin id ver sz).cur (.tk id ver) := ⟨true, sz, (retok_pin hok ht).get_same⟩
  cases hr' with
  | slice z f hl hcap he hs hc hrep =>
    refine .slice z f hl hcap he ⟨hs.none, fun ad ha => ⟨(hs.some ad ha).1, fun h0 => ?_⟩, (fun x => nomatch x), (fun _ _ x => nomatch x)⟩ (fun ad i j ha _ hi hj => hc ad i j ha hcur hi hj) hrep
    exact (((hs.some ad ha).2 h0).2 true sz (retok_pin hok ht).get_same).2.2 rfl
theorem Rep.unpinV (hok : Ok P E C) {id ver sz : Nat} {p : Bool} (ht : C.tok id ver p sz) {v : Value} {cs : List TV} (hr : Rep C v (.view (.tk id ver) cs)) : Rep (C.pin id ver sz) v (.view .sh cs) := by
  have hx := (retok_pin hok ht).ext hok
  have hr' := hr.ext hx
  have hcur : (C.pin id ver sz).cur (.tk id ver) := ⟨true, sz, (retok_pin hok ht).get_same⟩
  cases hr' with
  | view f hh hz hc hrep =>
    exact .view f ((hh.2 true sz (retok_pin hok ht).get_same).2.2 rfl) hz (fun _ j hj => hc hcur j hj) hrep

/-- A box that is kept for good. -/
def Ctx.ice (C : Ctx) (r : Nat) (cs : List TV) (n : Nat) : Ctx := { C with ents := C.ents.set r (.ice cs), fz := upd C.fz (C.loc r) n }

theorem ice_ok (hok : Ok P E C) {r : Nat} {ty : TypeId} {cs : List TV} (he : C.ents[r]? = some (.box ty cs)) : Adv C (C.ice r cs cs.length) ∧ Ok P E (C.ice r cs cs.length) := by
  have hlt := hok.lt r _ he trivial
  obtain ⟨h0, arr, lo, hi, hh, hf, hr⟩ := hok.obj r _ he
  have hne : ∀ s, s ≠ r → (C.ice r cs cs.length).ents[s]? = C.ents[s]? := fun s hs => by
    show (C.ents.set r _)[s]? = _
    rw [List.getElem?_set_ne (fun x => hs x.symm)]
  have hsame : (C.ice r cs cs.length).ents[r]? = some (.ice cs) := by
    show (C.ents.set r _)[r]? = _
    rw [List.getElem?_set_self (List.getElem?_eq_some_iff.1 he).1]
  have htok : ∀ i v p s, (C.ice r cs cs.length).tok i v p s ↔ C.tok i v p s := fun i v p s => by
    unfold Ctx.tok
    by_cases hi : i = r
    · subst hi; rw [hsame, he]
      exact ⟨(fun x => nomatch x), (fun x => nomatch x)⟩
    · rw [hne i hi]
  have hext : Ext C (C.ice r cs cs.length) := {
    base := Nat.le_refl _
    len := by show C.ents.length ≤ (C.ents.set r _).length; rw [List.length_set]; exact Nat.le_refl _
    plain := fun s hs => ⟨⟨by show s < (C.ents.set r _).length; rw [List.length_set]; exact hs.1, fun v p z ht => hs.2 v p z ((htok _ _ _ _).1 ht)⟩, rfl⟩
    past := fun i v => by
      rintro ⟨w, p, s, ht, hv⟩
      exact ⟨w, p, s, (htok _ _ _ _).2 ht, hv⟩
    cur := fun i v p s ht _ => by
      have ht0 := (htok _ _ _ _).1 ht
      obtain ⟨_, _, _, h5⟩ := hok.obj i _ ht0
      have hd : C.loc i ≠ C.loc r := by
        intro e1
        obtain rfl := hok.inj i r _ _ ht0 he trivial trivial e1
        exact nomatch (ht0.symm.trans he)
      refine ⟨p, ht0, rfl, rfl, fun hp => ?_, fun _ _ _ h => h⟩
      show C.fe i ≤ upd C.fz (C.loc r) cs.length (C.loc i)
      rw [upd_ne _ _ hd]; exact h5 hp
    frz := fun _ _ _ _ h => h
    fz := fun b => by
      show _ ≤ upd C.fz _ _ _
      by_cases hb : b = C.loc r
      · subst hb; rw [h0]; exact Nat.zero_le _
      · rw [upd_ne _ _ hb]; exact Nat.le_refl _
    room := fun _ _ h => h }
  refine ⟨⟨fun _ _ hr => hr.ext hext, Below.refl _ _, rfl, hext.len, fun b hb => upd_ne _ _ (by omega), fun s hs => hext.plain s hs⟩, ?_⟩
  exact {
    lt := fun s e hs ha => by
      by_cases hsr : s = r
      · subst hsr; exact hlt
      · exact hok.lt s e (by rw [← hne s hsr]; exact hs) ha
    inj := fun s t e f hs ht ha hb hl => by
      have hs' : ∃ e', C.ents[s]? = some e' ∧ e'.alive := by
        by_cases hsr : s = r
        · subst hsr; exact ⟨_, he, trivial⟩
        · exact ⟨e, by rw [← hne s hsr]; exact hs, ha⟩
      have ht' : ∃ e', C.ents[t]? = some e' ∧ e'.alive := by
        by_cases htr : t = r
        · subst htr; exact ⟨_, he, trivial⟩
        · exact ⟨f, by rw [← hne t htr]; exact ht, hb⟩
      obtain ⟨e1, h1, a1⟩ := hs'
      obtain ⟨e2, h2, a2⟩ := ht'
      exact hok.inj s t e1 e2 h1 h2 a1 a2 hl
    obj := fun s e hs => by
      by_cases hsr : s = r
      · subst hsr
        rw [hsame] at hs; cases hs
        refine ⟨arr, ty, (lo, hi), hh, ?_, hr.ext hext⟩
        show arr.size ≤ upd C.fz _ _ _
        show arr.size ≤ upd C.fz (C.loc s) cs.length (C.loc s)
        rw [upd_same, ← hr.1, Array.length_toList]; exact Nat.le_refl _
      · have hs' : C.ents[s]? = some e := by rw [← hne s hsr]; exact hs
        exact EntOk.same hext (fun _ => rfl) (fun _ => rfl) (fun ha => upd_ne _ _ (fun e1 => hsr (hok.inj s r _ _ hs' he ha trivial e1))) (fun _ => rfl) (hok.obj s e hs')
    fresh := fun b hb => by
      show upd C.fz _ _ _ = 0
      have hb' : C.w.heap.size ≤ b := hb
      rw [upd_ne _ _ (by omega)]; exact hok.fresh b hb
    base := hok.base }
end
end Go.Tv

/- What is kept for good. -/
namespace Go.Tv
open Go Go.RowKit

mutual
theorem flat_refs : ∀ {v : TV}, v.flat = true → v.refs = 0
  | .undef, h => by simp [TV.flat] at h
  | .bool _, _ | .int _ _, _ | .str _, _ | .nilp, _ | .nilm, _ | .nilf, _ | .nili, _ => rfl
  | .ptr _ _, h => by simp [TV.flat] at h
  | .view o _, h => by cases o <;> first | rfl | (simp [TV.flat] at h)
  | .slice o _, h => by cases o <;> first | rfl | (simp [TV.flat] at h)
  | .bsl _ _ _ _ _, h => by simp [TV.flat] at h
  | .map _, h => by simp [TV.flat] at h
  | .func fn a b, h => by
    simp only [TV.flat, Bool.and_eq_true] at h
    simp only [TV.refs, flat_refsL h.1.2, flat_refsL h.2, Nat.eq_of_beq_eq_true h.1.1, Nat.max_self]
  | .iface _ v, h => by
    simp only [TV.flat] at h
    simp only [TV.refs, flat_refs h]
  | .agg cs, h => by
    simp only [TV.flat] at h
    simp only [TV.refs, flat_refsL h]
  | .tuple cs, h => by
    simp only [TV.flat] at h
    simp only [TV.refs, flat_refsL h]
theorem flat_refsL : ∀ {vs : List TV}, TV.flatL vs = true → TV.refsL vs = 0
  | [], _ => rfl
  | v :: vs, h => by
    simp only [TV.flatL, Bool.and_eq_true] at h
    simp only [TV.refsL, flat_refs h.1, flat_refsL h.2, Nat.max_self]
end

theorem refsL_zero {vs : List TV} : TV.refsL vs = 0 ↔ ∀ v ∈ vs, v.refs = 0 := by
  induction vs with
  | nil => simp [TV.refsL]
  | cons v vs ih =>
    simp only [TV.refsL, List.mem_cons, forall_eq_or_imp, ← ih]
    omega
theorem flatL_iff {vs : List TV} : TV.flatL vs = true ↔ ∀ v ∈ vs, v.flat = true := by
  induction vs with
  | nil => simp [TV.flatL]
  | cons v vs ih => simp only [TV.flatL, Bool.and_eq_true, List.mem_cons, forall_eq_or_imp, ih]
theorem oneL_iff {vs : List TV} : oneL vs = true ↔ ∀ v ∈ vs, v.one = true := by
  induction vs with
  | nil => simp [oneL]
  | cons v vs ih => simp only [oneL, Bool.and_eq_true, List.mem_cons, forall_eq_or_imp, ih]

mutual
theorem flat_noex : ∀ {v : TV}, v.flat = true → v.noex = true
  | .slice .ex (_ :: _), h => nomatch h
  | .slice .ex [], _ => rfl
  | .slice .sh _, _ => rfl
  | .slice (.tk _ _) _, _ => rfl
  | .func _ a b, h => by
    simp only [TV.flat, Bool.and_eq_true] at h
    simp only [TV.noex, Bool.and_eq_true]
    exact ⟨flat_noexL h.1.2, flat_noexL h.2⟩
  | .iface _ v, h => flat_noex (v := v) h
  | .agg cs, h => flat_noexL (vs := cs) h
  | .tuple cs, h => flat_noexL (vs := cs) h
  | .undef, _ | .bool _, _ | .int _ _, _ | .str _, _ | .nilp, _ | .ptr _ _, _ | .view _ _, _ | .bsl _ _ _ _ _, _ | .nilm, _ | .map _, _ | .nilf, _ | .nili, _ => rfl
theorem flat_noexL : ∀ {vs : List TV}, TV.flatL vs = true → TV.noexL vs = true
  | [], _ => rfl
  | v :: vs, h => by
    simp only [TV.flatL, Bool.and_eq_true] at h
    simp only [TV.noexL, Bool.and_eq_true]
    exact ⟨flat_noex h.1, flat_noexL h.2⟩
end
theorem flat_bare {vs : List TV} (h : TV.flatL vs = true) : Bare vs := ⟨flat_refsL h, flat_noexL h⟩

theorem chunks_length (ag : Bool) (sz : Nat) : ∀ (n : Nat) (cs : List TV), (chunks ag sz n cs).length = n
  | 0, _ => rfl
  | n + 1, cs => by simp [chunks, chunks_length ag sz n]
theorem chunks_get (ag : Bool) (sz : Nat) : ∀ (n : Nat) (cs : List TV) (i : Nat), i < n →
    (chunks ag sz n cs)[i]? = some (match ag with | true => TV.agg ((cs.drop (i * sz)).take sz) | false => (cs.drop (i * sz)).headD .undef)
  | n + 1, cs, 0, _ => by cases ag <;> simp [chunks]
  | n + 1, cs, i + 1, h => by
    have := chunks_get ag sz n (cs.drop sz) i (by omega)
    simp only [chunks, List.getElem?_cons_succ, this, List.drop_drop]
    rw [show sz + i * sz = (i + 1) * sz by rw [Nat.succ_mul]; omega]

theorem one_cells {e : TV} (h : e.one = true) : e.cells = [e] := by cases e <;> first | rfl | (cases h)

section
variable {P : Program} {E : Env} {C D : Ctx} {R : Type}

theorem chunks_cells {ag : Bool} {off len sz : Nat} {cs : List TV} (hfit : fitK ag off len sz cs = true) {i : Nat} (hi : i < len) {e : TV} (he : (chunks ag sz len (cs.drop off))[i]? = some e) :
    e.cells = (cs.drop (off + i * sz)).take sz ∧ e.cells.length = sz := by
  simp only [fitK, Bool.and_eq_true] at hfit
  obtain ⟨⟨⟨hflat, hone⟩, hle⟩, hag⟩ := hfit
  have hle' := Nat.le_of_ble_eq_true hle
  have hmul : (i + 1) * sz ≤ len * sz := Nat.mul_le_mul_right sz hi
  rw [Nat.succ_mul] at hmul
  rw [chunks_get ag sz len _ i hi, List.drop_drop] at he
  have hl : ((cs.drop (off + i * sz)).take sz).length = sz := by simp; omega
  cases ag with
  | true => cases he; exact ⟨rfl, hl⟩
  | false =>
    obtain rfl := Nat.eq_of_beq_eq_true hag
    cases hd : cs.drop (off + i * 1) with
    | nil =>
      rw [hd] at hl; simp at hl
    | cons c rest =>
      rw [hd] at he
      cases he
      have hc : c ∈ cs := List.mem_of_mem_drop (by rw [hd]; exact List.mem_cons_self)
      simp only [List.headD_cons]
      rw [one_cells (oneL_iff.1 hone c hc)]
      exact ⟨rfl, rfl⟩

/-- Cells that are kept for good, as a slice. -/
theorem Rep.ofCells {B off0 : Nat} {cs : List TV} (f : Nat → Value) (hcells : ∀ j, j < cs.length → C.w.cell? ⟨B, off0 + j, none⟩ = some (f j)) (hr : ∀ (j : Nat) (c : TV), cs[j]? = some c → Rep C (f j) c) (hz : off0 + cs.length ≤ C.fz B)
    {ag : Bool} {off off' len sz cap : Nat} (hfit : fitK ag off len sz cs = true) (hcap : len ≤ cap) (hoff : len ≠ 0 → off' = off0 + off) :
    Rep C (.slice (some ⟨B, off', none⟩) len cap) (.slice .sh (chunks ag sz len (cs.drop off))) := by
  have hfit' := hfit
  simp only [fitK, Bool.and_eq_true] at hfit'
  obtain ⟨⟨⟨hflat, hone⟩, hle⟩, _⟩ := hfit'
  have hle' := Nat.le_of_ble_eq_true hle
  have hlt : ∀ i j, i < len → j < sz → off + (i * sz + j) < cs.length := by
    intro i j hi hj
    have hmul : (i + 1) * sz ≤ len * sz := Nat.mul_le_mul_right sz hi
    rw [Nat.succ_mul] at hmul
    omega
  refine .slice sz (fun i j => f (off + (i * sz + j))) (chunks_length _ _ _ _).symm hcap (fun e he => ?_) ⟨(fun x => nomatch x), fun ad ha => ?_, (fun x => nomatch x), (fun _ _ x => nomatch x)⟩ (fun ad i j ha _ hi hj => ?_) (fun i j e c he hc => ?_)
  · obtain ⟨i, hi, he'⟩ := List.getElem_of_mem he
    rw [chunks_length] at hi
    have he2 : (chunks ag sz len (cs.drop off))[i]? = some e := by rw [← he']; exact List.getElem?_eq_getElem _
    obtain ⟨h1, h2⟩ := chunks_cells hfit hi he2
    refine ⟨h2, ?_, ?_⟩
    · rw [h1]; exact ((flat_bare hflat).drop _).take _
    · rw [h1, oneL_iff]
      intro v hv
      exact oneL_iff.1 hone v (List.mem_of_mem_drop (List.mem_of_mem_take hv))
  · cases ha
    refine ⟨rfl, fun h0 => ?_⟩
    show off' + len * sz ≤ C.fz B
    rw [hoff h0]; omega
  · cases ha
    have hl0 : len ≠ 0 := by omega
    rw [hoff hl0, Nat.add_assoc]
    exact hcells _ (hlt i j hi hj)
  · have hi : i < len := by
      have := (List.getElem?_eq_some_iff.1 he).1
      rwa [chunks_length] at this
    obtain ⟨h1, h2⟩ := chunks_cells hfit hi he
    have hj : j < sz := by rw [← h2]; exact (List.getElem?_eq_some_iff.1 hc).1
    rw [h1, List.getElem?_take, if_pos hj, List.getElem?_drop, show off + i * sz + j = off + (i * sz + j) by omega] at hc
    exact hr _ _ hc

theorem Rep.ofIce {B : Nat} {arr : Array Value} {ty : TypeId} {fr : Nat × Nat} {cs : List TV} (hh : C.w.heap[B]? = some (.cells arr ty fr)) (hr : RepL C arr.toList cs) (hz : arr.size ≤ C.fz B)
    {ag : Bool} {off off' len sz cap : Nat} (hfit : fitK ag off len sz cs = true) (hcap : len ≤ cap) (hoff : len ≠ 0 → off' = off) : Rep C (.slice (some ⟨B, off', none⟩) len cap) (.slice .sh (chunks ag sz len (cs.drop off))) := by
  have hsz : cs.length = arr.size := by rw [← hr.1, Array.length_toList]
  refine Rep.ofCells (off0 := 0) (fun j => (arr.toList[j]?).getD Go.undef) (fun j hj => ?_) (fun j c hc => ?_) (by omega) hfit hcap (fun h0 => by rw [hoff h0, Nat.zero_add])
  · have h2 : j < arr.toList.length := by rw [hr.1]; exact hj
    rw [List.getElem?_eq_getElem h2, Nat.zero_add]
    simp only [World.cell?, hh, Option.getD_some]
    rw [← Array.getElem?_toList, List.getElem?_eq_getElem h2]
    rfl
  · have h2 : j < arr.toList.length := by rw [hr.1]; exact (List.getElem?_eq_some_iff.1 hc).1
    rw [List.getElem?_eq_getElem h2]
    exact hr.2 j _ c (List.getElem?_eq_getElem h2) hc

theorem Rep.unex {v : Value} {es : List TV} (h : Rep C v (.slice .ex es)) : Rep C v (.slice .sh es) := by
  cases h with
  | slice z f hl hcap he hs hc hrep => exact .slice z f hl hcap he ⟨hs.none, hs.some, (fun x => nomatch x), (fun _ _ x => nomatch x)⟩ hc hrep

/-- What a step over values comes to. -/
def Kept (P : Program) (E : Env) (C : Ctx) (σ : St) (x : Value) (K : TV → St → Option R) (r : R) : Prop :=
  ∃ D v σ', Adv C D ∧ Ok P E D ∧ D.w = C.w ∧ D.ents = σ'.ents ∧ Tame σ σ' ∧ Rep D x v ∧ K v σ' = some r
def KeptL (P : Program) (E : Env) (C : Ctx) (σ : St) (xs : List Value) (K : List TV → St → Option R) (r : R) : Prop :=
  ∃ D vs σ', Adv C D ∧ Ok P E D ∧ D.w = C.w ∧ D.ents = σ'.ents ∧ Tame σ σ' ∧ RepL D xs vs ∧ K vs σ' = some r

mutual
theorem freezeK_sound : ∀ (v : TV) {C : Ctx} {σ : St} {x : Value} {K : TV → St → Option R} {r : R}, Ok P E C → C.ents = σ.ents → Rep C x v → freezeK v σ K = some r → Kept P E C σ x K r
  | .slice (.tk id ver) es, C, σ, x, K, r, hok, hc, hx, h => by
    unfold freezeK at h
    obtain ⟨pin, sz, ht, h⟩ := curK_some h
    have ht' : C.tok id ver pin sz := by unfold Ctx.tok; rw [hc]; exact ht
    obtain ⟨ha, ho⟩ := pin_ok hok ht'
    exact ⟨_, _, σ.put id (.tok ver true sz), ha, ho, rfl, by simp [Ctx.pin, St.put, hc], Tame.put ht (fun _ _ _ => Nat.zero_le _), hx.unpin hok ht', h⟩
  | .view (.tk id ver) es, C, σ, x, K, r, hok, hc, hx, h => by
    unfold freezeK at h
    obtain ⟨pin, sz, ht, h⟩ := curK_some h
    have ht' : C.tok id ver pin sz := by unfold Ctx.tok; rw [hc]; exact ht
    obtain ⟨ha, ho⟩ := pin_ok hok ht'
    exact ⟨_, _, σ.put id (.tok ver true sz), ha, ho, rfl, by simp [Ctx.pin, St.put, hc], Tame.put ht (fun _ _ _ => Nat.zero_le _), hx.unpinV hok ht', h⟩
  | .bsl rr off len sz ag, C, σ, x, K, r, hok, hc, hx, h => by
    unfold freezeK at h
    split at h
    · rename_i ty cs he
      have he' : C.ents[rr]? = some (.box ty cs) := by rw [hc]; exact he
      obtain ⟨hfit, h⟩ | ⟨_, h⟩ := tst_some h
      · obtain ⟨ha, ho⟩ := ice_ok hok he'
        cases hx with
        | bsl hp hl hoo =>
          have hs : (C.ice rr cs cs.length).ents[rr]? = some (.ice cs) := by
            show (C.ents.set rr _)[rr]? = _
            rw [List.getElem?_set_self (List.getElem?_eq_some_iff.1 he').1]
          obtain ⟨arr, ty', fr, h1, h2, h3⟩ := ho.obj rr _ hs
          exact ⟨_, _, σ.put rr (.ice cs), ha, ho, rfl, by simp [Ctx.ice, St.put, hc], Tame.put he (fun _ _ h => h), Rep.ofIce h1 h3 h2 hfit hl hoo, h⟩
      · exact ⟨C, _, σ, Adv.refl C, hok, rfl, hc, Tame.refl σ, hx, h⟩
    · rename_i cs he
      have he' : C.ents[rr]? = some (.ice cs) := by rw [hc]; exact he
      obtain ⟨hfit, h⟩ := tst_none h
      cases hx with
      | bsl hp hl hoo =>
        obtain ⟨arr, ty', fr, h1, h2, h3⟩ := hok.obj rr _ he'
        exact ⟨C, _, σ, Adv.refl C, hok, rfl, hc, Tame.refl σ, Rep.ofIce h1 h3 h2 hfit hl hoo, h⟩
    · cases h
  | .iface t v, C, σ, x, K, r, hok, hc, hx, h => by
    unfold freezeK at h
    cases hx with
    | iface hv =>
      obtain ⟨D, v', σ', h1, h2, h3, h4, h5, h6, h7⟩ := freezeK_sound v hok hc hv h
      exact ⟨D, _, σ', h1, h2, h3, h4, h5, .iface h6, h7⟩
  | .agg cs, C, σ, x, K, r, hok, hc, hx, h => by
    unfold freezeK at h
    obtain ⟨X, rfl, hX⟩ := hx.agg_inv
    obtain ⟨D, v', σ', h1, h2, h3, h4, h5, h6, h7⟩ := freezeLK_sound cs hok hc hX h
    exact ⟨D, _, σ', h1, h2, h3, h4, h5, Rep.agg_iff.2 h6, h7⟩
  | .tuple cs, C, σ, x, K, r, hok, hc, hx, h => by
    unfold freezeK at h
    cases hx with
    | tuple a b =>
      obtain ⟨D, v', σ', h1, h2, h3, h4, h5, h6, h7⟩ := freezeLK_sound cs hok hc ⟨a, b⟩ h
      exact ⟨D, _, σ', h1, h2, h3, h4, h5, Rep.tuple_iff.2 h6, h7⟩
  | .slice .sh es, C, σ, x, K, r, hok, hc, hx, h => ⟨C, _, σ, Adv.refl C, hok, rfl, hc, Tame.refl σ, hx, h⟩
  | .slice .ex [], C, σ, x, K, r, hok, hc, hx, h => ⟨C, _, σ, Adv.refl C, hok, rfl, hc, Tame.refl σ, hx, h⟩
  | .slice .ex (e :: es), C, σ, x, K, r, hok, hc, hx, h => ⟨C, _, σ, Adv.refl C, hok, rfl, hc, Tame.refl σ, hx.unex, h⟩
  | .view .sh es, C, σ, x, K, r, hok, hc, hx, h => ⟨C, _, σ, Adv.refl C, hok, rfl, hc, Tame.refl σ, hx, h⟩
  | .view .ex es, C, σ, x, K, r, hok, hc, hx, h => ⟨C, _, σ, Adv.refl C, hok, rfl, hc, Tame.refl σ, hx, h⟩
  | .undef, C, σ, x, K, r, hok, hc, hx, h => ⟨C, _, σ, Adv.refl C, hok, rfl, hc, Tame.refl σ, hx, h⟩
  | .bool _, C, σ, x, K, r, hok, hc, hx, h => ⟨C, _, σ, Adv.refl C, hok, rfl, hc, Tame.refl σ, hx, h⟩
  | .int _ _, C, σ, x, K, r, hok, hc, hx, h => ⟨C, _, σ, Adv.refl C, hok, rfl, hc, Tame.refl σ, hx, h⟩
  | .str _, C, σ, x, K, r, hok, hc, hx, h => ⟨C, _, σ, Adv.refl C, hok, rfl, hc, Tame.refl σ, hx, h⟩
  | .nilp, C, σ, x, K, r, hok, hc, hx, h => ⟨C, _, σ, Adv.refl C, hok, rfl, hc, Tame.refl σ, hx, h⟩
  | .ptr _ _, C, σ, x, K, r, hok, hc, hx, h => ⟨C, _, σ, Adv.refl C, hok, rfl, hc, Tame.refl σ, hx, h⟩
  | .nilm, C, σ, x, K, r, hok, hc, hx, h => ⟨C, _, σ, Adv.refl C, hok, rfl, hc, Tame.refl σ, hx, h⟩
  | .map _, C, σ, x, K, r, hok, hc, hx, h => ⟨C, _, σ, Adv.refl C, hok, rfl, hc, Tame.refl σ, hx, h⟩
  | .func _ _ _, C, σ, x, K, r, hok, hc, hx, h => ⟨C, _, σ, Adv.refl C, hok, rfl, hc, Tame.refl σ, hx, h⟩
  | .nilf, C, σ, x, K, r, hok, hc, hx, h => ⟨C, _, σ, Adv.refl C, hok, rfl, hc, Tame.refl σ, hx, h⟩
  | .nili, C, σ, x, K, r, hok, hc, hx, h => ⟨C, _, σ, Adv.refl C, hok, rfl, hc, Tame.refl σ, hx, h⟩
theorem freezeLK_sound : ∀ (vs : List TV) {C : Ctx} {σ : St} {xs : List Value} {K : List TV → St → Option R} {r : R}, Ok P E C → C.ents = σ.ents → RepL C xs vs → freezeLK vs σ K = some r → KeptL P E C σ xs K r
  | [], C, σ, xs, K, r, hok, hc, hx, h => by
    unfold freezeLK at h
    exact ⟨C, _, σ, Adv.refl C, hok, rfl, hc, Tame.refl σ, hx, h⟩
  | v :: vs, C, σ, xs, K, r, hok, hc, hx, h => by
    unfold freezeLK at h
    obtain ⟨x, us, rfl, hv, hus⟩ := hx.cons_inv
    obtain ⟨D, v', σ', h1, h2, h3, h4, h5, h6, h7⟩ := freezeK_sound v hok hc hv h
    obtain ⟨D2, vs', σ2, k1, k2, k3, k4, k5, k6, k7⟩ := freezeLK_sound vs h2 h4 (h1.repL hus) h7
    exact ⟨D2, _, σ2, h1.trans k1, k2, k3.trans h3, k4, h5.trans k5, RepL.cons (k1.rep _ _ h6) k6, k7⟩
end
end
end Go.Tv

/- New memory: variables, composites, slices of literals. -/
namespace Go.Tv
open Go Go.RowKit

section
variable {P : Program} {E : Env} {C D : Ctx} {R : Type}

/-- What an operation that hands back a value comes to. -/
def Gives (P : Program) (E : Env) (C : Ctx) (σ : St) (run : Result Value) (K : TV → St → Option R) (r : R) : Prop :=
  ∃ D val v σ', run = .ok val D.w ∧ Adv C D ∧ Ok P E D ∧ D.ents = σ'.ents ∧ Tame σ σ' ∧ Rep D val v ∧ K v σ' = some r

theorem zeroT_known {z : Option Value} (h : (zeroT z).known = true) : ∃ v, z = some v ∧ (zeroT z) = ofVal v := by
  cases z with
  | none => cases h
  | some v => exact ⟨v, rfl, rfl⟩

theorem run_zeroValue {t : TypeId} {i : TypeInfo} {z : Value} (hi : P.info? t = some i) (hz : i.zero = some z) (w : World) : (zeroValue t).run P w = .ok z w := by
  simp [zeroValue, typeInfo, hi, hz]

/-- A new variable. -/
theorem newVar_ok (hok : Ok P E C) {σ : St} (hc : C.ents = σ.ents) (t : TypeId) {v : Value} {cs : List TV} (hr : RepL C v.cells.toList cs) :
    ∃ D, (newVar t v).run P C.w = .ok ⟨C.w.heap.size, 0, none⟩ D.w ∧ Adv C D ∧ Ok P E D ∧ D.ents = (σ.add (.box t cs)).ents ∧ Rep D (.pointer (some ⟨C.w.heap.size, 0, none⟩)) (.ptr σ.ents.length 0) := by
  have hg := grew_add C (.cells v.cells t) (.box t cs) 0 0
  have hx := hg.ext hok
  have ho : Ok P E (C.add (.cells v.cells t) (.box t cs) 0 0) := by
    refine ok_add hok _ _ _ _ ⟨?_, v.cells, 0, 0, ?_, .inl rfl, hr.ext hx⟩
    · rw [add_loc, add_fz]
    · rw [add_loc, add_heap]
  refine ⟨_, rfl, hg.adv hok, ho, by simp [Ctx.add, St.add, hc], ?_⟩
  have hp : (C.add (.cells v.cells t) (.box t cs) 0 0).plain C.ents.length := add_plain (fun _ _ _ h => nomatch h)
  have := Rep.ptr (off := 0) hp
  rw [add_loc] at this
  rw [← hc]; exact this

theorem alloc_sound (hE : EnvOk0 P E) {σ : St} (hok : Ok P E C) (hc : C.ents = σ.ents) {t : TypeId} {l : Lay} (hl : E.lay t = some l) (hk : l.zero.known = true) {K : TV → St → Option R} {r : R}
    (h : K (.ptr σ.ents.length 0) (σ.add (.box t l.zero.cells)) = some r) : Gives P E C σ ((Instr.alloc t true (.tuple #[])).run P C.w) K r := by
  obtain ⟨i, hi, hd, _, _, _, hz, _⟩ := layOf_facts (hE.lay _ _ hl)
  rw [hz] at hk h
  obtain ⟨z, hz1, hz2⟩ := zeroT_known hk
  rw [hz2] at hk h
  obtain ⟨D, hrun, ha, ho, he, hp⟩ := newVar_ok hok hc t ((rep_ofVal C z).cells hk)
  refine ⟨D, _, _, _, ?_, ha, ho, he, Tame.add _ _, hp, h⟩
  simp only [Instr.alloc, Sem.run_bind, run_zeroValue hi hz1, Result.andThen_ok, hrun, Sem.run_pure]

theorem box_sound {σ : St} (hok : Ok P E C) (hc : C.ents = σ.ents) {t : TypeId} {x : Value} {v : TV} (hx : Rep C x v) (hk : v.known = true) {K : TV → St → Option R} {r : R}
    (h : K (.ptr σ.ents.length 0) (σ.add (.box t v.cells)) = some r) : Gives P E C σ ((Instr.box t x).run P C.w) K r := by
  obtain ⟨D, hrun, ha, ho, he, hp⟩ := newVar_ok hok hc t (hx.cells hk)
  refine ⟨D, _, _, _, ?_, ha, ho, he, Tame.add _ _, hp, h⟩
  simp only [Instr.box, Sem.run_bind, hrun, Result.andThen_ok, Sem.run_pure]

/-! ### composites -/
theorem foldl_put (off : Nat) : ∀ (vs : List Value) (k : Nat) (cur : Array Value), off + k + vs.length ≤ cur.size →
    (vs.zipIdx k).foldl (fun cs (p : Value × Nat) => cs.setIfInBounds (off + p.2) p.1) cur = putCells cur (off + k) vs
  | [], k, cur, _ => by simp [putCells]
  | v :: vs, k, cur, h => by
    simp only [List.zipIdx_cons, List.foldl_cons]
    simp only [List.length_cons] at h
    rw [foldl_put off vs (k + 1) _ (by simp; omega)]
    unfold putCells
    congr 1
    have hset : (cur.setIfInBounds (off + k) v).toList = cur.toList.take (off + k) ++ v :: cur.toList.drop (off + k + 1) := by
      rw [Array.toList_setIfInBounds, List.set_eq_take_append_cons_drop, if_pos (by rw [Array.length_toList]; omega)]
    rw [hset]
    have htl : (cur.toList.take (off + k)).length = off + k := by simp; omega
    rw [show off + (k + 1) = off + k + 1 by omega]
    have e1 : (cur.toList.take (off + k) ++ v :: cur.toList.drop (off + k + 1)).take (off + k + 1) = cur.toList.take (off + k) ++ [v] := by
      rw [List.take_append, htl]
      simp [show off + k + 1 - (off + k) = 1 by omega, List.take_of_length_le (show (cur.toList.take (off + k)).length ≤ off + k + 1 by omega)]
    have e2 : (cur.toList.take (off + k) ++ v :: cur.toList.drop (off + k + 1)).drop (off + k + 1 + vs.length) = cur.toList.drop (off + k + (v :: vs).length) := by
      rw [List.drop_append, htl, List.drop_eq_nil_of_le (show (cur.toList.take (off + k)).length ≤ off + k + 1 + vs.length by omega)]
      simp only [List.nil_append, List.length_cons]
      rw [show off + k + 1 + vs.length - (off + k) = vs.length + 1 by omega, List.drop_succ_cons, List.drop_drop]
      congr 1; omega
    rw [e1, e2]
    simp

def RepP (C : Ctx) : List (Nat × Value) → List (Nat × TV) → Prop
  | [], [] => True
  | (i, v) :: ps, (j, t) :: qs => i = j ∧ Rep C v t ∧ RepP C ps qs
  | _, _ => False

theorem buildK_sound {place place' : Nat → Option (Nat × Nat)} (hp : ∀ i, place' i = place i) : ∀ (qs : List (Nat × TV)) (ps : List (Nat × Value)) (cs : List TV) (zs : Array Value) {K : List TV → Option R} {r : R},
    RepP C ps qs → RepL C zs.toList cs → buildK place qs cs K = some r → ∃ cells cs', Instr.fill place' zs ps = some cells ∧ RepL C cells.toList cs' ∧ cs'.length = cs.length ∧ K cs' = some r
  | [], [], cs, zs, K, r, _, hz, h => ⟨zs, cs, rfl, hz, rfl, h⟩
  | [], _ :: _, _, _, _, _, hq, _, _ => hq.elim
  | _ :: _, [], _, _, _, _, hq, _, _ => hq.elim
  | (i, v) :: qs, (j, x) :: ps, cs, zs, K, r, hq, hz, h => by
    obtain ⟨rfl, hv, hps⟩ := hq
    unfold buildK at h
    split at h
    · rename_i off sz he
      obtain ⟨hb, h⟩ := tst_none h
      simp only [Bool.and_eq_true] at hb
      have hn := Nat.eq_of_beq_eq_true hb.1.2
      have hle := Nat.le_of_ble_eq_true hb.2
      have hvc := hv.cells hb.1.1
      have hlen : zs.size = cs.length := by rw [← hz.1, Array.length_toList]
      have hxl : x.cells.size = sz := by rw [← Array.length_toList, hvc.1]; exact hn
      have hput : x.cells.zipIdx.foldl (fun cs (p : Value × Nat) => cs.setIfInBounds (off + p.2) p.1) zs = putCells zs off x.cells.toList := by
        have := foldl_put off x.cells.toList 0 zs (by rw [Array.length_toList]; omega)
        rw [← Array.foldl_toList, Array.toList_zipIdx]
        exact this
      obtain ⟨cells, cs', h1, h2, h3, h4⟩ := buildK_sound hp qs ps _ (putCells zs off x.cells.toList) hps (putCells_rep (off := off) hz hvc) h
      refine ⟨cells, cs', ?_, h2, ?_, h4⟩
      · simp only [Instr.fill, hp, he]
        rw [if_neg (by simp [hxl]; omega)]
        rw [← h1, ← hput]
      · rw [h3]
        simp only [fillAt, List.length_append, List.length_take, List.length_drop]
        omega
    · cases h

theorem places_of : ∀ {fs : List Field} {l : List Fld}, layFlds P fs = some l → fs.mapM (fun f => (P.info? f.type).map fun i => (f.offset, i.size)) = some (l.map fun f => (f.off, f.size))
  | [], l, h => by simp [layFlds] at h; subst h; rfl
  | f :: fs, l, h => by
    obtain ⟨i, d, r, hi, hd, hr, rfl⟩ := layFlds_cons h
    simp [List.mapM_cons, hi, places_of hr]

theorem rep_parts {a : Act} {fr : Tr TV} (hg : GOk E C) (hf : FrOk C a fr) : ∀ ps : List (Nat × Operand), RepP C (ps.map fun p => (p.1, a.eval p.2)) (parts E fr ps)
  | [] => trivial
  | (i, o) :: ps => ⟨rfl, rep_opd hg hf o, rep_parts hg hf ps⟩

theorem build_sound (hE : EnvOk0 P E) {t : TypeId} {l : Lay} (hl : E.lay t = some l) (hk : l.zero.known = true) {ps : Array (Nat × Value)} {qs : List (Nat × TV)} (hq : RepP C ps.toList qs) {K : List TV → Option R} {r : R}
    (h : (match l.und with | .struct _ => buildK (fldPlace l) qs l.zero.cells K | .array _ _ => buildK (eltPlace l) qs l.zero.cells K | _ => none) = some r) :
    ∃ cells cs, (Instr.build t ps).run P C.w = .ok (.agg cells) C.w ∧ RepL C cells.toList cs ∧ K cs = some r := by
  obtain ⟨i, hi, hd, _, _, _, hz, helt, hfl, _⟩ := layOf_facts (hE.lay _ _ hl)
  rw [hz] at hk h
  obtain ⟨z, hz1, hz2⟩ := zeroT_known hk
  rw [hz2] at hk h
  have hzc := (rep_ofVal C z).cells hk
  split at h
  · rename_i fs hu
    have hpl := places_of (hfl fs hu)
    rw [hu] at hd
    obtain ⟨cells, cs, h1, h2, _, h4⟩ := buildK_sound (place' := ((l.flds.map fun f => (f.off, f.size)).toArray[·]?)) (fun i => by
      simp only [fldPlace, List.getElem?_toArray, List.getElem?_map]
      cases l.flds[i]? <;> rfl) qs ps.toList _ z.cells hq hzc h
    refine ⟨cells, cs, run_build C.w t ps cells ?_, h2, h4⟩
    simp only [Program.built, hi, hd, hz1, hpl]
    exact h1
  · rename_i n e hu
    obtain ⟨j, d, hj, _, _, hesz, _⟩ := helt e (by rw [hu]; rfl)
    rw [hu] at hd
    obtain ⟨cells, cs, h1, h2, _, h4⟩ := buildK_sound (place' := fun i => some (i * j.size, j.size)) (fun i => by simp [eltPlace, hesz]) qs ps.toList _ z.cells hq hzc h
    refine ⟨cells, cs, run_build C.w t ps cells ?_, h2, h4⟩
    simp only [Program.built, hi, hd, hz1, hj]
    exact h1
  · cases h

theorem repl_length (cs : List TV) : ∀ n, (repl n cs).length = n * cs.length
  | 0 => by simp [repl]
  | n + 1 => by simp [repl, repl_length cs n, Nat.succ_mul]; omega

theorem range_map_repl (z : Array Value) {cs : List TV} (h : RepL C z.toList cs) : ∀ n, RepL C ((Array.range (n * z.size)).map fun i => z[i % z.size]!).toList (repl n cs) := by
  intro n
  rw [Array.toList_map, Array.toList_range]
  induction n with
  | zero => simp [repl]; exact RepL.nil
  | succ n ih =>
    have e : (List.range ((n + 1) * z.size)).map (fun i => z[i % z.size]!) = z.toList ++ (List.range (n * z.size)).map (fun i => z[i % z.size]!) := by
      apply List.ext_getElem?
      intro k
      rw [List.getElem?_map, List.getElem?_append]
      by_cases hk : k < z.size
      · rw [if_pos (by simpa using hk), List.getElem?_range (by rw [Nat.succ_mul]; omega)]
        simp [Nat.mod_eq_of_lt hk, hk]
      · rw [if_neg (by simpa using hk), List.getElem?_map, Array.length_toList]
        by_cases hk2 : k < (n + 1) * z.size
        · rw [List.getElem?_range hk2, List.getElem?_range (by rw [Nat.succ_mul] at hk2; omega)]
          simp only [Option.map_some]
          congr 2
          have hz : z.size ≤ k := by omega
          rw [Nat.mod_eq_sub_mod hz]
        · rw [List.getElem?_eq_none (by simp; omega), List.getElem?_eq_none (by simp; rw [Nat.succ_mul] at hk2; omega)]
    rw [e]
    exact h.append ih

/-- A row that nobody else has: what stands in it may be leant on. -/
theorem newRow_ok (hok : Ok P E C) (e : TypeId) (arr : Array Value) (n : Nat) : (newRow e arr).run P C.w = .ok ⟨C.w.heap.size, 0, none⟩ (C.push (.cells arr e) n).w ∧ Adv C (C.push (.cells arr e) n) ∧ Ok P E (C.push (.cells arr e) n) ∧
    (C.push (.cells arr e) n).w.heap[C.w.heap.size]? = some (.cells arr e (0, 0)) ∧ (C.push (.cells arr e) n).fz C.w.heap.size = n :=
  ⟨rfl, (grew_push C _ n).adv hok, ok_push hok _ n, by show (C.w.heap.push _)[C.w.heap.size]? = _; rw [Array.getElem?_push, if_pos rfl], upd_same _ _ _⟩

theorem Rep.toEx {b : Nat} {off len : Nat} {es : List TV} (h : Rep C (.slice (some ⟨b, off, none⟩) len len) (.slice .sh es)) (hb : C.base ≤ b) : Rep C (.slice (some ⟨b, off, none⟩) len len) (.slice .ex es) := by
  cases h with
  | slice z f hl hcap he hs hc hrep =>
    exact .slice z f hl hcap he ⟨hs.none, hs.some, fun _ => ⟨rfl, fun _ ad ha => by cases ha; exact hb⟩, (fun _ _ x => nomatch x)⟩ hc hrep

theorem buildSlice_run (hE : EnvOk0 P E) {t : TypeId} {l : Lay} {e : TypeId} (hl : E.lay t = some l) (hu : l.und = .slice e) (hk : l.ezero.known = true) (hzl : l.ezero.cells.length = l.esz) {n : Nat} (hn : n * l.esz ≤ 16777216)
    {ps : Array (Nat × Value)} {qs : List (Nat × TV)} (hq : RepP C ps.toList qs) {K : List TV → Option R} {r : R} (h : buildK (eltPlace l) qs (repl n l.ezero.cells) K = some r) :
    ∃ cells cs, (∀ addr w', (newRow e cells).run P C.w = .ok addr w' → (Instr.buildSlice t n ps).run P C.w = .ok (.slice (some addr) n n) w') ∧ RepL C cells.toList cs ∧ cs.length = n * l.esz ∧ l.elt = e ∧ K cs = some r := by
  obtain ⟨i, hi, hd, _, _, _, _, helt, _⟩ := layOf_facts (hE.lay _ _ hl)
  obtain ⟨j, d, hj, _, helt2, hesz, _, _, hez, _⟩ := helt e (by rw [hu]; rfl)
  rw [hez] at hk h hzl
  obtain ⟨z, hz1, hz2⟩ := zeroT_known hk
  rw [hz2] at hk h hzl
  have hzc := (rep_ofVal C z).cells hk
  have hzs : z.cells.size = j.size := by rw [← Array.length_toList, hzc.1, hzl, hesz]
  have hrange := range_map_repl z.cells hzc n
  obtain ⟨cells, cs, h1, h2, h3, h4⟩ := buildK_sound (place' := fun i => some (i * j.size, j.size)) (fun i => by simp [eltPlace, hesz]) qs ps.toList _ _ hq hrange h
  refine ⟨cells, cs, fun addr w' hrow => ?_, h2, by rw [h3, repl_length, hzl], helt2, h4⟩
  rw [hu] at hd
  simp only [Instr.buildSlice, Sem.run_bind, run_underlying hd, Result.andThen_ok, run_size hj]
  rw [if_neg (by rw [← hesz]; omega)]
  have h1' : Instr.fill (fun i => some (i * j.size, j.size)) ((Array.range (n * j.size)).map fun x => z.cells[x % z.cells.size]!) ps.toList = some cells := by
    have e1 : n * j.size = n * z.cells.size := by rw [hzs]
    rw [e1]; exact h1
  by_cases h0 : n * j.size = 0
  · rw [if_pos h0]
    have e0 : (Array.range (n * j.size)).map (fun x => (#[] : Array Value)[x % (#[] : Array Value).size]!) = (Array.range (n * j.size)).map fun i => z.cells[i % z.cells.size]! := by
      rw [h0]; simp
    simp only [Sem.run_pure, Result.andThen_ok, e0, h1', Sem.run_bind, hrow]
  · rw [if_neg h0]
    simp only [Sem.run_bind, run_zeroValue hj hz1, Sem.run_pure, Result.andThen_ok, h1', hrow]
end
end Go.Tv

/- Conversions. -/
namespace Go.Tv
open Go Go.RowKit

section
variable {P : Program} {E : Env} {C D : Ctx} {R : Type}

theorem isU8_some (hE : EnvOk0 P E) {e : TypeId} (h : isU8 (E.lay e) = true) : P.underlying e = some (.int .u8) ∧ ∃ i, P.info? e = some i := by
  cases hl : E.lay e with
  | none => rw [hl] at h; cases h
  | some l =>
    obtain ⟨i, hi, hd, _⟩ := layOf_facts (hE.lay _ _ hl)
    refine ⟨?_, i, hi⟩
    rw [hl] at h
    unfold isU8 at h
    split at h
    · rename_i heq
      cases heq
      exact hd
    · cases h

theorem bytesOf_length : ∀ l : List UInt8, (bytesOf l).length = l.length
  | [] => rfl
  | _ :: l => by simp [bytesOf, bytesOf_length l]
theorem bytesOf_get : ∀ (l : List UInt8) (i : Nat), (bytesOf l)[i]? = (l[i]?).map fun b => TV.int .u8 b.toNat
  | [], i => by simp [bytesOf]
  | b :: l, 0 => by simp [bytesOf]
  | b :: l, i + 1 => by simp [bytesOf, bytesOf_get l i]

theorem unbytes_spec : ∀ {es : List TV} {l : List UInt8}, unbytes es = some l → ∃ ns : List Int, es = ns.map (TV.int .u8) ∧ l = ns.map fun n => UInt8.ofNat n.toNat
  | [], l, h => by simp [unbytes] at h; subst h; exact ⟨[], rfl, rfl⟩
  | e :: es, l, h => by
    unfold unbytes at h
    split at h
    · rename_i heq; cases heq
    · rename_i n vs heq
      cases heq
      split at h
      · rename_i l' hl
        cases h
        obtain ⟨ns, h1, h2⟩ := unbytes_spec hl
        exact ⟨n :: ns, by simp [h1], by simp [h2]⟩
      · cases h
    · cases h

theorem foldl_push_ints : ∀ (ns : List Int) (r : ByteArray), ns.foldl (fun r n => r.push (UInt8.ofNat n.toNat)) r = ⟨r.data ++ (ns.map fun n => UInt8.ofNat n.toNat).toArray⟩
  | [], r => by simp
  | n :: ns, r => by
    simp only [List.foldl_cons]
    rw [foldl_push_ints ns]
    simp [ByteArray.push]

theorem repL_ints : ∀ {ns : List Int} {vs : List Value}, RepL C vs (ns.map (TV.int .u8)) → vs = ns.map (Value.int .u8)
  | [], vs, h => h.nil_inv
  | n :: ns, vs, h => by
    obtain ⟨v, us, rfl, h1, h2⟩ := h.cons_inv
    cases h1
    rw [repL_ints h2]; rfl

/-- bytes that lie somewhere, as a string -/
theorem run_bytes_str {src dst e : TypeId} (hs : P.underlying src = some (.slice e)) (he : P.underlying e = some (.int .u8)) (hd : P.underlying dst = some .string) {b off cap : Nat} {es : List TV} {l : List UInt8}
    (hr : Reads C b off es) (hu : unbytes es = some l) : (convert src dst (.slice (some ⟨b, off, none⟩) es.length cap)).run P C.w = .ok (.string ⟨⟨l⟩⟩) C.w := by
  obtain ⟨ns, rfl, rfl⟩ := unbytes_spec hu
  rw [run_convert_bytes_string C.w src dst e _ _ cap hs he hd]
  obtain ⟨vs, hrun, hv⟩ := loadCells_reads (P := P) hr (Nat.le_refl _)
  rw [List.take_length] at hv
  rw [repL_ints hv] at hrun
  rw [List.length_map] at hrun ⊢
  rw [run_bytesToString C.w _ _ cap ns hrun, foldl_push_ints]
  rw [show ByteArray.empty.data = #[] from rfl]; simp

theorem Rep.slice_reads {o : Own} {b off len cap : Nat} {es : List TV} (h : Rep C (.slice (some ⟨b, off, none⟩) len cap) (.slice o es)) (hcur : C.cur o) (h1 : ∀ e ∈ es, e.cells = [e]) : Reads C b off es := by
  cases h with
  | slice z f hl hcap he hs hc hrep =>
    intro j c hj
    have hjl := (List.getElem?_eq_some_iff.1 hj).1
    have hm := List.mem_of_getElem? hj
    have hz : z = 1 := by
      have := (he c hm).1
      rw [h1 c hm] at this
      exact this.symm
    subst hz
    refine ⟨f j 0, ?_, hrep j 0 c c hj (by rw [h1 c hm]; rfl)⟩
    have := hc _ j 0 rfl hcur (by omega) (by omega)
    simpa using this

theorem rep_bytes (hok : Ok P E C) (e : TypeId) (s : List UInt8) (cap : Nat) (hcap : s.length ≤ cap) (fr : Nat × Nat) (row : Array Value) (hrow : ∀ (j : Nat) (b : UInt8), s[j]? = some b → row[j]? = some (Value.int .u8 b.toNat)) :
    Rep (C.push (.cells row e fr) s.length) (.slice (some ⟨C.w.heap.size, 0, none⟩) s.length cap) (.slice .sh (bytesOf s)) := by
  refine .slice 1 (fun i _ => (row[i]?).getD Go.undef) (bytesOf_length s).symm hcap (fun e he => ?_) ⟨(fun x => nomatch x), fun ad ha => ?_, (fun x => nomatch x), (fun _ _ x => nomatch x)⟩ (fun ad i j ha _ hi hj => ?_) (fun i j e c he hc => ?_)
  · obtain ⟨i, hi, he'⟩ := List.getElem_of_mem he
    have h2 : (bytesOf s)[i]? = some e := by rw [← he']; exact List.getElem?_eq_getElem _
    rw [bytesOf_get] at h2
    cases hb : s[i]? with
    | none => rw [hb] at h2; cases h2
    | some b => rw [hb] at h2; cases h2; exact ⟨rfl, ⟨rfl, rfl⟩, rfl⟩
  · cases ha
    refine ⟨rfl, fun _ => ?_⟩
    show 0 + s.length * 1 ≤ upd C.fz _ _ _
    rw [upd_same]; omega
  · cases ha
    have hj0 : j = 0 := by omega
    subst hj0
    obtain ⟨b, hb⟩ : ∃ b, s[i]? = some b := ⟨_, List.getElem?_eq_getElem hi⟩
    have hh : (C.push (.cells row e fr) s.length).w.heap[C.w.heap.size]? = some (.cells row e fr) := by
      show (C.w.heap.push _)[C.w.heap.size]? = _
      rw [Array.getElem?_push, if_pos rfl]
    simp only [World.cell?, hh, hrow i b hb, Option.getD_some]
    simp [hrow i b hb]
  · rw [bytesOf_get] at he
    cases hb : s[i]? with
    | none => rw [hb] at he; cases he
    | some b =>
      rw [hb] at he; cases he
      have hj0 : j = 0 := by
        have := (List.getElem?_eq_some_iff.1 hc).1
        simp [TV.cells] at this; omega
      subst hj0
      simp [TV.cells] at hc
      subst hc
      rw [hrow i b hb]
      exact .int _ _

/-- A block is marked as one that strings may share: nothing reads otherwise. -/
def Ctx.mark (C : Ctx) (b n : Nat) : Ctx := { C with w := C.w.freeze ⟨b, n, none⟩ 1 }

theorem mark_heap_ne (w : World) {b n k : Nat} (h : k ≠ b) : (w.freeze ⟨b, n, none⟩ 1).heap[k]? = w.heap[k]? := by
  simp only [World.freeze, Nat.one_ne_zero, if_false, Array.getElem?_modify]
  rw [if_neg (fun e => h e.symm)]
theorem mark_heap_same (w : World) {b n : Nat} {c : Array Value} {t : TypeId} {lo hi : Nat} (h : w.heap[b]? = some (.cells c t (lo, hi))) :
    (w.freeze ⟨b, n, none⟩ 1).heap[b]? = some (.cells c t (if lo == hi then (n, n + 1) else (min lo n, max hi (n + 1)))) := by
  simp only [World.freeze, Nat.one_ne_zero, if_false, Array.getElem?_modify, if_true, h, Option.map_some]

theorem mark_ok (hok : Ok P E C) {b : Nat} (hb : C.base ≤ b) {c : Array Value} {t : TypeId} {lo hi : Nat} (hh : C.w.heap[b]? = some (.cells c t (lo, hi))) : Adv C (C.mark b c.size) ∧ Ok P E (C.mark b c.size) := by
  have hsz : (C.mark b c.size).w.heap.size = C.w.heap.size := by simp [Ctx.mark, World.freeze]
  have hcell : ∀ k off, (C.mark b c.size).w.cell? ⟨k, off, none⟩ = C.w.cell? ⟨k, off, none⟩ := by
    intro k off
    by_cases hk : k = b
    · subst hk
      simp only [World.cell?, hh]
      rw [show (C.mark k c.size).w.heap[k]? = _ from mark_heap_same C.w hh]
    · exact cell_heap (mark_heap_ne C.w hk)
  have hroom : ∀ k n, C.room k n → (C.mark b c.size).room k n := by
    rintro k n ⟨arr, ty, fr, h1, h2⟩
    by_cases hk : k = b
    · subst hk
      rw [hh] at h1; cases h1
      exact ⟨c, t, _, mark_heap_same C.w hh, h2⟩
    · exact ⟨arr, ty, fr, by rw [show (C.mark b c.size).w.heap[k]? = _ from mark_heap_ne C.w hk]; exact h1, h2⟩
  have hext : Ext C (C.mark b c.size) := {
    base := Nat.le_refl _
    len := Nat.le_refl _
    plain := fun r hr => ⟨hr, rfl⟩
    past := fun _ _ h => h
    cur := fun id ver pin sz ht _ => by
      obtain ⟨_, _, _, h5⟩ := hok.obj id _ ht
      exact ⟨pin, ht, rfl, rfl, h5, fun off v _ hv => by rw [hcell]; exact hv⟩
    frz := fun k off v _ hv => by rw [hcell]; exact hv
    fz := fun _ => Nat.le_refl _
    room := hroom }
  have hfr : ∀ {arr : Array Value} {ty : TypeId} {l h : Nat} {k : Nat}, C.w.heap[k]? = some (.cells arr ty (l, h)) → (l = h ∨ arr.size ≤ l) →
      ∃ l' h', (C.mark b c.size).w.heap[k]? = some (.cells arr ty (l', h')) ∧ (l' = h' ∨ arr.size ≤ l') := by
    intro arr ty l h k h1 h2
    by_cases hk : k = b
    · subst hk
      rw [hh] at h1; cases h1
      have := mark_heap_same C.w (n := c.size) hh
      by_cases hlo : lo = hi
      · subst hlo
        rw [if_pos (by simp)] at this
        exact ⟨_, _, this, .inr (Nat.le_refl _)⟩
      · rw [if_neg (by simpa using hlo)] at this
        refine ⟨_, _, this, .inr ?_⟩
        have := h2.resolve_left hlo
        omega
    · exact ⟨l, h, by rw [show (C.mark b c.size).w.heap[k]? = _ from mark_heap_ne C.w hk]; exact h1, h2⟩
  have hany : ∀ {arr : Array Value} {ty : TypeId} {l h : Nat} {k : Nat}, C.w.heap[k]? = some (.cells arr ty (l, h)) → ∃ l' h', (C.mark b c.size).w.heap[k]? = some (.cells arr ty (l', h')) := by
    intro arr ty l h k h1
    by_cases hk : k = b
    · subst hk
      rw [hh] at h1; cases h1
      exact ⟨_, _, mark_heap_same C.w (n := c.size) hh⟩
    · exact ⟨l, h, by rw [show (C.mark b c.size).w.heap[k]? = _ from mark_heap_ne C.w hk]; exact h1⟩
  refine ⟨⟨fun _ _ hr => hr.ext hext, ⟨?_, ?_, ?_, by rw [hsz]; exact Nat.le_refl _, fun k hk => mark_heap_ne C.w (by omega)⟩, rfl, Nat.le_refl _, fun _ _ => rfl, fun r hr => ⟨hr, rfl⟩⟩, ?_⟩
  · simp [Ctx.mark, World.freeze]
  · simp [Ctx.mark, World.freeze]
  · simp [Ctx.mark, World.freeze]
  exact {
    lt := fun r e he ha => by rw [hsz]; exact hok.lt r e he ha
    inj := hok.inj
    obj := fun r e he => by
      have ho := hok.obj r e he
      cases e with
      | dead => trivial
      | box ty cs =>
        obtain ⟨h0, arr, l, h, h1, h2, h3⟩ := ho
        obtain ⟨l', h', h4, h5⟩ := hfr h1 h2
        exact ⟨h0, arr, l', h', h4, h5, h3.ext hext⟩
      | ice cs =>
        obtain ⟨arr, ty, fr, h1, h2, h3⟩ := ho
        by_cases hk : C.loc r = b
        · rw [hk] at h1
          rw [hh] at h1; cases h1
          exact ⟨c, t, _, by rw [show (C.mark b c.size).loc r = b from hk]; exact mark_heap_same C.w hh, h2, h3.ext hext⟩
        · exact ⟨arr, ty, fr, (mark_heap_ne C.w hk).trans h1, h2, h3.ext hext⟩
      | tok v p sz =>
        obtain ⟨⟨arr, ty, l, h, h1, h2⟩, h3⟩ := ho
        rcases h2 with h2 | h2
        · obtain ⟨l', h', h4⟩ := hany h1
          exact ⟨⟨arr, ty, l', h', h4, .inl h2⟩, h3⟩
        · obtain ⟨l', h', h4, h5⟩ := hfr h1 h2
          exact ⟨⟨arr, ty, l', h', h4, .inr h5⟩, h3⟩
      | map t' es =>
        refine EntOk.same hext (fun _ => rfl) (fun _ => ?_) (fun _ => rfl) (fun _ => rfl) ho
        obtain ⟨_, en, h1, _⟩ := ho
        exact mark_heap_ne C.w (fun e1 => by rw [e1, hh] at h1; cases h1)
      | iter st pos =>
        refine EntOk.same hext (fun _ => rfl) (fun _ => ?_) (fun _ => rfl) (fun _ => rfl) ho
        have h1 : C.w.heap[C.loc r]? = _ := ho.2
        exact mark_heap_ne C.w (fun e1 => by rw [e1, hh] at h1; cases h1)
      | dfr =>
        refine EntOk.same hext (fun _ => rfl) (fun _ => ?_) (fun _ => rfl) (fun _ => rfl) ho
        have h1 : C.w.heap[C.loc r]? = _ := ho.2
        exact mark_heap_ne C.w (fun e1 => by rw [e1, hh] at h1; cases h1)
      | rl f id vals st pend =>
        refine EntOk.same hext (fun _ => rfl) (fun _ => ?_) (fun _ => rfl) (fun _ => rfl) ho
        obtain ⟨_, tmps, ps, as, b', d, fn, c', ins, outs, _, h1, _⟩ := ho
        exact mark_heap_ne C.w (fun e1 => by rw [e1, hh] at h1; cases h1)
    fresh := fun k hk => hok.fresh k (by rw [hsz] at hk; exact hk)
    base := by rw [hsz]; exact hok.base }

theorem convK_sound (hE : EnvOk0 P E) {σ : St} (hok : Ok P E C) (hc : C.ents = σ.ents) {src dst : TypeId} {x : TV} {a : Value} {K : TV → Option R} {r : R} (hx : Rep C a x) (h : convK E src dst σ x K = some r) :
    ∃ D val v, (convert src dst a).run P C.w = .ok val D.w ∧ Adv C D ∧ Ok P E D ∧ D.ents = σ.ents ∧ Rep D val v ∧ K v = some r := by
  obtain ⟨ls, hls, h1⟩ := layK_some h
  obtain ⟨ld, hld, h2⟩ := layK_some h1
  obtain ⟨is, his, hds, _⟩ := layOf_facts (hE.lay _ _ hls)
  obtain ⟨id, hid, hdd, _⟩ := layOf_facts (hE.lay _ _ hld)
  generalize hu : ld.und = und at h2
  rw [hu] at hdd
  have stay : ∀ {val v}, (convert src dst a).run P C.w = .ok val C.w → Rep C val v → K v = some r → ∃ D val v, (convert src dst a).run P C.w = .ok val D.w ∧ Adv C D ∧ Ok P E D ∧ D.ents = σ.ents ∧ Rep D val v ∧ K v = some r :=
    fun h1 h2 h3 => ⟨C, _, _, h1, Adv.refl C, hok, hc, h2, h3⟩
  split at h2
  · cases hx
    refine stay ?_ (.int _ _) h2
    simp only [convert, Sem.run_bind, run_underlying hds, run_underlying hdd, Result.andThen_ok, Conv.intToInt]
    cases ls.und <;> rfl
  · cases hx
    refine stay ?_ (.str _) h2
    simp only [convert, Sem.run_bind, run_underlying hds, run_underlying hdd, Result.andThen_ok]
    cases ls.und <;> rfl
  · -- a string's bytes
    rename_i e s
    split at h2
    · rename_i hus h8
      rw [hus] at hds
      obtain ⟨he, ie, hie⟩ := isU8_some hE h8
      cases hx
      have hrun := run_bytes_of_string C.w src dst e ⟨⟨s⟩⟩ hds hdd he
      have hcap : s.length ≤ grownCap C.w (⟨⟨s⟩⟩ : ByteArray).size 0 e := by
        unfold grownCap Question.cut
        show s.length ≤ s.length + _
        omega
      have hok1 := ok_drewN hok (C.w.drawn + 1)
      have hadv1 := (grew_drewN C (C.w.drawn + 1)).adv hok
      have hrep := rep_bytes hok1 e s _ hcap ((bytesRow ⟨⟨s⟩⟩ (grownCap C.w (⟨⟨s⟩⟩ : ByteArray).size 0 e)).size, (bytesRow ⟨⟨s⟩⟩ (grownCap C.w (⟨⟨s⟩⟩ : ByteArray).size 0 e)).size + 1)
        (bytesRow ⟨⟨s⟩⟩ (grownCap C.w (⟨⟨s⟩⟩ : ByteArray).size 0 e)) (fun j b hb => by
          have hj := (List.getElem?_eq_some_iff.1 hb).1
          unfold bytesRow
          rw [Array.getElem?_append_left (by simpa using hj)]
          simp [hb])
      exact ⟨_, _, _, hrun, hadv1.trans ((grew_push _ _ _).adv hok1), ok_push hok1 _ _, hc, hrep, h2⟩
    · cases h2
  · rename_i e k n es
    split at h2
    · rename_i hsd h8
      obtain rfl := Nat.eq_of_beq_eq_true hsd
      obtain ⟨he, ie, hie⟩ := isU8_some hE h8
      rw [hdd] at hds
      obtain ⟨p, cap, rfl, hcap⟩ := hx.slice_len
      obtain ⟨b, off, hp, hv⟩ := hx.elem (i := 0) (e := .int k n) rfl
      subst hp
      have hbase : C.base ≤ b := by
        cases hx with
        | slice z f hl hcap he hs hc hrep => exact (hs.ex rfl).2 (by simp) _ rfl
      obtain ⟨cc, ct, fr, hh⟩ : ∃ cc ct fr, C.w.heap[b]? = some (.cells cc ct fr) := by
        cases hx with
        | slice z f hl hcap he hs hcell hrep =>
          have hz : z ≠ 0 := by
            have := (he (.int k n) List.mem_cons_self).1
            simp [TV.cells] at this; omega
          have := hcell _ 0 0 rfl trivial (by simp) (by omega)
          simp only [World.cell?] at this
          split at this
          · exact ⟨_, _, _, by assumption⟩
          · cases this
      obtain ⟨lo, hi⟩ := fr
      obtain ⟨ha, ho⟩ := mark_ok hok hbase hh
      refine ⟨_, _, _, ?_, ha, ho, hc, ha.rep _ _ hx, h2⟩
      simp only [convert, Sem.run_bind, run_underlying hdd, run_underlying he, Result.andThen_ok, beq_self_eq_true, markStringish, run_shape, World.shape?, hh, run_freeze, Sem.run_pure]
      rfl
    · cases h2
  · -- bytes as a string
    rename_i o es
    split at h2
    · rename_i e hus
      rw [hus] at hds
      split at h2
      · rename_i h8
        obtain ⟨he, ie, hie⟩ := isU8_some hE h8
        obtain ⟨hcur, h3⟩ := ownK_some hc h2
        unfold strOfK at h3
        split at h3
        · rename_i l hl
          obtain ⟨p, cap, rfl, hcap⟩ := hx.slice_len
          cases p with
          | none =>
            have hcap0 : cap = 0 := by
              cases hx with
              | slice z f hl hcap he hs hc hrep => exact hs.none rfl
            have hes : es = [] := List.length_eq_zero_iff.1 (by omega)
            subst hes
            simp [unbytes] at hl; subst hl
            refine stay ?_ (.str _) h3
            rw [run_convert_bytes_string C.w src dst e _ _ _ hds he hdd]
            rfl
          | some ad =>
            obtain ⟨b, off, spot⟩ := ad
            have hsp : spot = none := by
              cases hx with
              | slice z f hl hcap he hs hc hrep => exact (hs.some _ rfl).1
            subst hsp
            obtain ⟨ns, hns, _⟩ := unbytes_spec hl
            have hr := hx.slice_reads hcur (fun e he' => by
              rw [hns] at he'
              obtain ⟨n, _, rfl⟩ := List.mem_map.1 he'
              rfl)
            exact stay (run_bytes_str hds he hdd hr hl) (.str _) h3
        · cases h3
      · cases h2
    · cases h2
  · rename_i r' off len sz ag
    split at h2
    · rename_i e hus
      rw [hus] at hds
      split at h2
      · rename_i h8
        obtain ⟨he, ie, hie⟩ := isU8_some hE h8
        cases hx with
        | bsl hp hl hoo =>
          rename_i off2 cap
          obtain ⟨b, off', cs, heq, hr, h3⟩ := derefK_some hok hc (Rep.ptr hp) h2
          cases heq
          obtain ⟨hle, h4⟩ := tst_none h3
          have hle' := Nat.le_of_ble_eq_true hle
          unfold strOfK at h4
          split at h4
          · rename_i l hl'
            by_cases h0 : len = 0
            · subst h0
              simp [unbytes] at hl'; subst hl'
              refine stay ?_ (.str _) h4
              have := run_bytes_str (P := P) (C := C) (cap := cap) (b := C.loc r') (off := off2) (es := []) (l := []) hds he hdd (fun j c hj => by simp at hj) rfl
              exact this
            have e2 := hoo h0
            subst e2
            have hlen : (cs.take len).length = len := by simp; omega
            have hr' : Reads C (C.loc r') _ (cs.take len) := fun j c hj => hr j c (by
              rw [List.getElem?_take] at hj
              split at hj
              · exact hj
              · cases hj)
            have := run_bytes_str (cap := cap) hds he hdd hr' hl'
            rw [hlen] at this
            exact stay this (.str _) h4
          · cases h4
      · cases h2
    · cases h2
  · cases h2
end
end Go.Tv

/- Slices of slices, of strings and of arrays. -/
namespace Go.Tv
open Go Go.RowKit

section
variable {P : Program} {E : Env} {C : Ctx}

def RepO (C : Ctx) : Option Value → Option TV → Prop
  | none, none => True
  | some v, some t => Rep C v t
  | _, _ => False

/-- A bound that was read. -/
def Bnd (x : Option Value) (d y n : Nat) : Prop := (x = none ∧ n = d) ∨ ∃ k i, x = some (.int k i) ∧ 0 ≤ i ∧ i ≤ (y : Int) ∧ n = i.toNat

theorem boundK_some {R : Type} {x : Option TV} {v : Option Value} {d y : Nat} {K : Nat → Option R} {r : R} (hv : RepO C v x) (h : boundK x d y K = some r) : ∃ n, Bnd v d y n ∧ K n = some r := by
  unfold boundK at h
  split at h
  · cases v with
    | none => exact ⟨d, .inl ⟨rfl, rfl⟩, h⟩
    | some v => exact absurd hv (by simp [RepO])
  · rename_i k i
    obtain ⟨hb, h2⟩ := tst_none h
    have hb' := of_decide_eq_true hb
    cases v with
    | none => exact absurd hv (by simp [RepO])
    | some v =>
      have hv' : Rep C v (.int k i) := hv
      cases hv'
      exact ⟨_, .inr ⟨k, i, rfl, hb'.1, hb'.2, rfl⟩, h2⟩
  · cases h

theorem Bnd.le {x : Option Value} {d y n : Nat} (h : Bnd x d y n) (hd : d ≤ y) : n ≤ y := by
  rcases h with ⟨_, rfl⟩ | ⟨k, i, _, h0, h1, rfl⟩
  · exact hd
  · omega

theorem Bnd.run {v : Value} {d y y' n : Nat} (h : Bnd (some v) d y n) (hy : y ≤ y') (code : BoundsCode) (w : World) : (Instr.sliceBound v y' code).run P w = .ok n w := by
  rcases h with ⟨h, _⟩ | ⟨k, i, h, h0, h1, rfl⟩
  · cases h
  · cases h
    exact run_sliceBound w k i y' code h0 (by omega)

theorem bounds_run (isSlice : Bool) {len cap a h : Nat} {lo hi : Option Value} (hh : Bnd hi len len h) (hl : len ≤ cap) (ha : Bnd lo 0 h a) (w : World) :
    (Instr.sliceBounds isSlice len cap lo hi none).run P w = .ok (a, h, cap) w := by
  cases hi with
  | none =>
    rcases hh with ⟨_, rfl⟩ | ⟨k, i, h', _⟩
    · cases lo with
      | none =>
        rcases ha with ⟨_, rfl⟩ | ⟨k, i, h', _⟩
        · simp [Instr.sliceBounds]
        · cases h'
      | some v => simp [Instr.sliceBounds, ha.run (P := P) (Nat.le_refl _)]
    · cases h'
  | some hv =>
    cases lo with
    | none =>
      rcases ha with ⟨_, rfl⟩ | ⟨k, i, h', _⟩
      · simp [Instr.sliceBounds, hh.run (P := P) hl]
      · cases h'
    | some v => simp [Instr.sliceBounds, hh.run (P := P) hl, ha.run (P := P) (Nat.le_refl _)]

theorem bounds_run3 (isSlice : Bool) {len cap a h m : Nat} {lo : Option Value} {hv mv : Value} (hm : Bnd (some mv) 0 len m) (hl : len ≤ cap) (hh : Bnd (some hv) len len h) (hle : h ≤ m) (ha : Bnd lo 0 h a) (w : World) :
    (Instr.sliceBounds isSlice len cap lo (some hv) (some mv)).run P w = .ok (a, h, m) w := by
  have e3 : ∀ code w, (Instr.sliceBound hv m code).run P w = .ok h w := by
    intro code w
    rcases hh with ⟨h', _⟩ | ⟨k, i, h', h0, h1, rfl⟩
    · cases h'
    · cases h'
      exact run_sliceBound w k i m code h0 (by omega)
  cases lo with
  | none =>
    rcases ha with ⟨_, rfl⟩ | ⟨k, i, h', _⟩
    · simp [Instr.sliceBounds, hm.run (P := P) hl, e3]
    · cases h'
  | some v => simp [Instr.sliceBounds, hm.run (P := P) hl, e3, ha.run (P := P) (Nat.le_refl _)]

/-- The elements of a part. -/
theorem part_get {es : List TV} {l h : Nat} (i : Nat) : ((es.take h).drop l)[i]? = if l + i < h then es[l + i]? else none := by
  rw [List.getElem?_drop, List.getElem?_take]

theorem headSz_all {esz sz : Nat} {es : List TV} (hh : headSz esz es = true) (he : ∀ e ∈ es, e.cells.length = sz) (hne : es ≠ []) : sz = esz := by
  cases es with
  | nil => exact absurd rfl hne
  | cons e es => rw [← he e List.mem_cons_self]; exact Nat.eq_of_beq_eq_true hh

def cutAddr (a : Option Addr) (m l sz : Nat) : Option Addr := if m = l then a else a.map (·.add (l * sz))

theorem Rep.cutTo {C D : Ctx} (hw : D.w = C.w) (ha : ∀ v t, Rep C v t → Rep D v t) {o o' : Own} {a : Option Addr} {len cap : Nat} {es : List TV} {esz l h m : Nat} (hr : Rep C (.slice a len cap) (.slice o es))
    (hhd : headSz esz es = true) (hl : l ≤ h) (hh : h ≤ es.length) (hm : h ≤ m) (hcur : C.cur o)
    (hs : ∀ sz, len = es.length → len ≤ cap → (es ≠ [] → sz = esz) → SlAt C o a len cap sz → SlAt D o' (cutAddr a m l esz) (h - l) (m - l) sz) :
    Rep D (.slice (cutAddr a m l esz) (h - l) (m - l)) (.slice o' ((es.take h).drop l)) := by
  cases hr with
  | slice sz f hlen hcap he hat hc hrep =>
    have hsz : es ≠ [] → sz = esz := fun hne => headSz_all hhd (fun e h => (he e h).1) hne
    refine .slice sz (fun i j => f (l + i) j) ?_ (by omega) (fun e h' => he e ?_) (hs sz hlen hcap hsz hat) (fun ad i j had _ hi hj => ?_) (fun i j e c h1 h2 => ha _ _ ?_)
    · simp; omega
    · exact List.mem_of_mem_take (List.mem_of_mem_drop h')
    · rw [hw]
      have hne : es ≠ [] := by rintro rfl; simp at hh; omega
      have hz := hsz hne
      subst hz
      have hml : m ≠ l := by omega
      simp only [cutAddr, if_neg hml] at had
      cases a with
      | none => cases had
      | some ad0 =>
        cases had
        have := hc ad0 (l + i) j rfl hcur (by omega) hj
        obtain ⟨b0, o0, s0⟩ := ad0
        have hsp := (hat.some _ rfl).1
        simp only at hsp; subst hsp
        simp only [addr_add]
        show C.w.cell? ⟨b0, o0 + l * sz + (i * sz + j), none⟩ = some (f (l + i) j)
        rw [← this]
        congr 2
        rw [Nat.add_mul]; simp only; omega
    · rw [part_get] at h1
      split at h1
      · exact hrep _ _ _ _ h1 h2
      · cases h1

/-- A token that gives up what lies behind. -/
def Ctx.retract (C : Ctx) (id ver sz e : Nat) : Ctx := { C with ents := C.ents.set id (.tok (ver + 1) false sz), fe := upd C.fe id e }

theorem retract_ok (hok : Ok P E C) {id ver sz e : Nat} (ht : C.tok id ver false sz) : Adv C (C.retract id ver sz e) ∧ Ok P E (C.retract id ver sz e) := by
  obtain ⟨⟨arr, ty, lo, hi, hcell, hfr⟩, hp0, hle, _⟩ := hok.obj _ _ ht
  have hr : Retok P E C (C.retract id ver sz e) id ver false sz (ver + 1) false sz :=
    { was := ht, ents := rfl, mono := Nat.le_succ _, base := rfl, os := rfl, tape := rfl, output := rfl, size := Nat.le_refl _, loc := fun _ _ => rfl
      fe := fun r hr => upd_ne _ _ hr
      heap := fun _ _ _ => rfl, fz := fun _ _ _ => rfl, cells := fun _ _ _ h => h, fzold := Nat.le_refl _, room := fun _ h => h
      same := fun h => absurd h (by omega)
      lt := hok.lt _ _ ht trivial
      apart := fun s e' hs he ha => fun hl => hs (hok.inj s id e' _ he ht ha trivial hl)
      pinned := fun h => by cases h
      fresh := hok.fresh }
  refine ⟨hr.adv hok, hr.ok hok ⟨⟨arr, ty, lo, hi, hcell, hfr⟩, hp0, ?_, fun h => by cases h⟩⟩
  show C.fz (C.loc id) ≤ _
  rw [hp0 rfl]; exact Nat.zero_le _

theorem cutAddr_some {ad : Addr} {m l sz : Nat} {b off : Nat} (h : ad = ⟨b, off, none⟩) : cutAddr (some ad) m l sz = some ⟨b, if m = l then off else off + l * sz, none⟩ := by
  subst h
  unfold cutAddr
  split
  · rfl
  · simp [addr_add]

theorem cutK_sound {R : Type} {σ : St} (hok : Ok P E C) (hc : C.ents = σ.ents) {o : Own} {a : Option Addr} {len cap : Nat} {es : List TV} {esz l h m : Nat} {mx : Bool} {K : TV → St → Option R} {r : R}
    (hr : Rep C (.slice a len cap) (.slice o es)) (hhd : headSz esz es = true) (hl : l ≤ h) (hh : h ≤ es.length) (hm : h ≤ m) (hm' : m ≤ cap) (hmx : (mx = true → m = h) ∧ (mx = false → m = cap)) (hk : cutK σ o es l h mx K = some r) :
    Gives P E C σ (.ok (.slice (cutAddr a m l esz) (h - l) (m - l)) C.w) K r := by
  have same : ∀ o', C.cur o → (∀ sz, len = es.length → len ≤ cap → (es ≠ [] → sz = esz) → SlAt C o a len cap sz → SlAt C o' (cutAddr a m l esz) (h - l) (m - l) sz) → K (.slice o' ((es.take h).drop l)) σ = some r →
      Gives P E C σ (.ok (.slice (cutAddr a m l esz) (h - l) (m - l)) C.w) K r := fun o' hcur hs hK =>
    ⟨C, _, _, σ, rfl, Adv.refl C, hok, hc, Tame.refl σ, hr.cutTo rfl (fun _ _ h => h) hhd hl hh hm hcur hs, hK⟩
  have heldPart : ∀ (o' : Own) (sz : Nat), len = es.length → (es ≠ [] → sz = esz) → SlAt C o a len cap sz → (∀ b e, C.held o b e → C.held o' b e) →
      (cutAddr a m l esz = none → m - l = 0) ∧ ∀ ad, cutAddr a m l esz = some ad → ad.spot = none ∧ (h - l ≠ 0 → C.held o' ad.block (ad.off + (h - l) * sz)) := by
    intro o' sz hlen hsz hat hto
    constructor
    · intro hn
      cases a with
      | none => have := hat.none rfl; omega
      | some ad =>
        obtain ⟨b, off, spot⟩ := ad
        have hsp := (hat.some _ rfl).1
        simp only at hsp; subst hsp
        rw [cutAddr_some rfl] at hn; cases hn
    · intro ad had
      cases a with
      | none =>
        unfold cutAddr at had
        split at had <;> cases had
      | some ad0 =>
        obtain ⟨b, off, spot⟩ := ad0
        have hsp := (hat.some _ rfl).1
        simp only at hsp; subst hsp
        rw [cutAddr_some rfl] at had; cases had
        refine ⟨rfl, fun h0 => ?_⟩
        have hne : es ≠ [] := by rintro rfl; simp at hh; omega
        have hz := hsz hne
        subst hz
        have hml : m ≠ l := by omega
        simp only [if_neg hml]
        refine hto _ _ (C.held_mono ((hat.some _ rfl).2 (by omega)) ?_)
        have : h * sz ≤ len * sz := Nat.mul_le_mul_right sz (by omega)
        rw [Nat.sub_mul]
        have : l * sz ≤ h * sz := Nat.mul_le_mul_right sz hl
        simp only; omega
  have exPart : ∀ (sz : Nat), len = es.length → SlAt C o a len cap sz → (∀ ad, a = some ad → len ≠ 0 → C.base ≤ ad.block) → ∀ ad, h - l ≠ 0 → cutAddr a m l esz = some ad → C.base ≤ ad.block := by
    intro sz hlen hat hb ad h0 had
    cases a with
    | none =>
      unfold cutAddr at had
      split at had <;> cases had
    | some ad0 =>
      obtain ⟨b, off, spot⟩ := ad0
      have hsp := (hat.some _ rfl).1
      simp only at hsp; subst hsp
      rw [cutAddr_some rfl] at had; cases had
      exact (hb ⟨b, off, none⟩ rfl (by omega) : C.base ≤ b)
  unfold cutK at hk
  split at hk
  · rename_i id ver
    obtain ⟨pin, s, ht, hk2⟩ := curK_some hk
    have ht' : C.tok id ver pin s := by unfold Ctx.tok; rw [hc]; exact ht
    have hcur : C.cur (.tk id ver) := ⟨pin, s, ht'⟩
    have hblk : ∀ sz, SlAt C (.tk id ver) a len cap sz → ∀ ad, a = some ad → C.base ≤ ad.block := fun sz hat ad ha => by
      obtain ⟨_, ad', ha', hb', _⟩ := (hat.tk id ver rfl).2 pin s ht'
      rw [ha] at ha'; cases ha'
      rw [hb']; exact (hok.lt _ _ ht' trivial).1
    have toSh : pin = true → ∀ b e, C.held (.tk id ver) b e → e ≤ C.fz b := fun hp b e hh => ((hh.2 pin s ht').2.2) hp
    split at hk2
    · have hmh := hmx.1 rfl
      split at hk2
      · refine same .ex hcur (fun sz hlen hlc hsz hat => ?_) hk2
        obtain ⟨h1, h2⟩ := heldPart .ex sz hlen hsz hat (toSh rfl)
        exact ⟨h1, h2, fun _ => ⟨by rw [hmh], fun h0 ad had => exPart sz hlen hat (fun ad ha _ => hblk sz hat ad ha) ad h0 had⟩, (fun _ _ x => nomatch x)⟩
      · cases hk2
    · have hmc := hmx.2 rfl
      subst hmc
      rcases tst_some hk2 with ⟨hb, hk3⟩ | ⟨hb, hk3⟩
      · have hhe := Nat.eq_of_beq_eq_true hb
        refine same (.tk id ver) hcur (fun sz hlen hlc hsz hat => ?_) hk3
        obtain ⟨h1, h2⟩ := heldPart (.tk id ver) sz hlen hsz hat (fun _ _ h => h)
        refine ⟨h1, h2, (fun x => nomatch x), fun id' ver' ho => ?_⟩
        cases ho
        obtain ⟨hp, ht2⟩ := hat.tk id ver rfl
        refine ⟨hp, fun pin' s' hts => ?_⟩
        obtain ⟨hss, ad, ha, hbl, hoff, hroom⟩ := ht2 pin' s' hts
        obtain ⟨b, off, spot⟩ := ad
        have hsp := (hat.some _ ha).1
        simp only at hsp; subst hsp
        subst ha
        refine ⟨fun h0 => hss (by omega), _, cutAddr_some rfl, hbl, fun hlt => ?_, ?_⟩
        · have hml : m ≠ l := by omega
          have := hoff (by omega)
          simp only [if_neg hml]
          rw [← this]
          by_cases hne : es = []
          · subst hne
            simp at hh hlen
            have : l = 0 := by omega
            subst this
            subst hlen; subst hh
            simp
          · have hz := hsz hne
            have hs0 := hss (by rw [hlen]; intro h; exact hne (List.length_eq_zero_iff.1 h))
            rw [← hz, hs0, hlen, ← hhe, Nat.sub_mul]
            have : l * s' ≤ h * s' := Nat.mul_le_mul_right s' hl
            simp only; omega
        · obtain ⟨arr, ty, fr, hcell, hsize⟩ := hroom
          refine ⟨arr, ty, fr, hcell, Nat.le_trans ?_ hsize⟩
          by_cases hml : m = l
          · simp only [if_pos hml]; rw [hml]; simp
          · simp only [if_neg hml]
            by_cases hne : es = []
            · subst hne
              simp at hh
              have : l = 0 := by omega
              subst this; simp
            · have hz := hsz hne
              have hs0 := hss (by rw [hlen]; intro h; exact hne (List.length_eq_zero_iff.1 h))
              rw [← hz, hs0, Nat.sub_mul]
              have : l * s' ≤ m * s' := Nat.mul_le_mul_right s' (by omega)
              omega
      · have hhne : h ≠ es.length := fun h => by rw [h] at hb; simp at hb
        split at hk3
        · refine same .sh hcur (fun sz hlen hlc hsz hat => ?_) hk3
          obtain ⟨h1, h2⟩ := heldPart .sh sz hlen hsz hat (toSh rfl)
          exact ⟨h1, h2, (fun x => nomatch x), (fun _ _ x => nomatch x)⟩
        · have hne : es ≠ [] := by rintro rfl; simp at hh hhne; exact hhne hh
          obtain ⟨ad, ha, had, hse, hfe, hroom⟩ : ∃ ad, a = some ad ∧ ad.block = C.loc id ∧ esz = s ∧ ad.off + len * s ≤ C.fe id ∧ C.room ad.block (ad.off + m * s) := by
            cases hr with
            | slice sz f hlen hcap he hat _ hrep =>
              have hsz : sz = esz := headSz_all hhd (fun e h => (he e h).1) hne
              obtain ⟨hp, ht2⟩ := hat.tk id ver rfl
              obtain ⟨hss, ad, ha, hbl, hoff, hroom⟩ := ht2 _ s ht'
              have hl0 : len ≠ 0 := by rw [hlen]; intro h; exact hne (List.length_eq_zero_iff.1 h)
              have hh := ((hat.some ad ha).2 hl0).2 _ s ht'
              rw [hss hl0] at hh hsz
              exact ⟨ad, ha, hbl, hsz.symm, hh.2.1, hroom⟩
          subst hse
          obtain ⟨b, off, spot⟩ := ad
          have hsp : spot = none := by
            cases hr with
            | slice sz f hlen hcap he hat _ hrep => exact (hat.some _ ha).1
          subst hsp
          subst ha
          obtain ⟨hadv, hok'⟩ := retract_ok (e := off + h * esz) hok ht'
          refine ⟨C.retract id ver esz (off + h * esz), _, _, σ.put id (.tok (ver + 1) false esz), rfl, hadv, hok', ?_, Tame.put ht (fun _ _ _ => Nat.zero_le _), ?_, hk3⟩
          · show C.ents.set id _ = (σ.put id _).ents
            rw [hc]; rfl
          have hlt : id < C.ents.length := (List.getElem?_eq_some_iff.1 ht').1
          have htok : ∀ v p s', (C.retract id ver esz (off + h * esz)).tok id v p s' → v = ver + 1 ∧ p = false ∧ esz = s' := by
            intro v p s' hx
            have : (C.ents.set id (.tok (ver + 1) false esz))[id]? = some (.tok v p s') := hx
            rw [List.getElem?_set_self hlt] at this
            cases this
            exact ⟨rfl, rfl, rfl⟩
          have hpast : (C.retract id ver esz (off + h * esz)).past id (ver + 1) := ⟨ver + 1, false, esz, by
            show (C.ents.set id _)[id]? = _
            exact List.getElem?_set_self hlt, Nat.le_refl _⟩
          refine Rep.cutTo (C := C) (D := C.retract id ver esz (off + h * esz)) rfl hadv.rep hr hhd hl hh hm hcur (fun sz hlen hlc hsz hat => ?_)
          obtain rfl : esz = sz := (hsz hne).symm
          obtain ⟨h1, _⟩ := heldPart (.tk id ver) esz hlen (fun _ => rfl) hat (fun _ _ h => h)
          have hfe' : (C.retract id ver esz (off + h * esz)).fe id = off + h * esz := upd_same _ _ _
          refine ⟨h1, fun ad had' => ?_, (fun x => nomatch x), fun id' ver' ho => ?_⟩
          · rw [cutAddr_some rfl] at had'; cases had'
            refine ⟨rfl, fun h0 => ⟨hpast, fun p' s' hx => ?_⟩⟩
            obtain ⟨_, rfl, rfl⟩ := htok _ _ _ hx
            refine ⟨had, ?_, fun h => by cases h⟩
            rw [hfe']
            have hml : m ≠ l := by omega
            simp only [if_neg hml]
            rw [Nat.sub_mul]
            have : l * esz ≤ h * esz := Nat.mul_le_mul_right esz hl
            omega
          · cases ho
            refine ⟨hpast, fun p' s' hx => ?_⟩
            obtain ⟨_, rfl, rfl⟩ := htok _ _ _ hx
            refine ⟨fun _ => rfl, _, cutAddr_some rfl, had, fun hlt' => ?_, ?_⟩
            · rw [hfe']
              have hml : m ≠ l := by omega
              simp only [if_neg hml]
              rw [Nat.sub_mul]
              have : l * esz ≤ h * esz := Nat.mul_le_mul_right esz hl
              omega
            · obtain ⟨arr, ty, fr, hcell, hsize⟩ := hroom
              refine ⟨arr, ty, fr, hcell, Nat.le_trans ?_ hsize⟩
              by_cases hml : m = l
              · simp only [if_pos hml]; rw [hml]; simp
              · simp only [if_neg hml]
                rw [Nat.sub_mul]
                have : l * esz ≤ m * esz := Nat.mul_le_mul_right esz (by omega)
                omega
  · refine same .sh trivial (fun sz hlen hlc hsz hat => ?_) hk
    obtain ⟨h1, h2⟩ := heldPart .sh sz hlen hsz hat (fun _ _ h => h)
    exact ⟨h1, h2, (fun x => nomatch x), (fun _ _ x => nomatch x)⟩
  · have exCase : (m - l = h - l) → K (.slice .ex ((es.take h).drop l)) σ = some r → Gives P E C σ (.ok (.slice (cutAddr a m l esz) (h - l) (m - l)) C.w) K r := fun hmh hk' => by
      refine same .ex trivial (fun sz hlen hlc hsz hat => ?_) hk'
      obtain ⟨h1, h2⟩ := heldPart .ex sz hlen hsz hat (fun _ _ h => h)
      exact ⟨h1, h2, fun _ => ⟨hmh, fun h0 ad had => exPart sz hlen hat (fun ad ha hl0 => (hat.ex rfl).2 hl0 ad ha) ad h0 had⟩, (fun _ _ x => nomatch x)⟩
    split at hk
    · have hmh := hmx.1 rfl
      exact exCase (by rw [hmh]) hk
    · rcases tst_some hk with ⟨hb, hk3⟩ | ⟨hb, hk3⟩
      · have hhe := Nat.eq_of_beq_eq_true hb
        have hmc := hmx.2 rfl
        have hcl : cap = len ∧ len = es.length := by
          cases hr with
          | slice sz f hlen hcap he hat _ hrep => exact ⟨(hat.ex rfl).1, hlen⟩
        exact exCase (by omega) hk3
      · refine same .sh trivial (fun sz hlen hlc hsz hat => ?_) hk3
        obtain ⟨h1, h2⟩ := heldPart .sh sz hlen hsz hat (fun _ _ h => h)
        exact ⟨h1, h2, (fun x => nomatch x), (fun _ _ x => nomatch x)⟩

theorem sliceK_sound {R : Type} (hE : EnvOk0 P E) {σ : St} (hok : Ok P E C) (hc : C.ents = σ.ents) {t : TypeId} {x : TV} {a : Value} {lo hi mx : Option TV} {vlo vhi vmx : Option Value} {K : TV → St → Option R} {r : R}
    (hx : Rep C a x) (hlo : RepO C vlo lo) (hhi : RepO C vhi hi) (hmx : RepO C vmx mx) (h : sliceK E σ t x lo hi mx K = some r) :
    Gives P E C σ ((Instr.sliceAt t a vlo vhi vmx).run P C.w) K r := by
  obtain ⟨l, hl, h1⟩ := layK_some h
  obtain ⟨ti, hti, hd, _, _, _, _, helt, _⟩ := layOf_facts (hE.lay _ _ hl)
  clear h hl
  split at h1
  · rename_i s hu
    rw [hu] at hd
    split at h1
    · cases h1
    · cases vmx with
      | some _ => exact absurd hmx (by simp [RepO])
      | none =>
        obtain ⟨h', hb, h2⟩ := boundK_some hhi h1
        obtain ⟨a', ha, h3⟩ := boundK_some hlo h2
        cases hx
        refine ⟨C, _, _, σ, ?_, Adv.refl C, hok, hc, Tame.refl σ, .str _, h3⟩
        have hsz : (⟨⟨s⟩⟩ : ByteArray).size = s.length := rfl
        have hr := bounds_run (P := P) (len := s.length) (cap := s.length) false hb (Nat.le_refl _) ha C.w
        have he : (⟨⟨s⟩⟩ : ByteArray).extract a' h' = ⟨⟨(s.take h').drop a'⟩⟩ := by
          apply ByteArray.ext
          rw [ByteArray.data_extract]
          apply Array.ext'
          simp [List.drop_take]
        rw [run_sliceAt_string C.w t _ _ _ _ hd]
        simp [Instr.slice, run_underlying hd, hsz, hr, he]
  · rename_i e o es hu
    rw [hu] at hd
    obtain ⟨j, d, hj, hdj, helt', hesz, _⟩ := helt e (by rw [hu]; rfl)
    have hEl : P.elem t = e := by
      unfold Program.elem; rw [hd]
    have hd' : P.underlying t = some (.slice (P.elem t)) := by rw [hEl]; exact hd
    obtain ⟨hhd, h2⟩ := tst_none h1
    obtain ⟨p, cap, rfl, hcap⟩ := hx.slice_len
    have hrun : ∀ {lo hi mx : Option Value} {a h m : Nat}, (Instr.sliceBounds true es.length cap lo hi mx).run P C.w = .ok (a, h, m) C.w →
        (Instr.sliceAt t (.slice p es.length cap) lo hi mx).run P C.w = .ok (.slice (cutAddr p m a l.esz) (h - a) (m - a)) C.w := by
      intro lo hi mx a h m hb
      rw [run_sliceAt_slice C.w t _ _ _ _ hd', run_slice_any C.w t _ _ _ hd', hb, hEl]
      simp only [Result.andThen_ok, run_size hj, sliced, cutAddr, hesz]
    split at h2
    · cases vmx with
      | some _ => exact absurd hmx (by simp [RepO])
      | none =>
        obtain ⟨h', hb, h3⟩ := boundK_some hhi h2
        obtain ⟨a', ha, h4⟩ := boundK_some hlo h3
        rw [hrun (bounds_run true hb hcap ha C.w)]
        have hh := hb.le (Nat.le_refl _)
        exact cutK_sound (mx := false) hok hc hx hhd (ha.le (Nat.zero_le _)) hh (by omega) (Nat.le_refl _) ⟨(fun x => nomatch x), fun _ => rfl⟩ h4
    · rename_i m
      obtain ⟨hsome, h3⟩ := tst_none h2
      obtain ⟨h', hb, h4⟩ := boundK_some hhi h3
      obtain ⟨m', hm, h5⟩ := boundK_some hmx h4
      obtain ⟨hhm, h6⟩ := tst_none h5
      obtain ⟨a', ha, h7⟩ := boundK_some hlo h6
      cases vmx with
      | none => exact absurd hmx (by simp [RepO])
      | some mv =>
        cases vhi with
        | none =>
          cases hi with
          | none => cases hsome
          | some _ => exact absurd hhi (by simp [RepO])
        | some hv =>
          have hhm' := Nat.eq_of_beq_eq_true hhm
          rw [hrun (bounds_run3 true hm hcap hb (by omega) ha C.w)]
          have hh := hb.le (Nat.le_refl _)
          exact cutK_sound (mx := true) hok hc hx hhd (ha.le (Nat.zero_le _)) hh (by omega) (by omega) ⟨fun _ => hhm'.symm, (fun x => nomatch x)⟩ h7
  · rename_i e r' off len sz ag hu
    rw [hu] at hd
    obtain ⟨j, d, hj, hdj, helt', hesz, _⟩ := helt e (by rw [hu]; rfl)
    have hEl : P.elem t = e := by
      unfold Program.elem; rw [hd]
    have hd' : P.underlying t = some (.slice (P.elem t)) := by rw [hEl]; exact hd
    obtain ⟨hsz, h2⟩ := tst_none h1
    have hsz' := Nat.eq_of_beq_eq_true hsz
    cases hx with
    | bsl hp hlen hoo =>
      rename_i off2 cap
      have hrun : ∀ {lo hi mx : Option Value} {a h m : Nat}, (Instr.sliceBounds true len cap lo hi mx).run P C.w = .ok (a, h, m) C.w →
          (Instr.sliceAt t (.slice (some ⟨C.loc r', off2, none⟩) len cap) lo hi mx).run P C.w = .ok (.slice (some ⟨C.loc r', if m = a then off2 else off2 + a * sz, none⟩) (h - a) (m - a)) C.w := by
        intro lo hi mx a h m hb
        rw [run_sliceAt_slice C.w t _ _ _ _ hd', run_slice_any C.w t _ _ _ hd', hb, hEl]
        simp only [Result.andThen_ok, run_size hj, sliced, ← hesz, ← hsz']
        split
        · rfl
        · simp [addr_add]
      have hrep : ∀ {a h m : Nat}, a ≤ h → h ≤ len → h ≤ m → Rep C (.slice (some ⟨C.loc r', if m = a then off2 else off2 + a * sz, none⟩) (h - a) (m - a)) (.bsl r' (off + a * sz) (h - a) sz ag) := by
        intro a h m hah hhl hhm
        refine .bsl hp (by omega) (fun h0 => ?_)
        have hma : m ≠ a := by omega
        rw [if_neg hma, hoo (by omega)]
      split at h2
      · cases vmx with
        | some _ => exact absurd hmx (by simp [RepO])
        | none =>
          obtain ⟨h', hb, h3⟩ := boundK_some hhi h2
          obtain ⟨a', ha, h4⟩ := boundK_some hlo h3
          rw [hrun (bounds_run true hb hlen ha C.w)]
          have hh := hb.le (Nat.le_refl _)
          exact ⟨C, _, _, σ, rfl, Adv.refl C, hok, hc, Tame.refl σ, hrep (ha.le (Nat.zero_le _)) hh (by omega), h4⟩
      · rename_i m
        obtain ⟨hsome, h3⟩ := tst_none h2
        obtain ⟨h', hb, h4⟩ := boundK_some hhi h3
        obtain ⟨m', hm, h5⟩ := boundK_some hmx h4
        obtain ⟨hhm, h6⟩ := tst_none h5
        obtain ⟨a', ha, h7⟩ := boundK_some hlo h6
        cases vmx with
        | none => exact absurd hmx (by simp [RepO])
        | some mv =>
          cases vhi with
          | none =>
            cases hi with
            | none => cases hsome
            | some _ => exact absurd hhi (by simp [RepO])
          | some hv =>
            have hhm' := Nat.le_of_ble_eq_true hhm
            rw [hrun (bounds_run3 true hm hlen hb hhm' ha C.w)]
            have hh := hb.le (Nat.le_refl _)
            exact ⟨C, _, _, σ, rfl, Adv.refl C, hok, hc, Tame.refl σ, hrep (ha.le (Nat.zero_le _)) hh hhm', h7⟩
  · rename_i n e cs hu
    rw [hu] at hd
    obtain ⟨j, d, hj, hdj, helt', hesz, _⟩ := helt e (by rw [hu]; rfl)
    split at h1
    · cases vmx with
      | some _ => exact absurd hmx (by simp [RepO])
      | none =>
        obtain ⟨h', hb, h3⟩ := boundK_some hhi h1
        obtain ⟨a', ha, h4⟩ := boundK_some hlo h3
        obtain ⟨hfit, h5⟩ := tst_none h4
        cases hx with
        | view f hheld hz hcells hrep =>
          rename_i b off
          have hb' := bounds_run (P := P) false hb (Nat.le_refl _) ha C.w
          have hh := hb.le (Nat.le_refl _)
          have hah := ha.le (Nat.zero_le _)
          have hrun : (Instr.sliceAt t (.pointer (some ⟨b, off, none⟩)) vlo vhi none).run P C.w = .ok (.slice (some ⟨b, if n = a' then off else off + a' * l.esz, none⟩) (h' - a') (n - a')) C.w := by
            simp only [Instr.sliceAt, Instr.sureAddr, Sem.run_bind, run_underlying hd, Result.andThen_ok, hb', run_size hj, Sem.run_pure, hesz]
            split
            · rfl
            · simp [addr_add]
          refine ⟨C, _, _, σ, hrun, Adv.refl C, hok, hc, Tame.refl σ, ?_, h5⟩
          refine Rep.ofCells (off0 := off) f (fun j hj => hcells trivial j hj) hrep hheld hfit (by omega) (fun h0 => ?_)
          have hna : n ≠ a' := by omega
          rw [if_neg hna]
    · cases h1
  · cases h1
end
end Go.Tv

/- Appending and copying. -/
namespace Go.Tv
open Go Go.RowKit

section
variable {P : Program} {E : Env} {C D : Ctx}

theorem putCells_get {arr : Array Value} {off : Nat} {vs : List Value} (h : off + vs.length ≤ arr.size) (k : Nat) :
    (putCells arr off vs)[k]? = if k < off then arr[k]? else if k < off + vs.length then vs[k - off]? else arr[k]? := by
  unfold putCells
  have htl : (arr.toList.take off).length = off := by simp; omega
  rw [List.getElem?_toArray, List.append_assoc]
  by_cases h1 : k < off
  · rw [if_pos h1, List.getElem?_append_left (by omega), List.getElem?_take, if_pos h1]
    simp
  · rw [if_neg h1, List.getElem?_append_right (by omega), htl]
    by_cases h2 : k < off + vs.length
    · rw [if_pos h2, List.getElem?_append_left (by omega)]
    · rw [if_neg h2, List.getElem?_append_right (by omega), List.getElem?_drop]
      rw [show off + vs.length + (k - off - vs.length) = k by omega]
      simp

/-- The elements of a row stand for a slice. -/
theorem Rep.ofRow {b off sz cap : Nat} {row : Array Value} {ty : TypeId} {fr : Nat × Nat} {es : List TV} {o : Own} (hh : D.w.heap[b]? = some (.cells row ty fr))
    (hes : ∀ e ∈ es, e.cells.length = sz ∧ Bare e.cells ∧ oneL e.cells = true)
    (hget : ∀ (i j : Nat) (e c : TV), es[i]? = some e → e.cells[j]? = some c → ∃ v, row[off + (i * sz + j)]? = some v ∧ Rep D v c)
    (hcap : es.length ≤ cap) (hs : SlAt D o (some ⟨b, off, none⟩) es.length cap sz) : Rep D (.slice (some ⟨b, off, none⟩) es.length cap) (.slice o es) := by
  refine .slice sz (fun i j => (row[off + (i * sz + j)]?).getD Go.undef) rfl hcap hes hs (fun ad i j had _ hi hj => ?_) (fun i j e c he hc => ?_)
  · cases had
    obtain ⟨e, he⟩ : ∃ e, es[i]? = some e := ⟨_, List.getElem?_eq_getElem hi⟩
    have hlen := (hes e (List.mem_of_getElem? he)).1
    obtain ⟨c, hc⟩ : ∃ c, e.cells[j]? = some c := ⟨_, List.getElem?_eq_getElem (by omega)⟩
    obtain ⟨v, hv, _⟩ := hget i j e c he hc
    rw [hv, cell_of_row D.w b _ row ty fr hh]
    simpa using hv
  · obtain ⟨v, hv, hr⟩ := hget i j e c he hc
    rw [hv]; exact hr

/-- What may be appended. -/
structure Apd (P : Program) (C : Ctx) (sz : Nat) (x : Value) (xs : List TV) (news : List Value) : Prop where
  len : ∀ w, (Builtin.lenOf x).run P w = .ok xs.length w
  cells : ∀ (w : World) (n : Nat), n ≤ xs.length → (∀ b off v, C.w.cell? ⟨b, off, none⟩ = some v → w.cell? ⟨b, off, none⟩ = some v) →
    (Builtin.firstCells sz n x).run P w = .ok (news.take (n * sz)).toArray w
  size : news.length = xs.length * sz
  one : ∀ v ∈ news, v.oneCell' = true
  elems : ∀ e ∈ xs, e.cells.length = sz ∧ Bare e.cells ∧ oneL e.cells = true
  get : ∀ (i j : Nat) (e c : TV), xs[i]? = some e → e.cells[j]? = some c → ∃ v, news[i * sz + j]? = some v ∧ Rep C v c
  read : ∀ (b off len cap : Nat), x = .slice (some ⟨b, off, none⟩) len cap → ∀ (k : Nat) (v : Value), news[k]? = some v → C.w.cell? ⟨b, off + k, none⟩ = some v

theorem lenOf_slice (a : Option Addr) (n cap : Nat) (w : World) : (Builtin.lenOf (.slice a n cap)).run P w = .ok n w := by simp [Builtin.lenOf]

theorem mul_lt_row {i j n sz : Nat} (hi : i < n) (hj : j < sz) : i * sz + j < n * sz := by
  have : (i + 1) * sz ≤ n * sz := Nat.mul_le_mul_right sz hi
  rw [Nat.succ_mul] at this; omega

theorem Apd.ofSlice {o : Own} {a : Option Addr} {len cap : Nat} {xs : List TV} {sz : Nat} (hr : Rep C (.slice a len cap) (.slice o xs)) (hcur : C.cur o) (hhd : headSz sz xs = true) :
    ∃ news, Apd P C sz (.slice a len cap) xs news := by
  by_cases hne : xs = []
  · subst hne
    have hl0 : len = 0 := by
      cases hr with
      | slice sz f hlen hcap he hat hc hrep => simpa using hlen
    subst hl0
    refine ⟨[], ⟨fun w => lenOf_slice _ _ _ w, fun w n hn _ => ?_, by simp, (fun v hv => nomatch hv), (fun e he => nomatch he), (fun i j e c he => by simp at he), (fun b off len cap _ k v h => by simp at h)⟩⟩
    have hn0 : n = 0 := by simpa using hn
    subst hn0
    rw [List.take_nil]
    cases a with
    | none => exact run_firstCells_none w _ _ _ _
    | some b => exact run_firstCells_some w sz 0 b 0 cap [] (by simp) (fun j v h => by simp at h)
  · cases hr with
    | slice z f hlen hcap he hat hc hrep =>
      obtain rfl : sz = z := (headSz_all hhd (fun e h => (he e h).1) hne).symm
      have hl0 : len ≠ 0 := by rw [hlen]; intro h; exact hne (List.length_eq_zero_iff.1 h)
      cases a with
      | none => have := hat.none rfl; omega
      | some ad =>
        obtain ⟨b, off, spot⟩ := ad
        have hsp := (hat.some _ rfl).1
        simp only at hsp; subst hsp
        have hget : ∀ i j, i < len → j < sz → ((List.range (len * sz)).map fun k => f (k / sz) (k % sz))[i * sz + j]? = some (f i j) := by
          intro i j hi hj
          have hlt := mul_lt_row hi hj
          rw [List.getElem?_map, List.getElem?_range hlt]
          simp only [Option.map_some]
          have hd : (i * sz + j) / sz = i := by
            rw [Nat.mul_comm, Nat.mul_add_div (by omega), Nat.div_eq_of_lt hj]; rfl
          have hm : (i * sz + j) % sz = j := by
            rw [Nat.mul_comm, Nat.mul_add_mod, Nat.mod_eq_of_lt hj]
          rw [hd, hm]
        have hcell : ∀ k v, ((List.range (len * sz)).map fun k => f (k / sz) (k % sz))[k]? = some v → C.w.cell? ⟨b, off + k, none⟩ = some v := by
          intro k v hk
          have hlt : k < len * sz := by
            have := (List.getElem?_eq_some_iff.1 hk).1
            simpa using this
          have hsz : 0 < sz := by
            rcases Nat.eq_zero_or_pos sz with h0 | h0
            · subst h0; simp at hlt
            · exact h0
          have hi : k / sz < len := by rw [Nat.div_lt_iff_lt_mul hsz]; exact hlt
          have hj : k % sz < sz := Nat.mod_lt _ hsz
          have hkk : k / sz * sz + k % sz = k := by rw [Nat.mul_comm]; exact Nat.div_add_mod k sz
          have h1 := hc _ (k / sz) (k % sz) rfl hcur hi hj
          have h2 := hget (k / sz) (k % sz) hi hj
          rw [hkk] at h1 h2
          rw [h2] at hk; cases hk
          exact h1
        refine ⟨(List.range (len * sz)).map fun k => f (k / sz) (k % sz), ⟨fun w => by rw [lenOf_slice, hlen], fun w n hn hw => ?_, by simp [hlen], fun v hv => ?_, he, fun i j e c hi hj => ?_, fun b' off' len' cap' heq k v hk => by cases heq; exact hcell k v hk⟩⟩
        · refine run_firstCells_some w sz n ⟨b, off, none⟩ len cap _ ?_ (fun k v hk => ?_)
          · have : n * sz ≤ len * sz := Nat.mul_le_mul_right sz (by omega)
            rw [List.length_take, List.length_map, List.length_range]; omega
          · rw [addr_add]
            rw [List.getElem?_take] at hk
            split at hk
            · exact hw _ _ _ (hcell k v hk)
            · cases hk
        · obtain ⟨k, hk⟩ := List.getElem?_of_mem hv
          have hlt : k < len * sz := by
            have := (List.getElem?_eq_some_iff.1 hk).1
            simpa using this
          have hsz : 0 < sz := by
            rcases Nat.eq_zero_or_pos sz with h0 | h0
            · subst h0; simp at hlt
            · exact h0
          have hi : k / sz < len := by rw [Nat.div_lt_iff_lt_mul hsz]; exact hlt
          have hj : k % sz < sz := Nat.mod_lt _ hsz
          have hkk : k / sz * sz + k % sz = k := by rw [Nat.mul_comm]; exact Nat.div_add_mod k sz
          have h2 := hget (k / sz) (k % sz) hi hj
          rw [hkk, hk] at h2; cases h2
          obtain ⟨e, hee⟩ : ∃ e, xs[k / sz]? = some e := ⟨_, List.getElem?_eq_getElem (by omega)⟩
          have hes := he e (List.mem_of_getElem? hee)
          obtain ⟨c, hcc⟩ : ∃ c, e.cells[k % sz]? = some c := ⟨_, List.getElem?_eq_getElem (by omega)⟩
          exact rep_one (hrep _ _ e c hee hcc) (oneL_iff.1 hes.2.2 c (List.mem_of_getElem? hcc))
        · have hi' : i < len := by rw [hlen]; exact (List.getElem?_eq_some_iff.1 hi).1
          have hj' : j < sz := by rw [← (he e (List.mem_of_getElem? hi)).1]; exact (List.getElem?_eq_some_iff.1 hj).1
          exact ⟨_, hget i j hi' hj', hrep i j e c hi hj⟩

theorem Apd.ofStr (s : List UInt8) : ∃ news, Apd P C 1 (.string ⟨⟨s⟩⟩) (bytesOf s) news := by
  refine ⟨s.map fun b => .int .u8 b.toNat, ⟨fun w => ?_, fun w n hn _ => ?_, by simp [bytesOf_length], fun v hv => ?_, fun e he => ?_, fun i j e c hi hj => ?_, (fun _ _ _ _ h => nomatch h)⟩⟩
  · rw [bytesOf_length]
    simp [Builtin.lenOf]; rfl
  · rw [bytesOf_length] at hn
    simp only [Builtin.firstCells, Sem.run_pure, Nat.mul_one]
    congr 1
    apply Array.ext'
    rw [ByteArray.data_extract]
    simp
  · obtain ⟨b, _, rfl⟩ := List.mem_map.1 hv
    rfl
  · obtain ⟨i, hi⟩ := List.getElem?_of_mem he
    rw [bytesOf_get] at hi
    cases hb : s[i]? with
    | none => rw [hb] at hi; cases hi
    | some b => rw [hb] at hi; cases hi; exact ⟨rfl, ⟨rfl, rfl⟩, rfl⟩
  · rw [bytesOf_get] at hi
    cases hb : s[i]? with
    | none => rw [hb] at hi; cases hi
    | some b =>
      rw [hb] at hi; cases hi
      have hj0 : j = 0 := by
        have := (List.getElem?_eq_some_iff.1 hj).1
        simp [TV.cells] at this; omega
      subst hj0
      simp [TV.cells] at hj
      subst hj
      exact ⟨.int .u8 b.toNat, by simp [hb], .int _ _⟩

theorem appendedK_sound {R : Type} {σ : St} (hok : Ok P E C) (hc : C.ents = σ.ents) {l : Lay} {x : TV} {a : Value} {K : List TV → Option R} {r : R} (hx : Rep C a x) (h : appendedK l σ x K = some r) :
    ∃ xs, K xs = some r ∧ (headSz l.esz xs = true → ∃ news, Apd P C l.esz a xs news) := by
  unfold appendedK at h
  split at h
  · obtain ⟨hcur, h2⟩ := ownK_some hc h
    obtain ⟨p, cap, rfl, hcap⟩ := hx.slice_len
    exact ⟨_, h2, fun hhd => Apd.ofSlice hx hcur hhd⟩
  · obtain ⟨h1, h2⟩ := tst_none h
    have := Nat.eq_of_beq_eq_true h1
    cases hx
    refine ⟨_, h2, fun _ => ?_⟩
    rw [this]
    exact Apd.ofStr _
  · rename_i r' off len sz ag
    obtain ⟨h1, h2⟩ := tst_none h
    have hsz := Nat.eq_of_beq_eq_true h1
    cases hx with
    | bsl hp hlen hoo =>
      rename_i off2 cap
      obtain ⟨b, off', cs, heq, hrd, h3⟩ := derefK_some hok hc (Rep.ptr hp) h2
      cases heq
      obtain ⟨hfit, h4⟩ := tst_none h3
      refine ⟨_, h4, fun _ => ?_⟩
      rw [← hsz]
      obtain ⟨vs, hvs, hcell⟩ := hrd.list
      have hfit' := hfit
      unfold fitK at hfit'
      rw [Bool.and_eq_true, Bool.and_eq_true, Bool.and_eq_true] at hfit'
      obtain ⟨⟨⟨hflat, hone⟩, hle⟩, _⟩ := hfit'
      have hle' := Nat.le_of_ble_eq_true hle
      rw [Nat.zero_add] at hle'
      have hgete : ∀ (i : Nat) (e : TV), (chunks ag sz len cs)[i]? = some e → i < len ∧ e.cells = (cs.drop (i * sz)).take sz ∧ e.cells.length = sz := by
        intro i e he
        have hi : i < len := by
          have := (List.getElem?_eq_some_iff.1 he).1
          rwa [chunks_length] at this
        have := chunks_cells (off := 0) hfit hi (by simpa using he)
        exact ⟨hi, by simpa using this.1, this.2⟩
      refine ⟨vs.take (len * sz), ⟨fun w => by rw [lenOf_slice, chunks_length], fun w n hn hw => ?_, ?_, fun v hv => ?_, fun e he => ?_, fun i j e c hi hj => ?_, fun b' off3 len' cap' heq k v hk => ?_⟩⟩
      · rw [chunks_length] at hn
        have hmul : n * sz ≤ len * sz := Nat.mul_le_mul_right sz hn
        rw [List.take_take, Nat.min_eq_left hmul]
        by_cases hl0 : len = 0
        · have hn0 : n = 0 := by omega
          subst hn0
          simp only [Nat.zero_mul, List.take_zero]
          exact run_firstCells_some w sz 0 _ len cap [] (by simp) (fun j v h => by simp at h)
        · refine run_firstCells_some w sz n _ len cap _ ?_ (fun k v hk => ?_)
          · have := hvs.1
            simp; omega
          · rw [addr_add, hoo hl0]
            rw [List.getElem?_take] at hk
            split at hk
            · exact hw _ _ _ (hcell k v hk)
            · cases hk
      · have := hvs.1
        rw [chunks_length]; simp; omega
      · exact oneL_all hone hvs v (List.mem_of_mem_take hv)
      · obtain ⟨i, hi⟩ := List.getElem?_of_mem he
        obtain ⟨hil, hce, hcl⟩ := hgete i e hi
        refine ⟨hcl, ?_, ?_⟩
        · rw [hce]; exact ((flat_bare hflat).drop _).take _
        · rw [hce, oneL_iff]
          intro v hv
          exact oneL_iff.1 hone v (List.mem_of_mem_drop (List.mem_of_mem_take hv))
      · obtain ⟨hil, hce, hcl⟩ := hgete i e hi
        have hjs : j < sz := by rw [← hcl]; exact (List.getElem?_eq_some_iff.1 hj).1
        have hlt := mul_lt_row hil hjs
        rw [hce, List.getElem?_take, if_pos hjs, List.getElem?_drop] at hj
        have hvl : i * sz + j < vs.length := by rw [hvs.1]; omega
        refine ⟨vs[i * sz + j], ?_, hvs.2 _ _ c (List.getElem?_eq_getElem hvl) hj⟩
        rw [List.getElem?_take, if_pos hlt]
        exact List.getElem?_eq_getElem hvl
      · cases heq
        rw [List.getElem?_take] at hk
        split at hk
        · have hl0 : len ≠ 0 := by rintro rfl; simp at *
          rw [hoo hl0]
          exact hcell k v hk
        · cases hk
  · cases h

/-- no integer is appended -/
theorem data_not_int {t : TypeId} {d : TypeDesc} (hd : P.underlying t = some d) (h : isData d = true) (w : World) :
    ((do pure ((← underlying t) matches .int _) : Sem Bool)).run P w = .ok false w := by
  cases d <;> simp [isData] at h <;> simp [run_underlying hd]

theorem run_append_in {t t2 ty e : TypeId} {i : TypeInfo} {d2 : TypeDesc} (ht : P.underlying t = some (.slice e)) (h2 : P.underlying t2 = some d2) (hdata : isData d2 = true) (hi : P.info? e = some i)
    {a : Option Addr} {sLen sCap n : Nat} {x : Value} {news : Array Value} {w : World} (hlen : (Builtin.lenOf x).run P w = .ok n w) (hnew : (Builtin.firstCells i.size n x).run P w = .ok news w) (hroom : sLen + n ≤ sCap) :
    (Builtin.append_ #[t, t2] ty #[.slice a sLen sCap, x]).run P w =
      ((match a with | some ad => storeCells (ad.add (sLen * i.size)) news.toList | none => pure () : Sem Unit).run P w).andThen fun _ w' => .ok (.slice a (sLen + n) sCap) w' := by
  cases a <;> cases d2 <;> simp [isData] at hdata <;>
    simp [Builtin.append_, run_underlying ht, run_underlying h2, sizeOf, typeInfo, hi, hlen, hroom, hnew]

theorem run_append_out {t t2 ty e : TypeId} {i : TypeInfo} {z : Value} {d2 : TypeDesc} (ht : P.underlying t = some (.slice e)) (h2 : P.underlying t2 = some d2) (hdata : isData d2 = true) (hi : P.info? e = some i) (hz : i.zero = some z)
    {a : Option Addr} {sLen sCap n : Nat} {x : Value} {olds news : Array Value} {w : World} (hlen : (Builtin.lenOf x).run P w = .ok n w) (hnew : (Builtin.firstCells i.size n x).run P w.drew = .ok news w.drew)
    (hold : (Builtin.firstCells i.size sLen (.slice a sLen sCap)).run P w.drew = .ok olds w.drew) (hg : sCap < sLen + n) (h63 : sLen + n ≤ 9223372036854775807) (hfit : Builtin.nextslicecap (sLen + n) sCap * i.bytes ≤ 281474976710656) :
    (Builtin.append_ #[t, t2] ty #[.slice a sLen sCap, x]).run P w =
      .ok (.slice (some ⟨w.heap.size, 0, none⟩) (sLen + n) (grownCap w (sLen + n) sCap e)) (w.drew.alloc (.cells (olds ++ news ++ Builtin.zeroCells z.cells (grownCap w (sLen + n) sCap e - (sLen + n))) e)) := by
  have hn : ¬ (sLen + n ≤ sCap) := by omega
  have h63' : ¬ (9223372036854775807 < ((sLen : Int) + (n : Int))) := by omega
  have h48' : ¬ (281474976710656 < Builtin.nextslicecap (sLen + n) sCap * i.bytes) := by omega
  cases d2 <;> simp [isData] at hdata <;>
    simp [Builtin.append_, run_underlying ht, run_underlying h2, sizeOf, typeInfo, zeroValue, hi, hz, hlen, hn, h63', h48', Question.forced, hnew, hold, newRow, grownCap]
end
end Go.Tv
