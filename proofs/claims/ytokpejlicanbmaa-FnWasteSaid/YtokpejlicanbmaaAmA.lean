import Derived.Calls
import Derived.Tactics
import Derived.Orders
import Derived.Below
import Derived.Laws.Cells
import Derived.Laws.CopyRow
import Derived.Deep.AppendSrc
set_option linter.all false
/- A small abstract machine over the model's code: values with names for blocks, frames with a heap of their own, borrowed data as trees. Definitions only. -/
namespace Am
open Go

/-- What a slot or a cell holds. 'sl', 'p': a slice, a pointer into object 'id' of the frame's own heap; 'bor': a slice that is only read; 'pb': a pointer to cells that are only read; 'nl': a nil slice; 'nq n': a bool that is true only if n = 0; 'ni': an interface value that is not nil; 'u': not known. -/
inductive AV where
  | v (x : Value)
  | u
  | nq (n : Nat)
  | ni
  | nl
  | p (id i f : Nat)
  | pb (cs : List AV) (f : Nat)
  | sl (id off len : Nat)
  | bor (imm : Bool) (es : List (List AV))
  | agg (cs : List AV)
  | tup (cs : List AV)
  | fn (f : Nat) (caps : List AV)
  deriving Inhabited

/-- An object: its elements, each a list of sz cells. 'flat': no cell leads to an object. -/
structure Ob where
  es : List (List AV)
  sz : Nat
  flat : Bool

structure St where
  t : List AV
  h : List (Option Ob)

inductive TK where
  | int (k : IntKind)
  | bool
  | str
  | sl (elem : Nat)
  | st (fs : List (Nat × Nat × Bool))
  | arr (n elem : Nat)
  | other

structure TI where
  ok : Bool
  eqs : Bool
  agg : Bool
  size : Nat
  bytes : Nat
  zero : List AV
  k : TK

structure Cx where
  P : Program
  ti : Nat → TI

/-- What an operation does: its value, objects that it changes, new objects, objects that it reads. -/
structure Eff where
  val : AV
  upd : List (Nat × Option Ob)
  new : List (Option Ob)
  rd : List Nat

def cells : AV → List AV
  | .agg cs => cs
  | x => [x]

def isCell : AV → Bool
  | .v x => match x with
    | .agg _ => false
    | .tuple _ => false
    | _ => true
  | .u => false
  | .nq _ => false
  | .agg _ => false
  | .tup _ => false
  | _ => true

/-- Does a value lead to no object of the frame's heap? -/
def noref : AV → Bool
  | .p _ _ _ => false
  | .sl _ _ _ => false
  | .agg _ => false
  | .tup _ => false
  | .fn _ caps => caps.isEmpty
  | _ => true

/-- May a value stay in an object that does not lead on? -/
def immc : AV → Bool
  | .p _ _ _ => false
  | .sl _ _ _ => false
  | .agg _ => false
  | .tup _ => false
  | .pb _ _ => false
  | .bor i _ => i
  | .fn _ caps => caps.isEmpty
  | _ => true

theorem immc_noref {x : AV} (h : immc x = true) : noref x = true := by
  cases x <;> simp_all [immc, noref]

def ofV : Value → AV
  | .slice none 0 0 => .nl
  | x => .v x

def opd (t : List AV) : Operand → AV
  | .tmp n => t.getD n .u
  | .const x => ofV x
  | .global _ => .u
  | .func f => .fn f []

def avif (c : Bool) : AV → AV → AV
  | .v (.bool x), .v (.bool y) => .v (.bool (cond c x y))
  | a, b => cond c a b

def repl (cs : List AV) (f : Nat) (ys : List AV) : List AV := cs.take f ++ ys ++ cs.drop (f + ys.length)

def ldv (ti : TI) (cs : List AV) (f : Nat) : AV := if ti.agg then .agg ((cs.drop f).take ti.size) else cs.getD f .u

def bitop (op : BinOp) (k : IntKind) (x y : Int) : Int :=
  let a := BitVec.ofInt k.bits x
  let b := BitVec.ofInt k.bits y
  match op with
  | .and => k.wrap (a &&& b).toNat
  | .or => k.wrap (a ||| b).toNat
  | .xor => k.wrap (a ^^^ b).toNat
  | _ => k.wrap (a &&& ~~~b).toNat

def ret (v : AV) : Option (Prop × Eff) := some (True, { val := v, upd := [], new := [], rd := [] })
def retp (p : Prop) (v : AV) : Option (Prop × Eff) := some (p, { val := v, upd := [], new := [], rd := [] })

def eqCells : List AV → List AV → Option Bool
  | [], [] => some true
  | .v (.int k a) :: xs, .v (.int k' b) :: ys => if k = k' then match eqCells xs ys with
      | some r => some (decide (a = b) && r)
      | none => none
    else none
  | _, _ => none

def intBin (op : BinOp) (k : IntKind) (a b : Int) : Option (Prop × Eff) :=
  match op with
  | .add => ret (.v (.int k (k.wrap (a + b))))
  | .sub => ret (.v (.int k (k.wrap (a - b))))
  | .mul => ret (.v (.int k (k.wrap (a * b))))
  | .quo => retp (b ≠ 0) (.v (.int k (k.wrap (a.tdiv b))))
  | .rem => retp (b ≠ 0) (.v (.int k (a.tmod b)))
  | .and => ret (.v (.int k (bitop .and k a b)))
  | .or => ret (.v (.int k (bitop .or k a b)))
  | .xor => ret (.v (.int k (bitop .xor k a b)))
  | .andNot => ret (.v (.int k (bitop .andNot k a b)))
  | .eql => ret (.v (.bool (decide (a = b))))
  | .neq => ret (.v (.bool (!decide (a = b))))
  | .lss => ret (.v (.bool (decide (a < b))))
  | .leq => ret (.v (.bool (decide (a ≤ b))))
  | .gtr => ret (.v (.bool (decide (a > b))))
  | .geq => ret (.v (.bool (decide (a ≥ b))))
  | _ => none

def strBin (op : BinOp) (a b : ByteArray) : Option (Prop × Eff) :=
  match op with
  | .add => retp (a.size + b.size ≤ 9223372036854775807) (.v (.string (a ++ b)))
  | .eql => ret (.v (.bool (a.toList == b.toList)))
  | .neq => ret (.v (.bool (!(a.toList == b.toList))))
  | _ => none

def bin (C : Cx) (op : BinOp) (xT : Nat) (x y : AV) : Option (Prop × Eff) :=
  match x, y with
  | .v (.int k a), .v (.int k' b) => match op with
    | .shl => retp (0 ≤ b) (.v (.int k (k.wrap (a * 2 ^ (min b.toNat k.bits)))))
    | .shr => retp (0 ≤ b) (.v (.int k (a.fdiv (2 ^ (min b.toNat k.bits)))))
    | op => if k = k' then intBin op k a b else none
  | .v (.string a), .v (.string b) => strBin op a b
  | .v (.bool a), .v (.bool b) => match (C.ti xT).k, op with
    | .bool, .eql => ret (.v (.bool (a == b)))
    | .bool, .neq => ret (.v (.bool (!(a == b))))
    | _, _ => none
  | .agg xs, .agg ys => match (C.ti xT).eqs, op, eqCells xs ys with
    | true, .eql, some r => retp (xs.length = (C.ti xT).size) (.v (.bool r))
    | true, .neq, some r => retp (xs.length = (C.ti xT).size) (.v (.bool (!r)))
    | _, _, _ => none
  | _, _ => none

def un (op : UnOp) (x : AV) : Option (Prop × Eff) :=
  match op, x with
  | .neg, .v (.int k n) => ret (.v (.int k (k.wrap (0 - n))))
  | .xor, .v (.int k n) => ret (.v (.int k (bitop .xor k (if k.signed then -1 else k.max) n)))
  | .not, .v (.bool b) => ret (.v (.bool (!b)))
  | _, _ => none

def place (zero : List AV) : List (Nat × List AV) → List AV
  | [] => zero
  | (off, ys) :: r => place (repl zero off ys) r

/-- The elements of a slice that is read, with the objects that are read. -/
def rdSlice (H : Nat → Option Ob) : AV → Option (List (List AV) × List Nat)
  | .nl => some ([], [])
  | .bor _ es => some (es, [])
  | .sl id off len => match H id with
    | some ob => some ((ob.es.drop off).take len, [id])
    | none => none
  | _ => none

def lenOf : AV → Option Nat
  | .nl => some 0
  | .bor _ es => some es.length
  | .sl _ _ len => some len
  | .v (.string s) => some s.size
  | _ => none

def opInt : AV → Option Int
  | .v (.int _ n) => some n
  | _ => none

def bound (x : Option AV) (d : Int) : Option Int :=
  match x with
  | none => some d
  | some a => opInt a

end Am

/- What one operation does on the abstract side: a condition and an effect. Definitions only. -/
namespace Am
open Go

def strOf (es : List (List AV)) : ByteArray :=
  ⟨(es.map fun e => match e with
    | [.v (.int _ n)] => UInt8.ofNat n.toNat
    | _ => 0).toArray⟩

def bytesOf (s : ByteArray) : List (List AV) := s.data.toList.map fun b => [.v (.int .u8 b.toNat)]

def isByte : List AV → Bool
  | [.v (.int .u8 _)] => true
  | _ => false

def strIndex (s : ByteArray) (i : Nat) : AV := .v (.int .u8 (s.data.toList.getD i 0).toNat)

/-- An object's flag, and the elements of a slice of it. -/
def rdFlat (H : Nat → Option Ob) : AV → Bool
  | .sl id _ _ => match H id with
    | some ob => ob.flat
    | none => true
  | .bor i es => i || es.all fun e => e.all immc
  | _ => true

def evAppend (C : Cx) (gr : Nat → Bool) (H : Nat → Option Ob) (s : Nat) (T : Nat) (a b : AV) : Option (Prop × Eff) :=
  match (C.ti T).k with
  | .sl el =>
    let sz := (C.ti el).size
    let src : Option (List (List AV) × List Nat × Bool) := match rdSlice H b with
      | some (es, ids) => some (es, ids, rdFlat H b)
      | none => none
    match src with
    | none => none
    | some (es2, ids2, fl2) =>
      if (C.ti el).bytes ≤ 128 then
        match a with
        | .nl => some (es2.length ≤ 549755813888 ∧ (∀ e ∈ es2, e.length = sz ∧ e.all isCell = true), { val := .sl s 0 es2.length, upd := [], new := [some { es := es2, sz := sz, flat := fl2 && !gr el }], rd := ids2 })
        | .sl id off len => match H id with
          | some ob => if ob.sz = sz then
              some ((len + es2.length ≤ 549755813888 ∧ (∀ e ∈ es2, e.length = sz ∧ e.all isCell = true)) ∧ (ob.flat = true → fl2 = true),
                { val := .sl s 0 (len + es2.length), upd := [(id, none)], new := [some { es := (ob.es.drop off).take len ++ es2, sz := sz, flat := ob.flat }], rd := id :: ids2 })
            else none
          | none => none
        | _ => none
      else none
  | _ => none

def evBuiltin (C : Cx) (gr : Nat → Bool) (ρ : Operand → AV) (H : Nat → Option Ob) (s : Nat) (c : Call) (b : Builtin) : Option (Prop × Eff) :=
  match b, c.args.toList with
  | .len, [x] => match c.argTypes.toList with
    | [T] => match (C.ti T).k, ρ x, lenOf (ρ x) with
      | .str, .v (.string _), some n => ret (.v (.int .i64 n))
      | .sl _, .nl, some n => ret (.v (.int .i64 n))
      | .sl _, .bor _ _, some n => ret (.v (.int .i64 n))
      | .sl _, .sl _ _ _, some n => ret (.v (.int .i64 n))
      | _, _, _ => none
    | _ => none
  | .max, [x, y] => match ρ x, ρ y with
    | .v (.int k a), .v (.int _ b) => ret (.v (.int k (max a b)))
    | _, _ => none
  | .min, [x, y] => match ρ x, ρ y with
    | .v (.int k a), .v (.int _ b) => ret (.v (.int k (min a b)))
    | _, _ => none
  | .append, [x, y] => match c.argTypes.toList with
    | [T, T2] => match (C.ti T2).k with
      | .sl _ => evAppend C gr H s T (ρ x) (ρ y)
      | _ => none
    | _ => none
  | _, _ => none

def evSlice (C : Cx) (H : Nat → Option Ob) (T : Nat) (x : AV) (lo hi : Option AV) : Option (Prop × Eff) :=
  match (C.ti T).k, lenOf x with
  | .str, some n => match x, bound lo 0, bound hi n with
    | .v (.string s), some l, some h => retp (0 ≤ l ∧ l ≤ h ∧ h ≤ n) (.v (.string (s.extract l.toNat h.toNat)))
    | _, _, _ => none
  | .sl el, some n => match x, bound lo 0, bound hi n with
    | .nl, some l, some h => retp (l = 0 ∧ h = 0) .nl
    | .bor i es, some l, some h => retp ((0 ≤ l ∧ l ≤ h ∧ h ≤ n) ∧ (∀ e ∈ es, e.length = (C.ti el).size)) (.bor i ((es.drop l.toNat).take (h.toNat - l.toNat)))
    | .sl id off _, some l, some h => match H id with
      | some ob => if ob.sz = (C.ti el).size then some (0 ≤ l ∧ l ≤ h ∧ h ≤ n, { val := .sl id (off + l.toNat) (h.toNat - l.toNat), upd := [], new := [], rd := [id] }) else none
      | none => none
    | _, _, _ => none
  | _, _ => none

def boxable : AV → Bool
  | .agg _ => true
  | x => isCell x

def partsOk (fs : List (Nat × Nat × Bool)) : List (Nat × AV) → Option (List (Nat × List AV))
  | [] => some []
  | (i, y) :: r => match fs[i]? with
    | some (off, sz, _) => if boxable y = true ∧ (cells y).length = sz then match partsOk fs r with
        | some l => some ((off, cells y) :: l)
        | none => none
      else none
    | none => none

def arrOk (n sz : Nat) : List (Nat × AV) → Option (List (Nat × List AV))
  | [] => some []
  | (i, y) :: r => if i < n ∧ boxable y = true ∧ (cells y).length = sz then match arrOk n sz r with
      | some l => some ((i * sz, cells y) :: l)
      | none => none
    else none

def placeEl (es : List (List AV)) : List (Nat × AV) → List (List AV)
  | [] => es
  | (i, y) :: r => placeEl (es.set i (cells y)) r

def elsOk (n sz : Nat) : List (Nat × AV) → Bool
  | [] => true
  | (i, y) :: r => decide (i < n) && boxable y && decide ((cells y).length = sz) && elsOk n sz r

def evLoad (C : Cx) (H : Nat → Option Ob) (T : Nat) : AV → Option (Prop × Eff)
  | .p id i f => match H id with
    | some ob => some (i < ob.es.length ∧ f + (C.ti T).size ≤ ob.sz, { val := ldv (C.ti T) (ob.es.getD i []) f, upd := [], new := [], rd := [id] })
    | none => none
  | .pb cs f => retp (f + (C.ti T).size ≤ cs.length) (ldv (C.ti T) cs f)
  | _ => none

/-- Is an operand the literal nil of a slice type? -/
def isNilS : Operand → Bool
  | .const (.slice none 0 0) => true
  | _ => false

/-- A slice against nil. -/
def nilCmp (C : Cx) (op : BinOp) (T : Nat) (X : AV) : Option (Prop × Eff) :=
  match (C.ti T).k, op, X with
  | .sl _, .eql, .nl => ret (.nq 0)
  | .sl _, .eql, .bor _ es => ret (.nq es.length)
  | .sl _, .eql, .sl _ _ len => ret (.nq len)
  | _, _, _ => none

def ev (C : Cx) (gr : Nat → Bool) (ρ : Operand → AV) (H : Nat → Option Ob) (s : Nat) (o : Oper) : Option (Prop × Eff) :=
  match o.op with
  | .move x => ret (ρ x)
  | .assign x => ret (ρ x)
  | .pick c a b => match ρ c with
    | .v (.bool c) => ret (avif c (ρ a) (ρ b))
    | _ => none
  | .alloc T => if (C.ti T).ok = false then none else some (True, { val := .p s 0 0, upd := [], new := [some { es := [(C.ti T).zero], sz := (C.ti T).size, flat := false }], rd := [] })
  | .box _ x => match ρ x with
    | .agg cs => some (True, { val := .p s 0 0, upd := [], new := [some { es := [cs], sz := cs.length, flat := false }], rd := [] })
    | a => if isCell a then some (True, { val := .p s 0 0, upd := [], new := [some { es := [[a]], sz := 1, flat := false }], rd := [] }) else none
  | .build T ps => match (C.ti T).k with
    | .st fs => match partsOk fs (ps.toList.map fun ix => (ix.1, ρ ix.2)) with
      | some l => retp (∀ p ∈ l, p.1 + p.2.length ≤ (C.ti T).size) (.agg (place (C.ti T).zero l))
      | none => none
    | .arr n el => match arrOk n (C.ti el).size (ps.toList.map fun ix => (ix.1, ρ ix.2)) with
      | some l => retp (∀ p ∈ l, p.1 + p.2.length ≤ (C.ti T).size) (.agg (place (C.ti T).zero l))
      | none => none
    | _ => none
  | .buildSlice T len ps => match (C.ti T).k with
    | .sl el => if len = 0 then (if ps.toList.isEmpty then ret .nl else none) else
        let l := ps.toList.map fun ix => (ix.1, ρ ix.2)
        if elsOk len (C.ti el).size l && decide (len * (C.ti el).size ≤ 16777216) && decide (0 < (C.ti el).size) then
          let es := placeEl (List.replicate len (C.ti el).zero) l
          some (True, { val := .sl s 0 len, upd := [], new := [some { es := es, sz := (C.ti el).size, flat := (es.all fun e => e.all immc) && !gr el }], rd := [] })
        else none
    | _ => none
  | .load T a => if (C.ti T).ok = false then none else evLoad C H T (ρ a)
  | .store T a x => if (C.ti T).ok = false then none else match ρ a with
    | .p id i f => match H id with
      | some ob =>
        let ys := cells (ρ x)
        if ys.length = (C.ti T).size ∧ ys.all isCell = true ∧ (ob.flat = true → ys.all immc = true) then
          some (i < ob.es.length ∧ f + ys.length ≤ ob.sz, { val := .u, upd := [(id, some { ob with es := ob.es.set i (repl (ob.es.getD i []) f ys) })], new := [], rd := [id] })
        else none
      | none => none
    | _ => none
  | .nilCheck x => match ρ x with
    | .p id i f => match H id with
      | some _ => some (True, { val := .p id i f, upd := [], new := [], rd := [id] })
      | none => none
    | .pb cs f => ret (.pb cs f)
    | .fn f caps => ret (.fn f caps)
    | _ => none
  | .binOp op xT x y _ => if isNilS y then nilCmp C op xT (ρ x) else bin C op xT (ρ x) (ρ y)
  | .unOp op _ x => un op (ρ x)
  | .convert src dst x => match (C.ti src).k, (C.ti dst).k, ρ x with
    | .int _, .int k, .v (.int _ n) => ret (.v (.int k (k.wrap n)))
    | .str, .str, .v (.string s) => ret (.v (.string s))
    | .sl el, .str, a => match (C.ti el).k, rdSlice H a with
      | .int .u8, some (es, ids) => some (∀ e ∈ es, isByte e = true, { val := .v (.string (strOf es)), upd := [], new := [], rd := ids })
      | _, _ => none
    | _, _, _ => none
  | .makeSlice T n m => match (C.ti T).k, ρ n, ρ m with
    | .sl el, .v (.int _ a), .v (.int _ b) => if (C.ti el).bytes ≤ 128 ∧ 0 < (C.ti el).size then
        some (0 ≤ a ∧ a ≤ 549755813888 ∧ a = b, { val := .sl s 0 a.toNat, upd := [], new := [some { es := List.replicate a.toNat (C.ti el).zero, sz := (C.ti el).size, flat := (C.ti el).zero.all immc && !gr el }], rd := [] })
      else none
    | _, _, _ => none
  | .slice T x lo hi mx => match mx with
    | none => evSlice C H T (ρ x) (lo.map ρ) (hi.map ρ)
    | some _ => none
  | .fieldAddr T x f => match (C.ti T).k, ρ x with
    | .st fs, .p id i g => match fs[f]?, H id with
      | some (off, sz, _), some _ => if sz = 0 then none else some (True, { val := .p id i (g + off), upd := [], new := [], rd := [id] })
      | _, _ => none
    | .st fs, .pb cs g => match fs[f]? with
      | some (off, sz, _) => if sz = 0 then none else ret (.pb cs (g + off))
      | none => none
    | _, _ => none
  | .field T x f => match (C.ti T).k, ρ x with
    | .st fs, .agg cs => match fs[f]? with
      | some (off, sz, ag) => retp (off + (if ag then sz else 1) ≤ cs.length) (if ag then .agg ((cs.drop off).take sz) else cs.getD off .u)
      | none => none
    | _, _ => none
  | .indexAddr T x ix => match (C.ti T).k, ρ x, ρ ix with
    | .sl el, .sl id off len, .v (.int _ i) => match H id with
      | some ob => if ob.sz = (C.ti el).size then some (0 ≤ i ∧ i < len, { val := .p id (off + i.toNat) 0, upd := [], new := [], rd := [id] }) else none
      | none => none
    | .sl el, .bor _ es, .v (.int _ i) => retp ((0 ≤ i ∧ i < es.length) ∧ (es.getD i.toNat []).length = (C.ti el).size) (.pb (es.getD i.toNat []) 0)
    | _, _, _ => none
  | .index T x ix => match (C.ti T).k, ρ x, ρ ix with
    | .str, .v (.string s), .v (.int _ i) => retp (0 ≤ i ∧ i < s.size) (strIndex s i.toNat)
    | .arr n el, .agg cs, .v (.int _ i) => retp (0 ≤ i ∧ i < n ∧ cs.length = n * (C.ti el).size) (ldv (C.ti el) cs (i.toNat * (C.ti el).size))
    | _, _, _ => none
  | .extract x ix => match ρ x with
    | .tup cs => retp (ix < cs.length) (cs.getD ix .u)
    | _ => none
  | .makeFunc f first caps => match f, first.isEmpty with
    | .func f, true => ret (.fn f (caps.toList.map ρ))
    | _, _ => none
  | .call c => match c.callee with
    | .builtin b => evBuiltin C gr ρ H s c b
    | _ => none
  | _ => none

end Am

/- How the abstract machine's values and heaps lie in the model's world. -/
namespace Am
open Go

structure Loc where
  b : Nat
  base : Nat
  size : Nat
  sz : Nat
  n : Nat

inductive LS where
  | fresh
  | dead
  | virt
  | live (L : Loc)

def owned (ρ : List LS) (b : Nat) : Prop := ∃ (id : Nat) (L : Loc), ρ[id]? = some (.live L) ∧ L.b = b

/-- A value of the abstract machine and the model's value. -/
inductive V (w : World) (ρ : List LS) (Z : Nat → Prop) : AV → Value → Prop
  | v (x : Value) : V w ρ Z (.v x) x
  | u (cv : Value) : V w ρ Z .u cv
  | nq (n : Nat) (b : Bool) (h : b = true → n = 0) : V w ρ Z (.nq n) (.bool b)
  | ni (t : Nat) (x : Value) : V w ρ Z .ni (.iface t x)
  | nl (a : Option Addr) : V w ρ Z .nl (.slice a 0 0)
  | p (id i f : Nat) (L : Loc) (h : ρ[id]? = some (.live L)) : V w ρ Z (.p id i f) (.pointer (some ⟨L.b, L.base + (i * L.sz + f), none⟩))
  | pd (id i f : Nat) (cv : Value) (h : ρ[id]? = some .dead) (hc : isCell (.v cv) = true) : V w ρ Z (.p id i f) cv
  | sl (id off len : Nat) (L : Loc) (c : Nat) (h : ρ[id]? = some (.live L)) (hc : len ≤ c) (hn : off + len ≤ L.n) (hr : L.base + (off + c) * L.sz ≤ L.size) :
      V w ρ Z (.sl id off len) (.slice (some ⟨L.b, L.base + off * L.sz, none⟩) len c)
  | slz (id off : Nat) (L : Loc) (a : Option Addr) (h : ρ[id]? = some (.live L)) : V w ρ Z (.sl id off 0) (.slice a 0 0)
  | slv (id off : Nat) (a : Option Addr) (h : ρ[id]? = some .virt) : V w ρ Z (.sl id off 0) (.slice a 0 0)
  | sld (id off len : Nat) (a : Option Addr) (c : Nat) (h : ρ[id]? = some .dead) (ha : a = none → len = 0) : V w ρ Z (.sl id off len) (.slice a len c)
  | pb (cs : List AV) (f b o : Nat) (g : Nat → Value) (hb : b < w.heap.size) (ho : ¬ owned ρ b)
      (hg : ∀ (k : Nat) (x : AV), cs[k]? = some x → w.cell? ⟨b, o + k, none⟩ = some (g k))
      (hv : ∀ (k : Nat) (x : AV), cs[k]? = some x → V w ρ Z x (g k)) (hn : ∀ (k : Nat) (x : AV), cs[k]? = some x → noref x = true) :
      V w ρ Z (.pb cs f) (.pointer (some ⟨b, o + f, none⟩))
  | borE (i : Bool) (a : Option Addr) (c : Nat) : V w ρ Z (.bor i []) (.slice a 0 c)
  | bor (i : Bool) (es : List (List AV)) (b o sz c : Nat) (g : Nat → Nat → Value) (hb : b < w.heap.size) (ho : ¬ owned ρ b) (hz : i = true → ¬ Z b)
      (hc : es.length ≤ c) (hsz : ∀ e ∈ es, e.length = sz)
      (hg : ∀ (k : Nat) (e : List AV) (j : Nat) (x : AV), es[k]? = some e → e[j]? = some x → w.cell? ⟨b, o + (k * sz + j), none⟩ = some (g k j))
      (hv : ∀ (k : Nat) (e : List AV) (j : Nat) (x : AV), es[k]? = some e → e[j]? = some x → V w ρ Z x (g k j))
      (hn : ∀ (k : Nat) (e : List AV) (j : Nat) (x : AV), es[k]? = some e → e[j]? = some x → noref x = true)
      (hm : i = true → ∀ (k : Nat) (e : List AV) (j : Nat) (x : AV), es[k]? = some e → e[j]? = some x → immc x = true) :
      V w ρ Z (.bor i es) (.slice (some ⟨b, o, none⟩) es.length c)
  | agg (cs : List AV) (arr : Array Value) (hl : cs.length = arr.size) (hv : ∀ (k : Nat) (x : AV), cs[k]? = some x → V w ρ Z x (arr.getD k undef)) :
      V w ρ Z (.agg cs) (.agg arr)
  | tup (cs : List AV) (arr : Array Value) (hl : cs.length = arr.size) (hv : ∀ (k : Nat) (x : AV), cs[k]? = some x → V w ρ Z x (arr.getD k undef)) :
      V w ρ Z (.tup cs) (.tuple arr)
  | fn (f : Nat) (caps : List AV) (arr : Array Value) (hl : caps.length = arr.size)
      (hv : ∀ (k : Nat) (x : AV), caps[k]? = some x → V w ρ Z x (arr.getD k undef)) : V w ρ Z (.fn f caps) (.func (.func f) #[] arr)

/-- What a call or an operation leaves of what was there. -/
structure Mono (w : World) (ρ : List LS) (w' : World) (ρ' : List LS) : Prop where
  os : w'.os = w.os
  tape : w'.tape = w.tape
  out : w'.output = w.output
  hs : w.heap.size ≤ w'.heap.size
  hb : ∀ b : Nat, b < w.heap.size → ¬ owned ρ b → w'.heap[b]? = w.heap[b]?
  ho : ∀ b : Nat, b < w.heap.size → owned ρ' b → owned ρ b
  hl : ∀ (id : Nat) (L : Loc), ρ[id]? = some (.live L) → ρ'[id]? = some (.live L) ∨ ρ'[id]? = some .dead
  hd : ∀ id : Nat, ρ[id]? = some .dead → ρ'[id]? = some .dead
  hv : ∀ id : Nat, ρ[id]? = some .virt → ρ'[id]? = some .virt ∨ ρ'[id]? = some .dead

theorem Mono.refl (w : World) (ρ : List LS) : Mono w ρ w ρ :=
  ⟨rfl, rfl, rfl, Nat.le_refl _, fun _ _ _ => rfl, fun _ _ h => h, fun _ _ h => .inl h, fun _ h => h, fun _ h => .inl h⟩

theorem Mono.trans {w w1 w2 : World} {ρ ρ1 ρ2 : List LS} (h : Mono w ρ w1 ρ1) (k : Mono w1 ρ1 w2 ρ2) : Mono w ρ w2 ρ2 where
  os := k.os.trans h.os
  tape := k.tape.trans h.tape
  out := k.out.trans h.out
  hs := Nat.le_trans h.hs k.hs
  hb b hb ho := (k.hb b (Nat.lt_of_lt_of_le hb h.hs) (fun c => ho (h.ho b hb c))).trans (h.hb b hb ho)
  ho b hb c := h.ho b hb (k.ho b (Nat.lt_of_lt_of_le hb h.hs) c)
  hl id L hh := by
    rcases h.hl id L hh with h1 | h1
    · exact k.hl id L h1
    · exact .inr (k.hd id h1)
  hd id hh := k.hd id (h.hd id hh)
  hv id hh := by
    rcases h.hv id hh with h1 | h1
    · exact k.hv id h1
    · exact .inr (k.hd id h1)

theorem cell_of_heap {w w' : World} {b : Nat} (h : w'.heap[b]? = w.heap[b]?) (o : Nat) : w'.cell? ⟨b, o, none⟩ = w.cell? ⟨b, o, none⟩ := by
  simp only [World.cell?, h]

theorem V.mono {w w' : World} {ρ ρ' : List LS} {Z : Nat → Prop} {x : AV} {cv : Value} (h : V w ρ Z x cv) (m : Mono w ρ w' ρ') : V w' ρ' Z x cv := by
  induction h with
  | v x => exact .v x
  | u cv => exact .u cv
  | nq n b h => exact .nq n b h
  | ni t x => exact .ni t x
  | nl a => exact .nl a
  | p id i f L h =>
    rcases m.hl id L h with h1 | h1
    · exact .p id i f L h1
    · exact .pd id i f _ h1 rfl
  | pd id i f cv h hc => exact .pd id i f cv (m.hd id h) hc
  | sl id off len L c h hc hn hr =>
    rcases m.hl id L h with h1 | h1
    · exact .sl id off len L c h1 hc hn hr
    · exact .sld id off len _ c h1 (fun h => by cases h)
  | slz id off L a h =>
    rcases m.hl id L h with h1 | h1
    · exact .slz id off L a h1
    · exact .sld id off 0 a 0 h1 (fun _ => rfl)
  | slv id off a h =>
    rcases m.hv id h with h1 | h1
    · exact .slv id off a h1
    · exact .sld id off 0 a 0 h1 (fun _ => rfl)
  | sld id off len a c h ha => exact .sld id off len a c (m.hd id h) ha
  | pb cs f b o g hb ho hg hv hn ih =>
    exact .pb cs f b o g (Nat.lt_of_lt_of_le hb m.hs) (fun c => ho (m.ho b hb c)) (fun k x hx => (cell_of_heap (m.hb b hb ho) _).trans (hg k x hx)) ih hn
  | borE i a c => exact .borE i a c
  | bor i es b o sz c g hb ho hz hc hsz hg hv hn hm ih =>
    exact .bor i es b o sz c g (Nat.lt_of_lt_of_le hb m.hs) (fun c => ho (m.ho b hb c)) hz hc hsz
      (fun k e j x he hx => (cell_of_heap (m.hb b hb ho) _).trans (hg k e j x he hx)) ih hn hm
  | agg cs arr hl hv ih => exact .agg cs arr hl ih
  | tup cs arr hl hv ih => exact .tup cs arr hl ih
  | fn f caps arr hl hv ih => exact .fn f caps arr hl ih

/-- An object and the block where it lies. -/
structure ObR (w : World) (ρ : List LS) (Z : Nat → Prop) (ob : Ob) (L : Loc) : Prop where
  ex : ∃ (arr : Array Value) (T : Nat), w.heap[L.b]? = some (.cells arr T (0, 0)) ∧ L.size = arr.size ∧
    (∀ (k : Nat) (e : List AV) (j : Nat) (x : AV), ob.es[k]? = some e → e[j]? = some x → V w ρ Z x (arr.getD (L.base + (k * ob.sz + j)) undef))
  sz : L.sz = ob.sz
  ln : L.n = ob.es.length
  room : L.base + ob.es.length * ob.sz ≤ L.size
  nz : ¬ Z L.b
  el : ∀ e ∈ ob.es, e.length = ob.sz
  fl : ob.flat = true → ∀ e ∈ ob.es, ∀ x ∈ e, immc x = true

structure Rel (w : World) (ρ : List LS) (Z : Nat → Prop) (h : List (Option Ob)) : Prop where
  len : ρ.length = h.length
  obj : ∀ (id : Nat) (ob : Ob), h[id]? = some (some ob) → (∃ L, ρ[id]? = some (.live L) ∧ ObR w ρ Z ob L) ∨ (ρ[id]? = some .virt ∧ ob.es = [])
  non : ∀ id : Nat, h[id]? = some none → ρ[id]? = some .dead ∨ ρ[id]? = some .fresh
  inj : ∀ (i j : Nat) (L M : Loc), ρ[i]? = some (.live L) → ρ[j]? = some (.live M) → L.b = M.b → i = j
  zlt : ∀ b : Nat, Z b → b < w.heap.size

/-- A function's contract: called with such values over such objects of its own it returns such a value and leaves such objects. -/
def Ctr (P : Program) (f : Nat) (args : List AV) (h : List (Option Ob)) (v : AV) (h' : List (Option Ob)) : Prop :=
  ∀ (w : World) (ρ : List LS) (Z : Nat → Prop) (cargs : Array Value), Rel w ρ Z h → args.length = cargs.size →
    (∀ (k : Nat) (x : AV), args[k]? = some x → V w ρ Z x (cargs.getD k undef)) →
    Calls P f cargs w fun e w' => ∃ (cv : Value) (ρ' : List LS), e = .returned cv ∧ Rel w' ρ' Z h' ∧ V w' ρ' Z v cv ∧ Mono w ρ w' ρ'

end Am

/- The steps that heaps take: a new object, an object written, an object given up, a draw. -/
namespace Am
open Go

def putAt {α : Type} (l : List α) (s : Nat) (x : α) : List α := if s < l.length then l.set s x else l ++ [x]

def putAll {α : Type} (l : List α) (s : Nat) : List α → List α
  | [] => l
  | x :: xs => putAll (putAt l s x) (s + 1) xs

theorem putAt_get {α : Type} (l : List α) (s : Nat) (x : α) (hs : s ≤ l.length) (i : Nat) : (putAt l s x)[i]? = if i = s then some x else l[i]? := by
  unfold putAt
  split
  · rename_i h
    rw [List.getElem?_set]
    by_cases e : s = i
    · subst e; simp [h]
    · rw [if_neg e, if_neg (fun c => e c.symm)]
  · rename_i h
    have e0 : s = l.length := by omega
    subst e0
    rw [List.getElem?_append]
    by_cases e : i = l.length
    · subst e; simp
    · rw [if_neg e]
      split
      · rfl
      · rename_i h2
        rw [List.getElem?_eq_none (by simp; omega), List.getElem?_eq_none (by omega)]

theorem putAt_length {α : Type} (l : List α) (s : Nat) (x : α) (hs : s ≤ l.length) : (putAt l s x).length = if s < l.length then l.length else l.length + 1 := by
  unfold putAt; split <;> simp

/-- A place where n new objects may lie. -/
def FreshAt (ρ : List LS) (s n : Nat) : Prop := s = ρ.length ∨ ∀ j : Nat, j < n → ρ[s + j]? = some .fresh

theorem FreshAt.le {ρ : List LS} {s n : Nat} (h : FreshAt ρ s n) (hn : 0 < n) : s ≤ ρ.length := by
  rcases h with h | h
  · omega
  · have := h 0 hn
    have := (List.getElem?_eq_some_iff.1 this).1
    omega

theorem FreshAt.one {ρ : List LS} {s n : Nat} (h : FreshAt ρ s n) (hn : 0 < n) : ρ[s]? = none ∨ ρ[s]? = some .fresh := by
  rcases h with h | h
  · left; simp [h]
  · right; simpa using h 0 hn

theorem not_owned_size {w : World} {ρ : List LS} {Z : Nat → Prop} {h : List (Option Ob)} (r : Rel w ρ Z h) {b : Nat} (ho : owned ρ b) : b < w.heap.size := by
  obtain ⟨id, L, hL, rfl⟩ := ho
  have hid : id < h.length := by have := (List.getElem?_eq_some_iff.1 hL).1; rw [r.len] at this; exact this
  have hex : h[id]? = some h[id] := List.getElem?_eq_getElem hid
  cases ho : h[id] with
  | none =>
    rw [ho] at hex
    rcases r.non id hex with h1 | h1 <;> rw [hL] at h1 <;> cases h1
  | some ob =>
    rw [ho] at hex
    rcases r.obj id ob hex with ⟨L', h1, h2⟩ | ⟨h1, _⟩
    · rw [hL] at h1
      cases h1
      obtain ⟨arr, T, h3, _⟩ := h2.ex
      exact (Array.getElem?_eq_some_iff.1 h3).1
    · rw [hL] at h1; cases h1

theorem ObR.mono {w w' : World} {ρ ρ' : List LS} {Z : Nat → Prop} {ob : Ob} {L : Loc} (h : ObR w ρ Z ob L) (m : Mono w ρ w' ρ') (hb : w'.heap[L.b]? = w.heap[L.b]?) : ObR w' ρ' Z ob L where
  ex := by
    obtain ⟨arr, T, h1, h3, h4⟩ := h.ex
    exact ⟨arr, T, hb.trans h1, h3, fun k e j x he hx => (h4 k e j x he hx).mono m⟩
  sz := h.sz
  ln := h.ln
  room := h.room
  nz := h.nz
  el := h.el
  fl := h.fl

/-- A new block for a new object. -/
theorem relAlloc {w : World} {ρ : List LS} {Z : Nat → Prop} {h : List (Option Ob)} (r : Rel w ρ Z h) {s : Nat} (hs : s ≤ ρ.length) (hf : ρ[s]? = none ∨ ρ[s]? = some .fresh)
    (ob : Ob) (arr : Array Value) (T : Nat) (hroom : ob.es.length * ob.sz ≤ arr.size) (hel : ∀ e ∈ ob.es, e.length = ob.sz)
    (hfl : ob.flat = true → ∀ e ∈ ob.es, ∀ x ∈ e, immc x = true)
    (hv : ∀ (k : Nat) (e : List AV) (j : Nat) (x : AV), ob.es[k]? = some e → e[j]? = some x → V w ρ Z x (arr.getD (k * ob.sz + j) undef))
    (w' : World) (hw : w' = { w with heap := w.heap.push (.cells arr T (0, 0)) }) :
    Rel w' (putAt ρ s (.live ⟨w.heap.size, 0, arr.size, ob.sz, ob.es.length⟩)) Z (putAt h s (some ob)) ∧ Mono w ρ w' (putAt ρ s (.live ⟨w.heap.size, 0, arr.size, ob.sz, ob.es.length⟩)) := by
  have hg := putAt_get ρ s (.live ⟨w.heap.size, 0, arr.size, ob.sz, ob.es.length⟩) hs
  have hgh := putAt_get h s (some ob) (by rw [← r.len]; exact hs)
  have m : Mono w ρ w' (putAt ρ s (.live ⟨w.heap.size, 0, arr.size, ob.sz, ob.es.length⟩)) := by
    subst hw
    refine ⟨rfl, rfl, rfl, by simp, fun b hb _ => ?_, fun b hb ho => ?_, fun id L hL => ?_, fun id hd => ?_, fun id hv => ?_⟩
    · show (w.heap.push _)[b]? = _
      rw [Array.getElem?_push, if_neg (by omega)]
    · obtain ⟨id, L, hL, hLb⟩ := ho
      rw [hg] at hL
      by_cases e : id = s
      · rw [if_pos e] at hL
        cases hL
        simp at hLb
        omega
      · rw [if_neg e] at hL
        exact ⟨id, L, hL, hLb⟩
    · left
      rw [hg, if_neg]
      · exact hL
      · rintro rfl
        rcases hf with h1 | h1 <;> rw [h1] at hL <;> cases hL
    · rw [hg, if_neg]
      · exact hd
      · rintro rfl
        rcases hf with h1 | h1 <;> rw [h1] at hd <;> cases hd
    · left
      rw [hg, if_neg]
      · exact hv
      · rintro rfl
        rcases hf with h1 | h1 <;> rw [h1] at hv <;> cases hv
  refine ⟨⟨?_, ?_, ?_, ?_, ?_⟩, m⟩
  · rw [putAt_length _ _ _ hs, putAt_length _ _ _ (by rw [← r.len]; exact hs), r.len]
  · intro id ob' ho
    rw [hgh] at ho
    by_cases e : id = s
    · rw [if_pos e] at ho
      cases ho
      left
      refine ⟨_, by rw [hg, if_pos e], ⟨?_, rfl, rfl, by simpa using hroom, fun c => ?_, hel, hfl⟩⟩
      · refine ⟨arr, T, ?_, rfl, fun k e j x he hx => ?_⟩
        · subst hw; simp
        · simpa using (hv k e j x he hx).mono m
      · exact absurd (r.zlt _ c) (by simp)
    · rw [if_neg e] at ho
      rw [hg, if_neg e]
      rcases r.obj id ob' ho with ⟨L, h1, h2⟩ | h1
      · left
        refine ⟨L, h1, h2.mono m ?_⟩
        have : L.b < w.heap.size := not_owned_size r ⟨id, L, h1, rfl⟩
        subst hw
        show (w.heap.push _)[L.b]? = _
        rw [Array.getElem?_push, if_neg (by omega)]
      · exact .inr h1
  · intro id ho
    rw [hgh] at ho
    by_cases e : id = s
    · rw [if_pos e] at ho; cases ho
    · rw [if_neg e] at ho
      rw [hg, if_neg e]
      exact r.non id ho
  · intro i j L M hL hM hb
    rw [hg] at hL hM
    by_cases ei : i = s <;> by_cases ej : j = s
    · omega
    · rw [if_pos ei] at hL; rw [if_neg ej] at hM
      cases hL
      have := not_owned_size r ⟨j, M, hM, rfl⟩
      simp at hb
      omega
    · rw [if_neg ei] at hL; rw [if_pos ej] at hM
      cases hM
      have := not_owned_size r ⟨i, L, hL, rfl⟩
      simp at hb
      omega
    · rw [if_neg ei] at hL; rw [if_neg ej] at hM
      exact r.inj i j L M hL hM hb
  · intro b hb
    have := r.zlt b hb
    exact Nat.lt_of_lt_of_le this m.hs

/-- A new object without a block: an empty slice. -/
theorem relVirt {w : World} {ρ : List LS} {Z : Nat → Prop} {h : List (Option Ob)} (r : Rel w ρ Z h) {s : Nat} (hs : s ≤ ρ.length) (hf : ρ[s]? = none ∨ ρ[s]? = some .fresh)
    (ob : Ob) (he : ob.es = []) : Rel w (putAt ρ s .virt) Z (putAt h s (some ob)) ∧ Mono w ρ w (putAt ρ s .virt) := by
  have hg := putAt_get ρ s .virt hs
  have hgh := putAt_get h s (some ob) (by rw [← r.len]; exact hs)
  have hne : ∀ (id : Nat) (x : LS), ρ[id]? = some x → x ≠ .fresh → (putAt ρ s .virt)[id]? = some x := by
    intro id x hx hn
    rw [hg, if_neg]
    · exact hx
    · rintro rfl
      rcases hf with h1 | h1 <;> rw [h1] at hx <;> cases hx
      exact hn rfl
  have m : Mono w ρ w (putAt ρ s .virt) := by
    refine ⟨rfl, rfl, rfl, Nat.le_refl _, fun _ _ _ => rfl, fun b hb ho => ?_, fun id L hL => .inl (hne _ _ hL (by simp)), fun id hd => hne _ _ hd (by simp), fun id hv => .inl (hne _ _ hv (by simp))⟩
    obtain ⟨id, L, hL, hLb⟩ := ho
    rw [hg] at hL
    by_cases e : id = s
    · rw [if_pos e] at hL; cases hL
    · rw [if_neg e] at hL; exact ⟨id, L, hL, hLb⟩
  refine ⟨⟨?_, ?_, ?_, ?_, r.zlt⟩, m⟩
  · rw [putAt_length _ _ _ hs, putAt_length _ _ _ (by rw [← r.len]; exact hs), r.len]
  · intro id ob' ho
    rw [hgh] at ho
    by_cases e : id = s
    · rw [if_pos e] at ho
      cases ho
      exact .inr ⟨by rw [hg, if_pos e], he⟩
    · rw [if_neg e] at ho
      rw [hg, if_neg e]
      rcases r.obj id ob' ho with ⟨L, h1, h2⟩ | h1
      · exact .inl ⟨L, h1, h2.mono m rfl⟩
      · exact .inr h1
  · intro id ho
    rw [hgh] at ho
    by_cases e : id = s
    · rw [if_pos e] at ho; cases ho
    · rw [if_neg e] at ho
      rw [hg, if_neg e]
      exact r.non id ho
  · intro i j L M hL hM hb
    rw [hg] at hL hM
    by_cases ei : i = s
    · rw [if_pos ei] at hL; cases hL
    · by_cases ej : j = s
      · rw [if_pos ej] at hM; cases hM
      · rw [if_neg ei] at hL; rw [if_neg ej] at hM
        exact r.inj i j L M hL hM hb

/-- A world that differs in the count of draws alone. -/
theorem relSame {w w' : World} {ρ : List LS} {Z : Nat → Prop} {h : List (Option Ob)} (r : Rel w ρ Z h) (hh : w'.heap = w.heap) (ho : w'.os = w.os) (ht : w'.tape = w.tape)
    (hp : w'.output = w.output) : Rel w' ρ Z h ∧ Mono w ρ w' ρ := by
  have m : Mono w ρ w' ρ := ⟨ho, ht, hp, by rw [hh]; exact Nat.le_refl _, fun b _ _ => by rw [hh], fun b _ h => h, fun _ _ h => .inl h, fun _ h => h, fun _ h => .inl h⟩
  refine ⟨⟨r.len, fun id ob ho => ?_, r.non, r.inj, fun b hb => by rw [hh]; exact r.zlt b hb⟩, m⟩
  rcases r.obj id ob ho with ⟨L, h1, h2⟩ | h1
  · exact .inl ⟨L, h1, h2.mono m (by rw [hh])⟩
  · exact .inr h1

/-- An object is given up. -/
theorem relKill {w : World} {ρ : List LS} {Z : Nat → Prop} {h : List (Option Ob)} (r : Rel w ρ Z h) (id : Nat) (hid : ∃ x, h[id]? = some (some x)) :
    Rel w (ρ.set id .dead) Z (h.set id none) ∧ Mono w ρ w (ρ.set id .dead) := by
  obtain ⟨x, hx⟩ := hid
  have hlt : id < h.length := (List.getElem?_eq_some_iff.1 hx).1
  have hg : ∀ i : Nat, (ρ.set id .dead)[i]? = if i = id then some .dead else ρ[i]? := by
    intro i
    rw [List.getElem?_set]
    by_cases e : id = i
    · subst e; simp [r.len, hlt]
    · rw [if_neg e, if_neg (fun c => e c.symm)]
  have hgh : ∀ i : Nat, (h.set id none)[i]? = if i = id then some none else h[i]? := by
    intro i
    rw [List.getElem?_set]
    by_cases e : id = i
    · subst e; simp [hlt]
    · rw [if_neg e, if_neg (fun c => e c.symm)]
  have m : Mono w ρ w (ρ.set id .dead) := by
    refine ⟨rfl, rfl, rfl, Nat.le_refl _, fun _ _ _ => rfl, fun b hb ho => ?_, fun i L hL => ?_, fun i hd => ?_, fun i hv => ?_⟩
    · obtain ⟨i, L, hL, hLb⟩ := ho
      rw [hg] at hL
      by_cases e : i = id
      · rw [if_pos e] at hL; cases hL
      · rw [if_neg e] at hL; exact ⟨i, L, hL, hLb⟩
    · rw [hg]; by_cases e : i = id
      · rw [if_pos e]; exact .inr rfl
      · rw [if_neg e]; exact .inl hL
    · rw [hg]; by_cases e : i = id
      · rw [if_pos e]
      · rw [if_neg e]; exact hd
    · rw [hg]; by_cases e : i = id
      · rw [if_pos e]; exact .inr rfl
      · rw [if_neg e]; exact .inl hv
  refine ⟨⟨by simp [r.len], ?_, ?_, ?_, r.zlt⟩, m⟩
  · intro i ob ho
    rw [hgh] at ho
    by_cases e : i = id
    · rw [if_pos e] at ho; cases ho
    · rw [if_neg e] at ho
      rw [hg, if_neg e]
      rcases r.obj i ob ho with ⟨L, h1, h2⟩ | h1
      · exact .inl ⟨L, h1, h2.mono m rfl⟩
      · exact .inr h1
  · intro i ho
    rw [hgh] at ho
    rw [hg]
    by_cases e : i = id
    · rw [if_pos e]; exact .inl rfl
    · rw [if_neg e] at ho ⊢
      exact r.non i ho
  · intro i j L M hL hM hb
    rw [hg] at hL hM
    by_cases ei : i = id
    · rw [if_pos ei] at hL; cases hL
    · by_cases ej : j = id
      · rw [if_pos ej] at hM; cases hM
      · rw [if_neg ei] at hL; rw [if_neg ej] at hM
        exact r.inj i j L M hL hM hb

/-- A block of an object of the frame's own is written. -/
theorem relSet {w : World} {ρ : List LS} {Z : Nat → Prop} {h : List (Option Ob)} (r : Rel w ρ Z h) {id : Nat} {ob ob' : Ob} {L : Loc} (hid : h[id]? = some (some ob))
    (hL : ρ[id]? = some (.live L)) {arr arr' : Array Value} {T : Nat} (hb : w.heap[L.b]? = some (.cells arr T (0, 0))) (hsz : arr'.size = arr.size)
    (hs' : ob'.sz = ob.sz) (hel : ∀ e ∈ ob'.es, e.length = ob'.sz) (hlen : ob'.es.length = ob.es.length) (hfl : ob'.flat = true → ∀ e ∈ ob'.es, ∀ x ∈ e, immc x = true)
    (hv : ∀ (k : Nat) (e : List AV) (j : Nat) (x : AV), ob'.es[k]? = some e → e[j]? = some x → V w ρ Z x (arr'.getD (L.base + (k * ob'.sz + j)) undef))
    (w' : World) (hw : w' = { w with heap := w.heap.setIfInBounds L.b (.cells arr' T (0, 0)) }) :
    Rel w' ρ Z (h.set id (some ob')) ∧ Mono w ρ w' ρ := by
  have hlt : id < h.length := (List.getElem?_eq_some_iff.1 hid).1
  have hbl : L.b < w.heap.size := (Array.getElem?_eq_some_iff.1 hb).1
  have hgh : ∀ i : Nat, (h.set id (some ob'))[i]? = if i = id then some (some ob') else h[i]? := by
    intro i
    rw [List.getElem?_set]
    by_cases e : id = i
    · subst e; simp [hlt]
    · rw [if_neg e, if_neg (fun c => e c.symm)]
  have m : Mono w ρ w' ρ := by
    subst hw
    refine ⟨rfl, rfl, rfl, by simp, fun b hb ho => ?_, fun b hb ho => ho, fun i L hL => .inl hL, fun i hd => hd, fun i hv => .inl hv⟩
    show (w.heap.setIfInBounds L.b _)[b]? = _
    rw [Array.getElem?_setIfInBounds_ne]
    rintro rfl
    exact ho ⟨id, L, hL, rfl⟩
  have hOb : ObR w ρ Z ob L := by
    rcases r.obj id ob hid with ⟨L', h1, h2⟩ | ⟨h1, _⟩
    · rw [hL] at h1; cases h1; exact h2
    · rw [hL] at h1; cases h1
  refine ⟨⟨by simp [r.len], ?_, ?_, r.inj, fun b hb => Nat.lt_of_lt_of_le (r.zlt b hb) m.hs⟩, m⟩
  · intro i ob2 ho
    rw [hgh] at ho
    by_cases e : i = id
    · rw [if_pos e] at ho
      cases ho
      subst e
      left
      obtain ⟨arr0, T0, h1, h3, _⟩ := hOb.ex
      rw [hb] at h1
      cases h1
      refine ⟨L, hL, ⟨⟨arr', T, ?_, by rw [hsz]; exact h3, fun k e j x he hx => (hv k e j x he hx).mono m⟩, by rw [hs']; exact hOb.sz, by rw [hlen]; exact hOb.ln, by rw [hs', hlen]; exact hOb.room, hOb.nz, hel, hfl⟩⟩
      subst hw
      simp [hbl]
    · rw [if_neg e] at ho
      rcases r.obj i ob2 ho with ⟨M, h1, h2⟩ | h1
      · refine .inl ⟨M, h1, h2.mono m ?_⟩
        subst hw
        show (w.heap.setIfInBounds L.b _)[M.b]? = _
        rw [Array.getElem?_setIfInBounds_ne]
        intro c
        exact e (r.inj i id M L h1 hL c.symm)
      · exact .inr h1
  · intro i ho
    rw [hgh] at ho
    by_cases e : i = id
    · rw [if_pos e] at ho; cases ho
    · rw [if_neg e] at ho
      exact r.non i ho

/-- A row goes over, in place, to a new object; the elder one is given up. -/
theorem relOver {w : World} {ρ : List LS} {Z : Nat → Prop} {h : List (Option Ob)} (r : Rel w ρ Z h) {id s : Nat} {ob ob' : Ob} {L M : Loc} (hid : h[id]? = some (some ob))
    (hL : ρ[id]? = some (.live L)) (hs : s ≤ ρ.length) (hf : ρ[s]? = none ∨ ρ[s]? = some .fresh) {arr arr' : Array Value} {T : Nat}
    (hb : w.heap[L.b]? = some (.cells arr T (0, 0))) (hsz : arr'.size = arr.size) (hMb : M.b = L.b) (hMs : M.size = L.size) (hMz : M.sz = ob'.sz) (hMn : M.n = ob'.es.length)
    (hroom : M.base + ob'.es.length * ob'.sz ≤ M.size) (hel : ∀ e ∈ ob'.es, e.length = ob'.sz) (hfl : ob'.flat = true → ∀ e ∈ ob'.es, ∀ x ∈ e, immc x = true)
    (hv : ∀ (k : Nat) (e : List AV) (j : Nat) (x : AV), ob'.es[k]? = some e → e[j]? = some x → V w ρ Z x (arr'.getD (M.base + (k * ob'.sz + j)) undef))
    (w' : World) (hw : w' = { w with heap := w.heap.setIfInBounds L.b (.cells arr' T (0, 0)) }) :
    Rel w' (putAt (ρ.set id .dead) s (.live M)) Z (putAt (h.set id none) s (some ob')) ∧ Mono w ρ w' (putAt (ρ.set id .dead) s (.live M)) := by
  have hlt : id < h.length := (List.getElem?_eq_some_iff.1 hid).1
  have hbl : L.b < w.heap.size := (Array.getElem?_eq_some_iff.1 hb).1
  have hids : id ≠ s := by
    rintro rfl
    rcases hf with h1 | h1 <;> rw [h1] at hL <;> cases hL
  have hg : ∀ i : Nat, (putAt (ρ.set id .dead) s (.live M))[i]? = if i = s then some (.live M) else if i = id then some .dead else ρ[i]? := by
    intro i
    rw [putAt_get _ _ _ (by simpa using hs)]
    by_cases e : i = s
    · rw [if_pos e, if_pos e]
    · rw [if_neg e, if_neg e, List.getElem?_set]
      by_cases e2 : id = i
      · subst e2; simp [r.len, hlt]
      · rw [if_neg e2, if_neg (fun c => e2 c.symm)]
  have hgh : ∀ i : Nat, (putAt (h.set id none) s (some ob'))[i]? = if i = s then some (some ob') else if i = id then some none else h[i]? := by
    intro i
    rw [putAt_get _ _ _ (by simpa [← r.len] using hs)]
    by_cases e : i = s
    · rw [if_pos e, if_pos e]
    · rw [if_neg e, if_neg e, List.getElem?_set]
      by_cases e2 : id = i
      · subst e2; simp [hlt]
      · rw [if_neg e2, if_neg (fun c => e2 c.symm)]
  have hns : ∀ (i : Nat) (x : LS), ρ[i]? = some x → x ≠ .fresh → i ≠ s := by
    rintro i x hx hn rfl
    rcases hf with h1 | h1 <;> rw [h1] at hx <;> cases hx
    exact hn rfl
  have m : Mono w ρ w' (putAt (ρ.set id .dead) s (.live M)) := by
    subst hw
    refine ⟨rfl, rfl, rfl, by simp, fun b hb ho => ?_, fun b hb ho => ?_, fun i K hK => ?_, fun i hd => ?_, fun i hv => ?_⟩
    · show (w.heap.setIfInBounds L.b _)[b]? = _
      rw [Array.getElem?_setIfInBounds_ne]
      rintro rfl
      exact ho ⟨id, L, hL, rfl⟩
    · obtain ⟨i, K, hK, hKb⟩ := ho
      rw [hg] at hK
      by_cases e : i = s
      · rw [if_pos e] at hK
        cases hK
        exact ⟨id, L, hL, by rw [← hKb, hMb]⟩
      · rw [if_neg e] at hK
        by_cases e2 : i = id
        · rw [if_pos e2] at hK; cases hK
        · rw [if_neg e2] at hK; exact ⟨i, K, hK, hKb⟩
    · rw [hg, if_neg (hns i _ hK (by simp))]
      by_cases e2 : i = id
      · rw [if_pos e2]; exact .inr rfl
      · rw [if_neg e2]; exact .inl hK
    · rw [hg, if_neg (hns i _ hd (by simp))]
      by_cases e2 : i = id
      · rw [if_pos e2]
      · rw [if_neg e2]; exact hd
    · rw [hg, if_neg (hns i _ hv (by simp))]
      by_cases e2 : i = id
      · rw [if_pos e2]; exact .inr rfl
      · rw [if_neg e2]; exact .inl hv
  have hOb : ObR w ρ Z ob L := by
    rcases r.obj id ob hid with ⟨L', h1, h2⟩ | ⟨h1, _⟩
    · rw [hL] at h1; cases h1; exact h2
    · rw [hL] at h1; cases h1
  refine ⟨⟨?_, ?_, ?_, ?_, fun b hb => Nat.lt_of_lt_of_le (r.zlt b hb) m.hs⟩, m⟩
  · rw [putAt_length _ _ _ (by simpa using hs), putAt_length _ _ _ (by simpa [← r.len] using hs)]
    simp [r.len]
  · intro i ob2 ho
    rw [hgh] at ho
    by_cases e : i = s
    · rw [if_pos e] at ho
      cases ho
      left
      obtain ⟨arr0, T0, h1, h3, _⟩ := hOb.ex
      rw [hb] at h1
      cases h1
      refine ⟨M, by rw [hg, if_pos e], ⟨⟨arr', T, ?_, by rw [hMs, hsz]; exact h3, fun k e j x he hx => (hv k e j x he hx).mono m⟩, hMz, hMn, hroom, by rw [hMb]; exact hOb.nz, hel, hfl⟩⟩
      subst hw
      simp [hMb, hbl]
    · rw [if_neg e] at ho
      by_cases e2 : i = id
      · rw [if_pos e2] at ho; cases ho
      · rw [if_neg e2] at ho
        rw [hg, if_neg e, if_neg e2]
        rcases r.obj i ob2 ho with ⟨K, h1, h2⟩ | h1
        · refine .inl ⟨K, h1, h2.mono m ?_⟩
          subst hw
          show (w.heap.setIfInBounds L.b _)[K.b]? = _
          rw [Array.getElem?_setIfInBounds_ne]
          intro c
          exact e2 (r.inj i id K L h1 hL c.symm)
        · exact .inr h1
  · intro i ho
    rw [hgh] at ho
    by_cases e : i = s
    · rw [if_pos e] at ho; cases ho
    · rw [if_neg e] at ho
      rw [hg, if_neg e]
      by_cases e2 : i = id
      · rw [if_pos e2]; exact .inl rfl
      · rw [if_neg e2] at ho ⊢
        exact r.non i ho
  · intro i j K N hK hN hKN
    rw [hg] at hK hN
    by_cases ei : i = s <;> by_cases ej : j = s
    · omega
    · rw [if_pos ei] at hK; rw [if_neg ej] at hN
      cases hK
      by_cases ej2 : j = id
      · rw [if_pos ej2] at hN; cases hN
      · rw [if_neg ej2] at hN
        exact absurd (r.inj j id N L hN hL (by rw [← hKN, hMb])) ej2
    · rw [if_neg ei] at hK; rw [if_pos ej] at hN
      cases hN
      by_cases ei2 : i = id
      · rw [if_pos ei2] at hK; cases hK
      · rw [if_neg ei2] at hK
        exact absurd (r.inj i id K L hK hL (by rw [hKN, hMb])) ei2
    · rw [if_neg ei] at hK; rw [if_neg ej] at hN
      by_cases ei2 : i = id
      · rw [if_pos ei2] at hK; cases hK
      · by_cases ej2 : j = id
        · rw [if_pos ej2] at hN; cases hN
        · rw [if_neg ei2] at hK; rw [if_neg ej2] at hN
          exact r.inj i j K N hK hN hKN

end Am

/- The table of types: what it must say of the program's types, and that a look by program decides it. -/
namespace Am
open Go

def isAggD : TypeDesc → Bool
  | .struct _ => true
  | .array _ _ => true
  | _ => false

def zeroRel : AV → Value → Bool
  | .nl, .slice none 0 0 => true
  | .v (.int k n), .int k' n' => decide (k = k') && decide (n = n')
  | .v (.bool b), .bool b' => b == b'
  | .v (.string s), .string s' => decide (s.size = 0) && decide (s'.size = 0)
  | .v (.pointer none), .pointer none => true
  | .v .nilIface, .nilIface => true
  | .v .nilFunc, .nilFunc => true
  | _, _ => false

def zerosRel : List AV → List Value → Bool
  | [], [] => true
  | x :: xs, y :: ys => zeroRel x y && zerosRel xs ys
  | _, _ => false

theorem zeroRel_V {x : AV} {y : Value} (h : zeroRel x y = true) (w : World) (ρ : List LS) (Z : Nat → Prop) : V w ρ Z x y := by
  unfold zeroRel at h
  split at h
  · exact .nl none
  · simp at h; obtain ⟨rfl, rfl⟩ := h; exact .v _
  · simp at h; subst h; exact .v _
  · rename_i s s'
    simp at h
    obtain ⟨rfl, rfl⟩ := h
    exact .v _
  · exact .v _
  · exact .v _
  · exact .v _
  · cases h

theorem zerosRel_V {xs : List AV} {ys : List Value} (h : zerosRel xs ys = true) (w : World) (ρ : List LS) (Z : Nat → Prop) :
    xs.length = ys.length ∧ ∀ (k : Nat) (x : AV), xs[k]? = some x → V w ρ Z x (ys.getD k undef) := by
  induction xs generalizing ys with
  | nil => cases ys <;> simp [zerosRel] at h ⊢
  | cons x xs ih =>
    cases ys with
    | nil => simp [zerosRel] at h
    | cons y ys =>
      simp [zerosRel] at h
      obtain ⟨h1, h2⟩ := ih h.2
      refine ⟨by simp [h1], fun k z hz => ?_⟩
      cases k with
      | zero => simp at hz; subst hz; simpa using zeroRel_V h.1 w ρ Z
      | succ k => simp at hz; simpa using h2 k z hz

def fieldB (P : Program) (fd : Field) (f : Nat × Nat × Bool) : Bool :=
  decide (fd.offset = f.1) &&
  (match P.info? fd.type with
   | some i => decide (i.size = f.2.1)
   | none => false) &&
  (match P.underlying fd.type with
   | some d => isAggD d == f.2.2
   | none => false)

def fieldsB (P : Program) : List Field → List (Nat × Nat × Bool) → Bool
  | [], [] => true
  | x :: xs, y :: ys => fieldB P x y && fieldsB P xs ys
  | _, _ => false

def eqsB (P : Program) : List Field → Nat → Bool
  | [], _ => true
  | f :: fs, i => decide (f.offset = i) && decide (f.name ≠ "_") && (match P.underlying f.type with
    | some (.int _) => true
    | _ => false) && eqsB P fs (i + 1)

def kindB (P : Program) (ti : Nat → TI) (T : Nat) : TK → Bool
  | .int k => match P.underlying T with
    | some (.int k') => decide (k = k')
    | _ => false
  | .bool => match P.underlying T with
    | some .bool => true
    | _ => false
  | .str => match P.underlying T with
    | some .string => true
    | _ => false
  | .sl e => match P.underlying T with
    | some (.slice e') => decide (e = e') && (ti e).ok
    | _ => false
  | .st fs => match P.underlying T with
    | some (.struct fields) => fieldsB P fields.toList fs
    | _ => false
  | .arr n e => match P.underlying T with
    | some (.array n' e') => decide (n = n') && decide (e = e') && (ti e).ok
    | _ => false
  | .other => true

def tyB (P : Program) (ti : Nat → TI) (T : Nat) : Bool :=
  let i := ti T
  (match P.info? T with
   | some inf => decide (inf.size = i.size) && decide (inf.bytes = i.bytes) && decide (i.zero.length = i.size) && (match inf.zero with
     | some z => zerosRel i.zero z.cells.toList
     | none => false)
   | none => false) &&
  (match P.underlying T with
   | some d => isAggD d == i.agg
   | none => false) &&
  kindB P ti T i.k &&
  (!i.eqs || (match P.underlying T with
    | some (.struct fields) => eqsB P fields.toList 0 && decide (fields.size = i.size) && !P.stoodInHeld T && !P.eqGuardType P.depth T
    | _ => false)) && (i.agg || decide (i.size = 1))

/-- The table's rows say what the program's types are; what has no row is of no kind. -/
structure CxOk (C : Cx) : Prop where
  yes : ∀ T : Nat, (C.ti T).ok = true → tyB C.P C.ti T = true
  no : ∀ T : Nat, (C.ti T).ok = false → (C.ti T).k = .other ∧ (C.ti T).eqs = false
  any : C.P.follows .mixedOrders = true

theorem CxOk.of_list {C : Cx} (n : Nat) (h1 : ∀ T : Nat, n ≤ T → (C.ti T).ok = false ∧ (C.ti T).k = .other ∧ (C.ti T).eqs = false)
    (h2 : ((List.range n).all fun T => if (C.ti T).ok then tyB C.P C.ti T else (match (C.ti T).k with | .other => true | _ => false) && !(C.ti T).eqs) = true)
    (h3 : C.P.follows .mixedOrders = true) : CxOk C where
  yes T hT := by
    rcases Nat.lt_or_ge T n with h | h
    · have := List.all_eq_true.1 h2 T (List.mem_range.2 h)
      rw [hT] at this
      simpa using this
    · rw [(h1 T h).1] at hT; cases hT
  no T hT := by
    rcases Nat.lt_or_ge T n with h | h
    · have := List.all_eq_true.1 h2 T (List.mem_range.2 h)
      rw [hT] at this
      simp at this
      refine ⟨?_, this.2⟩
      have h4 := this.1
      split at h4
      · assumption
      · cases h4
    · exact (h1 T h).2
  any := h3

section
variable {C : Cx} (ok : CxOk C)
include ok

theorem CxOk.ok_of_kind {T : Nat} (h : (C.ti T).k ≠ .other) : (C.ti T).ok = true := by
  cases e : (C.ti T).ok with
  | true => rfl
  | false => exact absurd (ok.no T e).1 h

theorem CxOk.parts {T : Nat} (h : (C.ti T).ok = true) :
    (∃ inf, C.P.info? T = some inf ∧ inf.size = (C.ti T).size ∧ inf.bytes = (C.ti T).bytes ∧ (C.ti T).zero.length = (C.ti T).size ∧
      ∃ z, inf.zero = some z ∧ zerosRel (C.ti T).zero z.cells.toList = true) ∧
    (∃ d, C.P.underlying T = some d ∧ isAggD d = (C.ti T).agg) ∧ kindB C.P C.ti T (C.ti T).k = true := by
  have := ok.yes T h
  unfold tyB at this
  simp only [Bool.and_eq_true] at this
  obtain ⟨⟨⟨⟨h1, h2⟩, h3⟩, _⟩, _⟩ := this
  refine ⟨?_, ?_, h3⟩
  · split at h1
    · rename_i inf hinf
      simp only [Bool.and_eq_true, decide_eq_true_eq] at h1
      obtain ⟨⟨⟨a, b⟩, c⟩, d⟩ := h1
      split at d
      · rename_i z hz
        exact ⟨inf, hinf, a, b, c, z, hz, d⟩
      · cases d
    · cases h1
  · split at h2
    · rename_i d hd
      exact ⟨d, hd, by simpa using h2⟩
    · cases h2

theorem CxOk.size_one {T : Nat} (h : (C.ti T).ok = true) (ha : (C.ti T).agg = false) : (C.ti T).size = 1 := by
  have := ok.yes T h
  unfold tyB at this
  simp only [Bool.and_eq_true] at this
  have h1 := this.2
  rw [ha] at h1
  simpa using h1

theorem CxOk.eqs_st {T : Nat} (h : (C.ti T).eqs = true) : ∃ fields : Array Field, C.P.underlying T = some (.struct fields) ∧ eqsB C.P fields.toList 0 = true ∧ fields.size = (C.ti T).size ∧
    C.P.stoodInHeld T = false ∧ C.P.eqGuardType C.P.depth T = false := by
  have hok : (C.ti T).ok = true := by
    cases e : (C.ti T).ok with
    | true => rfl
    | false => rw [(ok.no T e).2] at h; cases h
  have := ok.yes T hok
  unfold tyB at this
  simp only [Bool.and_eq_true, h, Bool.not_true, Bool.false_or] at this
  have h1 := this.1.2
  split at h1
  · rename_i fields he
    simp at h1
    exact ⟨fields, he, h1.1.1.1, h1.1.1.2, h1.1.2, h1.2⟩
  · cases h1

theorem CxOk.run_sizeOf {T : Nat} (h : (C.ti T).ok = true) (w : World) : (Go.sizeOf T).run C.P w = .ok (C.ti T).size w := by
  obtain ⟨⟨inf, h1, h2, _⟩, _, _⟩ := ok.parts h
  simp [Go.sizeOf, typeInfo, h1, h2]

theorem CxOk.run_typeInfo {T : Nat} (h : (C.ti T).ok = true) (w : World) : ∃ inf, (typeInfo T).run C.P w = .ok inf w ∧ inf.size = (C.ti T).size ∧ inf.bytes = (C.ti T).bytes := by
  obtain ⟨⟨inf, h1, h2, h3, _⟩, _, _⟩ := ok.parts h
  exact ⟨inf, by simp [typeInfo, h1], h2, h3⟩

theorem CxOk.run_zero {T : Nat} (h : (C.ti T).ok = true) : ∃ z : Value, (∀ w, (zeroValue T).run C.P w = .ok z w) ∧ z.cells.size = (C.ti T).size ∧ (C.ti T).zero.length = (C.ti T).size ∧
    ∀ (w : World) (ρ : List LS) (Z : Nat → Prop) (k : Nat) (x : AV), (C.ti T).zero[k]? = some x → V w ρ Z x (z.cells.getD k undef) := by
  obtain ⟨⟨inf, h1, h2, h3, h4, z, h5, h6⟩, _, _⟩ := ok.parts h
  refine ⟨z, fun w => by simp [zeroValue, typeInfo, h1, h5], ?_, h4, fun w ρ Z k x hx => ?_⟩
  · have := (zerosRel_V h6 default [] (fun _ => False)).1
    rw [h4] at this
    simpa using this.symm
  · have := (zerosRel_V h6 w ρ Z).2 k x hx
    rw [Array.getD_eq_getD_getElem?]; simpa [List.getD] using this

theorem CxOk.run_isAgg {T : Nat} (h : (C.ti T).ok = true) (w : World) : (isAgg T).run C.P w = .ok (C.ti T).agg w := by
  obtain ⟨_, ⟨d, h1, h2⟩, _⟩ := ok.parts h
  simp only [isAgg, underlying, Sem.run_bind, run_program, Result.andThen_ok, h1, Sem.run_pure]
  rw [← h2]
  cases d <;> rfl

theorem CxOk.under_int {T : Nat} {k : IntKind} (h : (C.ti T).k = .int k) : C.P.underlying T = some (.int k) := by
  have := (ok.parts (ok.ok_of_kind (T := T) (by rw [h]; simp))).2.2
  rw [h] at this
  simp only [kindB] at this
  split at this
  · rename_i e; simp at this; rw [e, this]
  · cases this

theorem CxOk.under_bool {T : Nat} (h : (C.ti T).k = .bool) : C.P.underlying T = some .bool := by
  have := (ok.parts (ok.ok_of_kind (T := T) (by rw [h]; simp))).2.2
  rw [h] at this
  simp only [kindB] at this
  split at this
  · assumption
  · cases this

theorem CxOk.under_str {T : Nat} (h : (C.ti T).k = .str) : C.P.underlying T = some .string := by
  have := (ok.parts (ok.ok_of_kind (T := T) (by rw [h]; simp))).2.2
  rw [h] at this
  simp only [kindB] at this
  split at this
  · assumption
  · cases this

theorem CxOk.under_sl {T e : Nat} (h : (C.ti T).k = .sl e) : C.P.underlying T = some (.slice e) ∧ (C.ti e).ok = true := by
  have := (ok.parts (ok.ok_of_kind (T := T) (by rw [h]; simp))).2.2
  rw [h] at this
  simp only [kindB] at this
  split at this
  · rename_i e' he; simp at this; exact ⟨by rw [he, this.1], this.2⟩
  · cases this

theorem CxOk.under_arr {T n e : Nat} (h : (C.ti T).k = .arr n e) : C.P.underlying T = some (.array n e) ∧ (C.ti e).ok = true := by
  have := (ok.parts (ok.ok_of_kind (T := T) (by rw [h]; simp))).2.2
  rw [h] at this
  simp only [kindB] at this
  split at this
  · rename_i e' he; simp at this; obtain ⟨⟨rfl, rfl⟩, h3⟩ := this; exact ⟨he, h3⟩
  · cases this
omit ok in
theorem fieldsB_get {P : Program} {xs : List Field} {ys : List (Nat × Nat × Bool)} (h : fieldsB P xs ys = true) : xs.length = ys.length ∧
    ∀ (k : Nat) (y : Nat × Nat × Bool), ys[k]? = some y → ∃ fd, xs[k]? = some fd ∧ fieldB P fd y = true := by
  induction xs generalizing ys with
  | nil => cases ys <;> simp [fieldsB] at h ⊢
  | cons x xs ih =>
    cases ys with
    | nil => simp [fieldsB] at h
    | cons y ys =>
      simp [fieldsB] at h
      obtain ⟨h1, h2⟩ := ih h.2
      refine ⟨by simp [h1], fun k z hz => ?_⟩
      cases k with
      | zero => simp at hz; subst hz; exact ⟨x, by simp, h.1⟩
      | succ k => simp at hz; simpa using h2 k z hz

theorem CxOk.under_st {T : Nat} {fs : List (Nat × Nat × Bool)} (h : (C.ti T).k = .st fs) : ∃ fields : Array Field, C.P.underlying T = some (.struct fields) ∧ fields.size = fs.length ∧
    ∀ (f off sz : Nat) (ag : Bool), fs[f]? = some (off, sz, ag) → ∃ fd, fields[f]? = some fd ∧ fd.offset = off ∧ (∀ w, (Go.sizeOf fd.type).run C.P w = .ok sz w) ∧ ∀ w, (isAgg fd.type).run C.P w = .ok ag w := by
  have := (ok.parts (ok.ok_of_kind (T := T) (by rw [h]; simp))).2.2
  rw [h] at this
  simp only [kindB] at this
  split at this
  · rename_i fields he
    obtain ⟨h1, h2⟩ := fieldsB_get this
    refine ⟨fields, he, by simpa using h1, fun f off sz ag hf => ?_⟩
    obtain ⟨fd, h3, h4⟩ := h2 f _ hf
    refine ⟨fd, by simpa using h3, ?_⟩
    simp only [fieldB, Bool.and_eq_true, decide_eq_true_eq] at h4
    obtain ⟨⟨a, b⟩, c⟩ := h4
    refine ⟨a, fun w => ?_, fun w => ?_⟩
    · split at b
      · rename_i i hi
        simp [Go.sizeOf, typeInfo, hi] at b ⊢
        exact b
      · cases b
    · split at c
      · rename_i d hd
        simp only [isAgg, underlying, Sem.run_bind, run_program, Result.andThen_ok, hd, Sem.run_pure]
        simp at c
        rw [← c]
        cases d <;> rfl
      · cases c
  · cases this

omit ok in
theorem run_underlying {P : Program} {T : Nat} {d : TypeDesc} (h : P.underlying T = some d) (w : World) : (underlying T).run P w = .ok d w := by
  simp [underlying, h]
end

end Am

/- Each operation of the abstract machine is carried out by the model's. First part: what computes, loads and stores. -/
namespace Am
open Go

def hp (h : List (Option Ob)) (id : Nat) : Option Ob := h.getD id none

theorem hp_some {h : List (Option Ob)} {id : Nat} {ob : Ob} (e : hp h id = some ob) : h[id]? = some (some ob) := by
  unfold hp at e
  rw [List.getD_eq_getElem?_getD] at e
  cases hh : h[id]? with
  | none => rw [hh] at e; cases e
  | some x => rw [hh] at e; simp at e; rw [e]

def applyH (h : List (Option Ob)) (s : Nat) (e : Eff) : List (Option Ob) := putAll (e.upd.foldl (fun h p => h.set p.1 p.2) h) s e.new

/-- What is left to show of an operation. -/
def Good (C : Cx) (a : Act) (o : Oper) (w : World) (ρ : List LS) (Z : Nat → Prop) (h : List (Option Ob)) (s : Nat) (e : Eff) : Prop :=
  ∃ (cv : Value) (w' : World) (ρ' : List LS), ((execOp a.eval o).run C.P w = .ok (.value cv) w' ∨ ((execOp a.eval o).run C.P w = .ok .skip w' ∧ cv = undef)) ∧
    Rel w' ρ' Z (applyH h s e) ∧ Mono w ρ w' ρ' ∧ V w' ρ' Z e.val cv ∧ (∀ i : Nat, i ≠ s → ρ[i]? = some .fresh → ρ'[i]? = some .fresh)

section
variable {C : Cx} {a : Act} {o : Oper} {w : World} {ρ : List LS} {Z : Nat → Prop} {h : List (Option Ob)} {s : Nat}

theorem Good.same (r : Rel w ρ Z h) {v : AV} {rd : List Nat} {cv : Value} (hr : (execOp a.eval o).run C.P w = .ok (.value cv) w) (hv : V w ρ Z v cv) :
    Good C a o w ρ Z h s { val := v, upd := [], new := [], rd := rd } :=
  ⟨cv, w, ρ, .inl hr, r, Mono.refl _ _, hv, fun _ _ h => h⟩

theorem V.v_inv {x cv : Value} (h : V w ρ Z (.v x) cv) : cv = x := by cases h; rfl

theorem V.cells_v {x : AV} {cv : Value} (hx : isCell x = true) (h : V w ρ Z x cv) : cv.cells = #[cv] ∧ cv.oneCell' = true := by
  have key : ∀ y : Value, isCell (.v y) = true → y.cells = #[y] ∧ y.oneCell' = true := by
    intro y hy
    cases y <;> simp_all [isCell, Value.cells, Value.oneCell']
  cases h with
  | v => exact key _ hx
  | pd id i f cv h1 h2 => exact key _ h2
  | u => cases hx
  | nq => cases hx
  | agg => cases hx
  | tup => cases hx
  | _ => exact ⟨rfl, rfl⟩

/-- The cells of a value and of the model's value. -/
theorem V.cells {x : AV} {cv : Value} (h : V w ρ Z x cv) (hx : isCell x = true ∨ ∃ cs, x = .agg cs) : (Am.cells x).length = cv.cells.size ∧
    ∀ (k : Nat) (y : AV), (Am.cells x)[k]? = some y → V w ρ Z y (cv.cells.getD k undef) := by
  rcases hx with hx | ⟨cs, rfl⟩
  · have h1 := (V.cells_v hx h).1
    have h2 : Am.cells x = [x] := by cases x <;> simp_all [isCell, Am.cells]
    rw [h1, h2]
    refine ⟨rfl, fun k y hy => ?_⟩
    cases k with
    | zero => simp at hy; subst hy; simpa using h
    | succ k => simp at hy
  · cases h with
    | agg _ arr hl hv => exact ⟨hl, hv⟩

theorem addr_add (b o n : Nat) : (⟨b, o, none⟩ : Addr).add n = ⟨b, o + n, none⟩ := by unfold Addr.add; split <;> simp_all

theorem V.avif {c : Bool} {x y : AV} {cx cy : Value} (hx : V w ρ Z x cx) (hy : V w ρ Z y cy) : V w ρ Z (Am.avif c x y) (if c = true then cx else cy) := by
  unfold Am.avif
  split
  · have := hx.v_inv; have := hy.v_inv; subst_vars
    cases c <;> exact .v _
  · cases c <;> simpa

theorem V.opd {t : List AV} {tm : Array Value} (ht : ∀ (k : Nat) (x : AV), t[k]? = some x → V w ρ Z x (tm.getD k undef)) (d : List Deferred) (x : Operand) :
    V w ρ Z (Am.opd t x) (Act.eval ⟨tm, d⟩ x) := by
  cases x with
  | tmp n =>
    simp only [Am.opd, Act.eval]
    rw [List.getD_eq_getElem?_getD]
    cases hh : t[n]? with
    | none => exact .u _
    | some y => exact ht n y hh
  | const v =>
    simp only [Am.opd, Act.eval, ofV]
    split
    · exact .nl none
    · exact .v _
  | global g => exact .u _
  | func f => exact .fn f [] #[] rfl (fun k x hx => by simp at hx)

theorem ok_step {v : AV} {p : Prop} {x : Prop × Eff} {rd : List Nat} (h : some (p, ({ val := v, upd := [], new := [], rd := rd } : Eff)) = some x) : x = (p, { val := v, upd := [], new := [], rd := rd }) := by
  cases h; rfl

theorem ldv_get (T : TI) (cs : List AV) (f : Nat) (k : Nat) (x : AV) : ((cs.drop f).take T.size)[k]? = some x → cs[f + k]? = some x ∧ k < T.size := by
  intro h
  rw [List.getElem?_take] at h
  split at h
  · rw [List.getElem?_drop] at h; exact ⟨h, by assumption⟩
  · cases h

/-- A load of cells that read as they should. -/
theorem good_load (ok : CxOk C) {T : Nat} (hT : (C.ti T).ok = true) {b o : Nat} {cs : List AV} {f : Nat} {g : Nat → Value} (hlen : f + (C.ti T).size ≤ cs.length)
    (hg : ∀ (k : Nat) (x : AV), cs[k]? = some x → w.cell? ⟨b, o + k, none⟩ = some (g k)) (hv : ∀ (k : Nat) (x : AV), cs[k]? = some x → V w ρ Z x (g k)) :
    ∃ cv, (Instr.loadAt T (.pointer (some ⟨b, o + f, none⟩))).run C.P w = .ok cv w ∧ V w ρ Z (ldv (C.ti T) cs f) cv := by
  have hget : ∀ j : Nat, j < (C.ti T).size → ∃ x, cs[f + j]? = some x := fun j hj => ⟨_, List.getElem?_eq_getElem (by omega)⟩
  simp only [Instr.loadAt, Instr.sureAddr, loadVar, Sem.run_bind, Sem.run_pure, Result.andThen_ok, ok.run_isAgg hT]
  cases hagg : (C.ti T).agg with
  | true =>
    simp only [if_true, Sem.run_bind, ok.run_sizeOf hT, Result.andThen_ok]
    rw [run_loadCells w _ _ (fun j => g (f + j)) (fun j hj => by
      obtain ⟨x, hx⟩ := hget j hj
      rw [addr_add, Nat.add_assoc]
      exact hg (f + j) x hx)]
    refine ⟨_, rfl, ?_⟩
    simp only [ldv, hagg, if_true]
    refine .agg _ _ (by simp; omega) fun k x hx => ?_
    obtain ⟨h1, h2⟩ := ldv_get _ _ _ _ _ hx
    have : (((List.range (C.ti T).size).map fun j => g (f + j)).toArray).getD k undef = g (f + k) := by
      rw [Array.getD_eq_getD_getElem?]; simp [h2]
    rw [this]
    exact hv (f + k) x h1
  | false =>
    simp only [Bool.false_eq_true, if_false, run_load]
    by_cases h0 : 0 < (C.ti T).size
    · obtain ⟨x, hx⟩ := hget 0 h0
      simp only [Nat.add_zero] at hx
      rw [hg f x hx]
      refine ⟨_, rfl, ?_⟩
      simp only [ldv, hagg, Bool.false_eq_true, if_false]
      rw [List.getD_eq_getElem?_getD, hx]
      exact hv f x hx
    · have := ok.size_one hT hagg
      omega
end
end Am

/- Second part: slices that are read; allocations; stores. -/
namespace Am
open Go

section
variable {C : Cx} {a : Act} {o : Oper} {w : World} {ρ : List LS} {Z : Nat → Prop} {h : List (Option Ob)} {s : Nat}

theorem pos_mul {k i sz n : Nat} (hk : k < n) (hi : i < sz) : k * sz + i < n * sz := by
  have : (k + 1) * sz ≤ n * sz := Nat.mul_le_mul_right _ hk
  rw [Nat.succ_mul] at this
  omega

theorem Rel.live {id : Nat} {ob : Ob} {L : Loc} (r : Rel w ρ Z h) (ho : h[id]? = some (some ob)) (hL : ρ[id]? = some (.live L)) : ObR w ρ Z ob L := by
  rcases r.obj id ob ho with ⟨L', h1, h2⟩ | ⟨h1, _⟩
  · rw [hL] at h1; cases h1; exact h2
  · rw [hL] at h1; cases h1

/-- The cells behind a slice that may be read. -/
theorem rd_cells (r : Rel w ρ Z h) {x : AV} {es : List (List AV)} {ids : List Nat} {cv : Value} (hrd : rdSlice (hp h) x = some (es, ids)) (hv : V w ρ Z x cv) :
    ∃ (base : Option Addr) (cap : Nat), cv = .slice base es.length cap ∧ es.length ≤ cap ∧ (es ≠ [] → ∃ (b p sz : Nat) (c : Nat → Value), base = some ⟨b, p, none⟩ ∧ b < w.heap.size ∧
      (∀ e ∈ es, e.length = sz) ∧ (∀ j : Nat, j < es.length * sz → w.cell? ⟨b, p + j, none⟩ = some (c j)) ∧
      (∀ (k : Nat) (e : List AV) (i : Nat) (y : AV), es[k]? = some e → e[i]? = some y → V w ρ Z y (c (k * sz + i)))) ∧
      (rdFlat (hp h) x = true → ∀ e ∈ es, ∀ y ∈ e, immc y = true) := by
  cases x with
  | nl =>
    simp [rdSlice] at hrd
    obtain ⟨rfl, rfl⟩ := hrd
    cases hv with
    | nl a => exact ⟨a, 0, rfl, Nat.le_refl _, fun c => absurd rfl c, fun _ e he => by cases he⟩
  | bor i es' =>
    simp [rdSlice] at hrd
    obtain ⟨rfl, rfl⟩ := hrd
    cases hv with
    | borE _ a c => exact ⟨a, c, rfl, Nat.zero_le _, fun c => absurd rfl c, fun _ e he => by cases he⟩
    | bor _ _ b p sz c g hb ho hz hc hsz hg hv hn hm =>
      refine ⟨_, c, rfl, hc, fun _ => ⟨b, p, sz, fun j => g (j / sz) (j % sz), rfl, hb, hsz, fun j hj => ?_, fun k e i y he hy => ?_⟩, fun hfl e he y hy => ?_⟩
      · have hpos : 0 < sz := by
          rcases Nat.eq_zero_or_pos sz with h0 | h0
          · subst h0; simp at hj
          · exact h0
        have hk : j / sz < es'.length := by rw [Nat.div_lt_iff_lt_mul hpos]; exact hj
        have hi : j % sz < sz := Nat.mod_lt _ hpos
        have he := List.getElem?_eq_getElem hk
        have hl := hsz _ (List.getElem_mem hk)
        have hx := List.getElem?_eq_getElem (l := es'[j / sz]) (i := j % sz) (by omega)
        have := hg _ _ _ _ he hx
        have hj2 : j / sz * sz + j % sz = j := by rw [Nat.mul_comm]; exact Nat.div_add_mod j sz
        rw [hj2] at this
        exact this
      · have hi : i < sz := by rw [← hsz e (List.mem_of_getElem? he)]; exact (List.getElem?_eq_some_iff.1 hy).1
        have h1 : (k * sz + i) / sz = k := by rw [Nat.mul_comm, Nat.mul_add_div (by omega), Nat.div_eq_of_lt hi, Nat.add_zero]
        have h2 : (k * sz + i) % sz = i := by rw [Nat.mul_comm, Nat.mul_add_mod, Nat.mod_eq_of_lt hi]
        simp only [h1, h2]
        exact hv k e i y he hy
      · obtain ⟨k, hk⟩ := List.getElem?_of_mem he
        obtain ⟨j, hj⟩ := List.getElem?_of_mem hy
        cases i with
        | true => exact hm rfl k e j y hk hj
        | false =>
          simp only [rdFlat, Bool.false_or] at hfl
          exact List.all_eq_true.1 (List.all_eq_true.1 hfl e he) y hy
  | sl id off len =>
    simp only [rdSlice] at hrd
    split at hrd
    · rename_i ob hob
      simp at hrd
      obtain ⟨rfl, rfl⟩ := hrd
      have ho := hp_some hob
      have hflat : rdFlat (hp h) (.sl id off len) = true → ob.flat = true := by
        intro hf; simpa [rdFlat, hob] using hf
      have hnr : ob.flat = true → ∀ e ∈ (ob.es.drop off).take len, ∀ y ∈ e, immc y = true := by
        intro hf e he y hy
        have hm : e ∈ ob.es := List.mem_of_mem_drop (List.mem_of_mem_take he)
        rcases r.obj id ob ho with ⟨L, _, h2⟩ | ⟨_, h2⟩
        · exact h2.fl hf e hm y hy
        · rw [h2] at hm; cases hm
      cases hv with
      | sl _ _ _ L c hL hc hn hr =>
        have hO := r.live ho hL
        have hlen : ((ob.es.drop off).take len).length = len := by
          rw [List.length_take, List.length_drop, ← hO.ln]; omega
        refine ⟨_, c, by rw [hlen], by rw [hlen]; exact hc, fun _ => ?_, fun hf => hnr (hflat hf)⟩
        obtain ⟨arr, T, h1, h2, h3⟩ := hO.ex
        refine ⟨L.b, L.base + off * L.sz, ob.sz, fun j => arr.getD (L.base + off * L.sz + j) undef, rfl, (Array.getElem?_eq_some_iff.1 h1).1, fun e he => hO.el e (List.mem_of_mem_drop (List.mem_of_mem_take he)), fun j hj => ?_, fun k e i y he hy => ?_⟩
        · rw [hlen] at hj
          have hb : L.base + off * L.sz + j < arr.size := by
            have h4 : (off + len) * ob.sz ≤ ob.es.length * ob.sz := Nat.mul_le_mul_right _ (by rw [← hO.ln]; exact hn)
            have := hO.room
            rw [Nat.add_mul] at h4
            rw [hO.sz, ← h2]
            omega
          simp only [World.cell?, h1]
          simp [hb]
        · rw [List.getElem?_take] at he
          split at he
          · rw [List.getElem?_drop] at he
            have := h3 (off + k) e i y he hy
            rw [hO.sz]
            show V w ρ Z y (arr.getD (L.base + off * ob.sz + (k * ob.sz + i)) undef)
            rw [show L.base + off * ob.sz + (k * ob.sz + i) = L.base + ((off + k) * ob.sz + i) by rw [Nat.add_mul]; omega]
            exact this
          · cases he
      | slz _ _ L a hL => exact ⟨a, 0, by simp, by simp, fun c => absurd (by simp) c, fun hf => hnr (hflat hf)⟩
      | slv _ _ a hL => exact ⟨a, 0, by simp, by simp, fun c => absurd (by simp) c, fun hf => hnr (hflat hf)⟩
      | sld _ _ _ a c hd _ =>
        rcases r.obj id ob ho with ⟨L, h1, _⟩ | ⟨h1, _⟩ <;> rw [hd] at h1 <;> cases h1
    · cases hrd
  | _ => simp [rdSlice] at hrd

theorem good_alloc (r : Rel w ρ Z h) (hs : s ≤ ρ.length) (hf : ρ[s]? = none ∨ ρ[s]? = some .fresh) {T : Nat} {cs : List AV} {arr : Array Value}
    (hl : cs.length = arr.size) (hv : ∀ (k : Nat) (x : AV), cs[k]? = some x → V w ρ Z x (arr.getD k undef)) {rd : List Nat}
    (hr : (execOp a.eval o).run C.P w = .ok (.value (.pointer (some ⟨w.heap.size, 0, none⟩))) { w with heap := w.heap.push (.cells arr T (0, 0)) }) :
    Good C a o w ρ Z h s { val := .p s 0 0, upd := [], new := [some { es := [cs], sz := cs.length, flat := false }], rd := rd } := by
  have key := relAlloc r hs hf { es := [cs], sz := cs.length, flat := false } arr T (by simp [hl]) (by simp) (by simp)
    (fun k e j x he hx => by
      cases k with
      | zero => simp at he; subst he; simpa using hv j x hx
      | succ k => simp at he) _ rfl
  refine ⟨_, _, _, .inl hr, key.1, key.2, ?_, fun i hi hfi => ?_⟩
  · have := V.p (w := { w with heap := w.heap.push (.cells arr T (0, 0)) }) (Z := Z) s 0 0 ⟨w.heap.size, 0, arr.size, cs.length, 1⟩ (ρ := putAt ρ s (.live ⟨w.heap.size, 0, arr.size, cs.length, 1⟩)) (by rw [putAt_get _ _ _ hs]; simp)
    simpa using this
  · rw [putAt_get _ _ _ hs, if_neg hi]; exact hfi

theorem op_alloc (ok : CxOk C) (r : Rel w ρ Z h) (hs : s ≤ ρ.length) (hf : ρ[s]? = none ∨ ρ[s]? = some .fresh) {T : Nat} (ho : o.op = .alloc T) (hT : (C.ti T).ok = true) :
    Good C a o w ρ Z h s { val := .p s 0 0, upd := [], new := [some { es := [(C.ti T).zero], sz := (C.ti T).size, flat := false }], rd := [] } := by
  obtain ⟨z, h1, h2, h3, h4⟩ := ok.run_zero hT
  have := good_alloc (C := C) (a := a) (o := o) (T := T) r hs hf (cs := (C.ti T).zero) (arr := z.cells) (by rw [h2, h3]) (fun k x hx => h4 w ρ Z k x hx) (rd := [])
    (by
      simp only [execOp, ho, Instr.alloc, Sem.run_bind, h1, Result.andThen_ok]
      rfl)
  rw [h3] at this
  exact this

theorem op_box (r : Rel w ρ Z h) (hs : s ≤ ρ.length) (hf : ρ[s]? = none ∨ ρ[s]? = some .fresh) {T : Nat} {x : Operand} (ho : o.op = .box T x) {y : AV} (hy : V w ρ Z y (a.eval x))
    (hc : isCell y = true ∨ ∃ cs, y = .agg cs) :
    Good C a o w ρ Z h s { val := .p s 0 0, upd := [], new := [some { es := [cells y], sz := (cells y).length, flat := false }], rd := [] } := by
  obtain ⟨h1, h2⟩ := hy.cells hc
  exact good_alloc (C := C) (a := a) (o := o) (T := T) r hs hf h1 h2 (by
    simp only [execOp, ho, Instr.box, Sem.run_bind]
    rfl)

end
end Am

/- Third part: stores. -/
namespace Am
open Go

section
variable {C : Cx} {a : Act} {o : Oper} {w : World} {ρ : List LS} {Z : Nat → Prop} {h : List (Option Ob)} {s : Nat}

theorem V.p_inv {id i f : Nat} {cv : Value} {L : Loc} (hv : V w ρ Z (.p id i f) cv) (hL : ρ[id]? = some (.live L)) : cv = .pointer (some ⟨L.b, L.base + (i * L.sz + f), none⟩) := by
  cases hv with
  | p _ _ _ L' hL' => rw [hL] at hL'; cases hL'; rfl
  | pd _ _ _ _ hd => rw [hL] at hd; cases hd

theorem setRow_eq (w : World) (g : Nat) (old cs : Array Value) (T : Nat) (fr : Nat × Nat) (hg : w.heap[g]? = some (.cells old T fr)) :
    w.setRow g cs = { w with heap := w.heap.setIfInBounds g (.cells cs T fr) } := by
  have hlt : g < w.heap.size := (Array.getElem?_eq_some_iff.1 hg).1
  have hv : w.heap[g] = .cells old T fr := (Array.getElem?_eq_some_iff.1 hg).2
  unfold World.setRow
  congr 1
  apply Array.ext_getElem?
  intro i
  rw [Array.getElem?_modify]
  by_cases e : g = i
  · subst e
    rw [if_pos rfl, hg, Array.getElem?_setIfInBounds_self_of_lt hlt]
    rfl
  · rw [if_neg e, Array.getElem?_setIfInBounds_ne e]

theorem splice_get (arr : Array Value) (q : Nat) (vs : List Value) (hq : q + vs.length ≤ arr.size) (p : Nat) :
    ((arr.toList.take q ++ vs ++ arr.toList.drop (q + vs.length)).toArray).getD p undef = if q ≤ p ∧ p < q + vs.length then vs.getD (p - q) undef else arr.getD p undef := by
  rw [Array.getD_eq_getD_getElem?, Array.getD_eq_getD_getElem?, List.getD_eq_getElem?_getD]
  simp only [List.getElem?_toArray, List.append_assoc, List.getElem?_append, List.length_take, Array.length_toList, List.getElem?_take, List.getElem?_drop, Array.getElem?_toList]
  have h1 : min q arr.size = q := by omega
  rw [h1]
  by_cases hp : p < q
  · rw [if_pos hp, if_pos hp, if_neg (by omega)]
  · rw [if_neg hp]
    by_cases hp2 : p - q < vs.length
    · rw [if_pos hp2, if_pos (by omega)]
    · rw [if_neg hp2, if_neg (by omega)]
      congr 2
      omega

theorem splice_size (arr : Array Value) (q : Nat) (vs : List Value) (hq : q + vs.length ≤ arr.size) : (arr.toList.take q ++ vs ++ arr.toList.drop (q + vs.length)).toArray.size = arr.size := by
  simp; omega

theorem repl_length (cs : List AV) (f : Nat) (ys : List AV) (hf : f + ys.length ≤ cs.length) : (repl cs f ys).length = cs.length := by
  simp [repl]; omega

theorem repl_get (cs : List AV) (f : Nat) (ys : List AV) (hf : f + ys.length ≤ cs.length) (j : Nat) : (repl cs f ys)[j]? = if f ≤ j ∧ j < f + ys.length then ys[j - f]? else cs[j]? := by
  unfold repl
  simp only [List.append_assoc, List.getElem?_append, List.length_take, List.getElem?_take, List.getElem?_drop]
  have h1 : min f cs.length = f := by omega
  rw [h1]
  by_cases hp : j < f
  · rw [if_pos hp, if_pos hp, if_neg (by omega)]
  · rw [if_neg hp]
    by_cases hp2 : j - f < ys.length
    · rw [if_pos hp2, if_pos (by omega)]
    · rw [if_neg hp2, if_neg (by omega)]
      congr 1
      omega

theorem op_store (ok : CxOk C) (r : Rel w ρ Z h) {T : Nat} {pa px : Operand} (ho : o.op = .store T pa px) {id i f : Nat} {ob : Ob} (hid : h[id]? = some (some ob))
    (hT : (C.ti T).ok = true) (hpa : V w ρ Z (.p id i f) (a.eval pa)) {x : AV} (hx : V w ρ Z x (a.eval px)) (hsize : (cells x).length = (C.ti T).size)
    (hcell : (cells x).all isCell = true) (hflat : ob.flat = true → (cells x).all immc = true) (hi : i < ob.es.length) (hroom : f + (cells x).length ≤ ob.sz) {rd : List Nat} :
    Good C a o w ρ Z h s { val := .u, upd := [(id, some { ob with es := ob.es.set i (repl (ob.es.getD i []) f (cells x)) })], new := [], rd := rd } := by
  have hxc : isCell x = true ∨ ∃ cs, x = .agg cs := by
    cases x with
    | agg cs => exact .inr ⟨cs, rfl⟩
    | _ => left; simpa [cells] using hcell
  obtain ⟨hl, hcv⟩ := hx.cells hxc
  have hone : ∀ v ∈ (a.eval px).cells.toList, v.oneCell' = true := by
    intro v hv
    obtain ⟨k, hk⟩ := List.getElem?_of_mem hv
    have hk2 : k < (cells x).length := by rw [hl]; exact (by have := (List.getElem?_eq_some_iff.1 hk).1; simpa using this)
    have hy := hcv k _ (List.getElem?_eq_getElem hk2)
    have hc : isCell (cells x)[k] = true := List.all_eq_true.1 hcell _ (List.getElem_mem hk2)
    have := (V.cells_v hc hy).2
    have e : (a.eval px).cells.getD k undef = v := by
      rw [Array.getD_eq_getD_getElem?]
      have : (a.eval px).cells[k]? = some v := by simpa using hk
      rw [this]; rfl
    rwa [e] at this
  have hL : ∃ L, ρ[id]? = some (.live L) ∧ ObR w ρ Z ob L := by
    rcases r.obj id ob hid with h1 | ⟨_, h2⟩
    · exact h1
    · rw [h2] at hi; cases hi
  obtain ⟨L, hL, hO⟩ := hL
  have hpv := V.p_inv hpa hL
  obtain ⟨arr, T', h1, h2, h3⟩ := hO.ex
  have hei : ob.es[i]? = some ob.es[i] := List.getElem?_eq_getElem hi
  have hel : ob.es[i].length = ob.sz := hO.el _ (List.getElem_mem hi)
  have hgd : ob.es.getD i [] = ob.es[i] := by rw [List.getD_eq_getElem?_getD, hei]; rfl
  rw [hgd]
  have hpos : (i + 1) * ob.sz ≤ ob.es.length * ob.sz := Nat.mul_le_mul_right _ hi
  rw [Nat.succ_mul] at hpos
  have hq : L.base + (i * L.sz + f) + (a.eval px).cells.toList.length ≤ arr.size := by
    have := hO.room
    rw [hO.sz, ← h2]
    simp only [Array.length_toList]
    omega
  have hrun := run_storeCells_at C.P L.b (L.base + (i * L.sz + f)) T' (a.eval px).cells.toList 0 arr w h1 (by simpa using hq) hone
  simp only [Nat.add_zero] at hrun
  rw [setRow_eq w L.b arr _ T' (0, 0) h1] at hrun
  have hstep : (execOp a.eval o).run C.P w = .ok .skip { w with heap := w.heap.setIfInBounds L.b (.cells (arr.toList.take (L.base + (i * L.sz + f)) ++ (a.eval px).cells.toList ++ arr.toList.drop (L.base + (i * L.sz + f) + (a.eval px).cells.toList.length)).toArray T' (0, 0)) } := by
    simp only [execOp, ho, Instr.storeAt, hpv, Instr.sureAddr, storeVar, Sem.run_bind, Sem.run_pure, Result.andThen_ok, ok.run_sizeOf hT]
    rw [if_neg (by rw [← hl, hsize]; simp)]
    simp only [Sem.run_bind, hrun, Result.andThen_ok, Sem.run_pure]
  have hlen2 : (repl ob.es[i] f (cells x)).length = ob.sz := by rw [repl_length _ _ _ (by omega), hel]
  have key := relSet r hid hL (ob' := { ob with es := ob.es.set i (repl ob.es[i] f (cells x)) }) h1 (splice_size arr _ _ hq) rfl
    (fun e he => by
      rcases List.mem_or_eq_of_mem_set he with h4 | h4
      · exact hO.el e h4
      · rw [h4]; exact hlen2)
    (by simp)
    (fun hf e he y hy => by
      rcases List.mem_or_eq_of_mem_set he with h4 | h4
      · exact hO.fl hf e h4 y hy
      · rw [h4] at hy
        obtain ⟨j, hj⟩ := List.getElem?_of_mem hy
        rw [repl_get _ _ _ (by omega)] at hj
        split at hj
        · exact List.all_eq_true.1 (hflat hf) y (List.mem_of_getElem? hj)
        · exact hO.fl hf _ (List.getElem_mem hi) y (List.mem_of_getElem? hj))
    (fun k e j y he hy => by
      simp only at he hy ⊢
      rw [splice_get arr _ _ hq]
      rw [hO.sz]
      rw [List.getElem?_set] at he
      by_cases e1 : i = k
      · subst e1
        rw [if_pos rfl, if_pos hi] at he
        cases he
        have hj : j < ob.sz := by rw [← hlen2]; exact (List.getElem?_eq_some_iff.1 hy).1
        rw [repl_get _ _ _ (by omega)] at hy
        split at hy
        · rename_i hc
          rw [if_pos (by simp only [Array.length_toList, ← hl]; omega)]
          have := hcv (j - f) y hy
          rw [Array.getD_eq_getD_getElem?] at this
          rw [List.getD_eq_getElem?_getD]
          rw [show L.base + (i * ob.sz + j) - (L.base + (i * ob.sz + f)) = j - f by omega]
          simpa using this
        · rename_i hc
          rw [if_neg (by simp only [Array.length_toList, ← hl]; omega)]
          exact h3 i _ j y hei hy
      · rw [if_neg e1] at he
        have hj : j < ob.sz := by rw [← hO.el e (List.mem_of_getElem? he)]; exact (List.getElem?_eq_some_iff.1 hy).1
        rw [if_neg]
        · exact h3 k e j y he hy
        · simp only [Array.length_toList, ← hl]
          intro hc
          rcases Nat.lt_or_ge k i with hlt | hge
          · have : (k + 1) * ob.sz ≤ i * ob.sz := Nat.mul_le_mul_right _ hlt
            rw [Nat.succ_mul] at this
            omega
          · have : (i + 1) * ob.sz ≤ k * ob.sz := Nat.mul_le_mul_right _ (by omega)
            rw [Nat.succ_mul] at this
            omega) _ rfl
  exact ⟨undef, _, ρ, .inr ⟨hstep, rfl⟩, key.1, key.2, .u _, fun _ _ h => h⟩

end
end Am

/- Fourth part: append. -/
namespace Am
open Go

section
variable {C : Cx} {a : Act} {o : Oper} {w : World} {ρ : List LS} {Z : Nat → Prop} {h : List (Option Ob)} {s : Nat}

theorem setCells_eq (P : Program) (w : World) (g q T : Nat) (arr : Array Value) (vs : List Value) (hg : w.heap[g]? = some (.cells arr T (0, 0))) (hq : q + vs.length ≤ arr.size) (h1 : ∀ v ∈ vs, v.oneCell' = true) :
    w.setCells g q vs = { w with heap := w.heap.setIfInBounds g (.cells (arr.toList.take q ++ vs ++ arr.toList.drop (q + vs.length)).toArray T (0, 0)) } := by
  have e1 := run_storeCells_at P g q T vs 0 arr w hg (by simpa using hq) h1
  have e2 := run_storeCells_cells (P := P) g q vs 0 w
    (fun j hj => by simp only [World.cell?, hg]; simp; omega)
    (fun j hj => by simp [World.frozen?, hg]) h1
  simp only [Nat.add_zero] at e1 e2
  rw [e1] at e2
  injection e2 with _ e3
  rw [← e3, setRow_eq w g arr _ T (0, 0) hg]

theorem heap_self (w : World) (g T : Nat) (arr : Array Value) (hg : w.heap[g]? = some (.cells arr T (0, 0))) : w = { w with heap := w.heap.setIfInBounds g (.cells arr T (0, 0)) } := by
  have : w.heap.setIfInBounds g (.cells arr T (0, 0)) = w.heap := by
    apply Array.ext_getElem?
    intro i
    by_cases e : g = i
    · subst e
      rw [Array.getElem?_setIfInBounds_self_of_lt (Array.getElem?_eq_some_iff.1 hg).1, hg]
    · rw [Array.getElem?_setIfInBounds_ne e]
  rw [this]

/-- A list of cells out of a function. -/
theorem range_get (n : Nat) (c : Nat → Value) (j : Nat) : ((List.range n).map c).getD j undef = if j < n then c j else undef := by
  rw [List.getD_eq_getElem?_getD]
  by_cases h : j < n
  · simp [h]
  · simp [h]

theorem range_some {n : Nat} {c : Nat → Value} {j : Nat} {u : Value} (hj : ((List.range n).map c)[j]? = some u) : j < n ∧ u = c j := by
  rw [List.getElem?_map] at hj
  by_cases h : j < n
  · rw [List.getElem?_range h] at hj
    simp at hj
    exact ⟨h, hj.symm⟩
  · rw [List.getElem?_eq_none (by simpa using h)] at hj
    cases hj

theorem zeros_get (xs : List Value) (ys : Array Value) (j : Nat) (hj : j < xs.length) : (xs.toArray ++ ys).getD j undef = xs.getD j undef := by
  rw [Array.getD_eq_getD_getElem?, Array.getElem?_append_left (by simpa using hj), List.getD_eq_getElem?_getD]
  simp

theorem append_getD (xs ys : List Value) (j : Nat) : (xs ++ ys).getD j undef = if j < xs.length then xs.getD j undef else ys.getD (j - xs.length) undef := by
  rw [List.getD_eq_getElem?_getD, List.getElem?_append]
  split <;> rw [List.getD_eq_getElem?_getD]

/-- The elements behind an append, cell by cell. -/
theorem cat_V {es1 es2 : List (List AV)} {sz : Nat} {c1 c2 : Nat → Value} (h1 : ∀ e ∈ es1, e.length = sz)
    (h2 : ∀ e ∈ es2, e.length = sz)
    (v1 : ∀ (k : Nat) (e : List AV) (i : Nat) (y : AV), es1[k]? = some e → e[i]? = some y → V w ρ Z y (c1 (k * sz + i)))
    (v2 : ∀ (k : Nat) (e : List AV) (i : Nat) (y : AV), es2[k]? = some e → e[i]? = some y → V w ρ Z y (c2 (k * sz + i)))
    (k : Nat) (e : List AV) (i : Nat) (y : AV) (he : (es1 ++ es2)[k]? = some e) (hy : e[i]? = some y) :
    V w ρ Z y (((List.range (es1.length * sz)).map c1 ++ (List.range (es2.length * sz)).map c2).getD (k * sz + i) undef) := by
  rw [append_getD]
  simp only [List.length_map, List.length_range]
  rw [List.getElem?_append] at he
  split at he
  · rename_i hk
    have hi : i < sz := by rw [← h1 e (List.mem_of_getElem? he)]; exact (List.getElem?_eq_some_iff.1 hy).1
    have hp := pos_mul hk hi
    rw [if_pos hp, range_get, if_pos hp]
    exact v1 k e i y he hy
  · rename_i hk
    have hi : i < sz := by rw [← h2 e (List.mem_of_getElem? he)]; exact (List.getElem?_eq_some_iff.1 hy).1
    have hk2 : k - es1.length < es2.length := (List.getElem?_eq_some_iff.1 he).1
    have hp := pos_mul hk2 hi
    have hle : es1.length * sz ≤ k * sz := Nat.mul_le_mul_right _ (by omega)
    rw [if_neg (by omega)]
    have e1 : k * sz + i - es1.length * sz = (k - es1.length) * sz + i := by rw [Nat.sub_mul]; omega
    rw [e1, range_get, if_pos hp]
    exact v2 _ e i y he hy

theorem V.newSl {w : World} {ρ : List LS} {s len c : Nat} {L : Loc} (hs : s ≤ ρ.length) (hc : len ≤ c) (hn : len ≤ L.n) (hr : L.base + c * L.sz ≤ L.size) :
    V w (putAt ρ s (.live L)) Z (.sl s 0 len) (.slice (some ⟨L.b, L.base, none⟩) len c) := by
  have := V.sl (w := w) (Z := Z) (ρ := putAt ρ s (.live L)) s 0 len L c (by rw [putAt_get _ _ _ hs, if_pos rfl]) hc (by omega) (by simpa using hr)
  simpa using this

theorem grown_ge (w : World) (n c T : Nat) : n ≤ grownCap w n c T := grownCap_ge w n c T

/-- The run of an append that finds no room; the new object. 'h0', 'ρ0': the heap behind what is given up. -/
theorem grow_good (ok : CxOk C) (r : Rel w ρ Z h) (hs : s ≤ ρ.length) (hf : ρ[s]? = none ∨ ρ[s]? = some .fresh) {T T2 el e2 : Nat} (hT : (C.ti T).k = .sl el) (hT2 : (C.ti T2).k = .sl e2)
    (hby : (C.ti el).bytes ≤ 128) {base : Option Addr} {n cap m : Nat} {es1 es2 : List (List AV)} {c1 c2 : Nat → Value} (hn : es1.length = n) (hm : es2.length = m)
    (h1 : ∀ e ∈ es1, e.length = (C.ti el).size) (h2 : ∀ e ∈ es2, e.length = (C.ti el).size ∧ e.all isCell = true)
    (v1 : ∀ (k : Nat) (e : List AV) (i : Nat) (y : AV), es1[k]? = some e → e[i]? = some y → V w ρ Z y (c1 (k * (C.ti el).size + i)))
    (v2 : ∀ (k : Nat) (e : List AV) (i : Nat) (y : AV), es2[k]? = some e → e[i]? = some y → V w ρ Z y (c2 (k * (C.ti el).size + i)))
    (hold : n = 0 ∨ ∃ b p, base = some ⟨b, p, none⟩ ∧ ∀ j : Nat, j < n * (C.ti el).size → w.cell? ⟨b, p + j, none⟩ = some (c1 j))
    {b2 p2 cap2 : Nat} (hnew : ∀ j : Nat, j < m * (C.ti el).size → w.cell? ⟨b2, p2 + j, none⟩ = some (c2 j))
    (hg : cap < n + m) (hlim : n + m ≤ 549755813888) {fl : Bool} (hfl : fl = true → (∀ e ∈ es1, ∀ y ∈ e, immc y = true) ∧ ∀ e ∈ es2, ∀ y ∈ e, immc y = true)
    {ty : Nat} {ρ0 : List LS} {h0 : List (Option Ob)} (r0 : Rel w ρ0 Z h0) (m0 : Mono w ρ w ρ0) (hs0 : s ≤ ρ0.length) (hf0 : ρ0[s]? = none ∨ ρ0[s]? = some .fresh)
    (hfr : ∀ i : Nat, i ≠ s → ρ[i]? = some .fresh → ρ0[i]? = some .fresh) :
    ∃ (cv : Value) (w' : World) (ρ' : List LS), (Builtin.append_ #[T, T2] ty #[.slice base n cap, .slice (some ⟨b2, p2, none⟩) m cap2]).run C.P w = .ok cv w' ∧
      Rel w' ρ' Z (putAt h0 s (some { es := es1 ++ es2, sz := (C.ti el).size, flat := fl })) ∧ Mono w ρ w' ρ' ∧ V w' ρ' Z (.sl s 0 (n + m)) cv ∧ (∀ i : Nat, i ≠ s → ρ[i]? = some .fresh → ρ'[i]? = some .fresh) := by
  obtain ⟨hu, hel⟩ := ok.under_sl hT
  obtain ⟨hu2, _⟩ := ok.under_sl hT2
  obtain ⟨⟨inf, i1, i2, i3, i4, z, i5, i6⟩, _, _⟩ := ok.parts hel
  have hzs : z.cells.size = (C.ti el).size := by
    have := (zerosRel_V i6 default [] (fun _ => False)).1
    rw [i4] at this
    simpa using this.symm
  have hsrc : Src C.P inf.size T2 (.slice (some ⟨b2, p2, none⟩) m cap2) m ((List.range (m * (C.ti el).size)).map c2) w := by
    refine Src.ofSlice w hu2 _ m cap2 _ (by simp [i2]) (fun j u hj => ?_) (fun u hu => ?_)
    · rw [addr_add]
      obtain ⟨h3, rfl⟩ := range_some hj
      exact hnew j h3
    · obtain ⟨j, hj, rfl⟩ := List.mem_map.1 hu
      have hj := List.mem_range.1 hj
      have hpos : 0 < (C.ti el).size := by
        rcases Nat.eq_zero_or_pos (C.ti el).size with h0 | h0
        · rw [h0] at hj; simp at hj
        · exact h0
      have hk : j / (C.ti el).size < es2.length := by rw [Nat.div_lt_iff_lt_mul hpos, hm]; exact hj
      have hi : j % (C.ti el).size < (C.ti el).size := Nat.mod_lt _ hpos
      have he := List.getElem?_eq_getElem hk
      obtain ⟨hl, hc⟩ := h2 _ (List.getElem_mem hk)
      have hx := List.getElem?_eq_getElem (l := es2[j / (C.ti el).size]) (i := j % (C.ti el).size) (by omega)
      have := v2 _ _ _ _ he hx
      rw [show j / (C.ti el).size * (C.ti el).size + j % (C.ti el).size = j by rw [Nat.mul_comm]; exact Nat.div_add_mod j _] at this
      exact (V.cells_v (List.all_eq_true.1 hc _ (List.getElem_mem _)) this).2
  have hold2 : (Builtin.firstCells inf.size n (.slice base n cap)).run C.P w.drew = .ok ((List.range (n * (C.ti el).size)).map c1).toArray w.drew := by
    rcases hold with h3 | ⟨b, p, rfl, h3⟩
    · subst h3
      cases base with
      | none => simp [Builtin.firstCells]
      | some x => simp [Builtin.firstCells, loadCells, loadCellsFrom]
    · refine run_firstCells_some w.drew inf.size n _ n cap _ (by simp [i2]) (fun j u hj => ?_)
      rw [addr_add]
      obtain ⟨h4, rfl⟩ := range_some hj
      rw [World.cell?_drew]
      exact h3 j h4
  have hb128 : (n + m) * inf.bytes ≤ 140737488355328 := by
    rw [i3]
    calc (n + m) * (C.ti el).bytes ≤ 549755813888 * 128 := Nat.mul_le_mul hlim hby
      _ ≤ 140737488355328 := by omega
  have hrun := run_append_grow_src w T T2 ty el inf z hu i1 i5 base n cap _ hold2 _ m _ hsrc hg (by omega) (growslice_fits hg hb128)
  obtain ⟨rd, md⟩ := relSame r0 (w' := w.drew) rfl rfl rfl rfl
  have mm := m0.trans md
  have hge := grown_ge w (n + m) cap el
  have hasz : (((List.range (n * (C.ti el).size)).map c1 ++ (List.range (m * (C.ti el).size)).map c2).toArray ++ Builtin.zeroCells z.cells (grownCap w (n + m) cap el - (n + m))).size = grownCap w (n + m) cap el * (C.ti el).size := by
    simp only [Array.size_append, List.size_toArray, List.length_append, List.length_map, List.length_range, size_zeroCells, hzs, ← Nat.add_mul]
    congr 1
    omega
  have hlen12 : (es1 ++ es2).length = n + m := by simp [hn, hm]
  have key := relAlloc rd hs0 hf0 { es := es1 ++ es2, sz := (C.ti el).size, flat := fl }
    (((List.range (n * (C.ti el).size)).map c1 ++ (List.range (m * (C.ti el).size)).map c2).toArray ++ Builtin.zeroCells z.cells (grownCap w (n + m) cap el - (n + m))) el
    (by rw [hasz]; simp only [hlen12]; exact Nat.mul_le_mul_right _ hge)
    (fun e he => by
      rcases List.mem_append.1 he with h3 | h3
      · exact h1 e h3
      · exact (h2 e h3).1)
    (fun hf e he => by
      rcases List.mem_append.1 he with h3 | h3
      · exact (hfl hf).1 e h3
      · exact (hfl hf).2 e h3)
    (fun k e i y he hy => by
      have h3 := cat_V h1 (fun e he => (h2 e he).1) v1 v2 k e i y he hy
      rw [hn, hm] at h3
      have hk : k < n + m := by rw [← hlen12]; exact (List.getElem?_eq_some_iff.1 he).1
      have hi : i < (C.ti el).size := by
        have h4 : e.length = (C.ti el).size := by
          rcases List.mem_append.1 (List.mem_of_getElem? he) with h5 | h5
          · exact h1 e h5
          · exact (h2 e h5).1
        rw [← h4]
        exact (List.getElem?_eq_some_iff.1 hy).1
      rw [zeros_get _ _ _ (by
        have := pos_mul hk hi
        rw [Nat.add_mul] at this
        simpa using this)]
      exact h3.mono mm) _ rfl
  refine ⟨_, _, _, hrun, key.1, mm.trans key.2, ?_, fun i hi hfi => ?_⟩
  · exact V.newSl hs0 hge (by simp [hlen12]) (by show 0 + grownCap w (n + m) cap el * (C.ti el).size ≤ _; rw [hasz]; simp)
  · rw [putAt_get _ _ _ hs0, if_neg hi]
    exact hfr i hi hfi

end
end Am

/- Fifth part: append, all its ways. -/
namespace Am
open Go

section
variable {C : Cx} {a : Act} {o : Oper} {w : World} {ρ : List LS} {Z : Nat → Prop} {h : List (Option Ob)} {s : Nat}

theorem run_append_zero (ok : CxOk C) {T T2 el e2 : Nat} (hT : (C.ti T).k = .sl el) (hT2 : (C.ti T2).k = .sl e2) (w : World) (base base2 : Option Addr) (n cap cap2 ty : Nat) (hn : n ≤ cap) :
    (Builtin.append_ #[T, T2] ty #[.slice base n cap, .slice base2 0 cap2]).run C.P w = .ok (.slice base n cap) w := by
  obtain ⟨hu, hel⟩ := ok.under_sl hT
  obtain ⟨hu2, _⟩ := ok.under_sl hT2
  have h1 : (Builtin.firstCells (C.ti el).size 0 (.slice base2 0 cap2)).run C.P w = .ok #[] w := by
    cases base2 <;> simp [Builtin.firstCells, loadCells, loadCellsFrom]
  have h2 : (do if let some a := base then storeCells (a.add (n * (C.ti el).size)) ([] : List Value); pure () : Sem Unit).run C.P w = .ok () w := by
    cases base <;> simp [storeCells]
  simp only [Builtin.append_]
  simp [run_underlying hu, run_underlying hu2, ok.run_sizeOf hel, Builtin.lenOf, hn, h1]
  cases base <;> simp [storeCells]

theorem kill_get (ρ : List LS) (id i : Nat) (hlt : id < ρ.length) : (ρ.set id .dead)[i]? = if i = id then some .dead else ρ[i]? := by
  rw [List.getElem?_set]
  by_cases e : id = i
  · subst e; simp [hlt]
  · rw [if_neg e, if_neg (fun c => e c.symm)]

theorem op_append (ok : CxOk C) (r : Rel w ρ Z h) (hs : s ≤ ρ.length) (hf : ρ[s]? = none ∨ ρ[s]? = some .fresh) {gr : Nat → Bool} {T T2 e2 : Nat} {x y : AV} {pre : Prop} {e : Eff}
    (hT2 : (C.ti T2).k = .sl e2) (hev : evAppend C gr (hp h) s T x y = some (pre, e)) (hpre : pre) {cx cy : Value} (hx : V w ρ Z x cx) (hy : V w ρ Z y cy) (ty : Nat) :
    ∃ (cv : Value) (w' : World) (ρ' : List LS), (Builtin.append_ #[T, T2] ty #[cx, cy]).run C.P w = .ok cv w' ∧ Rel w' ρ' Z (applyH h s e) ∧ Mono w ρ w' ρ' ∧ V w' ρ' Z e.val cv ∧
      (∀ i : Nat, i ≠ s → ρ[i]? = some .fresh → ρ'[i]? = some .fresh) := by
  unfold evAppend at hev
  split at hev
  case h_2 => cases hev
  rename_i el hT
  simp only at hev
  cases hrd : rdSlice (hp h) y with
  | none => rw [hrd] at hev; cases hev
  | some p =>
    obtain ⟨es2, ids2⟩ := p
    rw [hrd] at hev
    simp only at hev
    obtain ⟨base2, cap2, rfl, hcap2, hcells2, hflat2⟩ := rd_cells r hrd hy
    split at hev
    case isFalse => cases hev
    rename_i hby
    have hfr0 : ∀ (ρ1 : List LS) (x : LS), (∀ i : Nat, i ≠ s → ρ[i]? = some .fresh → ρ1[i]? = some .fresh) → s ≤ ρ1.length → ∀ i : Nat, i ≠ s → ρ[i]? = some .fresh → (putAt ρ1 s x)[i]? = some .fresh := by
      intro ρ1 x h1 h2 i hi hfi
      rw [putAt_get _ _ _ h2, if_neg hi]
      exact h1 i hi hfi
    split at hev
    · -- a nil slice
      cases hev
      obtain ⟨hlen, hsz⟩ := hpre
      cases hx with
      | nl a0 =>
        rcases Nat.eq_zero_or_pos es2.length with hm | hm
        · have hnil : es2 = [] := List.eq_nil_of_length_eq_zero hm
          subst hnil
          obtain ⟨r1, m1⟩ := relVirt r hs hf { es := [], sz := (C.ti el).size, flat := rdFlat (hp h) y && !gr el } rfl
          refine ⟨.slice a0 0 0, w, putAt ρ s .virt, run_append_zero ok hT hT2 w a0 base2 0 0 cap2 ty (Nat.le_refl _), r1, m1, ?_, hfr0 ρ _ (fun _ _ h => h) hs⟩
          exact .slv s 0 a0 (by rw [putAt_get _ _ _ hs, if_pos rfl])
        · obtain ⟨b2, p2, sz2, c2, rfl, _, hl2, hc2, hv2⟩ := hcells2 (by rintro rfl; simp at hm)
          have hsz2 : sz2 = (C.ti el).size := by
            obtain ⟨e0, he0⟩ := List.exists_mem_of_length_pos hm
            rw [← hl2 e0 he0, (hsz e0 he0).1]
          subst hsz2
          have := grow_good (C := C) ok r hs hf hT hT2 hby (base := a0) (cap := 0) (n := 0) (m := es2.length) (es1 := []) (c1 := fun _ => undef) rfl rfl (fun _ h => by cases h) hsz
            (fun k e i y he => by simp at he) hv2 (.inl rfl) hc2 (by omega) (by omega) (cap2 := cap2) (fl := rdFlat (hp h) y && !gr el) (fun hf2 => ⟨(fun _ h => by cases h), hflat2 (by simp at hf2; exact hf2.1)⟩) (ty := ty)
            r (Mono.refl _ _) hs hf (fun _ _ h => h)
          simpa [applyH, putAll] using this
    · -- a row of the frame's own
      rename_i id off len
      split at hev
      case h_2 => cases hev
      rename_i ob hob
      split at hev
      case isFalse => cases hev
      rename_i hsz0
      cases hev
      obtain ⟨⟨hlen, hsz⟩, hfl⟩ := hpre
      have ho := hp_some hob
      have hidlt : id < ρ.length := by rw [r.len]; exact (List.getElem?_eq_some_iff.1 ho).1
      have hids : id ≠ s := by
        rintro rfl
        rcases r.obj id ob ho with ⟨L, h1, _⟩ | ⟨h1, _⟩ <;> rcases hf with h2 | h2 <;> rw [h1] at h2 <;> cases h2
      obtain ⟨rk, mk⟩ := relKill r id ⟨ob, ho⟩
      have hsk : s ≤ (ρ.set id .dead).length := by simpa using hs
      have hfk : (ρ.set id .dead)[s]? = none ∨ (ρ.set id .dead)[s]? = some .fresh := by
        rw [kill_get _ _ _ hidlt, if_neg (Ne.symm hids)]; exact hf
      have hfrk : ∀ i : Nat, i ≠ s → ρ[i]? = some .fresh → (ρ.set id .dead)[i]? = some .fresh := by
        intro i _ hfi
        rw [kill_get _ _ _ hidlt, if_neg]
        · exact hfi
        · rintro rfl
          rcases r.obj i ob ho with ⟨L, h1, _⟩ | ⟨h1, _⟩ <;> rw [h1] at hfi <;> cases hfi
      obtain ⟨base, cap, hcx, hcap, hcells, hflat⟩ := rd_cells r (x := .sl id off len) (es := (ob.es.drop off).take len) (ids := [id]) (by simp only [rdSlice, hob]) hx
      have happ : ∀ ob', applyH h s { val := .sl s 0 (len + es2.length), upd := [(id, none)], new := [some ob'], rd := id :: ids2 } = putAt (h.set id none) s (some ob') := fun _ => rfl
      have hflx : ob.flat = true → ∀ e ∈ (ob.es.drop off).take len, ∀ y ∈ e, immc y = true := fun hf3 => hflat (by simp [rdFlat, hob, hf3])
      have hel1 : ∀ e ∈ (ob.es.drop off).take len, e.length = (C.ti el).size := by
        intro e he
        have hm : e ∈ ob.es := List.mem_of_mem_drop (List.mem_of_mem_take he)
        rw [← hsz0]
        rcases r.obj id ob ho with ⟨L, _, h2⟩ | ⟨_, h2⟩
        · exact h2.el e hm
        · rw [h2] at hm; cases hm
      have hlen1 : ((ob.es.drop off).take len).length = len := by
        cases hx <;> (first | (cases hcx; rfl) | (injection hcx with _ h1 _; exact h1.symm))
      rw [hlen1] at hcx hcap
      subst hcx
      -- the way without room, for whatever the elder row is
      have hgrow : cap < len + es2.length → ∃ (cv : Value) (w' : World) (ρ' : List LS), (Builtin.append_ #[T, T2] ty #[.slice base len cap, .slice base2 es2.length cap2]).run C.P w = .ok cv w' ∧
          Rel w' ρ' Z (putAt (h.set id none) s (some { es := (ob.es.drop off).take len ++ es2, sz := (C.ti el).size, flat := ob.flat })) ∧ Mono w ρ w' ρ' ∧ V w' ρ' Z (.sl s 0 (len + es2.length)) cv ∧
          (∀ i : Nat, i ≠ s → ρ[i]? = some .fresh → ρ'[i]? = some .fresh) := by
        intro hg
        have hm : 0 < es2.length := by omega
        obtain ⟨b2, p2, sz2, c2, rfl, _, hl2, hc2, hv2⟩ := hcells2 (by rintro rfl; simp at hm)
        have hsz2 : sz2 = (C.ti el).size := by
          obtain ⟨e0, he0⟩ := List.exists_mem_of_length_pos hm
          rw [← hl2 e0 he0, (hsz e0 he0).1]
        subst hsz2
        rcases Nat.eq_zero_or_pos len with hn | hn
        · exact grow_good (C := C) ok r hs hf hT hT2 hby (base := base) (n := len) (c1 := fun _ => undef) hlen1 rfl hel1 hsz
            (fun k e i y he => by rw [hn] at he; simp at he) hv2 (.inl hn) hc2 hg (by omega) (fl := ob.flat) (fun hf2 => ⟨hflx hf2, hflat2 (hfl hf2)⟩) (ty := ty) rk mk hsk hfk hfrk
        · obtain ⟨b1, p1, sz1, c1, hb1, _, hl1, hc1, hv1⟩ := hcells (by intro c; rw [c] at hlen1; simp at hlen1; omega)
          have hsz1 : sz1 = (C.ti el).size := by
            obtain ⟨e0, he0⟩ := List.exists_mem_of_length_pos (l := (ob.es.drop off).take len) (by omega)
            rw [← hl1 e0 he0, hel1 e0 he0]
          subst hsz1
          rw [hlen1] at hc1
          exact grow_good (C := C) ok r hs hf hT hT2 hby (base := base) (n := len) (c1 := c1) hlen1 rfl hel1 hsz hv1 hv2 (.inr ⟨b1, p1, hb1, hc1⟩) hc2 hg (by omega) (fl := ob.flat)
            (fun hf2 => ⟨hflx hf2, hflat2 (hfl hf2)⟩) (ty := ty) rk mk hsk hfk hfrk
      rw [happ]
      have hzero : es2.length = 0 → len = 0 → ∃ (cv : Value) (w' : World) (ρ' : List LS), (Builtin.append_ #[T, T2] ty #[.slice base len cap, .slice base2 es2.length cap2]).run C.P w = .ok cv w' ∧
          Rel w' ρ' Z (putAt (h.set id none) s (some { es := (ob.es.drop off).take len ++ es2, sz := (C.ti el).size, flat := ob.flat })) ∧ Mono w ρ w' ρ' ∧ (cap = 0 → V w' ρ' Z (.sl s 0 (len + es2.length)) cv) ∧
          (∀ i : Nat, i ≠ s → ρ[i]? = some .fresh → ρ'[i]? = some .fresh) := by
        intro hm hn
        have hnil : es2 = [] := List.eq_nil_of_length_eq_zero hm
        subst hnil
        obtain ⟨r1, m1⟩ := relVirt rk hsk hfk { es := (ob.es.drop off).take len ++ [], sz := (C.ti el).size, flat := ob.flat } (by rw [hn]; simp)
        refine ⟨_, w, _, run_append_zero ok hT hT2 w base base2 len cap cap2 ty hcap, r1, mk.trans m1, fun hc => ?_, hfr0 _ _ hfrk hsk⟩
        rw [hn, hc]
        exact .slv s 0 base (by rw [putAt_get _ _ _ hsk, if_pos rfl])
      cases hx with
      | sld _ _ _ _ _ hd _ => rcases r.obj id ob ho with ⟨L, h1, _⟩ | ⟨h1, _⟩ <;> rw [hd] at h1 <;> cases h1
      | slz _ _ L _ hL =>
        rcases Nat.eq_zero_or_pos es2.length with hm | hm
        · obtain ⟨cv, w', ρ', q1, q2, q3, q4, q5⟩ := hzero hm rfl
          exact ⟨cv, w', ρ', q1, q2, q3, q4 rfl, q5⟩
        · exact hgrow (by omega)
      | slv _ _ _ hL =>
        rcases Nat.eq_zero_or_pos es2.length with hm | hm
        · obtain ⟨cv, w', ρ', q1, q2, q3, q4, q5⟩ := hzero hm rfl
          exact ⟨cv, w', ρ', q1, q2, q3, q4 rfl, q5⟩
        · exact hgrow (by omega)
      | sl _ _ _ L c hL hc hn hr =>
        by_cases hroom : len + es2.length ≤ cap
        case neg => exact hgrow (by omega)
        have hO := r.live ho hL
        obtain ⟨arr, T', a1, a2, a3⟩ := hO.ex
        have hLsz : L.sz = (C.ti el).size := by rw [hO.sz, hsz0]
        have hroomM : L.base + off * L.sz + (len + es2.length) * (C.ti el).size ≤ L.size := by
          have h4 : (off + (len + es2.length)) * L.sz ≤ (off + cap) * L.sz := Nat.mul_le_mul_right _ (by omega)
          rw [Nat.add_mul, hLsz] at h4
          rw [hLsz] at hr ⊢
          omega
        have hcapM : L.base + off * L.sz + cap * L.sz ≤ L.size := by
          rw [Nat.add_mul] at hr; omega
        rcases Nat.eq_zero_or_pos es2.length with hm | hm
        · have hnil : es2 = [] := List.eq_nil_of_length_eq_zero hm
          subst hnil
          have key := relOver r (ob' := { es := (ob.es.drop off).take len ++ [], sz := (C.ti el).size, flat := ob.flat }) (M := ⟨L.b, L.base + off * L.sz, L.size, (C.ti el).size, len⟩) ho hL hs hf (arr' := arr) a1 rfl rfl rfl rfl (by simp [hlen1])
            (by simp only [List.append_nil, hlen1]; simpa using hroomM) (by simpa using hel1) (by simpa using hflx)
            (fun k e i y he hy => by
              simp only [List.append_nil] at he
              rw [List.getElem?_take] at he
              split at he
              · rw [List.getElem?_drop] at he
                have := a3 (off + k) e i y he hy
                rw [hLsz]
                rw [hsz0] at this
                rw [show L.base + off * (C.ti el).size + (k * (C.ti el).size + i) = L.base + ((off + k) * (C.ti el).size + i) by rw [Nat.add_mul]; omega]
                exact this
              · cases he) _ rfl
          rw [← heap_self w L.b T' arr a1] at key
          refine ⟨_, w, _, run_append_zero ok hT hT2 w _ base2 len cap cap2 ty hcap, key.1, key.2, ?_, hfr0 _ _ hfrk hsk⟩
          exact V.newSl hsk hc (by simp) (by simpa [hLsz] using hcapM)
        · obtain ⟨b2, p2, sz2, c2, rfl, _, hl2, hc2, hv2⟩ := hcells2 (by rintro rfl; simp at hm)
          have hsz2 : sz2 = (C.ti el).size := by
            obtain ⟨e0, he0⟩ := List.exists_mem_of_length_pos hm
            rw [← hl2 e0 he0, (hsz e0 he0).1]
          subst hsz2
          obtain ⟨hu, hel⟩ := ok.under_sl hT
          obtain ⟨hu2, _⟩ := ok.under_sl hT2
          obtain ⟨⟨inf, i1, i2, i3, i4, z, i5, i6⟩, _, _⟩ := ok.parts hel
          have hone : ∀ u ∈ (List.range (es2.length * (C.ti el).size)).map c2, u.oneCell' = true := by
            intro u hu
            obtain ⟨j, hj, rfl⟩ := List.mem_map.1 hu
            have hj := List.mem_range.1 hj
            have hpos : 0 < (C.ti el).size := by
              rcases Nat.eq_zero_or_pos (C.ti el).size with h0 | h0
              · rw [h0] at hj; simp at hj
              · exact h0
            have hk : j / (C.ti el).size < es2.length := by rw [Nat.div_lt_iff_lt_mul hpos]; exact hj
            have hi : j % (C.ti el).size < (C.ti el).size := Nat.mod_lt _ hpos
            have he := List.getElem?_eq_getElem hk
            obtain ⟨hl, hcc⟩ := hsz _ (List.getElem_mem hk)
            have hx := List.getElem?_eq_getElem (l := es2[j / (C.ti el).size]) (i := j % (C.ti el).size) (by omega)
            have := hv2 _ _ _ _ he hx
            rw [show j / (C.ti el).size * (C.ti el).size + j % (C.ti el).size = j by rw [Nat.mul_comm]; exact Nat.div_add_mod j _] at this
            exact (V.cells_v (List.all_eq_true.1 hcc _ (List.getElem_mem _)) this).2
          have hsrc : Src C.P inf.size T2 (.slice (some ⟨b2, p2, none⟩) es2.length cap2) es2.length ((List.range (es2.length * (C.ti el).size)).map c2) w := by
            refine Src.ofSlice w hu2 _ _ cap2 _ (by simp [i2]) (fun j u hj => ?_) hone
            rw [addr_add]
            obtain ⟨h3, rfl⟩ := range_some hj
            exact hc2 j h3
          have hq : L.base + off * L.sz + len * (C.ti el).size + ((List.range (es2.length * (C.ti el).size)).map c2).length ≤ arr.size := by
            simp only [List.length_map, List.length_range]
            rw [← a2]
            rw [Nat.add_mul] at hroomM
            omega
          have hrun := run_append_room_src w T T2 ty el inf hu i1 L.b (L.base + off * L.sz) len cap _ _ _ hsrc hroom
            (fun j hj => by
              simp only [World.cell?, a1]
              rw [i2]
              simp
              simp at hj hq
              omega)
            (fun j hj => by simp [World.frozen?, a1])
          rw [i2, setCells_eq C.P w L.b _ T' arr _ a1 hq hone] at hrun
          have key := relOver r (ob' := { es := (ob.es.drop off).take len ++ es2, sz := (C.ti el).size, flat := ob.flat }) (M := ⟨L.b, L.base + off * L.sz, L.size, (C.ti el).size, len + es2.length⟩) ho hL hs hf a1 (splice_size arr _ _ hq) rfl rfl rfl (by simp [hlen1])
            (by simp only [List.length_append, hlen1]; exact hroomM)
            (fun e he => by
              rcases List.mem_append.1 he with h5 | h5
              · exact hel1 e h5
              · exact (hsz e h5).1)
            (fun hf3 e he => by
              rcases List.mem_append.1 he with h5 | h5
              · exact hflx hf3 e h5
              · exact hflat2 (hfl hf3) e h5)
            (fun k e i y he hy => by
              rw [splice_get arr _ _ hq]
              simp only at he ⊢
              rw [List.getElem?_append, hlen1] at he
              split at he
              · rename_i hk
                have hi : i < (C.ti el).size := by rw [← hel1 e (List.mem_of_getElem? he)]; exact (List.getElem?_eq_some_iff.1 hy).1
                have hp := pos_mul hk hi
                rw [if_neg (by omega)]
                rw [List.getElem?_take, if_pos hk, List.getElem?_drop] at he
                have := a3 (off + k) e i y he hy
                rw [hLsz]
                rw [hsz0] at this
                rw [show L.base + off * (C.ti el).size + (k * (C.ti el).size + i) = L.base + ((off + k) * (C.ti el).size + i) by rw [Nat.add_mul]; omega]
                exact this
              · rename_i hk
                have hi : i < (C.ti el).size := by rw [← (hsz e (List.mem_of_getElem? he)).1]; exact (List.getElem?_eq_some_iff.1 hy).1
                have hk2 : k - len < es2.length := (List.getElem?_eq_some_iff.1 he).1
                have hp := pos_mul hk2 hi
                have hle : len * (C.ti el).size ≤ k * (C.ti el).size := Nat.mul_le_mul_right _ (by omega)
                have e1 : (k - len) * (C.ti el).size = k * (C.ti el).size - len * (C.ti el).size := Nat.sub_mul _ _ _
                rw [if_pos (by simp only [List.length_map, List.length_range]; omega)]
                rw [show L.base + off * L.sz + (k * (C.ti el).size + i) - (L.base + off * L.sz + len * (C.ti el).size) = (k - len) * (C.ti el).size + i by omega, range_get, if_pos hp]
                exact hv2 _ e i y he hy) _ rfl
          refine ⟨_, _, _, hrun, key.1, key.2, ?_, hfr0 _ _ hfrk hsk⟩
          exact V.newSl hsk hroom (by simp) (by simpa [hLsz] using hcapM)
    · cases hev

end
end Am
