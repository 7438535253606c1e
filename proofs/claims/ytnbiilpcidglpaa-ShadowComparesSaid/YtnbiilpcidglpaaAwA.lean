/- Walks of this program by an abstract machine: the text AwA. No conditions. -/
import GoSem.Dispatch
import GoSem.Core.Region
import Derived.Below
import Derived.Laws.World
import Derived.Laws.Sem
import Derived.Laws.Rows
import Derived.Laws.Cells
import Derived.Laws.Strings
import Derived.Laws.StructEq
set_option linter.unusedSimpArgs false
set_option linter.unusedVariables false

/-
  The abstract machine: values by value, memory only where a call makes it itself.
-/
namespace Go.Aw

abbrev Tok := Nat × Nat × Nat
abbrev Id := List Nat

inductive AV where
  | undef
  | bool (b : Bool)
  | int (k : IntKind) (n : Int)
  | str (s : ByteArray)
  | fn (f : FuncId) (cap : List AV)
  | nilfn
  | nil
  | list (vs : List AV)
  | rl (vs : List AV) (r : Tok)
  | sl (id : Id) (t : Tok) (off len : Nat)
  | ptr (id : Id) (t : Tok) (off : Nat)
  | fptr (cs : List AV)
  | agg (cs : List AV)
  | tup (vs : List AV)
  | map (es : List (AV × AV))
  deriving Inhabited

inductive Md where
  | W | F | R
  deriving DecidableEq, Inhabited

structure Obj where
  cells : List AV
  esz : Nat
  ag : Bool
  t : Tok
  md : Md
  deriving Inhabited

structure Heap where
  objs : List (Id × Obj)
  rts : List Tok
  deriving Inhabited

/-- An operand. -/
inductive X where
  | t (n : Nat)
  | c (v : AV)
  deriving Inhabited

/-- How a type lies in memory: cells, whether it is a struct or an array, its bytes, its zero cells. -/
structure Ty where
  sz : Nat
  ag : Bool
  by_ : Nat
  zero : List AV
  deriving Inhabited

inductive AOp where
  | mov (x : X)
  | pick (c a b : X)
  | alloc (e : Ty)
  | box (x : X)
  | build (zero : List AV) (parts : List (Nat × Nat × X))
  | bslice (e : Ty) (len : Nat) (parts : List (Nat × X))
  | load (sz : Nat) (ag : Bool) (a : X)
  | store (sz : Nat) (a v : X)
  | nilck (x : X)
  | bin (op : BinOp) (x y : X)
  | binb (neg : Bool) (x y : X)
  | eqs (neg : Bool) (fs : List (Nat × Nat)) (x y : X)
  | eqnil (neg : Bool) (x : X)
  | un (op : UnOp) (x : X)
  | conv (k : IntKind) (x : X)
  | mkfn (f : FuncId) (cap : List X)
  | mkslice (e : Ty) (len cap : X)
  | slice (e : Ty) (x : X) (lo hi : Option X)
  | sslice (x : X) (lo hi : Option X)
  | aslice (e : Ty) (n : Nat) (x : X)
  | faddr (off : Nat) (x : X)
  | field (off sz : Nat) (ag : Bool) (x : X)
  | iaddr (esz : Nat) (arr : Option Nat) (x i : X)
  | index (esz : Nat) (ag : Bool) (n : Nat) (x i : X)
  | sindex (x i : X)
  | extract (x : X) (i : Nat)
  | len (x : X)
  | slen (x : X)
  | min (x : X) (ys : List X)
  | max (x : X) (ys : List X)
  | append (e : Ty) (x y : X)
  | appendz (e : Ty) (x n : X)
  | copy (e : Ty) (x y : X)
  | cap (x : X)
  | bad
  | lookup (d : Nat) (zero : AV) (ok : Bool) (m k : X)
  | call (f : FuncId) (args : List X)
  | callv (f : X) (args : List X)
  deriving Inhabited

def X.tmps : X → List Nat
  | .t n => [n]
  | .c _ => []

/-- The temporaries that an operation looks at. -/
def AOp.xs : AOp → List X
  | .mov x | .box x | .load _ _ x | .nilck x | .eqnil _ x | .un _ x | .conv _ x | .aslice _ _ x | .faddr _ x | .field _ _ _ x | .extract x _ | .len x | .slen x | .cap x => [x]
  | .pick a b c => [a, b, c]
  | .alloc _ | .bad => []
  | .build _ ps => ps.map fun p => p.2.2
  | .bslice _ _ ps => ps.map fun p => p.2
  | .store _ x y | .bin _ x y | .binb _ x y | .eqs _ _ x y | .mkslice _ x y | .iaddr _ _ x y | .index _ _ _ x y | .sindex x y | .append _ x y | .appendz _ x y | .copy _ x y | .lookup _ _ _ x y => [x, y]
  | .mkfn _ l | .call _ l => l
  | .slice _ x lo hi | .sslice x lo hi => x :: (lo.toList ++ hi.toList)
  | .min x l | .max x l | .callv x l => x :: l

structure AOper where
  dst : Option Nat
  op : AOp
  g : Option (Nat × Bool)
  bf : Nat
  deriving Inhabited

def AOper.looks (o : AOper) : List Nat := o.op.xs.flatMap X.tmps ++ (match o.g with | some (g, _) => [g] | none => [])

/-- The temporaries of two operations do not meet. -/
def AOper.apart (x y : AOper) : Bool :=
  (match x.dst with | some d => !(y.looks.contains d) && y.dst != some d | none => true) && (match y.dst with | some d => !(x.looks.contains d) | none => true)

inductive ACode where
  | skip
  | region (ops : List AOper) (draw : Bool)
  | seq (a b : ACode)
  | cond (c : X) (x y : ACode)
  | block (id : Nat) (c : ACode)
  | loop (c : ACode)
  | exit (id : Nat)
  | ret
  | bad
  deriving Inhabited

inductive ARes where
  | tmp (t : Nat)
  | cell (t sz : Nat) (ag : Bool)
  deriving Inhabited

structure AFunc where
  np : Nat
  nt : Nat
  res : List ARes
  body : ACode
  deriving Inhabited

/-! ### values -/
def AV.cells : AV → List AV
  | .agg cs => cs
  | v => [v]

/-- A value of one cell, and known. -/
def AV.one : AV → Bool
  | .undef | .agg _ | .tup _ => false
  | _ => true

/-- A value that lies in one cell. -/
def AV.flat : AV → Bool
  | .agg _ | .tup _ => false
  | _ => true

def AV.solid : AV → Bool
  | .agg _ => true
  | v => v.one

/-- A value out of its cells. -/
def ofCells (ag : Bool) (cs : List AV) : AV := if ag then .agg cs else match cs with | [v] => v | _ => .undef

def Heap.get (h : Heap) (id : Id) : Option Obj :=
  go h.objs
where
  go : List (Id × Obj) → Option Obj
    | [] => none
    | (i, o) :: r => if i = id then some o else go r

def updObjs (id : Id) (o : Obj) : List (Id × Obj) → List (Id × Obj)
  | [] => [(id, o)]
  | (i, p) :: r => if i = id then (id, o) :: r else (i, p) :: updObjs id o r

def Heap.upd (h : Heap) (id : Id) (o : Obj) : Heap := { h with objs := updObjs id o h.objs }

/-- The elements of a row of cells. -/
def group (esz : Nat) (ag : Bool) : Nat → List AV → List AV
  | 0, _ => []
  | n + 1, cs => ofCells ag (cs.take esz) :: group esz ag n (cs.drop esz)

/-- A live row behind a slice. -/
def Heap.row (h : Heap) (id : Id) (t : Tok) : Option Obj :=
  match h.get id with
  | some o => if o.t = t then some o else none
  | none => none

/-- Each of a list. -/
def mapT (f : AV → Option (AV × List Id)) : List AV → Option (List AV × List Id)
  | [] => some ([], [])
  | v :: r =>
    match f v with
    | some (a, i) => match mapT f r with
      | some (as, is) => some (a :: as, i ++ is)
      | none => none
    | none => none

/-- What is told of a value that is handed away for reading: a tree; and the rows and variables that it shows. -/
def toTree (h : Heap) : Nat → AV → Option (AV × List Id)
  | 0, _ => none
  | n + 1, v =>
    match v with
    | .undef => some (.undef, [])
    | .bool b => some (.bool b, [])
    | .int k i => some (.int k i, [])
    | .str s => some (.str s, [])
    | .nilfn => some (.nilfn, [])
    | .nil => some (.list [], [])
    | .list vs => some (.list vs, [])
    | .rl vs _ => some (.list vs, [])
    | .map es => some (.map es, [])
    | .fptr cs => some (.fptr cs, [])
    | .sl id t off len =>
      match h.row id t with
      | some o =>
        if o.esz ≠ 0 ∧ off + len * o.esz ≤ o.cells.length then
          match mapT (toTree h n) (group o.esz o.ag len (o.cells.drop off)) with
          | some (vs, ids) => some (.list vs, id :: ids)
          | none => none
        else none
      | none => none
    | .ptr id t off =>
      match h.row id t with
      | some o =>
        match mapT (toTree h n) (o.cells.drop off) with
        | some (vs, ids) => some (.fptr vs, id :: ids)
        | none => none
      | none => none
    | .agg cs => match mapT (toTree h n) cs with | some (vs, ids) => some (.agg vs, ids) | none => none
    | .tup cs => match mapT (toTree h n) cs with | some (vs, ids) => some (.tup vs, ids) | none => none
    | .fn f cs => match mapT (toTree h n) cs with | some (vs, ids) => some (.fn f vs, ids) | none => none

def deep : Nat := 8

/-- Numbers, bools, strings, functions without variables. -/
def AV.scal : AV → Bool
  | .bool _ | .int _ _ | .str _ | .nilfn | .undef | .fn _ [] => true
  | _ => false
def AV.scal1 : AV → Bool
  | .agg cs => cs.all AV.scal
  | v => v.scal
def AV.scal2 : AV → Bool
  | .tup cs => cs.all AV.scal1
  | v => v.scal1

/-- What an operation does: its value; the variables and rows that turn; the rights that go and come; what it has read and written. -/
structure Ev where
  v : AV
  up : List (Id × Obj) := []
  del : List Tok := []
  add : List Tok := []
  rd : List Id := []
  wr : List Id := []
  deriving Inhabited

def Heap.ups (h : Heap) : List (Id × Obj) → Heap
  | [] => h
  | (i, o) :: r => (h.upd i o).ups r

def Heap.act (h : Heap) (e : Ev) : Heap :=
  let h := h.ups e.up
  { h with rts := e.add ++ h.rts.filter fun t => !e.del.contains t }

/-- One cell's value as a row keeps it. -/
def inRow1 (h : Heap) (v : AV) : Option Ev :=
  match v with
  | .bool _ | .int _ _ | .str _ | .nilfn | .nil | .list _ | .rl _ _ => some { v }
  | .fn f [] => some { v := .fn f [] }
  | .sl id t off len =>
    match h.row id t with
    | some o =>
      if o.esz ≠ 0 ∧ off + len * o.esz ≤ o.cells.length then
        match mapT (toTree h deep) (group o.esz o.ag len (o.cells.drop off)) with
        | some (vs, []) =>
          if o.md = .W ∧ off = 0 ∧ len * o.esz = o.cells.length then
            some { v := .rl vs t, up := [(id, { o with md := .R })], add := [t], rd := [id], wr := [id, []] }
          else if o.md = .W then some { v := .list vs, up := [(id, { o with md := .F })], rd := [id], wr := [id] }
          else some { v := .list vs, rd := [id] }
        | _ => none
      else none
    | none => none
  | _ => none

def Ev.and (a b : Ev) (v : AV) : Ev := { v, up := a.up ++ b.up, del := a.del ++ b.del, add := b.add ++ a.add, rd := a.rd ++ b.rd, wr := a.wr ++ b.wr }

/-- Cells as a row keeps them, one behind the other. -/
def inRow (h : Heap) : List AV → Option (List AV × Ev)
  | [] => some ([], { v := .undef })
  | v :: r =>
    match inRow1 h v with
    | some e =>
      match inRow (h.act e) r with
      | some (vs, f) => some (e.v :: vs, e.and f .undef)
      | none => none
    | none => none

/-- The cells, from off on, take other values. -/
def splice (cs : List AV) (off : Nat) (new : List AV) : List AV := cs.take off ++ new ++ cs.drop (off + new.length)

def X.ev (s : List AV) : X → AV
  | .t n => s.getD n .undef
  | .c v => v

def abin (op : BinOp) : AV → AV → Option AV
  | .int k a, .int j b =>
    match op with
    | .shl => if b < 0 then none else some (.int k (k.wrap (a * 2 ^ (Nat.min b.toNat k.bits))))
    | .shr => if b < 0 then none else some (.int k (a.fdiv (2 ^ (Nat.min b.toNat k.bits))))
    | .add => if k = j then some (.int k (k.wrap (a + b))) else none
    | .sub => if k = j then some (.int k (k.wrap (a - b))) else none
    | .mul => if k = j then some (.int k (k.wrap (a * b))) else none
    | .quo => if k = j ∧ b ≠ 0 then some (.int k (k.wrap (a.tdiv b))) else none
    | .rem => if k = j ∧ b ≠ 0 then some (.int k (a.tmod b)) else none
    | .and => if k = j then some (.int k (k.wrap (BitVec.ofInt k.bits a &&& BitVec.ofInt k.bits b).toNat)) else none
    | .or => if k = j then some (.int k (k.wrap (BitVec.ofInt k.bits a ||| BitVec.ofInt k.bits b).toNat)) else none
    | .xor => if k = j then some (.int k (k.wrap (BitVec.ofInt k.bits a ^^^ BitVec.ofInt k.bits b).toNat)) else none
    | .andNot => if k = j then some (.int k (k.wrap (BitVec.ofInt k.bits a &&& ~~~BitVec.ofInt k.bits b).toNat)) else none
    | .eql => if k = j then some (.bool (decide (a = b))) else none
    | .neq => if k = j then some (.bool (!decide (a = b))) else none
    | .lss => if k = j then some (.bool (decide (a < b))) else none
    | .leq => if k = j then some (.bool (decide (a ≤ b))) else none
    | .gtr => if k = j then some (.bool (decide (b < a))) else none
    | .geq => if k = j then some (.bool (decide (b ≤ a))) else none
  | .str a, .str b =>
    match op with
    | .eql => some (.bool (decide (a = b)))
    | .neq => some (.bool (!decide (a = b)))
    | .add => if a.size + b.size ≤ 1000000 then some (.str (a ++ b)) else none
    | _ => none
  | _, _ => none

def abinb (neg : Bool) : AV → AV → Option AV
  | .bool a, .bool b => some (.bool ((a == b) != neg))
  | _, _ => none

def aun (op : UnOp) : AV → Option AV
  | .int k a => match op with
    | .neg => some (.int k (k.wrap (0 - a)))
    | _ => none
  | .bool b => match op with
    | .not => some (.bool !b)
    | _ => none
  | _ => none

/-- Two cells of one kind (0: a number, 1: a bool, 2: a string). -/
def aeq1 : Nat → AV → AV → Option Bool
  | 0, .int k a, .int j b => if k = j then some (decide (a = b)) else none
  | 1, .bool a, .bool b => some (a == b)
  | 2, .str a, .str b => some (decide (a = b))
  | _, _, _ => none

def aeqs : List (Nat × Nat) → List AV → List AV → Option Bool
  | [], _, _ => some true
  | (o, k) :: r, xs, ys =>
    match aeq1 k (xs.getD o .undef) (ys.getD o .undef) with
    | some b => if b then aeqs r xs ys else some false
    | none => none

def amin : AV → List AV → Option AV
  | v, [] => some v
  | .int k a, .int j b :: r => if k = j then amin (.int k (if b < a then b else a)) r else none
  | _, _ => none
def amax : AV → List AV → Option AV
  | v, [] => some v
  | .int k a, .int j b :: r => if k = j then amax (.int k (if b > a then b else a)) r else none
  | _, _ => none

def sub (cs : List AV) (off sz : Nat) : Option (List AV) := if off + sz ≤ cs.length then some ((cs.drop off).take sz) else none

/-- The cells that are appended, how many elements, and the rows that are read. -/
def source (h : Heap) (esz : Nat) : AV → Option (List AV × Nat × List Id)
  | .nil => some ([], 0, [])
  | .list vs => some (vs.flatMap AV.cells, vs.length, [])
  | .rl vs _ => some (vs.flatMap AV.cells, vs.length, [])
  | .sl id t off len =>
    match h.row id t with
    | some o => if o.esz = esz ∧ o.esz ≠ 0 ∧ off + len * o.esz ≤ o.cells.length then some ((o.cells.drop off).take (len * esz), len, [id]) else none
    | none => none
  | _ => none

def bound : Nat := 140737488355328

/-- n elements, the cells cs, behind what a slice has. -/
def append1 (h : Heap) (e : Ty) (id : Id) (tk : Tok) (x : AV) (cs : List AV) (n : Nat) (rd : List Id) : Option Ev :=
  if n = 0 then
    match x with
    | .nil => some { v := .nil, rd }
    | .list vs => some { v := .list vs, rd }
    | .rl vs r => some { v := .rl vs r, rd }
    | .sl i t off len => some { v := .sl i t off len, rd := i :: rd }
    | _ => none
  else if cs.length = n * e.sz ∧ e.sz ≠ 0 ∧ cs.all AV.one ∧ n ≤ bound then
    match x with
    | .nil => if n * e.by_ ≤ bound then some { v := .sl id tk 0 n, up := [(id, ⟨cs, e.sz, e.ag, tk, .W⟩)], rd, wr := [id] } else none
    | .sl i t off len =>
      match h.row i t with
      | some o =>
        if off = 0 ∧ len ≤ bound ∧ o.esz = e.sz ∧ o.ag = e.ag ∧ (len + n) * e.by_ ≤ bound ∧ len * e.sz ≤ o.cells.length ∧ (len * e.sz = o.cells.length ∧ o.md ≠ .R ∨ o.md = .W) then
          some { v := .sl i tk 0 (len + n), up := [(i, { o with cells := o.cells.take (len * e.sz) ++ cs, t := tk })], rd := i :: rd, wr := [i] }
        else none
      | none => none
    | .rl vs r =>
      if h.rts.contains r ∧ vs ≠ [] ∧ vs.length ≤ bound ∧ (vs.length + n) * e.by_ ≤ bound ∧ (vs.flatMap AV.cells).length = vs.length * e.sz then
        match mapT (toTree h deep) (group e.sz e.ag n cs) with
        | some (ys, []) => some { v := .rl (vs ++ ys) tk, del := [r], add := [tk], rd := [] :: rd, wr := [[]] }
        | _ => none
      else none
    | _ => none
  else none

def aappend (h : Heap) (e : Ty) (id : Id) (tk : Tok) (x y : AV) : Option Ev :=
  match source h e.sz y with
  | some (cs, n, rd) => append1 h e id tk x cs n rd
  | none => none

def acopy (h : Heap) (e : Ty) (x y : AV) : Option Ev :=
  match source h e.sz y with
  | some (cs, n, rd) =>
    if cs.length = n * e.sz ∧ e.sz ≠ 0 then
      match x with
      | .sl i t off len =>
        match h.row i t with
        | some o =>
          if o.md = .W ∧ o.esz = e.sz ∧ off + Nat.min n len * e.sz ≤ o.cells.length then
            match inRow h (cs.take (Nat.min n len * e.sz)) with
            | some (new, f) => if f.wr.contains i then none else some (f.and { v := .undef, up := [(i, { o with cells := splice o.cells off new })], rd := i :: rd, wr := [i] } (.int .i64 (Nat.min n len)))
            | none => none
          else none
        | none => none
      | _ => none
    else none
  | none => none

def AV.idx : AV → Option Nat
  | .int _ n => if 0 ≤ n then some n.toNat else none
  | _ => none

/-- A key among the pairs of a map. -/
def find (d : Nat) (k : AV) : List (AV × AV) → Option (Option AV)
  | [] => some none
  | (j, v) :: r => match aeq1 d k j with
    | some b => if b then some (some v) else find d k r
    | none => none

def frz (h : Heap) : List Id → List (Id × Obj)
  | [] => []
  | i :: r => match h.get i with
    | some o => if o.md = .W then (i, { o with md := .F }) :: frz h r else frz h r
    | none => frz h r

/-- A row's copy (slices.Clone). -/
def aclone (h : Heap) (e : Ty) (id : Id) (tk : Tok) (x : AV) : Option Ev :=
  match source h e.sz x with
  | some (cs, n, rd) =>
    if n = 0 then (match x with | .nil => some { v := .nil, rd } | _ => some { v := .list [], rd })
    else if cs.length = n * e.sz ∧ e.sz ≠ 0 ∧ cs.all AV.one ∧ n ≤ bound ∧ n * e.by_ ≤ bound then
      some { v := .sl id tk 0 n, up := [(id, ⟨cs, e.sz, e.ag, tk, .W⟩)], rd, wr := [id] }
    else none
  | none => none

/-- A call that is handed trees and hands back a tree; or that copies a row. -/
def acall (call : FuncId → List AV → Option AV) (clo : FuncId → Option Ty) (id : Id) (tk : Tok) (h : Heap) (f : FuncId) (args : List AV) : Option Ev :=
  match clo f with
  | some e => match args with
    | [x] => aclone h e id tk x
    | _ => none
  | none =>
    match mapT (toTree h deep) args with
    | some (ts, ids) =>
      match call f ts with
      | some r => if r.scal2 then some { v := r, rd := ids } else some { v := r, up := frz h ids, rd := ids, wr := (frz h ids).map (·.1) }
      | none => none
    | none => none

def sized1 (n : Nat) : List AV → Bool
  | [] => true
  | v :: _ => v.cells.length == n

/-- x[l:h] of a slice. -/
def aslice1 (h : Heap) (e : Ty) (v : AV) (l : Nat) (hi : Option Nat) : Option Ev :=
  match v with
  | .nil => if l = 0 ∧ hi.getD 0 = 0 then some { v := .nil } else none
  | .list vs =>
    if hi.getD vs.length ≤ vs.length ∧ l ≤ hi.getD vs.length ∧ sized1 e.sz vs then some { v := .list ((vs.drop l).take (hi.getD vs.length - l)) } else none
  | .rl vs _ =>
    if hi.getD vs.length ≤ vs.length ∧ l ≤ hi.getD vs.length ∧ sized1 e.sz vs then some { v := .list ((vs.drop l).take (hi.getD vs.length - l)) } else none
  | .sl i t off n =>
    match h.row i t with
    | some o =>
      if o.esz = e.sz ∧ o.esz ≠ 0 ∧ hi.getD n ≤ n ∧ l ≤ hi.getD n then
        if l = hi.getD n ∧ l ≠ 0 then some { v := .list [], rd := [i] } else some { v := .sl i t (off + l * e.sz) (hi.getD n - l), rd := [i] }
      else none
    | none => none
  | _ => none

def fillB (s : List AV) : List (Nat × Nat × X) → List AV → Option (List AV)
  | [], cs => some cs
  | (off, sz, x) :: r, cs => if (x.ev s).solid ∧ (x.ev s).cells.length = sz ∧ off + sz ≤ cs.length then fillB s r (splice cs off (x.ev s).cells) else none

def fillS (s : List AV) (esz : Nat) : List (Nat × X) → List AV → Option (List AV)
  | [], cs => some cs
  | (i, x) :: r, cs => if (x.ev s).solid ∧ (x.ev s).cells.length = esz ∧ i * esz + esz ≤ cs.length then fillS s esz r (splice cs (i * esz) (x.ev s).cells) else none

def evOp (call : FuncId → List AV → Option AV) (own : FuncId → Option Ty) (s : List AV) (h : Heap) (id : Id) (tk : Tok) : AOp → Option Ev
  | .mov x => some { v := x.ev s }
  | .pick c a b => match c.ev s with | .bool q => some { v := if q then a.ev s else b.ev s } | _ => none
  | .alloc e => some { v := .ptr id tk 0, up := [(id, ⟨e.zero, 0, false, tk, .W⟩)], wr := [id] }
  | .box x => if (x.ev s).solid then some { v := .ptr id tk 0, up := [(id, ⟨(x.ev s).cells, 0, false, tk, .W⟩)], wr := [id] } else none
  | .build zero parts =>
    match fillB s parts zero with
    | some cs => some { v := .agg cs }
    | none => none
  | .bslice e n parts =>
    if n * e.sz ≤ 16777216 ∧ e.sz ≠ 0 then
      match fillS s e.sz parts ((List.replicate n e.zero).flatten) with
      | some cs => match inRow h cs with
        | some (cs, f) => some (f.and { v := .undef, up := [(id, ⟨cs, e.sz, e.ag, tk, .W⟩)], wr := [id] } (.sl id tk 0 n))
        | none => none
      | none => none
    else none
  | .load sz ag a =>
    match a.ev s with
    | .ptr i t off => match h.row i t with
      | some o => match sub o.cells off sz with | some cs => some { v := ofCells ag cs, rd := [i] } | none => none
      | none => none
    | .fptr cs => match sub cs 0 sz with | some cs => some { v := ofCells ag cs } | none => none
    | _ => none
  | .store sz a x =>
    let v := (x.ev s).cells
    match a.ev s with
    | .ptr i t off => match h.row i t with
      | some o =>
        if v.length = sz ∧ off + sz ≤ o.cells.length ∧ o.md = .W ∧ v.all AV.one then
          if o.esz = 0 then some { v := .undef, up := [(i, { o with cells := splice o.cells off v })], rd := [i], wr := [i] }
          else match inRow h v with
            | some (cs, f) => if f.wr.contains i then none else some (f.and { v := .undef, up := [(i, { o with cells := splice o.cells off cs })], rd := [i], wr := [i] } .undef)
            | none => none
        else none
      | none => none
    | _ => none
  | .nilck x => match x.ev s with
    | .ptr i t off => some { v := .ptr i t off }
    | .fptr cs => some { v := .fptr cs }
    | .fn f c => some { v := .fn f c }
    | _ => none
  | .bin op x y => match abin op (x.ev s) (y.ev s) with | some v => some { v } | none => none
  | .binb neg x y => match abinb neg (x.ev s) (y.ev s) with | some v => some { v } | none => none
  | .eqs neg fs x y => match x.ev s, y.ev s with
    | .agg xs, .agg ys => match aeqs fs xs ys with | some b => some { v := .bool (b != neg) } | none => none
    | _, _ => none
  | .eqnil neg x => match x.ev s with
    | .nil => some { v := .bool (!neg) }
    | .sl _ _ _ _ | .list (_ :: _) | .rl (_ :: _) _ => some { v := .bool neg }
    | _ => none
  | .un op x => match aun op (x.ev s) with | some v => some { v } | none => none
  | .conv k x => match x.ev s with | .int _ n => some { v := .int k (k.wrap n) } | _ => none
  | .mkfn f cap => some { v := .fn f (cap.map (·.ev s)) }
  | .mkslice e l c =>
    match l.ev s, c.ev s with
    | .int .i64 n, .int .i64 m => if 0 ≤ n ∧ n ≤ m ∧ m.toNat * e.by_ ≤ bound ∧ m.toNat ≤ bound ∧ e.sz ≠ 0 then
        some { v := .sl id tk 0 n.toNat, up := [(id, ⟨(List.replicate n.toNat e.zero).flatten, e.sz, e.ag, tk, .W⟩)], wr := [id] } else none
    | _, _ => none
  | .sslice _ _ _ => none
  | .slice e x lo hi =>
    match (match hi with | some z => (z.ev s).idx.map some | none => some none), (match lo with | some z => (z.ev s).idx | none => some 0) with
    | some hh, some l => aslice1 h e (x.ev s) l hh
    | _, _ => none
  | .aslice e n x =>
    match x.ev s with
    | .ptr i t 0 => match h.row i t with
      | some o => if o.cells.length = n ∧ e.sz = 1 ∧ o.cells.all AV.scal ∧ 0 < n ∧ n ≤ bound ∧ o.md = .W then some { v := .sl i tk 0 n, up := [(i, { o with esz := 1, ag := e.ag, t := tk })], rd := [i], wr := [i] } else none
      | none => none
    | _ => none
  | .faddr off x => match x.ev s with
    | .ptr i t o => some { v := .ptr i t (o + off) }
    | .fptr cs => some { v := .fptr (cs.drop off) }
    | _ => none
  | .field off sz ag x => match x.ev s with
    | .agg cs => match sub cs off sz with | some cs => some { v := ofCells ag cs } | none => none
    | _ => none
  | .iaddr esz arr x i =>
    match (i.ev s).idx with
    | some n => match arr with
      | some m => if n < m then (match x.ev s with
          | .ptr i t o => some { v := .ptr i t (o + n * esz) }
          | .fptr cs => some { v := .fptr (cs.drop (n * esz)) }
          | _ => none) else none
      | none => match x.ev s with
        | .list vs => match vs[n]? with | some v => if v.cells.length = esz then some { v := .fptr v.cells } else none | none => none
        | .rl vs _ => match vs[n]? with | some v => if v.cells.length = esz then some { v := .fptr v.cells } else none | none => none
        | .sl i t off len => if n < len then some { v := .ptr i t (off + n * esz) } else none
        | _ => none
    | none => none
  | .index esz ag n x i =>
    match (i.ev s).idx with
    | some k => match x.ev s with
      | .agg cs => if k < n then (match sub cs (k * esz) esz with | some cs => some { v := ofCells ag cs } | none => none) else none
      | _ => none
    | none => none
  | .sindex x i =>
    match (i.ev s).idx with
    | some k => match x.ev s with
      | .str b => if h : k < b.size then some { v := .int .u8 ((b[k]'h).toNat : Int) } else none
      | _ => none
    | none => none
  | .extract x i => match x.ev s with
    | .tup vs => match vs[i]? with | some v => some { v } | none => none
    | _ => none
  | .slen x => match x.ev s with
    | .str b => some { v := .int .i64 b.size }
    | _ => none
  | .len x => match x.ev s with
    | .nil => some { v := .int .i64 0 }
    | .list vs => some { v := .int .i64 vs.length }
    | .rl vs _ => some { v := .int .i64 vs.length }
    | .sl _ _ _ n => some { v := .int .i64 n }
    | _ => none
  | .min x ys => match amin (x.ev s) (ys.map (·.ev s)) with | some v => some { v } | none => none
  | .max x ys => match amax (x.ev s) (ys.map (·.ev s)) with | some v => some { v } | none => none
  | .append e x y => aappend h e id tk (x.ev s) (y.ev s)
  | .appendz e x y => match x.ev s, (y.ev s).idx with
    | .nil, some n =>
      if n ≠ 0 ∧ n ≤ bound ∧ n * e.by_ ≤ bound ∧ e.sz ≠ 0 then some { v := .sl id tk 0 n, up := [(id, ⟨(List.replicate n e.zero).flatten, e.sz, e.ag, tk, .W⟩)], wr := [id] } else none
    | _, _ => none
  | .copy e x y => acopy h e (x.ev s) (y.ev s)
  | .cap x => match x.ev s with
    | .nil => some { v := .int .i64 0 }
    | _ => none
  | .bad => none
  | .lookup d zero ok m k =>
    match m.ev s with
    | .map es => match find d (k.ev s) es with
      | some (some v) => some { v := if ok then .tup [v, .bool true] else v }
      | some none => some { v := if ok then .tup [zero, .bool false] else zero }
      | none => none
    | _ => none
  | .call f args => acall call own id tk h f (args.map (·.ev s))
  | .callv f args => match f.ev s with
    | .fn g cap => acall call own id tk h g (args.map (·.ev s) ++ cap)
    | _ => none

structure St where
  s : List AV
  h : Heap
  ck : Nat
  deriving Inhabited

abbrev CallT := FuncId → List AV → Option AV
abbrev ICallT := FuncId → List AV → Id → Heap → Nat → Option (AV × Heap × Nat)

/-- What a log keeps of an operation: what stands ahead of it; whether it may have touched everything; what it read and wrote. -/
structure Lg where
  bf : Nat
  all : Bool
  rd : List Id
  wr : List Id
  deriving Inhabited

/-- The function and the arguments of a call that is walked into, if it is one. -/
def inlined (inl : FuncId → Bool) (s : List AV) : AOp → Option (FuncId × List AV)
  | .call f args => if inl f then some (f, args.map (·.ev s)) else none
  | .callv x args => match x.ev s with
    | .fn g cap => if inl g then some (g, args.map (·.ev s) ++ cap) else none
    | _ => none
  | _ => none

def putD (dst : Option Nat) (v : AV) (s : List AV) : List AV := match dst with | some d => s.set d v | none => s

/-- The operation at place i of a region, its guard aside. -/
def runOp1 (call : CallT) (icall : ICallT) (own : FuncId → Option Ty) (inl : FuncId → Bool) (pre : Id) (rc i : Nat) (o : AOper) (s : List AV) (h : Heap) (ck : Nat) : Option (List AV × Heap × Nat × Lg) :=
  match inlined inl s o.op with
  | some (f, as) =>
    match icall f as ((o.dst.getD 0) :: pre) h ck with
    | some (v, h, ck) => some (putD o.dst v s, h, ck, ⟨o.bf, true, [], []⟩)
    | none => none
  | none =>
    match evOp call own s h ((o.dst.getD 0) :: pre) (rc, i, 0) o.op with
    | some e => some (putD o.dst e.v s, h.act e, ck, ⟨o.bf, false, e.rd, e.wr⟩)
    | none => none

def runOp (call : CallT) (icall : ICallT) (own : FuncId → Option Ty) (inl : FuncId → Bool) (pre : Id) (rc i : Nat) (o : AOper) (s : List AV) (h : Heap) (ck : Nat) : Option (List AV × Heap × Nat × Lg) :=
  match o.g with
  | none => runOp1 call icall own inl pre rc i o s h ck
  | some (g, want) =>
    match s.getD g .undef with
    | .bool b => if b = want then runOp1 call icall own inl pre rc i o s h ck else some (putD o.dst (.tup []) s, h, ck, ⟨o.bf, false, [], []⟩)
    | .tup [] => some (putD o.dst (.tup []) s, h, ck, ⟨o.bf, false, [], []⟩)
    | _ => none

def runOps (call : CallT) (icall : ICallT) (own : FuncId → Option Ty) (inl : FuncId → Bool) (pre : Id) (rc : Nat) : Nat → List AOper → List AV → Heap → Nat → List Lg → Option (List AV × Heap × Nat × List Lg)
  | _, [], s, h, ck, lg => some (s, h, ck, lg)
  | i, o :: r, s, h, ck, lg =>
    match runOp call icall own inl pre rc i o s h ck with
    | some (s, h, ck, l) => runOps call icall own inl pre rc (i + 1) r s h ck (l :: lg)
    | none => none

def meets (a b : List Id) : Bool := a.any fun x => b.contains x

def Lg.quiet (a : Lg) : Bool := !a.all && a.rd.isEmpty && a.wr.isEmpty

/-- Neither writes what the other one reads or writes. -/
def Lg.apart (q : Bool) (a b : Lg) : Bool := a.quiet || b.quiet || (!q && !(meets a.wr b.wr || meets a.wr b.rd || meets a.rd b.wr))

def logOne (q : Bool) (a : Lg) : Nat → List Lg → Bool
  | n + 1, b :: r => (a.bf.testBit n || a.apart q b) && logOne q a n r
  | _, _ => true

def logGo (q : Bool) : List Lg → Bool
  | [] => true
  | a :: r => logOne q a (r.length) r && logGo q r

/-- Of each two operations whose order is open, neither writes what the other one reads or writes. (The log: the last operation first.) -/
def logOk (lg : List Lg) : Bool := logGo (lg.any (·.all)) lg

inductive Ex where
  | normal
  | exit (id : Nat)
  | ret
  deriving DecidableEq, Inhabited

def loopN (f : St → Option (Ex × St)) : Nat → St → Option (Ex × St)
  | 0, _ => none
  | n + 1, st =>
    match f st with
    | some (.normal, st) => loopN f n st
    | r => r

def execC (call : CallT) (icall : ICallT) (own : FuncId → Option Ty) (inl : FuncId → Bool) (pre : Id) (n : Nat) : ACode → St → Option (Ex × St)
  | .skip, st => some (.normal, st)
  | .region ops draw, st =>
    match runOps call icall own inl pre st.ck 0 ops st.s st.h (st.ck + 1) [] with
    | some (s, h, ck, lg) => if draw && !logOk lg then none else some (.normal, ⟨s, h, ck⟩)
    | none => none
  | .seq a b, st =>
    match execC call icall own inl pre n a st with
    | some (.normal, st) => execC call icall own inl pre n b st
    | r => r
  | .cond c x y, st =>
    match c.ev st.s with
    | .bool b => if b then execC call icall own inl pre n x st else execC call icall own inl pre n y st
    | _ => none
  | .block id c, st =>
    match execC call icall own inl pre n c st with
    | some (.exit j, st) => if j = id then some (.normal, st) else some (.exit j, st)
    | r => r
  | .loop c, st => loopN (execC call icall own inl pre n c) n st
  | .exit id, st => some (.exit id, st)
  | .ret, st => some (.ret, st)
  | .bad, _ => none

def ARes.get (s : List AV) (h : Heap) : ARes → Option AV
  | .tmp t => some (s.getD t .undef)
  | .cell t sz ag =>
    match s.getD t .undef with
    | .ptr i k off => match h.row i k with
      | some o => match sub o.cells off sz with | some cs => some (ofCells ag cs) | none => none
      | none => none
    | _ => none

def getAll (s : List AV) (h : Heap) : List ARes → Option (List AV)
  | [] => some []
  | r :: rs => match r.get s h, getAll s h rs with
    | some v, some vs => some (v :: vs)
    | _, _ => none

def start (f : AFunc) (args : List AV) (h : Heap) (ck : Nat) : St := ⟨args ++ List.replicate (f.nt - args.length) .undef, h, ck⟩

def tupOf : List AV → AV
  | [v] => v
  | vs => .tup vs

/-- A function's body, from a heap on, to its results. -/
def body1 (call : CallT) (icall : ICallT) (own : FuncId → Option Ty) (inl : FuncId → Bool) (n : Nat) (fn : AFunc) (args : List AV) (pre : Id) (h : Heap) (ck : Nat) : Option (List AV × Heap × Nat) :=
  if args.length ≠ fn.np then none else
  match execC call icall own inl pre n fn.body (start fn args h ck) with
  | some (.ret, st) | some (.normal, st) =>
    match getAll st.s st.h fn.res with
    | some vs => some (vs, st.h, st.ck)
    | none => none
  | _ => none

structure Env where
  tab : FuncId → Option AFunc
  ext : FuncId → List AV → Option AV
  inl : FuncId → Bool
  own : FuncId → Option Ty

/-- What a function that was handed trees hands back. -/
def handBack (h : Heap) (vs : List AV) : Option AV :=
  match mapT (toTree h deep) vs with
  | some (vs, _) => some (tupOf vs)
  | none => none

def lvl (E : Env) : Nat → CallT × ICallT
  | 0 => (fun _ _ => none, fun _ _ _ _ _ => none)
  | n + 1 =>
    (fun f args =>
      match E.ext f args with
      | some r => some r
      | none => match E.tab f with
        | none => none
        | some fn => match body1 (lvl E n).1 (lvl E n).2 E.own E.inl n fn args [] ⟨[], []⟩ 0 with
          | some (vs, h, _) => handBack h vs
          | none => none,
     fun f args pre h ck =>
      match E.tab f with
      | none => none
      | some fn => match body1 (lvl E n).1 (lvl E n).2 E.own E.inl n fn args pre h ck with
        | some (vs, h, ck) => some (tupOf vs, h, ck)
        | none => none)

def callF (E : Env) (n : Nat) : CallT := (lvl E n).1

end Go.Aw

/-
  Out of the loaded program's code: the abstract machine's code, all sizes resolved.
-/
namespace Go.Aw

def ofConst : Value → AV
  | .bool b => .bool b
  | .int k n => .int k n
  | .string s => .str s
  | .nilFunc => .nilfn
  | .slice none n c => if n = 0 ∧ c = 0 then .nil else .undef
  | .func (.func f) a b => if a.isEmpty ∧ b.isEmpty then .fn f [] else .undef
  | _ => .undef

def ofConst1 : Value → AV
  | .agg cs => .agg (cs.toList.map ofConst)
  | .tuple vs => .tup (vs.toList.map ofConst)
  | v => ofConst v

def cX : Operand → X
  | .tmp t => .t t
  | .const v => .c (ofConst1 v)
  | .func f => .c (.fn f [])
  | .global _ => .c .undef

def cXs (l : Array Operand) : List X := l.toList.map cX

def descAg : TypeDesc → Bool
  | .struct _ | .array _ _ => true
  | _ => false

def cTy (P : Program) (t : TypeId) : Option Ty :=
  match P.info? t, P.underlying t with
  | some i, some d =>
    match i.zero with
    | some z => if (descAg d || i.size == 1) && (ofConst1 z).cells.length == i.size && z.cells.size == i.size && (ofConst1 z).cells.all AV.flat then some { sz := i.size, ag := descAg d, by_ := i.bytes, zero := (ofConst1 z).cells } else none
    | none => none
  | _, _ => none

def plainKind (P : Program) (t : TypeId) : Option Nat :=
  match P.underlying t with
  | some (.int _) => some 0
  | some .bool => some 1
  | some .string => some 2
  | _ => none

/-- The cells by which two structs or arrays of plain fields are compared, and their kinds. -/
def eqFields (P : Program) (t : TypeId) : Option (List (Nat × Nat)) :=
  match P.underlying t with
  | some (.struct fs) => if P.eqGuardType P.depth t || P.stoodInHeld t then none else fs.toList.mapM fun f => if f.name ≠ "_" ∧ (cTy P f.type).any (fun u => !u.ag) then (plainKind P f.type).map fun k => (f.offset, k) else none
  | _ => none

def isNilC : Operand → Bool
  | .const (.slice none 0 0) => true
  | .const .nilFunc => true
  | _ => false

def cOp (P : Program) (o : Oper) : Option AOp :=
  match o.op with
  | .move x | .assign x => some (.mov (cX x))
  | .pick c a b => some (.pick (cX c) (cX a) (cX b))
  | .alloc e => do some (.alloc (← cTy P e))
  | .box _ x => some (.box (cX x))
  | .build t ps => do
    let z ← cTy P t
    match P.underlying t with
    | some (.struct fs) =>
      let pl ← fs.toList.mapM fun f => (cTy P f.type).map fun u => (f.offset, u.sz)
      let l ← ps.toList.mapM fun p => (pl[p.1]?).map fun q => (q.1, q.2, cX p.2)
      some (.build z.zero l)
    | some (.array _ e) =>
      let u ← cTy P e
      some (.build z.zero (ps.toList.map fun p => (p.1 * u.sz, u.sz, cX p.2)))
    | _ => none
  | .buildSlice t n ps =>
    match P.underlying t with
    | some (.slice e) => do some (.bslice (← cTy P e) n (ps.toList.map fun p => (p.1, cX p.2)))
    | _ => none
  | .load t a => do let u ← cTy P t; some (.load u.sz u.ag (cX a))
  | .store t a v => do let u ← cTy P t; some (.store u.sz (cX a) (cX v))
  | .nilCheck x => some (.nilck (cX x))
  | .binOp op t x y _ =>
    match P.underlying t with
    | some (.int _) | some .string => some (.bin op (cX x) (cX y))
    | some .bool => match op with | .eql => some (.binb false (cX x) (cX y)) | .neq => some (.binb true (cX x) (cX y)) | _ => none
    | some (.struct _) =>
      match op with
      | .eql => do some (.eqs false (← eqFields P t) (cX x) (cX y))
      | .neq => do some (.eqs true (← eqFields P t) (cX x) (cX y))
      | _ => none
    | _ => none
  | .unOp op _ x => some (.un op (cX x))
  | .convert s d x =>
    match P.underlying s, P.underlying d with
    | some (.int _), some (.int k) => some (.conv k (cX x))
    | _, _ => none
  | .makeFunc (.func f) first cap => if first.isEmpty then some (.mkfn f (cXs cap)) else none
  | .makeSlice t l c =>
    match P.underlying t with
    | some (.slice e) => do some (.mkslice (← cTy P e) (cX l) (cX c))
    | _ => none
  | .slice t x lo hi none =>
    match P.underlying t with
    | some (.slice e) => do some (.slice (← cTy P e) (cX x) (lo.map cX) (hi.map cX))
    | some .string => some (.sslice (cX x) (lo.map cX) (hi.map cX))
    | some (.array n e) => match lo, hi with | none, none => do some (.aslice (← cTy P e) n (cX x)) | _, _ => none
    | _ => none
  | .fieldAddr t x f =>
    match P.underlying t with
    | some (.struct fs) => do let g ← fs[f]?; let u ← cTy P g.type; if u.sz = 0 then none else some (.faddr g.offset (cX x))
    | _ => none
  | .field t x f =>
    match P.underlying t with
    | some (.struct fs) => do let g ← fs[f]?; let u ← cTy P g.type; some (.field g.offset u.sz u.ag (cX x))
    | _ => none
  | .indexAddr t x i =>
    match P.underlying t with
    | some (.slice e) => do let u ← cTy P e; if u.sz = 0 then none else some (.iaddr u.sz none (cX x) (cX i))
    | some (.array n e) => do let u ← cTy P e; if u.sz = 0 then none else some (.iaddr u.sz (some n) (cX x) (cX i))
    | _ => none
  | .index t x i =>
    match P.underlying t with
    | some (.array n e) => do let u ← cTy P e; some (.index u.sz u.ag n (cX x) (cX i))
    | some .string => some (.sindex (cX x) (cX i))
    | _ => none
  | .extract x i => some (.extract (cX x) i)
  | .lookup t m k ok =>
    match P.underlying t with
    | some (.map q e) => do let d ← plainKind P q; let i ← P.info? e; let z ← i.zero; some (.lookup d (ofConst1 z) ok (cX m) (cX k))
    | _ => none
  | .call c =>
    match c.callee, c.args.toList with
    | .builtin .len, [x] =>
      match c.argTypes.toList with
      | [t] =>
        match P.underlying t with
        | some (.array n _) => some (.mov (.c (.int .i64 n)))
        | some (.slice _) => some (.len (cX x))
        | some .string => some (.slen (cX x))
        | _ => none
      | _ => none
    | .builtin .min, x :: r => some (.min (cX x) (r.map cX))
    | .builtin .max, x :: r => some (.max (cX x) (r.map cX))
    | .builtin .append, [x, y] =>
      match c.argTypes.toList with
      | [t, u] =>
        match P.underlying t, P.underlying u with
        | some (.slice e), some (.slice _) => if t = u then do some (.append (← cTy P e) (cX x) (cX y)) else none
        | some (.slice e), some (.int _) => do some (.appendz (← cTy P e) (cX x) (cX y))
        | _, _ => none
      | _ => none
    | .builtin .copy, [x, y] =>
      match c.argTypes.toList with
      | [t, u] =>
        match P.underlying t, P.underlying u with
        | some (.slice e), some (.slice _) => do some (.copy (← cTy P e) (cX x) (cX y))
        | _, _ => none
      | _ => none
    | .builtin .cap, [x] =>
      match c.argTypes.toList with
      | [t] => match P.underlying t with | some (.slice _) => some (.cap (cX x)) | _ => none
      | _ => none
    | .builtin _, _ => none
    | .value (.func f), _ => some (.call f (cXs c.args))
    | .value x, _ => some (.callv (cX x) (cXs c.args))
    | _, _ => none
  | _ => none

/-- The operations that stand ahead of each other one, as bits. -/
def befores (ops : Array Oper) : List Nat := (Region.before ops).toList

/-- What a region that draws its order has to keep: each pair whose order is open shares no temporary; what is said to stand ahead does. -/
def pairsOk (y : AOper) : Nat → List AOper → Bool
  | _, [] => true
  | i, x :: r => (y.bf.testBit i || x.apart y) && pairsOk y (i + 1) r

def befOk (ops : Array Oper) (bs : List Nat) (o : Oper) (i b : Nat) : Bool :=
  (o.after.all fun e => !Region.binds .any e || e.on < i) &&
    (List.range i).all fun j => !b.testBit j || o.after.any fun e => Region.binds .any e && (e.on == j || (j < e.on && (bs.getD e.on 0).testBit j))

def drawOk (ops : Array Oper) (l : List AOper) : Bool :=
  (List.range l.length).all fun i =>
    match ops[i]?, l[i]? with
    | some o, some y => pairsOk y 0 (l.take i) && befOk ops (l.map (·.bf)) o i y.bf
    | _, _ => false

def cRegion (P : Program) (ops : Array Oper) : Option (List AOper) :=
  (ops.toList.zip (befores ops)).mapM fun (o, b) => do
    let a := (cOp P o).getD .bad
    let g ← match o.guard with
      | none => some none
      | some (j, w) => do let q ← ops[j]?; let d ← q.dst; some (some (d, w))
    some { dst := o.dst, op := a, g, bf := b }

@[noinline] def cCode (P : Program) : Code → Option ACode
  | .skip => some .skip
  | .region _ ops draw => do let l ← cRegion P ops; if draw && !drawOk ops l then some .bad else some (.region l draw)
  | .seq a b => do some (.seq (← cCode P a) (← cCode P b))
  | .cond c x y => do some (.cond (cX c) (← cCode P x) (← cCode P y))
  | .block id c => do some (.block id (← cCode P c))
  | .loop c => do some (.loop (← cCode P c))
  | .exit id => some (.exit id)
  | .label _ => some .skip
  | .ret => some .ret
  | _ => some .bad

def cRes (P : Program) : ResultVar → Option ARes
  | .tmp t => some (.tmp t)
  | .cell a t => do let u ← cTy P t; some (.cell a u.sz u.ag)

@[noinline] def cFunc (P : Program) (f : Func) : Option AFunc := do
  let b ← f.body
  if f.name == "runtime.NumGoroutine" then none else
  some { np := f.params.size + f.nfree, nt := f.ntmps, res := ← f.results.toList.mapM (cRes P), body := ← cCode P b }

@[noinline] def tabOf (P : Program) (k : FuncId) : Option AFunc := do cFunc P (← P.funcs[k]?)

end Go.Aw

/-
  What the abstract machine's values stand for.
-/
namespace Go.Aw

/-- What is known of memory: which cells never turn again; where a name's block lies, its elements' size, its cells; how many cells it had when the name was given. -/
structure Kx where
  prot : Nat → Nat → Prop
  pm : Nat → Prop
  bl : Tok → Option Nat
  es : Tok → Nat × Nat
  rn : Tok → Nat

structure Kx.le (K K' : Kx) : Prop where
  prot : ∀ b o, K.prot b o → K'.prot b o
  pm : ∀ b, K.pm b → K'.pm b
  bl : ∀ t b, K.bl t = some b → K'.bl t = some b
  es : ∀ t b, K.bl t = some b → K'.es t = K.es t
  rn : ∀ t b, K.bl t = some b → K'.rn t = K.rn t

theorem Kx.le.refl (K : Kx) : K.le K := ⟨fun _ _ h => h, fun _ h => h, fun _ _ h => h, fun _ _ _ => rfl, fun _ _ _ => rfl⟩
theorem Kx.le.trans {a b c : Kx} (h : a.le b) (k : b.le c) : a.le c :=
  ⟨fun _ _ x => k.prot _ _ (h.prot _ _ x), fun _ x => k.pm _ (h.pm _ x), fun _ _ x => k.bl _ _ (h.bl _ _ x), fun _ _ x => (k.es _ _ (h.bl _ _ x)).trans (h.es _ _ x), fun _ _ x => (k.rn _ _ (h.bl _ _ x)).trans (h.rn _ _ x)⟩

/-- The cells and maps that never turn have not turned. -/
structure Kept (K : Kx) (w w' : World) : Prop where
  cell : ∀ b o v, K.prot b o → w.cell? ⟨b, o, none⟩ = some v → w'.cell? ⟨b, o, none⟩ = some v
  map : ∀ b es c, K.pm b → w.heap[b]? = some (.map es c) → w'.heap[b]? = some (.map es c)

theorem Kept.refl (K : Kx) (w : World) : Kept K w w := ⟨fun _ _ _ _ h => h, fun _ _ _ _ h => h⟩
theorem Kept.trans {K K' : Kx} {a b c : World} (h : Kept K a b) (hk : K.le K') (k : Kept K' b c) : Kept K a c :=
  ⟨fun x o v hp hc => k.cell x o v (hk.prot _ _ hp) (h.cell x o v hp hc), fun x es t hp hc => k.map x es t (hk.pm _ hp) (h.map x es t hp hc)⟩

/-- The same, no names told. -/
def Kx.bare (K : Kx) : Kx := { K with bl := fun _ => none }
theorem Kx.bare_le (K : Kx) : K.bare.le K := ⟨fun _ _ h => h, fun _ h => h, fun _ _ h => by simp [Kx.bare] at h, fun _ _ h => by simp [Kx.bare] at h, fun _ _ h => by simp [Kx.bare] at h⟩
theorem Kx.le.bare {K K' : Kx} (h : K.le K') : K.bare.le K'.bare := ⟨h.prot, h.pm, fun _ _ h => by simp [Kx.bare] at h, fun _ _ h => by simp [Kx.bare] at h, fun _ _ h => by simp [Kx.bare] at h⟩
@[simp] theorem Kx.bare_bare (K : Kx) : K.bare.bare = K.bare := rfl
theorem Kept.bare {K : Kx} {w w' : World} (h : Kept K w w') : Kept K.bare w w' := ⟨h.cell, h.map⟩

inductive Rep : Kx → World → AV → Value → Prop
  | undef {K : Kx} {w : World} (v : Value) : Rep K w .undef v
  | bool {K : Kx} {w : World} (b : Bool) : Rep K w (.bool b) (.bool b)
  | int {K : Kx} {w : World} (k : IntKind) (n : Int) : Rep K w (.int k n) (.int k n)
  | str {K : Kx} {w : World} (s : ByteArray) : Rep K w (.str s) (.string s)
  | nilfn {K : Kx} {w : World} : Rep K w .nilfn .nilFunc
  | nil {K : Kx} {w : World} : Rep K w .nil (.slice none 0 0)
  | fn {K : Kx} {w : World} (f : FuncId) (cap : List AV) (cs : Array Value) (hl : cs.size = cap.length) (h : ∀ j a, cap[j]? = some a → Rep K w a (cs.getD j undef)) : Rep K w (.fn f cap) (.func (.func f) #[] cs)
  | agg {K : Kx} {w : World} (as : List AV) (cs : Array Value) (hf : ∀ x ∈ as, x.flat = true) (hl : cs.size = as.length) (h : ∀ j a, as[j]? = some a → Rep K w a (cs.getD j undef)) : Rep K w (.agg as) (.agg cs)
  | tup {K : Kx} {w : World} (as : List AV) (cs : Array Value) (hl : cs.size = as.length) (h : ∀ j a, as[j]? = some a → Rep K w a (cs.getD j undef)) : Rep K w (.tup as) (.tuple cs)
  | list {K : Kx} {w : World} (es : List AV) (a : Option Addr) (cap s b o : Nat) (val : Nat → Value) (hc : es.length ≤ cap) (hm : cap ≤ maxLen)
      (hf : ∀ x ∈ es.flatMap AV.cells, x.flat = true) (hs : ∀ e ∈ es, e.cells.length = s) (ha : es ≠ [] → a = some ⟨b, o, none⟩)
      (hv : ∀ j c, (es.flatMap AV.cells)[j]? = some c → K.prot b (o + j) ∧ w.cell? ⟨b, o + j, none⟩ = some (val j))
      (hr : ∀ j c, (es.flatMap AV.cells)[j]? = some c → Rep K.bare w c (val j)) : Rep K w (.list es) (.slice a es.length cap)
  | rl {K : Kx} {w : World} (es : List AV) (t : Tok) (cap s b : Nat) (val : Nat → Value) (hc : es.length ≤ cap) (hm : cap ≤ maxLen)
      (hf : ∀ x ∈ es.flatMap AV.cells, x.flat = true) (hs : ∀ e ∈ es, e.cells.length = s) (ht : K.bl t = some b) (he : (K.es t).1 = s) (hz : cap * s ≤ (K.es t).2) (hn : K.rn t = (es.flatMap AV.cells).length)
      (hv : ∀ j c, (es.flatMap AV.cells)[j]? = some c → K.prot b j ∧ w.cell? ⟨b, j, none⟩ = some (val j))
      (hr : ∀ j c, (es.flatMap AV.cells)[j]? = some c → Rep K.bare w c (val j)) : Rep K w (.rl es t) (.slice (some ⟨b, 0, none⟩) es.length cap)
  | sl {K : Kx} {w : World} (id : Id) (t : Tok) (off len cap b : Nat) (ht : K.bl t = some b) (hc : len ≤ cap) (hm : cap ≤ maxLen) (hz : off + cap * (K.es t).1 ≤ (K.es t).2) :
      Rep K w (.sl id t off len) (.slice (some ⟨b, off, none⟩) len cap)
  | ptr {K : Kx} {w : World} (id : Id) (t : Tok) (off b : Nat) (ht : K.bl t = some b) : Rep K w (.ptr id t off) (.pointer (some ⟨b, off, none⟩))
  | fptr {K : Kx} {w : World} (cs : List AV) (b o : Nat) (val : Nat → Value) (hf : ∀ x ∈ cs, x.flat = true)
      (hv : ∀ j c, cs[j]? = some c → K.prot b (o + j) ∧ w.cell? ⟨b, o + j, none⟩ = some (val j))
      (hr : ∀ j c, cs[j]? = some c → Rep K.bare w c (val j)) : Rep K w (.fptr cs) (.pointer (some ⟨b, o, none⟩))
  | map {K : Kx} {w : World} (es : List (AV × AV)) (b c : Nat) (ents : Array MapEntry) (hp : K.pm b) (hb : w.heap[b]? = some (.map ents c)) (hl : ents.size = es.length)
      (hk : ∀ j e, es[j]? = some e → Rep K.bare w e.1 (ents.getD j default).key) (hv : ∀ j e, es[j]? = some e → Rep K.bare w e.2 (ents.getD j default).val) : Rep K w (.map es) (.map (some b))

theorem Rep.mono {K K' : Kx} {w w' : World} (hK : K.le K') (hw : Kept K w w') {a : AV} {v : Value} (h : Rep K w a v) : Rep K' w' a v := by
  induction h generalizing K' w' with
  | undef v => exact .undef v
  | bool b => exact .bool b
  | int k n => exact .int k n
  | str s => exact .str s
  | nilfn => exact .nilfn
  | nil => exact .nil
  | fn f cap cs hl _ ih => exact .fn f cap cs hl (fun j a h => ih j a h hK hw)
  | agg as cs hf hl _ ih => exact .agg as cs hf hl (fun j a h => ih j a h hK hw)
  | tup as cs hl _ ih => exact .tup as cs hl (fun j a h => ih j a h hK hw)
  | list es a cap s b o val hc hm hf hs ha hv _ ih => exact .list es a cap s b o val hc hm hf hs ha (fun j c h => ⟨hK.prot _ _ (hv j c h).1, hw.cell _ _ _ (hv j c h).1 (hv j c h).2⟩) (fun j c h => ih j c h hK.bare hw.bare)
  | rl es t cap s b val hc hm hf hs ht he hz hn hv _ ih =>
    exact .rl es t cap s b val hc hm hf hs (hK.bl _ _ ht) ((congrArg Prod.fst (hK.es _ _ ht)).trans he) (by rw [hK.es _ _ ht]; exact hz) ((hK.rn _ _ ht).trans hn)
      (fun j c h => ⟨hK.prot _ _ (hv j c h).1, hw.cell _ _ _ (hv j c h).1 (hv j c h).2⟩) (fun j c h => ih j c h hK.bare hw.bare)
  | sl id t off len cap b ht hc hm hz => exact .sl id t off len cap b (hK.bl _ _ ht) hc hm (by rw [hK.es _ _ ht]; exact hz)
  | ptr id t off b ht => exact .ptr id t off b (hK.bl _ _ ht)
  | map es b c ents hp hb hl _ _ ihk ihv => exact .map es b c ents (hK.pm _ hp) (hw.map _ _ _ hp hb) hl (fun j e h => ihk j e h hK.bare hw.bare) (fun j e h => ihv j e h hK.bare hw.bare)
  | fptr cs b o val hf hv _ ih => exact .fptr cs b o val hf (fun j c h => ⟨hK.prot _ _ (hv j c h).1, hw.cell _ _ _ (hv j c h).1 (hv j c h).2⟩) (fun j c h => ih j c h hK.bare hw.bare)

theorem Rep.unbare {K : Kx} {w : World} {a : AV} {v : Value} (h : Rep K.bare w a v) : Rep K w a v := h.mono K.bare_le ⟨fun _ _ _ _ h => h, fun _ _ _ _ h => h⟩

def AV.frozen : AV → Bool
  | .undef | .bool _ | .int _ _ | .str _ | .nilfn | .list _ | .map _ | .fptr _ => true
  | _ => false

/-- Frozen values have no names. -/
theorem Rep.tobare {K : Kx} {w : World} {a : AV} {v : Value} (h : Rep K w a v) (hq : a.frozen = true) : Rep K.bare w a v := by
  cases h with
  | undef v => exact .undef _
  | bool b => exact .bool _
  | int k n => exact .int _ _
  | str s => exact .str _
  | nilfn => exact .nilfn
  | list es a cap s b o val hc hm hf hs ha hv hr => exact .list es a cap s b o val hc hm hf hs ha hv hr
  | fptr cs b o val hf hv hr => exact .fptr cs b o val hf hv hr
  | map es b c ents hp hb hl hk hv => exact .map es b c ents hp hb hl hk hv
  | _ => cases hq

/-- Values one behind the other. -/
def Reps (K : Kx) (w : World) (as : List AV) (vs : List Value) : Prop := as.length = vs.length ∧ ∀ j a, as[j]? = some a → Rep K w a (vs.getD j undef)

theorem Reps.mono {K K' : Kx} {w w' : World} (hK : K.le K') (hw : Kept K w w') {as : List AV} {vs : List Value} (h : Reps K w as vs) : Reps K' w' as vs := ⟨h.1, fun j a ha => (h.2 j a ha).mono hK hw⟩

theorem Reps.nil (K : Kx) (w : World) : Reps K w [] [] := ⟨rfl, fun j a h => by simp at h⟩
theorem Reps.cons {K : Kx} {w : World} {a : AV} {v : Value} {as : List AV} {vs : List Value} (h : Rep K w a v) (r : Reps K w as vs) : Reps K w (a :: as) (v :: vs) :=
  ⟨by simp [r.1], fun j b hb => by cases j with | zero => simp at hb; subst hb; simpa using h | succ j => simp at hb; simpa using r.2 j b hb⟩
theorem Reps.head {K : Kx} {w : World} {a : AV} {v : Value} {as : List AV} {vs : List Value} (h : Reps K w (a :: as) (v :: vs)) : Rep K w a v := by simpa using h.2 0 a rfl
theorem Reps.tail {K : Kx} {w : World} {a : AV} {v : Value} {as : List AV} {vs : List Value} (h : Reps K w (a :: as) (v :: vs)) : Reps K w as vs :=
  ⟨by simpa using h.1, fun j b hb => by simpa using h.2 (j + 1) b (by simpa using hb)⟩

/-- A frame's slots. -/
def Slots (K : Kx) (w : World) (s : List AV) (tmps : Array Value) : Prop := s.length = tmps.size ∧ ∀ j a, s[j]? = some a → Rep K w a (tmps.getD j undef)

theorem Slots.mono {K K' : Kx} {w w' : World} (hK : K.le K') (hw : Kept K w w') {s : List AV} {t : Array Value} (h : Slots K w s t) : Slots K' w' s t := ⟨h.1, fun j a ha => (h.2 j a ha).mono hK hw⟩

theorem Slots.get {K : Kx} {w : World} {s : List AV} {t : Array Value} (h : Slots K w s t) (j : Nat) : Rep K w (s.getD j .undef) (t.getD j undef) := by
  rw [List.getD_eq_getElem?_getD]
  cases e : s[j]? with
  | none => exact .undef _
  | some a => exact h.2 j a e

theorem Slots.set {K : Kx} {w : World} {s : List AV} {t : Array Value} (h : Slots K w s t) {a : AV} {v : Value} (r : Rep K w a v) (d : Nat) : Slots K w (s.set d a) (t.setIfInBounds d v) := by
  refine ⟨by simp [h.1], fun j b hb => ?_⟩
  rw [List.getElem?_set] at hb
  by_cases e : d = j
  · subst e
    simp at hb
    obtain ⟨hlt, rfl⟩ := hb
    have : d < t.size := by rw [← h.1]; exact hlt
    simp [this]; exact r
  · simp [e] at hb
    have := h.2 j b hb
    rw [Array.getD_eq_getD_getElem?] at this ⊢
    rw [Array.getElem?_setIfInBounds_ne e]
    exact this

/-! ### the heap -/
theorem get_go_upd (id id' : Id) (o : Obj) (l : List (Id × Obj)) : Heap.get.go id' (updObjs id o l) = if id = id' then some o else Heap.get.go id' l := by
  induction l with
  | nil => simp [updObjs, Heap.get.go]
  | cons x r ih =>
    obtain ⟨i, p⟩ := x
    by_cases e : i = id
    · subst e
      simp only [updObjs, if_true, Heap.get.go]
      split <;> rfl
    · simp only [updObjs, if_neg e, Heap.get.go, ih]
      by_cases e2 : i = id'
      · subst e2
        simp [Ne.symm e]
      · simp [e2]

theorem Heap.get_upd (h : Heap) (id id' : Id) (o : Obj) : (h.upd id o).get id' = if id = id' then some o else h.get id' := get_go_upd id id' o h.objs

theorem Heap.rts_upd (h : Heap) (id : Id) (o : Obj) : (h.upd id o).rts = h.rts := rfl
theorem Heap.rts_ups (h : Heap) (l : List (Id × Obj)) : (h.ups l).rts = h.rts := by
  induction l generalizing h with
  | nil => rfl
  | cons x r ih => obtain ⟨i, o⟩ := x; simp [Heap.ups, ih, Heap.rts_upd]

end Go.Aw

/-
  What holds of the memory that a call makes itself.
-/
namespace Go.Aw
open Go.RowKit

/-- From where on blocks are one's own; what is guarded below. -/
structure Base where
  n : Nat
  prot : Nat → Nat → Prop
  pm : Nat → Prop

instance : CoeHead Base Nat := ⟨Base.n⟩

def ObjOk (n0 : Base) (K : Kx) (w : World) (o : Obj) : Prop :=
  ∃ b cs E, K.bl o.t = some b ∧ n0 ≤ b ∧ w.heap[b]? = some (.cells cs E (0, 0)) ∧ (K.es o.t).2 = cs.size ∧ (o.esz ≠ 0 → (K.es o.t).1 = o.esz ∧ (o.ag = false → o.esz = 1)) ∧ (o.cells.length ≤ cs.size ∧ K.rn o.t = o.cells.length ∧ ∀ x ∈ o.cells, x.flat = true) ∧
    (∀ j c, o.cells[j]? = some c → Rep K w c (cs.getD j undef)) ∧ (o.md = .W → ∀ i, ¬ K.prot b i) ∧ (o.md = .F → ∀ i, K.prot b i → i < o.cells.length) ∧
    (o.md ≠ .W → ∀ i, i < o.cells.length → K.prot b i)

def RtOk (n0 : Base) (K : Kx) (w : World) (r : Tok) : Prop :=
  ∃ b cs E, K.bl r = some b ∧ n0 ≤ b ∧ w.heap[b]? = some (.cells cs E (0, 0)) ∧ (K.es r).2 = cs.size ∧ ∀ i, K.prot b i → i < K.rn r

structure Inv (n0 : Base) (K : Kx) (h : Heap) (w : World) : Prop where
  size : n0 ≤ w.heap.size
  pb : ∀ b o, K.prot b o → b < w.heap.size
  mb : ∀ b, K.pm b → b < w.heap.size
  tb : ∀ t b, K.bl t = some b → b < w.heap.size
  objs : ∀ id o, h.get id = some o → ObjOk n0 K w o
  rts : ∀ r, r ∈ h.rts → RtOk n0 K w r
  u1 : ∀ i j o p b, h.get i = some o → h.get j = some p → o.md ≠ .R → p.md ≠ .R → K.bl o.t = some b → K.bl p.t = some b → i = j
  u2 : ∀ i o b r, h.get i = some o → o.md ≠ .R → r ∈ h.rts → K.bl o.t = some b → K.bl r = some b → False
  u3 : ∀ r q b, r ∈ h.rts → q ∈ h.rts → K.bl r = some b → K.bl q = some b → r = q
  pz : ∀ b i, K.prot b i → n0 ≤ b ∨ n0.prot b i
  mz : ∀ b, K.pm b → n0 ≤ b ∨ n0.pm b

/-- One name more. -/
def Kx.put (K : Kx) (t : Tok) (b : Nat) (e : Nat × Nat) (n : Nat) : Kx :=
  { K with bl := fun u => if u = t then some b else K.bl u, es := fun u => if u = t then e else K.es u, rn := fun u => if u = t then n else K.rn u }

theorem Kx.le_put {K : Kx} {t : Tok} (h : K.bl t = none) (b : Nat) (e : Nat × Nat) (n : Nat) : K.le (K.put t b e n) where
  prot := fun _ _ h => h
  pm := fun _ h => h
  bl := fun u c hu => by
    have : u ≠ t := fun e => by rw [e, h] at hu; cases hu
    simp [Kx.put, this, hu]
  es := fun u c hu => by
    have : u ≠ t := fun e => by rw [e, h] at hu; cases hu
    simp [Kx.put, this]
  rn := fun u c hu => by
    have : u ≠ t := fun e => by rw [e, h] at hu; cases hu
    simp [Kx.put, this]

@[simp] theorem Kx.put_bl (K : Kx) (t : Tok) (b : Nat) (e : Nat × Nat) (n : Nat) : (K.put t b e n).bl t = some b := by simp [Kx.put]
@[simp] theorem Kx.put_es (K : Kx) (t : Tok) (b : Nat) (e : Nat × Nat) (n : Nat) : (K.put t b e n).es t = e := by simp [Kx.put]
@[simp] theorem Kx.put_rn (K : Kx) (t : Tok) (b : Nat) (e : Nat × Nat) (n : Nat) : (K.put t b e n).rn t = n := by simp [Kx.put]
theorem Kx.put_other (K : Kx) {t u : Tok} (hu : u ≠ t) (b : Nat) (e : Nat × Nat) (n : Nat) : (K.put t b e n).bl u = K.bl u := by simp [Kx.put, hu]
theorem Kx.put_bl_inv {K : Kx} {t u : Tok} {b c : Nat} {e : Nat × Nat} {n : Nat} (h : (K.put t b e n).bl u = some c) : (u = t ∧ c = b) ∨ K.bl u = some c := by
  by_cases x : u = t
  · subst x; simp at h; exact .inl ⟨rfl, h.symm⟩
  · rw [Kx.put_other K x] at h; exact .inr h

/-! ### worlds -/
theorem kept_alloc {K : Kx} {w : World} (hp : ∀ b o, K.prot b o → b < w.heap.size) (hm : ∀ b, K.pm b → b < w.heap.size) (o : Go.Obj) : Kept K w (w.alloc o) where
  cell := fun b i v h hc => by exact (World.cell?_alloc_lt w o ⟨b, i, none⟩ (hp b i h)).trans hc
  map := fun b es c h hc => by rw [heap_alloc_old _ _ _ (hm b h)]; exact hc

/-- A block of cells turns at places that may turn. -/
def setBlock (w : World) (b : Nat) (cs : Array Value) (E : TypeId) : World := { w with heap := w.heap.setIfInBounds b (.cells cs E (0, 0)) }

theorem setBlock_same {w : World} {b : Nat} {cs cs' : Array Value} {E : TypeId} (h : w.heap[b]? = some (.cells cs E (0, 0))) : (setBlock w b cs' E).heap[b]? = some (.cells cs' E (0, 0)) := by
  have hb := (Array.getElem?_eq_some_iff.1 h).1
  simp [setBlock, hb]
theorem setBlock_other {w : World} {b c : Nat} {cs' : Array Value} {E : TypeId} (h : c ≠ b) : (setBlock w b cs' E).heap[c]? = w.heap[c]? := by
  simp only [setBlock]
  rw [Array.getElem?_setIfInBounds_ne (Ne.symm h)]
@[simp] theorem setBlock_size {w : World} {b : Nat} {cs' : Array Value} {E : TypeId} : (setBlock w b cs' E).heap.size = w.heap.size := by simp [setBlock]

theorem cell_at {w : World} {b o : Nat} {cs : Array Value} {E : TypeId} {fr : Nat × Nat} (h : w.heap[b]? = some (.cells cs E fr)) : w.cell? ⟨b, o, none⟩ = cs[o]? := cell_of_row w b o cs E fr h

theorem kept_setBlock {K : Kx} {w : World} {b : Nat} {cs cs' : Array Value} {E : TypeId} (h : w.heap[b]? = some (.cells cs E (0, 0))) (hp : ∀ i v, K.prot b i → cs[i]? = some v → cs'[i]? = some v) :
    Kept K w (setBlock w b cs' E) where
  cell := fun c i v hc hv => by
    by_cases e : c = b
    · subst e
      rw [cell_at (setBlock_same h)]
      rw [cell_at h] at hv
      exact hp i v hc hv
    · have : (setBlock w b cs' E).heap[c]? = w.heap[c]? := setBlock_other e
      unfold World.cell? at hv ⊢
      simp only [this]
      exact hv
  map := fun c es t _ hv => by
    by_cases e : c = b
    · subst e; rw [h] at hv; cases hv
    · rw [setBlock_other e]; exact hv

theorem below_setBlock {B : Nat} {a w : World} (h : Below B a w) {b : Nat} (hb : B ≤ b) (cs' : Array Value) (E : TypeId) : Below B a (setBlock w b cs' E) :=
  ⟨h.os, h.tape, h.output, by simpa using h.size, fun i hi => by
    rw [setBlock_other (show i ≠ b by omega)]
    exact h.block i hi⟩

/-! ### objects over changes -/
theorem ObjOk.mono {n0 : Base} {K K' : Kx} {w w' : World} {o : Obj} (hK : K.le K') (hw : Kept K w w')
    (hb : ∀ b cs E, K.bl o.t = some b → w.heap[b]? = some (.cells cs E (0, 0)) → ∃ cs', w'.heap[b]? = some (.cells cs' E (0, 0)) ∧ cs'.size = cs.size ∧ ∀ j, j < o.cells.length → cs'.getD j undef = cs.getD j undef)
    (hp : ∀ b i, K.bl o.t = some b → o.md ≠ .R → (K'.prot b i → K.prot b i)) (h : ObjOk n0 K w o) : ObjOk n0 K' w' o := by
  obtain ⟨b, cs, E, h1, h2, h3, h4, h5, h6, h7, h8, h9, h10⟩ := h
  obtain ⟨cs', g1, g2, g3⟩ := hb b cs E h1 h3
  have hes := hK.es _ _ h1
  refine ⟨b, cs', E, hK.bl _ _ h1, h2, g1, by rw [hes, g2]; exact h4, fun he => by rw [hes]; exact h5 he, ⟨by omega, by rw [hK.rn _ _ h1]; exact h6.2.1, h6.2.2⟩, fun j c hj => ?_, fun hW i hi => ?_, fun hF i hi => ?_, fun hn i hi => hK.prot _ _ (h10 hn i hi)⟩
  · have hlt : j < o.cells.length := (List.getElem?_eq_some_iff.1 hj).1
    rw [g3 j hlt]
    exact (h7 j c hj).mono hK hw
  · exact h8 hW i (hp b i h1 (by rw [hW]; decide) hi)
  · exact h9 hF i (hp b i h1 (by rw [hF]; decide) hi)

theorem RtOk.mono {n0 : Base} {K K' : Kx} {w w' : World} {r : Tok} (hK : K.le K')
    (hb : ∀ b cs E, K.bl r = some b → w.heap[b]? = some (.cells cs E (0, 0)) → ∃ cs', w'.heap[b]? = some (.cells cs' E (0, 0)) ∧ cs'.size = cs.size)
    (hp : ∀ b i, K.bl r = some b → (K'.prot b i → K.prot b i)) (h : RtOk n0 K w r) : RtOk n0 K' w' r := by
  obtain ⟨b, cs, E, h1, h2, h3, h4, h5⟩ := h
  obtain ⟨cs', g1, g2⟩ := hb b cs E h1 h3
  exact ⟨b, cs', E, hK.bl _ _ h1, h2, g1, by rw [hK.es _ _ h1, g2]; exact h4, fun i hi => by rw [hK.rn _ _ h1]; exact h5 i (hp b i h1 hi)⟩

/-- A new row or variable. -/
theorem Inv.alloc {n0 : Base} {K : Kx} {h : Heap} {w : World} (hI : Inv n0 K h w) (id : Id) (tk : Tok) (cs : Array Value) (E : TypeId) (cells : List AV) (esz : Nat) (ag : Bool) (e1 : Nat)
    (hf : K.bl tk = none) (hsz : cells.length ≤ cs.size) (hfl : ∀ x ∈ cells, x.flat = true) (hrep : ∀ j c, cells[j]? = some c → Rep K w c (cs.getD j undef)) (he : esz ≠ 0 → e1 = esz ∧ (ag = false → esz = 1)) :
    K.le (K.put tk w.heap.size (e1, cs.size) cells.length) ∧ Kept K w (w.alloc (.cells cs E)) ∧ Inv n0 (K.put tk w.heap.size (e1, cs.size) cells.length) (h.upd id ⟨cells, esz, ag, tk, .W⟩) (w.alloc (.cells cs E)) := by
  have hK := Kx.le_put hf w.heap.size (e1, cs.size) cells.length
  have hw := kept_alloc (K := K) hI.pb hI.mb (.cells cs E)
  have hold : ∀ (b : Nat) (cs : Array Value) (E' : TypeId), w.heap[b]? = some (Go.Obj.cells cs E' (0, 0)) → ∀ x, (w.alloc x).heap[b]? = some (Go.Obj.cells cs E' (0, 0)) := fun b cs' E' hb x => by
    rw [heap_alloc_old _ _ _ (Array.getElem?_eq_some_iff.1 hb).1]; exact hb
  have hnew : ObjOk n0 (K.put tk w.heap.size (e1, cs.size) cells.length) (w.alloc (.cells cs E)) ⟨cells, esz, ag, tk, .W⟩ :=
    ⟨w.heap.size, cs, E, by simp, hI.size, heap_alloc_new _ _, by simp, by simpa using he, ⟨hsz, by simp, hfl⟩, fun j c hj => (hrep j c hj).mono hK hw, fun _ i hi => absurd (hI.pb _ _ hi) (by omega), fun h => by simp at h, fun h => by simp at h⟩
  refine ⟨hK, hw, ⟨by simp; exact Nat.le_succ_of_le hI.size, fun b o hp => by simp; exact Nat.lt_succ_of_lt (hI.pb b o hp), fun b hp => by simp; exact Nat.lt_succ_of_lt (hI.mb b hp), fun t b hb => ?_, fun i o hg => ?_, fun r hr => ?_, fun i j o p b hi hj ho hp hbo hbp => ?_, fun i o b r hi ho hr hbo hbr => ?_, fun r q b hr hq hbr hbq => ?_, fun b i h => hI.pz b i h, fun b h => hI.mz b h⟩⟩
  · rcases Kx.put_bl_inv hb with ⟨_, rfl⟩ | hb
    · simp
    · simp; exact Nat.lt_succ_of_lt (hI.tb t b hb)
  · rw [Heap.get_upd] at hg
    split at hg
    · cases hg; exact hnew
    · exact (hI.objs i o hg).mono hK hw (fun b cs' E' _ hb => ⟨cs', hold _ _ _ hb _, rfl, fun _ _ => rfl⟩) (fun _ _ _ _ h => h)
  · exact (hI.rts r hr).mono hK (fun b cs' E' _ hb => ⟨cs', hold _ _ _ hb _, rfl⟩) (fun _ _ _ h => h)
  · rw [Heap.get_upd] at hi hj
    have key : ∀ o i, h.get i = some o → ∀ b, (K.put tk w.heap.size (e1, cs.size) cells.length).bl o.t = some b → K.bl o.t = some b ∧ b < w.heap.size := fun o i hi b hb => by
      obtain ⟨b', _, _, h1, _⟩ := hI.objs i o hi
      have : b = b' := by rw [hK.bl _ _ h1] at hb; cases hb; rfl
      subst this
      exact ⟨h1, hI.tb _ _ h1⟩
    split at hi <;> split at hj
    · rename_i e1 e2; exact e1.symm.trans e2
    · cases hi
      have := (key p j hj b hbp).2
      simp at hbo; omega
    · cases hj
      have := (key o i hi b hbo).2
      simp at hbp; omega
    · exact hI.u1 i j o p b hi hj ho hp (key o i hi b hbo).1 (key p j hj b hbp).1
  · rw [Heap.get_upd] at hi
    obtain ⟨b', _, _, h1, _⟩ := hI.rts r hr
    have : b = b' := by rw [hK.bl _ _ h1] at hbr; cases hbr; rfl
    subst this
    split at hi
    · cases hi
      simp at hbo
      have := hI.tb _ _ h1
      omega
    · obtain ⟨b2, _, _, h2, _⟩ := hI.objs i o hi
      have : b = b2 := by rw [hK.bl _ _ h2] at hbo; cases hbo; rfl
      subst this
      exact hI.u2 i o b r hi ho hr h2 h1
  · obtain ⟨b1, _, _, h1, _⟩ := hI.rts r hr
    obtain ⟨b2, _, _, h2, _⟩ := hI.rts q hq
    have e1 : b = b1 := by rw [hK.bl _ _ h1] at hbr; cases hbr; rfl
    have e2 : b = b2 := by rw [hK.bl _ _ h2] at hbq; cases hbq; rfl
    subst e1; subst e2
    exact hI.u3 r q b hr hq h1 h2

/-- The first n cells of a block never turn again. -/
def Kx.guard (K : Kx) (b n : Nat) : Kx := { K with prot := fun c i => K.prot c i ∨ (c = b ∧ i < n) }
theorem Kx.le_guard (K : Kx) (b n : Nat) : K.le (K.guard b n) := ⟨fun _ _ h => .inl h, fun _ h => h, fun _ _ h => h, fun _ _ _ => rfl, fun _ _ _ => rfl⟩

/-- What one owner has turns: its block's cells where they may, its name, its mode. -/
theorem Inv.turn {n0 : Base} {K K' : Kx} {h : Heap} {w w' : World} (hI : Inv n0 K h w) {id : Id} {o o' : Obj} {b : Nat} {cs cs' : Array Value} {E : TypeId}
    (hg : h.get id = some o) (hm : o.md ≠ .R) (hb : K.bl o.t = some b) (hh : w.heap[b]? = some (.cells cs E (0, 0)))
    (hsz : w'.heap.size = w.heap.size) (hh' : w'.heap[b]? = some (.cells cs' E (0, 0))) (hcs : cs'.size = cs.size) (ho : ∀ c, c ≠ b → w'.heap[c]? = w.heap[c]?)
    (hp : ∀ i v, K.prot b i → cs[i]? = some v → cs'[i]? = some v)
    (hK : K.le K') (hkp : ∀ c i, K'.prot c i → c = b ∨ K.prot c i) (hkm : ∀ c, K'.pm c → K.pm c) (hkb : ∀ t c, K'.bl t = some c → K.bl t = some c ∨ (t = o'.t ∧ c = b))
    (hnew : ObjOk n0 K' w' o') (hbn : K'.bl o'.t = some b) :
    Kept K w w' ∧ Inv n0 K' (h.upd id o') w' := by
  have hlt : b < w.heap.size := hI.tb _ _ hb
  have hw : Kept K w w' := ⟨fun c i v hc hv => by
    by_cases e : c = b
    · subst e
      rw [cell_at hh']
      rw [cell_at hh] at hv
      exact hp i v hc hv
    · unfold World.cell? at hv ⊢
      simp only [ho c e]
      exact hv, fun c es t _ hv => by
    by_cases e : c = b
    · subst e; rw [hh] at hv; cases hv
    · rw [ho c e]; exact hv⟩
  have old : ∀ i p, h.get i = some p → ∃ c, K.bl p.t = some c ∧ K'.bl p.t = some c := fun i p hp => by
    obtain ⟨c, _, _, h1, _⟩ := hI.objs i p hp
    exact ⟨c, h1, hK.bl _ _ h1⟩
  have oldr : ∀ r, r ∈ h.rts → ∃ c, K.bl r = some c ∧ K'.bl r = some c := fun r hr => by
    obtain ⟨c, _, _, h1, _⟩ := hI.rts r hr
    exact ⟨c, h1, hK.bl _ _ h1⟩
  refine ⟨hw, by rw [hsz]; exact hI.size, fun c i hc => ?_, fun c hc => by rw [hsz]; exact hI.mb c (hkm c hc), fun t c hc => ?_, fun i p hgp => ?_, fun r hr => ?_, fun i j p q c hi hj hpm hqm hpc hqc => ?_, fun i p c r hi hpm hr hpc hrc => ?_, fun r q c hr hq hrc hqc => ?_, fun c i hc => (hkp c i hc).elim (fun e => .inl (by obtain ⟨b2, _, _, g1, g2, _⟩ := hI.objs id o hg; rw [hb] at g1; cases g1; rw [e]; exact g2)) (hI.pz c i), fun c hc => hI.mz c (hkm c hc)⟩
  · rw [hsz]
    rcases hkp c i hc with rfl | hc
    · exact hlt
    · exact hI.pb c i hc
  · rw [hsz]
    rcases hkb t c hc with hc | ⟨_, rfl⟩
    · exact hI.tb t c hc
    · exact hlt
  · rw [Heap.get_upd] at hgp
    split at hgp
    · cases hgp; exact hnew
    · rename_i hne
      obtain ⟨c0, hc0, _⟩ := old i p hgp
      by_cases e : c0 = b
      · subst e
        have hR : p.md = .R := by
          by_cases hx : p.md = .R
          · exact hx
          · exact absurd (hI.u1 id i o p c0 hg hgp hm hx hb hc0) hne
        have hok := hI.objs i p hgp
        have hok2 := hok
        obtain ⟨b2, cs2, E2, g1, _, g3, _, _, g6, _, _, _, g10⟩ := hok2
        have : b2 = c0 := by rw [g1] at hc0; cases hc0; rfl
        subst this
        have : cs2 = cs ∧ E2 = E := by rw [hh] at g3; cases g3; exact ⟨rfl, rfl⟩
        obtain ⟨rfl, rfl⟩ := this
        refine hok.mono hK hw (fun b3 cs3 E3 k1 k2 => ?_) (fun b3 i3 _ hx _ => absurd hR hx)
        have : b3 = b2 := by rw [hc0] at k1; cases k1; rfl
        subst this
        have : cs3 = cs2 ∧ E3 = E2 := by rw [hh] at k2; cases k2; exact ⟨rfl, rfl⟩
        obtain ⟨rfl, rfl⟩ := this
        refine ⟨cs', hh', hcs, fun j hj => ?_⟩
        have hj3 : j < cs3.size := by omega
        have := hp j (cs3.getD j undef) (g10 (by rw [hR]; decide) j hj) (by simp [hj3])
        simp [Array.getD_eq_getD_getElem?, this, hj3]
      · refine (hI.objs i p hgp).mono hK hw (fun b3 cs3 E3 k1 k2 => ?_) (fun b3 i3 k1 _ hx => ?_)
        · have : b3 = c0 := by rw [hc0] at k1; cases k1; rfl
          subst this
          exact ⟨cs3, by rw [ho b3 e]; exact k2, rfl, fun _ _ => rfl⟩
        · have : b3 = c0 := by rw [hc0] at k1; cases k1; rfl
          subst this
          exact (hkp b3 i3 hx).resolve_left e
  · obtain ⟨c0, hc0, _⟩ := oldr r hr
    have e : c0 ≠ b := fun e => by subst e; exact hI.u2 id o c0 r hg hm hr hb hc0
    refine (hI.rts r hr).mono hK (fun b3 cs3 E3 k1 k2 => ?_) (fun b3 i3 k1 hx => ?_)
    · have : b3 = c0 := by rw [hc0] at k1; cases k1; rfl
      subst this
      exact ⟨cs3, by rw [ho b3 e]; exact k2, rfl⟩
    · have : b3 = c0 := by rw [hc0] at k1; cases k1; rfl
      subst this
      exact (hkp b3 i3 hx).resolve_left e
  · rw [Heap.get_upd] at hi hj
    split at hi <;> split at hj
    · rename_i e1 e2; exact e1.symm.trans e2
    · rename_i e1 e2
      cases hi
      obtain ⟨c0, h0, h0'⟩ := old j q hj
      have e3 : c = b := by rw [hbn] at hpc; cases hpc; rfl
      have e4 : c = c0 := by rw [h0'] at hqc; cases hqc; rfl
      subst e3; subst e4
      exact e1.symm.trans (hI.u1 id j o q c hg hj hm hqm hb h0)
    · rename_i e1 e2
      cases hj
      obtain ⟨c0, h0, h0'⟩ := old i p hi
      have e3 : c = b := by rw [hbn] at hqc; cases hqc; rfl
      have e4 : c = c0 := by rw [h0'] at hpc; cases hpc; rfl
      subst e3; subst e4
      exact (hI.u1 i id p o c hi hg hpm hm h0 hb).trans e2
    · obtain ⟨c0, h0, h0'⟩ := old i p hi
      obtain ⟨c1, h1, h1'⟩ := old j q hj
      have e3 : c = c0 := by rw [h0'] at hpc; cases hpc; rfl
      have e4 : c = c1 := by rw [h1'] at hqc; cases hqc; rfl
      subst e3; subst e4
      exact hI.u1 i j p q c hi hj hpm hqm h0 h1
  · rw [Heap.get_upd] at hi
    obtain ⟨c1, h1, h1'⟩ := oldr r hr
    have e4 : c = c1 := by rw [h1'] at hrc; cases hrc; rfl
    subst e4
    split at hi
    · cases hi
      have e3 : c = b := by rw [hbn] at hpc; cases hpc; rfl
      subst e3
      exact hI.u2 id o c r hg hm hr hb h1
    · obtain ⟨c0, h0, h0'⟩ := old i p hi
      have e3 : c = c0 := by rw [h0'] at hpc; cases hpc; rfl
      subst e3
      exact hI.u2 i p c r hi hpm hr h0 h1
  · obtain ⟨c0, h0, h0'⟩ := oldr r hr
    obtain ⟨c1, h1, h1'⟩ := oldr q hq
    have e3 : c = c0 := by rw [h0'] at hrc; cases hrc; rfl
    have e4 : c = c1 := by rw [h1'] at hqc; cases hqc; rfl
    subst e3; subst e4
    exact hI.u3 r q c hr hq h0 h1

end Go.Aw

/-
  Operations: what the abstract machine tells is what the machine does.
-/
namespace Go.Aw
open Go.RowKit

def Out (n0 : Base) (K : Kx) (w : World) (tk : Tok) (h' : Heap) (a : AV) (v : Value) (w' : World) : Prop :=
  ∃ K', K.le K' ∧ Kept K w w' ∧ Inv n0 K' h' w' ∧ Rep K' w' a v ∧ Below n0 w w' ∧ ∀ t b, K'.bl t = some b → K.bl t = some b ∨ (t.1 = tk.1 ∧ t.2.1 = tk.2.1)

def Fresh (K : Kx) (tk : Tok) : Prop := ∀ t : Tok, t.1 = tk.1 → t.2.1 = tk.2.1 → K.bl t = none

theorem Out.pure {n0 : Base} {K : Kx} {w : World} {tk : Tok} {h : Heap} {a : AV} {v : Value} (hI : Inv n0 K h w) (hr : Rep K w a v) : Out n0 K w tk h a v w :=
  ⟨K, .refl K, .refl K w, hI, hr, .refl _ _, fun _ _ h => .inl h⟩

theorem Heap.act_pure (h : Heap) (e : Ev) (hu : e.up = []) (hd : e.del = []) (ha : e.add = []) : h.act e = h := by
  unfold Heap.act
  rw [hu, hd, ha]
  simp [Heap.ups, List.filter_eq_self.2]

theorem rep_const {K : Kx} {w : World} (v : Value) : Rep K w (ofConst v) v := by
  cases v with
  | bool b => exact .bool _
  | int k n => exact .int _ _
  | string s => exact .str _
  | nilFunc => exact .nilfn
  | slice a n c =>
    cases a with
    | none =>
      simp only [ofConst]
      split
      · rename_i h; obtain ⟨rfl, rfl⟩ := h; exact .nil
      · exact .undef _
    | some a => exact .undef _
  | func fn x y =>
    cases fn with
    | func f =>
      simp only [ofConst]
      split
      · rename_i h
        obtain ⟨h1, h2⟩ := h
        obtain rfl : x = #[] := by simpa using h1
        obtain rfl : y = #[] := by simpa using h2
        exact .fn _ [] #[] rfl (fun j a h => by simp at h)
      · exact .undef _
    | _ => exact .undef _
  | _ => exact .undef _

theorem rep_consts {K : Kx} {w : World} (cs : Array Value) : (cs.size = (cs.toList.map ofConst).length) ∧ ∀ j a, (cs.toList.map ofConst)[j]? = some a → Rep K w a (cs.getD j undef) := by
  refine ⟨by simp, fun j a h => ?_⟩
  simp only [List.getElem?_map, Array.getElem?_toList] at h
  cases e : cs[j]? with
  | none => rw [e] at h; simp at h
  | some v =>
    rw [e] at h
    simp at h
    subst h
    rw [Array.getD_eq_getD_getElem?, e]
    exact rep_const v

theorem flat_const (v : Value) : (ofConst v).flat = true := by
  cases v with
  | slice a n c => cases a <;> simp only [ofConst] <;> first | rfl | (split <;> rfl)
  | func fn x y => cases fn <;> simp only [ofConst] <;> first | rfl | (split <;> rfl)
  | _ => rfl

theorem rep_const1 {K : Kx} {w : World} (v : Value) : Rep K w (ofConst1 v) v := by
  unfold ofConst1
  split
  · rename_i cs; exact .agg _ cs (fun x hx => by obtain ⟨v, _, rfl⟩ := List.mem_map.1 hx; exact flat_const v) (rep_consts (K := K) (w := w) cs).1 (rep_consts cs).2
  · rename_i cs; exact .tup _ cs (rep_consts (K := K) (w := w) cs).1 (rep_consts cs).2
  · exact rep_const _

theorem rep_X {K : Kx} {w : World} {s : List AV} {a : Act} (hs : Slots K w s a.tmps) (x : Operand) : Rep K w ((cX x).ev s) (a.eval x) := by
  cases x with
  | tmp t => exact hs.get t
  | const v => exact rep_const1 v
  | global g => exact .undef _
  | func f => exact .fn f [] #[] rfl (fun j a h => by simp at h)

/-- What the machine's operation comes to. -/
def Comes1 (P : Program) (a : Act) (o : Oper) (w : World) (v : Value) (w' : World) : Prop :=
  (execOp a.eval o).run P w = .ok (.value v) w' ∨ ((execOp a.eval o).run P w = .ok .skip w' ∧ v = undef)

variable {P : Program} {n0 : Base} {K : Kx} {h : Heap} {w : World} {s : List AV} {a : Act} {tk : Tok}

theorem Rep.bool_inv {b : Bool} {v : Value} (h : Rep K w (.bool b) v) : v = .bool b := by cases h; rfl
theorem Rep.int_inv {k : IntKind} {n : Int} {v : Value} (h : Rep K w (.int k n) v) : v = .int k n := by cases h; rfl
theorem Rep.str_inv {b : ByteArray} {v : Value} (h : Rep K w (.str b) v) : v = .string b := by cases h; rfl

theorem Rep.nil_inv {v : Value} (h : Rep K w .nil v) : v = .slice none 0 0 := by cases h; rfl
theorem Rep.nilfn_inv {v : Value} (h : Rep K w .nilfn v) : v = .nilFunc := by cases h; rfl
theorem Rep.fn_inv {f : FuncId} {cap : List AV} {v : Value} (h : Rep K w (.fn f cap) v) : ∃ cs : Array Value, v = .func (.func f) #[] cs ∧ cs.size = cap.length ∧ ∀ j a, cap[j]? = some a → Rep K w a (cs.getD j Go.undef) := by
  cases h; exact ⟨_, rfl, ‹_›, ‹_›⟩
theorem Rep.agg_inv {as : List AV} {v : Value} (h : Rep K w (.agg as) v) : ∃ cs : Array Value, v = .agg cs ∧ cs.size = as.length ∧ (∀ j a, as[j]? = some a → Rep K w a (cs.getD j Go.undef)) ∧ ∀ x ∈ as, x.flat = true := by
  cases h; exact ⟨_, rfl, ‹_›, ‹_›, ‹_›⟩
theorem Rep.tup_inv {as : List AV} {v : Value} (h : Rep K w (.tup as) v) : ∃ cs : Array Value, v = .tuple cs ∧ cs.size = as.length ∧ ∀ j a, as[j]? = some a → Rep K w a (cs.getD j Go.undef) := by
  cases h; exact ⟨_, rfl, ‹_›, ‹_›⟩
theorem Rep.ptr_inv {id : Id} {t : Tok} {off : Nat} {v : Value} (h : Rep K w (.ptr id t off) v) : ∃ b, K.bl t = some b ∧ v = .pointer (some ⟨b, off, none⟩) := by
  cases h; exact ⟨_, ‹_›, rfl⟩
theorem Rep.sl_inv {id : Id} {t : Tok} {off len : Nat} {v : Value} (h : Rep K w (.sl id t off len) v) :
    ∃ b cap, K.bl t = some b ∧ v = .slice (some ⟨b, off, none⟩) len cap ∧ len ≤ cap ∧ cap ≤ maxLen ∧ off + cap * (K.es t).1 ≤ (K.es t).2 := by
  cases h; exact ⟨_, _, ‹_›, rfl, ‹_›, ‹_›, ‹_›⟩
theorem Rep.fptr_inv {cs : List AV} {v : Value} (h : Rep K w (.fptr cs) v) :
    ∃ (b o : Nat) (val : Nat → Value), v = .pointer (some ⟨b, o, none⟩) ∧ (∀ j c, cs[j]? = some c → K.prot b (o + j) ∧ w.cell? ⟨b, o + j, none⟩ = some (val j)) ∧ (∀ j c, cs[j]? = some c → Rep K.bare w c (val j)) ∧ ∀ x ∈ cs, x.flat = true := by
  cases h; exact ⟨_, _, _, rfl, ‹_›, ‹_›, ‹_›⟩
theorem Rep.list_inv {es : List AV} {v : Value} (h : Rep K w (.list es) v) :
    ∃ (a : Option Addr) (cap s b o : Nat) (val : Nat → Value), v = .slice a es.length cap ∧ es.length ≤ cap ∧ cap ≤ maxLen ∧ (∀ e ∈ es, e.cells.length = s) ∧ (es ≠ [] → a = some ⟨b, o, none⟩) ∧
      (∀ j c, (es.flatMap AV.cells)[j]? = some c → K.prot b (o + j) ∧ w.cell? ⟨b, o + j, none⟩ = some (val j)) ∧ (∀ j c, (es.flatMap AV.cells)[j]? = some c → Rep K.bare w c (val j)) ∧ ∀ x ∈ es.flatMap AV.cells, x.flat = true := by
  cases h; exact ⟨_, _, _, _, _, _, rfl, ‹_›, ‹_›, ‹_›, ‹_›, ‹_›, ‹_›, ‹_›⟩
theorem Rep.rl_inv {es : List AV} {t : Tok} {v : Value} (h : Rep K w (.rl es t) v) :
    ∃ (cap s b : Nat) (val : Nat → Value), v = .slice (some ⟨b, 0, none⟩) es.length cap ∧ es.length ≤ cap ∧ cap ≤ maxLen ∧ (∀ e ∈ es, e.cells.length = s) ∧ K.bl t = some b ∧ (K.es t).1 = s ∧ cap * s ≤ (K.es t).2 ∧
      K.rn t = (es.flatMap AV.cells).length ∧ (∀ j c, (es.flatMap AV.cells)[j]? = some c → K.prot b j ∧ w.cell? ⟨b, j, none⟩ = some (val j)) ∧ (∀ j c, (es.flatMap AV.cells)[j]? = some c → Rep K.bare w c (val j)) ∧ ∀ x ∈ es.flatMap AV.cells, x.flat = true := by
  cases h; exact ⟨_, _, _, _, rfl, ‹_›, ‹_›, ‹_›, ‹_›, ‹_›, ‹_›, ‹_›, ‹_›, ‹_›, ‹_›⟩
theorem Rep.map_inv {es : List (AV × AV)} {v : Value} (h : Rep K w (.map es) v) :
    ∃ (b c : Nat) (ents : Array MapEntry), v = .map (some b) ∧ K.pm b ∧ w.heap[b]? = some (.map ents c) ∧ ents.size = es.length ∧ (∀ j e, es[j]? = some e → Rep K.bare w e.1 (ents.getD j default).key) ∧ ∀ j e, es[j]? = some e → Rep K.bare w e.2 (ents.getD j default).val := by
  cases h; exact ⟨_, _, _, rfl, ‹_›, ‹_›, ‹_›, ‹_›, ‹_›⟩

theorem ok_mov (hs : Slots K w s a.tmps) (hI : Inv n0 K h w) (o : Oper) (x : Operand) (ho : o.op = .move x ∨ o.op = .assign x) : ∃ v w', Comes1 P a o w v w' ∧ Out n0 K w tk h ((cX x).ev s) v w' := by
  refine ⟨a.eval x, w, .inl ?_, Out.pure hI (rep_X hs x)⟩
  rcases ho with ho | ho <;> simp [execOp, ho]

theorem ok_pick (hs : Slots K w s a.tmps) (hI : Inv n0 K h w) (o : Oper) (c x y : Operand) (ho : o.op = .pick c x y) {q : Bool} (hc : (cX c).ev s = .bool q) :
    ∃ v w', Comes1 P a o w v w' ∧ Out n0 K w tk h (if q then (cX x).ev s else (cX y).ev s) v w' := by
  have h1 := rep_X hs c
  rw [hc] at h1
  have h2 := h1.bool_inv
  refine ⟨if q then a.eval x else a.eval y, w, .inl ?_, Out.pure hI ?_⟩
  · simp [execOp, ho, h2, asBool]
  · cases q
    · exact rep_X hs y
    · exact rep_X hs x

theorem ok_nilck (hs : Slots K w s a.tmps) (hI : Inv n0 K h w) (o : Oper) (x : Operand) (ho : o.op = .nilCheck x) {y : AV} (hx : (cX x).ev s = y) (hy : (∃ i t f, y = .ptr i t f) ∨ (∃ cs, y = .fptr cs) ∨ ∃ f c, y = .fn f c) :
    ∃ v w', Comes1 P a o w v w' ∧ Out n0 K w tk h y v w' := by
  have h1 := rep_X hs x
  rw [hx] at h1
  refine ⟨a.eval x, w, .inl ?_, Out.pure hI h1⟩
  rcases hy with ⟨i, t, f, rfl⟩ | ⟨cs, rfl⟩ | ⟨f, c, rfl⟩
  · obtain ⟨b, _, e⟩ := h1.ptr_inv
    simp [execOp, ho, e]
  · obtain ⟨b, o, _, e, _⟩ := h1.fptr_inv
    simp [execOp, ho, e]
  · obtain ⟨cs, e, _⟩ := h1.fn_inv
    simp [execOp, ho, e]

end Go.Aw

/-
  Operations on numbers, bools, strings, structs: no memory.
-/
namespace Go.Aw
open Go.RowKit

variable {P : Program} {n0 : Base} {K : Kx} {h : Heap} {w : World} {s : List AV} {a : Act} {tk : Tok}

theorem str_eq (a b : ByteArray) : (a.toList == b.toList) = decide (a = b) := by
  rw [ByteArray.toList_eq, ByteArray.toList_eq, Bool.eq_iff_iff]
  simp
  constructor
  · intro e
    cases a; cases b
    simp at e
    rw [e]
  · rintro rfl; rfl

theorem run_eqGuard_int (op : BinOp) (t : TypeId) (x y : Operand) (k j : IntKind) (m n : Int) : (eqGuard op t x y (.int k m) (.int j n)).run P w = .ok () w := by
  unfold eqGuard; cases op <;> simp
theorem run_eqGuard_str (op : BinOp) (t : TypeId) (x y : Operand) (m n : ByteArray) : (eqGuard op t x y (.string m) (.string n)).run P w = .ok () w := by
  unfold eqGuard; cases op <;> simp
theorem run_eqGuard_bool (op : BinOp) (t : TypeId) (x y : Operand) (m n : Bool) : (eqGuard op t x y (.bool m) (.bool n)).run P w = .ok () w := by
  unfold eqGuard; cases op <;> simp
theorem run_eqGuard_slice (op : BinOp) (t : TypeId) (x y : Operand) (u v : Value) (hu : (∃ p n c, u = .slice p n c) ∨ (∃ f l c, u = .func f l c) ∨ u = .nilFunc) : (eqGuard op t x y u v).run P w = .ok () w := by
  unfold eqGuard
  rcases hu with ⟨_, _, _, rfl⟩ | ⟨_, _, _, rfl⟩ | rfl <;> cases op <;> simp

theorem bin_int (op : BinOp) (t : TypeId) {k j : IntKind} {m n : Int} {r : AV} (hr : abin op (.int k m) (.int j n) = some r) : ∃ v, (binOp op t (.int k m) (.int j n)).run P w = .ok v w ∧ Rep K w r v := by
  cases op
  case shl =>
    simp only [abin] at hr
    split at hr
    · cases hr
    · cases hr
      rename_i hn
      exact ⟨_, by simp [binOp, Op.shift, hn], .int _ _⟩
  case shr =>
    simp only [abin] at hr
    split at hr
    · cases hr
    · cases hr
      rename_i hn
      exact ⟨_, by simp [binOp, Op.shift, hn], .int _ _⟩
  case quo =>
    simp only [abin] at hr
    split at hr
    · rename_i hk
      obtain ⟨rfl, hn⟩ := hk
      cases hr
      exact ⟨_, by simp [binOp, Op.intDiv, hn], .int _ _⟩
    · cases hr
  case rem =>
    simp only [abin] at hr
    split at hr
    · rename_i hk
      obtain ⟨rfl, hn⟩ := hk
      cases hr
      exact ⟨_, by simp [binOp, Op.intDiv, hn], .int _ _⟩
    · cases hr
  all_goals
    simp only [abin] at hr
    split at hr
    · rename_i hk
      subst hk
      cases hr
      first
        | (refine ⟨_, ?_, .int _ _⟩
           simp only [binOp, Op.intArith]
           first | (simp; done) | (simp; rfl))
        | (refine ⟨_, ?_, .int _ _⟩
           simp only [binOp, Op.intBits]
           rw [if_neg (by simp)]
           rfl)
        | (refine ⟨_, ?_, .bool _⟩
           simp only [binOp, Op.intCmp]
           first | (simp; done) | (simp; rw [Bool.eq_iff_iff]; simp; done) | (simp [bne]; rw [Bool.eq_iff_iff]; simp; done))
    · cases hr

theorem run_underlying1 {t : TypeId} {d : TypeDesc} (ht : P.underlying t = some d) : (underlying t).run P w = .ok d w := by
  simp [underlying, ht]
theorem run_equalIn_bool {t : TypeId} (d : Nat) (ht : P.underlying t = some .bool) (a b : Bool) : (Op.equalIn (d + 1) t (.bool a) (.bool b)).run P w = .ok (a == b) w := by
  simp [Op.equalIn, run_underlying1 ht]
theorem run_equalIn_int {t : TypeId} {j : IntKind} (d : Nat) (ht : P.underlying t = some (.int j)) (k : IntKind) (a b : Int) : (Op.equalIn (d + 1) t (.int k a) (.int k b)).run P w = .ok (a == b) w := by
  simp [Op.equalIn, run_underlying1 ht]
theorem run_equalIn_str {t : TypeId} (d : Nat) (ht : P.underlying t = some .string) (a b : ByteArray) : (Op.equalIn (d + 1) t (.string a) (.string b)).run P w = .ok (a == b) w := by
  simp [Op.equalIn, run_underlying1 ht]
theorem run_equal_bool {t : TypeId} (ht : P.underlying t = some .bool) (a b : Bool) : (Op.equal t (.bool a) (.bool b)).run P w = .ok (a == b) w := run_equalIn_bool 9999 ht a b

theorem ok_bin (hs : Slots K w s a.tmps) (hI : Inv n0 K h w) (o : Oper) (op : BinOp) (t t' : TypeId) (x y : Operand) (ho : o.op = .binOp op t x y t') {r : AV} (hr : abin op ((cX x).ev s) ((cX y).ev s) = some r) :
    ∃ v w', Comes1 P a o w v w' ∧ Out n0 K w tk h r v w' := by
  have hx := rep_X hs x
  have hy := rep_X hs y
  generalize (cX x).ev s = u at hr hx
  generalize (cX y).ev s = v at hr hy
  cases u <;> cases v <;> first | (simp [abin] at hr; done) | skip
  · have ex := hx.int_inv
    have ey := hy.int_inv
    obtain ⟨r', h1, h2⟩ := bin_int (P := P) (w := w) (K := K) op t hr
    refine ⟨r', w, .inl ?_, Out.pure hI h2⟩
    simp [execOp, ho, ex, ey, run_eqGuard_int, h1]
  · have ex := hx.str_inv
    have ey := hy.str_inv
    rename_i p q
    have key : ∃ v, (binOp op t (.string p) (.string q)).run P w = .ok v w ∧ Rep K w r v := by
      cases op <;> simp only [abin] at hr <;> first | (cases hr; done) | skip
      · split at hr
        · rename_i hsz
          cases hr
          refine ⟨_, ?_, .str _⟩
          have : ¬ ((p.size + q.size : Nat) : Int) > IntKind.i64.max := by
            have : (IntKind.i64.max : Int) = 9223372036854775807 := by rfl
            omega
          simp only [binOp, Op.stringOp]
          rw [if_neg this]
          rfl
        · cases hr
      · cases hr
        exact ⟨_, by simp [binOp, Op.stringOp, str_eq], .bool _⟩
      · cases hr
        exact ⟨_, by simp [binOp, Op.stringOp, str_eq], .bool _⟩
    obtain ⟨r', h1, h2⟩ := key
    refine ⟨r', w, .inl ?_, Out.pure hI h2⟩
    simp [execOp, ho, ex, ey, run_eqGuard_str, h1]

theorem ok_binb (hs : Slots K w s a.tmps) (hI : Inv n0 K h w) (o : Oper) (neg : Bool) (t t' : TypeId) (x y : Operand) (ho : o.op = .binOp (if neg then .neq else .eql) t x y t') (ht : P.underlying t = some .bool) {r : AV}
    (hr : abinb neg ((cX x).ev s) ((cX y).ev s) = some r) : ∃ v w', Comes1 P a o w v w' ∧ Out n0 K w tk h r v w' := by
  have hx := rep_X hs x
  have hy := rep_X hs y
  generalize (cX x).ev s = u at hr hx
  generalize (cX y).ev s = v at hr hy
  cases u <;> cases v <;> first | (simp [abinb] at hr; done) | skip
  have ex := hx.bool_inv
  have ey := hy.bool_inv
  rename_i p q
  simp only [abinb] at hr
  cases hr
  refine ⟨.bool ((p == q) != neg), w, .inl ?_, Out.pure hI (.bool _)⟩
  cases neg <;> simp [execOp, ho, ex, ey, run_eqGuard_bool, binOp, run_equal_bool ht]

theorem ok_un (hs : Slots K w s a.tmps) (hI : Inv n0 K h w) (o : Oper) (op : UnOp) (t : TypeId) (x : Operand) (ho : o.op = .unOp op t x) {r : AV} (hr : aun op ((cX x).ev s) = some r) :
    ∃ v w', Comes1 P a o w v w' ∧ Out n0 K w tk h r v w' := by
  have hx := rep_X hs x
  generalize (cX x).ev s = u at hr hx
  cases u <;> cases op <;> first | (simp [aun] at hr; done) | skip
  · have ex := hx.bool_inv
    simp only [aun] at hr
    cases hr
    exact ⟨_, w, .inl (by simp [execOp, ho, ex, Op.unary]), Out.pure hI (.bool _)⟩
  · have ex := hx.int_inv
    simp only [aun] at hr
    cases hr
    exact ⟨_, w, .inl (by simp [execOp, ho, ex, Op.unary, Op.intArith]), Out.pure hI (.int _ _)⟩

theorem ok_conv (hs : Slots K w s a.tmps) (hI : Inv n0 K h w) (o : Oper) (t u : TypeId) (x : Operand) (ho : o.op = .convert t u x) {j k k' : IntKind} {n : Int} (ht : P.underlying t = some (.int j)) (hu : P.underlying u = some (.int k)) (hx' : (cX x).ev s = .int k' n) :
    ∃ v w', Comes1 P a o w v w' ∧ Out n0 K w tk h (.int k (k.wrap n)) v w' := by
  have hx := rep_X hs x
  rw [hx'] at hx
  have ex := hx.int_inv
  exact ⟨_, w, .inl (by simp [execOp, ho, ex, convert, underlying, ht, hu, Conv.intToInt]), Out.pure hI (.int _ _)⟩

theorem ok_extract (hs : Slots K w s a.tmps) (hI : Inv n0 K h w) (o : Oper) (x : Operand) (i : Nat) (ho : o.op = .extract x i) {vs : List AV} {r : AV} (hx' : (cX x).ev s = .tup vs) (hr : vs[i]? = some r) :
    ∃ v w', Comes1 P a o w v w' ∧ Out n0 K w tk h r v w' := by
  have hx := rep_X hs x
  rw [hx'] at hx
  obtain ⟨cs, e, hl, hc⟩ := hx.tup_inv
  have hlt : i < cs.size := by rw [hl]; exact (List.getElem?_eq_some_iff.1 hr).1
  refine ⟨cs.getD i undef, w, .inl ?_, Out.pure hI (hc i r hr)⟩
  simp [execOp, ho, e, Instr.extract, hlt]

theorem ok_mkfn (hs : Slots K w s a.tmps) (hI : Inv n0 K h w) (o : Oper) (f : FuncId) (cap : Array Operand) (ho : o.op = .makeFunc (.func f) #[] cap) :
    ∃ v w', Comes1 P a o w v w' ∧ Out n0 K w tk h (.fn f ((cXs cap).map (·.ev s))) v w' := by
  refine ⟨.func (.func f) #[] (cap.map a.eval), w, .inl (by simp [execOp, ho, Instr.makeFunc]), Out.pure hI (.fn _ _ _ (by simp [cXs]) fun j b hb => ?_)⟩
  simp only [cXs, List.map_map, List.getElem?_map, Array.getElem?_toList] at hb
  cases e : cap[j]? with
  | none => rw [e] at hb; simp at hb
  | some x =>
    rw [e] at hb
    simp at hb
    subst hb
    rw [Array.getD_eq_getD_getElem?, Array.getElem?_map, e]
    exact rep_X hs x

end Go.Aw

/-
  Operations that read memory, and those that reckon addresses.
-/
namespace Go.Aw
open Go.RowKit

variable {P : Program} {n0 : Base} {K : Kx} {h : Heap} {w : World} {s : List AV} {a : Act} {tk : Tok}

theorem cTy_spec {t : TypeId} {u : Ty} (hc : cTy P t = some u) : ∃ i d z, P.info? t = some i ∧ P.underlying t = some d ∧ i.zero = some z ∧ u.sz = i.size ∧ u.by_ = i.bytes ∧ u.zero = (ofConst1 z).cells ∧
    u.ag = descAg d ∧ (u.ag = false → u.sz = 1) ∧ u.zero.length = u.sz ∧ z.cells.size = u.sz ∧ ∀ c ∈ u.zero, c.flat = true := by
  unfold cTy at hc
  split at hc
  · rename_i i d hi hd
    split at hc
    · rename_i z hz
      split at hc
      · rename_i hcond
        cases hc
        simp only [Bool.and_eq_true, Bool.or_eq_true, beq_iff_eq] at hcond
        exact ⟨i, d, z, hi, hd, hz, rfl, rfl, rfl, rfl, fun hag => hcond.1.1.1.resolve_left (by simpa using hag), hcond.1.1.2, hcond.1.2, fun c hc => (List.all_eq_true.1 hcond.2) c hc⟩
      · cases hc
    · cases hc
  · cases hc

theorem run_typeInfo1 {t : TypeId} {i : TypeInfo} (hi : P.info? t = some i) : (typeInfo t).run P w = .ok i w := by simp [typeInfo, hi]
theorem run_sizeOf1 {t : TypeId} {u : Ty} (hc : cTy P t = some u) : (sizeOf t).run P w = .ok u.sz w := by
  obtain ⟨i, d, z, hi, hd, hz, h1, _⟩ := cTy_spec hc
  simp [sizeOf, run_typeInfo1 hi, h1]
theorem run_isAgg1 {t : TypeId} {u : Ty} (hc : cTy P t = some u) : (isAgg t).run P w = .ok u.ag w := by
  obtain ⟨i, d, z, hi, hd, hz, h1, h2, h3, h4, _⟩ := cTy_spec hc
  unfold isAgg
  rw [Sem.run_bind, run_underlying1 hd, Result.andThen_ok, h4]
  cases d <;> rfl

theorem addr_add (b o j : Nat) : (⟨b, o, none⟩ : Addr).add j = ⟨b, o + j, none⟩ := by unfold Addr.add; split <;> simp_all

/-- A value is loaded. -/
theorem load_cells {t : TypeId} {u : Ty} (hc : cTy P t = some u) (b o : Nat) (cs : List AV) (val : Nat → Value) (hl : cs.length = u.sz) (hf : ∀ x ∈ cs, x.flat = true)
    (hv : ∀ j c, cs[j]? = some c → w.cell? ⟨b, o + j, none⟩ = some (val j)) (hr : ∀ j c, cs[j]? = some c → Rep K w c (val j)) :
    ∃ v, (loadVar t ⟨b, o, none⟩).run P w = .ok v w ∧ Rep K w (ofCells u.ag cs) v := by
  have hagg := run_isAgg1 (w := w) hc
  have hsz := run_sizeOf1 (w := w) hc
  have hget : ∀ j, j < u.sz → ∃ c, cs[j]? = some c := fun j hj => ⟨cs[j]'(by omega), by simp⟩
  cases hag : u.ag with
  | true =>
    have hload := run_loadCells (P := P) w ⟨b, o, none⟩ u.sz val (fun j hj => by
      obtain ⟨c, hcj⟩ := hget j hj
      rw [addr_add]; exact hv j c hcj)
    refine ⟨_, by simp [loadVar, hagg, hag, hsz, hload]; rfl, ?_⟩
    refine .agg cs _ hf (by simp [hl]) (fun j c hcj => ?_)
    have hj : j < u.sz := by rw [← hl]; exact (List.getElem?_eq_some_iff.1 hcj).1
    have := hr j c hcj
    simpa [Array.getD_eq_getD_getElem?, hj] using this
  | false =>
    obtain ⟨_, _, _, _, _, _, _, _, _, _, h1, _⟩ := cTy_spec hc
    have h1 := h1 hag
    obtain ⟨c, hcj⟩ := hget 0 (by omega)
    have e : cs = [c] := by
      match cs, hl, hcj with
      | [x], _, hcj => simp at hcj; rw [hcj]
      | [], hl, _ => simp at hl; omega
      | _ :: _ :: _, hl, _ => simp at hl; omega
    subst e
    have h2 := hv 0 c rfl
    simp only [Nat.add_zero] at h2
    refine ⟨val 0, by simp [loadVar, hagg, hag, h2], ?_⟩
    exact hr 0 c rfl

theorem sub_spec {cs r : List AV} {off sz : Nat} (hs : sub cs off sz = some r) : r.length = sz ∧ (∀ j c, r[j]? = some c → cs[off + j]? = some c) ∧ ∀ x ∈ r, x ∈ cs := by
  unfold sub at hs
  split at hs
  · cases hs
    refine ⟨by simp; omega, fun j c hj => ?_, fun x hx => List.mem_of_mem_drop (List.mem_of_mem_take hx)⟩
    rw [List.getElem?_take] at hj
    split at hj
    · rw [List.getElem?_drop] at hj; exact hj
    · cases hj
  · cases hs

theorem row_spec {id : Id} {t : Tok} {o : Obj} (hr : h.row id t = some o) : h.get id = some o ∧ o.t = t := by
  unfold Heap.row at hr
  split at hr
  · split at hr
    · cases hr; rename_i h1 h2; exact ⟨h1, h2⟩
    · cases hr
  · cases hr

/-- The cells of a live row or variable. -/
theorem Inv.cells (hI : Inv n0 K h w) {id : Id} {t : Tok} {o : Obj} (hr : h.row id t = some o) {b : Nat} (hb : K.bl t = some b) :
    ∃ cs E, w.heap[b]? = some (.cells cs E (0, 0)) ∧ (K.es t).2 = cs.size ∧ (o.esz ≠ 0 → (K.es t).1 = o.esz ∧ (o.ag = false → o.esz = 1)) ∧ (o.cells.length ≤ cs.size ∧ K.rn t = o.cells.length ∧ ∀ x ∈ o.cells, x.flat = true) ∧
      (∀ j c, o.cells[j]? = some c → w.cell? ⟨b, j, none⟩ = some (cs.getD j undef) ∧ Rep K w c (cs.getD j undef)) ∧ n0 ≤ b := by
  obtain ⟨hg, rfl⟩ := row_spec hr
  obtain ⟨b', cs, E, h1, h2, h3, h4, h5, h6, h7, _⟩ := hI.objs id o hg
  have : b' = b := by rw [h1] at hb; cases hb; rfl
  subst this
  refine ⟨cs, E, h3, h4, h5, h6, fun j c hj => ⟨?_, h7 j c hj⟩, h2⟩
  have hlt : j < cs.size := by
    have := (List.getElem?_eq_some_iff.1 hj).1
    omega
  rw [cell_at h3]
  simp [hlt]

theorem ok_load (hs : Slots K w s a.tmps) (hI : Inv n0 K h w) (o : Oper) (t : TypeId) (x : Operand) (ho : o.op = .load t x) {u : Ty} (hc : cTy P t = some u) {call : FuncId → List AV → Option AV} {own : FuncId → Option Ty} {id : Id} {e : Ev}
    (he : evOp call own s h id tk (.load u.sz u.ag (cX x)) = some e) : ∃ v w', Comes1 P a o w v w' ∧ Out n0 K w tk (h.act e) e.v v w' := by
  have hx := rep_X hs x
  simp only [evOp] at he
  generalize (cX x).ev s = y at he hx
  cases y <;> first | (simp at he; done) | skip
  · rename_i i t' off
    obtain ⟨b, hb, ev⟩ := hx.ptr_inv
    simp only at he
    split at he
    · rename_i ob hrow
      split at he
      · rename_i cs hsub
        cases he
        obtain ⟨hl, hsub, hmem⟩ := sub_spec hsub
        obtain ⟨arr, E, _, _, _, hfl, hcell, _⟩ := hI.cells hrow hb
        obtain ⟨v, h1, h2⟩ := load_cells (w := w) (K := K) hc b off cs (fun j => arr.getD (off + j) undef) hl (fun x hx => hfl.2.2 x (hmem x hx)) (fun j c hj => (hcell _ c (hsub j c hj)).1) (fun j c hj => (hcell _ c (hsub j c hj)).2)
        rw [Heap.act_pure _ _ rfl rfl rfl]
        exact ⟨v, w, .inl (by simp [execOp, ho, ev, Instr.loadAt, Instr.sureAddr, h1]), Out.pure hI h2⟩
      · cases he
    · cases he
  · rename_i cs0
    obtain ⟨b, off, val, ev, hv, hr, hfl⟩ := hx.fptr_inv
    simp only at he
    split at he
    · rename_i cs hsub
      cases he
      obtain ⟨hl, hsub, hmem⟩ := sub_spec hsub
      simp only [Nat.zero_add] at hsub
      obtain ⟨v, h1, h2⟩ := load_cells (w := w) (K := K) hc b off cs val hl (fun x hx => hfl x (hmem x hx)) (fun j c hj => (hv j c (hsub j c hj)).2) (fun j c hj => (hr j c (hsub j c hj)).unbare)
      rw [Heap.act_pure _ _ rfl rfl rfl]
      exact ⟨v, w, .inl (by simp [execOp, ho, ev, Instr.loadAt, Instr.sureAddr, h1]), Out.pure hI h2⟩
    · cases he

theorem drop_get {cs : List AV} {off j : Nat} {c : AV} (hj : (cs.drop off)[j]? = some c) : cs[off + j]? = some c := by rw [List.getElem?_drop] at hj; exact hj

theorem rep_fptr_drop {cs : List AV} {b o : Nat} {val : Nat → Value} (off : Nat) (hf : ∀ x ∈ cs, x.flat = true) (hv : ∀ j c, cs[j]? = some c → K.prot b (o + j) ∧ w.cell? ⟨b, o + j, none⟩ = some (val j)) (hr : ∀ j c, cs[j]? = some c → Rep K.bare w c (val j)) :
    Rep K w (.fptr (cs.drop off)) (.pointer (some ⟨b, o + off, none⟩)) :=
  .fptr _ b (o + off) (fun j => val (off + j)) (fun x hx => hf x (List.mem_of_mem_drop hx)) (fun j c hj => by rw [Nat.add_assoc]; exact hv _ c (drop_get hj)) (fun j c hj => hr _ c (drop_get hj))

theorem ok_faddr (hs : Slots K w s a.tmps) (hI : Inv n0 K h w) (o : Oper) (t : TypeId) (x : Operand) (f : Nat) (ho : o.op = .fieldAddr t x f) {fs : Array Field} {g : Field} {u : Ty} (ht : P.underlying t = some (.struct fs)) (hf : fs[f]? = some g) (hc : cTy P g.type = some u) (hz : u.sz ≠ 0)
    {call : FuncId → List AV → Option AV} {own : FuncId → Option Ty} {id : Id} {e : Ev} (he : evOp call own s h id tk (.faddr g.offset (cX x)) = some e) : ∃ v w', Comes1 P a o w v w' ∧ Out n0 K w tk (h.act e) e.v v w' := by
  have hx := rep_X hs x
  have hsz := run_sizeOf1 (w := w) hc
  simp only [evOp] at he
  generalize (cX x).ev s = y at he hx
  have hfp : ∀ b off, (fieldPlace ⟨b, off, none⟩ g).run P w = .ok ⟨b, off + g.offset, none⟩ w := fun b off => by
    simp [fieldPlace, hsz, hz, addr_add]
  cases y <;> first | (simp at he; done) | skip
  · rename_i i t' off
    obtain ⟨b, hb, ev⟩ := hx.ptr_inv
    simp only at he
    cases he
    rw [Heap.act_pure _ _ rfl rfl rfl]
    exact ⟨_, w, .inl (by simp [execOp, ho, ev, Instr.fieldAt, Instr.sureAddr, run_underlying1 ht, hf, hfp]), Out.pure hI (.ptr _ _ _ b hb)⟩
  · rename_i cs
    obtain ⟨b, off, val, ev, hv, hr, hfl⟩ := hx.fptr_inv
    simp only at he
    cases he
    rw [Heap.act_pure _ _ rfl rfl rfl]
    exact ⟨_, w, .inl (by simp [execOp, ho, ev, Instr.fieldAt, Instr.sureAddr, run_underlying1 ht, hf, hfp]), Out.pure hI (rep_fptr_drop g.offset hfl hv hr)⟩

theorem idx_spec {y : AV} {n : Nat} (hy : y.idx = some n) : ∃ k i, y = .int k i ∧ 0 ≤ i ∧ n = i.toNat := by
  unfold AV.idx at hy
  split at hy
  · split at hy
    · cases hy; exact ⟨_, _, rfl, ‹_›, rfl⟩
    · cases hy
  · cases hy

theorem flat_get {es : List AV} {s : Nat} (hs : ∀ e ∈ es, e.cells.length = s) : ∀ {i j : Nat} {e c : AV}, es[i]? = some e → e.cells[j]? = some c → (es.flatMap AV.cells)[i * s + j]? = some c := by
  induction es with
  | nil => intro i j e c hi; simp at hi
  | cons x r ih =>
    intro i j e c hi hj
    have hx : x.cells.length = s := hs x (by simp)
    cases i with
    | zero =>
      simp at hi
      subst hi
      have hlt := (List.getElem?_eq_some_iff.1 hj).1
      simp only [List.flatMap_cons, Nat.zero_mul, Nat.zero_add]
      rw [List.getElem?_append_left hlt]; exact hj
    | succ i =>
      simp at hi
      have := ih (fun e he => hs e (by simp [he])) hi hj
      simp only [List.flatMap_cons]
      rw [List.getElem?_append_right (by rw [hx, Nat.succ_mul]; omega), hx, Nat.succ_mul, show i * s + s + j - s = i * s + j by omega]
      exact this

theorem run_asIntOf {k : IntKind} {i : Int} : (asIntOf (.int k i)).run P w = .ok (k, i) w := rfl

/-- The address of an element of a frozen slice. -/
theorem elem_fptr {es : List AV} {v : Value} {n : Nat} {e : AV} {esz : Nat} (hx : Rep K w (.list es) v ∨ ∃ r, Rep K w (.rl es r) v) (he : es[n]? = some e) (hz : e.cells.length = esz) :
    ∃ b o cap, v = .slice (some ⟨b, o, none⟩) es.length cap ∧ Rep K w (.fptr e.cells) (.pointer (some ⟨b, o + n * esz, none⟩)) := by
  have hne : es ≠ [] := fun h => by rw [h] at he; simp at he
  have hmem : e ∈ es := List.mem_of_getElem? he
  rcases hx with hx | ⟨r, hx⟩
  · obtain ⟨p, cap, sz, b, o, val, ev, hc, hm, hs, ha, hv, hr, hfl⟩ := hx.list_inv
    have e1 : sz = esz := by rw [← hs e hmem, hz]
    subst e1
    refine ⟨b, o, cap, by rw [ev, ha hne], .fptr _ b (o + n * sz) (fun j => val (n * sz + j)) (fun x hx => hfl x (List.mem_flatMap.2 ⟨e, hmem, hx⟩)) (fun j c hj => ?_) (fun j c hj => hr _ c (flat_get hs he hj))⟩
    rw [Nat.add_assoc]
    exact hv _ c (flat_get hs he hj)
  · obtain ⟨cap, sz, b, val, ev, hc, hm, hs, _, _, _, _, hv, hr, hfl⟩ := hx.rl_inv
    have e1 : sz = esz := by rw [← hs e hmem, hz]
    subst e1
    refine ⟨b, 0, cap, ev, .fptr _ b (0 + n * sz) (fun j => val (n * sz + j)) (fun x hx => hfl x (List.mem_flatMap.2 ⟨e, hmem, hx⟩)) (fun j c hj => ?_) (fun j c hj => hr _ c (flat_get hs he hj))⟩
    rw [Nat.zero_add]
    exact hv _ c (flat_get hs he hj)

theorem ok_iaddr_slice (hs : Slots K w s a.tmps) (hI : Inv n0 K h w) (o : Oper) (t el : TypeId) (x y : Operand) (ho : o.op = .indexAddr t x y) {u : Ty} (ht : P.underlying t = some (.slice el)) (hc : cTy P el = some u)
    {call : FuncId → List AV → Option AV} {own : FuncId → Option Ty} {id : Id} {e : Ev} (he : evOp call own s h id tk (.iaddr u.sz none (cX x) (cX y)) = some e) :
    ∃ v w', Comes1 P a o w v w' ∧ Out n0 K w tk (h.act e) e.v v w' := by
  have hx := rep_X hs x
  have hy := rep_X hs y
  have hsz := run_sizeOf1 (w := w) hc
  simp only [evOp] at he
  split at he
  · rename_i n hn
    obtain ⟨k, i, e1, hi0, rfl⟩ := idx_spec hn
    rw [e1] at hy
    have ey := hy.int_inv
    generalize (cX x).ev s = z at he hx
    have core : ∀ (p : Addr) len cap, a.eval x = .slice (some p) len cap → i < (len : Int) → (execOp a.eval o).run P w = .ok (.value (.pointer (some (p.add (i.toNat * u.sz))))) w := fun p len cap ex hlt => by
      simp [execOp, ho, Instr.indexAt, ex, ey, run_asIntOf, run_underlying1 ht, hi0, hlt, hsz]
    cases z <;> first | (simp at he; done) | skip
    · rename_i vs
      simp only at he
      split at he
      · rename_i el' hel
        split at he
        · rename_i hz
          cases he
          obtain ⟨b, o1, cap, ex, hrep⟩ := elem_fptr (.inl hx) hel hz
          rw [Heap.act_pure _ _ rfl rfl rfl]
          refine ⟨_, w, .inl (core _ _ _ ex ?_), Out.pure hI ?_⟩
          · have := (List.getElem?_eq_some_iff.1 hel).1; omega
          · rw [addr_add]; exact hrep
        · cases he
      · cases he
    · rename_i vs r
      simp only at he
      split at he
      · rename_i el' hel
        split at he
        · rename_i hz
          cases he
          obtain ⟨b, o1, cap, ex, hrep⟩ := elem_fptr (.inr ⟨r, hx⟩) hel hz
          rw [Heap.act_pure _ _ rfl rfl rfl]
          refine ⟨_, w, .inl (core _ _ _ ex ?_), Out.pure hI ?_⟩
          · have := (List.getElem?_eq_some_iff.1 hel).1; omega
          · rw [addr_add]; exact hrep
        · cases he
      · cases he
    · rename_i i' t' off len
      simp only at he
      split at he
      · rename_i hlt
        cases he
        obtain ⟨b, cap, hb, ex, _⟩ := hx.sl_inv
        rw [Heap.act_pure _ _ rfl rfl rfl]
        refine ⟨_, w, .inl (core _ _ _ ex (by omega)), Out.pure hI ?_⟩
        rw [addr_add]; exact .ptr _ _ _ b hb
      · cases he
  · cases he

theorem ok_iaddr_array (hs : Slots K w s a.tmps) (hI : Inv n0 K h w) (o : Oper) (t el : TypeId) (m : Nat) (x y : Operand) (ho : o.op = .indexAddr t x y) {u : Ty} (ht : P.underlying t = some (.array m el)) (hc : cTy P el = some u)
    {call : FuncId → List AV → Option AV} {own : FuncId → Option Ty} {id : Id} {e : Ev} (he : evOp call own s h id tk (.iaddr u.sz (some m) (cX x) (cX y)) = some e) :
    ∃ v w', Comes1 P a o w v w' ∧ Out n0 K w tk (h.act e) e.v v w' := by
  have hx := rep_X hs x
  have hy := rep_X hs y
  have hsz := run_sizeOf1 (w := w) hc
  simp only [evOp] at he
  split at he
  · rename_i n hn
    obtain ⟨k, i, e1, hi0, rfl⟩ := idx_spec hn
    rw [e1] at hy
    have ey := hy.int_inv
    generalize (cX x).ev s = z at he hx
    split at he
    · rename_i hlt
      have hlt' : i < (m : Int) := by omega
      have core : ∀ (p : Addr), a.eval x = .pointer (some p) → (execOp a.eval o).run P w = .ok (.value (.pointer (some (p.add (i.toNat * u.sz))))) w := fun p ex => by
        simp [execOp, ho, Instr.indexAt, ex, ey, run_asIntOf, run_underlying1 ht, hi0, hlt', hsz, Instr.sureAddr]
      cases z <;> first | (simp at he; done) | skip
      · rename_i i' t' off
        simp only at he
        cases he
        obtain ⟨b, hb, ex⟩ := hx.ptr_inv
        rw [Heap.act_pure _ _ rfl rfl rfl]
        refine ⟨_, w, .inl (core _ ex), Out.pure hI ?_⟩
        rw [addr_add]; exact .ptr _ _ _ b hb
      · rename_i cs
        simp only at he
        cases he
        obtain ⟨b, off, val, ex, hv, hr, hfl⟩ := hx.fptr_inv
        rw [Heap.act_pure _ _ rfl rfl rfl]
        refine ⟨_, w, .inl (core _ ex), Out.pure hI ?_⟩
        rw [addr_add]; exact rep_fptr_drop _ hfl hv hr
    · cases he
  · cases he

theorem part_spec {t : TypeId} {u : Ty} (hc : cTy P t = some u) {cs r : List AV} {arr : Array Value} {off : Nat} (hl : arr.size = cs.length) (hf : ∀ x ∈ cs, x.flat = true) (hrep : ∀ j c, cs[j]? = some c → Rep K w c (arr.getD j undef)) (hs : sub cs off u.sz = some r) :
    ∃ v, (part t arr off).run P w = .ok v w ∧ Rep K w (ofCells u.ag r) v := by
  have hagg := run_isAgg1 (w := w) hc
  have hsz := run_sizeOf1 (w := w) hc
  obtain ⟨hlen, hsub, hmem⟩ := sub_spec hs
  have hle : off + u.sz ≤ cs.length := by
    unfold sub at hs
    split at hs
    · assumption
    · cases hs
  cases hag : u.ag with
  | true =>
    refine ⟨_, by simp [part, hagg, hag, hsz]; rfl, .agg r _ (fun x hx => hf x (hmem x hx)) (by simp; omega) (fun j c hj => ?_)⟩
    have h1 := hrep _ c (hsub j c hj)
    have hjl : j < u.sz := by rw [← hlen]; exact (List.getElem?_eq_some_iff.1 hj).1
    rw [Array.getD_eq_getD_getElem?, Array.getElem?_extract, if_pos (by omega)]
    simpa [Array.getD_eq_getD_getElem?] using h1
  | false =>
    obtain ⟨_, _, _, _, _, _, _, _, _, _, h1, _⟩ := cTy_spec hc
    have h1 := h1 hag
    match r, hlen with
    | [c], _ =>
      have h2 := hrep _ c (hsub 0 c rfl)
      simp only [Nat.add_zero] at h2
      have hlt : off < arr.size := by omega
      refine ⟨arr.getD off undef, by simp [part, hagg, hag, hlt], h2⟩
    | [], hlen => simp at hlen; omega
    | _ :: _ :: _, hlen => simp at hlen; omega

theorem ok_field (hs : Slots K w s a.tmps) (hI : Inv n0 K h w) (o : Oper) (t : TypeId) (x : Operand) (f : Nat) (ho : o.op = .field t x f) {fs : Array Field} {g : Field} {u : Ty} (ht : P.underlying t = some (.struct fs)) (hf : fs[f]? = some g) (hc : cTy P g.type = some u)
    {call : FuncId → List AV → Option AV} {own : FuncId → Option Ty} {id : Id} {e : Ev} (he : evOp call own s h id tk (.field g.offset u.sz u.ag (cX x)) = some e) : ∃ v w', Comes1 P a o w v w' ∧ Out n0 K w tk (h.act e) e.v v w' := by
  have hx := rep_X hs x
  simp only [evOp] at he
  split at he
  · rename_i cs hcs
    rw [hcs] at hx
    obtain ⟨arr, ex, hl, hrep, hfl⟩ := hx.agg_inv
    split at he
    · rename_i r hr
      cases he
      obtain ⟨v, h1, h2⟩ := part_spec (P := P) hc hl hfl hrep hr
      rw [Heap.act_pure _ _ rfl rfl rfl]
      exact ⟨v, w, .inl (by simp [execOp, ho, Instr.field, run_underlying1 ht, hf, ex, asAgg, h1]), Out.pure hI h2⟩
    · cases he
  · cases he

end Go.Aw

/-
  Indexes of values, lengths, least and greatest, comparisons.
-/
namespace Go.Aw
open Go.RowKit

variable {P : Program} {n0 : Base} {K : Kx} {h : Heap} {w : World} {s : List AV} {a : Act} {tk : Tok}

theorem ok_index_array (hs : Slots K w s a.tmps) (hI : Inv n0 K h w) (o : Oper) (t el : TypeId) (m : Nat) (x y : Operand) (ho : o.op = .index t x y) {u : Ty} (ht : P.underlying t = some (.array m el)) (hc : cTy P el = some u)
    {call : FuncId → List AV → Option AV} {own : FuncId → Option Ty} {id : Id} {e : Ev} (he : evOp call own s h id tk (.index u.sz u.ag m (cX x) (cX y)) = some e) :
    ∃ v w', Comes1 P a o w v w' ∧ Out n0 K w tk (h.act e) e.v v w' := by
  have hx := rep_X hs x
  have hy := rep_X hs y
  have hsz := run_sizeOf1 (w := w) hc
  simp only [evOp] at he
  split at he
  · rename_i n hn
    obtain ⟨k, i, e1, hi0, rfl⟩ := idx_spec hn
    rw [e1] at hy
    have ey := hy.int_inv
    split at he
    · rename_i cs hcs
      rw [hcs] at hx
      obtain ⟨arr, ex, hl, hrep, hfl⟩ := hx.agg_inv
      split at he
      · rename_i hlt
        split at he
        · rename_i r hr
          cases he
          obtain ⟨v, h1, h2⟩ := part_spec (P := P) hc hl hfl hrep hr
          rw [Heap.act_pure _ _ rfl rfl rfl]
          have hlt' : i < (m : Int) := by omega
          exact ⟨v, w, .inl (by simp [execOp, ho, Instr.index, ex, ey, run_asIntOf, run_underlying1 ht, hi0, hlt', hsz, h1]), Out.pure hI h2⟩
        · cases he
      · cases he
    · cases he
  · cases he

theorem ok_index_str (hs : Slots K w s a.tmps) (hI : Inv n0 K h w) (o : Oper) (t : TypeId) (x y : Operand) (ho : o.op = .index t x y) (ht : P.underlying t = some .string)
    {call : FuncId → List AV → Option AV} {own : FuncId → Option Ty} {id : Id} {e : Ev} (he : evOp call own s h id tk (.sindex (cX x) (cX y)) = some e) :
    ∃ v w', Comes1 P a o w v w' ∧ Out n0 K w tk (h.act e) e.v v w' := by
  have hx := rep_X hs x
  have hy := rep_X hs y
  simp only [evOp] at he
  split at he
  · rename_i n hn
    obtain ⟨k, i, e1, hi0, rfl⟩ := idx_spec hn
    rw [e1] at hy
    have ey := hy.int_inv
    split at he
    · rename_i b hb
      rw [hb] at hx
      have ex := hx.str_inv
      split at he
      · rename_i hlt
        cases he
        rw [Heap.act_pure _ _ rfl rfl rfl]
        refine ⟨_, w, .inl (by simp [execOp, ho, Instr.index, ex, ey, run_asIntOf, run_underlying1 ht, hi0, hlt]), Out.pure hI (.int _ _)⟩
      · cases he
    · cases he
  · cases he

theorem run_len_slice {t ty : TypeId} {el : TypeId} (ht : P.underlying t = some (.slice el)) (p : Option Addr) (n c : Nat) : (Builtin.len_ #[t] ty #[.slice p n c]).run P w = .ok (.int .i64 n) w := by
  simp [Builtin.len_, run_underlying1 ht, goInt]
theorem run_len_str {t ty : TypeId} (ht : P.underlying t = some .string) (b : ByteArray) : (Builtin.len_ #[t] ty #[.string b]).run P w = .ok (.int .i64 b.size) w := by
  simp [Builtin.len_, run_underlying1 ht, goInt]

theorem exec_builtin (o : Oper) (b : Builtin) (c : Call) (ho : o.op = .call c) (hc : c.callee = .builtin b) :
    (execOp a.eval o).run P w = (builtin b c.argTypes o.type (c.args.map fun | .const _ => true | _ => false) (c.args.map a.eval)).run P w := by
  obtain ⟨ce, as, ts⟩ := c
  subst hc
  simp [execOp, ho, resolve, invoke]
  rfl

theorem Rep.slice_len {x : AV} {v : Value} (hx : Rep K w x v) {n : Nat} (hn : (x = .nil ∧ n = 0) ∨ (∃ vs, x = .list vs ∧ n = vs.length) ∨ (∃ vs r, x = .rl vs r ∧ n = vs.length) ∨ ∃ i t off, x = .sl i t off n) : ∃ p c, v = .slice p n c := by
  rcases hn with ⟨rfl, rfl⟩ | ⟨vs, rfl, rfl⟩ | ⟨vs, r, rfl, rfl⟩ | ⟨i, t, off, rfl⟩
  · exact ⟨none, 0, hx.nil_inv⟩
  · obtain ⟨p, cap, _, _, _, _, e, _⟩ := hx.list_inv; exact ⟨p, cap, e⟩
  · obtain ⟨cap, _, b, _, e, _⟩ := hx.rl_inv; exact ⟨_, cap, e⟩
  · obtain ⟨b, cap, _, e, _⟩ := hx.sl_inv; exact ⟨_, cap, e⟩

theorem ok_slen (hs : Slots K w s a.tmps) (hI : Inv n0 K h w) (o : Oper) (c : Call) (ho : o.op = .call c) (hb : c.callee = .builtin .len) (x : Operand) (hx1 : c.args = #[x]) (t : TypeId) (ht1 : c.argTypes = #[t])
    (ht : P.underlying t = some .string) {call : FuncId → List AV → Option AV} {own : FuncId → Option Ty} {id : Id} {e : Ev} (he : evOp call own s h id tk (.slen (cX x)) = some e) :
    ∃ v w', Comes1 P a o w v w' ∧ Out n0 K w tk (h.act e) e.v v w' := by
  have hx := rep_X hs x
  have hrun := exec_builtin (P := P) (w := w) (a := a) o .len c ho hb
  rw [hx1, ht1] at hrun
  simp only [evOp] at he
  split at he
  · rename_i b hb
    cases he
    rw [hb] at hx
    have ev := hx.str_inv
    rw [Heap.act_pure _ _ rfl rfl rfl]
    refine ⟨.int .i64 b.size, w, .inl ?_, Out.pure hI (.int _ _)⟩
    rw [hrun]
    simp [builtin, ev, run_len_str ht]
  · cases he

theorem ok_len (hs : Slots K w s a.tmps) (hI : Inv n0 K h w) (o : Oper) (c : Call) (ho : o.op = .call c) (hb : c.callee = .builtin .len) (x : Operand) (hx1 : c.args = #[x]) (t el : TypeId) (ht1 : c.argTypes = #[t])
    (ht : P.underlying t = some (.slice el)) {call : FuncId → List AV → Option AV} {own : FuncId → Option Ty} {id : Id} {e : Ev} (he : evOp call own s h id tk (.len (cX x)) = some e) :
    ∃ v w', Comes1 P a o w v w' ∧ Out n0 K w tk (h.act e) e.v v w' := by
  have hx := rep_X hs x
  have hrun := exec_builtin (P := P) (w := w) (a := a) o .len c ho hb
  rw [hx1, ht1] at hrun
  simp only [evOp] at he
  generalize (cX x).ev s = z at he hx
  have core : ∀ n : Nat, ((z = .nil ∧ n = 0) ∨ (∃ vs, z = .list vs ∧ n = vs.length) ∨ (∃ vs r, z = .rl vs r ∧ n = vs.length) ∨ ∃ i t off, z = .sl i t off n) → (execOp a.eval o).run P w = .ok (.value (.int .i64 n)) w := fun n hn => by
    obtain ⟨p, cc, ev⟩ := hx.slice_len hn
    rw [hrun]
    simp [builtin, ev, run_len_slice ht]
  cases z <;> first | (simp at he; done) | skip
  · simp only at he
    cases he
    rw [Heap.act_pure _ _ rfl rfl rfl]
    exact ⟨_, w, .inl (core 0 (.inl ⟨rfl, rfl⟩)), Out.pure hI (.int _ _)⟩
  · rename_i vs
    simp only at he
    cases he
    rw [Heap.act_pure _ _ rfl rfl rfl]
    exact ⟨_, w, .inl (core vs.length (.inr (.inl ⟨vs, rfl, rfl⟩))), Out.pure hI (.int _ _)⟩
  · rename_i vs r
    simp only at he
    cases he
    rw [Heap.act_pure _ _ rfl rfl rfl]
    exact ⟨_, w, .inl (core vs.length (.inr (.inr (.inl ⟨vs, r, rfl, rfl⟩)))), Out.pure hI (.int _ _)⟩
  · rename_i i t' off n
    simp only at he
    cases he
    rw [Heap.act_pure _ _ rfl rfl rfl]
    exact ⟨_, w, .inl (core n (.inr (.inr (.inr ⟨i, t', off, rfl⟩)))), Out.pure hI (.int _ _)⟩

theorem ok_cap (hs : Slots K w s a.tmps) (hI : Inv n0 K h w) (o : Oper) (c : Call) (ho : o.op = .call c) (hb : c.callee = .builtin .cap) (x : Operand) (hx1 : c.args = #[x]) (t el : TypeId) (ht1 : c.argTypes = #[t])
    (ht : P.underlying t = some (.slice el)) {call : FuncId → List AV → Option AV} {own : FuncId → Option Ty} {id : Id} {e : Ev} (he : evOp call own s h id tk (.cap (cX x)) = some e) :
    ∃ v w', Comes1 P a o w v w' ∧ Out n0 K w tk (h.act e) e.v v w' := by
  have hx := rep_X hs x
  have hrun := exec_builtin (P := P) (w := w) (a := a) o .cap c ho hb
  rw [hx1, ht1] at hrun
  simp only [evOp] at he
  split at he
  · rename_i hz
    cases he
    rw [hz] at hx
    have ev := hx.nil_inv
    rw [Heap.act_pure _ _ rfl rfl rfl]
    refine ⟨.int .i64 0, w, .inl ?_, Out.pure hI (.int _ _)⟩
    rw [hrun]
    simp [builtin, ev, Builtin.cap_, run_underlying1 ht, goInt]
  · cases he

theorem amin_spec {f : Value → Value → Sem Value} (hf : ∀ k x y, f (.int k x) (.int k y) = Pure.pure (.int k (if y < x then y else x))) : ∀ (ys : List AV) (x r : AV) (vs : List Value) (v : Value), amin x ys = some r → Rep K w x v → Reps K w ys vs →
    ∃ q, (vs.foldlM f v).run P w = .ok q w ∧ Rep K w r q
  | [], x, r, vs, v, hm, hx, hys => by
    simp only [amin] at hm
    cases hm
    match vs, hys.1 with
    | [], _ => exact ⟨v, rfl, hx⟩
  | y :: ys, x, r, vs, v, hm, hx, hys => by
    match vs, hys.1 with
    | u :: vs, _ =>
      have hu := hys.head
      have ht := hys.tail
      cases x <;> cases y <;> first | (simp [amin] at hm; done) | skip
      rename_i k p j q
      simp only [amin] at hm
      split at hm
      · rename_i hk
        subst hk
        have ev := hx.int_inv
        have eu := hu.int_inv
        subst ev; subst eu
        obtain ⟨z, h1, h2⟩ := amin_spec hf ys _ r vs _ hm (.int _ _) ht
        exact ⟨z, by simp [List.foldlM_cons, hf, h1], h2⟩
      · cases hm

theorem amax_spec {f : Value → Value → Sem Value} (hf : ∀ k x y, f (.int k x) (.int k y) = Pure.pure (.int k (if y > x then y else x))) : ∀ (ys : List AV) (x r : AV) (vs : List Value) (v : Value), amax x ys = some r → Rep K w x v → Reps K w ys vs →
    ∃ q, (vs.foldlM f v).run P w = .ok q w ∧ Rep K w r q
  | [], x, r, vs, v, hm, hx, hys => by
    simp only [amax] at hm
    cases hm
    match vs, hys.1 with
    | [], _ => exact ⟨v, rfl, hx⟩
  | y :: ys, x, r, vs, v, hm, hx, hys => by
    match vs, hys.1 with
    | u :: vs, _ =>
      have hu := hys.head
      have ht := hys.tail
      cases x <;> cases y <;> first | (simp [amax] at hm; done) | skip
      rename_i k p j q
      simp only [amax] at hm
      split at hm
      · rename_i hk
        subst hk
        have ev := hx.int_inv
        have eu := hu.int_inv
        subst ev; subst eu
        obtain ⟨z, h1, h2⟩ := amax_spec hf ys _ r vs _ hm (.int _ _) ht
        exact ⟨z, by simp [List.foldlM_cons, hf, h1], h2⟩
      · cases hm

theorem reps_map (hs : Slots K w s a.tmps) (l : List Operand) : Reps K w ((l.map cX).map (·.ev s)) (l.map a.eval) := by
  refine ⟨by simp, fun j b hb => ?_⟩
  simp only [List.getElem?_map] at hb
  cases e : l[j]? with
  | none => rw [e] at hb; simp at hb
  | some x =>
    rw [e] at hb
    simp at hb
    subst hb
    rw [List.getD_eq_getElem?_getD, List.getElem?_map, e]
    exact rep_X hs x

theorem ok_min (hs : Slots K w s a.tmps) (hI : Inv n0 K h w) (o : Oper) (c : Call) (ho : o.op = .call c) (hb : c.callee = .builtin .min) (x : Operand) (r : List Operand) (hx1 : c.args.toList = x :: r)
    {call : FuncId → List AV → Option AV} {own : FuncId → Option Ty} {id : Id} {e : Ev} (he : evOp call own s h id tk (.min (cX x) (r.map cX)) = some e) :
    ∃ v w', Comes1 P a o w v w' ∧ Out n0 K w tk (h.act e) e.v v w' := by
  have hrun := exec_builtin (P := P) (w := w) (a := a) o .min c ho hb
  simp only [evOp] at he
  split at he
  · rename_i v hv
    cases he
    obtain ⟨q, h1, h2⟩ := amin_spec (P := P) (f := Builtin.min2) (fun k x y => rfl) _ _ _ _ _ hv (rep_X hs x) (reps_map hs r)
    rw [Heap.act_pure _ _ rfl rfl rfl]
    refine ⟨q, w, .inl ?_, Out.pure hI h2⟩
    rw [hrun]
    simp [builtin, Builtin.min_, hx1, h1]
  · cases he

theorem ok_max (hs : Slots K w s a.tmps) (hI : Inv n0 K h w) (o : Oper) (c : Call) (ho : o.op = .call c) (hb : c.callee = .builtin .max) (x : Operand) (r : List Operand) (hx1 : c.args.toList = x :: r)
    {call : FuncId → List AV → Option AV} {own : FuncId → Option Ty} {id : Id} {e : Ev} (he : evOp call own s h id tk (.max (cX x) (r.map cX)) = some e) :
    ∃ v w', Comes1 P a o w v w' ∧ Out n0 K w tk (h.act e) e.v v w' := by
  have hrun := exec_builtin (P := P) (w := w) (a := a) o .max c ho hb
  simp only [evOp] at he
  split at he
  · rename_i v hv
    cases he
    obtain ⟨q, h1, h2⟩ := amax_spec (P := P) (f := Builtin.max2) (fun k x y => rfl) _ _ _ _ _ hv (rep_X hs x) (reps_map hs r)
    rw [Heap.act_pure _ _ rfl rfl rfl]
    refine ⟨q, w, .inl ?_, Out.pure hI h2⟩
    rw [hrun]
    simp [builtin, Builtin.max_, hx1, h1]
  · cases he

end Go.Aw

/-
  Trees: what is handed away for reading.
-/
namespace Go.Aw
open Go.RowKit

variable {P : Program} {n0 : Base} {K : Kx} {h : Heap} {w : World} {s : List AV} {a : Act} {tk : Tok}

def Kx.cover (K : Kx) (h : Heap) (ids : List Id) : Kx := { K with prot := fun b i => K.prot b i ∨ ∃ id ∈ ids, ∃ o, h.get id = some o ∧ K.bl o.t = some b ∧ i < o.cells.length }
theorem Kx.le_cover (K : Kx) (h : Heap) (ids : List Id) : K.le (K.cover h ids) := ⟨fun _ _ h => .inl h, fun _ h => h, fun _ _ h => h, fun _ _ _ => rfl, fun _ _ _ => rfl⟩

theorem mapT_spec {f : AV → Option (AV × List Id)} : ∀ {as ts : List AV} {ids : List Id}, mapT f as = some (ts, ids) → ts.length = as.length ∧ ∀ (j : Nat) (v : AV), as[j]? = some v → ∃ t is, f v = some (t, is) ∧ ts[j]? = some t ∧ ∀ i ∈ is, i ∈ ids
  | [], ts, ids, h => by simp [mapT] at h; obtain ⟨rfl, rfl⟩ := h; exact ⟨rfl, fun j v hj => by simp at hj⟩
  | v :: r, ts, ids, h => by
    simp only [mapT] at h
    split at h
    · rename_i t is hv
      split at h
      · rename_i ts' is' hr
        cases h
        obtain ⟨h1, h2⟩ := mapT_spec hr
        refine ⟨by simp [h1], fun j u hj => ?_⟩
        cases j with
        | zero => simp at hj; subst hj; exact ⟨t, is, hv, rfl, fun i hi => by simp [hi]⟩
        | succ j =>
          simp at hj
          obtain ⟨t', is2, g1, g2, g3⟩ := h2 j u hj
          exact ⟨t', is2, g1, by simpa using g2, fun i hi => by simp [g3 i hi]⟩
      · cases h
    · cases h

theorem group_length (esz : Nat) (ag : Bool) : ∀ (n : Nat) (cs : List AV), (group esz ag n cs).length = n
  | 0, _ => rfl
  | n + 1, cs => by simp [group, group_length esz ag n]

theorem group_get (esz : Nat) (ag : Bool) : ∀ (n : Nat) (cs : List AV) (j : Nat), j < n → (group esz ag n cs)[j]? = some (ofCells ag ((cs.drop (j * esz)).take esz))
  | 0, _, j, h => by omega
  | n + 1, cs, 0, h => by simp [group]
  | n + 1, cs, j + 1, h => by
    simp only [group, List.getElem?_cons_succ]
    rw [group_get esz ag n (cs.drop esz) j (by omega), List.drop_drop, Nat.succ_mul, Nat.add_comm]

theorem flat_get_inv {es : List AV} {s : Nat} (hs : ∀ e ∈ es, e.cells.length = s) : ∀ {p : Nat} {c : AV}, (es.flatMap AV.cells)[p]? = some c → ∃ (i j : Nat) (e : AV), p = i * s + j ∧ j < s ∧ es[i]? = some e ∧ e.cells[j]? = some c := by
  induction es with
  | nil => intro p c hp; simp at hp
  | cons x r ih =>
    intro p c hp
    have hx : x.cells.length = s := hs x (by simp)
    simp only [List.flatMap_cons] at hp
    by_cases hlt : p < s
    · rw [List.getElem?_append_left (by omega)] at hp
      exact ⟨0, p, x, by simp, hlt, rfl, hp⟩
    · rw [List.getElem?_append_right (by omega), hx] at hp
      obtain ⟨i, j, e, h1, h2, h3, h4⟩ := ih (fun e he => hs e (by simp [he])) hp
      exact ⟨i + 1, j, e, by rw [Nat.succ_mul]; omega, h2, by simpa using h3, h4⟩

theorem mem_getElem? {l : List AV} {x : AV} (hx : x ∈ l) : ∃ j : Nat, l[j]? = some x := by
  obtain ⟨j, hj, rfl⟩ := List.getElem_of_mem hx
  exact ⟨j, by simp⟩

/-- What is told of a value that is handed away stands for the same value. -/
theorem toTree_ok (hI : Inv n0 K h w) : ∀ (n : Nat) (v : AV) (x : Value) (t : AV) (ids ids' : List Id), Rep K w v x → toTree h n v = some (t, ids) → (∀ i ∈ ids, i ∈ ids') →
    Rep (K.cover h ids').bare w t x ∧ (v.flat = true → t.flat = true) ∧ t.cells.length = v.cells.length := by
  intro n
  induction n with
  | zero => intro v x t ids ids' _ ht; simp [toTree] at ht
  | succ n ih =>
    intro v x t ids ids' hx ht hsub
    have hK := K.le_cover h ids'
    have same : ∀ {u : AV}, Rep K.bare w u x → Rep (K.cover h ids').bare w u x := fun hu => hu.mono hK.bare (.refl _ _)
    -- lists of values, each told
    have many : ∀ (as ts : List AV) (is : List Id), mapT (toTree h n) as = some (ts, is) → (∀ i ∈ is, i ∈ ids') → ts.length = as.length ∧ (∀ (j : Nat) (y : Value) (u c : AV), as[j]? = some u → ts[j]? = some c → Rep K w u y → Rep (K.cover h ids').bare w c y ∧ (u.flat = true → c.flat = true) ∧ c.cells.length = u.cells.length) := fun as ts is hm hs => by
      obtain ⟨h1, h2⟩ := mapT_spec hm
      refine ⟨h1, fun j y u c hj hc hr => ?_⟩
      obtain ⟨t', is', g1, g2, g3⟩ := h2 j u hj
      rw [g2] at hc
      cases hc
      exact ih u y c is' ids' hr g1 (fun i hi => hs i (g3 i hi))
    cases v with
    | undef => simp [toTree] at ht; obtain ⟨rfl, rfl⟩ := ht; exact ⟨same (hx.tobare rfl), fun h => h, rfl⟩
    | bool b => simp [toTree] at ht; obtain ⟨rfl, rfl⟩ := ht; exact ⟨same (hx.tobare rfl), fun h => h, rfl⟩
    | int k i => simp [toTree] at ht; obtain ⟨rfl, rfl⟩ := ht; exact ⟨same (hx.tobare rfl), fun h => h, rfl⟩
    | str b => simp [toTree] at ht; obtain ⟨rfl, rfl⟩ := ht; exact ⟨same (hx.tobare rfl), fun h => h, rfl⟩
    | nilfn => simp [toTree] at ht; obtain ⟨rfl, rfl⟩ := ht; exact ⟨same (hx.tobare rfl), fun h => h, rfl⟩
    | list vs => simp [toTree] at ht; obtain ⟨rfl, rfl⟩ := ht; exact ⟨same (hx.tobare rfl), fun h => h, rfl⟩
    | map es => simp [toTree] at ht; obtain ⟨rfl, rfl⟩ := ht; exact ⟨same (hx.tobare rfl), fun h => h, rfl⟩
    | fptr cs => simp [toTree] at ht; obtain ⟨rfl, rfl⟩ := ht; exact ⟨same (hx.tobare rfl), fun h => h, rfl⟩
    | nil =>
      simp [toTree] at ht
      obtain ⟨rfl, rfl⟩ := ht
      rw [hx.nil_inv]
      exact ⟨.list [] none 0 0 0 0 (fun _ => default) (Nat.le_refl _) (Nat.zero_le _) (fun x h => by simp at h) (fun e h => by simp at h) (fun h => absurd rfl h) (fun j c h => by simp at h) (fun j c h => by simp at h), fun _ => rfl, rfl⟩
    | rl vs r =>
      simp [toTree] at ht
      obtain ⟨rfl, rfl⟩ := ht
      obtain ⟨cap, sz, b, val, rfl, hc, hm, hs, _, _, _, _, hv, hr, hf⟩ := hx.rl_inv
      exact ⟨.list vs _ cap sz b 0 val hc hm hf hs (fun _ => rfl) (fun j c hj => by rw [Nat.zero_add]; exact ⟨hK.prot _ _ (hv j c hj).1, (hv j c hj).2⟩) (fun j c hj => (hr j c hj).mono hK.bare (.refl _ _)), fun _ => rfl, rfl⟩
    | agg as =>
      simp only [toTree] at ht
      split at ht
      · rename_i ts is hm
        cases ht
        obtain ⟨arr, rfl, hl, hrep, hf⟩ := hx.agg_inv
        obtain ⟨m1, m2⟩ := many as ts ids hm hsub
        have hget : ∀ (j : Nat) (c : AV), ts[j]? = some c → ∃ u, as[j]? = some u := fun j c hj => by
          have := (List.getElem?_eq_some_iff.1 hj).1
          exact ⟨as[j]'(by omega), by simp⟩
        refine ⟨.agg ts arr (fun c hc => ?_) (by rw [hl, m1]) (fun j c hj => ?_), fun h => by simp [AV.flat] at h, m1⟩
        · obtain ⟨j, hj⟩ := mem_getElem? hc
          obtain ⟨u, hu⟩ := hget j c hj
          exact (m2 j _ u c hu hj (hrep j u hu)).2.1 (hf u (List.mem_of_getElem? hu))
        · obtain ⟨u, hu⟩ := hget j c hj
          exact (m2 j _ u c hu hj (hrep j u hu)).1
      · cases ht
    | tup as =>
      simp only [toTree] at ht
      split at ht
      · rename_i ts is hm
        cases ht
        obtain ⟨arr, rfl, hl, hrep⟩ := hx.tup_inv
        obtain ⟨m1, m2⟩ := many as ts ids hm hsub
        refine ⟨.tup ts arr (by rw [hl, m1]) (fun j c hj => ?_), fun h => by simp [AV.flat] at h, rfl⟩
        have := (List.getElem?_eq_some_iff.1 hj).1
        have hu : as[j]? = some (as[j]'(by omega)) := by simp
        exact (m2 j _ _ c hu hj (hrep j _ hu)).1
      · cases ht
    | fn f as =>
      simp only [toTree] at ht
      split at ht
      · rename_i ts is hm
        cases ht
        obtain ⟨arr, rfl, hl, hrep⟩ := hx.fn_inv
        obtain ⟨m1, m2⟩ := many as ts ids hm hsub
        refine ⟨.fn f ts arr (by rw [hl, m1]) (fun j c hj => ?_), fun _ => rfl, rfl⟩
        have := (List.getElem?_eq_some_iff.1 hj).1
        have hu : as[j]? = some (as[j]'(by omega)) := by simp
        exact (m2 j _ _ c hu hj (hrep j _ hu)).1
      · cases ht
    | ptr id t0 off =>
      simp only [toTree] at ht
      split at ht
      · rename_i o hrow
        split at ht
        · rename_i ts is hm
          cases ht
          obtain ⟨b, hb, rfl⟩ := hx.ptr_inv
          obtain ⟨arr, E, _, _, _, hfl, hcell, _⟩ := hI.cells hrow hb
          obtain ⟨hget, ht0⟩ := row_spec hrow
          obtain ⟨m1, m2⟩ := many _ ts is hm (fun i hi => hsub i (by simp [hi]))
          have hdrop : ∀ (j : Nat) (c : AV), ts[j]? = some c → ∃ u, (o.cells.drop off)[j]? = some u := fun j c hj => by
            have := (List.getElem?_eq_some_iff.1 hj).1
            exact ⟨(o.cells.drop off)[j]'(by omega), by simp⟩
          refine ⟨.fptr ts b off (fun j => arr.getD (off + j) undef) (fun c hc => ?_) (fun j c hj => ?_) (fun j c hj => ?_), fun _ => rfl, rfl⟩
          · obtain ⟨j, hj⟩ := mem_getElem? hc
            obtain ⟨u, hu⟩ := hdrop j c hj
            have hu' := drop_get hu
            exact (m2 j _ u c hu hj (hcell _ u hu').2).2.1 (hfl.2.2 u (List.mem_of_getElem? hu'))
          · obtain ⟨u, hu⟩ := hdrop j c hj
            have hu' := drop_get hu
            refine ⟨.inr ⟨id, hsub id (by simp), o, hget, by rw [ht0]; exact hb, (List.getElem?_eq_some_iff.1 hu').1⟩, (hcell _ u hu').1⟩
          · obtain ⟨u, hu⟩ := hdrop j c hj
            have hu' := drop_get hu
            exact (m2 j _ u c hu hj (hcell _ u hu').2).1
        · cases ht
      · cases ht
    | sl id t0 off len =>
      simp only [toTree] at ht
      split at ht
      · rename_i o hrow
        split at ht
        · rename_i hcond
          obtain ⟨hz, hle⟩ := hcond
          split at ht
          · rename_i ts is hm
            cases ht
            obtain ⟨b, cap, hb, rfl, hc, hmx, _⟩ := hx.sl_inv
            obtain ⟨arr, E, _, _, hes, hfl, hcell, _⟩ := hI.cells hrow hb
            obtain ⟨hget, ht0⟩ := row_spec hrow
            have hsubs : ∀ i ∈ is, i ∈ ids' := fun i hi => hsub i (by simp [hi])
            obtain ⟨m1, m2⟩ := mapT_spec hm
            rw [group_length] at m1
            have hag := (hes hz).2
            -- each element, and each of its cells
            have el : ∀ (i : Nat) (e : AV), ts[i]? = some e → e.cells.length = o.esz ∧ ∀ (j : Nat) (c : AV), e.cells[j]? = some c → ∃ u, o.cells[off + (i * o.esz + j)]? = some u ∧ Rep (K.cover h ids').bare w c (arr.getD (off + (i * o.esz + j)) undef) ∧ c.flat = true := by
              intro i e hi
              have hilt : i < len := by have := (List.getElem?_eq_some_iff.1 hi).1; omega
              have hmul : i * o.esz + o.esz ≤ len * o.esz := by rw [← Nat.succ_mul]; exact Nat.mul_le_mul_right _ hilt
              have hgi := group_get o.esz o.ag len (o.cells.drop off) i hilt
              have hlen : (((o.cells.drop off).drop (i * o.esz)).take o.esz).length = o.esz := by simp; omega
              have hcells : ∀ (j : Nat) (u : AV), (((o.cells.drop off).drop (i * o.esz)).take o.esz)[j]? = some u → o.cells[off + (i * o.esz + j)]? = some u := fun j u hj => by
                rw [List.getElem?_take] at hj
                split at hj
                · have := drop_get (drop_get hj); exact this
                · cases hj
              obtain ⟨t', is', g1, g2, g3⟩ := m2 i _ hgi
              rw [g2] at hi
              cases hi
              cases hag' : o.ag with
              | true =>
                rw [hag'] at g1
                simp only [ofCells, if_true] at g1
                -- an element that is a struct
                have hrepA : Rep K w (.agg (((o.cells.drop off).drop (i * o.esz)).take o.esz)) (.agg (((List.range o.esz).map fun j => arr.getD (off + (i * o.esz + j)) undef).toArray)) := by
                  refine .agg _ _ (fun c hc => ?_) (by simp; omega) (fun j c hj => ?_)
                  · obtain ⟨j, hj⟩ := mem_getElem? hc
                    exact hfl.2.2 c (List.mem_of_getElem? (hcells j c hj))
                  · have hjl : j < o.esz := by have := (List.getElem?_eq_some_iff.1 hj).1; omega
                    have := (hcell _ c (hcells j c hj)).2
                    simpa [Array.getD_eq_getD_getElem?, hjl] using this
                obtain ⟨r1, _, r3⟩ := ih _ _ e is' ids' hrepA g1 (fun i hi => hsubs i (g3 i hi))
                refine ⟨by rw [r3]; simp only [AV.cells]; exact hlen, fun j c hj => ?_⟩
                -- e is a struct
                cases n with
                | zero => simp [toTree] at g1
                | succ n =>
                  simp only [toTree] at g1
                  split at g1
                  · cases g1
                    obtain ⟨arr2, he2, hl2, hr2, hf2⟩ := r1.agg_inv
                    simp only [AV.cells] at hj
                    have hjl : j < o.esz := by
                      have h1 := (List.getElem?_eq_some_iff.1 hj).1
                      simp only [AV.cells] at r3
                      omega
                    have hc2 := hr2 j c hj
                    cases he2
                    refine ⟨o.cells[off + (i * o.esz + j)]'(by omega), by simp, ?_, hf2 c (List.mem_of_getElem? hj)⟩
                    simpa [Array.getD_eq_getD_getElem?, hjl] using hc2
                  · cases g1
              | false =>
                have h1 : o.esz = 1 := hag hag'
                rw [hag'] at g1
                have hone : ∃ u, ((o.cells.drop off).drop (i * o.esz)).take o.esz = [u] := by
                  match hq : ((o.cells.drop off).drop (i * o.esz)).take o.esz, hlen with
                  | [u], _ => exact ⟨u, rfl⟩
                  | [], hlen => rw [h1] at hlen; simp at hlen
                  | _ :: _ :: _, hlen => rw [h1] at hlen; simp at hlen
                obtain ⟨u, hu⟩ := hone
                have hu0 := hcells 0 u (by rw [hu]; rfl)
                simp only [Nat.add_zero] at hu0
                rw [hu] at g1
                simp only [ofCells] at g1
                simp at g1
                have hufl := hfl.2.2 u (List.mem_of_getElem? hu0)
                obtain ⟨r1, r2, r3⟩ := ih u _ e is' ids' (hcell _ u hu0).2 g1 (fun i hi => hsubs i (g3 i hi))
                have hefl := r2 hufl
                have hec : e.cells = [e] := by cases e <;> first | rfl | (simp [AV.flat] at hefl)
                refine ⟨by rw [hec, h1]; rfl, fun j c hj => ?_⟩
                rw [hec] at hj
                cases j with
                | zero => simp at hj; subst hj; exact ⟨u, by simpa using hu0, by simpa using r1, hefl⟩
                | succ j => simp at hj
            have hmem : ∀ e ∈ ts, e.cells.length = o.esz := fun e he => by
              obtain ⟨i, hi⟩ := mem_getElem? he
              exact (el i e hi).1
            refine ⟨?_, fun _ => rfl, rfl⟩
            have hlen : ts.length = len := m1
            rw [← hlen]
            refine .list ts _ cap o.esz b off (fun j => arr.getD (off + j) undef) (by omega) hmx (fun c hc => ?_) hmem (fun _ => rfl) (fun p c hp => ?_) (fun p c hp => ?_)
            · obtain ⟨p, hp⟩ := mem_getElem? hc
              obtain ⟨i, j, e, _, _, h3, h4⟩ := flat_get_inv hmem hp
              obtain ⟨_, _, _, hf⟩ := (el i e h3).2 j c h4
              exact hf
            · obtain ⟨i, j, e, rfl, _, h3, h4⟩ := flat_get_inv hmem hp
              obtain ⟨u, hu, _, _⟩ := (el i e h3).2 j c h4
              exact ⟨.inr ⟨id, hsub id (by simp), o, hget, by rw [ht0]; exact hb, (List.getElem?_eq_some_iff.1 hu).1⟩, (hcell _ u hu).1⟩
            · obtain ⟨i, j, e, rfl, _, h3, h4⟩ := flat_get_inv hmem hp
              obtain ⟨u, hu, hr, _⟩ := (el i e h3).2 j c h4
              exact hr
          · cases ht
        · cases ht
      · cases ht

end Go.Aw

/-
  New variables and rows; stores.
-/
namespace Go.Aw
open Go.RowKit

variable {P : Program} {n0 : Base} {K : Kx} {h : Heap} {w : World} {s : List AV} {a : Act} {tk : Tok}

theorem cells_rep {v : AV} {x : Value} (hr : Rep K w v x) (hs : v.solid = true) : v.cells.length = x.cells.size ∧ (∀ (j : Nat) (c : AV), v.cells[j]? = some c → Rep K w c (x.cells.getD j undef)) ∧ ∀ c ∈ v.cells, c.flat = true := by
  have one : ∀ {v : AV} {x : Value}, Rep K w v x → v.flat = true → v.cells = [v] → x.cells = #[x] → v.cells.length = x.cells.size ∧ (∀ (j : Nat) (c : AV), v.cells[j]? = some c → Rep K w c (x.cells.getD j undef)) ∧ ∀ c ∈ v.cells, c.flat = true := fun hr hf h1 h2 => by
    rw [h1, h2]
    refine ⟨rfl, fun j c hj => ?_, fun c hc => by simp at hc; subst hc; exact hf⟩
    cases j with
    | zero => simp at hj; subst hj; exact hr
    | succ j => simp at hj
  cases hr with
  | undef v => simp [AV.solid, AV.one] at hs
  | tup as cs hl h => simp [AV.solid, AV.one] at hs
  | agg as cs hf hl h => exact ⟨hl.symm, h, hf⟩
  | bool b => exact one (.bool b) rfl rfl rfl
  | int k n => exact one (.int k n) rfl rfl rfl
  | str s => exact one (.str s) rfl rfl rfl
  | nilfn => exact one .nilfn rfl rfl rfl
  | nil => exact one .nil rfl rfl rfl
  | fn f cap cs hl h => exact one (.fn f cap cs hl h) rfl rfl rfl
  | list es a cap s b o val h1 h2 h3 h4 h5 h6 h7 => exact one (.list es a cap s b o val h1 h2 h3 h4 h5 h6 h7) rfl rfl rfl
  | rl es t cap s b val h1 h2 h3 h4 h5 h6 h7 h8 h9 h10 => exact one (.rl es t cap s b val h1 h2 h3 h4 h5 h6 h7 h8 h9 h10) rfl rfl rfl
  | sl id t off len cap b h1 h2 h3 h4 => exact one (.sl id t off len cap b h1 h2 h3 h4) rfl rfl rfl
  | ptr id t off b h1 => exact one (.ptr id t off b h1) rfl rfl rfl
  | fptr cs b o val h1 h2 h3 => exact one (.fptr cs b o val h1 h2 h3) rfl rfl rfl
  | map es b c ents h1 h2 h3 h4 h5 => exact one (.map es b c ents h1 h2 h3 h4 h5) rfl rfl rfl

theorem one_cell {v : AV} {x : Value} (hr : Rep K w v x) (h1 : v.one = true) : x.oneCell' = true := by
  cases hr <;> first | rfl | (simp [AV.one] at h1)

theorem Heap.act_up1 (h : Heap) (id : Id) (o : Obj) (v : AV) (rd wr : List Id) : h.act { v, up := [(id, o)], rd, wr } = h.upd id o := by
  unfold Heap.act
  simp only [Heap.ups, List.nil_append]
  have : (h.upd id o).rts.filter (fun t => !([] : List Tok).contains t) = (h.upd id o).rts := by simp [List.filter_eq_self.2]
  rw [this]

theorem zero_rep (z : Value) : ∀ (j : Nat) (c : AV), (ofConst1 z).cells[j]? = some c → Rep K w c (z.cells.getD j undef) := by
  have one : ∀ (z : Value), (ofConst1 z).cells = [ofConst1 z] → z.cells = #[z] → ∀ (j : Nat) (c : AV), (ofConst1 z).cells[j]? = some c → Rep K w c (z.cells.getD j undef) := fun z h1 h2 j c hj => by
    rw [h1] at hj
    rw [h2]
    cases j with
    | zero => simp at hj; subst hj; exact rep_const1 z
    | succ j => simp at hj
  have flat1 : ∀ v : AV, v.flat = true → v.cells = [v] := fun v hv => by cases v <;> first | rfl | (simp [AV.flat] at hv)
  cases z with
  | agg cs => exact (rep_consts cs).2
  | tuple vs => exact one _ rfl rfl
  | slice p n c => exact one _ (flat1 _ (flat_const _)) rfl
  | func f x y => exact one _ (flat1 _ (flat_const _)) rfl
  | _ => exact one _ rfl rfl

theorem cTy_zero {t : TypeId} {u : Ty} (hc : cTy P t = some u) : ∃ z, (zeroValue t).run P w = .ok z w ∧ z.cells.size = u.sz ∧ (∀ (j : Nat) (c : AV), u.zero[j]? = some c → Rep K w c (z.cells.getD j undef)) ∧ u.zero.length = u.sz ∧ ∀ c ∈ u.zero, c.flat = true := by
  obtain ⟨i, d, z, hi, hd, hz, h1, h2, h3, h4, h5, h6, h7, h8⟩ := cTy_spec hc
  refine ⟨z, by simp [zeroValue, run_typeInfo1 hi, hz], h7, fun j c hj => ?_, h6, h8⟩
  rw [h3] at hj
  exact zero_rep z j c hj

/-- A new variable or row: what comes of it. -/
theorem out_alloc (hI : Inv n0 K h w) (id : Id) (hf : Fresh K tk) (cs : Array Value) (E : TypeId) (cells : List AV) (esz : Nat) (ag : Bool) (e1 : Nat) (r : AV) (v : Value) (rd wr : List Id)
    (hsz : cells.length ≤ cs.size) (hfl : ∀ x ∈ cells, x.flat = true) (hrep : ∀ (j : Nat) (c : AV), cells[j]? = some c → Rep K w c (cs.getD j undef)) (he : esz ≠ 0 → e1 = esz ∧ (ag = false → esz = 1))
    (hv : Rep (K.put tk w.heap.size (e1, cs.size) cells.length) (w.alloc (.cells cs E)) r v) :
    Out n0 K w tk (h.act { v := r, up := [(id, ⟨cells, esz, ag, tk, .W⟩)], rd, wr }) r v (w.alloc (.cells cs E)) := by
  obtain ⟨h1, h2, h3⟩ := hI.alloc id tk cs E cells esz ag e1 (hf tk rfl rfl) hsz hfl hrep he
  rw [Heap.act_up1]
  refine ⟨_, h1, h2, h3, hv, (Below.refl _ _).alloc hI.size _, fun t b ht => ?_⟩
  rcases Kx.put_bl_inv ht with ⟨rfl, _⟩ | ht
  · exact .inr ⟨rfl, rfl⟩
  · exact .inl ht

theorem ok_alloc (hI : Inv n0 K h w) (hf : Fresh K tk) (o : Oper) (t : TypeId) (ho : o.op = .alloc t) {u : Ty} (hc : cTy P t = some u)
    {call : FuncId → List AV → Option AV} {own : FuncId → Option Ty} {id : Id} {e : Ev} (he : evOp call own s h id tk (.alloc u) = some e) : ∃ v w', Comes1 P a o w v w' ∧ Out n0 K w tk (h.act e) e.v v w' := by
  simp only [evOp] at he
  cases he
  obtain ⟨z, h1, h2, h3, h4, h5⟩ := cTy_zero (K := K) (w := w) hc
  refine ⟨.pointer (some ⟨w.heap.size, 0, none⟩), w.alloc (.cells z.cells t), .inl ?_, ?_⟩
  · simp [execOp, ho, Instr.alloc, h1, newVar, newRow]
  · exact out_alloc hI id hf z.cells t u.zero 0 false 1 _ _ _ _ (by omega) h5 h3 (by simp) (.ptr _ _ _ _ (by simp))

theorem ok_box (hs : Slots K w s a.tmps) (hI : Inv n0 K h w) (hf : Fresh K tk) (o : Oper) (t : TypeId) (x : Operand) (ho : o.op = .box t x)
    {call : FuncId → List AV → Option AV} {own : FuncId → Option Ty} {id : Id} {e : Ev} (he : evOp call own s h id tk (.box (cX x)) = some e) : ∃ v w', Comes1 P a o w v w' ∧ Out n0 K w tk (h.act e) e.v v w' := by
  have hx := rep_X hs x
  simp only [evOp] at he
  split at he
  · rename_i hsol
    cases he
    obtain ⟨h1, h2, h3⟩ := cells_rep hx hsol
    refine ⟨.pointer (some ⟨w.heap.size, 0, none⟩), w.alloc (.cells (a.eval x).cells t), .inl ?_, ?_⟩
    · simp [execOp, ho, Instr.box, newVar, newRow]
    · exact out_alloc hI id hf (a.eval x).cells t _ 0 false 1 _ _ _ _ (by omega) h3 h2 (by simp) (.ptr _ _ _ _ (by simp))
  · cases he

end Go.Aw
