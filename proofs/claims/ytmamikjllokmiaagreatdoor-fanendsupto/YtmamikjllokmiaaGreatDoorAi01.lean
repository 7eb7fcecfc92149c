/-
  Parts of a proof: an abstract interpreter of the model's code, and what the functions come to.
-/
import Derived.Calls
import Derived.LoopN
import Derived.Below
import Derived.Lib.Bytealg
import Derived.Laws.CopyRow
import Derived.WalkKit
set_option linter.unusedVariables false
set_option linter.unusedSimpArgs false
set_option linter.unnecessarySimpa false
/-
  An abstract interpreter of the model's code: values that are never written are pure trees, what is written lies in a small heap. This file: values, heap, IR, evaluator. No program in sight.
-/
namespace Go.Ai
set_option linter.unusedVariables false

/-- Abstract values. isl: a slice that is never written (its elements, each a list of cells); hsl: a slice in the heap; iptr: a pointer to cells that are never written; lptr: the address of a variable of the frame's own. -/
inductive AV where
  | bool (b : Bool)
  | int (k : IntKind) (n : Int)
  | str (s : List UInt8)
  | nilp
  | hptr (b bl i off : Nat)
  | iptr (cs : List AV) (off : Nat)
  | lptr (d off : Nat)
  | nils
  | hsl (b bl i len sz : Nat) (cap : Option Nat)
  | isl (els : List (List AV)) (sz : Nat) (cap : Option Nat)
  | nilm
  | hmap (b : Nat)
  | fn (f : Nat) (first captured : List AV)
  | nilf
  | ifc (t : Nat) (v : AV)
  | nili
  | agg (cs : List AV)
  | tup (vs : List AV)
  | junk
  deriving Inhabited

def AV.cells : AV → List AV
  | .agg cs => cs
  | v => [v]

/-- a value of one cell -/
def AV.one : AV → Bool
  | .agg _ | .tup _ | .lptr .. | .junk => false
  | _ => true

def AV.undef : AV := .tup []

inductive ABlk where
  | row (sz : Nat) (els : List (List AV))
  | map (es : List (List UInt8 × AV))
  deriving Inhabited

def ABlk.len : ABlk → Nat
  | .row _ els => els.length
  | _ => 0

abbrev AHeap := List ABlk

inductive LVar where
  | cells (cs : List AV)
  | iter (s : List UInt8) (pos : Nat)
  deriving Inhabited

/-! ### The IR -/
inductive SOpd where
  | t (n : Nat)
  | c (v : AV)
  | f (fid : Nat)
  deriving Inhabited

/-- of what kind the operands of an operator are -/
inductive EqK where
  | num | bool | ptr | slice | map | func | iface | agg
  deriving Inhabited, DecidableEq

/-- of what kind a thing with a length is -/
inductive TK where
  | str | slice | map
  deriving Inhabited, DecidableEq

/-- where a new variable lies: in the heap, as the frame's own (slot d), or never written -/
inductive Place where
  | heap | loc (d : Nat) | imm
  deriving Inhabited

/-- what an address must be: a load of a variable that is never written, or of the frame's own, or of the heap -/
inductive Mode where
  | any | imm | own | heap
  deriving Inhabited

inductive SOp where
  | mv (x : SOpd)
  | pick (c a b : SOpd)
  | box (p : Place) (x : SOpd)
  | new (p : Place) (zero : List AV)
  | newrow (sz : Nat) (els : List (List AV))
  | build (zero : List AV) (parts : List (Nat × Nat × SOpd))
  | bslice (h : Bool) (sz : Nat) (els : List (List AV)) (parts : List (Nat × SOpd))
  | load (m : Mode) (n : Option Nat) (x : SOpd)
  | store (m : Mode) (n : Nat) (a x : SOpd)
  | nilchk (x : SOpd)
  | bin (op : BinOp) (k : EqK) (x y : SOpd)
  | un (op : UnOp) (x : SOpd)
  | cvint (k : IntKind) (x : SOpd)
  | cvid (x : SOpd)
  | s2b (h : Bool) (x : SOpd)
  | b2s (x : SOpd)
  | mkif (t : Nat) (x : SOpd)
  | mkfn (fid : Nat) (first captured : List SOpd)
  | mkslice (sz : Nat) (zero : List AV) (l c : SOpd)
  | mkmap
  | slice (k : TK) (sz : Nat) (x : SOpd) (lo hi mx : Option SOpd)
  | slicearr (n sz : Nat) (x : SOpd) (lo hi : Option SOpd)
  | faddr (off : Nat) (x : SOpd)
  | field (off : Nat) (n : Option Nat) (x : SOpd)
  | iaddr (arr : Option Nat) (sz : Nat) (x i : SOpd)
  | idx (arr : Option (Nat × Nat × Bool)) (x i : SOpd)
  | extract (i : Nat) (x : SOpd)
  | srange (d : Nat) (x : SOpd)
  | snext (x : SOpd)
  | len (arr : Option Nat) (k : TK) (x : SOpd)
  | cap (x : SOpd)
  | append (sz : Nat) (zero : Option (List AV)) (s x : SOpd)
  | copy (sz : Nat) (d s : SOpd)
  | clear (sz : Nat) (zero : List AV) (x : SOpd)
  | minmax (mx : Bool) (xs : List SOpd)
  | lookup (zero : AV) (ok : Bool) (m k : SOpd)
  | mapupd (m k x : SOpd)
  | ext (k : Nat) (args : List SOpd)
  | callf (fid : Nat) (args : List SOpd)
  | callv (p : Bool) (f : SOpd) (args : List SOpd)
  deriving Inhabited

structure SI where
  dst : Option Nat
  op : SOp
  guard : Option (Nat × Bool)
  deriving Inhabited

inductive SCode where
  | skip
  | region (ops : List SI) (keep : Option (List Nat))
  | seq (a b : SCode)
  | cond (c : SOpd) (a b : SCode)
  | block (id : Nat) (b : SCode)
  | loop (keep : List Nat) (b : SCode)
  | exit (id : Nat)
  | ret
  deriving Inhabited

/-! ### State -/
abbrev AEnv := List (Nat × AV)

def AEnv.get : AEnv → Nat → AV
  | [], _ => .junk
  | (k, v) :: r, t => if k = t then v else AEnv.get r t

structure St where
  env : AEnv
  vars : List (Nat × LVar)
  heap : AHeap
  deriving Inhabited

def St.get (s : St) (t : Nat) : AV := s.env.get t

def varGet : List (Nat × LVar) → Nat → Option LVar
  | [], _ => none
  | (k, v) :: r, t => if k = t then some v else varGet r t

def varSet : List (Nat × LVar) → Nat → LVar → List (Nat × LVar)
  | [], d, v => [(d, v)]
  | (k, u) :: r, d, v => if d < k then (d, v) :: (k, u) :: r else if d = k then (d, v) :: r else (k, u) :: varSet r d v

/-- the value of an operand, an address of a frame's variable too -/
def St.raw (s : St) : SOpd → AV
  | .t n => s.env.get n
  | .c v => v
  | .f fid => .fn fid [] []

def AV.plain : AV → AV
  | .lptr _ _ => .junk
  | v => v

def St.val (s : St) (x : SOpd) : AV := (s.raw x).plain

/-- put in order, so that two puts may change places -/
def envPut : AEnv → Nat → AV → AEnv
  | [], d, v => [(d, v)]
  | (k, u) :: r, d, v => if d < k then (d, v) :: (k, u) :: r else if d = k then (d, v) :: r else (k, u) :: envPut r d v

def St.set (s : St) (dst : Option Nat) (v : AV) : St :=
  match dst with
  | some d => { s with env := envPut s.env d v }
  | none => s

def AV.isL (d : Nat) : AV → Bool
  | .lptr e _ => e == d
  | _ => false

/-- the slots that are kept: each with its value; variables whose slots are kept. -/
def envKeep : AEnv → List Nat → AEnv
  | _, [] => []
  | e, t :: ts => (t, e.get t) :: envKeep e ts

def varKeep : List (Nat × LVar) → List Nat → List (Nat × LVar)
  | _, [] => []
  | vs, t :: ts => match varGet vs t with
    | some v => (t, v) :: varKeep vs ts
    | none => varKeep vs ts

/-- addresses of variables that are gone are junk -/
def envClean (vs : List (Nat × LVar)) : AEnv → AEnv
  | [] => []
  | (t, .lptr d o) :: r => match varGet vs d with
    | some _ => (t, .lptr d o) :: envClean vs r
    | none => (t, .junk) :: envClean vs r
  | x :: r => x :: envClean vs r

def St.keep (s : St) (ks : List Nat) : St :=
  let vs := varKeep s.vars ks
  { s with vars := vs, env := envClean vs (envKeep s.env ks) }

/-- a new variable of the frame's own, at a slot that is free -/
def St.newVar (s : St) (d : Nat) (v : LVar) : Option (AV × St) :=
  match varGet s.vars d with
  | none => some (.lptr d 0, { s with vars := varSet s.vars d v })
  | some _ => none

def Mode.ok : Mode → AV → Bool
  | .any, _ => true
  | .imm, .iptr .. => true
  | .own, .lptr .. => true
  | .heap, .hptr .. | .heap, .iptr .. => true
  | _, _ => false

/-! ### Small pure parts -/
def LIM : Nat := 4294967296

def setSeg (cells : List AV) (off : Nat) (vs : List AV) : List AV := cells.take off ++ vs ++ cells.drop (off + vs.length)

def abuild (zero : List AV) : List (Nat × Nat × AV) → Option (List AV)
  | [] => some zero
  | (off, size, v) :: r =>
    if v.cells.length = size ∧ off + size ≤ zero.length ∧ v.cells.all AV.one = true then abuild (setSeg zero off v.cells) r else none

def abslice (sz : Nat) (els : List (List AV)) : List (Nat × AV) → Option (List (List AV))
  | [] => some els
  | (i, v) :: r => if v.cells.length = sz ∧ i < els.length ∧ v.cells.all AV.one = true then abslice sz (els.set i v.cells) r else none

def aint (op : BinOp) (k : IntKind) (a b : Int) : Option AV :=
  match op with
  | .add => some (.int k (k.wrap (a + b)))
  | .sub => some (.int k (k.wrap (a - b)))
  | .mul => some (.int k (k.wrap (a * b)))
  | .quo => if b = 0 then none else some (.int k (k.wrap (a.tdiv b)))
  | .rem => if b = 0 then none else some (.int k (a.tmod b))
  | .and => some (.int k (k.wrap ((BitVec.ofInt k.bits a &&& BitVec.ofInt k.bits b).toNat)))
  | .or => some (.int k (k.wrap ((BitVec.ofInt k.bits a ||| BitVec.ofInt k.bits b).toNat)))
  | .xor => some (.int k (k.wrap ((BitVec.ofInt k.bits a ^^^ BitVec.ofInt k.bits b).toNat)))
  | .andNot => some (.int k (k.wrap ((BitVec.ofInt k.bits a &&& ~~~ (BitVec.ofInt k.bits b)).toNat)))
  | .eql => some (.bool (a == b))
  | .neq => some (.bool (a != b))
  | .lss => some (.bool (decide (a < b)))
  | .leq => some (.bool (decide (a ≤ b)))
  | .gtr => some (.bool (decide (a > b)))
  | .geq => some (.bool (decide (a ≥ b)))
  | .shl | .shr => none

def ashift (op : BinOp) (k : IntKind) (x y : Int) : Option AV :=
  if y < 0 then none else
  match op with
  | .shl => some (.int k (k.wrap (x * 2 ^ (min y.toNat k.bits))))
  | .shr => some (.int k (x.fdiv (2 ^ (min y.toNat k.bits))))
  | _ => none

def astr (op : BinOp) (x y : List UInt8) : Option AV :=
  match op with
  | .add => if x.length + y.length ≤ LIM then some (.str (x ++ y)) else none
  | .eql => some (.bool (x == y))
  | .neq => some (.bool (!(x == y)))
  | .lss => some (.bool (Op.bytesLess x y))
  | .leq => some (.bool (Op.bytesLess x y || x == y))
  | .gtr => some (.bool (!(Op.bytesLess x y || x == y)))
  | .geq => some (.bool (!(Op.bytesLess x y)))
  | _ => none

/-- equality of plain cells (bools, ints, strings), one by one -/
def aeqs : List AV → List AV → Option Bool
  | [], [] => some true
  | .bool a :: xs, .bool b :: ys => (aeqs xs ys).map fun r => (a == b) && r
  | .int k a :: xs, .int k' b :: ys => if k = k' then (aeqs xs ys).map fun r => (a == b) && r else none
  | .str a :: xs, .str b :: ys => (aeqs xs ys).map fun r => (a == b) && r
  | _, _ => none

def aeqK (k : EqK) (x y : AV) : Option Bool :=
  match k, x, y with
  | .bool, .bool a, .bool b => some (a == b)
  | .ptr, .nilp, .nilp => some true
  | .ptr, .nilp, .hptr .. => some false
  | .ptr, .nilp, .iptr .. => some false
  | .ptr, .hptr .., .nilp => some false
  | .ptr, .iptr .., .nilp => some false
  | .slice, .nils, .nils => some true
  | .slice, .nils, .hsl .. => some false
  | .slice, .nils, .isl .. => some false
  | .slice, .hsl .., .nils => some false
  | .slice, .isl .., .nils => some false
  | .map, .nilm, .nilm => some true
  | .map, .nilm, .hmap _ => some false
  | .map, .hmap _, .nilm => some false
  | .func, .nilf, .nilf => some true
  | .func, .nilf, .fn .. => some false
  | .func, .fn .., .nilf => some false
  | .iface, .nili, .nili => some true
  | .iface, .nili, .ifc .. => some false
  | .iface, .ifc .., .nili => some false
  | .agg, .agg xs, .agg ys => aeqs xs ys
  | _, _, _ => none

def abin (op : BinOp) (e : EqK) (x y : AV) : Option AV :=
  match e with
  | .num =>
    match x, y with
    | .int k a, .int k' b =>
      match op with
      | .shl => ashift .shl k a b
      | .shr => ashift .shr k a b
      | op => if k = k' then aint op k a b else none
    | .str a, .str b => astr op a b
    | _, _ => none
  | e =>
    match op with
    | .eql => (aeqK e x y).map .bool
    | .neq => (aeqK e x y).map fun r => .bool (!r)
    | _ => none

def aun (op : UnOp) (x : AV) : Option AV :=
  match op, x with
  | .neg, .int k n => some (.int k (k.wrap (0 - n)))
  | .xor, .int k n => some (.int k (k.wrap ((BitVec.ofInt k.bits (if k.signed then -1 else k.max) ^^^ BitVec.ofInt k.bits n).toNat)))
  | .not, .bool b => some (.bool !b)
  | _, _ => none

/-- the bytes of cells -/
def abytes : List (List AV) → Option (List UInt8)
  | [] => some []
  | [.int .u8 n] :: r => (abytes r).map fun s => UInt8.ofNat n.toNat :: s
  | _ => none

def bytesEls (s : List UInt8) : List (List AV) := s.map fun b => [.int .u8 b.toNat]

/-- what a slice of a value holds -/
def heapRow (h : AHeap) (b bl sz : Nat) : Option (List (List AV)) :=
  match h[b]? with
  | some (.row sz' els) => if els.length = bl ∧ sz' = sz then some els else none
  | _ => none

def sliceEls (h : AHeap) (sz : Nat) : AV → Option (List (List AV))
  | .nils => some []
  | .isl els sz' _ => if sz' = sz then some els else none
  | .hsl b bl i len sz' _ => if sz' = sz then (heapRow h b bl sz).bind fun els => if i + len ≤ els.length then some ((els.drop i).take len) else none else none
  | .str s => if sz = 1 then some (bytesEls s) else none
  | _ => none

/-- a row's elements with some others from place i on -/
def putEls (els : List (List AV)) (i : Nat) (ys : List (List AV)) : List (List AV) := els.take i ++ ys ++ els.drop (i + ys.length)

def aappend (sz bar : Nat) (h : AHeap) (s : AV) (ys : List (List AV)) : Option (AV × AHeap) :=
  match s with
  | .nils =>
    if ys = [] then some (.nils, h)
    else if ys.length ≤ LIM then some (.hsl h.length ys.length 0 ys.length sz none, h ++ [.row sz ys]) else none
  | .isl els sz' cap =>
    if sz' = sz then
      if ys = [] then some (s, h) else
      match cap with
      | some c => if c < els.length + ys.length ∧ els.length + ys.length ≤ LIM then some (.hsl h.length (els.length + ys.length) 0 (els.length + ys.length) sz none, h ++ [.row sz (els ++ ys)]) else none
      | none => none
    else none
  | .hsl b bl i len sz' cap =>
    if sz' = sz then
      (heapRow h b bl sz).bind fun els =>
      if ys = [] then some (s, h) else
      if len + ys.length ≤ LIM ∧ i + len ≤ els.length then
        match cap with
        | some c =>
          if len + ys.length ≤ c then
            if bar ≤ b ∧ i + len + ys.length ≤ els.length then some (.hsl b bl i (len + ys.length) sz cap, h.set b (.row sz (putEls els (i + len) ys))) else none
          else some (.hsl h.length (len + ys.length) 0 (len + ys.length) sz none, h ++ [.row sz ((els.drop i).take len ++ ys)])
        | none =>
          if bar ≤ b ∧ i = 0 then
            if len + ys.length ≤ els.length then some (.hsl b bl 0 (len + ys.length) sz none, h.set b (.row sz (putEls els len ys)))
            else some (.hsl b (len + ys.length) 0 (len + ys.length) sz none, h.set b (.row sz (els.take len ++ ys)))
          else none
      else none
    else none
  | _ => none

def acopy (sz bar : Nat) (h : AHeap) (d s : AV) : Option (AV × AHeap) :=
  (sliceEls h sz s).bind fun src =>
  match d with
  | .nils => some (.int .i64 0, h)
  | .hsl b bl i len sz' _ =>
    if sz' = sz then
      (heapRow h b bl sz).bind fun els =>
      if bar ≤ b ∧ i + len ≤ els.length then some (.int .i64 (min src.length len : Nat), h.set b (.row sz (putEls els i (src.take (min src.length len))))) else none
    else none
  | _ => none

def aclear (sz bar : Nat) (zero : List AV) (h : AHeap) (d : AV) : Option AHeap :=
  match d with
  | .nils => some h
  | .hsl b bl i len sz' _ =>
    if sz' = sz then
      (heapRow h b bl sz).bind fun els =>
      if len = 0 then some h else
      if bar ≤ b ∧ i + len ≤ els.length then some (h.set b (.row sz (putEls els i (List.replicate len zero)))) else none
    else none
  | _ => none

def aload (s : St) (n : Option Nat) (p : AV) : Option AV :=
  let get (cs : List AV) (off : Nat) : Option AV :=
    match n with
    | some n => if off + n ≤ cs.length then some (.agg ((cs.drop off).take n)) else none
    | none => cs[off]?
  match p with
  | .iptr cs off => get cs off
  | .hptr b bl i off =>
    match s.heap[b]? with
    | some (.row _ els) => if els.length = bl then (els[i]?).bind fun cs => get cs off else none
    | _ => none
  | .lptr d off => match varGet s.vars d with
    | some (.cells cs) => get cs off
    | _ => none
  | _ => none

def astore (s : St) (bar n : Nat) (p v : AV) : Option St :=
  let vs := v.cells
  if vs.length = n ∧ vs.all AV.one then
    match p with
    | .hptr b bl i off =>
      match s.heap[b]? with
      | some (.row sz els) => if els.length = bl ∧ bar ≤ b then
          (els[i]?).bind fun cs => if off + n ≤ cs.length then some { s with heap := s.heap.set b (.row sz (els.set i (setSeg cs off vs))) } else none
          else none
      | _ => none
    | .lptr d off => match varGet s.vars d with
      | some (.cells cs) => if off + n ≤ cs.length then some { s with vars := varSet s.vars d (.cells (setSeg cs off vs)) } else none
      | _ => none
    | _ => none
  else none

def asInt? : AV → Option Int
  | .int _ n => some n
  | _ => none

def obound (x : Option AV) (dflt : Int) : Option Int :=
  match x with
  | none => some dflt
  | some v => asInt? v

/-- how far a slice may be resliced for certain -/
def atop (cap : Option Nat) (n : Nat) : Nat :=
  match cap with
  | some c => min c n
  | none => n

def aslice (k : TK) (h : AHeap) (x : AV) (lo hi mx : Option AV) : Option AV :=
  (obound lo 0).bind fun l =>
  match k, x with
  | .str, .str s => if mx.isSome then none else
    (obound hi s.length).bind fun r =>
    if 0 ≤ l ∧ l ≤ r ∧ r ≤ s.length then some (.str ((s.drop l.toNat).take (r - l).toNat)) else none
  | .slice, .nils =>
    (obound hi 0).bind fun r => (obound mx 0).bind fun m =>
    if l = 0 ∧ r = 0 ∧ m = 0 then some .nils else none
  | .slice, .isl els sz cap =>
    (obound hi els.length).bind fun r =>
    match mx with
    | none => if 0 ≤ l ∧ l ≤ r ∧ r ≤ els.length then some (.isl ((els.drop l.toNat).take (r - l).toNat) sz (cap.map fun c => c - l.toNat)) else none
    | some mx => (asInt? mx).bind fun m =>
      if 0 ≤ l ∧ l ≤ r ∧ r ≤ m ∧ m ≤ els.length then some (.isl ((els.drop l.toNat).take (r - l).toNat) sz (some (m - l).toNat)) else none
  | .slice, .hsl b bl i len sz cap =>
    (heapRow h b bl sz).bind fun els =>
    (obound hi len).bind fun r =>
    if i + len ≤ els.length ∧ len ≤ atop cap (els.length - i) then
      match mx with
      | none => if 0 ≤ l ∧ l ≤ r ∧ r ≤ atop cap (els.length - i) then some (.hsl b bl (i + l.toNat) (r - l).toNat sz (cap.map fun c => c - l.toNat)) else none
      | some mx => (asInt? mx).bind fun m =>
        if 0 ≤ l ∧ l ≤ r ∧ r ≤ m ∧ m ≤ atop cap (els.length - i) then some (.hsl b bl (i + l.toNat) (r - l).toNat sz (some (m - l).toNat)) else none
    else none
  | _, _ => none

def szOk (sz : Nat) : AV → Bool
  | .isl _ sz' _ => sz' == sz
  | .hsl _ _ _ _ sz' _ => sz' == sz
  | _ => true

def afaddr (off : Nat) : AV → Option AV
  | .iptr cs o => some (.iptr cs (o + off))
  | .hptr b bl i o => some (.hptr b bl i (o + off))
  | .lptr d o => some (.lptr d (o + off))
  | _ => none

def apart (n : Option Nat) (cs : List AV) (off : Nat) : Option AV :=
  match n with
  | some n => if off + n ≤ cs.length then some (.agg ((cs.drop off).take n)) else none
  | none => cs[off]?

def aiaddr (h : AHeap) (arr : Option Nat) (sz : Nat) (x : AV) (i : Int) : Option AV :=
  match arr with
  | some n => if 0 ≤ i ∧ i < n then afaddr (i.toNat * sz) x else none
  | none =>
    match x with
    | .isl els sz' _ => if sz' = sz ∧ 0 ≤ i then (els[i.toNat]?).map fun cs => .iptr cs 0 else none
    | .hsl b bl o len sz' _ =>
      if sz' = sz ∧ 0 ≤ i ∧ i < len then (heapRow h b bl sz).bind fun els => if o + len ≤ els.length then some (.hptr b bl (o + i.toNat) 0) else none else none
    | _ => none

def aidx (arr : Option (Nat × Nat × Bool)) (x : AV) (i : Int) : Option AV :=
  match arr, x with
  | some (n, sz, isAgg), .agg cs => if 0 ≤ i ∧ i < n then apart (if isAgg then some sz else none) cs (i.toNat * sz) else none
  | none, .str s => if 0 ≤ i then (s[i.toNat]?).map fun b => .int .u8 b.toNat else none
  | _, _ => none

def alen (h : AHeap) (arr : Option Nat) (k : TK) (x : AV) : Option Int :=
  match arr with
  | some n => some n
  | none =>
    match k, x with
    | .str, .str s => some s.length
    | .slice, .nils => some 0
    | .slice, .isl els _ _ => some els.length
    | .slice, .hsl _ _ _ len _ _ => some len
    | .map, .nilm => some 0
    | .map, .hmap b => match h[b]? with
      | some (.map es) => some es.length
      | _ => none
    | _, _ => none

def acap (h : AHeap) : AV → Option Int
  | .nils => some 0
  | .isl _ _ (some c) => some c
  | .hsl b bl _ _ sz (some c) => (heapRow h b bl sz).map fun _ => (c : Int)
  | _ => none

def aminmax (mx : Bool) : List AV → Option AV
  | .int k a :: r => r.foldl (fun acc y => match acc, y with
      | some (.int k x), .int _ y => some (.int k (if (if mx then y > x else y < x) then y else x))
      | _, _ => none) (some (.int k a))
  | _ => none

def mapGet (es : List (List UInt8 × AV)) (k : List UInt8) : Option AV :=
  match es with
  | [] => none
  | (k', v) :: r => if k' = k then some v else mapGet r k

def mapPut (es : List (List UInt8 × AV)) (k : List UInt8) (v : AV) : List (List UInt8 × AV) :=
  match es with
  | [] => [(k, v)]
  | (k', u) :: r => if k' = k then (k, v) :: r else (k', u) :: mapPut r k v

/-- do two slices of the heap share memory? known where they lie in two rows -/
def aoverl (h : AHeap) : AV → AV → Option AV
  | .nils, .nils => some (.bool false)
  | .nils, .hsl .. => some (.bool false)
  | .isl els sz _, .hsl b' bl' _ _ sz' _ => if 0 < sz ∧ sz' ≠ 1 ∧ (heapRow h b' bl' sz').isSome = true then some (.bool false) else none
  | _, _ => none

/-- functions without a text of their own -/
def aext (h : AHeap) (k : Nat) (args : List AV) : Option AV :=
  match k, args with
  | 0, [.str a, .str b] => some (.int .i64 (Lib.compareBytes a b))
  | 1, [.str a, .int .u8 c] => some (.int .i64 (Lib.indexByte a c.toNat.toUInt8))
  | 2, [x, y] => aoverl h x y
  | _, _ => none

/-! ### Operations -/
/-- functions of odd numbers change nothing -/
def pureId (f : Nat) : Bool := f % 2 == 1

abbrev Caller := Nat → List AV → AHeap → Option (AV × AHeap)

def St.pure (s : St) (v : Option AV) : Option (AV × St) := v.map fun v => (v, s)

def allVal (vs : List AV) : Bool := vs.all fun | .lptr .. | .junk => false | _ => true

def aop (call : Caller) (bar : Nat) (s : St) : SOp → Option (AV × St)
  | .mv x => some (s.raw x, s)
  | .pick c a b => match s.val c with
    | .bool t => some (if t then s.val a else s.val b, s)
    | _ => none
  | .box p x =>
    let cs := (s.val x).cells
    if cs.all AV.one then
      match p with
      | .heap => some (.hptr s.heap.length 1 0 0, { s with heap := s.heap ++ [.row cs.length [cs]] })
      | .loc d => s.newVar d (.cells cs)
      | .imm => some (.iptr cs 0, s)
    else none
  | .new p cs =>
    match p with
    | .heap => some (.hptr s.heap.length 1 0 0, { s with heap := s.heap ++ [.row cs.length [cs]] })
    | .loc d => s.newVar d (.cells cs)
    | .imm => some (.iptr cs 0, s)
  | .newrow sz els => some (.hptr s.heap.length els.length 0 0, { s with heap := s.heap ++ [.row sz els] })
  | .build zero parts => (abuild zero (parts.map fun (o, n, x) => (o, n, s.val x))).map fun cs => (.agg cs, s)
  | .bslice h sz els parts =>
    (abslice sz els (parts.map fun (i, x) => (i, s.val x))).map fun els =>
      if h then (.hsl s.heap.length els.length 0 els.length sz (some els.length), { s with heap := s.heap ++ [.row sz els] })
      else (.isl els sz (some els.length), s)
  | .load m n x => if m.ok (s.raw x) then s.pure (aload s n (s.raw x)) else none
  | .store m n a x => if m.ok (s.raw a) then (astore s bar n (s.raw a) (s.val x)).map fun s => (.undef, s) else none
  | .nilchk x => match s.raw x with
    | .hptr b bl i o => some (.hptr b bl i o, s)
    | .iptr cs o => some (.iptr cs o, s)
    | .lptr d o => some (.lptr d o, s)
    | .fn f a b => some (.fn f a b, s)
    | _ => none
  | .bin op k x y => s.pure (abin op k (s.val x) (s.val y))
  | .un op x => s.pure (aun op (s.val x))
  | .cvint k x => match s.val x with
    | .int _ n => some (.int k (k.wrap n), s)
    | _ => none
  | .cvid x => match s.val x with
    | .str b => some (.str b, s)
    | _ => none
  | .s2b h x => match s.val x with
    | .str b => if b.length ≤ LIM then
        if h then some (.hsl s.heap.length b.length 0 b.length 1 none, { s with heap := s.heap ++ [.row 1 (bytesEls b)] }) else some (.isl (bytesEls b) 1 none, s)
        else none
    | _ => none
  | .b2s x => match s.val x with
    | .str _ => none
    | v => ((sliceEls s.heap 1 v).bind abytes).map fun b => (.str b, s)
  | .mkif t x => if (s.val x matches .junk) then none else some (.ifc t (s.val x), s)
  | .mkfn f first cap =>
    let a := first.map s.val
    let c := cap.map s.val
    some (.fn f a c, s)
  | .mkslice sz zero l c => match s.val l, s.val c with
    | .int .i64 l, .int .i64 c => if 0 ≤ l ∧ l ≤ c ∧ c ≤ LIM then
        some (.hsl s.heap.length c.toNat 0 l.toNat sz (some c.toNat), { s with heap := s.heap ++ [.row sz (List.replicate c.toNat zero)] }) else none
    | _, _ => none
  | .mkmap => some (.hmap s.heap.length, { s with heap := s.heap ++ [.map []] })
  | .slice k sz x lo hi mx => s.pure <| if szOk sz (s.val x) = false then none else (aslice k s.heap (s.val x) (lo.map s.val) (hi.map s.val) (mx.map s.val))
  | .slicearr n sz x lo hi => match s.raw x with
    | .hptr b bl i o =>
      (obound (lo.map s.val) 0).bind fun l => (obound (hi.map s.val) n).bind fun r =>
      (heapRow s.heap b bl sz).bind fun els =>
      if i = 0 ∧ o = 0 ∧ els.length = n ∧ 0 ≤ l ∧ l ≤ r ∧ r ≤ n then some (.hsl b bl l.toNat (r - l).toNat sz (some (n - l.toNat)), s) else none
    | _ => none
  | .faddr off x => s.pure (afaddr off (s.raw x))
  | .field off n x => match s.val x with
    | .agg cs => s.pure (apart n cs off)
    | _ => none
  | .iaddr arr sz x i => match s.val i with
    | .int _ i => s.pure (aiaddr s.heap arr sz (s.raw x) i)
    | _ => none
  | .idx arr x i => match s.val i with
    | .int _ i => s.pure (aidx arr (s.val x) i)
    | _ => none
  | .extract i x => match s.val x with
    | .tup vs => s.pure (vs[i]?)
    | _ => none
  | .srange d x => match s.val x with
    | .str b => s.newVar d (.iter b 0)
    | _ => none
  | .snext x => match s.raw x with
    | .lptr d 0 => match varGet s.vars d with
      | some (.iter b pos) =>
        if pos < b.length then
          let (c, width) := Utf8.decode ⟨b.toArray⟩ pos
          some (.tup [.bool true, .int .i64 pos, .int .i32 c], { s with vars := varSet s.vars d (.iter b (pos + width)) })
        else some (.tup [.bool false], s)
      | _ => none
    | _ => none
  | .len arr k x => s.pure ((alen s.heap arr k (s.val x)).map (.int .i64))
  | .cap x => s.pure ((acap s.heap (s.val x)).map (.int .i64))
  | .append sz zero d x =>
    match zero with
    | none => (sliceEls s.heap sz (s.val x)).bind fun ys => (aappend sz bar s.heap (s.val d) ys).map fun (v, h) => (v, { s with heap := h })
    | some z => match s.val x with
      | .int .i64 n => if 0 ≤ n ∧ n ≤ LIM then (aappend sz bar s.heap (s.val d) (List.replicate n.toNat z)).map fun (v, h) => (v, { s with heap := h }) else none
      | _ => none
  | .copy sz d x => (acopy sz bar s.heap (s.val d) (s.val x)).map fun (v, h) => (v, { s with heap := h })
  | .clear sz zero x => (aclear sz bar zero s.heap (s.val x)).map fun h => (.undef, { s with heap := h })
  | .minmax mx xs => s.pure (aminmax mx (xs.map s.val))
  | .lookup zero ok m k => match s.val k with
    | .str k =>
      let out (v : Option AV) : Option (AV × St) := match v with
        | some v => some (if ok then .tup [v, .bool true] else v, s)
        | none => some (if ok then .tup [zero, .bool false] else zero, s)
      match s.val m with
      | .nilm => out none
      | .hmap b => match s.heap[b]? with
        | some (.map es) => out (mapGet es k)
        | _ => none
      | _ => none
    | _ => none
  | .mapupd m k x => match s.val m, s.val k with
    | .hmap b, .str k => match s.heap[b]? with
      | some (.map es) => if bar ≤ b ∧ !(s.val x matches .junk) then some (.undef, { s with heap := s.heap.set b (.map (mapPut es k (s.val x))) }) else none
      | _ => none
    | _, _ => none
  | .ext k args => s.pure (aext s.heap k (args.map s.val))
  | .callf f args => (call f (args.map s.val) s.heap).map fun (v, h) => (v, { s with heap := h })
  | .callv p f args => match s.val f with
    | .fn g first cap => if p = true ∧ pureId g = false then none else (call g (first ++ args.map s.val ++ cap) s.heap).map fun (v, h) => (v, { s with heap := h })
    | _ => none

/-! ### Code -/
def SI.wanted (s : St) (i : SI) : Option Bool :=
  match i.guard with
  | none => some true
  | some (t, want) => match s.env.get t with
    | .bool b => some (b == want)
    | .tup [] => some false
    | _ => none

def aops (call : Caller) (bar : Nat) : List SI → St → Option St
  | [], s => some s
  | i :: r, s =>
    match i.wanted s with
    | some true => (aop call bar s i.op).bind fun (v, s') => aops call bar r (s'.set i.dst v)
    | some false => aops call bar r (s.set i.dst .undef)
    | none => none

inductive AExit where
  | normal | exit (id : Nat) | ret
  deriving Inhabited

def aiter (f : St → Option (AExit × St)) (keep : List Nat) : Nat → St → Option (AExit × St)
  | 0, _ => none
  | k + 1, s =>
    match f (s.keep keep) with
    | some (.normal, s') => aiter f keep k s'
    | r => r

def keepOpt (ks : Option (List Nat)) (s : St) : St :=
  match ks with
  | some ks => s.keep ks
  | none => s

def acode (call : Caller) (bar fuel : Nat) : SCode → St → Option (AExit × St)
  | .skip, s => some (.normal, s)
  | .region ops ks, s => (aops call bar ops s).map fun s => (.normal, keepOpt ks s)
  | .seq a b, s =>
    match acode call bar fuel a s with
    | some (.normal, s') => acode call bar fuel b s'
    | r => r
  | .cond c a b, s =>
    match s.val c with
    | .bool true => acode call bar fuel a s
    | .bool false => acode call bar fuel b s
    | _ => none
  | .block id b, s =>
    match acode call bar fuel b s with
    | some (.exit id', s') => if id' = id then some (.normal, s') else some (.exit id', s')
    | r => r
  | .loop keep b, s => aiter (fun s => acode call bar fuel b s) keep fuel s
  | .exit id, s => some (.exit id, s)
  | .ret, s => some (.ret, s)

/-! ### Functions -/
inductive SRes where
  | t (n : Nat)
  | cell (a : Nat) (n : Option Nat)
  deriving Inhabited

def ares (s : St) : List SRes → Option (List AV)
  | [] => some []
  | .t n :: r => (ares s r).map fun vs => (s.val (.t n)) :: vs
  | .cell a n :: r => (aload s n (s.raw (.t a))).bind fun v => (ares s r).map fun vs => v :: vs

def packRes : List AV → AV
  | [v] => v
  | vs => .tup vs

/-- how a function's answer is handed back: keep: as it is; pure: nothing that was there is written, what is new is frozen and dropped; gc: what was there may be written, of what is new those blocks are left that the answer's pointers reach, the rest is frozen -/
inductive Pol where
  | keep | pure | gc
  deriving Inhabited, DecidableEq

structure SFunc where
  nparams : Nat
  pol : Pol
  body : SCode
  results : List SRes
  deriving Inhabited

/-- what lies in the heap from block n on becomes a pure tree -/
def frz (h : AHeap) (n : Nat) : Nat → AV → AV
  | 0, v => match v with
    | .bool b => .bool b
    | .int k i => .int k i
    | .str s => .str s
    | _ => .junk
  | k + 1, v =>
    match v with
    | .hptr b bl i off =>
      if b < n then .hptr b bl i off else
      match h[b]? with
      | some (.row _ els) => if els.length = bl then (match els[i]? with | some cs => .iptr (cs.map (frz h n k)) off | none => .junk) else .junk
      | _ => .junk
    | .hsl b bl i len sz cap =>
      if b < n then .hsl b bl i len sz cap else
      match h[b]? with
      | some (.row sz' els) => if els.length = bl ∧ sz' = sz ∧ i + len ≤ els.length then .isl (((els.drop i).take len).map fun e => e.map (frz h n k)) sz cap else .junk
      | _ => .junk
    | .iptr cs off => .iptr (cs.map (frz h n k)) off
    | .isl els sz cap => .isl (els.map fun e => e.map (frz h n k)) sz cap
    | .hmap b => if b < n then .hmap b else .junk
    | .fn f a c => .fn f (a.map (frz h n k)) (c.map (frz h n k))
    | .ifc t v => .ifc t (frz h n k v)
    | .agg cs => .agg (cs.map (frz h n k))
    | .tup vs => .tup (vs.map (frz h n k))
    | .lptr _ _ => .junk
    | v => v

def FZ : Nat := 1000

mutual
def AV.same : AV → AV → Bool
  | .bool a, .bool b => a == b
  | .int k a, .int k' b => decide (k = k') && decide (a = b)
  | .str a, .str b => decide (a = b)
  | .nilp, .nilp => true
  | .hptr b bl i o, .hptr b' bl' i' o' => b == b' && bl == bl' && i == i' && o == o'
  | .iptr cs o, .iptr cs' o' => sameL cs cs' && o == o'
  | .lptr d o, .lptr d' o' => d == d' && o == o'
  | .nils, .nils => true
  | .hsl b bl i l z c, .hsl b' bl' i' l' z' c' => b == b' && bl == bl' && i == i' && l == l' && z == z' && decide (c = c')
  | .isl e z c, .isl e' z' c' => sameLL e e' && z == z' && decide (c = c')
  | .nilm, .nilm => true
  | .hmap b, .hmap b' => b == b'
  | .fn f a c, .fn f' a' c' => f == f' && sameL a a' && sameL c c'
  | .nilf, .nilf => true
  | .ifc t v, .ifc t' v' => t == t' && AV.same v v'
  | .nili, .nili => true
  | .agg cs, .agg cs' => sameL cs cs'
  | .tup cs, .tup cs' => sameL cs cs'
  | .junk, .junk => true
  | _, _ => false
def sameL : List AV → List AV → Bool
  | [], [] => true
  | a :: l, b :: m => AV.same a b && sameL l m
  | _, _ => false
def sameLL : List (List AV) → List (List AV) → Bool
  | [], [] => true
  | a :: l, b :: m => sameL a b && sameLL l m
  | _, _ => false
end

def sameM : List (List UInt8 × AV) → List (List UInt8 × AV) → Bool
  | [], [] => true
  | (k, a) :: l, (k', b) :: m => decide (k = k') && AV.same a b && sameM l m
  | _, _ => false

def ABlk.same : ABlk → ABlk → Bool
  | .row sz els, .row sz' els' => sz == sz' && sameLL els els'
  | .map es, .map es' => sameM es es'
  | _, _ => false

/-- no pointer to a block from n on -/
def AV.low (n : Nat) : Nat → AV → Bool
  | 0, v => match v with
    | .hptr .. | .iptr .. | .lptr .. | .hsl .. | .isl .. | .hmap _ | .fn .. | .ifc .. | .agg _ | .tup _ => false
    | _ => true
  | k + 1, v => match v with
    | .hptr b _ _ _ => decide (b < n)
    | .hsl b _ _ _ _ _ => decide (b < n)
    | .hmap b => decide (b < n)
    | .iptr cs _ => cs.all (AV.low n k)
    | .isl els _ _ => els.all fun e => e.all (AV.low n k)
    | .fn _ a c => a.all (AV.low n k) && c.all (AV.low n k)
    | .ifc _ v => AV.low n k v
    | .agg cs => cs.all (AV.low n k)
    | .tup cs => cs.all (AV.low n k)
    | .lptr _ _ => false
    | _ => true

def ABlk.low (n k : Nat) : ABlk → Bool
  | .row _ els => els.all fun e => e.all (AV.low n k)
  | .map es => es.all fun e => AV.low n k e.2

/-- each block of the first is as it was, or has no pointer to what is new -/
def calm (n k : Nat) : AHeap → AHeap → Bool
  | [], _ => true
  | x :: h, y :: h' => (x.same y || y.low n k) && calm n k h h'
  | _ :: _, [] => false

/-- blocks that are left: those that an answer's pointers reach -/
def gcFind (h : AHeap) (n : Nat) : Nat → List Nat → AV → List Nat
  | 0, acc, _ => acc
  | k + 1, acc, v => match v with
    | .hptr b _ _ _ => if b < n ∨ acc.contains b = true then acc else match h[b]? with
      | some (.row _ [cs]) => cs.foldl (gcFind h n k) (acc ++ [b])
      | _ => acc
    | .hsl b _ _ _ sz _ => if sz = 1 ∧ n ≤ b then match h[b]? with
      | some (.row _ els) => els.foldl (fun acc e => e.foldl (gcFind h n k) acc) acc
      | _ => acc
      else acc
    | .isl els sz _ => if sz = 1 then els.foldl (fun acc e => e.foldl (gcFind h n k) acc) acc else acc
    | .hmap b => if b < n ∨ acc.contains b = true then acc else acc ++ [b]
    | .agg cs => cs.foldl (gcFind h n k) acc
    | .tup cs => cs.foldl (gcFind h n k) acc
    | .ifc _ v => gcFind h n k acc v
    | _ => acc

/-- where a block comes to lie -/
def gcAt (R : List Nat) (n b : Nat) : Option Nat := if b < n then some b else (R.idxOf? b).map (n + ·)

/-- what lies in no block that is left becomes a tree -/
def ren (σ : Nat → Option Nat) (h : AHeap) : Nat → AV → AV
  | 0, v => match v with
    | .bool b => .bool b
    | .int k i => .int k i
    | .str s => .str s
    | _ => .junk
  | k + 1, v =>
    match v with
    | .hptr b bl i off =>
      match σ b with
      | some c => .hptr c bl i off
      | none => match h[b]? with
        | some (.row _ els) => if els.length = bl then (match els[i]? with | some cs => .iptr (cs.map (ren σ h k)) off | none => .junk) else .junk
        | _ => .junk
    | .hsl b bl i len sz cap =>
      match σ b with
      | some c => .hsl c bl i len sz cap
      | none => match h[b]? with
        | some (.row sz' els) => if els.length = bl ∧ sz' = sz ∧ i + len ≤ els.length then .isl (((els.drop i).take len).map fun e => e.map (ren σ h k)) sz cap else .junk
        | _ => .junk
    | .iptr cs off => .iptr (cs.map (ren σ h k)) off
    | .isl els sz cap => .isl (els.map fun e => e.map (ren σ h k)) sz cap
    | .hmap b => match σ b with
      | some c => .hmap c
      | none => .junk
    | .fn f a c => .fn f (a.map (ren σ h k)) (c.map (ren σ h k))
    | .ifc t v => .ifc t (ren σ h k v)
    | .agg cs => .agg (cs.map (ren σ h k))
    | .tup vs => .tup (vs.map (ren σ h k))
    | .lptr _ _ => .junk
    | v => v

def renBlk (σ : Nat → Option Nat) (h : AHeap) (k : Nat) : ABlk → ABlk
  | .row sz els => .row sz (els.map fun e => e.map (ren σ h k))
  | .map es => .map (es.map fun e => (e.1, ren σ h k e.2))

def getBlks (h : AHeap) : List Nat → Option (List ABlk)
  | [] => some []
  | b :: r => match h[b]? with
    | some x => (getBlks h r).map fun l => x :: l
    | none => none

def noDup : List Nat → Bool
  | [] => true
  | a :: l => !l.contains a && noDup l

def gcOut (h' h : AHeap) (v : AV) : AV × AHeap :=
  let n := h.length
  let R := gcFind h' n FZ [] v
  match getBlks h' R with
  | some bs => if calm n FZ h h' && noDup R && R.all (fun b => decide (n ≤ b)) then (ren (gcAt R n) h' FZ v, h'.take n ++ bs.map (renBlk (gcAt R n) h' FZ)) else (.junk, h')
  | none => (.junk, h')

abbrev Prim := Nat → List AV → AHeap → Option (AV × AHeap)

/-- a program: functions by number: a body, or an answer by itself -/
inductive SFun where
  | code (f : SFunc)
  | prim (p : Prim)

abbrev SProg := Nat → Option SFun

def envOf : Nat → List AV → AEnv
  | _, [] => []
  | i, v :: r => (i, v) :: envOf (i + 1) r

def Pol.bar : Pol → Nat → Nat → Nat
  | .keep, bar, _ => bar
  | .pure, _, n => n
  | .gc, bar, _ => bar

def Pol.out : Pol → AHeap → AHeap → AV → AV × AHeap
  | .keep, h', _, v => (v, h')
  | .pure, h', h, v => (frz h' h.length FZ v, h)
  | .gc, h', h, v => gcOut h' h v

/-- what a body comes to: the answer, and the heap -/
def abody (call : Nat → Caller) (bar fuel : Nat) (f : SFunc) (args : List AV) (h : AHeap) : Option (AV × AHeap) :=
  if args.length = f.nparams then
    match acode (call (f.pol.bar bar h.length)) (f.pol.bar bar h.length) fuel f.body { env := envOf 0 args, vars := [], heap := h } with
    | some (.normal, s) | some (.ret, s) => (ares s f.results).map fun vs => f.pol.out s.heap h (packRes vs)
    | _ => none
  else none

def arun (S : SProg) : Nat → Nat → Nat → List AV → AHeap → Option (AV × AHeap)
  | 0, _, _, _, _ => none
  | n + 1, bar, f, args, h =>
    match S f with
    | some (.code sf) => abody (fun bar g as h => arun S n bar g as h) bar n sf args h
    | some (.prim p) => p bar args h
    | none => none

end Go.Ai
/-
  The abstract interpreter: how its values and its heap stand to the model's world; steps keep that. No program in sight.
-/
namespace Go.Ai
set_option linter.unusedVariables false

abbrev Map := Nat → Option Nat

/-- a block that nobody writes: none of the heap's, none of those that are set apart -/
structure Out (ρ : Map) (X : Nat → Prop) (w : World) (B : Nat) : Prop where
  heap : ∀ b, ρ b ≠ some B
  apart : ¬ X B
  lt : B < w.heap.size

def capIs (cap : Option Nat) (least cc : Nat) : Prop :=
  match cap with
  | some c => cc = c
  | none => least ≤ cc

inductive VR (fm : Nat → Nat) (ρ : Map) (X : Nat → Prop) (h : AHeap) (w : World) : AV → Value → Prop
  | bool (b : Bool) : VR fm ρ X h w (.bool b) (.bool b)
  | int (k : IntKind) (n : Int) : VR fm ρ X h w (.int k n) (.int k n)
  | str (s : List UInt8) : VR fm ρ X h w (.str s) (.string ⟨s.toArray⟩)
  | nilp : VR fm ρ X h w .nilp (.pointer none)
  | hptr {b bl i off : Nat} {a : Addr} (hb : b < h.length)
      (ha : ∀ B sz els, ρ b = some B → h[b]? = some (.row sz els) → bl ≤ els.length ∧ (els.length = bl → a = ⟨B, i * sz + off, none⟩)) :
      VR fm ρ X h w (.hptr b bl i off) (.pointer (some a))
  | iptr {cs : List AV} {off B o : Nat} (vs : List Value) (hB : Out ρ X w B) (hl : vs.length = cs.length)
      (hc : ∀ (j : Nat) v, vs[j]? = some v → w.cell? ⟨B, o + j, none⟩ = some v ∧ v.oneCell' = true)
      (hv : ∀ (j : Nat) a v, cs[j]? = some a → vs[j]? = some v → VR fm ρ X h w a v) :
      VR fm ρ X h w (.iptr cs off) (.pointer (some ⟨B, o + off, none⟩))
  | nils : VR fm ρ X h w .nils (.slice none 0 0)
  | hsl {b bl i len sz cc : Nat} {cap : Option Nat} {a : Addr} (hb : b < h.length) (hlc : len ≤ cc)
      (ha : ∀ B els, ρ b = some B → h[b]? = some (.row sz els) → bl ≤ els.length ∧ (els.length = bl →
        (cc ≠ 0 → a = ⟨B, i * sz, none⟩) ∧ capIs cap (els.length - i) cc ∧ ∃ arr e fr, w.heap[B]? = some (.cells arr e fr) ∧ (i + cc) * sz ≤ arr.size))
      (hs : ∀ B sz' els, ρ b = some B → h[b]? = some (.row sz' els) → bl ≤ els.length) :
      VR fm ρ X h w (.hsl b bl i len sz cap) (.slice (some a) len cc)
  | isl {els : List (List AV)} {sz cc : Nat} {cap : Option Nat} {a : Addr} (vss : List (List Value)) (hl : vss.length = els.length)
      (hlc : els.length ≤ cc) (hcap : capIs cap els.length cc)
      (hB : els ≠ [] → a.spot = none ∧ Out ρ X w a.block)
      (hsz : ∀ (i : Nat) e, els[i]? = some e → e.length = sz)
      (hvs : ∀ (i : Nat) e, vss[i]? = some e → e.length = sz)
      (hc : ∀ (i : Nat) e (j : Nat) v, vss[i]? = some e → e[j]? = some v → w.cell? ⟨a.block, a.off + i * sz + j, none⟩ = some v ∧ v.oneCell' = true)
      (hv : ∀ (i : Nat) e e' (j : Nat) x v, els[i]? = some e → vss[i]? = some e' → e[j]? = some x → e'[j]? = some v → VR fm ρ X h w x v) :
      VR fm ρ X h w (.isl els sz cap) (.slice (some a) els.length cc)
  | nilm : VR fm ρ X h w .nilm (.map none)
  | hmap {b r : Nat} (hb : b < h.length) (ha : ∀ B es, ρ b = some B → h[b]? = some (.map es) → r = B) :
      VR fm ρ X h w (.hmap b) (.map (some r))
  | fn {f : Nat} {xs ys : List AV} (us vs : List Value) (hu : us.length = xs.length) (hy : vs.length = ys.length)
      (hx : ∀ (j : Nat) a v, xs[j]? = some a → us[j]? = some v → VR fm ρ X h w a v)
      (hv : ∀ (j : Nat) a v, ys[j]? = some a → vs[j]? = some v → VR fm ρ X h w a v) :
      VR fm ρ X h w (.fn f xs ys) (.func (.func (fm f)) us.toArray vs.toArray)
  | nilf : VR fm ρ X h w .nilf .nilFunc
  | ifc {t t' : Nat} {x : AV} {v : Value} (hx : VR fm ρ X h w x v) : VR fm ρ X h w (.ifc t x) (.iface t' v)
  | nili : VR fm ρ X h w .nili .nilIface
  | agg {cs : List AV} (vs : List Value) (hl : vs.length = cs.length)
      (hv : ∀ (j : Nat) a v, cs[j]? = some a → vs[j]? = some v → VR fm ρ X h w a v) : VR fm ρ X h w (.agg cs) (.agg vs.toArray)
  | tup {cs : List AV} (vs : List Value) (hl : vs.length = cs.length)
      (hv : ∀ (j : Nat) a v, cs[j]? = some a → vs[j]? = some v → VR fm ρ X h w a v) : VR fm ρ X h w (.tup cs) (.tuple vs.toArray)
  | junk (v : Value) : VR fm ρ X h w .junk v

/-- a list of values, one by one -/
def VRs (fm : Nat → Nat) (ρ : Map) (X : Nat → Prop) (h : AHeap) (w : World) (cs : List AV) (vs : List Value) : Prop :=
  vs.length = cs.length ∧ ∀ (j : Nat) a v, cs[j]? = some a → vs[j]? = some v → VR fm ρ X h w a v

/-! ### What a step keeps -/
structure Le (ρ : Map) (X : Nat → Prop) (h : AHeap) (w : World) (ρ' : Map) (X' : Nat → Prop) (h' : AHeap) (w' : World) : Prop where
  len : h.length ≤ h'.length
  size : w.heap.size ≤ w'.heap.size
  os : w'.os = w.os
  tape : w'.tape = w.tape
  output : w'.output = w.output
  imm : ∀ B, Out ρ X w B → w'.heap[B]? = w.heap[B]? ∧ (∀ b, ρ' b ≠ some B) ∧ ¬ X' B
  blk : ∀ b, b < h.length → ∀ B', ρ' b = some B' →
    (ρ b = some B' ∧ (∀ sz els', h'[b]? = some (.row sz els') → ∃ els, h[b]? = some (.row sz els) ∧ els.length = els'.length) ∧
      (∀ es', h'[b]? = some (.map es') → ∃ es, h[b]? = some (.map es)) ∧
      (∀ arr e fr, w.heap[B']? = some (.cells arr e fr) → ∃ arr' fr', w'.heap[B']? = some (.cells arr' e fr') ∧ arr'.size = arr.size)) ∨
    (∃ B sz els els', ρ b = some B ∧ h[b]? = some (.row sz els) ∧ h'[b]? = some (.row sz els') ∧ els.length < els'.length)

theorem Le.refl (ρ : Map) (X : Nat → Prop) (h : AHeap) (w : World) : Le ρ X h w ρ X h w :=
  ⟨Nat.le_refl _, Nat.le_refl _, rfl, rfl, rfl, fun B hB => ⟨rfl, hB.heap, hB.apart⟩,
    fun b hb B' hB => .inl ⟨hB, fun sz els' e => ⟨els', e, rfl⟩, fun es' e => ⟨es', e⟩, fun arr e fr x => ⟨arr, fr, x, rfl⟩⟩⟩

theorem Le.out {ρ ρ' : Map} {X X' : Nat → Prop} {h h' : AHeap} {w w' : World} (L : Le ρ X h w ρ' X' h' w') {B : Nat} (hB : Out ρ X w B) : Out ρ' X' w' B :=
  ⟨(L.imm B hB).2.1, (L.imm B hB).2.2, Nat.lt_of_lt_of_le hB.lt L.size⟩

theorem cell_of_heap {w w' : World} {B o : Nat} (h : w'.heap[B]? = w.heap[B]?) : w'.cell? ⟨B, o, none⟩ = w.cell? ⟨B, o, none⟩ := by
  simp [World.cell?, h]

theorem Le.trans {ρ ρ' ρ'' : Map} {X X' X'' : Nat → Prop} {h h' h'' : AHeap} {w w' w'' : World} (L : Le ρ X h w ρ' X' h' w') (K : Le ρ' X' h' w' ρ'' X'' h'' w'') :
    Le ρ X h w ρ'' X'' h'' w'' where
  len := Nat.le_trans L.len K.len
  size := Nat.le_trans L.size K.size
  os := K.os.trans L.os
  tape := K.tape.trans L.tape
  output := K.output.trans L.output
  imm B hB := by
    obtain ⟨e1, _, _⟩ := L.imm B hB
    obtain ⟨e2, x2, y2⟩ := K.imm B (L.out hB)
    exact ⟨e2.trans e1, x2, y2⟩
  blk b hb B' hB' := by
    rcases K.blk b (Nat.lt_of_lt_of_le hb L.len) B' hB' with ⟨e, r, m, c⟩ | ⟨B, sz, els, els', e, r, r', hlt⟩
    · rcases L.blk b hb B' e with ⟨e0, r0, m0, c0⟩ | ⟨B, sz, els, els', e0, r0, r0', hlt⟩
      · refine .inl ⟨e0, fun sz els'' q => ?_, fun es'' q => ?_, fun arr t fr q => ?_⟩
        · obtain ⟨els', q', l'⟩ := r sz els'' q
          obtain ⟨els, q0, l0⟩ := r0 sz els' q'
          exact ⟨els, q0, l0.trans l'⟩
        · obtain ⟨es', q'⟩ := m es'' q
          exact m0 es' q'
        · obtain ⟨arr', fr', q', l'⟩ := c0 arr t fr q
          obtain ⟨arr'', fr'', q'', l''⟩ := c arr' t fr' q'
          exact ⟨arr'', fr'', q'', l''.trans l'⟩
      · cases hh : h''[b]? with
        | none => exact .inr (by
            exfalso
            rw [List.getElem?_eq_none_iff] at hh
            have := L.len; have := K.len; omega)
        | some x =>
          cases x with
          | row sz2 els2 =>
            obtain ⟨els1, q1, l1⟩ := r sz2 els2 hh
            rw [r0'] at q1
            simp only [Option.some.injEq, ABlk.row.injEq] at q1
            obtain ⟨rfl, rfl⟩ := q1
            exact .inr ⟨B, sz, els, els2, e0, r0, rfl, by omega⟩
          | map es =>
            obtain ⟨es', q'⟩ := m es hh
            rw [r0'] at q'
            simp at q'
    · rcases L.blk b hb B e with ⟨e0, r0, m0, c0⟩ | ⟨B0, sz0, els0, els1, e0, r0, r0', hlt0⟩
      · obtain ⟨els0, q0, l0⟩ := r0 sz els r
        exact .inr ⟨B, sz, els0, els', e0, q0, r', by omega⟩
      · rw [r0'] at r
        simp only [Option.some.injEq, ABlk.row.injEq] at r
        obtain ⟨rfl, rfl⟩ := r
        exact .inr ⟨B0, sz0, els0, els', e0, r0, r', by omega⟩

theorem VR.mono {fm : Nat → Nat} {ρ ρ' : Map} {X X' : Nat → Prop} {h h' : AHeap} {w w' : World} (L : Le ρ X h w ρ' X' h' w') {a : AV} {c : Value} (H : VR fm ρ X h w a c) :
    VR fm ρ' X' h' w' a c := by
  have hcell : ∀ B o, Out ρ X w B → w'.cell? ⟨B, o, none⟩ = w.cell? ⟨B, o, none⟩ := fun B o hB => cell_of_heap (L.imm B hB).1
  induction H with
  | bool b => exact .bool b
  | int k n => exact .int k n
  | str s => exact .str s
  | nilp => exact .nilp
  | @hptr b bl i off a hb ha =>
    refine .hptr (Nat.lt_of_lt_of_le hb L.len) fun B sz els hB he => ?_
    rcases L.blk b hb B hB with ⟨e, r, _, _⟩ | ⟨B0, sz0, els0, els1, e, r, r', hlt⟩
    · obtain ⟨els0, q, l⟩ := r sz els he
      obtain ⟨h1, h2⟩ := ha B sz els0 e q
      exact ⟨by omega, fun hl => h2 (by omega)⟩
    · rw [r'] at he
      simp only [Option.some.injEq, ABlk.row.injEq] at he
      obtain ⟨rfl, rfl⟩ := he
      obtain ⟨h1, _⟩ := ha B0 sz0 els0 e r
      exact ⟨by omega, fun hl => by omega⟩
  | @iptr cs off B o vs hB hl hc hv ih =>
    exact .iptr vs (L.out hB) hl (fun j v hj => ⟨by rw [hcell _ _ hB]; exact (hc j v hj).1, (hc j v hj).2⟩) ih
  | nils => exact .nils
  | @hsl b bl i len sz cc cap a hb hlc ha hs =>
    refine .hsl (Nat.lt_of_lt_of_le hb L.len) hlc (fun B els hB he => ?_) (fun B sz' els hB he => ?_)
    · rcases L.blk b hb B hB with ⟨e, r, _, c⟩ | ⟨B0, sz0, els0, els1, e, r, r', hlt⟩
      · obtain ⟨els0, q, l⟩ := r sz els he
        obtain ⟨h1, h2⟩ := ha B els0 e q
        refine ⟨by omega, fun hl => ?_⟩
        obtain ⟨h3, h4, arr, t, fr, h5, h6⟩ := h2 (by omega)
        obtain ⟨arr', fr', h7, h8⟩ := c arr t fr h5
        exact ⟨h3, by rw [← l]; exact h4, arr', t, fr', h7, by omega⟩
      · rw [r'] at he
        simp only [Option.some.injEq, ABlk.row.injEq] at he
        obtain ⟨rfl, rfl⟩ := he
        have h1 := hs B0 sz0 els0 e r
        exact ⟨by omega, fun hl => by omega⟩
    · rcases L.blk b hb B hB with ⟨e, r, _, c⟩ | ⟨B0, sz0, els0, els1, e, r, r', hlt⟩
      · obtain ⟨els0, q, l⟩ := r sz' els he
        have := hs B sz' els0 e q
        omega
      · rw [r'] at he
        simp only [Option.some.injEq, ABlk.row.injEq] at he
        obtain ⟨rfl, rfl⟩ := he
        have h1 := hs B0 sz0 els0 e r
        omega
  | @isl els sz cc cap a vss hl hlc hcap hB hsz hvs hc hv ih =>
    refine .isl vss hl hlc hcap (fun hne => ⟨(hB hne).1, L.out (hB hne).2⟩) hsz hvs (fun i e j v hi hj => ?_) ih
    have hne : els ≠ [] := by
      intro h0
      have : vss.length = 0 := by rw [hl, h0]; rfl
      rw [List.length_eq_zero_iff] at this
      rw [this] at hi
      simp at hi
    have := hc i e j v hi hj
    exact ⟨by rw [hcell _ _ (hB hne).2]; exact this.1, this.2⟩
  | nilm => exact .nilm
  | @hmap b r hb ha =>
    refine .hmap (Nat.lt_of_lt_of_le hb L.len) fun B es hB he => ?_
    rcases L.blk b hb B hB with ⟨e, _, m, _⟩ | ⟨B0, sz0, els0, els1, e, r, r', hlt⟩
    · obtain ⟨es0, q⟩ := m es he
      exact ha B es0 e q
    · rw [r'] at he
      simp at he
  | fn us vs hu hy hx hv ih1 ih2 => exact .fn us vs hu hy ih1 ih2
  | nilf => exact .nilf
  | ifc hx ih => exact .ifc ih
  | nili => exact .nili
  | agg vs hl hv ih => exact .agg vs hl ih
  | tup vs hl hv ih => exact .tup vs hl ih
  | junk v => exact .junk v

theorem atop_le {cap : Option Nat} {n cc : Nat} (hc : capIs cap n cc) : atop cap n ≤ cc := by
  cases cap with
  | none => exact hc
  | some c => simp only [capIs] at hc; simp only [atop]; omega

theorem VRs.mono {fm : Nat → Nat} {ρ ρ' : Map} {X X' : Nat → Prop} {h h' : AHeap} {w w' : World} (L : Le ρ X h w ρ' X' h' w') {a : List AV} {c : List Value} (H : VRs fm ρ X h w a c) :
    VRs fm ρ' X' h' w' a c := ⟨H.1, fun j x v hx hv => (H.2 j x v hx hv).mono L⟩

theorem VR.one {fm : Nat → Nat} {ρ : Map} {X : Nat → Prop} {h : AHeap} {w : World} {a : AV} {c : Value} (H : VR fm ρ X h w a c) (h1 : a.one = true) : c.oneCell' = true := by
  cases H <;> simp_all [AV.one, Value.oneCell']

/-! ### What the heap's blocks are in the world -/
structure RowR (fm : Nat → Nat) (ρ : Map) (X : Nat → Prop) (h : AHeap) (w : World) (B sz : Nat) (els : List (List AV)) : Prop where
  wid : ∀ (i : Nat) x, els[i]? = some x → x.length = sz
  ex : ∃ arr e fz, w.heap[B]? = some (.cells arr e fz) ∧ els.length * sz ≤ arr.size ∧ ((fz.2 ≤ fz.1 ∨ arr.size ≤ fz.1 ∧ sz = 1) ∧ ∀ (j : Nat) (v : Value), arr[j]? = some v → v.oneCell' = true) ∧
    ∀ (i : Nat) x (j : Nat) a, els[i]? = some x → x[j]? = some a → ∃ v, arr[i * sz + j]? = some v ∧ v.oneCell' = true ∧ VR fm ρ X h w a v

structure MapR (fm : Nat → Nat) (ρ : Map) (X : Nat → Prop) (h : AHeap) (w : World) (B : Nat) (es : List (List UInt8 × AV)) : Prop where
  ex : ∃ arr clock, w.heap[B]? = some (.map arr clock) ∧ arr.size = es.length ∧
    ∀ (i : Nat) k x, es[i]? = some (k, x) → ∃ me : MapEntry, arr[i]? = some me ∧ me.key = .string ⟨k.toArray⟩ ∧ VR fm ρ X h w x me.val

structure Inv (fm : Nat → Nat) (ρ : Map) (X : Nat → Prop) (h : AHeap) (w : World) : Prop where
  dom : ∀ b B, ρ b = some B → b < h.length ∧ B < w.heap.size ∧ ¬ X B
  inj : ∀ b b' B, ρ b = some B → ρ b' = some B → b = b'
  tot : ∀ b, b < h.length → ∃ B, ρ b = some B
  row : ∀ b B sz els, ρ b = some B → h[b]? = some (.row sz els) → RowR fm ρ X h w B sz els
  map : ∀ b B es, ρ b = some B → h[b]? = some (.map es) → MapR fm ρ X h w B es

theorem Inv.empty (fm : Nat → Nat) (X : Nat → Prop) (w : World) : Inv fm (fun _ => none) X [] w where
  dom _ _ h := by cases h
  inj _ _ _ h := by cases h
  tot _ h := by simp at h
  row _ _ _ _ h := by cases h
  map _ _ _ h := by cases h

theorem RowR.mono {fm : Nat → Nat} {ρ ρ' : Map} {X X' : Nat → Prop} {h h' : AHeap} {w w' : World} (L : Le ρ X h w ρ' X' h' w') {B sz : Nat} {els : List (List AV)}
    (H : RowR fm ρ X h w B sz els) (hw : w'.heap[B]? = w.heap[B]?) : RowR fm ρ' X' h' w' B sz els := by
  obtain ⟨h1, arr, e, fz, h2, h3, h4, h5⟩ := H
  refine ⟨h1, arr, e, fz, hw.trans h2, h3, h4, fun i x j a hx ha => ?_⟩
  obtain ⟨v, hv, ho, hr⟩ := h5 i x j a hx ha
  exact ⟨v, hv, ho, hr.mono L⟩

theorem MapR.mono {fm : Nat → Nat} {ρ ρ' : Map} {X X' : Nat → Prop} {h h' : AHeap} {w w' : World} (L : Le ρ X h w ρ' X' h' w') {B : Nat} {es : List (List UInt8 × AV)}
    (H : MapR fm ρ X h w B es) (hw : w'.heap[B]? = w.heap[B]?) : MapR fm ρ' X' h' w' B es := by
  obtain ⟨arr, c, h2, h3, h5⟩ := H
  refine ⟨arr, c, hw.trans h2, h3, fun i k x hx => ?_⟩
  obtain ⟨me, hm, hk, hr⟩ := h5 i k x hx
  exact ⟨me, hm, hk, hr.mono L⟩

end Go.Ai
/-
  The abstract interpreter: the steps by which heap and world change together.
-/
namespace Go.Ai
open Go.RowKit
set_option linter.unusedVariables false

section
variable {fm : Nat → Nat} {ρ : Map} {X : Nat → Prop} {h : AHeap} {w : World}

/-- Blocks that the heap has are as they were; what is new is nobody's. -/
theorem Inv.mono {X' : Nat → Prop} {w' : World} (I : Inv fm ρ X h w) (L : Le ρ X h w ρ X' h w') (hw : ∀ b B, ρ b = some B → w'.heap[B]? = w.heap[B]?)
    (hX : ∀ b B, ρ b = some B → ¬ X' B) : Inv fm ρ X' h w' where
  dom b B e := ⟨(I.dom b B e).1, Nat.lt_of_lt_of_le (I.dom b B e).2.1 L.size, hX b B e⟩
  inj := I.inj
  tot := I.tot
  row b B sz els e he := (I.row b B sz els e he).mono L (hw b B e)
  map b B es e he := (I.map b B es e he).mono L (hw b B e)

theorem Le.same {X' : Nat → Prop} {w' : World} (hs : w.heap.size ≤ w'.heap.size) (ho : w'.os = w.os) (ht : w'.tape = w.tape) (hp : w'.output = w.output)
    (hh : ∀ B, B < w.heap.size → w'.heap[B]? = w.heap[B]?) (hX : ∀ B, B < w.heap.size → ¬ X B → ¬ X' B) : Le ρ X h w ρ X' h w' where
  len := Nat.le_refl _
  size := hs
  os := ho
  tape := ht
  output := hp
  imm B hB := ⟨hh B hB.lt, hB.heap, hX B hB.lt hB.apart⟩
  blk b hb B' e := .inl ⟨e, fun sz els' q => ⟨els', q, rfl⟩, fun es' q => ⟨es', q⟩, fun arr t fr q => by
    have hlt : B' < w.heap.size := (Array.getElem?_eq_some_iff.1 q).1
    exact ⟨arr, fr, (hh B' hlt).trans q, rfl⟩⟩

theorem heap_alloc_lt (o : Obj) {B : Nat} (hB : B < w.heap.size) : (w.alloc o).heap[B]? = w.heap[B]? := Below.heap_alloc w o B hB
theorem heap_alloc_eq (o : Obj) : (w.alloc o).heap[w.heap.size]? = some o := by
  show (w.heap.push o)[w.heap.size]? = _
  simp

/-- a draw -/
theorem Le.drew : Le ρ X h w ρ X h w.drew := Le.same (Nat.le_refl _) rfl rfl rfl (fun _ _ => rfl) (fun _ _ hx => hx)
theorem Inv.drew (I : Inv fm ρ X h w) : Inv fm ρ X h w.drew := I.mono Le.drew (fun _ _ _ => rfl) (fun b B e => (I.dom b B e).2.2)

/-- a new block that nobody writes -/
theorem Le.alloc (o : Obj) : Le ρ X h w ρ X h (w.alloc o) := Le.same (by simp) rfl rfl rfl (fun B hB => heap_alloc_lt o hB) (fun _ _ hx => hx)
theorem Inv.alloc (I : Inv fm ρ X h w) (o : Obj) : Inv fm ρ X h (w.alloc o) :=
  I.mono (Le.alloc o) (fun b B e => heap_alloc_lt o (I.dom b B e).2.1) (fun b B e => (I.dom b B e).2.2)

/-- a new block that is set apart -/
theorem Le.allocX (o : Obj) {X' : Nat → Prop} (hX : ∀ B, X' B → X B ∨ B = w.heap.size) : Le ρ X h w ρ X' h (w.alloc o) :=
  Le.same (by simp) rfl rfl rfl (fun B hB => heap_alloc_lt o hB) (fun B hB hx hx' => (hX B hx').elim hx (fun h1 => by omega))
theorem Inv.allocX (I : Inv fm ρ X h w) (o : Obj) {X' : Nat → Prop} (hX : ∀ B, X' B → X B ∨ B = w.heap.size) : Inv fm ρ X' h (w.alloc o) :=
  I.mono (Le.allocX o hX) (fun b B e => heap_alloc_lt o (I.dom b B e).2.1) (fun b B e hx => by
    rcases hX B hx with h1 | h1
    · exact (I.dom b B e).2.2 h1
    · have := (I.dom b B e).2.1; omega)

def up (ρ : Map) (b B : Nat) : Map := fun x => if x = b then some B else ρ x
theorem up_same (ρ : Map) (b B : Nat) : up ρ b B b = some B := by simp [up]
theorem up_other (ρ : Map) {b x : Nat} (B : Nat) (hx : x ≠ b) : up ρ b B x = ρ x := by simp [up, hx]

theorem Inv.fresh (I : Inv fm ρ X h w) : ρ h.length = none := by
  cases e : ρ h.length with
  | none => rfl
  | some B => have := (I.dom _ B e).1; omega

/-- a new block of the heap -/
theorem Le.push (I : Inv fm ρ X h w) (hX : ¬ X w.heap.size) (o : Obj) (blk : ABlk) : Le ρ X h w (up ρ h.length w.heap.size) X (h ++ [blk]) (w.alloc o) where
  len := by simp
  size := by simp
  os := rfl
  tape := rfl
  output := rfl
  imm B hB := ⟨heap_alloc_lt o hB.lt, fun b hb => by
    by_cases e : b = h.length
    · subst e
      rw [up_same] at hb
      have := hB.lt
      injection hb with hb
      omega
    · rw [up_other _ _ e] at hb
      exact hB.heap b hb, hB.apart⟩
  blk b hb B' e := by
    have hne : b ≠ h.length := by omega
    rw [up_other _ _ hne] at e
    refine .inl ⟨e, fun sz els' q => ⟨els', ?_, rfl⟩, fun es' q => ⟨es', ?_⟩, fun arr t fr q => ⟨arr, fr, ?_, rfl⟩⟩
    · rwa [List.getElem?_append_left hb] at q
    · rwa [List.getElem?_append_left hb] at q
    · rw [heap_alloc_lt o (Array.getElem?_eq_some_iff.1 q).1]; exact q

theorem Inv.push (I : Inv fm ρ X h w) (hX : ¬ X w.heap.size) (o : Obj) (blk : ABlk)
    (hr : ∀ sz els, blk = .row sz els → RowR fm (up ρ h.length w.heap.size) X (h ++ [blk]) (w.alloc o) w.heap.size sz els)
    (hm : ∀ es, blk = .map es → MapR fm (up ρ h.length w.heap.size) X (h ++ [blk]) (w.alloc o) w.heap.size es) :
    Inv fm (up ρ h.length w.heap.size) X (h ++ [blk]) (w.alloc o) where
  dom b B e := by
    by_cases q : b = h.length
    · subst q
      rw [up_same] at e
      injection e with e
      subst e
      exact ⟨by simp, by simp, hX⟩
    · rw [up_other _ _ q] at e
      obtain ⟨h1, h2, h3⟩ := I.dom b B e
      exact ⟨by simp; omega, by simp; omega, h3⟩
  inj b b' B e e' := by
    by_cases q : b = h.length
    · by_cases q' : b' = h.length
      · rw [q, q']
      · subst q
        rw [up_same] at e
        rw [up_other _ _ q'] at e'
        have := (I.dom b' B e').2.1
        injection e with e
        omega
    · by_cases q' : b' = h.length
      · subst q'
        rw [up_same] at e'
        rw [up_other _ _ q] at e
        have := (I.dom b B e).2.1
        injection e' with e'
        omega
      · rw [up_other _ _ q] at e
        rw [up_other _ _ q'] at e'
        exact I.inj b b' B e e'
  tot b hb := by
    by_cases q : b = h.length
    · exact ⟨_, by rw [q, up_same]⟩
    · rw [up_other _ _ q]
      exact I.tot b (by simp at hb; omega)
  row b B sz els e he := by
    by_cases q : b = h.length
    · subst q
      rw [up_same] at e
      injection e with e
      subst e
      simp at he
      exact hr sz els he
    · rw [up_other _ _ q] at e
      have hb := (I.dom b B e).1
      rw [List.getElem?_append_left hb] at he
      exact (I.row b B sz els e he).mono (Le.push I hX o blk) (heap_alloc_lt o (I.dom b B e).2.1)
  map b B es e he := by
    by_cases q : b = h.length
    · subst q
      rw [up_same] at e
      injection e with e
      subst e
      simp at he
      exact hm es he
    · rw [up_other _ _ q] at e
      have hb := (I.dom b B e).1
      rw [List.getElem?_append_left hb] at he
      exact (I.map b B es e he).mono (Le.push I hX o blk) (heap_alloc_lt o (I.dom b B e).2.1)

/-- a row of the heap is written: as many elements, or more of them in the same block -/
theorem Le.set (I : Inv fm ρ X h w) {b B sz : Nat} {els els' : List (List AV)} (e : ρ b = some B) (he : h[b]? = some (.row sz els)) (hl : els.length ≤ els'.length)
    {arr arr' : Array Value} {t : TypeId} {fz : Nat × Nat} (ha : w.heap[B]? = some (.cells arr t fz)) (hs : arr'.size = arr.size) :
    Le ρ X h w ρ X (h.set b (.row sz els')) (w.setRow B arr') where
  len := by simp
  size := by simp
  os := rfl
  tape := rfl
  output := rfl
  imm B0 hB := ⟨setRow_other w B B0 arr' (fun q => hB.heap b (q ▸ e)), hB.heap, hB.apart⟩
  blk b0 hb0 B' e0 := by
    by_cases q : b0 = b
    · subst q
      rw [e] at e0
      injection e0 with e0
      subst e0
      have hg : (h.set b0 (.row sz els'))[b0]? = some (.row sz els') := by simp [hb0]
      rcases Nat.lt_or_eq_of_le hl with hlt | heq
      · exact .inr ⟨B, sz, els, els', e, he, hg, hlt⟩
      · refine .inl ⟨e, fun sz1 els1 q1 => ?_, fun es' q1 => ?_, fun arr1 t1 fr1 q1 => ?_⟩
        · rw [hg] at q1
          simp only [Option.some.injEq, ABlk.row.injEq] at q1
          obtain ⟨rfl, rfl⟩ := q1
          exact ⟨els, he, heq⟩
        · rw [hg] at q1
          simp at q1
        · rw [ha] at q1
          simp only [Option.some.injEq, Obj.cells.injEq] at q1
          obtain ⟨rfl, rfl, rfl⟩ := q1
          exact ⟨arr', fz, setRow_heap w B arr arr' t fz ha, hs⟩
    · have hne : B' ≠ B := fun q' => q (I.inj b0 b B (q' ▸ e0) e)
      refine .inl ⟨e0, fun sz1 els1 q1 => ⟨els1, ?_, rfl⟩, fun es' q1 => ⟨es', ?_⟩, fun arr1 t1 fr1 q1 => ⟨arr1, fr1, ?_, rfl⟩⟩
      · rwa [List.getElem?_set_ne (fun q' => q q'.symm)] at q1
      · rwa [List.getElem?_set_ne (fun q' => q q'.symm)] at q1
      · rw [setRow_other w B B' arr' hne]; exact q1

theorem Inv.set (I : Inv fm ρ X h w) {b B sz : Nat} {els els' : List (List AV)} (e : ρ b = some B) (he : h[b]? = some (.row sz els)) (hl : els.length ≤ els'.length)
    {arr arr' : Array Value} {t : TypeId} {fz : Nat × Nat} (ha : w.heap[B]? = some (.cells arr t fz)) (hs : arr'.size = arr.size)
    (hr : RowR fm ρ X (h.set b (.row sz els')) (w.setRow B arr') B sz els') : Inv fm ρ X (h.set b (.row sz els')) (w.setRow B arr') where
  dom b0 B0 e0 := by
    obtain ⟨h1, h2, h3⟩ := I.dom b0 B0 e0
    exact ⟨by simpa using h1, by simpa using h2, h3⟩
  inj := I.inj
  tot b0 hb0 := I.tot b0 (by simpa using hb0)
  row b0 B0 sz0 els0 e0 he0 := by
    have hb0 := (I.dom b0 B0 e0).1
    by_cases q : b0 = b
    · subst q
      rw [e] at e0
      injection e0 with e0
      subst e0
      have hg : (h.set b0 (.row sz els'))[b0]? = some (.row sz els') := by simp [hb0]
      rw [hg] at he0
      simp only [Option.some.injEq, ABlk.row.injEq] at he0
      obtain ⟨rfl, rfl⟩ := he0
      exact hr
    · have hne : B0 ≠ B := fun q' => q (I.inj b0 b B (q' ▸ e0) e)
      rw [List.getElem?_set_ne (fun q' => q q'.symm)] at he0
      exact (I.row b0 B0 sz0 els0 e0 he0).mono (Le.set I e he hl ha hs) (setRow_other w B B0 arr' hne)
  map b0 B0 es0 e0 he0 := by
    have hb0 := (I.dom b0 B0 e0).1
    by_cases q : b0 = b
    · subst q
      have hg : (h.set b0 (.row sz els'))[b0]? = some (.row sz els') := by simp [hb0]
      rw [hg] at he0
      simp at he0
    · have hne : B0 ≠ B := fun q' => q (I.inj b0 b B (q' ▸ e0) e)
      rw [List.getElem?_set_ne (fun q' => q q'.symm)] at he0
      exact (I.map b0 B0 es0 e0 he0).mono (Le.set I e he hl ha hs) (setRow_other w B B0 arr' hne)

/-- a row of the heap grows into a new block -/
theorem Le.grow (I : Inv fm ρ X h w) (hX : ¬ X w.heap.size) {b B sz : Nat} {els els' : List (List AV)} (e : ρ b = some B) (he : h[b]? = some (.row sz els)) (hl : els.length < els'.length)
    (o : Obj) : Le ρ X h w (up ρ b w.heap.size) X (h.set b (.row sz els')) (w.alloc o) where
  len := by simp
  size := by simp
  os := rfl
  tape := rfl
  output := rfl
  imm B0 hB := ⟨heap_alloc_lt o hB.lt, fun b0 hb0 => by
    by_cases q : b0 = b
    · subst q
      rw [up_same] at hb0
      have := hB.lt
      injection hb0 with hb0
      omega
    · rw [up_other _ _ q] at hb0
      exact hB.heap b0 hb0, hB.apart⟩
  blk b0 hb0 B' e0 := by
    by_cases q : b0 = b
    · subst q
      have hg : (h.set b0 (.row sz els'))[b0]? = some (.row sz els') := by simp [hb0]
      exact .inr ⟨B, sz, els, els', e, he, hg, hl⟩
    · rw [up_other _ _ q] at e0
      refine .inl ⟨e0, fun sz1 els1 q1 => ⟨els1, ?_, rfl⟩, fun es' q1 => ⟨es', ?_⟩, fun arr1 t1 fr1 q1 => ⟨arr1, fr1, ?_, rfl⟩⟩
      · rwa [List.getElem?_set_ne (fun q' => q q'.symm)] at q1
      · rwa [List.getElem?_set_ne (fun q' => q q'.symm)] at q1
      · rw [heap_alloc_lt o (Array.getElem?_eq_some_iff.1 q1).1]; exact q1

theorem Inv.grow (I : Inv fm ρ X h w) (hX : ¬ X w.heap.size) {b B sz : Nat} {els els' : List (List AV)} (e : ρ b = some B) (he : h[b]? = some (.row sz els)) (hl : els.length < els'.length)
    (o : Obj) (hr : RowR fm (up ρ b w.heap.size) X (h.set b (.row sz els')) (w.alloc o) w.heap.size sz els') : Inv fm (up ρ b w.heap.size) X (h.set b (.row sz els')) (w.alloc o) where
  dom b0 B0 e0 := by
    by_cases q : b0 = b
    · subst q
      rw [up_same] at e0
      injection e0 with e0
      subst e0
      exact ⟨by simpa using (I.dom b0 B e).1, by simp, hX⟩
    · rw [up_other _ _ q] at e0
      obtain ⟨h1, h2, h3⟩ := I.dom b0 B0 e0
      exact ⟨by simpa using h1, by simp; omega, h3⟩
  inj b0 b1 B0 e0 e1 := by
    by_cases q : b0 = b
    · by_cases q' : b1 = b
      · rw [q, q']
      · subst q
        rw [up_same] at e0
        rw [up_other _ _ q'] at e1
        have := (I.dom b1 B0 e1).2.1
        injection e0 with e0
        omega
    · by_cases q' : b1 = b
      · subst q'
        rw [up_same] at e1
        rw [up_other _ _ q] at e0
        have := (I.dom b0 B0 e0).2.1
        injection e1 with e1
        omega
      · rw [up_other _ _ q] at e0
        rw [up_other _ _ q'] at e1
        exact I.inj b0 b1 B0 e0 e1
  tot b0 hb0 := by
    by_cases q : b0 = b
    · exact ⟨_, by rw [q, up_same]⟩
    · rw [up_other _ _ q]
      exact I.tot b0 (by simpa using hb0)
  row b0 B0 sz0 els0 e0 he0 := by
    by_cases q : b0 = b
    · subst q
      rw [up_same] at e0
      injection e0 with e0
      subst e0
      have hb0 := (I.dom b0 B e).1
      have hg : (h.set b0 (.row sz els'))[b0]? = some (.row sz els') := by simp [hb0]
      rw [hg] at he0
      simp only [Option.some.injEq, ABlk.row.injEq] at he0
      obtain ⟨rfl, rfl⟩ := he0
      exact hr
    · rw [up_other _ _ q] at e0
      rw [List.getElem?_set_ne (fun q' => q q'.symm)] at he0
      exact (I.row b0 B0 sz0 els0 e0 he0).mono (Le.grow I hX e he hl o) (heap_alloc_lt o (I.dom b0 B0 e0).2.1)
  map b0 B0 es0 e0 he0 := by
    by_cases q : b0 = b
    · subst q
      have hb0 := (I.dom b0 B e).1
      have hg : (h.set b0 (.row sz els'))[b0]? = some (.row sz els') := by simp [hb0]
      rw [hg] at he0
      simp at he0
    · rw [up_other _ _ q] at e0
      rw [List.getElem?_set_ne (fun q' => q q'.symm)] at he0
      exact (I.map b0 B0 es0 e0 he0).mono (Le.grow I hX e he hl o) (heap_alloc_lt o (I.dom b0 B0 e0).2.1)

/-- a block that is set apart is written -/
theorem Le.setX {B : Nat} (hB : X B) {arr arr' : Array Value} {t : TypeId} {fz : Nat × Nat} (hρ : ∀ b, ρ b ≠ some B) : Le ρ X h w ρ X h (w.setRow B arr') where
  len := Nat.le_refl _
  size := by simp
  os := rfl
  tape := rfl
  output := rfl
  imm B0 hB0 := ⟨setRow_other w B B0 arr' (fun q => hB0.apart (q ▸ hB)), hB0.heap, hB0.apart⟩
  blk b0 hb0 B' e0 := by
    have hne : B' ≠ B := fun q => hρ b0 (q ▸ e0)
    exact .inl ⟨e0, fun sz els' q => ⟨els', q, rfl⟩, fun es' q => ⟨es', q⟩, fun arr t fr q => ⟨arr, fr, by rw [setRow_other w B B' arr' hne]; exact q, rfl⟩⟩

theorem Inv.setX (I : Inv fm ρ X h w) {B : Nat} (hB : X B) {arr' : Array Value} : Inv fm ρ X h (w.setRow B arr') :=
  have hρ : ∀ b, ρ b ≠ some B := fun b e => (I.dom b B e).2.2 hB
  I.mono (Le.setX hB hρ (arr := #[]) (t := 0) (fz := (0, 0))) (fun b B0 e => setRow_other w B B0 arr' (fun q => hρ b (q ▸ e))) (fun b B0 e => (I.dom b B0 e).2.2)

end

/-- the cells of a row are stored, the frozen range behind them -/
theorem run_storeCells_any (P : Program) (g o : Nat) (t : TypeId) (fz : Nat × Nat) : ∀ (vs : List Value) (i : Nat) (cur : Array Value) (w : World), w.heap[g]? = some (.cells cur t fz) → (fz.2 ≤ fz.1 ∨ cur.size ≤ fz.1) → o + i + vs.length ≤ cur.size → (∀ v ∈ vs, v.oneCell' = true) →
    (storeCells ⟨g, o, none⟩ vs i).run P w = .ok () (w.setRow g (cur.toList.take (o + i) ++ vs ++ cur.toList.drop (o + i + vs.length)).toArray)
  | [], i, cur, w, hg, _, _, _ => by
    simp only [storeCells, List.append_nil, List.length_nil, Nat.add_zero, List.take_append_drop, Array.toArray_toList]
    rw [setRow_self w g cur t fz hg]
    rfl
  | v :: rest, i, cur, w, hg, hfz, hl, h1 => by
    have hi : o + i < cur.size := by simp at hl; omega
    have hadd : (⟨g, o, none⟩ : Addr).add i = ⟨g, o + i, none⟩ := by unfold Addr.add; split <;> simp_all
    have hcell : w.cell? ⟨g, o + i, none⟩ = some cur[o + i] := by simp [World.cell?, hg, hi]
    have hfro : w.frozen? ⟨g, o + i, none⟩ = false := by
      obtain ⟨lo, hi'⟩ := fz
      simp only [World.frozen?, hg, Bool.and_eq_false_iff, decide_eq_false_iff_not]
      simp only at hfz
      rcases hfz with hfz | hfz
      · by_cases q : lo ≤ o + i
        · right; omega
        · left; exact q
      · left; omega
    have hst : (store ((⟨g, o, none⟩ : Addr).add i) v).run P w = .ok () (w.setRow g (cur.setIfInBounds (o + i) v)) := by
      rw [hadd, run_store P w _ v _ (h1 v (by simp)), hcell]
      simp [hfro, setCell_eq_setRow w g (o + i) cur t fz v hg]
    have ih := run_storeCells_any P g o t fz rest (i + 1) (cur.setIfInBounds (o + i) v) (w.setRow g (cur.setIfInBounds (o + i) v)) (setRow_heap w g cur _ t _ hg) (by simpa using hfz) (by simp at hl ⊢; omega) (fun x hx => h1 x (by simp [hx]))
    simp only [storeCells, Sem.run_bind, hst, Result.andThen_ok, ih, setRow_setRow]
    congr 3
    have e := list_seg_step cur.toList (o + i) v rest (by simp at hl ⊢; omega)
    simpa [Array.toList_setIfInBounds, Nat.add_assoc] using e

end Go.Ai
/-
  The abstract interpreter: the IR is computed out of the model's code; a frame's relation.
-/
namespace Go.Ai
open Go.RowKit
set_option linter.unusedVariables false

/-! ### Constants -/
def ofC1 : Value → AV
  | .bool b => .bool b
  | .int k n => .int k n
  | .string s => .str s.data.toList
  | .pointer none => .nilp
  | .slice none 0 0 => .nils
  | .map none => .nilm
  | .nilFunc => .nilf
  | .nilIface => .nili
  | _ => .junk

def ofC : Value → AV
  | .agg cs => .agg (cs.toList.map ofC1)
  | .tuple vs => .tup (vs.toList.map ofC1)
  | v => ofC1 v

section
variable (fm : Nat → Nat) (ρ : Map) (X : Nat → Prop) (h : AHeap) (w : World)

theorem VR_ofC1 (v : Value) : VR fm ρ X h w (ofC1 v) v := by
  unfold ofC1
  split
  · exact .bool _
  · exact .int _ _
  · rename_i s
    have : (⟨s.data.toList.toArray⟩ : ByteArray) = s := by cases s; simp
    rw [show Value.string s = Value.string ⟨s.data.toList.toArray⟩ by rw [this]]
    exact .str _
  · exact .nilp
  · exact .nils
  · exact .nilm
  · exact .nilf
  · exact .nili
  · exact .junk _

theorem VR_list_ofC1 (vs : Array Value) : ∀ (j : Nat) a v, (vs.toList.map ofC1)[j]? = some a → vs.toList[j]? = some v → VR fm ρ X h w a v := by
  intro j a v ha hv
  rw [List.getElem?_map, hv] at ha
  simp only [Option.map_some, Option.some.injEq] at ha
  subst ha
  exact VR_ofC1 fm ρ X h w v

theorem VR_ofC (v : Value) : VR fm ρ X h w (ofC v) v := by
  unfold ofC
  split
  · rename_i cs
    rw [show Value.agg cs = Value.agg cs.toList.toArray by simp]
    exact .agg _ (by simp) (VR_list_ofC1 fm ρ X h w cs)
  · rename_i cs
    rw [show Value.tuple cs = Value.tuple cs.toList.toArray by simp]
    exact .tup _ (by simp) (VR_list_ofC1 fm ρ X h w cs)
  · exact VR_ofC1 fm ρ X h w v
end

/-! ### A frame's relation -/
def XP (X : Nat → Prop) (PV : Map) : Nat → Prop := fun B => X B ∨ ∃ d, PV d = some B

def ER (fm : Nat → Nat) (ρ : Map) (X : Nat → Prop) (PV : Map) (h : AHeap) (w : World) (a : AV) (c : Value) : Prop :=
  match a with
  | .lptr d off => ∃ B, PV d = some B ∧ c = .pointer (some ⟨B, off, none⟩)
  | a => VR fm ρ X h w a c

def LR (fm : Nat → Nat) (ρ : Map) (X : Nat → Prop) (h : AHeap) (w : World) (v : LVar) (B : Nat) : Prop :=
  match v with
  | .cells cs => ∃ arr e fz, w.heap[B]? = some (.cells arr e fz) ∧ arr.size = cs.length ∧ (fz.2 ≤ fz.1 ∨ arr.size ≤ fz.1) ∧
      ∀ (j : Nat) a, cs[j]? = some a → ∃ v, arr[j]? = some v ∧ v.oneCell' = true ∧ VR fm ρ X h w a v
  | .iter b pos => w.heap[B]? = some (.stringIter ⟨b.toArray⟩ pos)

structure FR (fm : Nat → Nat) (ρ : Map) (X : Nat → Prop) (PV : Map) (s : St) (w : World) (tmps : Array Value) : Prop where
  inv : Inv fm ρ (XP X PV) s.heap w
  pv : ∀ d B, PV d = some B → ¬ X B ∧ B < w.heap.size
  pvinj : ∀ d d' B, PV d = some B → PV d' = some B → d = d'
  env : ∀ t, ER fm ρ (XP X PV) PV s.heap w (s.env.get t) (tmps.getD t undef)
  vars : ∀ d v, varGet s.vars d = some v → ∃ B, PV d = some B ∧ LR fm ρ (XP X PV) s.heap w v B
  new : ∀ B, X B → B < w.heap.size
  pvdom : ∀ d B, PV d = some B → ∃ v, varGet s.vars d = some v

theorem ER.plain {fm : Nat → Nat} {ρ : Map} {X : Nat → Prop} {PV : Map} {h : AHeap} {w : World} {a : AV} {c : Value} (H : ER fm ρ X PV h w a c) : VR fm ρ X h w a.plain c := by
  cases a <;> first | exact H | exact .junk _

theorem ER.of {fm : Nat → Nat} {ρ : Map} {X : Nat → Prop} {PV : Map} {h : AHeap} {w : World} {a : AV} {c : Value} (H : VR fm ρ X h w a c) : ER fm ρ X PV h w a c := by
  cases a <;> first | exact H | (cases H; done)

theorem ER.mono {fm : Nat → Nat} {ρ ρ' : Map} {X X' : Nat → Prop} {PV : Map} {h h' : AHeap} {w w' : World} (L : Le ρ X h w ρ' X' h' w') {a : AV} {c : Value} (H : ER fm ρ X PV h w a c) :
    ER fm ρ' X' PV h' w' a c := by
  cases a <;> first | exact H | exact VR.mono L H

theorem LR.mono {fm : Nat → Nat} {ρ ρ' : Map} {X X' : Nat → Prop} {h h' : AHeap} {w w' : World} (L : Le ρ X h w ρ' X' h' w') {v : LVar} {B : Nat}
    (H : LR fm ρ X h w v B) (hw : w'.heap[B]? = w.heap[B]?) : LR fm ρ' X' h' w' v B := by
  cases v with
  | cells cs =>
    obtain ⟨arr, e, fz, h1, h2, h3, h4⟩ := H
    refine ⟨arr, e, fz, hw.trans h1, h2, h3, fun j a ha => ?_⟩
    obtain ⟨v, hv, ho, hr⟩ := h4 j a ha
    exact ⟨v, hv, ho, hr.mono L⟩
  | iter b pos => exact hw.trans H

/-- a step of a frame: its blocks set apart may be written; others' may not -/
structure Step (X : Nat → Prop) (bar : Nat) (ρ : Map) (PV : Map) (h : AHeap) (w : World) (ρ' : Map) (PV' : Map) (h' : AHeap) (w' : World) : Prop where
  le : Le ρ (XP X PV) h w ρ' (XP X PV') h' w'
  out : ∀ B, B < w.heap.size → X B → w'.heap[B]? = w.heap[B]?
  bar : ∀ b, b < bar → ρ' b = ρ b ∧ h'[b]? = h[b]?
  pv : ∀ d B, PV' d = some B → PV d = some B ∨ w.heap.size ≤ B

theorem Step.refl (X : Nat → Prop) (bar : Nat) (ρ : Map) (PV : Map) (h : AHeap) (w : World) : Step X bar ρ PV h w ρ PV h w :=
  ⟨Le.refl _ _ _ _, fun _ _ _ => rfl, fun _ _ => ⟨rfl, rfl⟩, fun _ _ h => .inl h⟩

theorem Step.trans {X : Nat → Prop} {bar : Nat} {ρ ρ' ρ'' : Map} {PV PV' PV'' : Map} {h h' h'' : AHeap} {w w' w'' : World}
    (A : Step X bar ρ PV h w ρ' PV' h' w') (B : Step X bar ρ' PV' h' w' ρ'' PV'' h'' w'') : Step X bar ρ PV h w ρ'' PV'' h'' w'' where
  le := A.le.trans B.le
  out b hb hx := (B.out b (Nat.lt_of_lt_of_le hb A.le.size) hx).trans (A.out b hb hx)
  bar b hb := ⟨(B.bar b hb).1.trans (A.bar b hb).1, (B.bar b hb).2.trans (A.bar b hb).2⟩
  pv d b hd := by
    rcases B.pv d b hd with h1 | h1
    · exact A.pv d b h1
    · exact .inr (Nat.le_trans A.le.size h1)

/-! ### The IR out of the code -/
section
variable (P : Program) (fmi : Nat → Option Nat)

def lOpd : Operand → Option SOpd
  | .tmp t => some (.t t)
  | .const v => some (.c (ofC v))
  | .func f => (fmi f).map .f
  | .global _ => none

def lOpds : List Operand → Option (List SOpd)
  | [] => some []
  | x :: r => (lOpd fmi x).bind fun a => (lOpds r).map fun l => a :: l

def lOpt : Option Operand → Option (Option SOpd)
  | none => some none
  | some x => (lOpd fmi x).map some

def tSize (t : Nat) : Option Nat := (P.info? t).map (·.size)
def tBytes (t : Nat) : Option Nat := (P.info? t).map (·.bytes)
def tZero (t : Nat) : Option Value := (P.info? t).bind (·.zero)
def tAgg (t : Nat) : Option Bool := (P.underlying t).map fun | .struct _ | .array _ _ => true | _ => false

/-- a load of a variable of type t: of one cell, or of so many -/
def tPart (t : Nat) : Option (Option Nat) := (tAgg P t).bind fun a => if a then (tSize P t).map some else some none

def hintPl : SOp → Place
  | .box p _ => p
  | .new p _ => p
  | _ => .heap

def hintH : SOp → Bool
  | .bslice h _ _ _ => h
  | .s2b h _ => h
  | _ => false

def hintM : SOp → Mode
  | .load m _ _ => m
  | .store m _ _ _ => m
  | _ => .any

def hintP : SOp → Bool
  | .callv p _ _ => p
  | _ => false

def hintRow : SOp → Option Nat
  | .newrow sz _ => some sz
  | _ => none

def chunk (sz : Nat) : Nat → List AV → List (List AV)
  | 0, _ => []
  | n + 1, l => l.take sz :: chunk sz n (l.drop sz)

def oneCells (cs : Array Value) : Bool := cs.all (·.oneCell')

/-- places of a struct's fields: offset, size -/
def tPlaces (fields : List Field) : Option (List (Nat × Nat)) :=
  match fields with
  | [] => some []
  | f :: r => (tSize P f.type).bind fun n => (tPlaces r).map fun l => (f.offset, n) :: l

def lParts (places : Nat → Option (Nat × Nat)) : List (Nat × Operand) → Option (List (Nat × Nat × SOpd))
  | [] => some []
  | (i, x) :: r => (places i).bind fun (o, n) => (lOpd fmi x).bind fun a => (lParts places r).map fun l => (o, n, a) :: l

def lElems : List (Nat × Operand) → Option (List (Nat × SOpd))
  | [] => some []
  | (i, x) :: r => (lOpd fmi x).bind fun a => (lElems r).map fun l => (i, a) :: l

/-- a struct's or an array's cells are of plain kinds, compared one by one -/
def flatEq : Nat → Nat → Bool
  | 0, _ => false
  | d + 1, t =>
    match P.underlying t with
    | some .bool | some (.int _) | some .string => tSize P t == some 1
    | some (.struct fs) => !P.stoodInHeld t && flatFields d fs.toList 0 && (tSize P t == some (fs.toList.foldl (fun n f => n + ((tSize P f.type).getD 0)) 0))
    | some (.array n e) => flatEq d e && (tSize P t == some (n * (tSize P e).getD 0)) && (tSize P e).isSome
    | _ => false
where
  flatFields (d : Nat) : List Field → Nat → Bool
    | [], _ => true
    | f :: r, o => f.name != "_" && f.offset == o && flatEq d f.type && (tSize P f.type).isSome && flatFields d r (o + (tSize P f.type).getD 0)

def isNilIface : Operand → Bool
  | .const .nilIface => true
  | _ => false

/-- the kind of an operator's operands -/
def lBin (op : BinOp) (t : Nat) (x y : Operand) : Option EqK :=
  match P.underlying t with
  | some (.int _) | some .string => some .num
  | some .bool => some .bool
  | some (.pointer _) => some .ptr
  | some (.slice _) => some .slice
  | some (.map _ _) => some .map
  | some (.func _ _ _) => some .func
  | some (.interface _) => if isNilIface x || isNilIface y then some .iface else none
  | _ => none

def bodied (f : Nat) : Bool :=
  match P.funcs[f]? with
  | some fn => fn.body.isSome && !(fn.name == "runtime.NumGoroutine")
  | none => false

def extOf (f : Nat) : Option Nat :=
  match P.funcs[f]? with
  | some fn =>
    if fn.body.isNone && fn.origin == "" then
      if fn.name == "internal/bytealg.abigen_runtime_cmpstring" then some 0
      else if fn.name == "internal/bytealg.IndexByteString" then some 1
      else none
    else if fn.body.isNone && fn.name == "slices.overlaps[archivist/label.Pair]" && fn.origin == "slices.overlaps" then
      match fn.params.toList with
      | [t, u] => if t == u then match P.underlying t with
        | some (.slice e) => if (tSize P e).isSome then some 2 else none
        | _ => none
        else none
      | _ => none
    else none
  | none => none

def lCall (c : Call) (type : Nat) (hint : SOp) : Option SOp :=
  match c.callee with
  | .invoke _ _ => none
  | .value (.func f) => if bodied P f then (fmi f).bind fun g => (lOpds fmi c.args.toList).map fun as => .callf g as else (extOf P f).bind fun k => (lOpds fmi c.args.toList).map fun as => .ext k as
  | .value x => (lOpd fmi x).bind fun g => (lOpds fmi c.args.toList).map fun as => .callv (hintP hint) g as
  | .builtin b =>
    match b, c.args.toList, c.argTypes.toList with
    | .len, [x], [t] =>
      (lOpd fmi x).bind fun a =>
      match P.underlying t with
      | some (.array n _) => some (.len (some n) .slice a)
      | some .string => some (.len none .str a)
      | some (.slice _) => some (.len none .slice a)
      | some (.map _ _) => some (.len none .map a)
      | _ => none
    | .cap, [x], [t] =>
      (lOpd fmi x).bind fun a =>
      match P.underlying t with
      | some (.slice _) => some (.cap a)
      | _ => none
    | .append, [s, x], [t, u] =>
      (lOpd fmi s).bind fun a => (lOpd fmi x).bind fun b =>
      match P.underlying t with
      | some (.slice e) => (tSize P e).bind fun sz => (tBytes P e).bind fun by_ => (tZero P e).bind fun z =>
        if by_ ≤ 4096 ∧ 0 < by_ ∧ 0 < sz ∧ z.cells.size = sz ∧ oneCells z.cells then
          match P.underlying u with
          | some (.int _) => some (.append sz (some (z.cells.toList.map ofC1)) a b)
          | some (.slice _) | some .string => some (.append sz none a b)
          | _ => none
        else none
      | _ => none
    | .copy, [d, x], [t, u] =>
      (lOpd fmi d).bind fun a => (lOpd fmi x).bind fun b =>
      match P.underlying t with
      | some (.slice e) => (tSize P e).bind fun sz => if 0 < sz then some (.copy sz a b) else none
      | _ => none
    | .clear, [x], [t] =>
      (lOpd fmi x).bind fun a =>
      match P.underlying t with
      | some (.slice e) => (tSize P e).bind fun sz => (tZero P e).bind fun z => if 0 < sz ∧ z.cells.size = sz ∧ oneCells z.cells then some (.clear sz (z.cells.toList.map ofC1) a) else none
      | _ => none
    | .max, xs, _ => (lOpds fmi xs).map fun as => .minmax true as
    | .min, xs, _ => (lOpds fmi xs).map fun as => .minmax false as
    | _, _, _ => none

def lOp (hint : SOp) (o : Oper) : Option SOp :=
  match o.op with
  | .move x | .assign x => (lOpd fmi x).map .mv
  | .pick c a b => (lOpd fmi c).bind fun c => (lOpd fmi a).bind fun a => (lOpd fmi b).map fun b => .pick c a b
  | .alloc t => (tZero P t).bind fun z =>
    if oneCells z.cells then
      match hintRow hint with
      | some sz => match P.underlying t with
        | some (.array n e) => if tSize P e = some sz ∧ z.cells.size = n * sz then some (.newrow sz (chunk sz n (z.cells.toList.map ofC1))) else none
        | _ => none
      | none => some (.new (hintPl hint) (z.cells.toList.map ofC1))
    else none
  | .box _ x => (lOpd fmi x).map fun x => .box (hintPl hint) x
  | .build t parts => (tZero P t).bind fun z =>
    if oneCells z.cells then
      match P.underlying t with
      | some (.struct fs) => (tPlaces P fs.toList).bind fun pl => (lParts fmi (pl[·]?) parts.toList).map fun l => .build (z.cells.toList.map ofC1) l
      | some (.array n e) => (tSize P e).bind fun sz => (lParts fmi (fun i => some (i * sz, sz)) parts.toList).map fun l => .build (z.cells.toList.map ofC1) l
      | _ => none
    else none
  | .buildSlice t n parts =>
    match P.underlying t with
    | some (.slice e) => (tSize P e).bind fun sz => (tZero P e).bind fun z =>
      if n * sz ≤ 16777216 ∧ 0 < sz ∧ z.cells.size = sz ∧ oneCells z.cells then
        (lElems fmi parts.toList).map fun l => .bslice (hintH hint) sz (List.replicate n (z.cells.toList.map ofC1)) l
      else none
    | _ => none
  | .load t x => (lOpd fmi x).bind fun x => (tPart P t).map fun n => .load (hintM hint) n x
  | .store t a x => (lOpd fmi a).bind fun a => (lOpd fmi x).bind fun x => (tSize P t).map fun n => .store (hintM hint) n a x
  | .nilCheck x => (lOpd fmi x).map .nilchk
  | .binOp op t x y _ => (lBin P op t x y).bind fun k => (lOpd fmi x).bind fun x => (lOpd fmi y).map fun y => .bin op k x y
  | .unOp op _ x => (lOpd fmi x).map fun x => .un op x
  | .convert src dst x => (lOpd fmi x).bind fun x =>
    match P.underlying src, P.underlying dst with
    | some (.int _), some (.int k) => some (.cvint k x)
    | some .string, some .string => some (.cvid x)
    | some .string, some (.slice e) => if P.underlying e matches some (.int .u8) then some (.s2b (hintH hint) x) else none
    | some (.slice e), some .string => if P.underlying e matches some (.int .u8) then some (.b2s x) else none
    | _, _ => none
  | .makeInterface t x => if P.underlying t matches some (.interface _) then none else if (P.underlying t).isNone then none else (lOpd fmi x).map fun x => .mkif 0 x
  | .makeFunc (.func f) first cap => (fmi f).bind fun g => (lOpds fmi first.toList).bind fun a => (lOpds fmi cap.toList).map fun c => .mkfn g a c
  | .makeMap _ none => some .mkmap
  | .makeSlice t l c =>
    match P.underlying t with
    | some (.slice e) => (tSize P e).bind fun sz => (tZero P e).bind fun z => (tBytes P e).bind fun by_ =>
      if by_ ≤ 4096 ∧ 0 < by_ ∧ 0 < sz ∧ z.cells.size = sz ∧ oneCells z.cells then (lOpd fmi l).bind fun l => (lOpd fmi c).map fun c => .mkslice sz (z.cells.toList.map ofC1) l c else none
    | _ => none
  | .slice t x lo hi mx => (lOpd fmi x).bind fun x => (lOpt fmi lo).bind fun lo => (lOpt fmi hi).bind fun hi => (lOpt fmi mx).bind fun mx =>
    match P.underlying t with
    | some .string => if mx.isNone then some (.slice .str 1 x lo hi none) else none
    | some (.slice e) => (tSize P e).bind fun sz => if 0 < sz ∧ (mx.isSome → hi.isSome) then some (.slice .slice sz x lo hi mx) else none
    | some (.array n e) => if mx.isNone then (tSize P e).map fun sz => .slicearr n sz x lo hi else none
    | _ => none
  | .fieldAddr t x f =>
    match P.underlying t with
    | some (.struct fs) => (fs[f]?).bind fun fd => (tSize P fd.type).bind fun n => if 0 < n then (lOpd fmi x).map fun x => .faddr fd.offset x else none
    | _ => none
  | .field t x f =>
    match P.underlying t with
    | some (.struct fs) => (fs[f]?).bind fun fd => (tPart P fd.type).bind fun n => (lOpd fmi x).map fun x => .field fd.offset n x
    | _ => none
  | .indexAddr t x i => (lOpd fmi x).bind fun x => (lOpd fmi i).bind fun i =>
    match P.underlying t with
    | some (.array n e) => (tSize P e).bind fun sz => if 0 < sz then some (.iaddr (some n) sz x i) else none
    | some (.slice e) => (tSize P e).bind fun sz => if 0 < sz then some (.iaddr none sz x i) else none
    | _ => none
  | .index t x i => (lOpd fmi x).bind fun x => (lOpd fmi i).bind fun i =>
    match P.underlying t with
    | some (.array n e) => (tSize P e).bind fun sz => (tAgg P e).map fun ag => .idx (some (n, sz, ag)) x i
    | some .string => some (.idx none x i)
    | _ => none
  | .extract x i => (lOpd fmi x).map fun x => .extract i x
  | .range t x =>
    match P.underlying t, o.dst with
    | some .string, some d => (lOpd fmi x).map fun x => .srange d x
    | _, _ => none
  | .next x true => (lOpd fmi x).map .snext
  | .lookup t m k ok =>
    match P.underlying t with
    | some (.map kt et) => if P.underlying kt matches some .string then (tZero P et).bind fun z => (lOpd fmi m).bind fun m => (lOpd fmi k).map fun k => .lookup (ofC z) ok m k else none
    | _ => none
  | .mapUpdate t m k x =>
    match P.underlying t with
    | some (.map kt _) => if P.underlying kt matches some .string then (lOpd fmi m).bind fun m => (lOpd fmi k).bind fun k => (lOpd fmi x).map fun x => .mapupd m k x else none
    | _ => none
  | .call c => lCall P fmi c o.type hint
  | _ => none

end

end Go.Ai
/-
  The abstract interpreter: operations that change nothing.
-/
namespace Go.Ai
open Go.RowKit
set_option linter.unusedVariables false
set_option linter.unusedSimpArgs false

/-- what an operation's run comes to -/
def Good (fm : Nat → Nat) (ρ : Map) (X : Nat → Prop) (PV : Map) (bar : Nat) (s : St) (w : World) (tmps : Array Value) (R : Result Next) (v : AV) (s' : St) : Prop :=
  ∃ nx w' c ρ' PV', R = .ok nx w' ∧ (nx = .value c ∨ (nx = .skip ∧ c = undef)) ∧ FR fm ρ' X PV' s' w' tmps ∧ ER fm ρ' (XP X PV') PV' s'.heap w' v c ∧
    Step X bar ρ PV s.heap w ρ' PV' s'.heap w'

section
variable {P : Program} {fm : Nat → Nat} {fmi : Nat → Option Nat} {ρ : Map} {X : Nat → Prop} {PV : Map} {bar : Nat} {s : St} {w : World} {tmps : Array Value}

theorem Good.same (F : FR fm ρ X PV s w tmps) {R : Result Next} {v : AV} {c : Value} (hr : R = .ok (.value c) w) (hv : ER fm ρ (XP X PV) PV s.heap w v c) : Good fm ρ X PV bar s w tmps R v s :=
  ⟨_, w, c, ρ, PV, hr, .inl rfl, F, hv, Step.refl _ _ _ _ _ _⟩

theorem FR.raw (hfm : ∀ f g, fmi f = some g → fm g = f) (F : FR fm ρ X PV s w tmps) {x : Operand} {sx : SOpd} (hx : lOpd fmi x = some sx) {a : Act} (ha : a.tmps = tmps) :
    ER fm ρ (XP X PV) PV s.heap w (s.raw sx) (a.eval x) := by
  cases x with
  | tmp t =>
    simp only [lOpd, Option.some.injEq] at hx
    subst hx
    simp only [St.raw, Act.eval, ha]
    exact F.env t
  | const v =>
    simp only [lOpd, Option.some.injEq] at hx
    subst hx
    exact ER.of (VR_ofC _ _ _ _ _ v)
  | global g => simp [lOpd] at hx
  | func f =>
    simp only [lOpd, Option.map_eq_some_iff] at hx
    obtain ⟨g, hg, rfl⟩ := hx
    simp only [St.raw, Act.eval]
    rw [← hfm f g hg]
    exact VR.fn [] [] rfl rfl (by simp) (by simp)

theorem FR.val (hfm : ∀ f g, fmi f = some g → fm g = f) (F : FR fm ρ X PV s w tmps) {x : Operand} {sx : SOpd} (hx : lOpd fmi x = some sx) {a : Act} (ha : a.tmps = tmps) :
    VR fm ρ (XP X PV) s.heap w (s.val sx) (a.eval x) := (F.raw hfm hx ha).plain

theorem FR.vals (hfm : ∀ f g, fmi f = some g → fm g = f) (F : FR fm ρ X PV s w tmps) {a : Act} (ha : a.tmps = tmps) : ∀ {xs : List Operand} {sxs : List SOpd}, lOpds fmi xs = some sxs →
    VRs fm ρ (XP X PV) s.heap w (sxs.map s.val) (xs.map a.eval)
  | [], _, h => by
    simp only [lOpds, Option.some.injEq] at h
    subst h
    exact ⟨rfl, by simp⟩
  | x :: r, _, h => by
    simp only [lOpds, Option.bind_eq_some_iff, Option.map_eq_some_iff] at h
    obtain ⟨a1, h1, l, h2, rfl⟩ := h
    have ih := FR.vals hfm F ha h2
    refine ⟨by simp [ih.1], fun j u v hu hv => ?_⟩
    cases j with
    | zero =>
      simp at hu hv
      subst hu hv
      exact F.val hfm h1 ha
    | succ j =>
      simp at hu hv
      exact ih.2 j u v (by simpa using hu) (by simpa using hv)

theorem run_underlying' {t : Nat} {d : TypeDesc} (h : P.underlying t = some d) (w : World) : (underlying t).run P w = .ok d w := by
  simp [underlying, h]

theorem run_sizeOf' {t n : Nat} (h : tSize P t = some n) (w : World) : (sizeOf t).run P w = .ok n w := by
  simp only [tSize, Option.map_eq_some_iff] at h
  obtain ⟨i, h1, h2⟩ := h
  simp [sizeOf, typeInfo, h1, h2]

theorem run_zeroValue' {t : Nat} {z : Value} (h : tZero P t = some z) (w : World) : (zeroValue t).run P w = .ok z w := by
  simp only [tZero, Option.bind_eq_some_iff] at h
  obtain ⟨i, h1, h2⟩ := h
  simp [zeroValue, typeInfo, h1, h2]

theorem run_isAgg' {t : Nat} {b : Bool} (h : tAgg P t = some b) (w : World) : (isAgg t).run P w = .ok b w := by
  simp only [tAgg, Option.map_eq_some_iff] at h
  obtain ⟨d, h1, h2⟩ := h
  subst h2
  simp only [isAgg, Sem.run_bind, run_underlying' h1, Result.andThen_ok]
  split <;> simp_all

theorem addr_add (B o n : Nat) : (⟨B, o, none⟩ : Addr).add n = ⟨B, o + n, none⟩ := by
  unfold Addr.add
  split <;> simp_all

/-- cells of the world at an address, one by one -/
def CellsAt (w : World) (B o : Nat) (vs : List Value) : Prop := ∀ (j : Nat) v, vs[j]? = some v → w.cell? ⟨B, o + j, none⟩ = some v

/-- a load of a part of a row: what it comes to -/
theorem run_loadVar_part {t : Nat} {n : Option Nat} (ht : tPart P t = some n) {B o : Nat} {vs : List Value} (hc : CellsAt w B o vs) {h : AHeap} {X : Nat → Prop} {cs : List AV}
    (hl : vs.length = cs.length) (hv : ∀ (j : Nat) a v, cs[j]? = some a → vs[j]? = some v → VR fm ρ X h w a v) {off : Nat} {v : AV} (hg : apart n cs off = some v) :
    ∃ c, (loadVar t ⟨B, o + off, none⟩).run P w = .ok c w ∧ VR fm ρ X h w v c := by
  simp only [tPart, Option.bind_eq_some_iff] at ht
  obtain ⟨ag, h1, h2⟩ := ht
  cases ag with
  | false =>
    simp at h2
    subst h2
    simp only [apart] at hg
    have hlt : off < cs.length := (List.getElem?_eq_some_iff.1 hg).1
    have hv0 : vs[off]? = some vs[off] := List.getElem?_eq_getElem (by omega)
    refine ⟨vs[off], ?_, hv off v _ hg hv0⟩
    have := hc off _ hv0
    simp [loadVar, run_isAgg' h1, this]
  | true =>
    simp only [Option.map_eq_some_iff, if_true] at h2
    obtain ⟨k, h2, rfl⟩ := h2
    simp only [apart] at hg
    split at hg
    · rename_i hle
      injection hg with hg
      subst hg
      refine ⟨.agg ((vs.drop off).take k).toArray, ?_, .agg _ (by simp [hl]) fun j a v ha hv' => ?_⟩
      · have hcs := run_loadCells_list (P := P) w (⟨B, o + off, none⟩) ((vs.drop off).take k) (fun j v hj => by
          rw [addr_add]
          rw [List.getElem?_take] at hj
          split at hj
          · rw [List.getElem?_drop] at hj
            have := hc (off + j) v hj
            rwa [show o + off + j = o + (off + j) by omega]
          · cases hj)
        have hlen : ((vs.drop off).take k).length = k := by simp; omega
        rw [hlen] at hcs
        simp [loadVar, run_isAgg' h1, run_sizeOf' h2, hcs]
      · rw [List.getElem?_take] at ha hv'
        split at ha
        · rename_i hj
          rw [if_pos hj] at hv'
          rw [List.getElem?_drop] at ha hv'
          exact hv (off + j) a v ha hv'
        · cases ha
    · cases hg

/-- an element of a heap's row, as cells of the world -/
theorem RowR.cellsAt {X : Nat → Prop} {h : AHeap} {B sz : Nat} {els : List (List AV)} (R : RowR fm ρ X h w B sz els) {i : Nat} {cs : List AV} (hi : els[i]? = some cs) :
    ∃ vs, CellsAt w B (i * sz) vs ∧ vs.length = cs.length ∧ (∀ v ∈ vs, v.oneCell' = true) ∧ ∀ (j : Nat) a v, cs[j]? = some a → vs[j]? = some v → VR fm ρ X h w a v := by
  obtain ⟨hsz, arr, e, fz, h1, h2, h3, h4⟩ := R
  have hlen := hsz i cs hi
  have hex : ∀ j, j < cs.length → ∃ v, arr[i * sz + j]? = some v ∧ v.oneCell' = true ∧ ∀ a, cs[j]? = some a → VR fm ρ X h w a v := fun j hj => by
    obtain ⟨v, h5, h6, h7⟩ := h4 i cs j cs[j] hi (List.getElem?_eq_getElem hj)
    exact ⟨v, h5, h6, fun a ha => by rw [List.getElem?_eq_getElem hj] at ha; injection ha with ha; subst ha; exact h7⟩
  have hlt : i * sz + cs.length ≤ arr.size := by
    rcases Nat.eq_zero_or_pos cs.length with h0 | h0
    · have hil : i < els.length := (List.getElem?_eq_some_iff.1 hi).1
      have : i * sz ≤ els.length * sz := Nat.mul_le_mul_right _ (Nat.le_of_lt hil)
      omega
    · obtain ⟨v, h5, _⟩ := hex (cs.length - 1) (by omega)
      have := (Array.getElem?_eq_some_iff.1 h5).1
      omega
  refine ⟨(arr.toList.drop (i * sz)).take cs.length, fun j v hj => ?_, by simp; omega, fun v hv => ?_, fun j a v ha hv => ?_⟩
  · rw [List.getElem?_take] at hj
    split at hj
    · rw [List.getElem?_drop] at hj
      simp only [World.cell?, h1]
      simpa using hj
    · cases hj
  · obtain ⟨j, hj⟩ := List.getElem?_of_mem hv
    rw [List.getElem?_take] at hj
    split at hj
    · rename_i hjl
      rw [List.getElem?_drop] at hj
      obtain ⟨v', h5, h6, _⟩ := hex j hjl
      have : v = v' := by simpa [h5] using hj.symm
      rw [this]; exact h6
    · cases hj
  · rw [List.getElem?_take] at hv
    split at hv
    · rename_i hjl
      rw [List.getElem?_drop] at hv
      obtain ⟨v', h5, _, h7⟩ := hex j hjl
      have : v = v' := by simpa [h5] using hv.symm
      rw [this]; exact h7 a ha
    · cases hv

theorem aload_part {n : Option Nat} {p v : AV} (h : aload s n p = some v) :
    (∃ cs off, p = .iptr cs off ∧ apart n cs off = some v) ∨
    (∃ b bl i off sz els cs, p = .hptr b bl i off ∧ s.heap[b]? = some (.row sz els) ∧ els.length = bl ∧ els[i]? = some cs ∧ apart n cs off = some v) ∨
    (∃ d off cs, p = .lptr d off ∧ varGet s.vars d = some (.cells cs) ∧ apart n cs off = some v) := by
  unfold aload at h
  cases p with
  | iptr cs off => exact .inl ⟨cs, off, rfl, by cases n <;> simpa [apart] using h⟩
  | hptr b bl i off =>
    simp only at h
    split at h
    · rename_i sz els he
      split at h
      · rename_i hl
        simp only [Option.bind_eq_some_iff] at h
        obtain ⟨cs, h1, h2⟩ := h
        exact .inr (.inl ⟨b, bl, i, off, sz, els, cs, rfl, he, hl, h1, by cases n <;> simpa [apart] using h2⟩)
      · cases h
    · cases h
  | lptr d off =>
    simp only at h
    split at h
    · rename_i cs he
      exact .inr (.inr ⟨d, off, cs, rfl, he, by cases n <;> simpa [apart] using h⟩)
    · cases h
  | _ => simp at h

/-- a load from any address -/
theorem run_load_any (F : FR fm ρ X PV s w tmps) {t : Nat} {n : Option Nat} (ht : tPart P t = some n) {p v : AV} {c : Value} (hp : ER fm ρ (XP X PV) PV s.heap w p c) (hg : aload s n p = some v) :
    ∃ A c', c = .pointer (some A) ∧ (loadVar t A).run P w = .ok c' w ∧ VR fm ρ (XP X PV) s.heap w v c' := by
  rcases aload_part hg with ⟨cs, off, rfl, ha⟩ | ⟨b, bl, i, off, sz, els, cs, rfl, he, hl, hi, ha⟩ | ⟨d, off, cs, rfl, hd, ha⟩
  · cases hp with
    | iptr vs hB hl hc hv =>
      obtain ⟨c', h1, h2⟩ := run_loadVar_part ht (fun j v hj => (hc j v hj).1) hl hv ha
      exact ⟨_, c', rfl, h1, h2⟩
  · obtain ⟨B, hB⟩ := F.inv.tot b (List.getElem?_eq_some_iff.1 he).1
    cases hp with
    | hptr hb hA =>
      obtain ⟨_, h2⟩ := hA B sz els hB he
      have hA' := h2 hl
      subst hA'
      obtain ⟨vs, h3, h4, _, h5⟩ := (F.inv.row b B sz els hB he).cellsAt hi
      obtain ⟨c', h6, h7⟩ := run_loadVar_part ht h3 h4 h5 ha
      exact ⟨_, c', rfl, h6, h7⟩
  · obtain ⟨B, hB, rfl⟩ := hp
    obtain ⟨B', hB', arr, e, fz, h1, h2, h3, h4⟩ := F.vars d _ hd
    rw [hB] at hB'
    injection hB' with hB'
    subst hB'
    have hc : CellsAt w B 0 arr.toList := fun j v hj => by
      simp only [World.cell?, h1]
      simpa using hj
    obtain ⟨c', h6, h7⟩ := run_loadVar_part (o := 0) ht hc (by simpa using h2) (fun j a v ha hv => by
      obtain ⟨v', h5, _, h6⟩ := h4 j a ha
      have : v = v' := by
        have : arr.toList[j]? = some v' := by simpa using h5
        rw [this] at hv
        injection hv with hv
        exact hv.symm
      rw [this]; exact h6) ha
    exact ⟨_, c', rfl, by simpa using h6, h7⟩

end
end Go.Ai
/-
  The abstract interpreter: operators.
-/
namespace Go.Ai
open Go.RowKit
set_option linter.unusedVariables false
set_option linter.unusedSimpArgs false

section
variable {P : Program} {fm : Nat → Nat} {ρ : Map} {X : Nat → Prop} {h : AHeap} {w : World}

theorem of_ite {α : Type} {c : Prop} [Decidable c] {x : Option α} {v : α} (h : (if c then x else none) = some v) : c ∧ x = some v := by
  split at h
  · exact ⟨‹_›, h⟩
  · cases h
theorem of_ite' {α : Type} {c : Prop} [Decidable c] {x : Option α} {v : α} (h : (if c then none else x) = some v) : ¬ c ∧ x = some v := by
  split at h
  · cases h
  · exact ⟨‹_›, h⟩

theorem toList_mk (s : List UInt8) : (⟨s.toArray⟩ : ByteArray).toList = s := by
  rw [ByteArray.toList_eq]

theorem mk_append (x y : List UInt8) : (⟨x.toArray⟩ : ByteArray) ++ ⟨y.toArray⟩ = ⟨(x ++ y).toArray⟩ := by
  apply ByteArray.ext
  simp

theorem eqGuard_int (op : BinOp) (t : Nat) (x y : Operand) (k k' : IntKind) (a b : Int) : (eqGuard op t x y (.int k a) (.int k' b)).run P w = .ok () w := by
  unfold eqGuard
  cases op <;> simp

theorem eqGuard_str (op : BinOp) (t : Nat) (x y : Operand) (a b : ByteArray) : (eqGuard op t x y (.string a) (.string b)).run P w = .ok () w := by
  unfold eqGuard
  cases op <;> simp

theorem abin_num {op : BinOp} {t : Nat} {x y : Operand} {vx vy v : AV} {cx cy : Value} (hx : VR fm ρ X h w vx cx) (hy : VR fm ρ X h w vy cy) (hv : abin op .num vx vy = some v) :
    ∃ c, (do eqGuard op t x y cx cy; binOp op t cx cy : Sem Value).run P w = .ok c w ∧ VR fm ρ X h w v c := by
  unfold abin at hv
  simp only at hv
  split at hv
  · rename_i k a k' b
    cases hx; cases hy
    simp only [Sem.run_bind, eqGuard_int, Result.andThen_ok]
    cases op
    case shl =>
      obtain ⟨hb, hv⟩ := of_ite' hv
      injection hv with hv; subst hv
      exact ⟨_, by simp only [binOp, Op.shift, hb, if_false]; rfl, .int _ _⟩
    case shr =>
      obtain ⟨hb, hv⟩ := of_ite' hv
      injection hv with hv; subst hv
      exact ⟨_, by simp only [binOp, Op.shift, hb, if_false]; rfl, .int _ _⟩
    all_goals
      obtain ⟨hk, hv'⟩ := of_ite hv
      clear hv
      subst hk
      simp only [aint] at hv'
    case quo =>
      obtain ⟨hb, hv⟩ := of_ite' hv'
      injection hv with hv; subst hv
      exact ⟨.int k _, by simp [binOp, Op.intDiv, hb], .int _ _⟩
    case rem =>
      obtain ⟨hb, hv⟩ := of_ite' hv'
      injection hv with hv; subst hv
      exact ⟨.int k _, by simp [binOp, Op.intDiv, hb], .int _ _⟩
    all_goals
      injection hv' with hv; subst hv
    all_goals first
      | exact ⟨_, by simp only [binOp, ne_eq, not_true_eq_false, if_false, Op.intArith]; rfl, .int _ _⟩
      | exact ⟨_, by simp only [binOp, ne_eq, not_true_eq_false, if_false, Op.intBits]; rfl, .int _ _⟩
      | exact ⟨_, by simp only [binOp, ne_eq, not_true_eq_false, if_false, Op.intCmp]; rfl, .bool _⟩
  · rename_i a b
    cases hx; cases hy
    simp only [Sem.run_bind, eqGuard_str, Result.andThen_ok]
    cases op <;> simp only [astr] at hv
    case add =>
      obtain ⟨hl, hv⟩ := of_ite hv
      injection hv with hv; subst hv
      refine ⟨.string ⟨(a ++ b).toArray⟩, ?_, .str _⟩
      have hm : ¬ ((((⟨a.toArray⟩ : ByteArray).size + (⟨b.toArray⟩ : ByteArray).size : Nat) : Int) > IntKind.i64.max) := by
        have h1 : (⟨a.toArray⟩ : ByteArray).size = a.length := by simp [ByteArray.size]
        have h2 : (⟨b.toArray⟩ : ByteArray).size = b.length := by simp [ByteArray.size]
        have h3 : IntKind.i64.max = 9223372036854775807 := rfl
        rw [h1, h2, h3]
        unfold LIM at hl
        omega
      simp only [binOp, Op.stringOp, hm, if_false, mk_append]
      rfl
    all_goals first
      | cases hv; done
      | (injection hv with hv; subst hv
         refine ⟨_, by simp only [binOp, Op.stringOp, toList_mk]; rfl, ?_⟩
         exact .bool _)
  · cases hv

theorem eqGuard_other (op : BinOp) (t : Nat) (x y : Operand) (a b : Value) (h1 : a = .nilIface → b = .nilIface → isNilIface x = true ∨ isNilIface y = true)
    (h2 : ∀ cs ds, a = .agg cs → b = .agg ds → P.eqGuardType P.depth t = false) : (eqGuard op t x y a b).run P w = .ok () w := by
  unfold eqGuard
  cases op
  case eql | neq =>
    simp only [Bool.not_true, Bool.false_eq_true, if_false]
    cases a <;> cases b
    case nilIface.nilIface =>
      rcases h1 rfl rfl with h | h
      · cases x with
        | const v => simp
        | _ => simp [isNilIface] at h
      · cases y with
        | const v => simp
        | _ => simp [isNilIface] at h
    case agg.agg cs ds =>
      have := h2 cs ds rfl rfl
      simp [this]
    all_goals simp
  all_goals rfl

theorem run_equal {t : Nat} {a b : Value} {r : Bool} (he : (Op.equal t a b).run P w = .ok r w) :
    (do pure (.bool (← Op.equal t a b)) : Sem Value).run P w = .ok (.bool r) w ∧ (do pure (.bool (!(← Op.equal t a b))) : Sem Value).run P w = .ok (.bool (!r)) w := by
  simp [he]

def KindAt (P : Program) (t : Nat) (x y : Operand) : EqK → Prop
  | .num => True
  | .bool => P.underlying t = some .bool
  | .ptr => ∃ e, P.underlying t = some (.pointer e)
  | .slice => ∃ e, P.underlying t = some (.slice e)
  | .map => ∃ k e, P.underlying t = some (.map k e)
  | .func => ∃ a b c, P.underlying t = some (.func a b c)
  | .iface => (∃ m, P.underlying t = some (.interface m)) ∧ (isNilIface x = true ∨ isNilIface y = true)
  | .agg => False

theorem lBin_kind {op : BinOp} {t : Nat} {x y : Operand} {k : EqK} (hk : lBin P op t x y = some k) : KindAt P t x y k := by
  unfold lBin at hk
  split at hk <;> first
    | (injection hk with hk; subst hk; first | trivial | assumption | exact ⟨_, ‹_›⟩ | exact ⟨_, _, ‹_›⟩ | exact ⟨_, _, _, ‹_›⟩)
    | skip
  · obtain ⟨h1, h2⟩ := of_ite hk
    injection h2 with h2; subst h2
    exact ⟨⟨_, ‹_›⟩, by simpa using h1⟩
  · cases hk

set_option maxHeartbeats 1000000 in
theorem aeqK_bool {t : Nat} {x y : Operand} (hk : KindAt P t x y .bool) (d : Nat) {vx vy : AV} {cx cy : Value} {r : Bool}
    (hx : VR fm ρ X h w vx cx) (hy : VR fm ρ X h w vy cy) (hv : aeqK .bool vx vy = some r) : (Op.equalIn (d + 1) t cx cy).run P w = .ok r w := by
  have hu : P.underlying t = some .bool := hk
  unfold aeqK at hv
  split at hv <;> first | (cases hv; done) | skip
  all_goals first | (rename_i hq; cases hq; done) | skip
  all_goals (injection hv with hv; subst hv; cases hx; cases hy; simp [Op.equalIn, run_underlying' hu])

set_option maxHeartbeats 1000000 in
theorem aeqK_ptr {t : Nat} {x y : Operand} (hk : KindAt P t x y .ptr) (d : Nat) {vx vy : AV} {cx cy : Value} {r : Bool}
    (hx : VR fm ρ X h w vx cx) (hy : VR fm ρ X h w vy cy) (hv : aeqK .ptr vx vy = some r) : (Op.equalIn (d + 1) t cx cy).run P w = .ok r w := by
  obtain ⟨e, hu⟩ := hk
  unfold aeqK at hv
  split at hv <;> first | (cases hv; done) | skip
  all_goals first | (rename_i hq; cases hq; done) | skip
  all_goals (injection hv with hv; subst hv; cases hx; cases hy; simp [Op.equalIn, run_underlying' hu])

set_option maxHeartbeats 1000000 in
theorem aeqK_slice {t : Nat} {x y : Operand} (hk : KindAt P t x y .slice) (d : Nat) {vx vy : AV} {cx cy : Value} {r : Bool}
    (hx : VR fm ρ X h w vx cx) (hy : VR fm ρ X h w vy cy) (hv : aeqK .slice vx vy = some r) : (Op.equalIn (d + 1) t cx cy).run P w = .ok r w := by
  obtain ⟨e, hu⟩ := hk
  unfold aeqK at hv
  split at hv <;> first | (cases hv; done) | skip
  all_goals first | (rename_i hq; cases hq; done) | skip
  all_goals (injection hv with hv; subst hv; cases hx; cases hy; simp [Op.equalIn, run_underlying' hu])

set_option maxHeartbeats 1000000 in
theorem aeqK_map {t : Nat} {x y : Operand} (hk : KindAt P t x y .map) (d : Nat) {vx vy : AV} {cx cy : Value} {r : Bool}
    (hx : VR fm ρ X h w vx cx) (hy : VR fm ρ X h w vy cy) (hv : aeqK .map vx vy = some r) : (Op.equalIn (d + 1) t cx cy).run P w = .ok r w := by
  obtain ⟨k, e, hu⟩ := hk
  unfold aeqK at hv
  split at hv <;> first | (cases hv; done) | skip
  all_goals first | (rename_i hq; cases hq; done) | skip
  all_goals (injection hv with hv; subst hv; cases hx; cases hy; simp [Op.equalIn, run_underlying' hu])

set_option maxHeartbeats 1000000 in
theorem aeqK_func {t : Nat} {x y : Operand} (hk : KindAt P t x y .func) (d : Nat) {vx vy : AV} {cx cy : Value} {r : Bool}
    (hx : VR fm ρ X h w vx cx) (hy : VR fm ρ X h w vy cy) (hv : aeqK .func vx vy = some r) : (Op.equalIn (d + 1) t cx cy).run P w = .ok r w := by
  obtain ⟨k, e, q, hu⟩ := hk
  unfold aeqK at hv
  split at hv <;> first | (cases hv; done) | skip
  all_goals first | (rename_i hq; cases hq; done) | skip
  all_goals (injection hv with hv; subst hv; cases hx; cases hy; simp [Op.equalIn, run_underlying' hu])

set_option maxHeartbeats 1000000 in
theorem aeqK_iface {t : Nat} {x y : Operand} (hk : KindAt P t x y .iface) (d : Nat) {vx vy : AV} {cx cy : Value} {r : Bool}
    (hx : VR fm ρ X h w vx cx) (hy : VR fm ρ X h w vy cy) (hv : aeqK .iface vx vy = some r) : (Op.equalIn (d + 1) t cx cy).run P w = .ok r w := by
  obtain ⟨⟨e, hu⟩, _⟩ := hk
  unfold aeqK at hv
  split at hv <;> first | (cases hv; done) | skip
  all_goals first | (rename_i hq; cases hq; done) | skip
  all_goals (injection hv with hv; subst hv; cases hx; cases hy; simp [Op.equalIn, run_underlying' hu])

/-- the kinds of one cell: '==' -/
theorem aeqK_one {t : Nat} {k : EqK} {x y : Operand} (hk : KindAt P t x y k) (d : Nat) {vx vy : AV} {cx cy : Value} {r : Bool}
    (hx : VR fm ρ X h w vx cx) (hy : VR fm ρ X h w vy cy) (hv : aeqK k vx vy = some r) : (Op.equalIn (d + 1) t cx cy).run P w = .ok r w := by
  cases k
  case num => simp [aeqK] at hv
  case agg => exact hk.elim
  case bool => exact aeqK_bool hk d hx hy hv
  case ptr => exact aeqK_ptr hk d hx hy hv
  case slice => exact aeqK_slice hk d hx hy hv
  case map => exact aeqK_map hk d hx hy hv
  case func => exact aeqK_func hk d hx hy hv
  case iface => exact aeqK_iface hk d hx hy hv

end
end Go.Ai
/-
  The abstract interpreter: operations that change nothing, one by one.
-/
namespace Go.Ai
open Go.RowKit
set_option linter.unusedVariables false
set_option linter.unusedSimpArgs false

section
variable {P : Program} {fm : Nat → Nat} {fmi : Nat → Option Nat} {ρ : Map} {X : Nat → Prop} {PV : Map} {bar : Nat} {s : St} {w : World} {tmps : Array Value} {h : AHeap}

theorem abin_sound {op : BinOp} {t : Nat} {x y : Operand} {k : EqK} (hk : lBin P op t x y = some k) {vx vy v : AV} {cx cy : Value}
    (hx : VR fm ρ X h w vx cx) (hy : VR fm ρ X h w vy cy) (hv : abin op k vx vy = some v) :
    ∃ c, (do eqGuard op t x y cx cy; binOp op t cx cy : Sem Value).run P w = .ok c w ∧ VR fm ρ X h w v c := by
  by_cases hn : k = .num
  · subst hn
    exact abin_num hx hy hv
  have hK := lBin_kind hk
  have hmax : Op.maxDepth = 9999 + 1 := rfl
  have hg : (eqGuard op t x y cx cy).run P w = .ok () w := by
    refine eqGuard_other op t x y cx cy (fun e1 e2 => ?_) (fun cs ds e1 e2 => ?_)
    · subst e1 e2
      cases hx with
      | nili =>
        have : k = .iface := by
          unfold abin at hv
          cases k <;> first | rfl | (exact absurd rfl hn) | (cases op <;> cases hy <;> simp [aeqK] at hv)
        subst this
        exact hK.2
      | junk => cases op <;> cases k <;> simp_all [abin, aeqK]
    · subst e1 e2
      cases hx with
      | agg vs hl hv' =>
        cases k <;> first | exact absurd rfl hn | exact hK.elim | (cases op <;> simp [abin, aeqK] at hv)
      | junk => cases op <;> cases k <;> simp_all [abin, aeqK]
  have hb : ∀ r, aeqK k vx vy = some r → (binOp .eql t cx cy).run P w = .ok (.bool r) w ∧ (binOp .neq t cx cy).run P w = .ok (.bool (!r)) w := by
    intro r hr
    have he : (Op.equal t cx cy).run P w = .ok r w := by
      unfold Op.equal
      rw [hmax]
      exact aeqK_one hK 9999 hx hy hr
    have h2 := run_equal he
    have h3 : binOp .eql t cx cy = (do pure (.bool (← Op.equal t cx cy))) ∧ binOp .neq t cx cy = (do pure (.bool (!(← Op.equal t cx cy)))) := by
      cases k <;> first | exact absurd rfl hn | exact hK.elim | skip
      all_goals
        unfold aeqK at hr
        split at hr <;> first | (cases hr; done) | skip
        all_goals first | (rename_i hq; cases hq; done) | skip
        all_goals (cases hx; cases hy; exact ⟨rfl, rfl⟩)
    rw [h3.1, h3.2]
    exact h2
  have hv' : ∃ r, aeqK k vx vy = some r ∧ ((op = .eql ∧ v = .bool r) ∨ (op = .neq ∧ v = .bool (!r))) := by
    unfold abin at hv
    cases k <;> first | exact absurd rfl hn | skip
    all_goals
      cases op <;> simp only [Option.map_eq_some_iff] at hv <;> first
        | (cases hv; done)
        | (obtain ⟨r, h1, h2⟩ := hv; exact ⟨r, h1, .inl ⟨rfl, h2.symm⟩⟩)
        | (obtain ⟨r, h1, h2⟩ := hv; exact ⟨r, h1, .inr ⟨rfl, h2.symm⟩⟩)
  obtain ⟨r, hr, hc⟩ := hv'
  simp only [Sem.run_bind, hg, Result.andThen_ok]
  rcases hc with ⟨rfl, rfl⟩ | ⟨rfl, rfl⟩
  · exact ⟨_, (hb r hr).1, .bool _⟩
  · exact ⟨_, (hb r hr).2, .bool _⟩

theorem aun_sound {op : UnOp} {vx v : AV} {cx : Value} (hx : VR fm ρ X h w vx cx) (hv : aun op vx = some v) :
    ∃ c, (Op.unary op cx).run P w = .ok c w ∧ VR fm ρ X h w v c := by
  unfold aun at hv
  split at hv <;> first | (cases hv; done) | skip
  all_goals (injection hv with hv; subst hv; cases hx)
  · exact ⟨_, by simp only [Op.unary, Op.intArith]; rfl, .int _ _⟩
  · exact ⟨_, by simp only [Op.unary, Op.intBits]; rfl, .int _ _⟩
  · exact ⟨_, by simp only [Op.unary]; rfl, .bool _⟩

theorem VRs.agg {cs : List AV} {vs : List Value} (H : VRs fm ρ X h w cs vs) : VR fm ρ X h w (.agg cs) (.agg vs.toArray) := .agg vs H.1 H.2
theorem VRs.tup {cs : List AV} {vs : List Value} (H : VRs fm ρ X h w cs vs) : VR fm ρ X h w (.tup cs) (.tuple vs.toArray) := .tup vs H.1 H.2

/-- a part of cells by value -/
theorem run_part {t : Nat} {n : Option Nat} (ht : tPart P t = some n) {cs : List AV} {vs : List Value} (H : VRs fm ρ X h w cs vs) {off : Nat} {v : AV} (hg : apart n cs off = some v) :
    ∃ c, (part t vs.toArray off).run P w = .ok c w ∧ VR fm ρ X h w v c := by
  simp only [tPart, Option.bind_eq_some_iff] at ht
  obtain ⟨ag, h1, h2⟩ := ht
  cases ag with
  | false =>
    simp at h2
    subst h2
    simp only [apart] at hg
    have hlt : off < cs.length := (List.getElem?_eq_some_iff.1 hg).1
    have hl0 : off < vs.length := by have := H.1; omega
    have hv0 : vs[off]? = some vs[off] := List.getElem?_eq_getElem hl0
    refine ⟨vs[off], ?_, H.2 off v _ hg hv0⟩
    simp [part, run_isAgg' h1, hv0]
  | true =>
    simp only [Option.map_eq_some_iff, if_true] at h2
    obtain ⟨k, h2, rfl⟩ := h2
    obtain ⟨hle, hg⟩ := of_ite hg
    injection hg with hg
    subst hg
    refine ⟨.agg ((vs.drop off).take k).toArray, ?_, .agg _ (by simp [H.1]) fun j a v ha hv' => ?_⟩
    · simp only [part, Sem.run_bind, run_isAgg' h1, Result.andThen_ok, if_true, run_sizeOf' h2, Sem.run_pure]
      congr 2
      simp [← List.drop_take, Nat.add_comm]
    · rw [List.getElem?_take] at ha hv'
      split at ha
      · rename_i hj
        rw [if_pos hj] at hv'
        rw [List.getElem?_drop] at ha hv'
        exact H.2 (off + j) a v ha hv'
      · cases ha

theorem tPart_sz {e sz : Nat} {ag : Bool} (h1 : tSize P e = some sz) (h2 : tAgg P e = some ag) : tPart P e = some (if ag then some sz else none) := by
  simp only [tPart, h2, Option.bind_some]
  cases ag <;> simp [h1]

/-- an index by value -/
theorem aidx_sound {t : Nat} {arr : Option (Nat × Nat × Bool)} {x v : AV} {cx : Value} {k : IntKind} {i : Int} (hx : VR fm ρ X h w x cx)
    (ht : (∃ n e sz ag, P.underlying t = some (.array n e) ∧ tSize P e = some sz ∧ tAgg P e = some ag ∧ arr = some (n, sz, ag)) ∨ (P.underlying t = some .string ∧ arr = none))
    (hv : aidx arr x i = some v) : ∃ c, (Instr.index t cx (.int k i)).run P w = .ok c w ∧ VR fm ρ X h w v c := by
  rcases ht with ⟨n, e, sz, ag, hu, hs, ha, rfl⟩ | ⟨hu, rfl⟩
  · unfold aidx at hv
    split at hv <;> first | (cases hv; done) | skip
    · rename_i n' sz' ag' cs heq
      simp only [Option.some.injEq, Prod.mk.injEq] at heq
      obtain ⟨rfl, rfl, rfl⟩ := heq
      obtain ⟨hb, hv⟩ := of_ite hv
      cases hx with
      | agg vs hl hvs =>
        obtain ⟨c, h1, h2⟩ := run_part (tPart_sz hs ha) ⟨hl, hvs⟩ hv
        refine ⟨c, ?_, h2⟩
        simp [Instr.index, asIntOf, run_underlying' hu, hb, run_sizeOf' hs, h1]
    · rename_i heq; cases heq
  · unfold aidx at hv
    split at hv <;> first | (cases hv; done) | skip
    · rename_i heq; cases heq
    · rename_i s heq0
      obtain ⟨hb, hv⟩ := of_ite hv
      cases hx with
      | str =>
        simp only [Option.map_eq_some_iff] at hv
        obtain ⟨b, hb', rfl⟩ := hv
        refine ⟨.int .u8 b.toNat, ?_, .int _ _⟩
        have hg : (⟨s.toArray⟩ : ByteArray)[i.toNat]? = some b := by
          have hlt : i.toNat < s.length := (List.getElem?_eq_some_iff.1 hb').1
          have : i.toNat < (⟨s.toArray⟩ : ByteArray).size := by simpa [ByteArray.size] using hlt
          rw [getElem?_pos (⟨s.toArray⟩ : ByteArray) i.toNat this]
          have hh := (List.getElem?_eq_some_iff.1 hb').2
          simp only [Option.some.injEq]
          rw [← hh]
          rfl
        simp [Instr.index, asIntOf, run_underlying' hu, hb, hg]

/-- an address moved on by so many cells -/
theorem addr_step {p v : AV} {c : Value} {off : Nat} {R : Value → Result Value} (hp : ER fm ρ X PV h w p c) (hv : afaddr off p = some v)
    (key : ∀ A : Addr, R (.pointer (some A)) = .ok (.pointer (some (A.add off))) w) : ∃ c', R c = .ok c' w ∧ ER fm ρ X PV h w v c' := by
  unfold afaddr at hv
  split at hv <;> first | (cases hv; done) | skip
  · injection hv with hv; subst hv
    cases hp with
    | iptr vs hB hl hc hvs =>
      refine ⟨_, key _, ?_⟩
      rw [addr_add, Nat.add_assoc]
      exact VR.iptr vs hB hl hc hvs
  · injection hv with hv; subst hv
    cases hp with
    | hptr hb ha =>
      refine ⟨_, key _, VR.hptr hb fun B sz els hB he => ⟨(ha B sz els hB he).1, fun hl => ?_⟩⟩
      rw [(ha B sz els hB he).2 hl, addr_add, Nat.add_assoc]
  · injection hv with hv; subst hv
    obtain ⟨B, hB, rfl⟩ := hp
    refine ⟨_, key _, B, hB, ?_⟩
    rw [addr_add]

theorem afaddr_sound {t : Nat} {fs : Array Field} {f : Nat} {fd : Field} {n : Nat} (hu : P.underlying t = some (.struct fs)) (hf : fs[f]? = some fd) (hs : tSize P fd.type = some n) (hn : 0 < n)
    {p v : AV} {c : Value} (hp : ER fm ρ X PV h w p c) (hv : afaddr fd.offset p = some v) : ∃ c', (Instr.fieldAt t c f).run P w = .ok c' w ∧ ER fm ρ X PV h w v c' := by
  have key : ∀ A : Addr, (Instr.fieldAt t (.pointer (some A)) f).run P w = .ok (.pointer (some (A.add fd.offset))) w := fun A => by
    have hn' : n ≠ 0 := by omega
    simp [Instr.fieldAt, run_underlying' hu, hf, Instr.sureAddr, fieldPlace, run_sizeOf' hs, hn']
  exact addr_step (R := fun c => (Instr.fieldAt t c f).run P w) hp hv key

end
end Go.Ai
/-
  The abstract interpreter: slices, indexes.
-/
namespace Go.Ai
open Go.RowKit
set_option linter.unusedVariables false
set_option linter.unusedSimpArgs false

section
variable {P : Program} {fm : Nat → Nat} {fmi : Nat → Option Nat} {ρ : Map} {X : Nat → Prop} {PV : Map} {bar : Nat} {s : St} {w : World} {tmps : Array Value} {h : AHeap}

theorem heapRow_some {b bl sz : Nat} {els : List (List AV)} (hh : heapRow h b bl sz = some els) : h[b]? = some (.row sz els) ∧ els.length = bl := by
  unfold heapRow at hh
  split at hh
  · rename_i sz' els' he
    obtain ⟨⟨h1, h2⟩, h3⟩ := of_ite hh
    injection h3 with h3
    subst h3 h2
    exact ⟨he, h1⟩
  · cases hh

/-- an index's address -/
theorem aiaddr_sound {t : Nat} {arr : Option Nat} {sz : Nat} (hsz : 0 < sz) {e : Nat} (hs : tSize P e = some sz)
    (ht : (∃ n, P.underlying t = some (.array n e) ∧ arr = some n) ∨ (P.underlying t = some (.slice e) ∧ arr = none))
    {x v : AV} {cx : Value} {k : IntKind} {i : Int} (I : Inv fm ρ X h w) (hx : ER fm ρ X PV h w x cx) (hv : aiaddr h arr sz x i = some v) :
    ∃ c, (Instr.indexAt t cx (.int k i)).run P w = .ok c w ∧ ER fm ρ X PV h w v c := by
  rcases ht with ⟨n, hu, rfl⟩ | ⟨hu, rfl⟩
  · simp only [aiaddr] at hv
    obtain ⟨hb, hv⟩ := of_ite hv
    refine addr_step (R := fun c => (Instr.indexAt t c (.int k i)).run P w) hx hv fun A => ?_
    simp [Instr.indexAt, asIntOf, run_underlying' hu, Instr.sureAddr, hb, run_sizeOf' hs]
  · simp only [aiaddr] at hv
    split at hv
    · rename_i els sz' cap
      obtain ⟨⟨rfl, hi⟩, hv2⟩ := of_ite hv
      clear hv
      simp only [Option.map_eq_some_iff] at hv2
      obtain ⟨cs, hcs, rfl⟩ := hv2
      have hx' : VR fm ρ X h w (.isl els sz' cap) cx := hx
      cases hx' with
      | @isl _ _ cc _ a vss hl hlc hcap hB hsz' hvs hc hvv =>
        have hlt : i.toNat < els.length := (List.getElem?_eq_some_iff.1 hcs).1
        have hne : els ≠ [] := by intro h0; simp [h0] at hlt
        obtain ⟨hsp, hout⟩ := hB hne
        obtain ⟨B, o, sp⟩ := a
        simp only at hsp
        subst hsp
        have hlt' : i.toNat < vss.length := by omega
        have hb : 0 ≤ i ∧ i < (els.length : Int) := by omega
        refine ⟨.pointer (some ⟨B, o + i.toNat * sz', none⟩), ?_, ?_⟩
        · simp [Instr.indexAt, asIntOf, run_underlying' hu, hb, run_sizeOf' hs, addr_add]
        · have he := List.getElem?_eq_getElem hlt'
          have := VR.iptr (fm := fm) (ρ := ρ) (X := X) (h := h) (w := w) (cs := cs) (off := 0) (B := B) (o := o + i.toNat * sz') vss[i.toNat] hout
            (by rw [hvs _ _ he, hsz' _ _ hcs]) (fun j v hj => hc _ _ j v he hj) (fun j a v ha hv => hvv _ _ _ j a v hcs he ha hv)
          exact this
    · rename_i b bl o len sz' cap
      obtain ⟨⟨rfl, hi0, hi⟩, hv⟩ := of_ite hv
      simp only [Option.bind_eq_some_iff] at hv
      obtain ⟨els, hr, hv⟩ := hv
      obtain ⟨hle, hv⟩ := of_ite hv
      injection hv with hv; subst hv
      obtain ⟨hrow, hbl⟩ := heapRow_some hr
      obtain ⟨B, hB⟩ := I.tot b (List.getElem?_eq_some_iff.1 hrow).1
      have hx' : VR fm ρ X h w (.hsl b bl o len sz' cap) cx := hx
      cases hx' with
      | @hsl _ _ _ _ _ cc _ a hb hlc ha hs' =>
        obtain ⟨_, h2⟩ := ha B els hB hrow
        obtain ⟨h2a, _, _⟩ := h2 hbl
        obtain rfl := h2a (by omega)
        have hb' : 0 ≤ i ∧ i < (len : Int) := ⟨hi0, hi⟩
        refine ⟨.pointer (some ⟨B, o * sz' + i.toNat * sz', none⟩), ?_, ?_⟩
        · simp [Instr.indexAt, asIntOf, run_underlying' hu, hb', run_sizeOf' hs, addr_add]
        · have : VR fm ρ X h w (.hptr b bl (o + i.toNat) 0) (.pointer (some ⟨B, o * sz' + i.toNat * sz', none⟩)) := by
            refine .hptr hb fun B' sz2 els2 hB' he' => ?_
            rw [hB] at hB'
            injection hB' with hB'
            subst hB'
            rw [hrow] at he'
            simp only [Option.some.injEq, ABlk.row.injEq] at he'
            obtain ⟨rfl, rfl⟩ := he'
            exact ⟨by omega, fun _ => by rw [Nat.add_mul]; rfl⟩
          exact this
    · cases hv

/-- optional operands -/
def OV (fm : Nat → Nat) (ρ : Map) (X : Nat → Prop) (h : AHeap) (w : World) : Option AV → Option Value → Prop
  | none, none => True
  | some a, some v => VR fm ρ X h w a v
  | _, _ => False

theorem OV.bound {x : Option AV} {c : Option Value} (H : OV fm ρ X h w x c) {d l : Int} (hl : obound x d = some l) : (c = none ∧ x = none ∧ l = d) ∨ ∃ k, c = some (.int k l) ∧ x.isSome := by
  cases x with
  | none =>
    cases c with
    | none => simp [obound] at hl; exact .inl ⟨rfl, rfl, hl.symm⟩
    | some v => exact H.elim
  | some a =>
    cases c with
    | none => exact H.elim
    | some v =>
      simp only [obound] at hl
      unfold asInt? at hl
      split at hl
      · injection hl with hl; subst hl
        cases H
        exact .inr ⟨_, rfl, rfl⟩
      · cases hl

theorem run_sliceBound {k : IntKind} {i : Int} {y : Nat} (code : BoundsCode) (hi : 0 ≤ i ∧ i ≤ y) : (Instr.sliceBound (.int k i) y code).run P w = .ok i.toNat w := by
  simp [Instr.sliceBound, asIntOf, hi]

theorem run_bounds {isS : Bool} {len cap : Nat} {lo hi mx : Option AV} {clo chi cmx : Option Value} (hlo : OV fm ρ X h w lo clo) (hhi : OV fm ρ X h w hi chi) (hmx : OV fm ρ X h w mx cmx)
    {l r m : Int} (h1 : obound lo 0 = some l) (h2 : obound hi len = some r) (h3 : obound mx cap = some m) (hb : 0 ≤ l ∧ l ≤ r ∧ r ≤ m ∧ m ≤ cap) (hmh : mx.isSome → hi.isSome) :
    (Instr.sliceBounds isS len cap clo chi cmx).run P w = .ok (l.toNat, r.toNat, m.toNat) w := by
  have hr : r.toNat ≤ m.toNat := by omega
  have em : ((m.toNat : Nat) : Int) = m := by omega
  have er : ((r.toNat : Nat) : Int) = r := by omega
  have bl : (0 ≤ l ∧ l ≤ ((r.toNat : Nat) : Int)) := by omega
  have br : (0 ≤ r ∧ r ≤ ((m.toNat : Nat) : Int)) := by omega
  have bm : (0 ≤ m ∧ m ≤ ((cap : Nat) : Int)) := by omega
  rcases hmx.bound h3 with ⟨rfl, e3, rfl⟩ | ⟨k3, rfl, e3⟩
  · rcases hhi.bound h2 with ⟨rfl, e2, rfl⟩ | ⟨k2, rfl, e2⟩
    · rcases hlo.bound h1 with ⟨rfl, e1, rfl⟩ | ⟨k1, rfl, e1⟩
      · simp [Instr.sliceBounds]
      · have b1 : (0 ≤ l ∧ l ≤ ((len : Nat) : Int)) := by omega
        simp [Instr.sliceBounds, run_sliceBound _ b1]
    · have b2 : (0 ≤ r ∧ r ≤ ((cap : Nat) : Int)) := by omega
      rcases hlo.bound h1 with ⟨rfl, e1, rfl⟩ | ⟨k1, rfl, e1⟩
      · simp [Instr.sliceBounds, run_sliceBound _ b2]
      · simp [Instr.sliceBounds, run_sliceBound _ b2, run_sliceBound _ bl]
  · have e2' := hmh e3
    rcases hhi.bound h2 with ⟨rfl, e2, rfl⟩ | ⟨k2, rfl, e2⟩
    · rw [e2] at e2'; cases e2'
    · rcases hlo.bound h1 with ⟨rfl, e1, rfl⟩ | ⟨k1, rfl, e1⟩
      · simp [Instr.sliceBounds, run_sliceBound _ bm, run_sliceBound _ br]
      · simp [Instr.sliceBounds, run_sliceBound _ bm, run_sliceBound _ br, run_sliceBound _ bl]

/-- a window of a slice that is never written -/
theorem VR.window {els : List (List AV)} {sz len cc : Nat} {cap cap' : Option Nat} {a : Option Addr} (H : VR fm ρ X h w (.isl els sz cap) (.slice a len cc)) {l r m : Nat} (hlr : l ≤ r) (hr : r ≤ els.length)
    (hrm : r ≤ m) (hcap : capIs cap' (r - l) (m - l)) :
    VR fm ρ X h w (.isl ((els.drop l).take (r - l)) sz cap') (.slice (if m = l then a else a.map (·.add (l * sz))) (r - l) (m - l)) := by
  cases H with
  | @isl _ _ _ _ a vss hl hlc hcap0 hB hsz hvs hc hv =>
    have hlen : ((els.drop l).take (r - l)).length = r - l := by simp; omega
    have key : ∀ a' : Addr, (r ≠ l → a' = a.add (l * sz)) → VR fm ρ X h w (.isl ((els.drop l).take (r - l)) sz cap') (.slice (some a') (r - l) (m - l)) := fun a' ha' => by
      have := VR.isl (fm := fm) (ρ := ρ) (X := X) (h := h) (w := w) (els := (els.drop l).take (r - l)) (sz := sz) (cc := m - l) (cap := cap') (a := a') ((vss.drop l).take (r - l))
        (by simp [hl]) (by rw [hlen]; omega) (by rw [hlen]; exact hcap)
        (fun hne => ?_) (fun i e hi => ?_) (fun i e hi => ?_) (fun i e j v hi hj => ?_) (fun i e e' j x v hi hi' hj hj' => ?_)
      · rw [hlen] at this
        exact this
      · have hrl : r ≠ l := by intro q; apply hne; simp [q]
        have hne' : els ≠ [] := by intro q; apply hne; simp [q]
        obtain ⟨h1, h2⟩ := hB hne'
        obtain ⟨B, o, sp⟩ := a
        simp only at h1
        subst h1
        rw [ha' hrl, addr_add]
        exact ⟨rfl, h2⟩
      · rw [List.getElem?_take] at hi
        split at hi
        · rw [List.getElem?_drop] at hi; exact hsz _ _ hi
        · cases hi
      · rw [List.getElem?_take] at hi
        split at hi
        · rw [List.getElem?_drop] at hi; exact hvs _ _ hi
        · cases hi
      · rw [List.getElem?_take] at hi
        split at hi
        · rename_i hil
          rw [List.getElem?_drop] at hi
          have hrl : r ≠ l := by omega
          have hne' : els ≠ [] := by intro q; simp [q] at hr; omega
          obtain ⟨h1, h2⟩ := hB hne'
          obtain ⟨B, o, sp⟩ := a
          simp only at h1
          subst h1
          rw [ha' hrl, addr_add]
          have := hc _ _ j v hi hj
          simp only at this ⊢
          rwa [show o + l * sz + i * sz + j = o + (l + i) * sz + j by rw [Nat.add_mul]; omega]
        · cases hi
      · rw [List.getElem?_take] at hi hi'
        split at hi
        · rename_i hil
          rw [if_pos hil] at hi'
          rw [List.getElem?_drop] at hi hi'
          exact hv _ _ _ j x v hi hi' hj hj'
        · cases hi
    by_cases q : m = l
    · rw [if_pos q]
      exact key a (fun hne => by omega)
    · rw [if_neg q]
      exact key _ (fun _ => rfl)

theorem aslice_isl {t e sz : Nat} (hu : P.underlying t = some (.slice e)) (hs : tSize P e = some sz) {els : List (List AV)} {sz' : Nat} {cap : Option Nat} (hsz : sz' = sz) {c : Value}
    (hx : VR fm ρ X h w (.isl els sz' cap) c) {lo hi mx : Option AV} {clo chi cmx : Option Value} (hlo : OV fm ρ X h w lo clo) (hhi : OV fm ρ X h w hi chi) (hmx : OV fm ρ X h w mx cmx)
    (hmh : mx.isSome → hi.isSome) {v : AV} (hv : aslice .slice h (.isl els sz' cap) lo hi mx = some v) :
    ∃ c', (Instr.slice t c clo chi cmx).run P w = .ok c' w ∧ VR fm ρ X h w v c' := by
  subst hsz
  simp only [aslice, Option.bind_eq_some_iff] at hv
  obtain ⟨l, h1, r, h2, hv⟩ := hv
  have hx0 := hx
  cases hx with
  | @isl _ _ cc _ a vss hl hlc hcap0 hB hsz hvs hc hvv =>
    cases mx with
    | none =>
      simp only at hv
      obtain ⟨hb, hv⟩ := of_ite hv
      injection hv with hv; subst hv
      have hbd := run_bounds (P := P) (isS := true) (len := els.length) (cap := cc) hlo hhi hmx h1 h2 (m := cc) (by simp [obound]) (by omega) hmh
      refine ⟨_, by simp only [Instr.slice, Sem.run_bind, run_underlying' hu, Result.andThen_ok, hbd, run_sizeOf' hs, Sem.run_pure]; rfl, ?_⟩
      have e1 : (r - l).toNat = r.toNat - l.toNat := by omega
      rw [e1]
      refine VR.window hx0 (by omega) (by omega) (by omega) ?_
      cases cap with
      | none => simp only [Option.map_none, capIs] at hcap0 ⊢; omega
      | some c0 => simp only [Option.map_some, capIs] at hcap0 ⊢; omega
    | some mv =>
      simp only [Option.bind_eq_some_iff] at hv
      obtain ⟨m, h3, hv⟩ := hv
      obtain ⟨hb, hv⟩ := of_ite hv
      injection hv with hv; subst hv
      have hbd := run_bounds (P := P) (isS := true) (len := els.length) (cap := cc) hlo hhi hmx h1 h2 (m := m) (by simpa [obound] using h3) (by omega) hmh
      refine ⟨_, by simp only [Instr.slice, Sem.run_bind, run_underlying' hu, Result.andThen_ok, hbd, run_sizeOf' hs, Sem.run_pure]; rfl, ?_⟩
      have e1 : (r - l).toNat = r.toNat - l.toNat := by omega
      have e2 : (m - l).toNat = m.toNat - l.toNat := by omega
      rw [e1, e2]
      exact VR.window hx0 (by omega) (by omega) (by omega) rfl

theorem aslice_hsl {t e sz : Nat} (I : Inv fm ρ X h w) (hu : P.underlying t = some (.slice e)) (hs : tSize P e = some sz) (hpos : 0 < sz) {b bl i len : Nat} {sz' : Nat} {cap : Option Nat} (hsz : sz' = sz) {c : Value}
    (hx : VR fm ρ X h w (.hsl b bl i len sz' cap) c) {lo hi mx : Option AV} {clo chi cmx : Option Value} (hlo : OV fm ρ X h w lo clo) (hhi : OV fm ρ X h w hi chi) (hmx : OV fm ρ X h w mx cmx)
    (hmh : mx.isSome → hi.isSome) {v : AV} (hv : aslice .slice h (.hsl b bl i len sz' cap) lo hi mx = some v) :
    ∃ c', (Instr.slice t c clo chi cmx).run P w = .ok c' w ∧ VR fm ρ X h w v c' := by
  subst hsz
  simp only [aslice, Option.bind_eq_some_iff] at hv
  obtain ⟨l, h1, els, hr, r, h2, hv⟩ := hv
  obtain ⟨hrow, hbl⟩ := heapRow_some hr
  obtain ⟨⟨hlen, htop⟩, hv⟩ := of_ite hv
  obtain ⟨B, hB⟩ := I.tot b (List.getElem?_eq_some_iff.1 hrow).1
  cases hx with
  | @hsl _ _ _ _ _ cc _ a hb hlc ha hs' =>
    obtain ⟨_, hA⟩ := ha B els hB hrow
    obtain ⟨hA0, hcap0, arr, et, fr, h5, h6⟩ := hA hbl
    have htopc := atop_le hcap0
    -- the result, once the bounds are known
    have key : ∀ (m : Nat) (cap' : Option Nat), 0 ≤ l → l ≤ r → r ≤ m → m ≤ cc → capIs cap' (els.length - (i + l.toNat)) (m - l.toNat) →
        VR fm ρ X h w (.hsl b bl (i + l.toNat) (r - l).toNat sz' cap') (.slice (if m = l.toNat then some a else (some a).map (·.add (l.toNat * sz'))) (r.toNat - l.toNat) (m - l.toNat)) := by
      intro m cap' b1 b2 b3 b4 hc'
      have e1 : (r - l).toNat = r.toNat - l.toNat := by omega
      rw [e1]
      have hil : i * sz' + l.toNat * sz' = (i + l.toNat) * sz' := by rw [Nat.add_mul]
      have harr : ∀ cc' : Nat, cc' ≤ cc - l.toNat → l.toNat ≤ cc → (i + l.toNat + cc') * sz' ≤ arr.size := fun cc' q q' =>
        Nat.le_trans (Nat.mul_le_mul_right _ (by omega)) h6
      have fin : ∀ a' : Addr, (m ≠ l.toNat → a' = a.add (l.toNat * sz')) → VR fm ρ X h w (.hsl b bl (i + l.toNat) (r.toNat - l.toNat) sz' cap') (.slice (some a') (r.toNat - l.toNat) (m - l.toNat)) := fun a' ha' => by
        refine .hsl hb (by omega) (fun B' els' hB' he' => ?_) (fun B' sz2 els' hB' he' => ?_)
        · rw [hB] at hB'
          injection hB' with hB'
          subst hB'
          rw [hrow] at he'
          simp only [Option.some.injEq, ABlk.row.injEq, true_and] at he'
          subst he'
          refine ⟨by omega, fun _ => ⟨fun hne => ?_, hc', arr, et, fr, h5, harr _ (by omega) (by omega)⟩⟩
          rw [ha' (by omega), hA0 (by omega), addr_add, hil]
        · exact hs' B' sz2 els' hB' he'
      by_cases q : m = l.toNat
      · rw [if_pos q]
        exact fin a (fun hne => absurd q hne)
      · rw [if_neg q]
        exact fin _ (fun _ => rfl)
    cases mx with
    | none =>
      simp only at hv
      obtain ⟨hb1, hv⟩ := of_ite hv
      injection hv with hv; subst hv
      have hbd := run_bounds (P := P) (isS := true) (len := len) (cap := cc) hlo hhi hmx h1 h2 (m := cc) (by simp [obound]) (by omega) hmh
      refine ⟨_, by simp only [Instr.slice, Sem.run_bind, run_underlying' hu, Result.andThen_ok, hbd, run_sizeOf' hs, Sem.run_pure]; rfl, ?_⟩
      refine key _ _ hb1.1 hb1.2.1 (by omega) (by omega) ?_
      cases cap with
      | none => simp only [Option.map_none, capIs] at hcap0 ⊢; omega
      | some c0 => simp only [Option.map_some, capIs] at hcap0 ⊢; omega
    | some mv =>
      simp only [Option.bind_eq_some_iff] at hv
      obtain ⟨m, h3, hv⟩ := hv
      obtain ⟨hb1, hv⟩ := of_ite hv
      injection hv with hv; subst hv
      have hbd := run_bounds (P := P) (isS := true) (len := len) (cap := cc) hlo hhi hmx h1 h2 (m := m) (by simpa [obound] using h3) (by omega) hmh
      refine ⟨_, by simp only [Instr.slice, Sem.run_bind, run_underlying' hu, Result.andThen_ok, hbd, run_sizeOf' hs, Sem.run_pure]; rfl, ?_⟩
      have e2 : (m - l).toNat = m.toNat - l.toNat := by omega
      rw [e2]
      exact key _ _ hb1.1 hb1.2.1 (by omega) (by omega) rfl

end
end Go.Ai
/-
  The abstract interpreter: operations that make memory.
-/
namespace Go.Ai
open Go.RowKit
set_option linter.unusedVariables false
set_option linter.unusedSimpArgs false

section
variable {P : Program} {fm : Nat → Nat} {fmi : Nat → Option Nat} {ρ : Map} {X : Nat → Prop} {PV : Map} {bar : Nat} {s : St} {w : World} {tmps : Array Value} {h : AHeap}

theorem FR.setHeap {ρ' : Map} {h' : AHeap} {w' : World} (F : FR fm ρ X PV s w tmps) (L : Le ρ (XP X PV) s.heap w ρ' (XP X PV) h' w') (I : Inv fm ρ' (XP X PV) h' w')
    (hw : ∀ d B, PV d = some B → w'.heap[B]? = w.heap[B]?) : FR fm ρ' X PV { s with heap := h' } w' tmps where
  inv := I
  pv d B e := ⟨(F.pv d B e).1, Nat.lt_of_lt_of_le (F.pv d B e).2 L.size⟩
  pvinj := F.pvinj
  env t := (F.env t).mono L
  vars d v e := by
    obtain ⟨B, h1, h2⟩ := F.vars d v e
    exact ⟨B, h1, h2.mono L (hw d B h1)⟩
  new B hB := Nat.lt_of_lt_of_le (F.new B hB) L.size
  pvdom := F.pvdom

theorem FR.notX (F : FR fm ρ X PV s w tmps) : ¬ XP X PV w.heap.size := by
  rintro (hx | ⟨d, hd⟩)
  · exact absurd (F.new _ hx) (Nat.lt_irrefl _)
  · exact absurd (F.pv d _ hd).2 (Nat.lt_irrefl _)

theorem FR.drew (F : FR fm ρ X PV s w tmps) : FR fm ρ X PV s w.drew tmps := F.setHeap Le.drew F.inv.drew (fun _ _ _ => rfl)

/-- a block that nobody writes -/
theorem FR.alloc (F : FR fm ρ X PV s w tmps) (o : Obj) : FR fm ρ X PV s (w.alloc o) tmps :=
  F.setHeap (Le.alloc o) (F.inv.alloc o) (fun d B e => heap_alloc_lt o (F.pv d B e).2)

theorem Step.alloc (F : FR fm ρ X PV s w tmps) (o : Obj) : Step X bar ρ PV s.heap w ρ PV s.heap (w.alloc o) where
  le := Le.alloc o
  out B hB _ := heap_alloc_lt o hB
  bar _ _ := ⟨rfl, rfl⟩
  pv _ _ e := .inl e

theorem Step.drew (F : FR fm ρ X PV s w tmps) : Step X bar ρ PV s.heap w ρ PV s.heap w.drew where
  le := Le.drew
  out B hB _ := rfl
  bar _ _ := ⟨rfl, rfl⟩
  pv _ _ e := .inl e

theorem FR.out_new (F : FR fm ρ X PV s w tmps) (o : Obj) : Out ρ (XP X PV) (w.alloc o) w.heap.size where
  heap b e := absurd (F.inv.dom b _ e).2.1 (Nat.lt_irrefl _)
  apart := F.notX
  lt := by simp

theorem VR.cells {a : AV} {c : Value} (H : VR fm ρ X h w a c) (h1 : a.cells.all AV.one = true) : VRs fm ρ X h w a.cells c.cells.toList := by
  cases H with
  | agg vs hl hv => exact ⟨by simpa [Value.cells, AV.cells] using hl, by simpa [Value.cells, AV.cells] using hv⟩
  | junk v => simp [AV.cells, AV.one] at h1
  | _ =>
    refine ⟨rfl, fun j x v hx hv => ?_⟩
    cases j with
    | zero =>
      simp only [AV.cells, Value.cells, List.getElem?_cons_zero, Option.some.injEq] at hx hv
      subst hx hv
      first | exact .bool _ | exact .int _ _ | exact .str _ | exact .nilp | exact .nils | exact .nilm | exact .nilf | exact .nili | (constructor <;> assumption)
    | succ j => simp [AV.cells] at hx

theorem VRs.ones {cs : List AV} {vs : List Value} (H : VRs fm ρ X h w cs vs) (h1 : cs.all AV.one = true) : ∀ v ∈ vs, v.oneCell' = true := by
  intro v hv
  obtain ⟨j, hj⟩ := List.getElem?_of_mem hv
  have hlt : j < cs.length := by have := (List.getElem?_eq_some_iff.1 hj).1; have := H.1; omega
  have hc := List.getElem?_eq_getElem hlt
  exact (H.2 j _ v hc hj).one (List.all_eq_true.1 h1 _ (List.getElem_mem hlt))

/-- a new row of cells -/
theorem VRs.row {cs : List AV} {vs : List Value} (H : VRs fm ρ X h w cs vs) (ho : ∀ v ∈ vs, v.oneCell' = true) (e : TypeId) :
    ∀ (j : Nat) v, vs[j]? = some v → (w.alloc (.cells vs.toArray e)).cell? ⟨w.heap.size, 0 + j, none⟩ = some v ∧ v.oneCell' = true := by
  intro j v hj
  refine ⟨?_, ho v (List.mem_of_getElem? hj)⟩
  simp only [World.cell?, heap_alloc_eq]
  simpa using hj

/-- a variable that is never written -/
theorem Good.imm (F : FR fm ρ X PV s w tmps) {cs : List AV} {vs : List Value} (H : VRs fm ρ (XP X PV) s.heap w cs vs) (ho : ∀ v ∈ vs, v.oneCell' = true) {e : TypeId} {R : Result Next}
    (hr : R = .ok (.value (.pointer (some ⟨w.heap.size, 0, none⟩))) (w.alloc (.cells vs.toArray e))) : Good fm ρ X PV bar s w tmps R (.iptr cs 0) s := by
  refine ⟨_, _, _, ρ, PV, hr, .inl rfl, F.alloc _, ?_, Step.alloc F _⟩
  have H' := H.mono (Le.alloc (.cells vs.toArray e))
  exact VR.iptr (off := 0) (o := 0) vs (F.out_new _) H.1 (H.row ho e) H'.2

/-- a variable of the frame's own -/
theorem varGet_set : ∀ (vs : List (Nat × LVar)) (d x : Nat) (v : LVar), varGet (varSet vs d v) x = if x = d then some v else varGet vs x
  | [], d, x, v => by
    by_cases q : x = d
    · simp [varSet, varGet, q]
    · simp [varSet, varGet, q, Ne.symm q]
  | (k, u) :: r, d, x, v => by
    have ih := varGet_set r d x v
    simp only [varSet]
    by_cases q : x = d
    · subst q
      split
      · simp [varGet]
      · split
        · simp [varGet]
        · rename_i h1 h2
          have : k ≠ x := fun h => h2 h.symm
          simp [varGet, this, ih]
    · rw [if_neg q]
      rw [if_neg q] at ih
      split
      · simp [varGet, Ne.symm q]
      · split
        · rename_i h1 h2
          subst h2
          simp [varGet, Ne.symm q]
        · simp only [varGet, ih]

theorem varSet_comm {d d' : Nat} (hd : d ≠ d') (v v' : LVar) : ∀ (e : List (Nat × LVar)), varSet (varSet e d v) d' v' = varSet (varSet e d' v') d v
  | [] => by
    simp only [varSet]
    by_cases q : d < d'
    · have h1 : ¬ d' < d := by omega
      have h2 : ¬ d' = d := by omega
      simp [q, h1, h2]
    · have h1 : d' < d := by omega
      have h2 : ¬ d = d' := by omega
      simp [q, h1, h2]
  | (k, u) :: r => by
    have ih := varSet_comm hd v v' r
    simp only [varSet]
    by_cases a1 : d < k <;> by_cases a2 : d' < k <;> by_cases b1 : d = k <;> by_cases b2 : d' = k <;> by_cases c1 : d < d' <;> by_cases c2 : d' < d <;>
      first
        | omega
        | simp [varSet, a1, a2, b1, b2, c1, c2, hd, Ne.symm hd, ih]
        | skip
    all_goals (first | (subst b1; simp [varSet, *, Ne.symm hd]) | (subst b2; simp [varSet, *, Ne.symm hd]) | skip)

theorem XP_up {d B : Nat} {B' : Nat} (hx : XP X (up PV d B) B') : XP X PV B' ∨ B' = B := by
  rcases hx with hx | ⟨d', hd'⟩
  · exact .inl (.inl hx)
  · by_cases q : d' = d
    · subst q
      rw [up_same] at hd'
      injection hd' with hd'
      exact .inr hd'.symm
    · rw [up_other _ _ q] at hd'
      exact .inl (.inr ⟨d', hd'⟩)

theorem Good.loc (F : FR fm ρ X PV s w tmps) (d : Nat) (v : LVar) (o : Obj) {av : AV} {s' : St} (hnv : s.newVar d v = some (av, s'))
    (hv : LR fm ρ (XP X (up PV d w.heap.size)) s.heap (w.alloc o) v w.heap.size) {R : Result Next}
    (hr : R = .ok (.value (.pointer (some ⟨w.heap.size, 0, none⟩))) (w.alloc o)) : Good fm ρ X PV bar s w tmps R av s' := by
  have hfree : varGet s.vars d = none := by
    unfold St.newVar at hnv
    split at hnv
    · assumption
    · cases hnv
  have hPV : PV d = none := by
    cases e : PV d with
    | none => rfl
    | some B =>
      obtain ⟨u, hu⟩ := F.pvdom d B e
      rw [hfree] at hu
      cases hu
  have hav : av = .lptr d 0 ∧ s' = { s with vars := varSet s.vars d v } := by
    unfold St.newVar at hnv
    rw [hfree] at hnv
    simp only [Option.some.injEq, Prod.mk.injEq] at hnv
    exact ⟨hnv.1.symm, hnv.2.symm⟩
  obtain ⟨rfl, rfl⟩ := hav
  have hX : ∀ B, XP X (up PV d w.heap.size) B → XP X PV B ∨ B = w.heap.size := fun B hB => XP_up hB
  have L : Le ρ (XP X PV) s.heap w ρ (XP X (up PV d w.heap.size)) s.heap (w.alloc o) := Le.allocX o hX
  refine ⟨_, _, _, ρ, up PV d w.heap.size, hr, .inl rfl, ?_, ⟨w.heap.size, up_same _ _ _, rfl⟩, ⟨L, fun B hB _ => heap_alloc_lt o hB, fun _ _ => ⟨rfl, rfl⟩, fun d' B e => ?_⟩⟩
  · refine ⟨F.inv.allocX o hX, fun d' B e => ?_, fun d1 d2 B e1 e2 => ?_, fun t => ?_, fun d' v' e => ?_, fun B hB => by have := F.new B hB; simp; omega, fun d' B e => ?_⟩
    · by_cases q : d' = d
      · subst q
        rw [up_same] at e
        injection e with e
        subst e
        exact ⟨fun hx => absurd (F.new _ hx) (Nat.lt_irrefl _), by simp⟩
      · rw [up_other _ _ q] at e
        exact ⟨(F.pv d' B e).1, by have := (F.pv d' B e).2; simp; omega⟩
    · by_cases q1 : d1 = d
      · by_cases q2 : d2 = d
        · rw [q1, q2]
        · subst q1
          rw [up_same] at e1
          rw [up_other _ _ q2] at e2
          injection e1 with e1
          have := (F.pv d2 B e2).2
          omega
      · by_cases q2 : d2 = d
        · subst q2
          rw [up_same] at e2
          rw [up_other _ _ q1] at e1
          injection e2 with e2
          have := (F.pv d1 B e1).2
          omega
        · rw [up_other _ _ q1] at e1
          rw [up_other _ _ q2] at e2
          exact F.pvinj d1 d2 B e1 e2
    · have he := F.env t
      show ER fm ρ (XP X (up PV d w.heap.size)) (up PV d w.heap.size) s.heap (w.alloc o) (s.env.get t) (tmps.getD t undef)
      cases hg : s.env.get t with
      | lptr d' off =>
        rw [hg] at he
        obtain ⟨B, h1, h2⟩ := he
        have q : d' ≠ d := fun q => by
          rw [q, hPV] at h1
          cases h1
        exact ⟨B, by rw [up_other _ _ q]; exact h1, h2⟩
      | _ =>
        rw [hg] at he
        exact VR.mono L he
    · simp only [varGet_set] at e
      by_cases q : d' = d
      · rw [if_pos q] at e
        injection e with e
        subst e q
        exact ⟨w.heap.size, up_same _ _ _, hv⟩
      · rw [if_neg q] at e
        obtain ⟨B, h1, h2⟩ := F.vars d' v' e
        exact ⟨B, by rw [up_other _ _ q]; exact h1, h2.mono L (heap_alloc_lt o (F.pv d' B h1).2)⟩
    · show ∃ u, varGet (varSet s.vars d v) d' = some u
      rw [varGet_set]
      by_cases q : d' = d
      · exact ⟨v, by rw [if_pos q]⟩
      · rw [up_other _ _ q] at e
        rw [if_neg q]
        exact F.pvdom d' B e
  · by_cases q : d' = d
    · subst q
      rw [up_same] at e
      injection e with e
      exact .inr (by omega)
    · rw [up_other _ _ q] at e
      exact .inl e

/-- a new block of the heap -/
theorem Good.push (hbar : bar ≤ s.heap.length) (F : FR fm ρ X PV s w tmps) (o : Obj) (blk : ABlk) {v : AV} {c : Value} {R : Result Next}
    (hrow : ∀ sz els, blk = .row sz els → RowR fm (up ρ s.heap.length w.heap.size) (XP X PV) (s.heap ++ [blk]) (w.alloc o) w.heap.size sz els)
    (hmap : ∀ es, blk = .map es → MapR fm (up ρ s.heap.length w.heap.size) (XP X PV) (s.heap ++ [blk]) (w.alloc o) w.heap.size es)
    (hv : VR fm (up ρ s.heap.length w.heap.size) (XP X PV) (s.heap ++ [blk]) (w.alloc o) v c)
    (hr : R = .ok (.value c) (w.alloc o)) : Good fm ρ X PV bar s w tmps R v { s with heap := s.heap ++ [blk] } := by
  have L := Le.push F.inv F.notX o blk
  refine ⟨_, _, _, up ρ s.heap.length w.heap.size, PV, hr, .inl rfl,
    F.setHeap L (F.inv.push F.notX o blk hrow hmap) (fun d B e => heap_alloc_lt o (F.pv d B e).2), ER.of hv, L, fun B hB _ => heap_alloc_lt o hB, fun b hb => ?_, fun _ _ e => .inl e⟩
  have hlt : b < s.heap.length := by omega
  exact ⟨up_other _ _ (by omega), List.getElem?_append_left hlt⟩

/-- the cells of a row's elements, one behind the other -/
theorem RowR.of_flat {els : List (List AV)} {sz B : Nat} (hsz : ∀ (i : Nat) x, els[i]? = some x → x.length = sz) {arr : Array Value} {e : TypeId} {fz : Nat × Nat}
    (hw : w.heap[B]? = some (.cells arr e fz)) (hl : els.length * sz ≤ arr.size) (hfz : fz.2 ≤ fz.1 ∨ arr.size ≤ fz.1 ∧ sz = 1) (hone : ∀ (j : Nat) (v : Value), arr[j]? = some v → v.oneCell' = true)
    (hc : ∀ (i : Nat) x (j : Nat) a, els[i]? = some x → x[j]? = some a → ∃ v, arr[i * sz + j]? = some v ∧ v.oneCell' = true ∧ VR fm ρ X h w a v) : RowR fm ρ X h w B sz els :=
  ⟨hsz, arr, e, fz, hw, hl, ⟨hfz, hone⟩, hc⟩

/-- a variable in the heap -/
theorem Good.box (hbar : bar ≤ s.heap.length) (F : FR fm ρ X PV s w tmps) {cs : List AV} {vs : List Value} (H : VRs fm ρ (XP X PV) s.heap w cs vs) (ho : ∀ v ∈ vs, v.oneCell' = true) {e : TypeId} {R : Result Next}
    (hr : R = .ok (.value (.pointer (some ⟨w.heap.size, 0, none⟩))) (w.alloc (.cells vs.toArray e))) :
    Good fm ρ X PV bar s w tmps R (.hptr s.heap.length 1 0 0) { s with heap := s.heap ++ [.row cs.length [cs]] } := by
  have L := Le.push F.inv F.notX (.cells vs.toArray e) (.row cs.length [cs])
  refine Good.push hbar F _ _ (fun sz els he => ?_) (fun es he => by cases he) ?_ hr
  · injection he with h1 h2
    subst h1 h2
    refine RowR.of_flat (fun i x hx => ?_) (heap_alloc_eq _) (by simp [H.1]) (.inl (Nat.le_refl _)) (fun j v hj => ho v (List.mem_of_getElem? (by simpa using hj))) (fun i x j a hx ha => ?_)
    · cases i with
      | zero => simp at hx; rw [← hx]
      | succ i => simp at hx
    · cases i with
      | zero =>
        simp at hx
        subst hx
        have hlt : j < vs.length := by have := (List.getElem?_eq_some_iff.1 ha).1; have := H.1; omega
        refine ⟨vs[j], by simp, ho _ (List.getElem_mem hlt), ?_⟩
        exact (H.2 j a _ ha (List.getElem?_eq_getElem hlt)).mono L
      | succ i => simp at hx
  · refine .hptr (by simp) fun B sz els hB he => ?_
    rw [up_same] at hB
    injection hB with hB
    subst hB
    simp only [List.getElem?_concat_length, Option.some.injEq, ABlk.row.injEq] at he
    obtain ⟨rfl, rfl⟩ := he
    exact ⟨by simp, fun _ => by simp⟩

end
end Go.Ai
