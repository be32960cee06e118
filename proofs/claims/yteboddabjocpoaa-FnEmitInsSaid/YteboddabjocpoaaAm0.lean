/- An abstract machine for the part of the language that the given program uses: values, rows, operations, code, calls. Plain definitions; what they have to do with the model is proved in the texts behind this one. -/
import Derived.Calls
import Derived.Laws.BitsLemmas
import Derived.Laws.AppendOwn
import Derived.Orders
set_option linter.all false
namespace Go.Am

/-- Values: 'rw r z n' is the whole row r when it had n elements (of z cells); 'sl r z n off len' a part of it; 'zs' an empty slice that has no room; 'tl' a slice that nobody writes, with its elements inside ('true': it is only lent); 'pe' a pointer to cells that nobody writes; 'p r z n i o' cell o of element i of row r when it had n elements; 'junk' whatever, 'un' nothing yet. -/
inductive V where
  | junk | un
  | i (k : IntKind) (n : Int)
  | b (t : Bool)
  | s (t : ByteArray)
  | np | ns | zs
  | p (r z n i o : Nat)
  | rw (r z n : Nat)
  | sl (r z n off len : Nat)
  | tl (w : Bool) (z : Nat) (es : List (List V))
  | pe (cs : List V)
  | agg (cs : List V)
  | tup (vs : List V)
  | fn (f : Nat) (caps : List V)

/-- A row: its elements' type, how many cells an element has, the elements; 'bx': one variable's own memory. -/
structure Row where
  e : TypeId
  z : Nat
  bx : Bool
  es : List (List V)

abbrev Heap := List Row

/-! What is reckoned with numbers, strings and lists: left as it is while code is reckoned. -/
def qbin (op : BinOp) (k : IntKind) (a c : Int) : Int := match op with
  | .add => k.wrap (a + c)
  | .sub => k.wrap (a - c)
  | .mul => k.wrap (a * c)
  | .quo => k.wrap (Int.tdiv a c)
  | .rem => Int.tmod a c
  | .shl => k.wrap (a * 2 ^ c.toNat)
  | .shr => Int.fdiv a (2 ^ c.toNat)
  | op => Go.bits op k a c
def qtest (op : BinOp) (a c : Int) : Bool := match op with
  | .eql => a == c
  | .neq => a != c
  | .lss => decide (a < c)
  | .leq => decide (a ≤ c)
  | .gtr => decide (a > c)
  | _ => decide (a ≥ c)
def qshOk (k : IntKind) (c : Int) : Bool := decide (0 ≤ c ∧ c ≤ k.bits)
def qcvt (k : IntKind) (n : Int) : Int := k.wrap n
def qneg (k : IntKind) (n : Int) : Int := k.wrap (0 - n)
def qbest (mn : Bool) (a c : Int) : Int := if mn = true then (if c < a then c else a) else (if a < c then c else a)
def qinn (n : Int) (l : Nat) : Bool := decide (0 ≤ n ∧ n < l)
def qupTo (n : Int) (l : Nat) : Bool := decide (0 ≤ n ∧ n ≤ l)
def qtoN (n : Int) : Nat := n.toNat
def qadd (a c : Nat) : Nat := a + c
def qsub (a c : Nat) : Nat := a - c
def qsame (a c : Nat) : Bool := decide (a = c)
def qofN (n : Nat) : Int := n
def qlen (es : List (List V)) : Nat := es.length
def qget (es : List (List V)) (n : Nat) : Option (List V) := es[n]?
def qset (es : List (List V)) (n : Nat) (c : List V) : List (List V) := es.set n c
def qapp (a c : List (List V)) : List (List V) := a ++ c
def qpart (es : List (List V)) (o l : Nat) : List (List V) := (es.drop o).take l
def qrep (n : Nat) (c : List V) : List (List V) := List.replicate n c
def qnil (es : List (List V)) : Bool := es.isEmpty
def qroom (n : Nat) (by_ : Nat) : Bool := decide (n ≤ 9223372036854775807 ∧ n * by_ ≤ 140737488355328)
def qmkOk (n : Int) (by_ : Nat) : Bool := decide (0 ≤ n ∧ n ≤ 9223372036854775807 ∧ n.toNat * by_ ≤ 140737488355328)
def qslen (t : ByteArray) : Nat := t.size
def qsget (t : ByteArray) (n : Nat) : Int := match t[n]? with | some b => (b.toNat : Int) | none => 0
def qsapp (a c : ByteArray) : ByteArray := a ++ c
def qsroom (a c : ByteArray) : Bool := decide (a.size + c.size ≤ 140737488355328)
def qseq (a c : ByteArray) : Bool := a.toList == c.toList
def qssub (t : ByteArray) (l h : Nat) : ByteArray := t.extract l h
def qsbytes (t : ByteArray) : List (List V) := t.data.toList.map fun c => [.i .u8 (c.toNat : Int)]
def bytesOf : List (List V) → Option (List UInt8)
  | [] => some []
  | [.i .u8 n] :: es => (bytesOf es).map (UInt8.ofNat n.toNat :: ·)
  | _ => none
def qsof (es : List (List V)) : Option ByteArray := (bytesOf es).map fun l => ⟨l.toArray⟩
theorem qsame_self (a : Nat) : qsame a a = true := by unfold qsame; simp
theorem qlen_set (es : List (List V)) (n : Nat) (c : List V) : qlen (qset es n c) = qlen es := by unfold qlen qset; simp

/-- A function over a whole list, if it tells everywhere. -/
def allM {α β : Type} (f : α → Option β) : List α → Option (List β)
  | [] => some []
  | a :: l => (f a).bind fun b => (allM f l).map (b :: ·)

def row? (H : Heap) (r : Nat) : Option Row := H[r]?

def ofC : Value → V
  | .int k n => .i k n
  | .bool t => .b t
  | .string t => .s t
  | .pointer none => .np
  | .slice none 0 0 => .ns
  | _ => .junk

def cellsV : V → List V
  | .agg cs => cs
  | v => [v]

def storable : V → Bool
  | .junk | .un | .agg _ | .tup _ => false
  | _ => true

/-- What is asked of a type: its cells, its bytes, is it a struct (or an array), a slice's element, a struct's fields (type, first cell), its zero cells, its kind of integer, is it string. -/
structure TI where
  z : Nat
  by_ : Nat
  ag : Bool := false
  el : Option TypeId := none
  fs : List (TypeId × Nat) := []
  zero : Option (List V) := none
  ik : Option IntKind := none
  st : Bool := false
  bo : Bool := false
  eqi : Bool := false

abbrev Types := Nat → Option TI

/-- A list looked at to its end ahead of what follows. -/
def force {α : Type} : List V → (List V → α) → α
  | [], K => K []
  | v :: vs, K => force vs fun r => K (v :: r)

abbrev Call1 := Nat → List V → Heap → (V → Heap → Prop) → Prop

/-! ### Code, resolved -/
inductive RX where
  | t (n : Nat)
  | c (v : V)

inductive RO where
  | mv (x : RX)
  | pick (c a b : RX)
  | box (T : TypeId) (x : RX)
  | alloc (T : TypeId) (zero : List V)
  | build (zero : List V) (parts : List (Nat × Nat × RX))
  | buildS (e : TypeId) (z : Nat) (zero : List V) (len : Nat) (parts : List (Nat × RX))
  | lit (z : Nat) (zero : List V) (len : Nat) (parts : List (Nat × RX))
  | nul
  | load (z : Nat) (ag : Bool) (a : RX)
  | store (z : Nat) (a x : RX)
  | nilc (x : RX)
  | bin (op : BinOp) (x y : RX)
  | binB (op : BinOp) (x y : RX)
  | binN (op : BinOp) (x y : RX)
  | binA (op : BinOp) (nf : Nat) (x y : RX)
  | unop (op : UnOp) (x : RX)
  | cvtI (k : IntKind) (x : RX)
  | s2b (x : RX)
  | b2s (x : RX)
  | mkf (f : Nat) (caps : List RX)
  | mkS (e : TypeId) (z by_ : Nat) (zero : List V) (l c : RX)
  | cutL (z : Nat) (x : RX) (lo hi mx : Option RX)
  | cutS (x : RX) (lo hi : Option RX)
  | fa (off : Nat) (x : RX)
  | fv (off z : Nat) (ag : Bool) (x : RX)
  | ia (z : Nat) (x ix : RX)
  | is (x ix : RX)
  | ext (x : RX) (ix : Nat)
  | call (f : RX) (args : List RX)
  | len (str : Bool) (x : RX)
  | best (mn : Bool) (xs : List RX)
  | app (e : TypeId) (z by_ : Nat) (s x : RX)
  | appS (e : TypeId) (by_ : Nat) (s x : RX)
  | bad

/-- An operation: where its value goes, what it does, its guard (a variable, and what is wanted of it). -/
structure RS where
  d : Option Nat
  o : RO
  g : Option (Nat × Bool)

inductive RC where
  | skip
  | reg (ops : List RS)
  | seq (a b : RC)
  | cond (c : RX) (a b : RC)
  | block (id : Nat) (c : RC)
  | loop (c : RC)
  | exit (id : Nat)
  | ret
  | bad

structure RF where
  ntmps : Nat
  res : List (Nat ⊕ (Nat × Nat × Bool))
  body : RC

section
variable (P : Types)
def sz (T : TypeId) : Option Nat := (P T).map (·.z)
def isAggT (T : TypeId) : Bool := match P T with | some t => t.ag | none => false
def elemT (T : TypeId) : Option TypeId := (P T).bind (·.el)
/-- A field's type, and where it begins. -/
def fieldT (S : TypeId) (f : Nat) : Option (TypeId × Nat) := (P S).bind fun t => t.fs[f]?
/-- Where a struct's fields lie, and how many cells each has. -/
def placesT (S : TypeId) : Option (List (Nat × Nat)) := (P S).bind fun t => match t.fs with
  | [] => none
  | fs => allM (fun f : TypeId × Nat => (sz P f.1).map fun z => (f.2, z)) fs
def zeroT (T : TypeId) : Option (List V) := (P T).bind (·.zero)
def bytesT (T : TypeId) : Option Nat := (P T).map (·.by_)
def kindT (T : TypeId) : Option IntKind := (P T).bind (·.ik)
def isStringT (T : TypeId) : Bool := match P T with | some t => t.st | none => false
def isBoolT (T : TypeId) : Bool := match P T with | some t => t.bo | none => false
/-- A struct of integers alone that may be compared: how many. -/
def eqiT (T : TypeId) : Option Nat := match P T with | some t => if t.eqi = true then some t.fs.length else none | none => none
def isBytesT (T : TypeId) : Bool := match (elemT P T).bind (kindT P) with | some .u8 => true | _ => false

def rx : Operand → RX
  | .tmp n => .t n
  | .const v => .c (ofC v)
  | .func f => .c (.fn f [])
  | .global _ => .c .junk

def orBad (o : Option RO) : RO := match o with | some r => r | none => .bad

def resB (bi : Builtin) (args : List RX) (ts : List TypeId) : RO :=
  match bi, args with
  | .len, [x] => match ts with
    | [T] => if isStringT P T = true then .len true x else if (elemT P T).isSome = true then .len false x else .bad
    | _ => .bad
  | .min, xs => .best true xs
  | .max, xs => .best false xs
  | .append, [s, x] => match ts with
    | [T, T'] => orBad ((elemT P T).bind fun e => (sz P e).bind fun z => (bytesT P e).bind fun by_ => (zeroT P e).bind fun zero =>
        if zero.length ≠ z then none else if T = T' then some (.app e z by_ s x) else none)
    | _ => .bad
  | _, _ => .bad

def resO (o : Op) : RO :=
  match o with
  | .move x | .assign x => .mv (rx x)
  | .pick c a b => .pick (rx c) (rx a) (rx b)
  | .alloc T => orBad ((zeroT P T).map fun z => .alloc T z)
  | .box T x => .box T (rx x)
  | .build T ps => orBad ((zeroT P T).bind fun zero => (placesT P T).bind fun pl => (allM (fun q : Nat × Operand => (pl[q.1]?).map fun fd => (fd.1, fd.2, rx q.2)) ps.toList).map fun l => .build zero l)
  | .buildSlice T len ps => orBad ((elemT P T).bind fun e => (sz P e).bind fun z => (zeroT P e).map fun zero => .buildS e z zero len (ps.toList.map fun q => (q.1, rx q.2)))
  | .load T a => orBad ((sz P T).map fun z => .load z (isAggT P T) (rx a))
  | .store T a x => orBad ((sz P T).map fun z => .store z (rx a) (rx x))
  | .nilCheck x => .nilc (rx x)
  | .binOp op T x y _ => if isBoolT P T = true then .binB op (rx x) (rx y) else if (elemT P T).isSome = true then .binN op (rx x) (rx y) else match eqiT P T with
    | some nf => .binA op nf (rx x) (rx y)
    | none => .bin op (rx x) (rx y)
  | .unOp op _ x => .unop op (rx x)
  | .convert src dst x => match kindT P src, kindT P dst with
    | some _, some k => .cvtI k (rx x)
    | _, _ => if isBytesT P dst = true ∧ isStringT P src = true then .s2b (rx x) else if isBytesT P src = true ∧ isStringT P dst = true then .b2s (rx x) else .bad
  | .makeFunc (.func f) first captured => if first.size = 0 then .mkf f (captured.toList.map rx) else .bad
  | .makeSlice T l c => orBad ((elemT P T).bind fun e => (sz P e).bind fun z => (zeroT P e).bind fun zero => (bytesT P e).map fun by_ => .mkS e z by_ zero (rx l) (rx c))
  | .slice T x lo hi mx => match elemT P T with
    | some e => orBad ((sz P e).map fun z => .cutL z (rx x) (lo.map rx) (hi.map rx) (mx.map rx))
    | none => if isStringT P T = true ∧ mx.isNone = true then .cutS (rx x) (lo.map rx) (hi.map rx) else .bad
  | .fieldAddr S x f => orBad ((fieldT P S f).bind fun fd => (sz P fd.1).bind fun z => if z = 0 then none else some (.fa fd.2 (rx x)))
  | .field S x f => orBad ((fieldT P S f).bind fun fd => (sz P fd.1).map fun z => .fv fd.2 z (isAggT P fd.1) (rx x))
  | .indexAddr T x ix => orBad ((elemT P T).bind fun e => (sz P e).map fun z => .ia z (rx x) (rx ix))
  | .index T x ix => if isStringT P T = true then .is (rx x) (rx ix) else .bad
  | .extract x ix => .ext (rx x) ix
  | .call c => match c.callee with
    | .value f => .call (rx f) (c.args.toList.map rx)
    | .builtin bi => resB P bi (c.args.toList.map rx) c.argTypes.toList
    | _ => .bad
  | _ => .bad

/-- Literals of slices: with nothing in them they need no row; 'lit': they are never written. -/
def resL (lit : Bool) (r : RO) : RO :=
  match r with
  | .buildS e z zero len ps => match len with
    | 0 => match ps with
      | [] => .nul
      | _ => r
    | len + 1 => match lit with
      | true => .lit z zero (len + 1) ps
      | false => r
  | _ => r

def resS (lit : Bool) (all : Array Oper) (o : Oper) : RS :=
  match o.guard with
  | none => { d := o.dst, o := resL lit (resO P o.op), g := none }
  | some (j, want) => match (all[j]?).bind (·.dst) with
    | some d => { d := o.dst, o := resL lit (resO P o.op), g := some (d, want) }
    | none => { d := o.dst, o := .bad, g := none }

def resC : Code → RC
  | .skip => .skip
  | .region _ ops false => .reg (ops.toList.map (resS P false ops))
  | .seq a c => .seq (resC a) (resC c)
  | .cond c a d => .cond (rx c) (resC a) (resC d)
  | .block id c => .block id (resC c)
  | .loop c => .loop (resC c)
  | .exit id => .exit id
  | .ret => .ret
  | _ => .bad

def resF (fn : Func) : Option RF :=
  fn.body.bind fun c => (allM (fun r : ResultVar => match r with
    | .tmp i => some (.inl i)
    | .cell a T => (sz P T).map fun z => .inr (a, z, isAggT P T)) fn.results.toList).map fun rs => { ntmps := fn.ntmps, res := rs, body := resC P c }
end

/-! ### What it does -/
section

def rv (t : List V) : RX → V
  | .t n => t.getD n .un
  | .c v => v

def cut? (cs : List V) (o z : Nat) : Option (List V) := if o + z ≤ cs.length then some ((cs.drop o).take z) else none
def wrapV (ag : Bool) (cs : List V) : Option V :=
  match ag with
  | true => some (.agg cs)
  | false => match cs with | [v] => some v | _ => none

/-- Element i of a row that had n elements. -/
def elAt (R : Row) (z n i : Nat) : Option (List V) :=
  if R.z = z then
    match R.bx with
    | true => if n = 1 then R.es[i]? else none
    | false => match qsame n (qlen R.es) with | true => qget R.es i | false => none
  else none
def setEl (H : Heap) (r : Nat) (R : Row) (i : Nat) (c : List V) : Heap :=
  H.set r { R with es := match R.bx with | true => R.es.set i c | false => qset R.es i c }

def loadV (z : Nat) (ag : Bool) (a : V) (H : Heap) : Option V :=
  match a with
  | .p r z' n i o => (row? H r).bind fun R => (elAt R z' n i).bind fun c => (cut? c o z).bind (wrapV ag)
  | .pe cs => (cut? cs 0 z).bind (wrapV ag)
  | _ => none

def storeV (z : Nat) (a v : V) (H : Heap) : Option Heap :=
  if (cellsV v).length = z ∧ (cellsV v).all storable = true then
    match a with
    | .p r z' n i o => (row? H r).bind fun R => (elAt R z' n i).bind fun c =>
        if o + z ≤ c.length then some (setEl H r R i (c.take o ++ (cellsV v ++ c.drop (o + z)))) else none
    | _ => none
  else none

def fieldA (off : Nat) (a : V) : Option V :=
  match a with
  | .p r z n i o => some (.p r z n i (o + off))
  | .pe cs => some (.pe (cs.drop off))
  | _ => none

def fieldV (off z : Nat) (ag : Bool) (v : V) : Option V :=
  match v with
  | .agg cs => (cut? cs off z).bind (wrapV ag)
  | _ => none

/-- The elements of a slice, each of z cells; none where it is no slice that can be told. -/
def elems (H : Heap) (z : Nat) : V → Option (List (List V))
  | .rw r z' n => (row? H r).bind fun R => if R.z = z ∧ z' = z ∧ R.bx = false then (match qsame n (qlen R.es) with | true => some R.es | false => none) else none
  | .sl r z' n off len => (row? H r).bind fun R => if R.z = z ∧ z' = z ∧ R.bx = false then (match qsame n (qlen R.es) with | true => some (qpart R.es off len) | false => none) else none
  | .tl _ z' es => if z' = z then some es else none
  | .ns | .zs => some []
  | _ => none

def indexA (z : Nat) (x ix : V) : Option V :=
  match ix with
  | .i _ k => match x with
    | .rw r z' n => if z' = z then (match qinn k n with | true => some (.p r z n (qtoN k) 0) | false => none) else none
    | .sl r z' n off len => if z' = z then (match qinn k len with | true => some (.p r z n (qadd off (qtoN k)) 0) | false => none) else none
    | .tl _ z' es => if z' = z then (match qinn k (qlen es) with | true => (qget es (qtoN k)).map .pe | false => none) else none
    | _ => none
  | _ => none

def indexS (x ix : V) : Option V :=
  match x, ix with
  | .s t, .i _ n => match qinn n (qslen t) with | true => some (.i .u8 (qsget t (qtoN n))) | false => none
  | _, _ => none

def fillEs (z : Nat) : List (Nat × V) → List (List V) → Option (List (List V))
  | [], es => some es
  | (i, v) :: rest, es =>
    if (cellsV v).length = z ∧ i < es.length ∧ (cellsV v).all storable = true then fillEs z rest (es.set i (cellsV v)) else none

def newRowH (e : TypeId) (z : Nat) (bx : Bool) (es : List (List V)) (H : Heap) : Heap := H ++ [{ e := e, z := z, bx := bx, es := es }]

def buildSliceV (e : TypeId) (z : Nat) (zero : List V) (len : Nat) (parts : List (Nat × V)) (H : Heap) : Option (V × Heap) :=
  if zero.length = z ∧ 0 < z ∧ len * z ≤ 16777216 ∧ zero.all storable = true then
    (fillEs z parts (List.replicate len zero)).map fun es => (.rw H.length z (qlen es), newRowH e z false es H)
  else none

/-- A slice's literal that nobody writes. -/
def litV (z : Nat) (zero : List V) (len : Nat) (parts : List (Nat × V)) : Option V :=
  if zero.length = z ∧ 0 < z ∧ 0 < len ∧ len * z ≤ 16777216 ∧ zero.all storable = true then (fillEs z parts (List.replicate len zero)).map (.tl false z) else none

/-- A value whose cells can be told. -/
def okTop : V → Bool
  | .junk | .un | .tup _ => false
  | _ => true

def fillCs : List (Nat × Nat × V) → List V → Option (List V)
  | [], cs => some cs
  | (off, z, v) :: rest, cs =>
      if (cellsV v).length = z ∧ off + z ≤ cs.length ∧ okTop v = true then fillCs rest (cs.take off ++ (cellsV v ++ cs.drop (off + z))) else none

def boxV (T : TypeId) (v : V) (H : Heap) : Option (V × Heap) :=
  if 0 < (cellsV v).length ∧ (cellsV v).all storable = true then some (.p H.length (cellsV v).length 1 0 0, newRowH T (cellsV v).length true [cellsV v] H) else none

def allocV (T : TypeId) (cs : List V) (H : Heap) : Option (V × Heap) :=
  if 0 < cs.length ∧ cs.all storable = true then some (.p H.length cs.length 1 0 0, newRowH T cs.length true [cs] H) else none

def makeSliceV (e : TypeId) (z by_ : Nat) (zero : List V) (l c : V) (H : Heap) : Option (V × Heap) :=
  match l, c with
  | .i .i64 n, .i .i64 m =>
    if zero.length = z ∧ 0 < z ∧ zero.all storable = true then
      (match qmkOk n by_ with | true => (match qtest .eql m n with | true => some (.rw H.length z (qlen (qrep (qtoN n) zero)), newRowH e z false (qrep (qtoN n) zero) H) | false => none) | false => none)
    else none
  | _, _ => none

/-- A bound of a cut: d where it is left out. -/
def boundV (d most : Nat) (x : Option V) : Option Nat :=
  match x with
  | none => some d
  | some (.i _ n) => match qupTo n most with | true => some (qtoN n) | false => none
  | _ => none

def cutSV (x : V) (lo hi : Option V) : Option V :=
  match x with
  | .s t => (boundV (qslen t) (qslen t) hi).bind fun h => (boundV 0 h lo).bind fun l => some (.s (qssub t l h))
  | _ => none

/-- 's[lo:hi]'; with three indexes only where nothing is left ('s[:0:0]'). -/
def cutLV (z : Nat) (x : V) (lo hi mx : Option V) : Option V :=
  match mx with
  | some m => match m, hi, lo, x with
    | .i _ 0, some (.i _ 0), none, .rw _ _ _ => some .zs
    | .i _ 0, some (.i _ 0), none, .sl _ _ _ _ _ => some .zs
    | .i _ 0, some (.i _ 0), none, .ns => some .ns
    | .i _ 0, some (.i _ 0), none, .zs => some .zs
    | _, _, _, _ => none
  | none => match x with
    | .rw r z' n => if z' = z then (boundV n n hi).bind fun h => (boundV 0 h lo).bind fun l => some (.sl r z n l (qsub h l)) else none
    | .sl r z' n off len => if z' = z then (boundV len len hi).bind fun h => (boundV 0 h lo).bind fun l => some (.sl r z n (qadd off l) (qsub h l)) else none
    | .tl w z' es => if z' = z then (boundV (qlen es) (qlen es) hi).bind fun h => (boundV 0 h lo).bind fun l => some (.tl w z (qpart es l (qsub h l))) else none
    | .ns => (boundV 0 0 hi).bind fun h => (boundV 0 h lo).bind fun _ => some .ns
    | .zs => (boundV 0 0 hi).bind fun h => (boundV 0 h lo).bind fun _ => some .zs
    | _ => none

def appendV (e : TypeId) (z by_ : Nat) (s : V) (xs : List (List V)) (H : Heap) : Option (V × Heap) :=
  if 0 < z then
    (match qnil xs with
    | true => match s with
      | .ns | .zs | .rw _ _ _ | .sl _ _ _ _ _ | .tl _ _ _ => some (s, H)
      | _ => none
    | false => match s with
      | .ns | .zs => match qroom (qlen xs) by_ with | true => some (.rw H.length z (qlen xs), newRowH e z false xs H) | false => none
      | .rw r z' n => (row? H r).bind fun R =>
          if R.e = e ∧ R.z = z ∧ z' = z ∧ R.bx = false then
            (match qsame n (qlen R.es) with
            | true => match qroom (qadd (qlen R.es) (qlen xs)) by_ with
              | true => some (.rw r z (qlen (qapp R.es xs)), H.set r { R with es := qapp R.es xs })
              | false => none
            | false => none)
          else none
      | _ => none)
  else none

def intBin (op : BinOp) (k : IntKind) (a c : Int) : Option V :=
  match op with
  | .add | .sub | .mul | .and | .or | .xor | .andNot => some (.i k (qbin op k a c))
  | .quo | .rem => match qtest .eql c 0 with | true => none | false => some (.i k (qbin op k a c))
  | .eql | .neq | .lss | .leq | .gtr | .geq => some (.b (qtest op a c))
  | _ => none

def isNilV : V → Option Bool
  | .ns => some true
  | .zs => some false
  | .rw _ _ _ => some false
  | .tl _ _ es => match qnil es with | true => none | false => some false
  | _ => none

def binV (op : BinOp) (x y : V) : Option V :=
  match x with
  | .i k a => match y with
    | .i k' c => match op with
      | .shl | .shr => match qshOk k c with | true => some (.i k (qbin op k a c)) | false => none
      | _ => if k = k' then intBin op k a c else none
    | _ => none
  | .s a => match y with
    | .s c => match op with
      | .add => match qsroom a c with | true => some (.s (qsapp a c)) | false => none
      | .eql => some (.b (qseq a c))
      | .neq => some (.b (!(qseq a c)))
      | _ => none
    | _ => none
  | _ => none

def binBV (op : BinOp) (x y : V) : Option V :=
  match x, y with
  | .b a, .b c => match op with
    | .eql => some (.b (a == c))
    | .neq => some (.b (!(a == c)))
    | _ => none
  | _, _ => none

def binNV (op : BinOp) (x y : V) : Option V :=
  match y with
  | .ns => match op with
    | .eql => (isNilV x).map .b
    | .neq => (isNilV x).map fun t => .b (!t)
    | _ => none
  | _ => none

def qieq (a c : Int) : Bool := a == c
def eqIs : List V → List V → Option Bool
  | [], [] => some true
  | .i k a :: cs, .i k' c :: ds => if k = k' then (eqIs cs ds).map fun r => (qieq a c && r) else none
  | _, _ => none
def binAV (op : BinOp) (nf : Nat) (x y : V) : Option V :=
  match x, y with
  | .agg cs, .agg ds => if cs.length = nf ∧ ds.length = nf then match op with
      | .eql => (eqIs cs ds).map .b
      | .neq => (eqIs cs ds).map fun t => .b (!t)
      | _ => none
    else none
  | _, _ => none

def unV (op : UnOp) (x : V) : Option V :=
  match op, x with
  | .not, .b t => match t with | true => some (.b false) | false => some (.b true)
  | .neg, .i k n => some (.i k (qneg k n))
  | _, _ => none

def lenV (str : Bool) (x : V) : Option V :=
  match str with
  | true => match x with
    | .s t => some (.i .i64 (qofN (qslen t)))
    | _ => none
  | false => match x with
    | .rw _ _ n => some (.i .i64 (qofN n))
    | .sl _ _ _ _ len => some (.i .i64 (qofN len))
    | .tl _ _ es => some (.i .i64 (qofN (qlen es)))
    | .ns | .zs => some (.i .i64 0)
    | _ => none

def bestV (mn : Bool) : V → List V → Option V
  | .i k a, [] => some (.i k a)
  | .i k a, .i k' c :: vs => if k = k' then bestV mn (.i k (qbest mn a c)) vs else none
  | _, _ => none

/-- Operations that look at no memory. -/
def lightV (o : RO) (t : List V) : Option V :=
  match o with
  | .mv x => some (rv t x)
  | .pick c x y => match rv t c with
    | .b q => match q with | true => some (rv t x) | false => some (rv t y)
    | _ => none
  | .build zero ps => (fillCs (ps.map fun q => (q.1, q.2.1, rv t q.2.2)) zero).map .agg
  | .nilc x => match rv t x with
    | .p r z n i o => some (.p r z n i o)
    | .pe cs => some (.pe cs)
    | .fn f caps => some (.fn f caps)
    | _ => none
  | .bin op x y => binV op (rv t x) (rv t y)
  | .binB op x y => binBV op (rv t x) (rv t y)
  | .binN op x y => binNV op (rv t x) (rv t y)
  | .binA op nf x y => binAV op nf (rv t x) (rv t y)
  | .unop op x => unV op (rv t x)
  | .cvtI k x => match rv t x with
    | .i _ n => some (.i k (qcvt k n))
    | _ => none
  | .mkf f caps => some (.fn f (caps.map (rv t)))
  | .cutL z x lo hi mx => cutLV z (rv t x) (lo.map (rv t)) (hi.map (rv t)) (mx.map (rv t))
  | .cutS x lo hi => cutSV (rv t x) (lo.map (rv t)) (hi.map (rv t))
  | .fa off x => fieldA off (rv t x)
  | .fv off z ag x => fieldV off z ag (rv t x)
  | .ia z x ix => indexA z (rv t x) (rv t ix)
  | .is x ix => indexS (rv t x) (rv t ix)
  | .ext x ix => match rv t x with
    | .tup vs => vs[ix]?
    | _ => none
  | .len str x => lenV str (rv t x)
  | .best mn xs => match xs.map (rv t) with
    | v :: vs => bestV mn v vs
    | [] => none
  | _ => none

def opV (o : RO) (t : List V) (H : Heap) : Option (V × Heap) :=
  match o with
  | .alloc T zero => allocV T zero H
  | .box T x => boxV T (rv t x) H
  | .buildS e z zero len ps => buildSliceV e z zero len (ps.map fun q => (q.1, rv t q.2)) H
  | .lit z zero len ps => (litV z zero len (ps.map fun q => (q.1, rv t q.2))).map fun v => (v, H)
  | .nul => some (.zs, H)
  | .load z ag a => (loadV z ag (rv t a) H).map fun v => (v, H)
  | .store z a x => (storeV z (rv t a) (rv t x) H).map fun H' => (.un, H')
  | .s2b x => match rv t x with
    | .s c => match qroom (qslen c) 1 with | true => some (.tl false 1 (qsbytes c), H) | false => none
    | _ => none
  | .b2s x => (elems H 1 (rv t x)).bind fun es => (qsof es).map fun c => (.s c, H)
  | .mkS e z by_ zero l c => makeSliceV e z by_ zero (rv t l) (rv t c) H
  | .app e z by_ s x => (elems H z (rv t x)).bind fun xs => appendV e z by_ (rv t s) xs H
  | .appS e by_ s x => match rv t x with
    | .s c => appendV e 1 by_ (rv t s) (qsbytes c) H
    | _ => none
  | .call _ _ => none
  | .bad => none
  | o => (lightV o t).map fun v => (v, H)

variable (C : Call1)

def putV (t : List V) (d : Option Nat) (v : V) : List V :=
  match d with
  | some n => t.set n v
  | none => t

/-- One operation, and what follows it. -/
def stepP (o : RO) (t : List V) (H : Heap) (K : V → Heap → Prop) : Prop :=
  match o with
  | .call f args => match rv t f with
    | .fn g caps => force (args.map (rv t) ++ caps) fun as => C g as H K
    | _ => False
  | o => match opV o t H with
    | some q => K q.1 q.2
    | none => False

def guardedP (o : RS) (t : List V) (H : Heap) (K : List V → Heap → Prop) : Prop :=
  match o.g with
  | none => stepP C o.o t H fun v H' => K (putV t o.d v) H'
  | some (d, want) => match t.getD d .un with
    | .b q => match want with
      | true => match q with
        | true => stepP C o.o t H fun v H' => K (putV t o.d v) H'
        | false => K (putV t o.d .un) H
      | false => match q with
        | true => K (putV t o.d .un) H
        | false => stepP C o.o t H fun v H' => K (putV t o.d v) H'
    | .un => K (putV t o.d .un) H
    | _ => False

def opsP : List RS → List V → Heap → (List V → Heap → Prop) → Prop
  | [], t, H, K => K t H
  | o :: rest, t, H, K => guardedP C o t H fun t' H' => opsP rest t' H' K

inductive Ex where
  | n | ret | ex (id : Nat)

def loopP (f : List V → Heap → (Ex → List V → Heap → Prop) → Prop) : Nat → List V → Heap → (Ex → List V → Heap → Prop) → Prop
  | 0, _, _, _ => False
  | k + 1, t, H, K => f t H fun e t' H' => match e with
    | .n => loopP f k t' H' K
    | e => K e t' H'

def runP (k : Nat) : RC → List V → Heap → (Ex → List V → Heap → Prop) → Prop
  | .skip, t, H, K => K .n t H
  | .reg ops, t, H, K => opsP C ops t H fun t' H' => K .n t' H'
  | .seq a c, t, H, K => runP k a t H fun e t' H' => match e with
    | .n => runP k c t' H' K
    | e => K e t' H'
  | .cond c a d, t, H, K => match rv t c with
    | .b q => match q with
      | true => runP k a t H K
      | false => runP k d t H K
    | _ => False
  | .block id c, t, H, K => runP k c t H fun e t' H' => match e with
    | .ex j => match Nat.beq j id with | true => K .n t' H' | false => K (.ex j) t' H'
    | e => K e t' H'
  | .loop c, t, H, K => loopP (runP k c) k t H K
  | .exit id, t, H, K => K (.ex id) t H
  | .ret, t, H, K => K .ret t H
  | .bad, _, _, _ => False

def resV (t : List V) (H : Heap) : Nat ⊕ (Nat × Nat × Bool) → Option V
  | .inl i => some (t.getD i .un)
  | .inr (a, z, ag) => loadV z ag (t.getD a .un) H

def resultsV (rs : List (Nat ⊕ (Nat × Nat × Bool))) (t : List V) (H : Heap) : Option V :=
  (allM (resV t H) rs).map fun vs => match vs with
    | [v] => v
    | vs => .tup vs

/-- The shape of a value that is sealed: 'at': one cell as it is; 'li': a slice whose elements have these cells; 'pt': a pointer to such cells. -/
inductive Sh where
  | at_ | li (cs : List Sh) | pt (cs : List Sh) | ag (cs : List Sh) | tu (cs : List Sh)

def plainV : V → Bool
  | .i _ _ | .b _ | .s _ | .np => true
  | .fn _ [] => true
  | _ => false

/-- A slice's elements, for a sealed call (rows may stand there where the results are kept). -/
def elemsIn (own lent : Bool) (H : Heap) (z : Nat) : V → Option (List (List V))
  | .rw r z' n => match own with | true => elems H z (.rw r z' n) | false => none
  | .sl r z' n off len => match own with | true => elems H z (.sl r z' n off len) | false => none
  | .tl w z' es => match w, lent with | true, false => none | _, _ => elems H z (.tl w z' es)
  | .ns | .zs => some []
  | _ => none

mutual
/-- A value with nothing of the heap in it: its slices are 'tl w'. -/
def sealV (w own lent : Bool) (H : Heap) : Sh → V → Option V
  | .at_, v => match plainV v with | true => some v | false => none
  | .li cs, v => (elemsIn own lent H cs.length v).bind fun es => (allM (sealCs w own lent H cs) es).map (.tl w cs.length)
  | .pt cs, v => match w, own, lent, v with
    | true, true, _, .p r z n i o => (row? H r).bind fun R => (elAt R z n i).bind fun c => (cut? c o cs.length).bind fun c => (sealCs w own lent H cs c).map .pe
    | true, _, true, .pe c => (sealCs w own lent H cs c).map .pe
    | _, _, _, _ => none
  | .ag cs, v => match v with | .agg c => (sealCs w own lent H cs c).map .agg | _ => none
  | .tu cs, v => match v with | .tup c => (sealCs w own lent H cs c).map .tup | _ => none
def sealCs (w own lent : Bool) (H : Heap) : List Sh → List V → Option (List V)
  | [], c => match c with | [] => some [] | _ => none
  | s :: ss, c => match c with
    | v :: vs => (sealV w own lent H s v).bind fun v' => (sealCs w own lent H ss vs).map (v' :: ·)
    | [] => none
end

def frame (fn : RF) (args : List V) : List V := args ++ List.replicate (fn.ntmps - args.length) .un

def endP (fn : RF) (K : V → Heap → Prop) (e : Ex) (t : List V) (H : Heap) : Prop :=
  match e with
  | .n | .ret => match resultsV fn.res t H with | some v => K v H | none => False
  | .ex _ => False

/-- The body of a call in the same heap. -/
def bodyP (k : Nat) (fn : RF) (args : List V) (H : Heap) (K : V → Heap → Prop) : Prop :=
  runP C k fn.body (frame fn args) H (endP fn K)
end

/-- How a function is called: 'lend': its arguments are lent (else they must be sealed for good); their shapes, its result's. -/
structure Sig where
  lend : Bool
  args : List Sh
  res : Sh

/-- Calls: a function that has a 'Sig' is called with a heap of its own; 'orc f': it is told, not run. -/
def callP (F : Nat → Option RF) (sig : Nat → Option Sig) (orc : Nat → Option Call1) : Nat → Call1
  | 0, _, _, _, _ => False
  | k + 1, f, args, H, K => match orc f with
    | some g => g f args H K
    | none => match F f with
      | none => False
      | some fn => match sig f with
        | none => bodyP (callP F sig orc k) k fn args H K
        | some sg => match sealCs sg.lend sg.lend sg.lend H sg.args args with
          | none => False
          | some as => bodyP (callP F sig orc k) k fn as [] fun v H' => match sealV false true false H' sg.res v with
            | some v' => K v' H
            | none => False

/-- Fields that are integers, one cell each, one behind the other from cell n on. -/
def eqFs (P : Program) : Nat → List Field → Bool
  | _, [] => true
  | n, f :: fs => (f.name != "_") && (Nat.beq f.offset n) && (match P.underlying f.type with | some (.int _) => true | _ => false) && eqFs P (n + 1) fs

/-- What the model says of a type. -/
def tiOf (P : Program) (T : TypeId) : Option TI :=
  match P.info? T, P.underlying T with
  | some i, some d => some
    { z := i.size
      by_ := i.bytes
      ag := match d with | .struct _ => true | .array _ _ => true | _ => false
      el := match d with | .slice e => some e | _ => none
      fs := match d with | .struct fs => fs.toList.map fun d => (d.type, d.offset) | _ => []
      zero := i.zero.map fun z => z.cells.toList.map ofC
      ik := match d with | .int k => some k | _ => none
      st := match d with | .string => true | _ => false
      bo := match d with | .bool => true | _ => false
      eqi := match d with | .struct fs => !P.stoodInHeld T && !P.eqGuardType P.depth T && eqFs P 0 fs.toList | _ => false }
  | _, _ => none

end Go.Am

/- What the machine's values and rows have to do with the model's. -/
namespace Go.Am

/-- Where a row lies: its block, an element's cells, how many elements it has, how many it has room for. -/
structure RI where
  g : Nat
  z : Nat
  len : Nat
  cap : Nat

/-- A block that nobody here writes; 'w = false': nor anybody outside. -/
def OkB (M : List RI) (J : Nat → Prop) (w : Bool) (g : Nat) : Prop := (∀ m ∈ M, m.g ≠ g) ∧ (w = false → ¬ J g)

inductive VR (w : World) (M : List RI) (J : Nat → Prop) : V → Value → Prop
  | junk (v : Value) : VR w M J .junk v
  | un : VR w M J .un undef
  | i (k : IntKind) (n : Int) : VR w M J (.i k n) (.int k n)
  | b (t : Bool) : VR w M J (.b t) (.bool t)
  | s (t : ByteArray) : VR w M J (.s t) (.string t)
  | np : VR w M J .np (.pointer none)
  | ns : VR w M J .ns (.slice none 0 0)
  | zs (a : Addr) : VR w M J .zs (.slice (some a) 0 0)
  | p (r z n i o : Nat) (m : RI) (a : Addr) (h : M[r]? = some m) (hz : m.z = z) (hn : n ≤ m.len) (ha : n = m.len → a = ⟨m.g, i * z + o, none⟩) : VR w M J (.p r z n i o) (.pointer (some a))
  | rw (r z n : Nat) (m : RI) (g c : Nat) (h : M[r]? = some m) (hz : m.z = z) (hn : n ≤ m.len) (hc : n ≤ c) (ha : n = m.len → g = m.g ∧ c = m.cap) : VR w M J (.rw r z n) (.slice (some ⟨g, 0, none⟩) n c)
  | sl (r z n off len : Nat) (m : RI) (g o c : Nat) (h : M[r]? = some m) (hz : m.z = z) (hn : n ≤ m.len) (hl : off + len ≤ n) (hc : len ≤ c) (ha : n = m.len → g = m.g ∧ (len = 0 ∨ o = off * z)) : VR w M J (.sl r z n off len) (.slice (some ⟨g, o, none⟩) len c)
  | tl (wl : Bool) (z : Nat) (es : List (List V)) (a : Option Addr) (c g o : Nat) (f : Nat → Nat → Value) (ha : es ≠ [] → a = some ⟨g, o, none⟩ ∧ OkB M J wl g ∧ 0 < z) (hc : es.length ≤ c)
      (hz : ∀ (i : Nat) (cs : List V), es[i]? = some cs → cs.length = z) (h : ∀ (i j : Nat) (cs : List V) (x : V), es[i]? = some cs → cs[j]? = some x → w.cell? ⟨g, o + (i * z + j), none⟩ = some (f i j) ∧ (f i j).oneCell' = true)
      (hv : ∀ (i j : Nat) (cs : List V) (x : V), es[i]? = some cs → cs[j]? = some x → VR w M J x (f i j)) : VR w M J (.tl wl z es) (.slice a es.length c)
  | pe (cs : List V) (g o : Nat) (f : Nat → Value) (ha : cs ≠ [] → OkB M J true g) (h : ∀ (j : Nat) (x : V), cs[j]? = some x → w.cell? ⟨g, o + j, none⟩ = some (f j))
      (hv : ∀ (j : Nat) (x : V), cs[j]? = some x → VR w M J x (f j)) : VR w M J (.pe cs) (.pointer (some ⟨g, o, none⟩))
  | agg (cs : List V) (vs : List Value) (hl : vs.length = cs.length) (hv : ∀ (j : Nat) (x : V) (v : Value), cs[j]? = some x → vs[j]? = some v → VR w M J x v) : VR w M J (.agg cs) (.agg vs.toArray)
  | tup (cs : List V) (vs : List Value) (hl : vs.length = cs.length) (hv : ∀ (j : Nat) (x : V) (v : Value), cs[j]? = some x → vs[j]? = some v → VR w M J x v) : VR w M J (.tup cs) (.tuple vs.toArray)
  | fn (f : Nat) (cs : List V) (vs : List Value) (hl : vs.length = cs.length) (hv : ∀ (j : Nat) (x : V) (v : Value), cs[j]? = some x → vs[j]? = some v → VR w M J x v) : VR w M J (.fn f cs) (.func (.func f) #[] vs.toArray)

/-- How a world goes on: only the rows of M are written. -/
structure Goes (w : World) (M : List RI) (w' : World) (M' : List RI) : Prop where
  pre : ∀ (r : Nat) (m : RI), M[r]? = some m → ∃ m', M'[r]? = some m' ∧ m'.z = m.z ∧ (m' = m ∨ m.len < m'.len)
  size : w.heap.size ≤ w'.heap.size
  kept : ∀ g, g < w.heap.size → (∀ m ∈ M, m.g ≠ g) → w'.heap[g]? = w.heap[g]?
  new : ∀ m ∈ M', (∃ m0 ∈ M, m0.g = m.g) ∨ w.heap.size ≤ m.g
  os : w'.os = w.os
  tape : w'.tape = w.tape
  output : w'.output = w.output

theorem Goes.refl (w : World) (M : List RI) : Goes w M w M :=
  ⟨fun r m h => ⟨m, h, rfl, .inl rfl⟩, Nat.le_refl _, fun _ _ _ => rfl, fun m hm => .inl ⟨m, hm, rfl⟩, rfl, rfl, rfl⟩

theorem Goes.trans {w w1 w2 : World} {M M1 M2 : List RI} (h1 : Goes w M w1 M1) (h2 : Goes w1 M1 w2 M2) : Goes w M w2 M2 := by
  refine ⟨fun r m h => ?_, Nat.le_trans h1.size h2.size, ?_, ?_, h2.os.trans h1.os, h2.tape.trans h1.tape, h2.output.trans h1.output⟩
  · obtain ⟨m1, e1, z1, l1⟩ := h1.pre r m h
    obtain ⟨m2, e2, z2, l2⟩ := h2.pre r m1 e1
    refine ⟨m2, e2, z2.trans z1, ?_⟩
    rcases l1 with rfl | l1 <;> rcases l2 with rfl | l2
    · exact .inl rfl
    · exact .inr l2
    · exact .inr l1
    · exact .inr (Nat.lt_trans l1 l2)
  · intro g hg hM
    rw [h2.kept g (Nat.lt_of_lt_of_le hg h1.size) ?_, h1.kept g hg hM]
    intro m hm he
    rcases h1.new m hm with ⟨m0, h0, e0⟩ | h
    · exact hM m0 h0 (e0.trans he)
    · omega
  · intro m hm
    rcases h2.new m hm with ⟨m1, h1m, e1⟩ | h
    · rcases h1.new m1 h1m with ⟨m0, h0, e0⟩ | h'
      · exact .inl ⟨m0, h0, e0.trans e1⟩
      · exact .inr (by omega)
    · exact .inr (Nat.le_trans h1.size h)

theorem lt_of_cell {w : World} {a : Addr} {v : Value} (h : w.cell? a = some v) : a.block < w.heap.size := World.block_lt_of_cell? w a h

theorem Goes.okB {w w' : World} {M M' : List RI} {J : Nat → Prop} (h : Goes w M w' M') {b : Bool} {g : Nat} (hb : OkB M J b g) (hg : g < w.heap.size) : OkB M' J b g := by
  refine ⟨fun m hm he => ?_, hb.2⟩
  rcases h.new m hm with ⟨m0, h0, e0⟩ | h
  · exact hb.1 m0 h0 (e0.trans he)
  · omega

theorem Goes.cell {w w' : World} {M M' : List RI} {J : Nat → Prop} (h : Goes w M w' M') {b : Bool} {g o : Nat} {v : Value} (hb : OkB M J b g) (hc : w.cell? ⟨g, o, none⟩ = some v) : w'.cell? ⟨g, o, none⟩ = some v := by
  rw [World.cell?_of_block (h.kept g (lt_of_cell hc) hb.1)]
  exact hc

theorem VR.goes {w w' : World} {M M' : List RI} {J : Nat → Prop} (hg : Goes w M w' M') {x : V} {v : Value} (h : VR w M J x v) : VR w' M' J x v := by
  induction h with
  | junk v => exact .junk v
  | un => exact .un
  | i k n => exact .i k n
  | b t => exact .b t
  | s t => exact .s t
  | np => exact .np
  | ns => exact .ns
  | zs a => exact .zs a
  | p r z n i o m a h hz hn ha =>
    obtain ⟨m', h', z', l'⟩ := hg.pre r m h
    refine .p r z n i o m' a h' (z'.trans hz) ?_ ?_ <;> rcases l' with rfl | l'
    · exact hn
    · omega
    · exact ha
    · intro e; omega
  | rw r z n m g c h hz hn hc ha =>
    obtain ⟨m', h', z', l'⟩ := hg.pre r m h
    refine .rw r z n m' g c h' (z'.trans hz) ?_ hc ?_ <;> rcases l' with rfl | l'
    · exact hn
    · omega
    · exact ha
    · intro e; omega
  | sl r z n off len m g o c h hz hn hl hc ha =>
    obtain ⟨m', h', z', l'⟩ := hg.pre r m h
    refine .sl r z n off len m' g o c h' (z'.trans hz) ?_ hl hc ?_ <;> rcases l' with rfl | l'
    · exact hn
    · omega
    · exact ha
    · intro e; omega
  | tl wl z es a c g o f ha hc hz h hv ih =>
    have hne : ∀ (i : Nat) cs, es[i]? = some cs → es ≠ [] := fun i cs hi he => by subst he; simp at hi
    refine .tl wl z es a c g o f (fun hn => ?_) hc hz (fun i j cs x hi hj => ⟨hg.cell (ha (hne _ _ hi)).2.1 (h i j cs x hi hj).1, (h i j cs x hi hj).2⟩) ih
    obtain ⟨h1, h2, h3⟩ := ha hn
    refine ⟨h1, hg.okB h2 ?_, h3⟩
    obtain ⟨cs, rest, rfl⟩ := List.exists_cons_of_ne_nil hn
    have hl := hz 0 cs rfl
    have hj : 0 < cs.length := by omega
    exact lt_of_cell (h 0 0 cs cs[0] rfl (List.getElem?_eq_getElem hj)).1
  | pe cs g o f ha h hv ih =>
    have hne : ∀ (i : Nat) x, cs[i]? = some x → cs ≠ [] := fun i cs hi he => by subst he; simp at hi
    refine .pe _ g o f (fun hn => ?_) (fun j x hj => hg.cell (ha (hne _ _ hj)) (h j x hj)) ih
    obtain ⟨c, rest, rfl⟩ := List.exists_cons_of_ne_nil hn
    exact hg.okB (ha hn) (lt_of_cell (h 0 c rfl))
  | agg cs vs hl hv ih => exact .agg cs vs hl ih
  | tup cs vs hl hv ih => exact .tup cs vs hl ih
  | fn f cs vs hl hv ih => exact .fn f cs vs hl ih

/-- The cells of a row's elements. -/
def Elems (w : World) (M : List RI) (J : Nat → Prop) (z : Nat) (es : List (List V)) (cur : Array Value) : Prop :=
  ∀ (i : Nat) (c : List V), es[i]? = some c → c.length = z ∧ ∀ (j : Nat) (x : V), c[j]? = some x → ∃ v, cur[i * z + j]? = some v ∧ VR w M J x v ∧ v.oneCell' = true

theorem Elems.goes {w w' : World} {M M' : List RI} {J : Nat → Prop} (hg : Goes w M w' M') {z : Nat} {es : List (List V)} {cur : Array Value} (h : Elems w M J z es cur) : Elems w' M' J z es cur :=
  fun i c hi => ⟨(h i c hi).1, fun j x hj => let ⟨v, h1, h2, h3⟩ := (h i c hi).2 j x hj; ⟨v, h1, h2.goes hg, h3⟩⟩

structure RowR (w : World) (M : List RI) (J : Nat → Prop) (m : RI) (R : Row) (cur : Array Value) : Prop where
  z : m.z = R.z
  len : m.len = R.es.length
  pos : 0 < R.z
  heap : w.heap[m.g]? = some (.cells cur R.e (0, 0))
  le : m.len ≤ m.cap
  max : m.cap ≤ maxLen
  size : cur.size = m.cap * m.z
  els : Elems w M J R.z R.es cur
  one : R.bx = true → R.es.length = 1

structure HR (w : World) (M : List RI) (J : Nat → Prop) (H : Heap) : Prop where
  len : H.length = M.length
  row : ∀ (r : Nat) (R : Row), H[r]? = some R → ∃ (m : RI) (cur : Array Value), M[r]? = some m ∧ RowR w M J m R cur
  inj : ∀ (r r' : Nat) (m m' : RI), M[r]? = some m → M[r']? = some m' → m.g = m'.g → r = r'
  blk : ∀ m ∈ M, m.g < w.heap.size ∧ ¬ J m.g
  jlt : ∀ g, J g → g < w.heap.size

end Go.Am

/- The machine's control is sound, if its operations are. -/
namespace Go.Am

def TR (w : World) (M : List RI) (J : Nat → Prop) (t : List V) (a : Act) : Prop :=
  a.defers = [] ∧ t.length = a.tmps.size ∧ ∀ n, VR w M J (t.getD n .un) (a.tmps.getD n undef)

theorem TR.goes {w w' : World} {M M' : List RI} {J : Nat → Prop} {t : List V} {a : Act} (h : TR w M J t a) (hg : Goes w M w' M') : TR w' M' J t a :=
  ⟨h.1, h.2.1, fun n => (h.2.2 n).goes hg⟩

theorem TR.put {w : World} {M : List RI} {J : Nat → Prop} {t : List V} {a : Act} (h : TR w M J t a) (d : Option Nat) {x : V} {v : Value} (hv : VR w M J x v) : TR w M J (putV t d x) (a.put d v) := by
  cases d with
  | none => exact h
  | some d =>
    refine ⟨h.1, by simp [putV, Act.put, h.2.1], fun n => ?_⟩
    have hn := h.2.2 n
    simp only [putV, Act.put]
    rw [List.getD_eq_getElem?_getD, Array.getD_eq_getD_getElem?] at hn ⊢
    rw [List.getElem?_set, Array.getElem?_setIfInBounds]
    by_cases e : d = n
    · subst e
      have hl := h.2.1
      by_cases hd : d < t.length
      · have hd' : d < a.tmps.size := by omega
        simp [hd, hd']; exact hv
      · have hd' : ¬ d < a.tmps.size := by omega
        simp [hd, hd']; exact .un
    · simp [e]; exact hn

theorem TR.rv {w : World} {M : List RI} {J : Nat → Prop} {t : List V} {a : Act} (h : TR w M J t a) (x : Operand) : VR w M J (rv t (rx x)) (a.eval x) := by
  cases x with
  | tmp n => exact h.2.2 n
  | const v =>
    simp only [rx, Go.Am.rv, Act.eval]
    unfold ofC
    split <;> first | exact .i _ _ | exact .b _ | exact .s _ | exact .np | exact .ns | exact .junk _
  | global g => exact .junk _
  | func f => exact .fn f [] [] rfl (by simp)

/-- What holds at the end of a part: the machine's state is one that K takes. -/
def Post (K : List V → Heap → Prop) (J : Nat → Prop) (w : World) (M : List RI) (a' : Act) (w' : World) : Prop :=
  ∃ t' H' M', K t' H' ∧ HR w' M' J H' ∧ TR w' M' J t' a' ∧ Goes w M w' M'

/-- Operations are sound. -/
def OpOk (P : Program) (T : Types) : Prop :=
  ∀ (lit : Bool) (o : Oper) (a : Act) (w : World) (M : List RI) (J : Nat → Prop) (t : List V) (H : Heap) (v : V) (H' : Heap), opV (resL lit (resO T o.op)) t H = some (v, H') → HR w M J H → TR w M J t a →
    ∃ x w' M', (execOp a.eval o).run P w = .ok x w' ∧ ((∃ u, x = .value u ∧ VR w' M' J v u) ∨ (x = .skip ∧ v = .un)) ∧ HR w' M' J H' ∧ Goes w M w' M'

def Good (P : Program) (f : Nat) : Prop := ∃ fn c, P.funcs[f]? = some fn ∧ (fn.name == "runtime.NumGoroutine") = false ∧ fn.body = some c

/-- What a call brings about. -/
def CPost (K : V → Heap → Prop) (J : Nat → Prop) (w : World) (M : List RI) : Ending → World → Prop
  | .returned u, w' => ∃ v H' M', K v H' ∧ HR w' M' J H' ∧ VR w' M' J v u ∧ Goes w M w' M'
  | _, _ => False

/-- Calls are sound. -/
def CallOk (P : Program) (C : Call1) : Prop :=
  ∀ (f : Nat) (args : List V) (H : Heap) (K : V → Heap → Prop) (w : World) (M : List RI) (J : Nat → Prop) (vals : Array Value), C f args H K → HR w M J H → args.length = vals.size →
    (∀ (n : Nat) (x : V) (v : Value), args[n]? = some x → vals[n]? = some v → VR w M J x v) → Good P f ∧ Calls P f vals w (CPost K J w M)

theorem force_eq {α : Type} : ∀ (l : List V) (K : List V → α), force l K = K l
  | [], _ => rfl
  | v :: l, K => by simp only [force]; rw [force_eq l]

/-- An operation that is a call to a value. -/
theorem resO_call {T : Types} {o : Op} {f : RX} {args : List RX} (h : resO T o = .call f args) : ∃ c x, o = .call c ∧ c.callee = .value x ∧ f = rx x ∧ args = c.args.toList.map rx := by
  have ob : ∀ q : Option RO, orBad q = .call f args → q = some (.call f args) := by
    intro q hq
    cases q with
    | none => cases hq
    | some r => exact congrArg some hq
  cases o with
  | call c =>
    simp only [resO] at h
    cases hc : c.callee with
    | value x =>
      simp only [hc, RO.call.injEq] at h
      exact ⟨c, x, rfl, hc, h.1.symm, h.2.symm⟩
    | invoke r m => simp [hc] at h
    | builtin b =>
      exfalso
      simp only [hc] at h
      unfold resB at h
      split at h
      · split at h
        · split at h
          · cases h
          · split at h <;> cases h
        · cases h
      · cases h
      · cases h
      · split at h
        · have := ob _ h
          simp only [Option.bind_eq_some_iff] at this
          obtain ⟨_, _, _, _, _, _, _, _, h⟩ := this
          split at h
          · cases h
          · split at h <;> cases h
        · cases h
      · cases h
  | move x => cases h
  | assign x => cases h
  | pick c a b => cases h
  | alloc e => have := ob _ h; simp only [Option.map_eq_some_iff] at this; obtain ⟨_, _, h⟩ := this; cases h
  | box e v => cases h
  | build e v => have := ob _ h; simp only [Option.bind_eq_some_iff, Option.map_eq_some_iff] at this; obtain ⟨_, _, _, _, _, _, h⟩ := this; cases h
  | buildSlice e l v => have := ob _ h; simp only [Option.bind_eq_some_iff, Option.map_eq_some_iff] at this; obtain ⟨_, _, _, _, _, _, h⟩ := this; cases h
  | load e v => have := ob _ h; simp only [Option.map_eq_some_iff] at this; obtain ⟨_, _, h⟩ := this; cases h
  | store e v x => have := ob _ h; simp only [Option.map_eq_some_iff] at this; obtain ⟨_, _, h⟩ := this; cases h
  | nilCheck x => cases h
  | binOp op t x y u =>
    simp only [resO] at h
    split at h
    · cases h
    · split at h
      · cases h
      · split at h <;> cases h
  | unOp op t x => cases h
  | convert s d x =>
    simp only [resO] at h
    split at h
    · cases h
    · split at h
      · cases h
      · split at h <;> cases h
  | makeFunc fn first cap =>
    cases fn with
    | func g =>
      simp only [resO] at h
      split at h <;> cases h
    | _ => cases h
  | makeSlice e l c => have := ob _ h; simp only [Option.bind_eq_some_iff, Option.map_eq_some_iff] at this; obtain ⟨_, _, _, _, _, _, _, _, h⟩ := this; cases h
  | slice e x l hh m =>
    simp only [resO] at h
    split at h
    · have := ob _ h; simp only [Option.map_eq_some_iff] at this; obtain ⟨_, _, h⟩ := this; cases h
    · split at h <;> cases h
  | fieldAddr e x f =>
    have := ob _ h
    simp only [Option.bind_eq_some_iff] at this
    obtain ⟨_, _, _, _, h⟩ := this
    split at h <;> cases h
  | field e x f => have := ob _ h; simp only [Option.bind_eq_some_iff, Option.map_eq_some_iff] at this; obtain ⟨_, _, _, _, h⟩ := this; cases h
  | indexAddr e x f => have := ob _ h; simp only [Option.bind_eq_some_iff, Option.map_eq_some_iff] at this; obtain ⟨_, _, _, _, h⟩ := this; cases h
  | index e x f =>
    simp only [resO] at h
    split at h <;> cases h
  | extract x i => cases h
  | _ => cases h

theorem resL_eq (lit : Bool) (r : RO) : resL lit r = r ∨ ∃ e z zero len ps, r = .buildS e z zero len ps ∧ ((resL lit r = .nul ∧ len = 0 ∧ ps = []) ∨ (resL lit r = .lit z zero len ps ∧ 0 < len)) := by
  cases r <;> try (exact .inl rfl)
  rename_i e z zero len ps
  cases len with
  | zero =>
    cases ps with
    | nil => exact .inr ⟨_, _, _, _, _, rfl, .inl ⟨rfl, rfl, rfl⟩⟩
    | cons p ps => exact .inl rfl
  | succ len =>
    cases lit with
    | true => exact .inr ⟨_, _, _, _, _, rfl, .inr ⟨rfl, Nat.succ_pos _⟩⟩
    | false => exact .inl rfl

theorem resL_call {lit : Bool} {r : RO} {f : RX} {args : List RX} (h : resL lit r = .call f args) : r = .call f args := by
  rcases resL_eq lit r with e | ⟨_, _, _, _, _, _, ⟨e, _⟩ | ⟨e, _⟩⟩
  · rw [← e]; exact h
  · rw [e] at h; cases h
  · rw [e] at h; cases h

section
variable {P : Program} {T : Types} {C : Call1} {J : Nat → Prop} {Q : Exit → Act → World → Prop}

theorem resolve_value {ρ : Operand → Value} {c : Call} {ty : TypeId} {x : Operand} {f : Nat} {cap : Array Value} (hc : c.callee = .value x) (hx : ρ x = .func (.func f) #[] cap) (w : World) :
    (resolve ρ c ty).run P w = .ok { target := .fn (.func f) cap, args := c.args.map ρ } w := by
  simp [resolve, hc, hx, Deferred.ofValue]

theorem callFunc_good {f : Nat} (h : Good P f) (args : Array Value) (w : World) : (callFunc f args).run P w = .ok (.enter f args) w := by
  obtain ⟨fn, c, h1, h2, h3⟩ := h
  have h2' : ¬ fn.name = "runtime.NumGoroutine" := by simpa using h2
  simp [callFunc, h1, h2', h3]

theorem step_sound (hO : OpOk P T) (hC : CallOk P C) (lit : Bool) (o : Oper) {t : List V} {H : Heap} {K : V → Heap → Prop} {a : Act} {w : World} {M : List RI} (hh : HR w M J H) (ht : TR w M J t a)
    (h : stepP C (resL lit (resO T o.op)) t H K) : o.wp P a w (fun a' w' => ∃ v u H' M', K v H' ∧ HR w' M' J H' ∧ VR w' M' J v u ∧ a' = a.put o.dst u ∧ Goes w M w' M') Q := by
  by_cases hcall : ∃ f args, resL lit (resO T o.op) = .call f args
  · obtain ⟨f, args, he⟩ := hcall
    obtain ⟨c, x, ho, hc, rfl, rfl⟩ := resO_call (resL_call he)
    rw [he] at h
    simp only [stepP, force_eq] at h
    have hx := ht.rv x
    split at h
    · rename_i g caps hg
      rw [hg] at hx
      generalize hux : a.eval x = ux at hx
      cases hx with
      | fn _ _ vs hl hv =>
        have hr := resolve_value (P := P) (ty := o.type) hc hux w
        have hargs : (List.map (rv t) (List.map rx c.args.toList) ++ caps).length = (c.args.map a.eval ++ vs.toArray).size := by simp [hl]
        have hrel : ∀ (n : Nat) (y : V) (v : Value), (List.map (rv t) (List.map rx c.args.toList) ++ caps)[n]? = some y → (c.args.map a.eval ++ vs.toArray)[n]? = some v → VR w M J y v := by
          intro n y v hy hv'
          rw [List.getElem?_append] at hy
          rw [Array.getElem?_append] at hv'
          simp only [List.length_map, Array.length_toList, Array.size_map] at hy hv'
          split at hy
          · rename_i hn
            simp only [hn, if_true] at hv'
            simp only [List.map_map, List.getElem?_map, Option.map_eq_some_iff, Array.getElem?_toList, Array.getElem?_map] at hy hv'
            obtain ⟨q, hq, rfl⟩ := hy
            obtain ⟨q', hq', rfl⟩ := hv'
            rw [hq] at hq'
            cases hq'
            exact ht.rv q
          · rename_i hn
            simp only [hn, if_false] at hv'
            exact hv _ _ _ hy (by simpa using hv')
        obtain ⟨hgood, hcalls⟩ := hC g _ H K w M J _ h hh hargs hrel
        unfold Oper.wp execOp
        simp only [ho, Sem.run_bind, hr, Result.andThen_ok, invoke, callFunc_good hgood]
        rw [Oper.upon_enter]
        refine hcalls.mono fun e w' he => ?_
        cases e with
        | returned u =>
          obtain ⟨v, H', M', hK, hh', hv', hgo⟩ := he
          exact ⟨v, u, H', M', hK, hh', hv', rfl, hgo⟩
        | panicked ch => exact he.elim
        | outgrown => exact he.elim
    · exact h.elim
  · have : ∃ v H', opV (resL lit (resO T o.op)) t H = some (v, H') ∧ K v H' := by
      generalize resL lit (resO T o.op) = ro at *
      cases ro with
      | call f args => exact absurd ⟨f, args, rfl⟩ hcall
      | _ =>
        all_goals
          simp only [stepP] at h
          split at h
          · rename_i q hq; exact ⟨q.1, q.2, hq, h⟩
          · exact h.elim
    obtain ⟨v, H', hv, hK⟩ := this
    obtain ⟨x, w', M', hr, hx, hh', hgo⟩ := hO lit o a w M J t H v H' hv hh ht
    unfold Oper.wp
    rw [hr]
    rcases hx with ⟨u, rfl, hu⟩ | ⟨rfl, rfl⟩
    · exact ⟨v, u, H', M', hK, hh', hu, rfl, hgo⟩
    · exact ⟨.un, undef, H', M', hK, hh', .un, rfl, hgo⟩

/-- One operation with its guard, as the model carries it out. -/
theorem guarded_sound (hO : OpOk P T) (hC : CallOk P C) (lit : Bool) (ops : Array Oper) (o : Oper) {t : List V} {H : Heap} {K : List V → Heap → Prop} {a : Act} {w : World} {M : List RI} (hh : HR w M J H) (ht : TR w M J t a)
    (h : guardedP C (resS T lit ops o) t H K) :
    if Region.wanted o (yielded ops a.tmps) = true then o.wp P a w (Post K J w M) Q else Post K J w M (a.put o.dst undef) w := by
  have skip : K (putV t o.dst .un) H → Post K J w M (a.put o.dst undef) w := fun h => ⟨_, H, M, h, hh, ht.put _ .un, Goes.refl w M⟩
  have step : stepP C (resL lit (resO T o.op)) t H (fun v H' => K (putV t o.dst v) H') → o.wp P a w (Post K J w M) Q := fun h =>
    Oper.wp_mono (fun a' w' ⟨v, u, H', M', hK, hh', hv, he, hgo⟩ => ⟨_, H', M', hK, hh', he ▸ (ht.goes hgo).put _ hv, hgo⟩) (step_sound (Q := Q) hO hC lit o hh ht h)
  unfold guardedP resS at h
  unfold Region.wanted
  cases hg : o.guard with
  | none =>
    simp only [hg] at h
    simp only [if_true]
    exact step h
  | some g =>
    obtain ⟨j, want⟩ := g
    simp only [hg] at h
    cases hd : (ops[j]?).bind (·.dst) with
    | none =>
      simp only [hd] at h
      exact h.elim
    | some d =>
      simp only [hd] at h
      have hv := ht.2.2 d
      have hy : yielded ops a.tmps j = match a.tmps.getD d undef with | .bool q => some q | _ => none := by
        unfold yielded
        rw [hd, Option.bind_some, Array.getD_eq_getD_getElem?]
        cases a.tmps[d]? with
        | none => rfl
        | some v => cases v <;> rfl
      simp only [hy]
      split at h
      · rename_i q hq
        rw [hq] at hv
        generalize a.tmps.getD d undef = u at hv
        cases hv
        cases want <;> cases q <;> simp at h ⊢ <;> first | exact step h | exact skip h
      · rename_i hq
        rw [hq] at hv
        generalize a.tmps.getD d undef = u at hv
        cases hv
        simp [undef]
        exact skip h
      · exact h.elim

theorem Post.from {K : List V → Heap → Prop} {w0 w : World} {M0 M : List RI} {a : Act} {w' : World} (h0 : Goes w0 M0 w M) (h : Post K J w M a w') : Post K J w0 M0 a w' := by
  obtain ⟨t, H, M', h1, h2, h3, h4⟩ := h
  exact ⟨t, H, M', h1, h2, h3, h0.trans h4⟩

theorem ops_sound (hO : OpOk P T) (hC : CallOk P C) (lit : Bool) (ops : Array Oper) {K : List V → Heap → Prop} (w0 : World) (M0 : List RI) (hQ : ∀ a w, Post K J w0 M0 a w → Q .normal a w) :
    ∀ (l : List Nat) (os : List Oper), (∀ i ∈ l, i < ops.size) → os = l.filterMap (ops[·]?) → ∀ (t : List V) (H : Heap) (a : Act) (w : World) (M : List RI), Goes w0 M0 w M → HR w M J H → TR w M J t a →
      opsP C (os.map (resS T lit ops)) t H K → wpOps P ops Q l a w := by
  intro l
  induction l with
  | nil =>
    rintro os _ rfl t H a w M hgo hh ht h
    exact hQ a w ⟨t, H, M, h, hh, ht, hgo⟩
  | cons i rest ih =>
    rintro os hl rfl t H a w M hgo hh ht h
    have hi : i < ops.size := hl i (by simp)
    have ho : ops[i]? = some ops[i] := Array.getElem?_eq_getElem hi
    simp only [List.filterMap_cons, ho, List.map_cons, opsP] at h
    have hs := guarded_sound (Q := Q) hO hC lit ops ops[i] hh ht h
    have next : ∀ a' w', Post (fun t' H' => opsP C ((rest.filterMap (ops[·]?)).map (resS T lit ops)) t' H' K) J w M a' w' → wpOps P ops Q rest a' w' := by
      rintro a' w' ⟨t', H', M', hk, hh', ht', hgo'⟩
      exact ih _ (fun i hi => hl i (by simp [hi])) rfl t' H' a' w' M' (hgo.trans hgo') hh' ht' hk
    simp only [wpOps, ho]
    split
    · rename_i hw
      rw [if_pos hw] at hs
      exact .inl (Oper.wp_mono next hs)
    · rename_i hw
      rw [if_neg hw] at hs
      exact next _ _ hs
end

end Go.Am

/- Code and calls are sound. -/
namespace Go.Am
section
variable {P : Program} {T : Types} {C : Call1} {J : Nat → Prop}

def PostX (K : Ex → List V → Heap → Prop) (J : Nat → Prop) (w : World) (M : List RI) : Exit → Act → World → Prop
  | .normal, a', w' => Post (K .n) J w M a' w'
  | .ret, a', w' => Post (K .ret) J w M a' w'
  | .exit id, a', w' => Post (K (.ex id)) J w M a' w'
  | _, _, _ => False

theorem PostX.from {K : Ex → List V → Heap → Prop} {w0 w : World} {M0 M : List RI} {a : Act} {w' : World} {e : Exit} (h0 : Goes w0 M0 w M) (h : PostX K J w M e a w') : PostX K J w0 M0 e a w' := by
  cases e <;> first | exact Post.from h0 h | exact h

theorem loop_sound {c : Code} {f : List V → Heap → (Ex → List V → Heap → Prop) → Prop}
    (hf : ∀ (K : Ex → List V → Heap → Prop) (t : List V) (H : Heap) (a : Act) (w : World) (M : List RI), f t H K → HR w M J H → TR w M J t a → c.wp P (PostX K J w M) a w) (K : Ex → List V → Heap → Prop) :
    ∀ (n : Nat) (t : List V) (H : Heap) (a : Act) (w : World) (M : List RI), loopP f n t H K → HR w M J H → TR w M J t a → ∀ (b : Frame) (k : List Item) (cs : List Frame),
      ∃ e a' w', PostX K J w M e a' w' ∧ Arrives P (lone (b.at a (.code c :: .inLoop c :: k)) cs w) b k cs e a' w' := by
  intro n
  induction n with
  | zero => intro t H a w M h; exact h.elim
  | succ n ih =>
    intro t H a w M h hh ht b k cs
    simp only [loopP] at h
    obtain ⟨e, a₁, w₁, hq, harr⟩ := hf _ t H a w M h hh ht b (.inLoop c :: k) cs
    cases e with
    | normal =>
      obtain ⟨t1, H1, M1, hk, hh1, ht1, hg1⟩ := hq
      obtain ⟨e₂, a₂, w₂, hq₂, harr₂⟩ := ih t1 H1 a₁ w₁ M1 hk hh1 ht1 b k cs
      exact ⟨e₂, a₂, w₂, hq₂.from hg1, .of_steps (Steps.trans harr (.one step_inLoop)) harr₂⟩
    | exit id => exact ⟨.exit id, a₁, w₁, hq, .pass (x := .inLoop c) rfl (fun _ _ => .inl (by simp)) harr⟩
    | ret => exact ⟨.ret, a₁, w₁, hq, .pass (x := .inLoop c) rfl (fun _ _ => .inl (by simp)) harr⟩
    | goto l => exact hq.elim
    | panic ch => exact hq.elim
    | outgrown => exact hq.elim

theorem filterMap_range {α : Type} (l : List α) : (List.range l.length).filterMap (fun i => l[i]?) = l := by
  induction l with
  | nil => rfl
  | cons x l ih =>
    rw [List.length_cons, List.range_succ_eq_map, List.filterMap_cons]
    simp only [List.getElem?_cons_zero, List.filterMap_map]
    congr 1

theorem filterMap_all {α : Type} (a : Array α) : (List.range a.size).filterMap (fun i => a[i]?) = a.toList := by
  have := filterMap_range a.toList
  simpa using this

theorem run_sound (hO : OpOk P T) (hC : CallOk P C) (k : Nat) (c : Code) : ∀ (K : Ex → List V → Heap → Prop) (t : List V) (H : Heap) (a : Act) (w : World) (M : List RI),
    runP C k (resC T c) t H K → HR w M J H → TR w M J t a → c.wp P (PostX K J w M) a w := by
  induction c with
  | skip => intro K t H a w M h hh ht; exact wp_skip ⟨t, H, M, h, hh, ht, Goes.refl w M⟩
  | region id ops draw =>
    intro K t H a w M h hh ht
    cases draw with
    | true => exact h.elim
    | false =>
      refine wp_region (ops_sound hO hC false ops w M (fun a w h => h) (List.range ops.size) ops.toList (fun i hi => by simpa using hi) ?_ t H a w M (Goes.refl w M) hh ht h)
      exact (filterMap_all ops).symm
  | seq x y ihx ihy =>
    intro K t H a w M h hh ht
    simp only [resC, runP] at h
    refine wp_seq (wp_mono (ihx _ t H a w M h hh ht) fun e a' w' hq => ?_)
    cases e with
    | normal =>
      obtain ⟨t1, H1, M1, hk, hh1, ht1, hg1⟩ := hq
      exact wp_mono (ihy _ t1 H1 a' w' M1 hk hh1 ht1) fun e a w h => h.from hg1
    | _ => exact hq
  | cond c x y ihx ihy =>
    intro K t H a w M h hh ht
    simp only [resC, runP] at h
    have hc := ht.rv c
    split at h
    · rename_i q hq
      rw [hq] at hc
      generalize hu : a.eval c = u at hc
      cases hc
      refine wp_cond hu ?_
      cases q with
      | true => exact ihx K t H a w M h hh ht
      | false => exact ihy K t H a w M h hh ht
    · exact h.elim
  | block id c ih =>
    intro K t H a w M h hh ht
    simp only [resC, runP] at h
    refine wp_block (wp_mono (ih _ t H a w M h hh ht) fun e a' w' hq => ?_)
    cases e with
    | exit j =>
      simp only [Exit.inBlock]
      obtain ⟨t1, H1, M1, hk, hh1, ht1, hg1⟩ := hq
      by_cases hj : j = id
      · subst hj
        simp only [Nat.beq_refl] at hk
        simp only [if_true]
        exact ⟨t1, H1, M1, hk, hh1, ht1, hg1⟩
      · have : Nat.beq j id = false := by
          cases hb : Nat.beq j id with
          | false => rfl
          | true => exact absurd (Nat.eq_of_beq_eq_true hb) hj
        simp only [this] at hk
        simp only [hj, if_false]
        exact ⟨t1, H1, M1, hk, hh1, ht1, hg1⟩
    | _ => exact hq
  | loop c ih =>
    intro K t H a w M h hh ht b k' cs
    simp only [resC, runP] at h
    obtain ⟨e, a', w', hq, harr⟩ := loop_sound (P := P) (c := c) ih K k t H a w M h hh ht b k' cs
    exact ⟨e, a', w', hq, .of_steps (.one step_loop) harr⟩
  | exit id => intro K t H a w M h hh ht; exact wp_exit ⟨t, H, M, h, hh, ht, Goes.refl w M⟩
  | ret => intro K t H a w M h hh ht; exact wp_ret ⟨t, H, M, h, hh, ht, Goes.refl w M⟩
  | _ => intro K t H a w M h; exact h.elim

end
end Go.Am

/- What the machine's table of types says of the model's. -/
namespace Go.Am

def TypesOk (P : Program) (T : Types) : Prop := ∀ (t : Nat) (i : TI), T t = some i → tiOf P t = some i

section
variable {P : Program} {T : Types} (hT : TypesOk P T)

theorem tiOf_spec {t : Nat} {i : TI} (h : tiOf P t = some i) : ∃ info d, P.info? t = some info ∧ P.underlying t = some d ∧ i.z = info.size ∧ i.by_ = info.bytes ∧
    i.ag = (match d with | .struct _ => true | .array _ _ => true | _ => false) ∧ i.el = (match d with | .slice e => some e | _ => none) ∧
    i.fs = (match d with | .struct fs => fs.toList.map fun d => (d.type, d.offset) | _ => []) ∧ i.zero = info.zero.map (fun z => z.cells.toList.map ofC) ∧
    i.ik = (match d with | .int k => some k | _ => none) ∧ i.st = (match d with | .string => true | _ => false) ∧ i.bo = (match d with | .bool => true | _ => false) ∧
    i.eqi = (match d with | .struct fs => !P.stoodInHeld t && !P.eqGuardType P.depth t && eqFs P 0 fs.toList | _ => false) := by
  unfold tiOf at h
  split at h
  · rename_i info d h1 h2
    cases h
    exact ⟨info, d, h1, h2, rfl, rfl, rfl, rfl, rfl, rfl, rfl, rfl, rfl, rfl⟩
  · cases h

theorem sz_spec (hT : TypesOk P T) {ty z : Nat} (h : sz T ty = some z) : ∃ i, P.info? ty = some i ∧ i.size = z := by
  simp only [sz, Option.map_eq_some_iff] at h
  obtain ⟨i, hi, rfl⟩ := h
  obtain ⟨info, d, h1, h2, h3, _⟩ := tiOf_spec (hT _ _ hi)
  exact ⟨info, h1, h3.symm⟩

theorem bytesT_spec (hT : TypesOk P T) {ty z : Nat} (h : bytesT T ty = some z) : ∃ i, P.info? ty = some i ∧ i.bytes = z := by
  simp only [bytesT, Option.map_eq_some_iff] at h
  obtain ⟨i, hi, rfl⟩ := h
  obtain ⟨info, d, h1, h2, _, h3, _⟩ := tiOf_spec (hT _ _ hi)
  exact ⟨info, h1, h3.symm⟩

theorem zeroT_spec (hT : TypesOk P T) {ty : Nat} {zs : List V} (h : zeroT T ty = some zs) : ∃ i z, P.info? ty = some i ∧ i.zero = some z ∧ zs = z.cells.toList.map ofC := by
  simp only [zeroT, Option.bind_eq_some_iff] at h
  obtain ⟨i, hi, hz⟩ := h
  obtain ⟨info, d, h1, h2, _, _, _, _, _, h3, _⟩ := tiOf_spec (hT _ _ hi)
  rw [h3, Option.map_eq_some_iff] at hz
  obtain ⟨z, hz, rfl⟩ := hz
  exact ⟨info, z, h1, hz, rfl⟩

theorem elemT_spec (hT : TypesOk P T) {ty e : Nat} (h : elemT T ty = some e) : P.underlying ty = some (.slice e) := by
  simp only [elemT, Option.bind_eq_some_iff] at h
  obtain ⟨i, hi, hz⟩ := h
  obtain ⟨info, d, h1, h2, _, _, _, h3, _⟩ := tiOf_spec (hT _ _ hi)
  rw [h3] at hz
  cases d <;> simp at hz
  subst hz
  exact h2

theorem kindT_spec (hT : TypesOk P T) {ty : Nat} {k : IntKind} (h : kindT T ty = some k) : P.underlying ty = some (.int k) := by
  simp only [kindT, Option.bind_eq_some_iff] at h
  obtain ⟨i, hi, hz⟩ := h
  obtain ⟨info, d, h1, h2, _, _, _, _, _, _, h3, _⟩ := tiOf_spec (hT _ _ hi)
  rw [h3] at hz
  cases d <;> simp at hz
  subst hz
  exact h2

theorem isStringT_spec (hT : TypesOk P T) {ty : Nat} (h : isStringT T ty = true) : P.underlying ty = some .string := by
  unfold isStringT at h
  split at h
  · rename_i i hi
    obtain ⟨info, d, h1, h2, _, _, _, _, _, _, _, h3, _⟩ := tiOf_spec (hT _ _ hi)
    rw [h3] at h
    cases d <;> simp at h
    exact h2
  · cases h

theorem isBoolT_spec (hT : TypesOk P T) {ty : Nat} (h : isBoolT T ty = true) : P.underlying ty = some .bool := by
  unfold isBoolT at h
  split at h
  · rename_i i hi
    obtain ⟨info, d, h1, h2, _, _, _, _, _, _, _, _, h3, _⟩ := tiOf_spec (hT _ _ hi)
    rw [h3] at h
    cases d <;> simp at h
    exact h2
  · cases h

theorem eqiT_spec (hT : TypesOk P T) {ty n : Nat} (h : eqiT T ty = some n) : ∃ fs, P.underlying ty = some (.struct fs) ∧ fs.size = n ∧ P.stoodInHeld ty = false ∧ P.eqGuardType P.depth ty = false ∧ eqFs P 0 fs.toList = true := by
  unfold eqiT at h
  split at h
  · rename_i i hi
    split at h
    · rename_i he
      obtain ⟨info, d, h1, h2, _, _, _, _, h5, _, _, _, _, h3⟩ := tiOf_spec (hT _ _ hi)
      rw [h3] at he
      cases d with
      | struct fs =>
        simp only [Bool.and_eq_true, Bool.not_eq_true'] at he
        simp only [Option.some.injEq] at h
        rw [h5] at h
        exact ⟨fs, h2, by simpa using h, he.1.1, he.1.2, he.2⟩
      | _ => cases he
    · cases h
  · cases h

theorem isBytesT_spec (hT : TypesOk P T) {ty : Nat} (h : isBytesT T ty = true) : ∃ e, P.underlying ty = some (.slice e) ∧ P.underlying e = some (.int .u8) := by
  unfold isBytesT at h
  split at h
  · rename_i hk
    rw [Option.bind_eq_some_iff] at hk
    obtain ⟨e, h1, h2⟩ := hk
    exact ⟨e, elemT_spec hT h1, kindT_spec hT h2⟩
  · cases h

theorem fieldT_spec (hT : TypesOk P T) {S f ty off : Nat} (h : fieldT T S f = some (ty, off)) : ∃ fs fd, P.underlying S = some (.struct fs) ∧ fs[f]? = some fd ∧ fd.type = ty ∧ fd.offset = off := by
  simp only [fieldT, Option.bind_eq_some_iff] at h
  obtain ⟨i, hi, hz⟩ := h
  obtain ⟨info, d, h1, h2, _, _, _, _, h3, _⟩ := tiOf_spec (hT _ _ hi)
  rw [h3] at hz
  cases d <;> simp at hz
  obtain ⟨fd, hfd, h4, h5⟩ := hz
  exact ⟨_, fd, h2, hfd, h4, h5⟩

theorem isAggT_spec (hT : TypesOk P T) {ty z : Nat} (h : sz T ty = some z) (w : World) : (isAgg ty).run P w = .ok (isAggT T ty) w := by
  simp only [sz, Option.map_eq_some_iff] at h
  obtain ⟨i, hi, rfl⟩ := h
  obtain ⟨info, d, h1, h2, _, _, h3, _⟩ := tiOf_spec (hT _ _ hi)
  simp only [isAgg, Sem.run_bind, run_underlying h2, Result.andThen_ok, isAggT, hi, h3]
  cases d <;> rfl

theorem run_sizeOf {ty : Nat} {i : TypeInfo} (h : P.info? ty = some i) (w : World) : (sizeOf ty).run P w = .ok i.size w := by
  simp [sizeOf, typeInfo, h]

end
end Go.Am
