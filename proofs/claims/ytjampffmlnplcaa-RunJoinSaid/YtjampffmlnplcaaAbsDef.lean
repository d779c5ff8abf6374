/-
  The abstract machine: a deterministic evaluator of the model's code over data, in which a slice that nobody writes is a list. No statement of a seat is proved here.
-/
import Derived.WalkKit
import Derived.RangeFuncIn
import Derived.RangeFuncRecord
import Derived.RangeFuncLeaves
import Derived.OrdersIn
set_option linter.unusedVariables false
set_option linter.unusedSimpArgs false
namespace Go.Ab

structure Ref where
  d : Nat
  t : Nat
  g : Nat
  k : Nat := 0
deriving DecidableEq, Inhabited

/-- Abstract values. 'v': the same value on both sides (it bears no address). 'isl': a slice of memory that nobody writes any more. 'osl': a slice of a block of the call's own. -/
inductive AV where
  | v (x : Value)
  | agg (cs : List AV)
  | tup (vs : List AV)
  | isl (esz : Nat) (es : List AV) (cap : Option Nat)
  | osl (r : Ref) (off len : Nat) (cap : Option Nat)
  | fsl (esz : Nat) (es : List AV) (cap : Option Nat)
  | ptr (r : Ref) (i j : Nat)
  | iptr (esz : Nat) (es : List AV) (i j : Nat)
  | fn (f : Fn) (first captured : List AV)
  | ifc (t : TypeId) (x : AV)
  | yld (r : Ref)
  | mp (r : Ref)
  | lp (f : FuncId) (nt : Nat) (ps : List Tmp) (assign body : Code) (tm : List AV)

def AV.undef : AV := .v Go.undef
instance : Inhabited AV := ⟨AV.undef⟩

def AV.cells : AV → List AV
  | .agg cs => cs
  | x => [x]

/-- One cell's value. -/
def AV.one : AV → Bool
  | .v (.tuple _) | .v (.agg _) | .agg _ | .tup _ | .fsl .. | .lp .. => false
  | _ => true

/-- A block of cells; of size nought: an object (a loop over a function, under way). -/
structure Blk where
  esz : Nat
  es : List AV
  arr : Bool
  frz : Bool
deriving Inhabited

def scalar : Value → Bool
  | .bool _ | .int _ _ | .float _ _ | .complex _ _ _ | .string _ => true
  | .pointer none | .slice none 0 0 | .map none | .chan none | .nilFunc | .nilIface => true
  | .tuple vs => vs.isEmpty
  | _ => false

def ofScalar (x : Value) : Option AV := if scalar x then some (.v x) else none

def ofValue : Value → Option AV
  | .agg cs => (cs.toList.mapM ofScalar).map .agg
  | .func f first captured => if first.isEmpty && captured.isEmpty then some (.fn f [] []) else none
  | .tuple vs => if vs.isEmpty then some (.v (.tuple #[])) else (vs.toList.mapM ofScalar).map .tup
  | .iface t x => (ofScalar x).map (.ifc t)
  | x => ofScalar x

def unV : AV → Option Value
  | .v x => some x
  | _ => none

def toValue : AV → Option Value
  | .v x => some x
  | .agg cs => (cs.mapM unV).map fun l => .agg l.toArray
  | _ => none

/-- What a piece of the model yields, where it asks nothing of the world. -/
def pureRun {α : Type} (P : Program) : Sem α → Option α
  | .pure a => some a
  | .program k => pureRun P (k P)
  | .mark _ k => pureRun P k
  | _ => none

/- ## The heap -/
abbrev Heap := List (Ref × Option Blk)
abbrev Get := Ref → Option Blk

def Heap.get : Heap → Ref → Option Blk
  | [], _ => none
  | (r', b) :: h, r => if r' = r then b else Heap.get h r

/-- The next instance's number at a place. -/
def Heap.gen : Heap → Nat → Nat → Nat
  | [], _, _ => 0
  | (r', _) :: h, d, t => if r'.d = d ∧ r'.t = t then r'.g + 1 else Heap.gen h d t

def Heap.put : Heap → Ref → Option Blk → Heap
  | [], r, b => [(r, b)]
  | (r', b') :: h, r, b => if r' = r then (r, b) :: h else (r', b') :: Heap.put h r b

/- ## Temporaries -/
def tget : List AV → Nat → AV
  | [], _ => AV.undef
  | x :: _, 0 => x
  | _ :: l, n + 1 => tget l n

def tset : List AV → Nat → AV → List AV
  | [], 0, v => [v]
  | [], n + 1, v => AV.undef :: tset [] n v
  | _ :: l, 0, v => v :: l
  | x :: l, n + 1, v => x :: tset l n v

structure St where
  tm : List AV
  hp : Heap

/- ## Types -/
def tsize (P : Program) (t : TypeId) : Option Nat := (P.info? t).map (·.size)
def tbytes (P : Program) (t : TypeId) : Option Nat := (P.info? t).map (·.bytes)
def tzero (P : Program) (t : TypeId) : Option AV := ((P.info? t).bind (·.zero)).bind ofValue
def tagg (P : Program) (t : TypeId) : Option Bool := (P.underlying t).map fun | .struct _ | .array _ _ => true | _ => false
def tfield (P : Program) (t : TypeId) (f : Nat) : Option (Nat × TypeId) :=
  match P.underlying t with
  | some (.struct fs) => (fs[f]?).map fun x => (x.offset, x.type)
  | _ => none
def telem (P : Program) (t : TypeId) : Option TypeId :=
  match P.underlying t with
  | some (.slice e) => some e
  | _ => none
def tarr (P : Program) (t : TypeId) : Option (Nat × TypeId) :=
  match P.underlying t with
  | some (.array n e) => some (n, e)
  | _ => none

def guardO (b : Bool) : Option Unit := if b then some () else none

/-- The cells j .. j + n of an element. -/
def readAt (es : List AV) (i j n : Nat) (isAgg : Bool) : Option AV :=
  match es[i]? with
  | none => none
  | some e =>
    if isAgg then (if j + n ≤ e.cells.length ∧ 0 < n then some (.agg ((e.cells.drop j).take n)) else none) else e.cells[j]?

def patch (cs : List AV) (j : Nat) (new : List AV) : List AV := cs.take j ++ new ++ cs.drop (j + new.length)

def writeElem (e : AV) (j : Nat) (new : List AV) : Option AV :=
  match e with
  | .agg cs => if j + new.length ≤ cs.length then some (.agg (patch cs j new)) else none
  | _ => match j, new with
    | 0, [x] => some x
    | _, _ => none

def writeAt (es : List AV) (i j : Nat) (new : List AV) : Option (List AV) :=
  match es[i]? with
  | none => none
  | some e => (writeElem e j new).map fun e' => es.set i e'

/-- Deep reading: the value as it stands in memory that is not written from here on; which blocks it looks at. -/
def view (g : Get) : Nat → AV → Option AV
  | 0, _ => none
  | n + 1, x =>
    match x with
    | .v x => some (.v x)
    | .agg cs => (cs.mapM (view g n)).map .agg
    | .tup cs => (cs.mapM (view g n)).map .tup
    | .isl esz es cap => some (.isl esz es cap)
    | .fsl .. => none
    | .iptr esz es i j => some (.iptr esz es i j)
    | .osl r off len cap =>
      match g r with
      | some b => if b.arr = true ∧ off + len ≤ b.es.length then some (.isl b.esz ((b.es.drop off).take len) cap) else none
      | none => none
    | .ptr r i j =>
      match g r with
      | some b => if b.arr then some (.iptr b.esz b.es i j) else (b.es.mapM (view g n)).map fun es => .iptr b.esz es i j
      | none => none
    | .fn f a b => match a.mapM (view g n), b.mapM (view g n) with
      | some a, some b => some (.fn f a b)
      | _, _ => none
    | .ifc t x => (view g n x).map (.ifc t)
    | .yld _ | .mp _ | .lp .. => none

def viewRefs (g : Get) : Nat → AV → List Ref
  | 0, _ => []
  | n + 1, x =>
    match x with
    | .agg cs | .tup cs => cs.flatMap (viewRefs g n)
    | .osl r _ _ _ => [r]
    | .ptr r _ _ => r :: (match g r with | some b => if b.arr then [] else b.es.flatMap (viewRefs g n) | none => [])
    | .fn _ a b => a.flatMap (viewRefs g n) ++ b.flatMap (viewRefs g n)
    | .ifc _ x => viewRefs g n x
    | .mp r => [r]
    | _ => []

/-- No address at all: such a value hangs on no memory. -/
def flat : Nat → AV → Bool
  | 0, _ => false
  | n + 1, x =>
    match x with
    | .v _ => true
    | .agg cs | .tup cs => cs.all (flat n)
    | .ifc _ x => flat n x
    | .fn _ a b => a.all (flat n) && b.all (flat n)
    | _ => false

def freezeAll (H : Heap) : List Ref → Heap
  | [] => H
  | r :: rs => match H.get r with
    | some b => freezeAll (H.put r (some { b with frz := true })) rs
    | none => freezeAll H rs

def allFrz (g : Get) (rs : List Ref) : Bool := rs.all fun r => match g r with | some b => b.frz | none => false

def depth : Nat := 8

/- ## Operands -/
def evalO (tm : List AV) : Operand → Option AV
  | .tmp t => some (tget tm t)
  | .const v => ofValue v
  | .func f => some (.fn (.func f) [] [])
  | .global _ => none

def intOf : AV → Option Int
  | .v (.int _ n) => some n
  | _ => none

def boolOf : AV → Option Bool
  | .v (.bool b) => some b
  | _ => none

def roomB : Nat := 140737488355328

/-- The elements of what is appended or copied, and how many cells each has. -/
def elemsOf (g : Get) : AV → Option (Nat × List AV)
  | .v (.string s) => some (1, s.data.toList.map fun b => .v (.int .u8 b.toNat))
  | .isl esz es _ => some (esz, es)
  | .osl r off len _ => match g r with
    | some b => if b.arr = true ∧ off + len ≤ b.es.length then some (b.esz, (b.es.drop off).take len) else none
    | none => none
  | _ => none

/-- Slicing: low, high, max: where it begins and ends, and the capacity that is left. -/
def bounds (len : Nat) (cap : Option Nat) (lo hi mx : Option Int) : Option (Nat × Nat × Option Nat) :=
  match mx with
  | some m =>
    match hi with
    | some h => if 0 ≤ lo.getD 0 ∧ lo.getD 0 ≤ h ∧ h ≤ m ∧ m ≤ cap.getD len ∧ h ≤ len then some ((lo.getD 0).toNat, h.toNat, some (m.toNat - (lo.getD 0).toNat)) else none
    | none => none
  | none => if 0 ≤ lo.getD 0 ∧ lo.getD 0 ≤ hi.getD len ∧ hi.getD len ≤ len then some ((lo.getD 0).toNat, (hi.getD len).toNat, cap.map (· - (lo.getD 0).toNat)) else none

def optInt (tm : List AV) : Option Operand → Option (Option Int)
  | none => some none
  | some o => match (evalO tm o).bind intOf with
    | some n => some (some n)
    | none => none

def partAV (P : Program) (t : TypeId) (cs : List AV) (off : Nat) : Option AV :=
  match tagg P t, tsize P t with
  | some true, some n => if off + n ≤ cs.length then some (.agg ((cs.drop off).take n)) else none
  | some false, _ => cs[off]?
  | _, _ => none

def fillAV (place : Nat → Option (Nat × Nat)) (cells : List AV) : List (Nat × AV) → Option (List AV)
  | [] => some cells
  | (i, v) :: rest =>
    match place i with
    | none => none
    | some (off, size) =>
      if v.cells.length = size ∧ off + size ≤ cells.length then fillAV place (patch cells off v.cells) rest else none

def fieldPlaces (P : Program) (t : TypeId) (i : Nat) : Option (Nat × Nat) :=
  match tfield P t i with
  | some (off, ft) => (tsize P ft).map fun n => (off, n)
  | none => none

/-- The places of a struct's fields. -/
def placesOf (P : Program) (t : TypeId) : Option (List (Nat × Nat)) :=
  match P.underlying t with
  | some (.struct fs) => fs.toList.mapM fun f => (P.info? f.type).map fun i => (f.offset, i.size)
  | _ => none

def fillSlice (es : List AV) : List (Nat × AV) → Option (List AV)
  | [] => some es
  | (i, v) :: rest => if i < es.length then fillSlice (es.set i v) rest else none

def evalParts (tm : List AV) (ps : List (Nat × Operand)) : Option (List (Nat × AV)) :=
  ps.mapM fun (i, o) => (evalO tm o).map fun x => (i, x)

def prBin (P : Program) (op : BinOp) (t : TypeId) (xo yo : Operand) (x y : Value) : Option Value :=
  pureRun P (do eqGuard op t xo yo x y; binOp op t x y)

def lenAV : AV → Option Nat
  | .v (.slice none 0 0) => some 0
  | .isl _ es _ => some es.length
  | .osl _ _ n _ => some n
  | _ => none

def minmax (f : Value → Value → Sem Value) (P : Program) (args : List AV) : Option AV :=
  match args.mapM unV with
  | some (x :: rest) => (pureRun P (rest.foldlM f x)).bind ofScalar
  | _ => none

def byteOf : AV → Option UInt8
  | .v (.int .u8 n) => some (UInt8.ofNat n.toNat)
  | _ => none

/- ### The quiet operations, one by one: the value, and the blocks that it makes (at r, r + 1 ..) -/
abbrev QRes := Option (AV × List Blk)

def qVal (x : Option AV) : QRes := x.map (·, [])

def qPick (ev : Operand → Option AV) (c a b : Operand) : QRes :=
  match (ev c).bind boolOf with
  | some true => qVal (ev a)
  | some false => qVal (ev b)
  | none => none

def qAlloc (P : Program) (r : Ref) (e : TypeId) : QRes :=
  match tzero P e, tsize P e with
  | some z, some n => if z.cells.length = n ∧ z.cells.all AV.one ∧ 0 < n then some (.ptr r 0 0, [⟨n, [z], false, false⟩]) else none
  | _, _ => none

def qBox (P : Program) (r : Ref) (e : TypeId) (x : Option AV) : QRes :=
  match x, tsize P e with
  | some x, some n => if x.cells.length = n ∧ x.cells.all AV.one ∧ 0 < n then some (.ptr r 0 0, [⟨n, [x], false, false⟩]) else none
  | _, _ => none

def qBuild (P : Program) (t : TypeId) (vs : Option (List (Nat × AV))) : QRes :=
  match tzero P t, vs with
  | some (.agg z), some vs =>
    match tarr P t with
    | some (_, e) => match tsize P e with
      | some n => (fillAV (fun i => some (i * n, n)) z vs).map fun cs => (.agg cs, [])
      | none => none
    | none => match placesOf P t with
      | some ps => (fillAV (ps[·]?) z vs).map fun cs => (.agg cs, [])
      | none => none
  | _, _ => none

def viewParts (g : Get) (vs : List (Nat × AV)) : Option (List (Nat × AV)) := vs.mapM fun (i, x) => (view g depth x).map (i, ·)
def refsAll (g : Get) (xs : List AV) : List Ref := xs.flatMap (viewRefs g depth)

def mkSlice (P : Program) (g : Get) (t : TypeId) (n : Nat) (vs : List (Nat × AV)) : Option Blk :=
  match telem P t with
  | none => none
  | some e => match viewParts g vs, tzero P e, tsize P e with
    | some ws, some z, some s =>
      if 0 < s ∧ n * s ≤ 16777216 ∧ z.cells.length = s ∧ z.cells.all AV.one ∧ ws.all (fun p => p.2.cells.length = s && p.2.cells.all AV.one) then
        (fillSlice (List.replicate n z) ws).map fun es => ⟨s, es, true, false⟩
      else none
    | _, _, _ => none

/-- In a region that draws its order: at once memory that nobody writes. -/
def qBuildSlice (P : Program) (draw : Bool) (g : Get) (r : Ref) (t : TypeId) (n : Nat) (vs : Option (List (Nat × AV))) : QRes :=
  match vs with
  | none => none
  | some vs => if allFrz g (refsAll g (vs.map (·.2))) then (mkSlice P g t n vs).map fun b => (if draw then (.isl b.esz b.es (some n), []) else (.osl r 0 n (some n), [b])) else none

def qLoad (P : Program) (g : Get) (t : TypeId) (a : Option AV) : QRes :=
  match a, tagg P t, tsize P t with
  | some (.ptr r' i j), some ag, some n => match g r' with
    | some b => qVal (readAt b.es i j n ag)
    | none => none
  | some (.iptr _ es i j), some ag, some n => qVal (readAt es i j n ag)
  | _, _, _ => none

def qNil (x : Option AV) : QRes :=
  match x with
  | some (.ptr r' i j) => some (.ptr r' i j, [])
  | some (.iptr n es i j) => some (.iptr n es i j, [])
  | some (.fn (.func f) a b) => some (.fn (.func f) a b, [])
  | _ => none

/-- Is it a slice that is not nil? -/
def isSl : AV → Bool
  | .isl .. | .osl .. => true
  | _ => false

def nilSlice : AV → Bool
  | .v (.slice none 0 0) => true
  | _ => false

def qBin (P : Program) (op : BinOp) (t : TypeId) (xo yo : Operand) (x y : Option AV) : QRes :=
  match x, y with
  | some x, some y =>
    if isSl x && nilSlice y || isSl y && nilSlice x then
      match P.underlying t, op with
      | some (.slice _), .eql => some (.v (.bool false), [])
      | some (.slice _), .neq => some (.v (.bool true), [])
      | _, _ => none
    else
      match toValue x, toValue y with
      | some x, some y => qVal ((prBin P op t xo yo x y).bind ofScalar)
      | _, _ => none
  | _, _ => none

def qUn (P : Program) (op : UnOp) (x : Option AV) : QRes :=
  qVal (((x.bind unV).bind fun x => pureRun P (Op.unary op x)).bind ofScalar)

def isByteSlice (P : Program) (t : TypeId) : Bool :=
  match P.underlying t with
  | some (.slice e) => (match P.underlying e with | some (.int .u8) => true | _ => false)
  | _ => false
def isStr (P : Program) (t : TypeId) : Bool := match P.underlying t with | some .string => true | _ => false

def qConvert (P : Program) (g : Get) (r : Ref) (src dst : TypeId) (x : Option AV) : QRes :=
  match x with
  | some (.v (.slice none 0 0)) => if isByteSlice P src && isStr P dst then some (.v (.string .empty), []) else none
  | some (.v (.string s)) =>
    if isStr P src && isStr P dst then some (.v (.string s), [])
    else if isStr P src && isByteSlice P dst then
      (if s.size ≤ roomB then some (.osl r 0 s.size none, [⟨1, s.data.toList.map fun b => .v (.int .u8 b.toNat), true, false⟩]) else none)
    else none
  | some (.v x) => qVal ((pureRun P (Go.convert src dst x)).bind ofScalar)
  | some x => if isByteSlice P src && isStr P dst then
      match elemsOf g x with
      | some (_, es) => (es.mapM byteOf).map fun l => (.v (.string ⟨l.toArray⟩), [])
      | none => none
    else if src == dst && isByteSlice P src then
      match x with
      | .osl r' _ _ _ => if (g r').isSome then some (x, []) else none
      | _ => none
    else none
  | none => none

def qIface (P : Program) (t : TypeId) (x : Option AV) : QRes :=
  match P.underlying t with
  | some (.interface _) => none
  | some _ => x.map fun x => (.ifc t x, [])
  | none => none

def qFunc (f : Fn) (first captured : Option (List AV)) : QRes :=
  match first, captured with
  | some a, some b => some (.fn f a b, [])
  | _, _ => none

def qMake (P : Program) (r : Ref) (t : TypeId) (l c : Option AV) : QRes :=
  match telem P t, l.bind intOf, c.bind intOf with
  | some e, some l, some c => match tzero P e, tsize P e, tbytes P e with
    | some z, some s, some b =>
      if 0 ≤ l ∧ l ≤ c ∧ c * b ≤ roomB ∧ c ≤ 9223372036854775807 ∧ 0 < s ∧ z.cells.length = s ∧ z.cells.all AV.one then some (.osl r 0 l.toNat none, [⟨s, List.replicate l.toNat z, true, false⟩]) else none
    | _, _, _ => none
  | _, _, _ => none

def qSlice (P : Program) (g : Get) (t : TypeId) (x : Option AV) (lo hi mx : Option (Option Int)) : QRes :=
  match lo, hi, mx with
  | some lo, some hi, some mx =>
    match x with
    | some (.v (.slice none 0 0)) => if ((telem P t).bind (tsize P)).isSome then (bounds 0 (some 0) lo hi mx).map fun _ => (.v (.slice none 0 0), []) else none
    | some (.v (.string s)) => if isStr P t && mx.isNone then (bounds s.size none lo hi none).map fun (l, h, _) => (.v (.string (s.extract l h)), []) else none
    | some (.isl esz es cap) => if (telem P t).bind (tsize P) = some esz then (bounds es.length cap lo hi mx).map fun (l, h, c) => (.isl esz ((es.drop l).take (h - l)) c, []) else none
    | some (.osl r' off len cap) => (match g r' with
      | some b => if (telem P t).bind (tsize P) = some b.esz then (bounds len cap lo hi mx).map fun (l, h, c) => (.osl r' (off + l) (h - l) c, []) else none
      | none => none)
    | _ => none
  | _, _, _ => none

def qFieldAddr (P : Program) (t : TypeId) (x : Option AV) (f : Nat) : QRes :=
  match fieldPlaces P t f with
  | some (off, s) => if 0 < s then
      match x with
      | some (.ptr r' i j) => some (.ptr r' i (j + off), [])
      | some (.iptr n es i j) => some (.iptr n es i (j + off), [])
      | _ => none
    else none
  | none => none

def qField (P : Program) (t : TypeId) (x : Option AV) (f : Nat) : QRes :=
  match tfield P t f, x with
  | some (off, ft), some (.agg cs) => qVal (partAV P ft cs off)
  | _, _ => none

def qIndexAddr (P : Program) (g : Get) (t : TypeId) (x ix : Option AV) : QRes :=
  match ix.bind intOf with
  | some k =>
    match telem P t with
    | some e => match x, tsize P e with
      | some (.isl esz es _), some s => if 0 ≤ k ∧ k < es.length ∧ s = esz then some (.iptr esz es k.toNat 0, []) else none
      | some (.osl r' off len _), some s => (match g r' with
        | some b => if 0 ≤ k ∧ k < len ∧ s = b.esz then some (.ptr r' (off + k.toNat) 0, []) else none
        | none => none)
      | _, _ => none
    | none => match tarr P t with
      | some (n, e) => match x, tsize P e with
        | some (.ptr r' i j), some s => if 0 ≤ k ∧ k < n then some (.ptr r' i (j + k.toNat * s), []) else none
        | some (.iptr esz es i j), some s => if 0 ≤ k ∧ k < n then some (.iptr esz es i (j + k.toNat * s), []) else none
        | _, _ => none
      | none => none
  | none => none

def qIndex (P : Program) (t : TypeId) (x ix : Option AV) : QRes :=
  match ix.bind intOf, x with
  | some k, some (.agg cs) => (match tarr P t with
    | some (n, e) => (match tsize P e with
      | some s => if 0 ≤ k ∧ k < n then qVal (partAV P e cs (k.toNat * s)) else none
      | none => none)
    | none => none)
  | some k, some (.v (.string s)) => if isStr P t ∧ 0 ≤ k then qVal ((s[k.toNat]?).map fun b => .v (.int .u8 b.toNat)) else none
  | _, _ => none

def qAssert (P : Program) (x : Option AV) (want : TypeId) (ok : Bool) : QRes :=
  match P.underlying want, x with
  | some (.interface _), _ => none
  | some _, some (.ifc t y) =>
    if t = want then some ((if ok then .tup [y, .v (.bool true)] else y), [])
    else if ok then (tzero P want).map fun z => (.tup [z, .v (.bool false)], []) else none
  | some _, some (.v .nilIface) => if ok then (tzero P want).map fun z => (.tup [z, .v (.bool false)], []) else none
  | _, _ => none

def qExtract (x : Option AV) (i : Nat) : QRes :=
  match x with
  | some (.tup vs) => qVal (vs[i]?)
  | _ => none

/- Maps -/
def mapBlk (ents : List AV) : Blk := ⟨0, .v (.bool true) :: ents, false, false⟩

def mapAt (g : Get) (r : Ref) : Option (List AV) := match g r with
  | some ⟨0, .v (.bool true) :: ents, _, _⟩ => some ents
  | _ => none

def tmap (P : Program) (t : TypeId) : Option (TypeId × TypeId) := match P.underlying t with
  | some (.map k e) => some (k, e)
  | _ => none

def entKey : AV → Option Value
  | .tup [k, _] => toValue k
  | _ => none

def entVal : AV → Option AV
  | .tup [_, v] => some v
  | _ => none

/-- Which entry has a key. -/
def mapFind (P : Program) (empty : Bool) (kt : TypeId) (k : Value) (ks : List Value) : Option (Option Nat) :=
  match pureRun P (Instr.checkKey empty 10000 kt k) with
  | some _ => (pureRun P (Instr.findKey kt k (ks.map fun x => ⟨x, Go.undef, 0⟩))).map fun o => o.map (·.1)
  | none => none

def qLookup (P : Program) (g : Get) (t : TypeId) (x k : Option AV) (ok : Bool) : QRes :=
  match tmap P t, x, k.bind toValue with
  | some (kt, et), some (.mp r), some kv => (match mapAt g r with
    | some ents => (match ents.mapM entKey with
      | some ks => (match mapFind P ks.isEmpty kt kv ks with
        | some (some i) => (ents[i]?.bind entVal).map fun v => ((if ok then .tup [v, .v (.bool true)] else v), [])
        | some none => (tzero P et).map fun z => ((if ok then .tup [z, .v (.bool false)] else z), [])
        | none => none)
      | none => none)
    | none => none)
  | _, _, _ => none

def qLenMap (P : Program) (g : Get) (t : Option TypeId) (r : Ref) : QRes :=
  match t.bind (tmap P), mapAt g r with
  | some _, some ents => some (.v (.int .i64 ents.length), [])
  | _, _ => none

/- ## What was run before: the same data -/
def vsame : Value → Value → Bool
  | .bool a, .bool b => a == b
  | .int k n, .int k' n' => decide (k = k') && decide (n = n')
  | .string s, .string t => decide (s = t)
  | .slice none a b, .slice none a' b' => Nat.beq a a' && Nat.beq b b'
  | .nilFunc, .nilFunc => true
  | .nilIface, .nilIface => true
  | _, _ => false

def asame : Nat → AV → AV → Bool
  | 0, _, _ => false
  | n + 1, x, y =>
    match x, y with
    | .v u, .v v => vsame u v
    | .agg cs, .agg ds => Nat.beq cs.length ds.length && (cs.zip ds).all fun p => asame n p.1 p.2
    | .isl z es c, .isl z' es' c' => Nat.beq z z' && decide (c = c') && Nat.beq es.length es'.length && (es.zip es').all fun p => asame n p.1 p.2
    | _, _ => false

def rsame (r r' : Ref) : Bool := Nat.beq r.t r'.t && Nat.beq r.g r'.g && Nat.beq r.d r'.d && Nat.beq r.k r'.k

def bsame : Nat → AV → AV → Bool
  | 0, _, _ => false
  | n + 1, x, y =>
    match x, y with
    | .v u, .v v => vsame u v
    | .agg cs, .agg ds => Nat.beq cs.length ds.length && (cs.zip ds).all fun p => bsame n p.1 p.2
    | .tup cs, .tup ds => Nat.beq cs.length ds.length && (cs.zip ds).all fun p => bsame n p.1 p.2
    | .isl z es c, .isl z' es' c' => Nat.beq z z' && decide (c = c') && Nat.beq es.length es'.length && (es.zip es').all fun p => bsame n p.1 p.2
    | .osl r a b c, .osl r' a' b' c' => rsame r r' && Nat.beq a a' && Nat.beq b b' && decide (c = c')
    | .ptr r i j, .ptr r' i' j' => rsame r r' && Nat.beq i i' && Nat.beq j j'
    | .mp r, .mp r' => rsame r r'
    | .fn (.func f) a b, .fn (.func f') a' b' => Nat.beq f f' && (Nat.beq a.length a'.length && (a.zip a').all fun p => bsame n p.1 p.2) && (Nat.beq b.length b'.length && (b.zip b').all fun p => bsame n p.1 p.2)
    | .ifc t x, .ifc t' x' => Nat.beq t t' && bsame n x x'
    | _, _ => false

def blkSame (k k' : Blk) : Bool := Nat.beq k.esz k'.esz && k.arr == k'.arr && k.frz == k'.frz && Nat.beq k.es.length k'.es.length && (k.es.zip k'.es).all fun p => bsame 8 p.1 p.2

def heapSame (H H' : Heap) : Bool := H.all fun p => match H.get p.1 with
  | none => true
  | some k => match H'.get p.1 with
    | none => false
    | some k' => blkSame k k'

def lsame (xs ys : List AV) : Bool := Nat.beq xs.length ys.length && (xs.zip ys).all fun p => asame 8 p.1 p.2

def memoOf : List (FuncId × List AV × AV) → FuncId → List AV → Option AV
  | [], _, _ => none
  | (g, xs, y) :: T, f, args => if Nat.beq g f && lsame xs args then some y else memoOf T f args

/-- Fresh slices of an answer become blocks of the caller's own. -/
def importA (r : Ref) : Nat → AV → List Blk → AV × List Blk
  | 0, x, bs => (x, bs)
  | n + 1, x, bs =>
    match x with
    | .fsl esz es cap => if esz = 0 then (.mp { r with k := bs.length }, bs ++ [⟨0, es, false, false⟩]) else (.osl { r with k := bs.length } 0 es.length cap, bs ++ [⟨esz, es, true, false⟩])
    | .agg cs => let (ys, bs) := cs.foldl (fun (p : List AV × List Blk) c => let (y, bs) := importA r n c p.2; (p.1 ++ [y], bs)) ([], bs); (.agg ys, bs)
    | .tup cs => let (ys, bs) := cs.foldl (fun (p : List AV × List Blk) c => let (y, bs) := importA r n c p.2; (p.1 ++ [y], bs)) ([], bs); (.tup ys, bs)
    | x => (x, bs)

/-- What a call that shares the heap comes to: a function, or a round of a loop. -/
inductive Tgt where
  | fn (f : FuncId)
  | yld (r : Ref)

/-- The modes of a call: 0 pure; 1 what it answers is the caller's own; 2 it shares the caller's heap. -/
structure Env where
  P : Program
  strict : Oper → Bool
  apart : Array Oper → List (Tmp × Tmp)
  mode : FuncId → Nat
  allowed : FuncId → Bool
  spec : FuncId → List AV → Option AV
  ok : Array Oper → Bool := fun _ => true
  frz : Oper → Bool := fun _ => false

def qCall (E : Env) (pc : FuncId → List AV → Option AV) (g : Get) (r : Ref) (f : Option AV) (args : List AV) : QRes :=
  match f with
  | some (.fn (.func fi) first captured) =>
    if E.mode fi = 2 then none else
    match (first ++ args ++ captured).mapM (view g depth) with
    | some xs => match pc fi xs with
      | some y => if flat depth y || allFrz g (refsAll g (first ++ args ++ captured)) then some (importA r depth y []) else none
      | none => none
    | none => none
  | _ => none

def qLen (P : Program) (t : Option TypeId) (x : AV) : QRes :=
  match t with
  | none => none
  | some t => match tarr P t with
    | some (n, _) => some (.v (.int .i64 n), [])
    | none => if isStr P t then (match x with | .v (.string s) => some (.v (.int .i64 s.size), []) | _ => none)
      else if (telem P t).isSome then (lenAV x).map fun n => (.v (.int .i64 n), []) else none

/-- What an append appends. -/
def newOf (P : Program) (g : Get) (e : TypeId) (x : AV) : Option (Nat × List AV) :=
  match x with
  | .v (.slice none 0 0) => (tsize P e).map fun z => (z, [])
  | .v (.int _ n) => match tzero P e, tsize P e with
    | some w, some z => if 0 ≤ n ∧ n ≤ roomB ∧ w.cells.length = z ∧ w.cells.all AV.one then some (z, List.replicate n.toNat w) else none
    | _, _ => none
  | x => elemsOf g x

def isNum : AV → Bool
  | .v (.int _ _) => true
  | _ => false

def isInt (P : Program) (t : TypeId) : Bool := match P.underlying t with | some (.int _) => true | _ => false

def qAppend (P : Program) (g : Get) (r : Ref) (t t' : Option TypeId) (s x : AV) : QRes :=
  match t.bind (telem P) with
  | none => none
  | some e =>
    if (t'.bind P.underlying).isNone ∨ (t'.map (isInt P)).getD false ≠ isNum x then none else
    match tsize P e, tbytes P e, tzero P e, newOf P g e x with
    | some z, some by', some zz, some (ez, new) =>
      if ez ≠ z ∨ z = 0 ∨ by' = 0 ∨ zz.cells.length ≠ z then none else
      match s with
      | .v (.slice none 0 0) => if new = [] then some (s, []) else if new.length * by' ≤ roomB then some (.osl r 0 new.length none, [⟨z, new, true, false⟩]) else none
      | .isl n es cap => if n ≠ z then none else if new = [] then some (s, []) else
        match cap with
        | some k => if k < es.length + new.length ∧ (es.length + new.length) * by' ≤ roomB then some (.osl r 0 (es.length + new.length) none, [⟨z, es ++ new, true, false⟩]) else none
        | none => none
      | .osl r' off len cap => (match g r' with
        | some b => if b.esz ≠ z ∨ b.arr = false then none else if new = [] then some (s, []) else
          (match cap with
          | some k => if off + len ≤ b.es.length ∧ k < len + new.length ∧ (len + new.length) * by' ≤ roomB then
              some (.osl r 0 (len + new.length) none, [⟨z, (b.es.drop off).take len ++ new, true, false⟩]) else none
          | none => none)
        | none => none)
      | _ => none
    | _, _, _, _ => none

def qCap (P : Program) (t : Option TypeId) (x : AV) : QRes :=
  match t.bind (telem P), x with
  | some _, .v (.slice none 0 0) => some (.v (.int .i64 0), [])
  | some _, .isl _ _ (some k) => some (.v (.int .i64 k), [])
  | some _, .osl _ _ _ (some k) => some (.v (.int .i64 k), [])
  | _, _ => none

def qBuiltin (P : Program) (draw : Bool) (g : Get) (r : Ref) (b : Builtin) (ts : Array TypeId) (args : List AV) : QRes :=
  match b, args with
  | .len, [.mp r'] => if draw then none else qLenMap P g ts[0]? r'
  | .len, [x] => qLen P ts[0]? x
  | .min, args => qVal (minmax Builtin.min2 P args)
  | .max, args => qVal (minmax Builtin.max2 P args)
  | .append, [s, x] => qAppend P g r ts[0]? ts[1]? s x
  | .cap, [x] => qCap P ts[0]? x
  | _, _ => none

/-- Blocks that nobody is to write. -/
def frzB (b : Bool) (bs : List Blk) : List Blk := if b then bs.map (fun k => { k with frz := true }) else bs

/-- What a quiet operation yields. 'pc': what a pure call answers. -/
def evalQ (E : Env) (pc : FuncId → List AV → Option AV) (draw : Bool) (g : Get) (tm : List AV) (r : Ref) (o : Oper) : QRes :=
  match o.op with
  | .move x | .assign x => qVal (evalO tm x)
  | .pick c a b => qPick (evalO tm) c a b
  | .alloc e => qAlloc E.P r e
  | .box e x => qBox E.P r e (evalO tm x)
  | .build t ps => qBuild E.P t (evalParts tm ps.toList)
  | .buildSlice t n ps => qBuildSlice E.P (draw && !E.strict o) g r t n (evalParts tm ps.toList)
  | .load t a => qLoad E.P g t (evalO tm a)
  | .nilCheck x => qNil (evalO tm x)
  | .binOp op t xo yo _ => qBin E.P op t xo yo (evalO tm xo) (evalO tm yo)
  | .unOp op _ x => qUn E.P op (evalO tm x)
  | .convert src dst x => qConvert E.P g r src dst (evalO tm x)
  | .makeInterface t x => qIface E.P t (evalO tm x)
  | .makeFunc f first captured => qFunc f (first.toList.mapM (evalO tm)) (captured.toList.mapM (evalO tm))
  | .makeSlice t l c => qMake E.P r t (evalO tm l) (evalO tm c)
  | .makeMap _ none => some (.mp r, [mapBlk []])
  | .lookup t x k ok => qLookup E.P g t (evalO tm x) (evalO tm k) ok
  | .slice t x lo hi mx => qSlice E.P g t (evalO tm x) (optInt tm lo) (optInt tm hi) (optInt tm mx)
  | .fieldAddr t x f => qFieldAddr E.P t (evalO tm x) f
  | .field t x f => qField E.P t (evalO tm x) f
  | .indexAddr t x ix => qIndexAddr E.P g t (evalO tm x) (evalO tm ix)
  | .index t x ix => qIndex E.P t (evalO tm x) (evalO tm ix)
  | .typeAssert x _ want ok => qAssert E.P (evalO tm x) want ok
  | .extract x i => qExtract (evalO tm x) i
  | .call c =>
    match c.args.toList.mapM (evalO tm) with
    | none => none
    | some args =>
      match c.callee with
      | .value f => (qCall E pc g r (evalO tm f) args).map fun p => (p.1, frzB (E.frz o) p.2)
      | .invoke _ _ => none
      | .builtin b => qBuiltin E.P (draw && !(match c.args.toList with | [.tmp _] => true | _ => false)) g r b c.argTypes args
  | _ => none

def keyed (r : Ref) : Nat → List Blk → Heap → Heap
  | _, [], g => g
  | k, b :: bs, g => keyed r (k + 1) bs (({ r with k := k }, some b) :: g)

/- ### The other operations: what they yield, and the heap behind them -/
abbrev WRes := Option (AV × Heap)

def wStore (P : Program) (H : Heap) (t : TypeId) (a x : Option AV) : WRes :=
  match a, x, tsize P t with
  | some (.ptr r' i j), some x, some n =>
    match H.get r' with
    | some b =>
      if x.cells.length = n ∧ x.cells.all AV.one ∧ b.frz = false then
        (if b.arr = true then
          match view H.get depth x with
          | some y => if r' ∈ viewRefs H.get depth x then none else if y.cells.all AV.one = true then (writeAt b.es i j y.cells).map fun es => (AV.undef, (freezeAll H (viewRefs H.get depth x)).put r' (some { b with es })) else none
          | none => none
        else (writeAt b.es i j x.cells).map fun es => (AV.undef, H.put r' (some { b with es })))
      else none
    | none => none
  | _, _, _ => none

def wBuildSlice (P : Program) (H : Heap) (r : Ref) (t : TypeId) (n : Nat) (vs : Option (List (Nat × AV))) : WRes :=
  match vs with
  | none => none
  | some vs => (mkSlice P H.get t n vs).map fun b => (.osl r 0 n (some n), (r, some b) :: freezeAll H (refsAll H.get (vs.map (·.2))))

/-- 'tc': a call that shares the heap. -/
def wCall (E : Env) (pc : FuncId → List AV → Option AV) (tc : Tgt → List AV → Heap → WRes) (H : Heap) (r : Ref) (f : Option AV) (args : List AV) : WRes :=
  match f with
  | some (.fn (.func g) first captured) =>
    if E.mode g = 2 then tc (.fn g) (first ++ args ++ captured) H else
    match (first ++ args ++ captured).mapM (view H.get depth) with
    | some xs => (pc g xs).map fun y => ((importA r depth y []).1, keyed r 0 (importA r depth y []).2 (freezeAll H (refsAll H.get (first ++ args ++ captured))))
    | none => none
  | some (.yld q) => tc (.yld q) args H
  | _ => none

/-- A call that is to leave the heap as it was: one goes on from the heap ahead of it. -/
def wRead (b : Bool) (H : Heap) (x : WRes) : WRes := match b, x with
  | true, some (y, H') => if flat depth y && heapSame H H' then some (y, H) else none
  | _, x => x

def wAppend (P : Program) (H : Heap) (t t' : Option TypeId) (s x : AV) : WRes :=
  match t.bind (telem P) with
  | none => none
  | some e =>
    if (t'.bind P.underlying).isNone ∨ (t'.map (isInt P)).getD false ≠ isNum x then none else
    match tsize P e, tbytes P e, tzero P e, newOf P H.get e x with
    | some z, some by', some zz, some (ez, new) =>
      if ez ≠ z ∨ z = 0 ∨ by' = 0 ∨ new = [] ∨ zz.cells.length ≠ z then none else
      match s with
      | .osl r' off len none => (match H.get r' with
        | some b => if off = 0 ∧ b.arr = true ∧ b.esz = z ∧ len = b.es.length ∧ (len + new.length) * by' ≤ roomB then
            some (.osl ⟨r'.d, r'.t, H.gen r'.d r'.t, 0⟩ 0 (len + new.length) none, (⟨r'.d, r'.t, H.gen r'.d r'.t, 0⟩, some ⟨z, b.es ++ new, true, b.frz⟩) :: H.put r' none) else none
        | none => none)
      | _ => none
    | _, _, _, _ => none

def wCopy (P : Program) (H : Heap) (t : Option TypeId) (dst x : AV) : WRes :=
  match t.bind (telem P) with
  | none => none
  | some e => match tsize P e with
    | none => none
    | some z => match (if nilSlice x then some (z, []) else elemsOf H.get x) with
      | none => none
      | some (ez, src) => if ez ≠ z ∨ z = 0 then none else
        match dst with
        | .v (.slice none 0 0) => some (.v (.int .i64 0), H)
        | .osl r' off len _ => (match H.get r' with
          | some b =>
            if b.arr = true ∧ b.esz = z ∧ b.frz = false ∧ off + len ≤ b.es.length then
              some (.v (.int .i64 (Nat.min src.length len : Nat)), H.put r' (some { b with es := b.es.take off ++ src.take (Nat.min src.length len) ++ b.es.drop (off + Nat.min src.length len) })) else none
          | none => none)
        | _ => none

def wMapUpdate (P : Program) (H : Heap) (t : TypeId) (m k x : Option AV) : WRes :=
  match tmap P t, m, k, x with
  | some (kt, _), some (.mp r), some k, some x => (match toValue k, mapAt H.get r with
    | some kv, some ents => (match ents.mapM entKey with
      | some ks => (match mapFind P false kt kv ks with
        | some (some i) => if ((ks[i]?).map fun k0 => Instr.sameBits 10000 k0 kv) = some true then some (AV.undef, H.put r (some (mapBlk (ents.set i (.tup [k, x]))))) else none
        | some none => some (AV.undef, H.put r (some (mapBlk (ents ++ [.tup [k, x]]))))
        | none => none)
      | none => none)
    | _, _ => none)
  | _, _, _, _ => none

def wMapEntry (P : Program) (H : Heap) (t : TypeId) (m k : Option AV) : WRes :=
  match tmap P t, m, k with
  | some (kt, et), some (.mp r), some k => (match toValue k, mapAt H.get r with
    | some kv, some ents => (match ents.mapM entKey with
      | some ks => (match mapFind P false kt kv ks with
        | some (some i) => if ((ks[i]?).map fun k0 => Instr.sameBits 10000 k0 kv) = some true then (ents[i]?.bind entVal).map fun v => (.tup [v, .v (.int .i64 i)], H.put r (some (mapBlk (ents.set i (.tup [k, v]))))) else none
        | some none => (tzero P et).map fun z => (.tup [z, .v (.int .i64 ents.length)], H.put r (some (mapBlk (ents ++ [.tup [k, z]]))))
        | none => none)
      | none => none)
    | _, _ => none)
  | _, _, _ => none

def wEntryStore (H : Heap) (m s x : Option AV) : WRes :=
  match m, s, x with
  | some (.mp r), some (.v (.int _ n)), some x => (match mapAt H.get r with
    | some ents => if 0 ≤ n then (match ents[n.toNat]? with
      | some (.tup [k, _]) => some (AV.undef, H.put r (some (mapBlk (ents.set n.toNat (.tup [k, x])))))
      | _ => none) else none
    | none => none)
  | _, _, _ => none

def evalW (E : Env) (pc : FuncId → List AV → Option AV) (tc : Tgt → List AV → Heap → WRes) (H : Heap) (tm : List AV) (r : Ref) (o : Oper) : WRes :=
  match o.op with
  | .store t a x => wStore E.P H t (evalO tm a) (evalO tm x)
  | .mapUpdate t m k x | .insert t m k x => wMapUpdate E.P H t (evalO tm m) (evalO tm k) (evalO tm x)
  | .mapEntry t m k => wMapEntry E.P H t (evalO tm m) (evalO tm k)
  | .entryStore _ m s x => wEntryStore H (evalO tm m) (evalO tm s) (evalO tm x)
  | .buildSlice t n ps => wBuildSlice E.P H r t n (evalParts tm ps.toList)
  | .call c =>
    match c.args.toList.mapM (evalO tm) with
    | none => none
    | some args =>
      match c.callee with
      | .value f => wRead (E.frz o) H (wCall E pc tc H r (evalO tm f) args)
      | .invoke _ _ => none
      | .builtin b =>
        match b, args with
        | .append, [s, x] => wAppend E.P H c.argTypes[0]? c.argTypes[1]? s x
        | .copy, [dst, x] => wCopy E.P H c.argTypes[0]? dst x
        | _, _ => none
  | _ => none

/- ## Regions -/
def wanted (ops : Array Oper) (tm : List AV) (o : Oper) : Option Bool :=
  match o.guard with
  | none => some true
  | some (j, want) =>
    match (ops[j]?).bind (·.dst) with
    | some t => (match tget tm t with
      | .v (.bool b) => some (b == want)
      | .v (.tuple vs) => if vs.isEmpty then some false else none
      | _ => none)
    | none => some false

/-- The kinds that may write memory that was there. -/
def wOp (E : Env) : Op → Bool
  | .store .. | .mapUpdate .. | .insert .. | .mapEntry .. | .entryStore .. => true
  | .call c => match c.callee with
    | .builtin .append | .builtin .copy => true
    | .value (.func g) => E.mode g == 2
    | .value (.tmp _) => true
    | _ => false
  | _ => false

/-- Building a slice: what stands in it is not written from here on. -/
def bsOp : Op → Bool
  | .buildSlice .. => true
  | _ => false

def wKind (E : Env) (o : Oper) : Bool := (!E.strict o && wOp E o.op) || (E.frz o && bsOp o.op)

def setDst (nt : Nat) (tm : List AV) (dst : Option Tmp) (x : AV) : Option (List AV) :=
  match dst with
  | none => some tm
  | some d => if d < nt then some (tset tm d x) else none

def evalOp (E : Env) (pc : FuncId → List AV → Option AV) (tc : Tgt → List AV → Heap → WRes) (nt dep : Nat) (draw : Bool) (ops : Array Oper) (o : Oper) (st : St) : Option St :=
  match wanted ops st.tm o with
  | none => none
  | some false => (setDst nt st.tm o.dst AV.undef).map fun tm => { st with tm }
  | some true =>
    match evalQ E pc draw st.hp.get st.tm ⟨dep, o.dst.getD 0, st.hp.gen dep (o.dst.getD 0), 0⟩ o with
    | some (x, bs) => (setDst nt st.tm o.dst x).map fun tm => ⟨tm, keyed ⟨dep, o.dst.getD 0, st.hp.gen dep (o.dst.getD 0), 0⟩ 0 bs st.hp⟩
    | none =>
      if draw && !wKind E o then none else
      match evalW E pc tc st.hp st.tm ⟨dep, o.dst.getD 0, st.hp.gen dep (o.dst.getD 0), 0⟩ o with
      | some (x, H) => (setDst nt st.tm o.dst x).map fun tm => ⟨tm, H⟩
      | none => none

/- ## The machine -/
def runOps (E : Env) (pc : FuncId → List AV → Option AV) (tc : Tgt → List AV → Heap → WRes) (nt dep : Nat) (draw : Bool) (ops : Array Oper) : List Oper → St → Option St
  | [], st => some st
  | o :: rest, st => match evalOp E pc tc nt dep draw ops o st with
    | some st' => runOps E pc tc nt dep draw ops rest st'
    | none => none

def readResult (P : Program) (st : St) : ResultVar → Option AV
  | .tmp t => some (tget st.tm t)
  | .cell a t => match tget st.tm a, tagg P t, tsize P t with
    | .ptr r i j, some g, some n => match st.hp.get r with
      | some b => readAt b.es i j n g
      | none => none
    | _, _, _ => none

def resultsA (P : Program) (fn : Func) (st : St) : Option AV :=
  match fn.results.toList.mapM (readResult P st) with
  | some [] => some (.v (.tuple #[]))
  | some [x] => some x
  | some xs => some (.tup xs)
  | none => none

/- ## What is asked of the code -/
def codeOk (ok : Array Oper → Bool) : Code → Bool
  | .region _ ops draw => !draw || ok ops
  | .seq a b | .cond _ a b => codeOk ok a && codeOk ok b
  | .block _ c | .loop c | .scope c => codeOk ok c
  | .rangeFunc _ _ a b => codeOk ok a && codeOk ok b
  | _ => true

def itemOk (ok : Array Oper → Bool) : Item → Bool
  | .code c | .inLoop c => codeOk ok c
  | _ => true

/-- A call, given what runs a body: in the heap H, one deeper. -/
def callIn (E : Env) (run : Option Ref → Nat → Nat → List Item → St → Option St) (dep : Nat) (f : FuncId) (args : List AV) (H : Heap) : Option (AV × Heap) :=
  if E.allowed f then
    match E.P.funcs[f]? with
    | some fn => match fn.body with
      | some c => if args.length ≤ fn.ntmps then
          match run none fn.ntmps dep [.code c] ⟨args, H⟩ with
          | some st => (resultsA E.P fn st).map (·, st.hp)
          | none => none
        else none
      | none => none
    | none => none
  else none

/-- Like 'view', but a slice of a block that is wholly the answer's own goes out as a fresh one. -/
def exportA (g : Get) : Nat → AV → Option AV
  | 0, _ => none
  | n + 1, x =>
    match x with
    | .agg cs => (cs.mapM (exportA g n)).map .agg
    | .tup cs => (cs.mapM (exportA g n)).map .tup
    | .osl r 0 len cap =>
      match g r with
      | some b => if b.arr = true ∧ len ≤ b.es.length then some (if b.frz then .isl b.esz (b.es.take len) cap else .fsl b.esz (b.es.take len) cap) else none
      | none => none
    | .mp r =>
      match mapAt g r with
      | some ents => if ents.all (flat depth) then some (.fsl 0 (.v (.bool true) :: ents) none) else none
      | none => none
    | x => view g (n + 1) x

/-- A pure call: on data alone, in no heap; what it answers is data. -/
def pureCall (E : Env) (run : Option Ref → Nat → Nat → List Item → St → Option St) (f : FuncId) (args : List AV) : Option AV :=
  match E.spec f args with
  | some y => some y
  | none => match callIn E run 0 f args [] with
    | some (x, H) => if E.mode f = 1 then (if (viewRefs H.get depth x).Nodup then exportA H.get depth x else none) else view H.get depth x
    | none => none

/-- A loop over a function: 0: ready for a round; 1: in a round; 2: left by 'return'; n + 3: left for the block n. -/
def lpBlk (st : Nat) (inf : AV) : Blk := ⟨0, [.v (.int .i64 st), inf], false, false⟩

def lpAt (H : Heap) (r : Ref) : Option (Nat × AV) := match H.get r with
  | some ⟨0, [.v (.int .i64 st), inf], _, _⟩ => some (st.toNat, inf)
  | _ => none

def setAll (tm : List AV) : List Tmp → List AV → List AV
  | t :: ts, x :: xs => setAll (tset tm t x) ts xs
  | _, _ => tm

/-- A round of a loop. -/
def roundIn (E : Env) (run : Option Ref → Nat → Nat → List Item → St → Option St) (dep : Nat) (r : Ref) (args : List AV) (H : Heap) : Option (AV × Heap) :=
  match lpAt H r with
  | some (0, .lp f nt ps assign body tm) =>
    if args.length = ps.length ∧ ps.all (· < nt) = true ∧ codeOk E.ok assign = true ∧ codeOk E.ok body = true then
      (match run (some r) nt dep [.code assign, .beginRound, .code body] ⟨setAll tm ps args, H⟩ with
      | some st => (match lpAt st.hp r with
        | some (0, _) => some (.v (.bool true), st.hp)
        | some (n + 2, _) => some (.v (.bool false), st.hp)
        | _ => none)
      | none => none)
    else none
  | _ => none

def thrCall (E : Env) (run : Option Ref → Nat → Nat → List Item → St → Option St) (dep : Nat) (t : Tgt) (args : List AV) (H : Heap) : Option (AV × Heap) :=
  match t with
  | .fn f => if E.mode f = 2 then callIn E run (dep + 1) f args H else none
  | .yld r => roundIn E run (dep + 1) r args H

/-- How a round is left. -/
def leaveR (rd : Option Ref) (st : St) (n : Nat) : Option St := match rd with
  | none => if n = 2 then some st else none
  | some r => match lpAt st.hp r with
    | some (1, inf) => some { st with hp := st.hp.put r (some (lpBlk n inf)) }
    | _ => none

/-- Of a region that draws its order: the pairs of slots whose blocks are to differ. -/
def apartOf (E : Env) (ops : Array Oper) : List (Tmp × Tmp) := E.apart ops

def refOf : AV → Option Ref
  | .ptr r _ _ => some r
  | .osl r _ _ _ => some r
  | .mp r => some r
  | _ => none

def refNe (tm : List AV) (p : Tmp × Tmp) : Bool := match refOf (tget tm p.1), refOf (tget tm p.2) with
  | some r, some r' => decide (r ≠ r')
  | _, _ => true

def storeFine (st : St) (o : Oper) : Bool := match o.op with
  | .store _ (.tmp t) _ => (match tget st.tm t with
    | .ptr r _ _ => (match st.hp.get r with
      | some b => !b.arr
      | none => false)
    | _ => true)
  | _ => true

/-- The slot of what a slice is built of. -/
def bsT : Op → Option Tmp
  | .buildSlice _ _ ps => (match ps.toList with
    | [(_, .tmp t)] => some t
    | _ => none)
  | _ => none

def bsFine (E : Env) (st : St) (o : Oper) : Bool := !(E.frz o && bsOp o.op) || (match bsT o.op with
  | some t => (match tget st.tm t with
    | .osl .. => true
    | .v _ => true
    | _ => false)
  | none => false)

def apartOk (E : Env) (ops : Array Oper) (st : St) : Bool := (apartOf E ops).isEmpty || ((apartOf E ops).all (refNe st.tm) && (ops.toList.all (storeFine st) && ops.toList.all (bsFine E st)))

def runA (E : Env) : Nat → (rd : Option Ref) → (nt dep : Nat) → List Item → St → Option St
  | 0, _, _, _, _, _ => none
  | n + 1, rd, nt, dep, items, st =>
    match items with
    | [] => (match rd with
      | none => some st
      | some _ => leaveR rd st 0)
    | .beginRound :: k => (match rd with
      | none => none
      | some r => match lpAt st.hp r with
        | some (0, inf) => runA E n rd nt dep k { st with hp := st.hp.put r (some (lpBlk 1 inf)) }
        | _ => none)
    | .code c :: k =>
      (match c with
      | .skip | .label _ => runA E n rd nt dep k st
      | .ret => leaveR rd st 2
      | .seq a b => runA E n rd nt dep (.code a :: .code b :: k) st
      | .cond c a b =>
        (match (evalO st.tm c).bind boolOf with
        | some true => runA E n rd nt dep (.code a :: k) st
        | some false => runA E n rd nt dep (.code b :: k) st
        | none => none)
      | .block id b => runA E n rd nt dep (.code b :: .inBlock id :: k) st
      | .scope b => runA E n rd nt dep (.code b :: .inScope b :: k) st
      | .loop b => runA E n rd nt dep (.code b :: .inLoop b :: k) st
      | .exit id => (match exitTo id k with
        | some k' => runA E n rd nt dep k' st
        | none => if rd.isSome then leaveR rd st (id + 3) else none)
      | .region _ ops draw => (match runOps E (pureCall E (runA E n)) (thrCall E (runA E n) dep) nt dep draw ops ops.toList st with
        | some st' => if draw && !apartOk E ops st' then none else runA E n rd nt dep k st'
        | none => none)
      | .rangeFunc g ps assign body => (match rd, evalO st.tm g with
        | none, some (.fn (.func gi) first captured) =>
          (match thrCall E (runA E n) dep (.fn gi) (first ++ [.yld ⟨dep, nt, st.hp.gen dep nt, 0⟩] ++ captured)
              ((⟨dep, nt, st.hp.gen dep nt, 0⟩, some (lpBlk 0 (.lp 0 nt ps.toList assign body st.tm))) :: st.hp) with
          | some (_, H') => (match lpAt H' ⟨dep, nt, st.hp.gen dep nt, 0⟩ with
            | some (0, _) => runA E n rd nt dep k ⟨st.tm, H'.put ⟨dep, nt, st.hp.gen dep nt, 0⟩ none⟩
            | some (2, _) => some ⟨st.tm, H'.put ⟨dep, nt, st.hp.gen dep nt, 0⟩ none⟩
            | some (id + 3, _) => (match exitTo id k with
              | some k' => runA E n rd nt dep k' ⟨st.tm, H'.put ⟨dep, nt, st.hp.gen dep nt, 0⟩ none⟩
              | none => none)
            | _ => none)
          | none => none)
        | _, _ => none)
      | _ => none)
    | .inLoop b :: k => runA E n rd nt dep (.code b :: .inLoop b :: k) st
    | .inBlock _ :: k | .inScope _ :: k => runA E n rd nt dep k st
    | _ => none

/- ## What is asked of a region that draws its order -/
def edgesOf (o : Oper) : List Nat := (o.after.toList.filter (Region.binds .any)).map (·.on)

def maskOf (acc : List Nat) : List Nat → Nat
  | [] => 0
  | j :: js => (2 ^ j ||| acc.getD j 0) ||| maskOf acc js

/-- For each operation: whatever is to come before it, as bits. -/
def ancsFrom : List Oper → List Nat → List Nat
  | [], acc => acc
  | o :: os, acc => ancsFrom os (acc ++ [maskOf acc (edgesOf o)])

/-- May it look at memory, or write it? -/
def lenTmp (c : Call) : Bool := match c.args.toList with
  | [.tmp _] => true
  | _ => false

def heapish : Op → Bool
  | .move _ | .assign _ | .pick .. | .binOp .. | .unOp .. | .makeInterface .. | .makeFunc .. | .fieldAddr .. | .field .. | .index .. | .typeAssert .. | .extract .. | .nilCheck _ | .build .. => false
  | .call c => match c.callee with
    | .builtin .len => lenTmp c
    | .builtin .min | .builtin .max => false
    | _ => true
  | _ => true

def dstOf (ops : Array Oper) (i : Nat) : Option Tmp := (ops[i]?).bind (·.dst)

/-- Does it, or one before it in the text, write? -/
def lk (E : Env) (ops : Array Oper) (i : Nat) : Bool := (List.range (i + 1)).any fun j => match ops[j]? with
  | some o => wKind E o
  | none => false

def basePair (ops : Array Oper) (A : List Nat) (oi oj : Oper) (i j : Nat) : Bool :=
  (oj.dst.isNone || oi.dst != oj.dst) &&
  (match oj.dst with | some d => !(oi.looksAt ops).contains d || (A.getD i 0).testBit j | none => true) &&
  (match oi.dst with | some d => !(oj.looksAt ops).contains d || (A.getD i 0).testBit j | none => true)

def pairOk (E : Env) (ops : Array Oper) (A : List Nat) (oi oj : Oper) (i j : Nat) : Bool :=
  basePair ops A oi oj i j &&
  (!(heapish oi.op && heapish oj.op && lk E ops i) || (A.getD i 0).testBit j)

def regionOk (E : Env) (ops : Array Oper) : Bool :=
  (List.range ops.size).all fun i => match ops[i]? with
    | some oi => (edgesOf oi).all (· < i) && (!heapish oi.op || wKind E oi || oi.dst.isSome) &&
      (List.range i).all fun j => match ops[j]? with
        | some oj => pairOk E ops (ancsFrom ops.toList []) oi oj i j
        | none => true
    | none => true

/- ### Regions where stores, and what looks at memory at one place, come in any order -/
/-- It looks at memory at this slot's block alone, and makes nothing. -/
def lookT (P : Program) : Op → Option Tmp
  | .load _ (.tmp t) => some t
  | .indexAddr _ (.tmp t) _ => some t
  | .slice _ (.tmp t) _ _ _ => some t
  | .convert _ dst (.tmp t) => if isByteSlice P dst then none else some t
  | .lookup _ (.tmp t) _ _ => some t
  | .call c => match c.callee with
    | .builtin .len => (match c.args.toList with
      | [.tmp t] => some t
      | _ => none)
    | _ => none
  | _ => none

def storeT : Op → Option Tmp
  | .store _ (.tmp t) _ => some t
  | _ => none

def appT : Op → Option Tmp
  | .call c => match c.callee with
    | .builtin .append => (match c.args.toList with
      | .tmp t :: _ => some t
      | _ => none)
    | _ => none
  | _ => none

/-- 0: it does not look at memory; 1: it looks at one block; 2: it stores; 3: it makes, or looks at any; 4: the same, and it appends. -/
def cls (E : Env) (o : Oper) : Nat :=
  if heapish o.op then (if (storeT o.op).isSome then 2 else if (lookT E.P o.op).isSome then 1 else if wKind E o then 4 else 3) else 0

def spotT (E : Env) (o : Oper) : Option Tmp := match storeT o.op with
  | some t => some t
  | none => match lookT E.P o.op with
    | some t => some t
    | none => if bsOp o.op then bsT o.op else appT o.op

def settled (E : Env) (ops : Array Oper) (oi oj : Oper) : Bool := match spotT E oi, spotT E oj with
  | some a, some b => (apartOf E ops).contains (a, b) || (apartOf E ops).contains (b, a)
  | _, _ => false

/-- It makes, and looks at nothing. -/
def blind (E : Env) (o : Oper) : Bool := cls E o == 3 && (match o.op with
  | .alloc _ | .makeMap _ none => true
  | .call c => c.args.toList.isEmpty && (match c.callee with
    | .value (.func _) => true
    | _ => false)
  | _ => false)

def mustOrder (E : Env) (oi oj : Oper) : Bool := (cls E oi == 2 && Nat.ble 3 (cls E oj) && !blind E oj) || (cls E oj == 2 && Nat.ble 3 (cls E oi) && !blind E oi) || (Nat.ble 3 (cls E oi) && Nat.ble 3 (cls E oj) && (cls E oi == 4 || cls E oj == 4))
def mayMeet (ci cj : Nat) : Bool := (ci == 2 && (cj == 1 || cj == 2)) || (cj == 2 && ci == 1) || (ci == 1 && cj == 4) || (ci == 4 && cj == 1)

def lsPair (E : Env) (ops : Array Oper) (A : List Nat) (oi oj : Oper) (i j : Nat) : Bool :=
  basePair ops A oi oj i j &&
  (!mustOrder E oi oj || (A.getD i 0).testBit j) &&
  (!mayMeet (cls E oi) (cls E oj) || (A.getD i 0).testBit j || settled E ops oi oj)

def stable (ops : Array Oper) (i : Nat) (t : Option Tmp) : Bool := match t with
  | some t => (List.range ops.size).all fun k => dstOf ops k != some t || decide (k < i)
  | none => false

def lsOne (E : Env) (ops : Array Oper) (i : Nat) (o : Oper) : Bool := match cls E o with
  | 0 => true
  | 3 => o.dst.isSome
  | _ => stable ops i (spotT E o)

def lsOk (E : Env) (ops : Array Oper) : Bool := !(apartOf E ops).isEmpty &&
  (List.range ops.size).all fun i => match ops[i]? with
    | some oi => (edgesOf oi).all (· < i) && lsOne E ops i oi &&
      (List.range i).all fun j => match ops[j]? with
        | some oj => lsPair E ops (ancsFrom ops.toList []) oi oj i j
        | none => true
    | none => true

def drawOk (E : Env) (ops : Array Oper) : Bool := regionOk E ops || lsOk E ops

end Go.Ab
