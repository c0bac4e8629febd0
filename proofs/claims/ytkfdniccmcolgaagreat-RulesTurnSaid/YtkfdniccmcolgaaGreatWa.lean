/-
  A value-level reading of the model's code: slices as lists, memory of the call's own as small numbered blocks. Definitions alone.
-/
import Derived.Calls
import Derived.Orders
import Derived.Below
import Derived.Laws.IdiomCopy
import Derived.Laws.MakeOwn
import Derived.Laws.Append
import Derived.Laws.Cells
import Derived.Laws.Entries
import Derived.Laws.NewBlocks
import Derived.Laws.Tables
import Derived.Great.FillDense
import Derived.IntWalk
import Derived.Great.BuildSlice
set_option linter.all false

namespace Go.Va

/-- Pure data: what a cell holds when nobody will write what it points to. A slice: the number of its elements, and its cells, one behind the other. 'lit': this very value of the model; 'any': one cell, unknown. -/
inductive D where
  | int (k : IntKind) (n : Int)
  | bool (b : Bool)
  | str (s : ByteArray)
  | slice (n : Nat) (cs : List D)
  | ref (cs : List D)
  | fn (f : FuncId) (caps : List D)
  | nilFn
  | nilPtr
  | lit (x : Value)
  | any
  deriving Inhabited

/-- What a cell of the call's own holds. -/
inductive C where
  | d (x : D)
  | nl
  | sl (id off n : Nat)
  | ptr (id off : Nat)
  | bad
  deriving Inhabited

/-- One value: a cell, or the cells of a struct or an array; or a closure whose captured cells are still live. -/
inductive U where
  | c (x : C)
  | agg (cs : List C)
  | clo (f : FuncId) (cs : List C)
  deriving Inhabited

/-- Arguments: data alone. -/
inductive A where
  | c (x : D)
  | agg (cs : List D)
  deriving Inhabited

/-- 'tr': no value, but what has been handed to this function value so far. -/
inductive V where
  | u (x : U)
  | tup (xs : List U)
  | tr (x : Value) (ys : List (List A))
  deriving Inhabited

/-- The place of what has been handed on. -/
def YS : Nat := 1000000

inductive Blk where
  | row (sz : Nat) (cs : List D) (app : Bool)
  | box (cs : List C)
  | fbox (f : FuncId) (cs : List C)
  deriving Inhabited

structure St where
  t : List (Nat × V)
  h : List (Nat × Blk)
  deriving Inhabited

def lk {α : Type} (k : Nat) : List (Nat × α) → Option α
  | [] => none
  | (j, v) :: r => if j = k then some v else lk k r

def rm {α : Type} (k : Nat) : List (Nat × α) → List (Nat × α)
  | [] => []
  | (j, v) :: r => if j = k then rm k r else (j, v) :: rm k r

/-- What is known of a type. -/
structure TI where
  agg : Bool := false
  size : Nat := 1
  bytes : Nat := 8
  zero : List C := []
  sl : Option Nat := none
  arr : Option (Nat × Nat) := none
  flds : List (Nat × Nat) := []
  flat : Bool := false
  deriving Inhabited

abbrev Tab := Nat → Option TI

/-- Results: data, or a row that the caller may go on to write. -/
inductive RC where
  | d (x : D)
  | own (sz n : Nat) (cs : List D)
  deriving Inhabited

inductive RU where
  | c (x : RC)
  | agg (cs : List RC)
  deriving Inhabited

inductive R where
  | u (x : RU)
  | tup (xs : List RU)
  deriving Inhabited

def C.id? : C → Option Nat
  | .sl i _ _ => some i
  | .ptr i _ => some i
  | _ => none

/-- A cell with the blocks that it names turned by 'g'. -/
def C.on (g : Nat → C → C) (c : C) : C :=
  match c with
  | .sl i o n => g i (.sl i o n)
  | .ptr i o => g i (.ptr i o)
  | c => c

def U.on (g : Nat → C → C) : U → U
  | .c x => .c (x.on g)
  | .agg cs => .agg (cs.map (C.on g))
  | .clo f cs => .clo f (cs.map (C.on g))

def V.on (g : Nat → C → C) : V → V
  | .u x => .u (x.on g)
  | .tup xs => .tup (xs.map (U.on g))
  | .tr x ys => .tr x ys

def Blk.on (g : Nat → C → C) : Blk → Blk
  | .row sz cs app => .row sz cs app
  | .box cs => .box (cs.map (C.on g))
  | .fbox f cs => .fbox f (cs.map (C.on g))

def St.on (g : Nat → C → C) (st : St) : St :=
  { t := st.t.map fun e => (e.1, e.2.on g), h := st.h.map fun e => (e.1, e.2.on g) }

def purgeG (i : Nat) : Nat → C → C := fun j c => if j = i then .bad else c

/-- Block 'id' is no longer known, nor what names it. -/
def St.purge (id : Nat) (st : St) : St := { st.on (purgeG id) with h := rm id (st.on (purgeG id)).h }

def St.put (dst : Option Nat) (v : V) (st : St) : St :=
  match dst with
  | some d => { st with t := (d, v) :: rm d st.t }
  | none => st

def St.blk (id : Nat) (b : Blk) (st : St) : St := { st with h := (id, b) :: rm id st.h }
/-- Block 'id' is no longer known; what names it stays, and says nothing. -/
def St.drop (id : Nat) (st : St) : St := { st with h := rm id st.h }

/-- A new block under this number. -/
def St.new (id : Nat) (b : Blk) (st : St) : St := (st.purge id).blk id (b.on (purgeG id))

/-- The same cell, of block 'i'. -/
def C.to (i : Nat) : C → C
  | .sl _ o n => .sl i o n
  | .ptr _ o => .ptr i o
  | c => c
def renG (i j : Nat) : Nat → C → C := fun k c => if k = j then c.to i else if k = i then .bad else c
/-- Block 'j', if it is there, gets the number 'i'; what stood under 'i' is forgotten. -/
def St.rn (i j : Nat) (st : St) : St :=
  if i = j then st else
  match lk j st.h with
  | none => st
  | some b => { st.on (renG i j) with h := (i, b.on (renG i j)) :: rm i (rm j (st.on (renG i j)).h) }
def rns : List (Nat × Nat) → St → St
  | [], s => s
  | (i, j) :: r, s => rns r (s.rn i j)

/-- The numbers 'l' are free. -/
def purges (l : List Nat) (s : St) : St := l.foldl (fun s i => s.purge i) s

/-! ### data out of cells -/

def cut {α : Type} (off n : Nat) (l : List α) : List α := (l.drop off).take n

/-- A cell as data; what it names is read in the heap (boxes in boxes: to this depth), if 'ok' lets it. -/
def toD (ok : Nat → Bool) (h : List (Nat × Blk)) : Nat → C → Option D
  | _, .d x => some x
  | _, .nl => some (.slice 0 [])
  | _, .bad => none
  | _, .sl i off n => if ok i then (match lk i h with
    | some (.row sz cs _) => if (off + n) * sz ≤ cs.length then some (.slice n (cut (off * sz) (n * sz) cs)) else none
    | _ => none) else none
  | 0, .ptr i _ => if ok i then some .any else none
  | k + 1, .ptr i off => if ok i then (match lk i h with
    | some (.row _ cs _) => some (.ref (cs.drop off))
    | some (.box cs) => ((cs.drop off).mapM (toD ok h k)).map .ref
    | some (.fbox f cs) => if off = 0 then (cs.mapM (toD ok h k)).map fun ds => .ref [.fn f ds] else none
    | none => none) else none

def St.cD (st : St) (c : C) : Option D := toD (fun _ => true) st.h 4 c

/-- The blocks that cells name, and that the boxes among these name. -/
def reach (h : List (Nat × Blk)) : Nat → List C → List Nat
  | 0, _ => []
  | k + 1, cs => cs.flatMap fun c => match c.id? with
    | none => []
    | some i => i :: (match lk i h with
      | some (.box bs) => reach h k bs
      | some (.fbox _ bs) => reach h k bs
      | _ => [])

def freezeG (h : List (Nat × Blk)) (ok : Nat → Bool) : Nat → C → C := fun i c => if ok i then (match toD ok h 4 c with | some x => .d x | none => .bad) else c

def rmAll {α : Type} (ok : Nat → Bool) (h : List (Nat × α)) : List (Nat × α) := h.filter fun e => !ok e.1

/-- What names one of these blocks becomes data; the blocks may not be written any more. -/
def St.freezeK (ok : Nat → Bool) (st : St) : St :=
  let s := st.on (freezeG st.h ok)
  { s with h := rmAll ok s.h }

def St.freeze (ids : List Nat) (st : St) : St :=
  match ids with
  | [] => st
  | i :: r => st.freezeK ((i :: r).contains ·)

/-- Cells that go into a row: data, and what they name is frozen. -/
def St.sealW (ids : List Nat) (cs : List C) (st : St) : Option (List D × St) :=
  (cs.mapM (toD (ids.contains ·) st.h 4)).map fun ds => (ds, st.freeze ids)
def St.shut (cs : List C) (st : St) : Option (List D × St) := st.sealW (reach st.h 5 cs) cs

/-! ### operands -/

def cCell : Value → Option C
  | .int k n => some (.d (.int k n))
  | .bool b => some (.d (.bool b))
  | .string s => some (.d (.str s))
  | .slice none 0 0 => some .nl
  | .pointer none => some (.d .nilPtr)
  | .nilFunc => some (.d .nilFn)
  | _ => none

def cVal : Value → Option V
  | .agg cs => (cs.toList.mapM cCell).map fun l => .u (.agg l)
  | v => (cCell v).map fun c => .u (.c c)

def St.ev (st : St) : Operand → Option V
  | .tmp t => lk t st.t
  | .const v => cVal v
  | .func f => some (.u (.c (.d (.fn f []))))
  | .global _ => none

def U.cells : U → List C
  | .c x => [x]
  | .agg cs => cs
  | .clo _ _ => [.bad]
/-- The cells that a value rests on. -/
def U.all : U → List C
  | .c x => [x]
  | .agg cs => cs
  | .clo _ cs => cs

def St.evU (st : St) (x : Operand) : Option U :=
  match st.ev x with
  | some (.u u) => some u
  | _ => none
def St.evC (st : St) (x : Operand) : Option C :=
  match st.ev x with
  | some (.u (.c c)) => some c
  | _ => none
def St.evI (st : St) (x : Operand) : Option (IntKind × Int) :=
  match st.ev x with
  | some (.u (.c (.d (.int k n)))) => some (k, n)
  | _ => none
def St.evB (st : St) (x : Operand) : Option Bool :=
  match st.ev x with
  | some (.u (.c (.d (.bool b)))) => some b
  | _ => none

def vI (k : IntKind) (n : Int) : V := .u (.c (.d (.int k n)))
def vB (b : Bool) : V := .u (.c (.d (.bool b)))
def vC (c : C) : V := .u (.c c)

/-! ### arithmetic -/

def chk (p : Prop) [Decidable p] : Option Unit := if p then some () else none

def inK (k : IntKind) (n : Int) : Prop := k.min ≤ n ∧ n ≤ k.max
instance (k : IntKind) (n : Int) : Decidable (inK k n) := inferInstanceAs (Decidable (_ ∧ _))

/-- A sum, a product ..: of a signed kind it must fit, of an unsigned one it is taken round. -/
def fitK (k : IntKind) (n : Int) : Option V :=
  if k.signed then (chk (inK k n)).map fun _ => vI k n else some (vI k (n % 2 ^ k.bits))

def andI (k : IntKind) (a b : Int) : Int := k.wrap (BitVec.ofInt k.bits a &&& BitVec.ofInt k.bits b).toNat
def orI (k : IntKind) (a b : Int) : Int := k.wrap (BitVec.ofInt k.bits a ||| BitVec.ofInt k.bits b).toNat
def xorI (k : IntKind) (a b : Int) : Int := k.wrap (BitVec.ofInt k.bits a ^^^ BitVec.ofInt k.bits b).toNat
def andNotI (k : IntKind) (a b : Int) : Int := k.wrap (BitVec.ofInt k.bits a &&& ~~~ (BitVec.ofInt k.bits b)).toNat
def shlI (k : IntKind) (a b : Int) : Int := k.wrap (a * 2 ^ min b.toNat k.bits)
def shrI (k : IntKind) (a b : Int) : Int := a.fdiv (2 ^ min b.toNat k.bits)

def binI (op : BinOp) (k : IntKind) (a b : Int) : Option V :=
  match op with
  | .add => fitK k (a + b)
  | .sub => fitK k (a - b)
  | .mul => fitK k (a * b)
  | .quo => (chk (b ≠ 0)).bind fun _ => fitK k (a.tdiv b)
  | .rem => (chk (b ≠ 0)).map fun _ => vI k (a.tmod b)
  | .eql => some (vB (decide (a = b)))
  | .neq => some (vB (!decide (a = b)))
  | .lss => some (vB (decide (a < b)))
  | .leq => some (vB (decide (a ≤ b)))
  | .gtr => some (vB (decide (b < a)))
  | .geq => some (vB (decide (b ≤ a)))
  | .and => some (vI k (andI k a b))
  | .or => some (vI k (orI k a b))
  | .xor => some (vI k (xorI k a b))
  | .andNot => some (vI k (andNotI k a b))
  | _ => none

def shiftI (op : BinOp) (k : IntKind) (a b : Int) : Option V :=
  match op with
  | .shl => (chk (0 ≤ b)).map fun _ => vI k (shlI k a b)
  | .shr => (chk (0 ≤ b)).map fun _ => vI k (shrI k a b)
  | _ => none

/-- '==' of two cells of numbers or bools; 'z': the zero of their type. -/
def eqD (z : C) (x y : C) : Option Bool :=
  match z, x, y with
  | .d (.int _ _), .d (.int k a), .d (.int k' b) => if k = k' then some (decide (a = b)) else none
  | .d (.bool _), .d (.bool a), .d (.bool b) => some (decide (a = b))
  | _, _, _ => none

def eqCs : List C → List C → List C → Option Bool
  | [], [], [] => some true
  | z :: q, a :: r, b :: s => (eqD z a b).bind fun e => (eqCs q r s).map fun f => e && f
  | _, _, _ => none

def binS (op : BinOp) (a b : ByteArray) : Option V :=
  match op with
  | .eql => some (vB (a.toList == b.toList))
  | .neq => some (vB (!(a.toList == b.toList)))
  | .add => (chk (a.size + b.size ≤ 140737488355328)).map fun _ => vC (.d (.str (a ++ b)))
  | _ => none

def eqV (i : TI) (x y : V) : Option Bool :=
  match x, y with
  | .u (.c a), .u (.c b) =>
    (match i.zero with
    | [.d (.bool _)] => if i.agg then none else (match a, b with
      | .d (.bool a), .d (.bool b) => some (decide (a = b))
      | _, _ => none)
    | [.d .nilFn] => if i.agg then none else (match a, b with
      | .d .nilFn, .d .nilFn => some true
      | .d (.fn _ _), .d .nilFn => some false
      | _, _ => none)
    | [.nl] => if i.agg then none else (match a, b with
      | .nl, .nl => some true
      | .d (.slice n _), .nl => if n = 0 then none else some false
      | _, _ => none)
    | _ => none)
  | .u (.agg xs), .u (.agg ys) => if i.flat then eqCs i.zero xs ys else none
  | _, _ => none

def eqOp (op : BinOp) (b : Bool) : Option V :=
  match op with
  | .eql => some (vB b)
  | .neq => some (vB !b)
  | _ => none

def binV (T : Tab) (op : BinOp) (t : TypeId) (x y : V) : Option V :=
  match x, y with
  | .u (.c (.d (.int k a))), .u (.c (.d (.int k' b))) =>
    (match op with
    | .shl => shiftI .shl k a b
    | .shr => shiftI .shr k a b
    | op => if k = k' then binI op k a b else none)
  | .u (.c (.d (.str a))), .u (.c (.d (.str b))) => binS op a b
  | x, y => (T t).bind fun i => (eqV i x y).bind (eqOp op)

/-! ### memory -/

def Blk.rd : Blk → Nat → Nat → Option (List C)
  | .row _ cs _, off, k => if off + k ≤ cs.length then some ((cut off k cs).map .d) else none
  | .box cs, off, k => if off + k ≤ cs.length then some (cut off k cs) else none
  | .fbox _ _, _, _ => none

def Blk.at : Blk → Nat → Option C
  | .row _ cs _, off => (cs[off]?).map .d
  | .box cs, off => cs[off]?
  | .fbox _ _, _ => none

def Blk.ld : Blk → Nat → Option U
  | .row _ cs _, off => (cs[off]?).map fun x => .c (.d x)
  | .box cs, off => (cs[off]?).map .c
  | .fbox f cs, off => if off = 0 then some (.clo f cs) else none

def splice {α : Type} (off : Nat) (new l : List α) : List α := l.take off ++ new ++ l.drop (off + new.length)

/-- Parts laid over a row of cells. -/
def fillCs (place : Nat → Option (Nat × Nat)) (cs : List C) : List (Nat × List C) → Option (List C)
  | [] => some cs
  | (i, v) :: r => (place i).bind fun p => if v.length = p.2 ∧ p.1 + p.2 ≤ cs.length then fillCs place (splice p.1 v cs) r else none

def St.load (i : TI) (c : C) (st : St) : Option U :=
  match c with
  | .ptr b off => (lk b st.h).bind fun k => if i.agg then (k.rd off i.size).map .agg else k.ld off
  | .d (.ref cs) => if i.agg then (if i.size ≤ cs.length then some (.agg ((cs.take i.size).map .d)) else none) else (cs[0]?).map fun x => .c (.d x)
  | _ => none

def St.storeB (b off : Nat) (v : List C) (st : St) : Blk → Option St
  | .box cs => if off + v.length ≤ cs.length then some (st.blk b (.box (splice off v cs))) else none
  | .row _ _ _ => (st.shut v).bind fun p => match lk b p.2.h with
    | some (.row sz cs app) => if off + p.1.length ≤ cs.length then some (p.2.blk b (.row sz (splice off p.1 cs) app)) else none
    | _ => none
  | .fbox _ _ => none

/-- A closure whose captures are live, into a box of one cell: it stays known. -/
def St.storeU (b off : Nat) (v : U) (st : St) (k : Blk) : Option St :=
  match v with
  | .clo f cs => (match k with | .box [_] => if off = 0 then some (st.blk b (.fbox f cs)) else none | k => st.storeB b off [.bad] k)
  | .c x => st.storeB b off [x] k
  | .agg xs => st.storeB b off xs k

def St.store (i : TI) (c : C) (v : U) (st : St) : Option St :=
  if v.cells.length = i.size then
    match c with
    | .ptr b off => (lk b st.h).bind (st.storeU b off v)
    | _ => none
  else none

def mk (d : Option Nat) (st : St) (b : Blk) (c : Nat → C) : Option St := d.map fun d => (st.new d b).put (some d) (vC (c d))

def St.evUs (st : St) : List (Nat × Operand) → Option (List (Nat × List C))
  | [] => some []
  | (i, x) :: r => (st.evU x).bind fun u => (st.evUs r).map fun l => (i, u.cells) :: l

def places (T : Tab) (i : TI) : Option (List (Nat × Nat)) := i.flds.mapM fun p => (T p.2).map fun j => (p.1, j.size)
def placeOf (ps : List (Nat × Nat)) (f : Nat) : Option (Nat × Nat) := ps[f]?
def arrPlace (sz : Nat) (i : Nat) : Option (Nat × Nat) := some (i * sz, sz)

def rep {α : Type} : Nat → List α → List α
  | 0, _ => []
  | n + 1, z => z ++ rep n z

def build (T : Tab) (i : TI) (parts : List (Nat × List C)) : Option U :=
  match i.arr with
  | some (_, e) => (T e).bind fun j => (fillCs (arrPlace j.size) i.zero parts).map .agg
  | none => if i.agg then (places T i).bind fun ps => (fillCs (placeOf ps) i.zero parts).map .agg else none

def sliceN (n : Nat) (lo hi : Option Int) (k : Nat → Nat → C) : Option C :=
  if 0 ≤ lo.getD 0 ∧ lo.getD 0 ≤ hi.getD n ∧ hi.getD n ≤ n then some (k (lo.getD 0).toNat ((hi.getD n).toNat - (lo.getD 0).toNat)) else none

def sliceS (x : C) (lo hi : Option Int) : Option C :=
  match x with
  | .d (.str s) => sliceN s.size lo hi fun l m => .d (.str (s.extract l (l + m)))
  | _ => none

def St.evO (st : St) : Option Operand → Option (Option Int)
  | none => some none
  | some x => (st.evI x).map fun p => some p.2

def big : Nat := 140737488355328

def St.appGo (e : TI) (d : Nat) (cs : List D) (n : Nat) (news : List D) (m : Nat) (st : St) : Option St :=
  if (n + m) * e.bytes ≤ big ∧ n + m ≤ big then some ((st.new d (.row e.size (cs ++ news) true)).put (some d) (vC (.sl d 0 (n + m)))) else none

/-- Appending: onto a row of the call's own, whole; onto nil. The new row takes the number of the place that is written. -/
def St.app (e : TI) (d : Nat) (x : C) (news : List D) (m : Nat) (st : St) : Option St :=
  match x with
  | .nl => st.appGo e d [] 0 news m
  | .sl i off n => (lk i st.h).bind fun b => match b with
    | .row sz cs app => if app = true ∧ off = 0 ∧ sz = e.size ∧ cs.length = n * sz then (st.drop i).appGo e d cs n news m else none
    | _ => none
  | _ => none

/-- The cells of a source of append or copy. -/
def St.src (e : TI) (x : C) (st : St) : Option (Nat × List D) :=
  match x with
  | .nl => some (0, [])
  | .d (.slice n cs) => if cs.length = n * e.size then some (n, cs) else none
  | .sl i off n => (lk i st.h).bind fun b => match b with
    | .row sz cs _ => if sz = e.size ∧ (off + n) * sz ≤ cs.length then some (n, cut (off * sz) (n * sz) cs) else none
    | _ => none
  | _ => none

/-- Is it the type string? -/
def isStr (i : TI) : Bool :=
  match i.agg, i.sl, i.arr, i.zero with
  | false, none, none, [.d (.str _)] => true
  | _, _, _, _ => false

def lenC : C → Option Nat
  | .nl => some 0
  | .sl _ _ n => some n
  | .d (.slice n _) => some n
  | _ => none
def lenS : C → Option Nat
  | .d (.str s) => some s.size
  | _ => none

def minmax (mx : Bool) (k : IntKind) : Int → List (IntKind × Int) → Option V
  | a, [] => some (vI k a)
  | a, (k', b) :: r => if k' = k then minmax mx k (if mx then (if a < b then b else a) else (if b < a then b else a)) r else none

def copyTo (e : TI) (d : Option Nat) (i off n : Nat) (st : St) (s : Nat × List D) : Blk → Option St
  | .row sz cs app =>
    if sz = e.size ∧ (off + n) * sz ≤ cs.length then
      some ((st.blk i (.row sz (splice (off * sz) (s.2.take (min s.1 n * sz)) cs) app)).put d (vI .i64 (min s.1 n : Nat)))
    else none
  | _ => none

def biLen (i : TI) (d : Option Nat) (st : St) (x : Operand) : Option St :=
  match i.arr with
  | some (n, _) => some (st.put d (vI .i64 n))
  | none => (st.evC x).bind fun c => (if i.sl.isSome then lenC c else if isStr i then lenS c else none).map fun (n : Nat) => st.put d (vI .i64 (n : Int))

/-- Elements become zero. -/
def clearTo (j : TI) (z : List D) (d : Option Nat) (st : St) : C → Option St
  | .nl => some (st.put d (.tup []))
  | .sl b off n => (lk b st.h).bind fun k => match k with
    | .row sz cs app => if sz = j.size ∧ (off + n) * sz ≤ cs.length then some ((st.blk b (.row sz (splice (off * sz) (rep n z) cs) app)).put d (.tup [])) else none
    | _ => none
  | _ => none

def stepBuiltin (T : Tab) (b : Builtin) (ts : List TypeId) (args : List Operand) (d : Option Nat) (st : St) : Option St :=
  match b, ts, args with
  | .len, [t], [x] => (T t).bind fun i => biLen i d st x
  | .append, [t, t'], [x, y] =>
    d.bind fun d => (T t).bind fun i => i.sl.bind fun e => (T e).bind fun j => (st.evC x).bind fun c => (st.evC y).bind fun s =>
      if t' = t then (st.src j s).bind fun p => st.app j d c p.2 p.1 else none
  | .copy, [t, t'], [x, y] =>
    (T t).bind fun i => i.sl.bind fun e => (T e).bind fun j => (st.evC x).bind fun c => (st.evC y).bind fun s =>
      match c with
      | .sl b off n => if t' = t then (st.src j s).bind fun p => (lk b st.h).bind (copyTo j d b off n st p) else none
      | _ => none
  | .min, _, x :: r => (st.evI x).bind fun p => (r.mapM st.evI).bind fun l => (minmax false p.1 p.2 l).map fun v => st.put d v
  | .clear, [t], [x] => (T t).bind fun i => i.sl.bind fun e => (T e).bind fun j => (st.evC x).bind fun c => (j.zero.mapM (toD (fun _ => false) st.h 4)).bind fun z => clearTo j z d st c
  | .max, _, x :: r => (st.evI x).bind fun p => (r.mapM st.evI).bind fun l => (minmax true p.1 p.2 l).map fun v => st.put d v
  | _, _, _ => none

def nilAssign (T : Tab) (ty : TypeId) (d : Option Nat) (st : St) : Option St :=
  d.bind fun d => (T ty).bind fun i => i.sl.bind fun e => (T e).map fun j => (st.new d (.row j.size [] true)).put (some d) (vC (.sl d 0 0))

def isPtr : C → Bool
  | .ptr _ _ => true
  | _ => false
/-- A slice literal: a row of data; pointers: a box, whose cells are they. -/
def bslGo (j : TI) (len : Nat) (d : Option Nat) (st : St) (l : List (Nat × List C)) : Option St :=
  if len * j.size ≤ 10000 ∧ len ≤ 10000 then (fillCs (arrPlace j.size) (rep len j.zero) l).bind fun cs =>
    if j.size = 1 ∧ cs.any isPtr = true then mk d st (.box cs) fun d => .sl d 0 len else (st.shut cs).bind fun p => mk d p.2 (.row j.size p.1 true) fun d => .sl d 0 len else none

def mkslGo (j : TI) (d : Option Nat) (st : St) (l c : Int) : Option St :=
  if 0 ≤ l ∧ l ≤ c ∧ c * j.bytes ≤ big ∧ c ≤ big then
    (j.zero.mapM st.cD).bind fun z => mk d st (.row j.size (rep l.toNat z) true) fun d => .sl d 0 l.toNat
  else none

def nilChk : C → Option C
  | .ptr i off => some (.ptr i off)
  | .d (.ref cs) => some (.d (.ref cs))
  | .d (.fn f caps) => some (.d (.fn f caps))
  | _ => none

def fldAddr (o : Nat) : C → Option C
  | .ptr i off => some (.ptr i (off + o))
  | .d (.ref cs) => some (.d (.ref (cs.drop o)))
  | _ => none

/-- Is the row there, with elements of this size? -/
def isRow (h : List (Nat × Blk)) (b sz : Nat) : Bool :=
  match lk b h with
  | some (.row sz' _ _) => decide (sz' = sz)
  | some (.box _) => decide (sz = 1)
  | _ => false

def sliceV (h : List (Nat × Blk)) (x : C) (lo hi : Option Int) (sz : Nat) : Option C :=
  match x with
  | .sl i off n => if isRow h i sz = true then sliceN n lo hi fun l m => .sl i (off + l) m else none
  | .nl => sliceN 0 lo hi fun _ _ => .nl
  | .d (.slice n cs) => if cs.length = n * sz then sliceN n lo hi fun l m => .d (.slice m (cut (l * sz) (m * sz) cs)) else none
  | _ => none

def idxSl (h : List (Nat × Blk)) (sz : Nat) (i : Int) : C → Option C
  | .sl b off n => if 0 ≤ i ∧ i < n ∧ isRow h b sz = true then some (.ptr b ((off + i.toNat) * sz)) else none
  | .d (.slice n cs) => if 0 ≤ i ∧ i < n ∧ cs.length = n * sz then some (.d (.ref (cs.drop (i.toNat * sz)))) else none
  | _ => none
def idxArr (n sz : Nat) (i : Int) : C → Option C
  | .ptr b off => if 0 ≤ i ∧ i < n then some (.ptr b (off + i.toNat * sz)) else none
  | .d (.ref cs) => if 0 ≤ i ∧ i < n then some (.d (.ref (cs.drop (i.toNat * sz)))) else none
  | _ => none
def idxAddr (T : Tab) (h : List (Nat × Blk)) (i : TI) (n : Int) (c : C) : Option C :=
  match i.arr with
  | some (m, e) => (T e).bind fun j => idxArr m j.size n c
  | none => i.sl.bind fun e => (T e).bind fun j => idxSl h j.size n c

/-- A part of a struct or an array. -/
def part (j : TI) (off : Nat) (cs : List C) : Option U :=
  if j.agg then (if off + j.size ≤ cs.length then some (.agg (cut off j.size cs)) else none) else (cs[off]?).map .c

def fieldOf (T : Tab) (i : TI) (f : Nat) : U → Option U
  | .agg cs => (i.flds[f]?).bind fun p => (T p.2).bind fun j => part j p.1 cs
  | _ => none

def indexOf (T : Tab) (i : TI) (n : Int) : U → Option U
  | .agg cs => i.arr.bind fun p => (T p.2).bind fun j => if 0 ≤ n ∧ n < p.1 then part j (n.toNat * j.size) cs else none
  | .c (.d (.str s)) => if isStr i = true ∧ 0 ≤ n ∧ n < s.size then (s[n.toNat]?).map fun b => .c (.d (.int .u8 b.toNat)) else none
  | _ => none

def tupAt (i : Nat) : V → Option U
  | .tup us => us[i]?
  | _ => none

def convI (i : TI) (n : Int) : Option V :=
  if i.agg then none else
  match i.zero with
  | [.d (.int k _)] => some (vI k (k.wrap n))
  | _ => none

def pickV (b : Bool) (x y : Option V) : Option V := if b then x else y

/-- A closure: of data alone it is data. -/
def clo (h : List (Nat × Blk)) (f : FuncId) (cs : List C) : U :=
  match cs.mapM (toD (fun _ => false) h 4) with
  | some ds => .c (.d (.fn f ds))
  | none => .clo f cs

def stepOp (T : Tab) (o : Oper) (st : St) : Option St :=
  match o.op with
  | .assign (.const (.slice none 0 0)) => nilAssign T o.type o.dst st
  | .move x | .assign x => (st.ev x).map fun v => st.put o.dst v
  | .pick c a b => (st.evB c).bind fun c => (pickV c (st.ev a) (st.ev b)).map fun v => st.put o.dst v
  | .alloc t => (T t).bind fun i => mk o.dst st (.box i.zero) fun d => .ptr d 0
  | .box t x => (T t).bind fun i => (st.evU x).bind fun u => if u.cells.length = i.size then mk o.dst st (.box u.cells) (fun d => .ptr d 0) else none
  | .build t parts => (T t).bind fun i => (st.evUs parts.toList).bind fun l => (build T i l).map fun u => st.put o.dst (.u u)
  | .buildSlice t len parts => (T t).bind fun i => i.sl.bind fun e => (T e).bind fun j => (st.evUs parts.toList).bind (bslGo j len o.dst st)
  | .load t a => (T t).bind fun i => (st.evC a).bind fun c => (st.load i c).map fun u => st.put o.dst (.u u)
  | .store t a x => (T t).bind fun i => (st.evC a).bind fun c => (st.evU x).bind fun u => (st.store i c u).map fun s => s.put o.dst (.tup [])
  | .nilCheck x => (st.evC x).bind fun c => (nilChk c).map fun c => st.put o.dst (vC c)
  | .binOp op t x y _ => (st.ev x).bind fun a => (st.ev y).bind fun b => (binV T op t a b).map fun v => st.put o.dst v
  | .unOp .not _ x => (st.evB x).map fun b => st.put o.dst (vB !b)
  | .unOp .neg _ x => (st.evI x).bind fun p => (fitK p.1 (0 - p.2)).map fun v => st.put o.dst v
  | .convert s t x => (T s).bind fun _ => (T t).bind fun i => (st.evI x).bind fun p => (convI i p.2).map fun v => st.put o.dst v
  | .makeSlice t l c => (T t).bind fun i => i.sl.bind fun e => (T e).bind fun j => (st.evI l).bind fun l => (st.evI c).bind fun c => mkslGo j o.dst st l.2 c.2
  | .slice t x lo hi none => (T t).bind fun i => (st.evC x).bind fun c => (st.evO lo).bind fun l => (st.evO hi).bind fun h =>
      (match i.sl with | some e => (T e).bind fun j => sliceV st.h c l h j.size | none => if isStr i then sliceS c l h else none).map fun v => st.put o.dst (vC v)
  | .fieldAddr t x f => (T t).bind fun i => (st.evC x).bind fun c => (i.flds[f]?).bind fun p => (T p.2).bind fun j => if j.size = 0 then none else (fldAddr p.1 c).map fun c => st.put o.dst (vC c)
  | .field t x f => (T t).bind fun i => (st.evU x).bind fun u => (fieldOf T i f u).map fun u => st.put o.dst (.u u)
  | .indexAddr t x i => (T t).bind fun ti => (st.evC x).bind fun c => (st.evI i).bind fun n => (idxAddr T st.h ti n.2 c).map fun c => st.put o.dst (vC c)
  | .index t x i => (T t).bind fun ti => (st.evU x).bind fun u => (st.evI i).bind fun n => (indexOf T ti n.2 u).map fun u => st.put o.dst (.u u)
  | .extract x i => (st.ev x).bind fun v => (tupAt i v).map fun u => st.put o.dst (.u u)
  | .makeFunc (.func f) first captured => if first.toList = [] then (captured.toList.mapM st.evC).map fun cs => st.put o.dst (.u (clo st.h f cs)) else none
  | .call { callee := .builtin b, args, argTypes } => stepBuiltin T b argTypes.toList args.toList o.dst st
  | _ => none

/-! ### calls -/

def U.toA (ids : List Nat) (h : List (Nat × Blk)) : U → Option A
  | .c x => (toD (ids.contains ·) h 4 x).map .c
  | .agg cs => (cs.mapM (toD (ids.contains ·) h 4)).map .agg
  | .clo f cs => (cs.mapM (toD (ids.contains ·) h 4)).map fun ds => .c (.fn f ds)

def D.flat : D → Bool
  | .slice _ _ => false
  | .ref _ => false
  | .fn _ _ => false
  | _ => true
def RC.flat : RC → Bool
  | .d x => x.flat
  | .own _ _ cs => cs.all D.flat
def RU.flat : RU → Bool
  | .c x => x.flat
  | .agg cs => cs.all RC.flat
def R.flat : R → Bool
  | .u x => x.flat
  | .tup xs => xs.all RU.flat

/-- A result's cells in the caller: a row to go on with (one at most) is a new block. -/
def RC.imp (k : Nat) : RC → C
  | .d x => .d x
  | .own _ n _ => .sl k 0 n
def RU.imp (k : Nat) : RU → U
  | .c x => .c (x.imp k)
  | .agg cs => .agg (cs.map (RC.imp k))
def R.imp (k : Nat) : R → V
  | .u x => .u (x.imp k)
  | .tup xs => .tup (xs.map (RU.imp k))

def RC.rows : RC → List Blk
  | .d _ => []
  | .own sz _ cs => [.row sz cs true]
def RU.rows : RU → List Blk
  | .c x => x.rows
  | .agg cs => cs.flatMap RC.rows
def R.rows : R → List Blk
  | .u x => x.rows
  | .tup xs => xs.flatMap RU.rows

/-- Behind a call: the result in its place. -/
def St.back (dst : Option Nat) (passed : List Nat) (res : R) (st : St) : St :=
  let s := if res.flat then st else st.freeze passed
  let k := dst.getD 0
  (match res.rows with | [] => s | b :: _ => s.new k b).put dst (res.imp k)

/-- Behind a call that has written blocks of the caller's own. -/
def St.backW (dst : Option Nat) (ids : List Nat) (h2 : List (Nat × Blk)) (res : R) (st : St) : St :=
  ({ st with h := h2 ++ rmAll (ids.contains ·) st.h } : St).put dst (res.imp 0)

def St.argsW (st : St) (ids : List Nat) (us : List U) (caps : List D) : Option (List A) := (us.mapM (U.toA ids st.h)).map fun as => as ++ caps.map .c
def St.reachU (st : St) (us : List U) : List Nat := reach st.h 5 (us.flatMap U.all)

end Go.Va

/-
  How the value-level reading stands to the model's memory; contracts of calls; the walk at the level of values.
-/
namespace Go.Va
open Go.RowKit

/-- A row of cells of the call's own: its block, its first cell, cells an element, elements in all; 'gone': it is the call's own no more. -/
structure Own where
  g : Nat
  o : Nat
  sz : Nat
  room : Nat
  app : Bool
  nil : Bool
  gone : Bool := nil

def Own.has (x : Own) (a : Addr) : Prop := x.gone = false ∧ a.block = x.g ∧ x.o ≤ a.off ∧ a.off < x.o + x.room * x.sz

abbrev Own.at (x : Own) (j : Nat) : Addr := ⟨x.g, x.o + j, none⟩

/-- The value of one cell. -/
abbrev one (v : Value) : Prop := v.oneCell' = true

inductive RepD (w : World) (Z : Addr → Prop) : D → Value → Prop
  | int (k : IntKind) (n : Int) : RepD w Z (.int k n) (.int k n)
  | bool (b : Bool) : RepD w Z (.bool b) (.bool b)
  | str (s : ByteArray) : RepD w Z (.str s) (.string s)
  | slice (n : Nat) (cs : List D) (a : Addr) (c : Nat) (vs : Nat → Value) (hs : cs ≠ [] → a.spot = none) (hn : n ≤ c) (hc : c ≤ maxLen)
      (h1 : ∀ (j : Nat) (x : D), cs[j]? = some x → w.cell? ⟨a.block, a.off + j, none⟩ = some (vs j))
      (h2 : ∀ (j : Nat) (x : D), cs[j]? = some x → ¬ Z ⟨a.block, a.off + j, none⟩)
      (h3 : ∀ (j : Nat) (x : D), cs[j]? = some x → RepD w Z x (vs j)) : RepD w Z (.slice n cs) (.slice (some a) n c)
  | snil : RepD w Z (.slice 0 []) (.slice none 0 0)
  | ref (cs : List D) (a : Addr) (vs : Nat → Value) (hs : cs ≠ [] → a.spot = none)
      (h1 : ∀ (j : Nat) (x : D), cs[j]? = some x → w.cell? ⟨a.block, a.off + j, none⟩ = some (vs j))
      (h2 : ∀ (j : Nat) (x : D), cs[j]? = some x → ¬ Z ⟨a.block, a.off + j, none⟩)
      (h3 : ∀ (j : Nat) (x : D), cs[j]? = some x → RepD w Z x (vs j)) : RepD w Z (.ref cs) (.pointer (some a))
  | fn (f : FuncId) (caps : List D) (vs : List Value) (hl : caps.length = vs.length)
      (h3 : ∀ (j : Nat) (x : D) (v : Value), caps[j]? = some x → vs[j]? = some v → RepD w Z x v) : RepD w Z (.fn f caps) (.func (.func f) #[] vs.toArray)
  | nilFn : RepD w Z .nilFn .nilFunc
  | nilPtr : RepD w Z .nilPtr (.pointer none)
  | lit (x : Value) (h : one x) : RepD w Z (.lit x) x
  | any (x : Value) (h : one x) : RepD w Z .any x

abbrev Rho := Nat → Option Own

/-- The cells that no data rests on: those kept out from outside, and those of the call's own. -/
def Out (ρ : Rho) (Z : Addr → Prop) (a : Addr) : Prop := Z a ∨ ∃ i o, ρ i = some o ∧ o.has a

def RepC (ρ : Rho) (w : World) (Z : Addr → Prop) : C → Value → Prop
  | .d x, v => RepD w (Out ρ Z) x v
  | .nl, v => v = .slice none 0 0
  | .sl i off n, v => ∃ o, ρ i = some o ∧ off + n ≤ o.room ∧
      ((o.nil = true ∧ v = .slice none 0 0 ∧ off = 0 ∧ n = 0) ∨
       (o.nil = false ∧ ∃ a c, v = .slice (some a) n c ∧ n ≤ c ∧ c ≤ maxLen ∧ (c = 0 ∨ a = o.at (off * o.sz)) ∧ (o.app = true → off + c ≤ o.room)))
  | .ptr i off, v => ∃ o, ρ i = some o ∧ o.nil = false ∧ v = .pointer (some (o.at off))
  | .bad, v => one v

def RepL {α : Type} (r : α → Value → Prop) (xs : List α) (vs : List Value) : Prop :=
  xs.length = vs.length ∧ ∀ (j : Nat) (x : α) (v : Value), xs[j]? = some x → vs[j]? = some v → r x v

def RepU (ρ : Rho) (w : World) (Z : Addr → Prop) : U → Value → Prop
  | .c x, v => RepC ρ w Z x v
  | .agg cs, v => ∃ vs : List Value, v = .agg vs.toArray ∧ RepL (RepC ρ w Z) cs vs
  | .clo f cs, v => ∃ vs : List Value, v = .func (.func f) #[] vs.toArray ∧ RepL (RepC ρ w Z) cs vs

def RepV (ρ : Rho) (w : World) (Z : Addr → Prop) : V → Value → Prop
  | .u x, v => RepU ρ w Z x v
  | .tup xs, v => ∃ vs : List Value, v = .tuple vs.toArray ∧ RepL (RepU ρ w Z) xs vs
  | .tr _ _, _ => True

def RepB (ρ : Rho) (w : World) (Z : Addr → Prop) (o : Own) : Blk → Prop
  | .row sz cs app => o.sz = sz ∧ o.app = app ∧ cs.length ≤ o.room * sz ∧ ((o.nil = true → o.room = 0) ∧ o.gone = o.nil) ∧
      ∀ (j : Nat) (x : D), cs[j]? = some x → ∃ v, w.cell? (o.at j) = some v ∧ RepD w (Out ρ Z) x v
  | .box cs => o.sz = 1 ∧ o.room = cs.length ∧ (o.nil = false ∧ o.gone = false) ∧
      ∀ (j : Nat) (c : C), cs[j]? = some c → ∃ v, w.cell? (o.at j) = some v ∧ one v ∧ RepC ρ w Z c v
  | .fbox f cs => o.sz = 1 ∧ o.room = 1 ∧ (o.nil = false ∧ o.gone = false) ∧ ∃ v, w.cell? (o.at 0) = some v ∧ RepU ρ w Z (.clo f cs) v

/-- Nothing that lies there has turned. -/
structure Ext (w w' : World) : Prop extends Below w.heap.size w w' where
  drawn : w.drawn ≤ w'.drawn

/-- What a run may change of old memory: the cells of M. -/
structure Fr (M : Addr → Prop) (w0 w : World) : Prop where
  os : w.os = w0.os
  drawn : w0.drawn ≤ w.drawn
  tape : w.tape = w0.tape
  output : w.output = w0.output
  size : w0.heap.size ≤ w.heap.size
  cell : ∀ (a : Addr) (v : Value), ¬ M a → w0.cell? a = some v → w.cell? a = some v
  frz : ∀ a : Addr, a.block < w0.heap.size → w.frozen? a = w0.frozen? a
  blk : ∀ k, k < w0.heap.size → (∀ a : Addr, a.block = k → ¬ M a) → w.heap[k]? = w0.heap[k]?

/-- The rows of the call's own: they lie there, nothing of them is frozen, no two meet. -/
structure Owns (ρ : Rho) (w : World) : Prop where
  cells : ∀ i o, ρ i = some o → o.gone = false → ∀ j, j < o.room * o.sz → (∃ v, w.cell? (o.at j) = some v) ∧ w.frozen? (o.at j) = false
  apart : ∀ i i' o o', ρ i = some o → ρ i' = some o' → i ≠ i' → ∀ a, o.has a → ¬ o'.has a
  lim : ∀ i o, ρ i = some o → o.room ≤ maxLen

structure Heap (ρ : Rho) (w : World) (Z : Addr → Prop) (h : List (Nat × Blk)) : Prop where
  owns : Owns ρ w
  rep : ∀ i b, lk i h = some b → ∃ o, ρ i = some o ∧ RepB ρ w Z o b

/-- A state of the walk and one of the model. -/
structure Rel (M : Addr → Prop) (Z : Addr → Prop) (w0 : World) (ρ : Rho) (st : St) (a : Act) (w : World) : Prop where
  fr : Fr M w0 w
  heap : Heap ρ w Z st.h
  mine : ∀ i o ad, ρ i = some o → o.has ad → M ad ∨ w0.heap.size ≤ ad.block
  out : ∀ ad, Z ad → ad.block < w0.heap.size
  mz : ∀ ad, M ad → ¬ Z ad
  tmps : ∀ t v, lk t st.t = some v → RepV ρ w Z v (a.tmps.getD t undef)
  defers : a.defers = []

/-! ### contracts -/

def A.rep (w : World) (Z : Addr → Prop) : A → Value → Prop
  | .c x, v => RepD w Z x v
  | .agg cs, v => ∃ vs : List Value, v = .agg vs.toArray ∧ RepL (RepD w Z) cs vs

def single (k : Nat) (bs : List Blk) (o : Own) : Rho := fun i => match bs with | [] => none | _ => if i = k then some o else none

/-- What stands behind a call: its result, at whatever number its row gets. -/
def RepRes (w w' : World) (Z : Addr → Prop) (r : R) (v : Value) : Prop :=
  r.rows.length ≤ 1 ∧ ∃ o : Own, (∀ ad, o.has ad → w.heap.size ≤ ad.block) ∧
    ∀ k, RepV (single k r.rows o) w' Z (r.imp k) v ∧ Heap (single k r.rows o) w' Z (match r.rows with | [] => [] | b :: _ => [(k, b)])

/-- A function with a Go body. -/
def FnOk (P : Program) (f : FuncId) : Prop := ∃ fn, P.funcs[f]? = some fn ∧ fn.body.isSome = true ∧ (fn.name == "runtime.NumGoroutine") = false

/-- Called with this data, in whatever memory, the function returns this. -/
def CallsF (P : Program) (f : FuncId) (as : List A) (r : R) : Prop :=
  FnOk P f ∧ ∀ (w : World) (Z : Addr → Prop) (vals : List Value), (∀ ad, Z ad → ad.block < w.heap.size) → RepL (A.rep w Z) as vals →
    Calls P f vals.toArray w fun e w' => ∃ v, e = .returned v ∧ Ext w w' ∧ RepRes w w' Z r v

/-- The cells of these rows. -/
def Cells (ρ : Rho) (a : Addr) : Prop := ∃ i o, ρ i = some o ∧ o.has a
/-- Called with these values, over blocks of the caller's own, the function returns this, and has made this of the blocks. -/
def CallsW (P : Program) (f : FuncId) (us : List U) (h h' : List (Nat × Blk)) (r : R) : Prop :=
  FnOk P f ∧ r.rows = [] ∧ ∀ (w : World) (Z : Addr → Prop) (ρ : Rho) (vals : List Value), (∀ ad, Z ad → ad.block < w.heap.size) → Heap ρ w Z h → (∀ ad, Cells ρ ad → ¬ Z ad) → (∀ i o, ρ i = some o → (lk i h).isSome = true) →
    RepL (RepU ρ w Z) us vals →
    Calls P f vals.toArray w fun e w' => ∃ v, e = .returned v ∧ Fr (Cells ρ) w w' ∧ Heap ρ w' Z h' ∧ RepV (fun _ => none) w' (Out ρ Z) (r.imp 0) v

/-! ### functions that hand on to a function value -/

/-- A function value that is called again and again, and what it works on: 'J rest R D w': this will still be handed to it; it may write the cells of R; what it knows rests on cells of D. -/
structure Yl where
  g : FuncId
  caps : List Value
  J : List (List A) → (Addr → Prop) → (Addr → Prop) → World → Prop
def Yl.x (Y : Yl) : Value := .func (.func Y.g) #[] Y.caps.toArray

structure YlOk (P : Program) (Y : Yl) : Prop where
  sub : ∀ rest R D w, Y.J rest R D w → (∀ ad, R ad → D ad) ∧ (∀ ad, D ad → ad.block < w.heap.size)
  stable : ∀ rest R D (w w' : World) (M : Addr → Prop), Y.J rest R D w → (∀ ad, M ad → ¬ D ad) → Fr M w w' → Y.J rest R D w'
  step : ∀ y rest R (D D2 : Addr → Prop) (w : World) (vals : List Value), Y.J (y :: rest) R D w → (∀ ad, D ad → D2 ad) → (∀ ad, D2 ad → ad.block < w.heap.size) → RepL (A.rep w fun ad => R ad ∨ ¬ D2 ad) y vals →
    FnOk P Y.g ∧ Calls P Y.g (vals ++ Y.caps).toArray w fun e w' => e = .returned (.tuple #[]) ∧ ∃ R' D', Y.J rest R' D' w' ∧ Fr R w w' ∧ (∀ ad, R' ad → R ad ∨ w.heap.size ≤ ad.block) ∧ (∀ ad, D' ad → D2 ad ∨ w.heap.size ≤ ad.block) ∧ (∀ ad, D ad → D' ad)

/-- Called with this data and the function value 'x', the function calls 'x' with these, one behind the other, and does nothing else. -/
def Emits (P : Program) (x : Value) (f : FuncId) (as : List A) (ys : List (List A)) : Prop :=
  FnOk P f ∧ ∀ (Y : Yl), Y.x = x → YlOk P Y → ∀ (w : World) (Z : Addr → Prop) (vals : List Value) (rest : List (List A)) (R D : Addr → Prop),
    Y.J (ys ++ rest) R D w → (∀ ad, Z ad → ad.block < w.heap.size) → (∀ ad, R ad → Z ad) → RepL (A.rep w Z) as vals →
    Calls P f vals.toArray w fun e w' => e = .returned (.tuple #[]) ∧ ∃ R' D', Y.J rest R' D' w' ∧ Fr R w w' ∧ (∀ ad, R' ad → R ad ∨ w.heap.size ≤ ad.block) ∧ (∀ ad, D' ad → D ad ∨ ¬ Z ad ∨ w.heap.size ≤ ad.block) ∧ (∀ ad, D ad → D' ad)

/-- A function value with live captures, called with this data, makes these blocks of its own into those. -/
def CallsX (P : Program) (f : FuncId) (y : List A) (cs : List C) (h h' : List (Nat × Blk)) : Prop :=
  FnOk P f ∧ ∀ (w : World) (Z : Addr → Prop) (ρ : Rho) (vals cvals : List Value), (∀ ad, Z ad → ad.block < w.heap.size) → Heap ρ w Z h → (∀ ad, Cells ρ ad → ¬ Z ad) → (∀ i o, ρ i = some o → (lk i h).isSome = true) →
    RepL (A.rep w (Out ρ Z)) y vals → RepL (RepC ρ w Z) cs cvals →
    Calls P f (vals ++ cvals).toArray w fun e w' => e = .returned (.tuple #[]) ∧ ∃ ρ', Fr (Cells ρ) w w' ∧ Heap ρ' w' Z h' ∧ (∀ i o, ρ' i = some o → (lk i h').isSome = true) ∧ (∀ ad, Cells ρ' ad → Cells ρ ad ∨ w.heap.size ≤ ad.block) ∧ RepL (RepC ρ' w' Z) cs cvals

/-- Called with a row of the caller's own, which is given up, the function hands back a row (it may be the same). -/
def CallsA (P : Program) (f : FuncId) (sz n : Nat) (cs : List D) (as : List A) (m : Nat) (cs' : List D) : Prop :=
  FnOk P f ∧ ∀ (w : World) (Z : Addr → Prop) (ρ : Rho) (k : Nat) (v0 : Value) (vals : List Value), (∀ ad, Z ad → ad.block < w.heap.size) → Heap ρ w Z [(k, .row sz cs true)] → (∀ ad, Cells ρ ad → ¬ Z ad) → (∀ i o, ρ i = some o → i = k) →
    RepC ρ w Z (.sl k 0 n) v0 → RepL (A.rep w (Out ρ Z)) as vals →
    Calls P f (v0 :: vals).toArray w fun e w' => ∃ v, e = .returned v ∧ ∃ ρ', Fr (Cells ρ) w w' ∧ Heap ρ' w' Z [(k, .row sz cs' true)] ∧ (∀ i o, ρ' i = some o → i = k) ∧ (∀ ad, Cells ρ' ad → Cells ρ ad ∨ w.heap.size ≤ ad.block) ∧ RepC ρ' w' Z (.sl k 0 m) v

/-! ### the walk -/

/-- 'o' is there, and 'k' holds of it. -/
def wpo {α : Type} (o : Option α) (k : α → Prop) : Prop := ∃ x, o = some x ∧ k x
theorem wpo_some {α : Type} (x : α) (k : α → Prop) : wpo (some x) k = k x := by simp [wpo]
theorem wpo_none {α : Type} (k : α → Prop) : wpo none k = False := by simp [wpo]
theorem wpo_ite {α : Type} (c : Prop) [Decidable c] (x : Option α) (k : α → Prop) : wpo (if c then x else none) k = (c ∧ wpo x k) := by
  by_cases h : c <;> simp [wpo, h]
def bindK {α β : Type} (f : α → Option β) (k : β → Prop) (x : α) : Prop := wpo (f x) k
theorem wpo_bind {α β : Type} (o : Option α) (f : α → Option β) (k : β → Prop) : wpo (o.bind f) k = wpo o (bindK f k) := by
  cases o <;> simp [wpo, bindK]
def mapK {α β : Type} (f : α → β) (k : β → Prop) (x : α) : Prop := k (f x)
theorem wpo_map {α β : Type} (o : Option α) (f : α → β) (k : β → Prop) : wpo (o.map f) k = wpo o (mapK f k) := by
  cases o <;> simp [wpo, mapK]

/-- A call by its contract. -/
def wpCall (P : Program) (g : FuncId) (as : List A) (k : R → Prop) : Prop := ∃ res, CallsF P g as res ∧ k res
def backK (dst : Option Nat) (ids : List Nat) (K : St → Prop) (st : St) (res : R) : Prop := K (st.back dst ids res)
def goK (P : Program) (dst : Option Nat) (st : St) (K : St → Prop) (g : FuncId) (ids : List Nat) (as : List A) : Prop := wpCall P g as (backK dst ids K st)
def inIds (ids : List Nat) (cs : List C) : Prop := ∀ c ∈ cs, ∀ i, c.id? = some i → i ∈ ids
def boxIds (ids : List Nat) : Blk → Prop
  | .row _ _ _ => True
  | .box cs => inIds ids cs
  | .fbox _ cs => inIds ids cs
/-- A call that writes blocks of the caller's own: these alone. -/
def ioK (P : Program) (dst : Option Nat) (st : St) (K : St → Prop) (g : FuncId) (caps : List D) (us : List U) : Prop :=
  ∃ (ids : List Nat) (r : R) (h1 h2 : List (Nat × Blk)), CallsW P g (us ++ caps.map fun d => .c (.d d)) h1 h2 r ∧ (∀ u ∈ us, inIds ids u.all) ∧
    (∀ i b, lk i h1 = some b → i ∈ ids ∧ lk i st.h = some b ∧ boxIds ids b) ∧ (∀ i ∈ ids, (lk i h1).isSome = true) ∧ K (st.backW dst ids h2 r)
def unitR : R := .tup []
/-- What is still to be handed on. -/
def St.rest (x : Value) (l : List (List A)) (st : St) : St := { st with t := (YS, .tr x l) :: rm YS st.t }
/-- What stands behind a call that hands on. -/
def St.backY (dst : Option Nat) (ids : List Nat) (x : Value) (l : List (List A)) (st : St) : St := ((st.freeze ids).put dst (.tup [])).rest x l
/-- A call that hands on to the function value that came in. -/
def emK (P : Program) (dst : Option Nat) (st : St) (K : St → Prop) (g : FuncId) (caps : List D) (us : List U) : Prop :=
  ∃ (x : Value) (ys rest : List (List A)) (as : List A), lk YS st.t = some (.tr x (ys ++ rest)) ∧ st.argsW (st.reachU us) us caps = some as ∧ Emits P x g as ys ∧ K (st.backY dst (st.reachU us) x rest)
/-- A call with a function value of the call's own, which hands on. -/
def ebK (P : Program) (dst : Option Nat) (st : St) (K : St → Prop) (g : FuncId) (caps : List D) (us : List U) : Prop :=
  caps = [] ∧ ∃ (x : Value) (ys rest : List (List A)) (as : List A) (f : FuncId) (cl : List D) (zs : List A → List (List A)), lk YS st.t = some (.tr x (ys.flatMap zs ++ rest)) ∧
    us.mapM (U.toA (st.reachU us) st.h) = some (as ++ [.c (.fn f cl)]) ∧ (∀ x', Emits P x' g (as ++ [.c (.lit x')]) ys) ∧ (∀ y ∈ ys, Emits P x f (y ++ cl.map .c) (zs y)) ∧ K (st.backY dst (st.reachU us) x rest)
/-- What still names these blocks: pointers that the function value bears. -/
def keepG (ids : List Nat) (cs : List C) : Nat → C → C := fun i c => if ids.contains i then (match c with | .ptr _ _ => if cs.any (fun e => match e with | .ptr j _ => j == i | _ => false) then c else .bad | _ => .bad) else c
def St.backX (dst : Option Nat) (ids nw fz : List Nat) (cs : List C) (h2 : List (Nat × Blk)) (st : St) : St :=
  ({ (purges nw (st.freeze fz)).on (keepG ids cs) with h := h2 ++ rmAll (ids.contains ·) ((purges nw (st.freeze fz)).on (keepG ids cs)).h } : St).put dst (.tup [])
/-- What is asked of the blocks of a function value with live captures. -/
structure HbOk (st : St) (cs : List C) (hA hB : List (Nat × Blk)) (fz ids nw : List Nat) : Prop where
  frz : ∀ i ∈ ids, i ∉ fz
  caps : inIds ids cs
  old : ∀ i b, lk i hA = some b → i ∈ ids ∧ lk i (purges nw (st.freeze fz)).h = some b ∧ boxIds ids b
  here : ∀ i ∈ ids, (lk i hA).isSome = true
  free : ∀ i ∈ nw, i ∉ ids
  new : ∀ i b, lk i hB = some b → i ∈ ids ∨ i ∈ nw
/-- A call with a function value of the call's own, whose captures are live. -/
def hbK (P : Program) (dst : Option Nat) (st : St) (K : St → Prop) (g : FuncId) (caps : List D) (us : List U) : Prop :=
  caps = [] ∧ ∃ (us0 : List U) (f : FuncId) (cs : List C) (as : List A) (ys : List (List A)) (H : List (List A) → List (Nat × Blk)) (fz ids nw : List Nat), us = us0 ++ [.clo f cs] ∧
    us0.mapM (U.toA fz st.h) = some as ∧ (∀ x', Emits P x' g (as ++ [.c (.lit x')]) ys) ∧ (∀ y rest, (y :: rest) <:+ ys → CallsX P f y cs (H (y :: rest)) (H rest)) ∧
    HbOk st cs (H ys) (H []) fz ids nw ∧ K (st.backX dst ids nw fz cs (H []))
/-- The same, by a function value in between that hands on. -/
def h2K (P : Program) (dst : Option Nat) (st : St) (K : St → Prop) (g : FuncId) (caps : List D) (us : List U) : Prop :=
  caps = [] ∧ ∃ (us0 : List U) (f0 k : Nat) (f : FuncId) (cs : List C) (as : List A) (ys : List (List A)) (zs : List A → List (List A)) (H : List (List A) → List (Nat × Blk)) (fz ids nw : List Nat), us = us0 ++ [.clo f0 [.ptr k 0]] ∧ lk k st.h = some (.fbox f cs) ∧ k ∈ fz ∧
    us0.mapM (U.toA fz st.h) = some as ∧ (∀ x', Emits P x' g (as ++ [.c (.lit x')]) ys) ∧ (∀ x y, y ∈ ys → Emits P x f0 (y ++ [.c (.ref [.lit x])]) (zs y)) ∧
    (∀ y rest, (y :: rest) <:+ ys.flatMap zs → CallsX P f y cs (H (y :: rest)) (H rest)) ∧
    HbOk st cs (H (ys.flatMap zs)) (H []) fz ids nw ∧ K (st.backX dst ids nw fz cs (H []))
/-- A call to which a row of the call's own is given up. -/
def caK (P : Program) (dst : Option Nat) (st : St) (K : St → Prop) (g : FuncId) (caps : List D) (us : List U) : Prop :=
  caps = [] ∧ ∃ (k n sz m d : Nat) (cs cs' : List D) (us' : List U) (as : List A), us = .c (.sl k 0 n) :: us' ∧ lk k st.h = some (.row sz cs true) ∧ us'.mapM (U.toA [] st.h) = some as ∧ dst = some d ∧ CallsA P g sz n cs as m cs' ∧
    K (((st.drop k).new d (.row sz cs' true)).put (some d) (vC (.sl d 0 m)))
/-- Calls that do not only read. -/
def inK' (P : Program) (dst : Option Nat) (st : St) (K : St → Prop) (g : FuncId) (caps : List D) (us : List U) : Prop :=
  ioK P dst st K g caps us ∨ emK P dst st K g caps us ∨ ebK P dst st K g caps us ∨ (hbK P dst st K g caps us ∨ h2K P dst st K g caps us) ∨ caK P dst st K g caps us
def argK (P : Program) (dst : Option Nat) (st : St) (K : St → Prop) (g : FuncId) (caps : List D) (us : List U) : Prop :=
  wpo (st.argsW (st.reachU us) us caps) (goK P dst st K g (st.reachU us)) ∨ inK' P dst st K g caps us
def cloK (P : Program) (dst : Option Nat) (st : St) (K : St → Prop) (g : FuncId) (cs : List C) (us : List U) : Prop := argK P dst st K g [] (us ++ cs.map .c)
/-- The function value that came in is called. -/
def litK (dst : Option Nat) (st : St) (K : St → Prop) (x : Value) (us : List U) : Prop :=
  ∃ (as : List A) (rest : List (List A)), lk YS st.t = some (.tr x (as :: rest)) ∧ st.argsW (st.reachU us) us [] = some as ∧ K (st.backY dst (st.reachU us) x rest)
def callK (P : Program) (dst : Option Nat) (args : List Operand) (st : St) (K : St → Prop) (u : U) : Prop :=
  match u with
  | .c (.d (.fn g caps)) => wpo (args.mapM st.evU) (argK P dst st K g caps)
  | .clo g cs => wpo (args.mapM st.evU) (cloK P dst st K g cs)
  | .c (.d (.lit x)) => wpo (args.mapM st.evU) (litK dst st K x)
  | _ => False
theorem callK_lit (P : Program) (dst : Option Nat) (args : List Operand) (st : St) (K : St → Prop) (x : Value) :
    callK P dst args st K (.c (.d (.lit x))) = wpo (args.mapM st.evU) (litK dst st K x) := rfl
theorem callK_fn (P : Program) (dst : Option Nat) (args : List Operand) (st : St) (K : St → Prop) (g : FuncId) (caps : List D) :
    callK P dst args st K (.c (.d (.fn g caps))) = wpo (args.mapM st.evU) (argK P dst st K g caps) := rfl
theorem callK_clo (P : Program) (dst : Option Nat) (args : List Operand) (st : St) (K : St → Prop) (g : FuncId) (cs : List C) :
    callK P dst args st K (.clo g cs) = wpo (args.mapM st.evU) (cloK P dst st K g cs) := rfl
theorem cloK_eq (P : Program) (dst : Option Nat) (st : St) (K : St → Prop) (g : FuncId) (cs : List C) (us : List U) :
    cloK P dst st K g cs us = argK P dst st K g [] (us ++ cs.map .c) := rfl
theorem argK_eq (P : Program) (dst : Option Nat) (st : St) (K : St → Prop) (g : FuncId) (caps : List D) (us : List U) :
    argK P dst st K g caps us = (wpo (st.argsW (st.reachU us) us caps) (goK P dst st K g (st.reachU us)) ∨ inK' P dst st K g caps us) := rfl
theorem goK_eq (P : Program) (dst : Option Nat) (st : St) (K : St → Prop) (g : FuncId) (ids : List Nat) (as : List A) :
    goK P dst st K g ids as = wpCall P g as (backK dst ids K st) := rfl

def wpOp (P : Program) (T : Tab) (o : Oper) (st : St) (K : St → Prop) : Prop :=
  match o.op with
  | .call { callee := .value f, args, .. } => wpo (st.evU f) (callK P o.dst args.toList st K)
  | _ => wpo (stepOp T o st) K

def flipK {α : Type} (f : St → α → Prop) (k : α) (s : St) : Prop := f s k
theorem flipK_eq {α : Type} (f : St → α → Prop) (k : α) (s : St) : flipK f k s = f s k := rfl

def skipK (dst : Option Nat) (st : St) (K : St → Prop) : Prop := K (st.put dst (.tup []))

def gateV (d : Nat) (want : Bool) (v : Option V) (st : St) (k1 k2 : St → (St → Prop) → Prop) (K : St → Prop) : Prop :=
  match v with
  | some (.u (.c (.d (.bool b)))) => (b = want → k1 (st.put (some d) (vB want)) K) ∧ (b = !want → k2 (st.put (some d) (vB !want)) K)
  | some (.tup []) => k2 st K
  | _ => False
theorem gateV_bool (d : Nat) (want b : Bool) (st : St) (k1 k2 : St → (St → Prop) → Prop) (K : St → Prop) :
    gateV d want (some (.u (.c (.d (.bool b))))) st k1 k2 K = ((b = want → k1 (st.put (some d) (vB want)) K) ∧ (b = !want → k2 (st.put (some d) (vB !want)) K)) := rfl
theorem gateV_none (d : Nat) (want : Bool) (st : St) (k1 k2 : St → (St → Prop) → Prop) (K : St → Prop) :
    gateV d want (some (.tup [])) st k1 k2 K = k2 st K := rfl

def wpG (P : Program) (T : Tab) (ops : List Oper) (o : Oper) (st : St) (K : St → Prop) : Prop :=
  match o.guard with
  | none => wpOp P T o st K
  | some (j, want) =>
    match (ops[j]?).bind (·.dst) with
    | some d => gateV d want (lk d st.t) st (wpOp P T o) (skipK o.dst) K
    | none => False

def wpOps (P : Program) (T : Tab) (ops : List Oper) : List Oper → St → (St → Prop) → Prop
  | [], st, K => K st
  | o :: r, st, K => wpG P T ops o st (flipK (wpOps P T ops r) K)

def leL {α : Type} (l : List (Nat × α)) : List (Nat × α) → Prop
  | [] => True
  | (k, v) :: r => lk k l = some v ∧ leL l r

/-- What is known in 's0' is known in 's'. -/
def St.le (s0 s : St) : Prop := leL s.t s0.t ∧ leL s.h s0.h

abbrev Cont := Exit → St → Prop

def thenQ (k : St → Cont → Prop) (Q : Cont) (e : Exit) (s : St) : Prop :=
  match e with
  | .normal => k s Q
  | e => Q e s
def blockQ (id : Nat) (Q : Cont) (e : Exit) (s : St) : Prop :=
  match e with
  | .exit j => if j = id then Q .normal s else Q (.exit j) s
  | e => Q e s
def condV (b : Option Bool) (st : St) (k1 k2 : St → Cont → Prop) (Q : Cont) : Prop :=
  match b with
  | some b => (b = true → k1 st Q) ∧ (b = false → k2 st Q)
  | none => False
theorem condV_some (b : Bool) (st : St) (k1 k2 : St → Cont → Prop) (Q : Cont) : condV (some b) st k1 k2 Q = ((b = true → k1 st Q) ∧ (b = false → k2 st Q)) := rfl

def againQ (I : St → Nat → Prop) (rs : List (Nat × Nat)) (n : Nat) (s' : St) (_ : Cont) : Prop := ∃ s1 m, St.le s1 (rns rs s') ∧ I s1 m ∧ m < n
/-- A loop: at its head 'I' holds; behind a round blocks are given the numbers that they had at its head ('rs'). -/
def wpLoop (body : St → Cont → Prop) (st : St) (Q : Cont) : Prop :=
  ∃ (I : St → Nat → Prop) (rs : List (Nat × Nat)), (∃ s n, s.le (rns rs st) ∧ I s n) ∧ ∀ s n, I s n → body s (thenQ (againQ I rs n) Q)

theorem thenQ_normal (k : St → Cont → Prop) (Q : Cont) (s : St) : thenQ k Q .normal s = k s Q := rfl
theorem thenQ_ret (k : St → Cont → Prop) (Q : Cont) (s : St) : thenQ k Q .ret s = Q .ret s := rfl
theorem thenQ_exit (k : St → Cont → Prop) (Q : Cont) (i : Nat) (s : St) : thenQ k Q (.exit i) s = Q (.exit i) s := rfl
theorem blockQ_normal (i : Nat) (Q : Cont) (s : St) : blockQ i Q .normal s = Q .normal s := rfl
theorem blockQ_ret (i : Nat) (Q : Cont) (s : St) : blockQ i Q .ret s = Q .ret s := rfl
theorem blockQ_exit (i j : Nat) (Q : Cont) (s : St) : blockQ i Q (.exit j) s = if j = i then Q .normal s else Q (.exit j) s := rfl

def normQ (Q : Cont) (s : St) : Prop := Q .normal s
theorem normQ_eq (Q : Cont) (s : St) : normQ Q s = Q .normal s := rfl

/-! ### the result -/

def fitC (st : St) (pure : Bool) : C → RC → Prop
  | c, .d x => (pure = true → c.id? = none) ∧ st.cD c = some x
  | .sl i 0 n, .own sz m cs => m = n ∧ lk i st.h = some (.row sz cs true) ∧ cs.length = n * sz
  | .nl, .own _ m cs => m = 0 ∧ cs = []
  | _, _ => False
def fitL {α β : Type} (r : α → β → Prop) : List α → List β → Prop
  | [], [] => True
  | a :: l, b :: m => r a b ∧ fitL r l m
  | _, _ => False
def fitU (st : St) (pure : Bool) : U → RU → Prop
  | .c x, .c y => fitC st pure x y
  | .agg cs, .agg ds => fitL (fitC st pure) cs ds
  | _, _ => False
def fitV (st : St) (pure : Bool) : V → R → Prop
  | .u x, .u y => fitU st pure x y
  | .tup xs, .tup ys => fitL (fitU st pure) xs ys
  | _, _ => False

def St.resU (T : Tab) (st : St) : ResultVar → Option U
  | .tmp t => match lk t st.t with | some (.u u) => some u | _ => none
  | .cell t ty => (T ty).bind fun i => match lk t st.t with | some (.u (.c c)) => st.load i c | _ => none

def St.res (T : Tab) (st : St) (rs : List ResultVar) : Option V :=
  match rs with
  | [r] => (st.resU T r).map .u
  | rs => (rs.mapM (st.resU T)).map .tup

def finV (T : Tab) (rs : List ResultVar) (r : R) (e : Exit) (st : St) : Prop :=
  (e = .ret ∨ e = .normal) ∧ ∃ v, st.res T rs = some v ∧ r.rows.length ≤ 1 ∧ fitV st (!r.rows.isEmpty) v r

def A.toV : A → V
  | .c x => .u (.c (.d x))
  | .agg cs => .u (.agg (cs.map .d))

def initT (k : Nat) : List A → List (Nat × V)
  | [] => []
  | a :: r => (k, a.toV) :: initT (k + 1) r
def St.init (as : List A) : St := { t := initT 0 as, h := [] }

end Go.Va

/-
  Soundness, first part: what is known is kept while memory of the call's own changes.
-/
namespace Go.Va
open Go.RowKit

section lists
variable {α β : Type}
theorem lk_rm_same (k : Nat) : ∀ l : List (Nat × α), lk k (rm k l) = none
  | [] => rfl
  | (j, v) :: r => by
    unfold rm
    by_cases h : j = k
    · rw [if_pos h]; exact lk_rm_same k r
    · rw [if_neg h]; unfold lk; rw [if_neg h]; exact lk_rm_same k r
theorem lk_rm_ne {k j : Nat} (h : j ≠ k) : ∀ l : List (Nat × α), lk j (rm k l) = lk j l
  | [] => rfl
  | (i, v) :: r => by
    unfold rm
    by_cases hi : i = k
    · rw [if_pos hi, lk_rm_ne h r]; simp only [lk]; rw [if_neg (by omega)]
    · rw [if_neg hi]; unfold lk; by_cases hj : i = j
      · rw [if_pos hj, if_pos hj]
      · rw [if_neg hj, if_neg hj]; exact lk_rm_ne h r
theorem lk_rm {k j : Nat} {l : List (Nat × α)} {v : α} (h : lk j (rm k l) = some v) : j ≠ k ∧ lk j l = some v := by
  by_cases e : j = k
  · subst e; rw [lk_rm_same] at h; cases h
  · exact ⟨e, by rwa [lk_rm_ne e] at h⟩
theorem lk_map (f : α → β) (k : Nat) : ∀ l : List (Nat × α), lk k (l.map fun e => (e.1, f e.2)) = (lk k l).map f
  | [] => rfl
  | (j, v) :: r => by
    simp only [List.map_cons, lk]
    by_cases h : j = k
    · rw [if_pos h, if_pos h]; rfl
    · rw [if_neg h, if_neg h]; exact lk_map f k r
theorem lk_cons_same (k : Nat) (v : α) (l : List (Nat × α)) : lk k ((k, v) :: l) = some v := by unfold lk; rw [if_pos rfl]
theorem lk_cons_ne {k j : Nat} (h : j ≠ k) (v : α) (l : List (Nat × α)) : lk j ((k, v) :: l) = lk j l := by simp only [lk]; rw [if_neg (fun e => h e.symm)]
end lists

theorem addr_add (g o n : Nat) : (⟨g, o, none⟩ : Addr).add n = ⟨g, o + n, none⟩ := by unfold Addr.add; split <;> simp_all
theorem addr_add' (a : Addr) (n : Nat) (h : a.spot = none) : a.add n = ⟨a.block, a.off + n, none⟩ := by
  obtain ⟨b, o, s⟩ := a
  simp at h
  subst h
  exact addr_add b o n

/-! ### data -/

/-- What is kept from one memory to the next, and from one set of kept-out cells to the next. -/
def Keep (w w' : World) (Z Z' : Addr → Prop) : Prop := ∀ (a : Addr) (x : Value), ¬ Z a → w.cell? a = some x → w'.cell? a = some x ∧ ¬ Z' a

theorem RepD.keep {w w' : World} {Z Z' : Addr → Prop} (hk : Keep w w' Z Z') {d : D} {v : Value} (h : RepD w Z d v) : RepD w' Z' d v := by
  induction h with
  | int k n => exact .int k n
  | bool b => exact .bool b
  | str s => exact .str s
  | slice n cs a c vs hs hn hc h1 h2 h3 ih =>
    exact .slice n cs a c vs hs hn hc (fun j x hx => (hk _ _ (h2 j x hx) (h1 j x hx)).1) (fun j x hx => (hk _ _ (h2 j x hx) (h1 j x hx)).2) ih
  | snil => exact .snil
  | ref cs a vs hs h1 h2 h3 ih =>
    exact .ref cs a vs hs (fun j x hx => (hk _ _ (h2 j x hx) (h1 j x hx)).1) (fun j x hx => (hk _ _ (h2 j x hx) (h1 j x hx)).2) ih
  | fn f caps vs hl h3 ih => exact .fn f caps vs hl ih
  | nilFn => exact .nilFn
  | nilPtr => exact .nilPtr
  | lit x h => exact .lit x h
  | any x h => exact .any x h

theorem Keep.refl (w : World) (Z : Addr → Prop) : Keep w w Z Z := fun _ _ h1 h2 => ⟨h2, h1⟩
theorem Keep.mono {w : World} {Z Z' : Addr → Prop} (h : ∀ a, Z' a → Z a) : Keep w w Z Z' := fun _ _ h1 h2 => ⟨h2, fun h3 => h1 (h _ h3)⟩

theorem RepD.one {w : World} {Z : Addr → Prop} {d : D} {v : Value} (h : RepD w Z d v) : one v := by cases h <;> first | rfl | assumption

theorem RepC.one {ρ : Rho} {w : World} {Z : Addr → Prop} {c : C} {v : Value} (h : RepC ρ w Z c v) : one v := by
  cases c with
  | d x => exact RepD.one h
  | nl => cases (show v = _ from h); rfl
  | sl i off n =>
    obtain ⟨o, _, _, ⟨_, rfl, _⟩ | ⟨_, a, c, rfl, _⟩⟩ := h <;> rfl
  | ptr i off => obtain ⟨o, _, _, rfl⟩ := h; rfl
  | bad => exact h

/-- A cell is kept if what it names is. -/
theorem RepC.keep {ρ ρ' : Rho} {w w' : World} {Z : Addr → Prop} (hk : Keep w w' (Out ρ Z) (Out ρ' Z)) {c : C} {v : Value} (hid : ∀ i, c.id? = some i → ρ' i = ρ i) (h : RepC ρ w Z c v) : RepC ρ' w' Z c v := by
  cases c with
  | d x => exact RepD.keep hk h
  | nl => exact h
  | sl i off n => obtain ⟨o, ho, r⟩ := h; exact ⟨o, (hid i rfl).trans ho, r⟩
  | ptr i off => obtain ⟨o, ho, r⟩ := h; exact ⟨o, (hid i rfl).trans ho, r⟩
  | bad => exact h

def idG' : Nat → C → C := fun _ c => c
/-- A turn of cells that is kept by the reading. -/
def Turn (ρ ρ' : Rho) (w w' : World) (Z : Addr → Prop) (g : Nat → C → C) : Prop := ∀ (c : C) (v : Value), RepC ρ w Z c v → RepC ρ' w' Z (c.on g) v

theorem RepL.imp {α β : Type} {r : α → Value → Prop} {s : β → Value → Prop} {xs : List α} {vs : List Value} (f : α → β) (h : RepL r xs vs) (hi : ∀ x v, x ∈ xs → r x v → s (f x) v) : RepL s (xs.map f) vs := by
  refine ⟨by simpa using h.1, fun j x v hx hv => ?_⟩
  rw [List.getElem?_map] at hx
  cases hy : xs[j]? with
  | none => rw [hy] at hx; cases hx
  | some y =>
    rw [hy] at hx
    cases hx
    exact hi y v (List.mem_of_getElem? hy) (h.2 j y v hy hv)

theorem RepU.turn {ρ ρ' : Rho} {w w' : World} {Z : Addr → Prop} {g : Nat → C → C} (hg : Turn ρ ρ' w w' Z g) {u : U} {v : Value} (h : RepU ρ w Z u v) : RepU ρ' w' Z (u.on g) v := by
  cases u with
  | c x => exact hg _ _ h
  | agg cs => obtain ⟨vs, rfl, hl⟩ := h; exact ⟨vs, rfl, hl.imp _ fun x v _ => hg x v⟩
  | clo f cs => obtain ⟨vs, rfl, hl⟩ := h; exact ⟨vs, rfl, hl.imp _ fun x v _ => hg x v⟩

theorem RepV.turn {ρ ρ' : Rho} {w w' : World} {Z : Addr → Prop} {g : Nat → C → C} (hg : Turn ρ ρ' w w' Z g) {u : V} {v : Value} (h : RepV ρ w Z u v) : RepV ρ' w' Z (u.on g) v := by
  cases u with
  | u x => exact RepU.turn hg h
  | tup xs => obtain ⟨vs, rfl, hl⟩ := h; exact ⟨vs, rfl, hl.imp _ fun x v _ => RepU.turn hg⟩
  | tr x ys => trivial

/-- The cells of a block are kept, and turned. -/
theorem RepB.turn {ρ ρ' : Rho} {w w' : World} {Z : Addr → Prop} {g : Nat → C → C} (hg : Turn ρ ρ' w w' Z g) (hk : Keep w w' (Out ρ Z) (Out ρ' Z)) {o : Own} {b : Blk} (h : RepB ρ w Z o b)
    (hc : o.gone = false → ∀ j, j < o.room * o.sz → w'.cell? (o.at j) = w.cell? (o.at j)) : RepB ρ' w' Z o (b.on g) := by
  cases b with
  | row sz cs app =>
    obtain ⟨h1, h2, h3, h4, h5⟩ := h
    refine ⟨h1, h2, h3, h4, fun j x hx => ?_⟩
    obtain ⟨v, hv, hd⟩ := h5 j x hx
    have hj : j < cs.length := (List.getElem?_eq_some_iff.1 hx).1
    have hn : o.nil = false := by
      cases hn : o.nil with
      | false => rfl
      | true => rw [h4.1 hn] at h3; omega
    exact ⟨v, (hc (h4.2.trans hn) j (by rw [h1]; omega)).trans hv, hd.keep hk⟩
  | box cs =>
    obtain ⟨h1, h2, h3, h4⟩ := h
    refine ⟨h1, by rw [h2]; simp, h3, fun j c hc' => ?_⟩
    rw [List.getElem?_map] at hc'
    cases hy : cs[j]? with
    | none => rw [hy] at hc'; cases hc'
    | some y =>
      rw [hy] at hc'
      cases hc'
      obtain ⟨v, hv, h1v, hr⟩ := h4 j y hy
      have hj : j < cs.length := (List.getElem?_eq_some_iff.1 hy).1
      exact ⟨v, (hc h3.2 j (by rw [h1, h2]; omega)).trans hv, h1v, hg _ _ hr⟩
  | fbox f cs =>
    obtain ⟨h1, h2, h3, v, hv, hr⟩ := h
    exact ⟨h1, h2, h3, v, (hc h3.2 0 (by rw [h1, h2]; omega)).trans hv, RepU.turn (u := .clo f cs) hg hr⟩

theorem RepB.thaw {ρ : Rho} {w : World} {Z : Addr → Prop} {o : Own} {b : Blk} (hb : RepB ρ w Z o b) (hn : o.nil = false) : o.gone = false := by
  cases b with
  | row sz cs app => exact hb.2.2.2.1.2.trans hn
  | box cs => exact hb.2.2.1.2
  | fbox f cs => exact hb.2.2.1.2

/-! ### the rows of the call's own -/

def upd (ρ : Rho) (i : Nat) (o : Option Own) : Rho := fun j => if j = i then o else ρ j
theorem upd_same (ρ : Rho) (i : Nat) (o : Option Own) : upd ρ i o i = o := by simp [upd]
theorem upd_ne (ρ : Rho) {i j : Nat} (o : Option Own) (h : j ≠ i) : upd ρ i o j = ρ j := by simp [upd, h]
theorem upd_none {ρ : Rho} {i j : Nat} {o : Own} (h : upd ρ i none j = some o) : j ≠ i ∧ ρ j = some o := by
  by_cases e : j = i
  · subst e; rw [upd_same] at h; cases h
  · exact ⟨e, by rwa [upd_ne ρ none e] at h⟩

theorem out_erase {ρ : Rho} {Z : Addr → Prop} {i : Nat} {a : Addr} (h : Out (upd ρ i none) Z a) : Out ρ Z a := by
  rcases h with h | ⟨j, o, hj, ho⟩
  · exact .inl h
  · exact .inr ⟨j, o, (upd_none hj).2, ho⟩

theorem Owns.erase {ρ : Rho} {w : World} (h : Owns ρ w) (i : Nat) : Owns (upd ρ i none) w :=
  ⟨fun j o hj => h.cells j o (upd_none hj).2, fun j j' o o' hj hj' => h.apart j j' o o' (upd_none hj).2 (upd_none hj').2, fun j o hj => h.lim j o (upd_none hj).2⟩

theorem turn_purge (ρ : Rho) (w : World) (Z : Addr → Prop) (i : Nat) : Turn ρ (upd ρ i none) w w Z (purgeG i) := by
  intro c v h
  have hk : Keep w w (Out ρ Z) (Out (upd ρ i none) Z) := Keep.mono fun _ => out_erase
  cases c with
  | d x => exact RepC.keep hk (fun _ h => by cases h) h
  | nl => exact h
  | bad => exact h
  | sl j off n =>
    simp only [C.on, purgeG]
    split
    · exact RepC.one h
    · rename_i hj
      exact RepC.keep hk (fun k hk' => by cases hk'; exact upd_ne ρ none hj) h
  | ptr j off =>
    simp only [C.on, purgeG]
    split
    · exact RepC.one h
    · rename_i hj
      exact RepC.keep hk (fun k hk' => by cases hk'; exact upd_ne ρ none hj) h

theorem purge_eq (i : Nat) (st : St) : st.purge i = { st.on (purgeG i) with h := rm i (st.on (purgeG i)).h } := rfl

variable {M Z : Addr → Prop} {w0 w : World} {ρ : Rho} {st : St} {a : Act}

/-- A block is forgotten. -/
theorem Rel.purge (h : Rel M Z w0 ρ st a w) (i : Nat) : Rel M Z w0 (upd ρ i none) (st.purge i) a w where
  fr := h.fr
  heap := ⟨h.heap.owns.erase i, fun j b hb => by
    rw [purge_eq] at hb
    obtain ⟨hne, hb⟩ := lk_rm hb
    simp only [St.on] at hb
    rw [lk_map] at hb
    cases hl : lk j st.h with
    | none => rw [hl] at hb; cases hb
    | some b0 =>
      rw [hl] at hb
      cases hb
      obtain ⟨o, ho, hr⟩ := h.heap.rep j b0 hl
      exact ⟨o, (upd_ne ρ none hne).trans ho, hr.turn (turn_purge ρ w Z i) (Keep.mono fun _ => out_erase) (fun _ _ _ => rfl)⟩⟩
  mine := fun j o ad hj => h.mine j o ad (upd_none hj).2
  out := h.out
  mz := h.mz
  tmps := fun t v hv => by
    rw [purge_eq] at hv
    simp only [St.on] at hv
    rw [lk_map] at hv
    cases hl : lk t st.t with
    | none => rw [hl] at hv; cases hv
    | some v0 =>
      rw [hl] at hv
      cases hv
      exact (h.tmps t v0 hl).turn (turn_purge ρ w Z i)
  defers := h.defers

/-- Rows that are the call's own no more, while what names them stays. -/
def Own.dead (o : Own) : Own := { o with gone := true }
theorem Own.dead_has (o : Own) (ad : Addr) : ¬ o.dead.has ad := fun h => by cases h.1
def rhoD (ρ : Rho) (i : Nat) : Rho := upd ρ i ((ρ i).map Own.dead)
theorem rhoD_some {ρ : Rho} {i j : Nat} {o : Own} (h : rhoD ρ i j = some o) : ∃ o', ρ j = some o' ∧ ((j = i ∧ o = o'.dead) ∨ (j ≠ i ∧ o = o')) := by
  unfold rhoD at h
  by_cases e : j = i
  · subst e
    rw [upd_same, Option.map_eq_some_iff] at h
    obtain ⟨o', h1, rfl⟩ := h
    exact ⟨o', h1, .inl ⟨rfl, rfl⟩⟩
  · rw [upd_ne ρ _ e] at h
    exact ⟨o, h, .inr ⟨e, rfl⟩⟩
theorem rhoD_has {ρ : Rho} {i j : Nat} {o : Own} (h : rhoD ρ i j = some o) {ad : Addr} (hh : o.has ad) : j ≠ i ∧ ρ j = some o := by
  obtain ⟨o', h1, ⟨_, rfl⟩ | ⟨h2, rfl⟩⟩ := rhoD_some h
  · exact absurd hh (o'.dead_has ad)
  · exact ⟨h2, h1⟩
theorem out_rhoD {ρ : Rho} {Z : Addr → Prop} {i : Nat} {a : Addr} (h : Out (rhoD ρ i) Z a) : Out ρ Z a := by
  rcases h with h | ⟨j, o, hj, ho⟩
  · exact .inl h
  · exact .inr ⟨j, o, (rhoD_has hj ho).2, ho⟩
theorem turn_rhoD (ρ : Rho) (w : World) (Z : Addr → Prop) (i : Nat) : Turn ρ (rhoD ρ i) w w Z idG' := by
  intro c v h
  have hk : Keep w w (Out ρ Z) (Out (rhoD ρ i) Z) := Keep.mono fun _ => out_rhoD
  have hc : c.on idG' = c := by cases c <;> rfl
  rw [hc]
  cases c with
  | d x => exact RepD.keep hk h
  | nl => exact h
  | bad => exact h
  | sl j off n =>
    obtain ⟨o, ho, r⟩ := h
    by_cases e : j = i
    · subst e; exact ⟨o.dead, by simp [rhoD, upd_same, ho], r⟩
    · exact ⟨o, (upd_ne ρ _ e).trans ho, r⟩
  | ptr j off =>
    obtain ⟨o, ho, r⟩ := h
    by_cases e : j = i
    · subst e; exact ⟨o.dead, by simp [rhoD, upd_same, ho], r⟩
    · exact ⟨o, (upd_ne ρ _ e).trans ho, r⟩

/-! ### other numbers -/

def rhoS (ρ : Rho) (i j : Nat) : Rho := fun k => if k = i then ρ j else if k = j then none else ρ k
theorem rhoS_some {ρ : Rho} {i j k : Nat} {o : Own} (h : rhoS ρ i j k = some o) : (k = i ∧ ρ j = some o) ∨ (k ≠ i ∧ k ≠ j ∧ ρ k = some o) := by
  unfold rhoS at h
  split at h
  · exact .inl ⟨‹_›, h⟩
  · split at h
    · cases h
    · exact .inr ⟨‹_›, ‹_›, h⟩
theorem turn_rhoS (ρ : Rho) (w : World) (Z : Addr → Prop) {i j : Nat} : Turn ρ (rhoS ρ i j) w w Z (renG i j) := by
  have hk : Keep w w (Out ρ Z) (Out (rhoS ρ i j) Z) := Keep.mono fun ad h => by
    rcases h with h | ⟨k, o, hk, ho⟩
    · exact .inl h
    · rcases rhoS_some hk with ⟨_, h1⟩ | ⟨_, _, h1⟩
      · exact .inr ⟨j, o, h1, ho⟩
      · exact .inr ⟨k, o, h1, ho⟩
  have look : ∀ k o, k ≠ j → k ≠ i → ρ k = some o → rhoS ρ i j k = some o := fun k o h1 h2 h => by simp [rhoS, h1, h2, h]
  intro c v h
  cases c with
  | d x => exact RepD.keep hk h
  | nl => exact h
  | bad => exact h
  | sl k off n =>
    simp only [C.on, renG]
    by_cases e1 : k = j
    · simp only [e1, if_true, C.to]
      obtain ⟨o, ho, r⟩ := h
      exact ⟨o, by simp [rhoS, ← e1, ho], r⟩
    · simp only [e1, if_false]
      by_cases e2 : k = i
      · simp only [e2, if_true]; exact RepC.one h
      · simp only [e2, if_false]
        obtain ⟨o, ho, r⟩ := h
        exact ⟨o, look k o e1 e2 ho, r⟩
  | ptr k off =>
    simp only [C.on, renG]
    by_cases e1 : k = j
    · simp only [e1, if_true, C.to]
      obtain ⟨o, ho, r⟩ := h
      exact ⟨o, by simp [rhoS, ← e1, ho], r⟩
    · simp only [e1, if_false]
      by_cases e2 : k = i
      · simp only [e2, if_true]; exact RepC.one h
      · simp only [e2, if_false]
        obtain ⟨o, ho, r⟩ := h
        exact ⟨o, look k o e1 e2 ho, r⟩

/-- A block gets another number. -/
theorem Rel.rn (h : Rel M Z w0 ρ st a w) (i j : Nat) : ∃ ρ', Rel M Z w0 ρ' (st.rn i j) a w := by
  unfold St.rn
  by_cases hij : i = j
  · rw [if_pos hij]; exact ⟨ρ, h⟩
  rw [if_neg hij]
  cases hb : lk j st.h with
  | none => exact ⟨ρ, h⟩
  | some b =>
    have ht := turn_rhoS ρ w Z (i := i) (j := j)
    have hk : Keep w w (Out ρ Z) (Out (rhoS ρ i j) Z) := Keep.mono fun ad h => by
      rcases h with h | ⟨k, o, hk, ho⟩
      · exact .inl h
      · rcases rhoS_some hk with ⟨_, h1⟩ | ⟨_, _, h1⟩
        · exact .inr ⟨j, o, h1, ho⟩
        · exact .inr ⟨k, o, h1, ho⟩
    refine ⟨rhoS ρ i j, ?_⟩
    exact {
      fr := h.fr
      heap := ⟨⟨fun k o hk' => by
          rcases rhoS_some hk' with ⟨_, h1⟩ | ⟨_, _, h1⟩
          · exact h.heap.owns.cells j o h1
          · exact h.heap.owns.cells k o h1,
        fun k k' o o' hk1 hk2 hne => by
          rcases rhoS_some hk1 with ⟨e1, h1⟩ | ⟨_, n1, h1⟩
          · rcases rhoS_some hk2 with ⟨e2, h2⟩ | ⟨_, n2, h2⟩
            · exact absurd (e1.trans e2.symm) hne
            · exact h.heap.owns.apart j k' o o' h1 h2 (fun e => n2 e.symm)
          · rcases rhoS_some hk2 with ⟨e2, h2⟩ | ⟨_, n2, h2⟩
            · exact h.heap.owns.apart k j o o' h1 h2 n1
            · exact h.heap.owns.apart k k' o o' h1 h2 hne,
        fun k o hk' => by
          rcases rhoS_some hk' with ⟨_, h1⟩ | ⟨_, _, h1⟩
          · exact h.heap.owns.lim j o h1
          · exact h.heap.owns.lim k o h1⟩, fun k b' hb' => by
        by_cases e : k = i
        · subst e
          rw [lk_cons_same] at hb'
          cases hb'
          obtain ⟨o, ho, hr⟩ := h.heap.rep j b hb
          exact ⟨o, by simp [rhoS, ho], hr.turn ht hk (fun _ _ _ => rfl)⟩
        · rw [lk_cons_ne e, lk_rm_ne e] at hb'
          obtain ⟨hne, hb'⟩ := lk_rm hb'
          simp only [St.on] at hb'
          rw [lk_map, Option.map_eq_some_iff] at hb'
          obtain ⟨b0, hb0, rfl⟩ := hb'
          obtain ⟨o, ho, hr⟩ := h.heap.rep k b0 hb0
          exact ⟨o, by simp [rhoS, e, hne, ho], hr.turn ht hk (fun _ _ _ => rfl)⟩⟩
      mine := fun k o ad hk' => by
        rcases rhoS_some hk' with ⟨_, h1⟩ | ⟨_, _, h1⟩
        · exact h.mine j o ad h1
        · exact h.mine k o ad h1
      out := h.out
      mz := h.mz
      tmps := fun t v hv => by
        simp only [St.on] at hv
        rw [lk_map, Option.map_eq_some_iff] at hv
        obtain ⟨v0, hv0, rfl⟩ := hv
        exact (h.tmps t v0 hv0).turn ht
      defers := h.defers }
theorem Rel.rns : ∀ (rs : List (Nat × Nat)) {ρ : Rho} {st : St}, Rel M Z w0 ρ st a w → ∃ ρ', Rel M Z w0 ρ' (rns rs st) a w
  | [], ρ, st, h => ⟨ρ, h⟩
  | (i, j) :: r, ρ, st, h => by
    obtain ⟨ρ1, h1⟩ := h.rn i j
    exact Rel.rns r h1

/-! ### memory grows -/

theorem Ext.cell {w w' : World} (h : Ext w w') {a : Addr} {v : Value} (hv : w.cell? a = some v) : w'.cell? a = some v :=
  (Below.cell h.toBelow (World.block_lt_of_cell? w a hv)).trans hv
theorem Ext.frozen {w w' : World} (h : Ext w w') {p : Addr} (hp : p.block < w.heap.size) : w'.frozen? p = w.frozen? p := Below.frozen h.toBelow hp
theorem Ext.refl (w : World) : Ext w w := ⟨Below.refl _ _, Nat.le_refl _⟩
theorem Ext.trans {a b c : World} (h : Ext a b) (k : Ext b c) : Ext a c := ⟨Below.trans h.toBelow (k.toBelow.mono h.size), Nat.le_trans h.drawn k.drawn⟩
theorem Ext.alloc (w : World) (o : Obj) : Ext w (w.alloc o) := ⟨(Below.refl _ _).alloc (Nat.le_refl _) o, Nat.le_refl _⟩
theorem Ext.drew (w : World) : Ext w w.drew := ⟨(Below.refl _ _).drew, Nat.le_succ _⟩

theorem Fr.ext (h : Fr M w0 w) {w' : World} (hx : Ext w w') : Fr M w0 w' where
  os := hx.os.trans h.os
  drawn := Nat.le_trans h.drawn hx.drawn
  tape := hx.tape.trans h.tape
  output := hx.output.trans h.output
  size := Nat.le_trans h.size hx.size
  cell := fun a v hm hv => hx.cell (h.cell a v hm hv)
  frz := fun a ha => (hx.frozen (Nat.lt_of_lt_of_le ha h.size)).trans (h.frz a ha)
  blk := fun k hk hm => (hx.block k (Nat.lt_of_lt_of_le hk h.size)).trans (h.blk k hk hm)

theorem Keep.ext {w w' : World} (hx : Ext w w') (Z : Addr → Prop) : Keep w w' Z Z := fun _ _ h1 h2 => ⟨hx.cell h2, h1⟩

theorem Owns.ext (h : Owns ρ w) {w' : World} (hx : Ext w w') : Owns ρ w' :=
  ⟨fun i o hi hn j hj => by
    obtain ⟨⟨v, hv⟩, hf⟩ := h.cells i o hi hn j hj
    exact ⟨⟨v, hx.cell hv⟩, (hx.frozen (World.block_lt_of_cell? w _ hv)).trans hf⟩, h.apart, h.lim⟩

theorem turn_ext {w w' : World} (hx : Ext w w') (ρ : Rho) (Z : Addr → Prop) (c : C) (v : Value) (h : RepC ρ w Z c v) : RepC ρ w' Z c v := h.keep (Keep.ext hx _) (fun _ _ => rfl)

abbrev idG : Nat → C → C := idG'
theorem C.on_id (c : C) : c.on idG = c := by cases c <;> rfl
theorem map_on_id (l : List C) : l.map (C.on idG) = l := by
  induction l with
  | nil => rfl
  | cons c r ih => rw [List.map_cons, C.on_id, ih]
theorem U.on_id (u : U) : u.on idG = u := by
  cases u with
  | c x => simp [U.on, C.on_id]
  | agg cs => simp [U.on, map_on_id]
  | clo f cs => simp [U.on, map_on_id]
theorem V.on_id (u : V) : u.on idG = u := by
  cases u with
  | u x => simp [V.on, U.on_id]
  | tup xs =>
    have : xs.map (U.on idG) = xs := by
      induction xs with
      | nil => rfl
      | cons c r ih => rw [List.map_cons, U.on_id, ih]
    simp [V.on, this]
  | tr x ys => rfl
theorem Blk.on_id (b : Blk) : b.on idG = b := by
  cases b with
  | row => rfl
  | box cs => simp [Blk.on, map_on_id]
  | fbox f cs => simp [Blk.on, map_on_id]

theorem Rel.ext (h : Rel M Z w0 ρ st a w) {w' : World} (hx : Ext w w') : Rel M Z w0 ρ st a w' where
  fr := h.fr.ext hx
  heap := ⟨h.heap.owns.ext hx, fun i b hb => by
    obtain ⟨o, ho, hr⟩ := h.heap.rep i b hb
    refine ⟨o, ho, ?_⟩
    have ht : Turn ρ ρ w w' Z idG := fun c v hc => by rw [C.on_id]; exact turn_ext hx ρ Z c v hc
    have := hr.turn ht (Keep.ext hx _) (fun hn j hj => by
      obtain ⟨⟨v, hv⟩, _⟩ := h.heap.owns.cells i o ho hn j hj
      rw [hv, hx.cell hv])
    rwa [Blk.on_id] at this⟩
  mine := h.mine
  out := h.out
  mz := h.mz
  tmps := fun t v hv => by
    have ht : Turn ρ ρ w w' Z idG := fun c v hc => by rw [C.on_id]; exact turn_ext hx ρ Z c v hc
    have := (h.tmps t v hv).turn ht
    rwa [V.on_id] at this
  defers := h.defers

/-- A block is the call's own no more; what names it stays. -/
theorem Rel.drop (h : Rel M Z w0 ρ st a w) (i : Nat) : Rel M Z w0 (rhoD ρ i) (st.drop i) a w where
  fr := h.fr
  heap := ⟨⟨fun j o hj hn => by
      obtain ⟨o', h1, ⟨_, rfl⟩ | ⟨_, rfl⟩⟩ := rhoD_some hj
      · cases hn
      · exact h.heap.owns.cells j o h1 hn,
    fun j j' o o' hj hj' hne ad h1 h2 => h.heap.owns.apart j j' o o' (rhoD_has hj h1).2 (rhoD_has hj' h2).2 hne ad h1 h2,
    fun j o hj => by
      obtain ⟨o', h1, ⟨_, rfl⟩ | ⟨_, rfl⟩⟩ := rhoD_some hj
      · exact h.heap.owns.lim j o' h1
      · exact h.heap.owns.lim j o h1⟩, fun j b hb => by
    obtain ⟨hne, hb⟩ := lk_rm hb
    obtain ⟨o, ho, hr⟩ := h.heap.rep j b hb
    have := hr.turn (turn_rhoD ρ w Z i) (Keep.mono fun _ => out_rhoD) (fun _ _ _ => rfl)
    have e : b.on idG' = b := Blk.on_id b
    rw [e] at this
    exact ⟨o, (upd_ne ρ _ hne).trans ho, this⟩⟩
  mine := fun j o ad hj hh => h.mine j o ad (rhoD_has hj hh).2 hh
  out := h.out
  mz := h.mz
  tmps := fun t v hv => by
    have := (h.tmps t v hv).turn (turn_rhoD ρ w Z i)
    have e : v.on idG' = v := V.on_id v
    rwa [e] at this
  defers := h.defers

/-- A new value in a place. -/
theorem Rel.put (h : Rel M Z w0 ρ st a w) {dst : Option Nat} {v : V} {x : Value} (hd : ∀ d, dst = some d → d < a.tmps.size) (hv : RepV ρ w Z v x) : Rel M Z w0 ρ (st.put dst v) (a.put dst x) w where
  fr := h.fr
  heap := by cases dst <;> exact h.heap
  mine := h.mine
  out := h.out
  mz := h.mz
  tmps := fun t u hu => by
    cases dst with
    | none => exact h.tmps t u hu
    | some d =>
      simp only [St.put] at hu
      by_cases e : t = d
      · subst e
        rw [lk_cons_same] at hu
        cases hu
        have := hd t rfl
        simp [Act.put, Array.getD, this]
        exact hv
      · rw [lk_cons_ne e, lk_rm_ne e] at hu
        have := h.tmps t u hu
        simp only [Act.put, Array.getD_eq_getD_getElem?]
        rw [Array.getElem?_setIfInBounds_ne (fun h => e h.symm), ← Array.getD_eq_getD_getElem?]
        exact this
  defers := by cases dst <;> exact h.defers

/-- A block of the call's own that has just been made. -/
theorem Rel.add (h : Rel M Z w0 ρ st a w) {i : Nat} {o : Own} {b : Blk} (hi : ρ i = none)
    (hnew : ∀ ad, o.has ad → w0.heap.size ≤ ad.block) (hfar : ∀ ad v, o.has ad → w.cell? ad = some v → False) {w' : World} (hx : Ext w w')
    (hcells : o.gone = false → ∀ j, j < o.room * o.sz → (∃ v, w'.cell? (o.at j) = some v) ∧ w'.frozen? (o.at j) = false) (hlim : o.room ≤ maxLen)
    (hb : RepB (upd ρ i (some o)) w' Z o b) : Rel M Z w0 (upd ρ i (some o)) (st.blk i b) a w' := by
  have hk : Keep w w' (Out ρ Z) (Out (upd ρ i (some o)) Z) := fun ad x hn hv => ⟨hx.cell hv, fun ho => by
    rcases ho with ho | ⟨j, o', hj, ho⟩
    · exact hn (.inl ho)
    · by_cases e : j = i
      · subst e
        rw [upd_same] at hj
        cases hj
        exact hfar ad x ho hv
      · rw [upd_ne ρ _ e] at hj
        exact hn (.inr ⟨j, o', hj, ho⟩)⟩
  have ht : Turn ρ (upd ρ i (some o)) w w' Z idG := fun c v hc => by
    rw [C.on_id]
    refine hc.keep hk fun j hj => ?_
    by_cases e : j = i
    · subst e
      cases c with
      | sl k off n => cases hj; obtain ⟨o', ho', _⟩ := hc; rw [hi] at ho'; cases ho'
      | ptr k off => cases hj; obtain ⟨o', ho', _⟩ := hc; rw [hi] at ho'; cases ho'
      | _ => cases hj
    · exact upd_ne ρ _ e
  exact {
    fr := h.fr.ext hx
    heap := ⟨⟨fun j o' hj hn k hk' => by
        by_cases e : j = i
        · subst e; rw [upd_same] at hj; cases hj; exact hcells hn k hk'
        · rw [upd_ne ρ _ e] at hj; exact (h.heap.owns.ext hx).cells j o' hj hn k hk',
      fun j j' o1 o2 hj hj' hne ad h1 h2 => by
        by_cases e : j = i
        · subst e
          rw [upd_same] at hj
          cases hj
          rw [upd_ne ρ _ (fun e => hne e.symm)] at hj'
          obtain ⟨hn, hbk, hlo, hhi⟩ := h2
          obtain ⟨⟨v, hv⟩, _⟩ := h.heap.owns.cells j' o2 hj' hn (ad.off - o2.o) (by omega)
          have h1' := h1
          obtain ⟨hn1, hb1, hl1, hh1⟩ := h1
          have he : (o2.at (ad.off - o2.o)) = ⟨ad.block, ad.off, none⟩ := by simp [Own.at, hbk]; omega
          rw [he] at hv
          exact hfar ⟨ad.block, ad.off, none⟩ v ⟨hn1, hb1, hl1, hh1⟩ hv
        · by_cases e' : j' = i
          · subst e'
            rw [upd_same] at hj'
            cases hj'
            rw [upd_ne ρ _ e] at hj
            obtain ⟨hn, hbk, hlo, hhi⟩ := h1
            obtain ⟨⟨v, hv⟩, _⟩ := h.heap.owns.cells j o1 hj hn (ad.off - o1.o) (by omega)
            obtain ⟨hn1, hb1, hl1, hh1⟩ := h2
            have he : (o1.at (ad.off - o1.o)) = ⟨ad.block, ad.off, none⟩ := by simp [Own.at, hbk]; omega
            rw [he] at hv
            exact hfar ⟨ad.block, ad.off, none⟩ v ⟨hn1, hb1, hl1, hh1⟩ hv
          · rw [upd_ne ρ _ e] at hj
            rw [upd_ne ρ _ e'] at hj'
            exact h.heap.owns.apart j j' o1 o2 hj hj' hne ad h1 h2,
      fun j o' hj => by
        by_cases e : j = i
        · subst e; rw [upd_same] at hj; cases hj; exact hlim
        · rw [upd_ne ρ _ e] at hj; exact h.heap.owns.lim j o' hj⟩,
      fun j b' hb' => by
        by_cases e : j = i
        · subst e
          simp only [St.blk] at hb'
          rw [lk_cons_same] at hb'
          cases hb'
          exact ⟨o, upd_same _ _ _, hb⟩
        · simp only [St.blk] at hb'
          rw [lk_cons_ne e, lk_rm_ne e] at hb'
          obtain ⟨o', ho', hr⟩ := h.heap.rep j b' hb'
          refine ⟨o', (upd_ne ρ _ e).trans ho', ?_⟩
          have := hr.turn ht hk (fun hn k hk' => by
            obtain ⟨⟨v, hv⟩, _⟩ := h.heap.owns.cells j o' ho' hn k hk'
            rw [hv, hx.cell hv])
          rwa [Blk.on_id] at this⟩
    mine := fun j o' ad hj ho => by
      by_cases e : j = i
      · subst e; rw [upd_same] at hj; cases hj; exact .inr (hnew ad ho)
      · rw [upd_ne ρ _ e] at hj; exact h.mine j o' ad hj ho
    out := h.out
    mz := h.mz
    tmps := fun t v hv => by
      have := (h.tmps t v hv).turn ht
      rwa [V.on_id] at this
    defers := h.defers }

/-- What a new block holds: its cells lie in w', what they mean was known before. -/
def RepAt (ρ : Rho) (w : World) (Z : Addr → Prop) (w' : World) (o : Own) : Blk → Prop
  | .row sz cs app => o.sz = sz ∧ o.app = app ∧ cs.length ≤ o.room * sz ∧ ((o.nil = true → o.room = 0) ∧ o.gone = o.nil) ∧
      ∀ (j : Nat) (x : D), cs[j]? = some x → ∃ v, w'.cell? (o.at j) = some v ∧ RepD w (Out ρ Z) x v
  | .box cs => o.sz = 1 ∧ o.room = cs.length ∧ (o.nil = false ∧ o.gone = false) ∧
      ∀ (j : Nat) (c : C), cs[j]? = some c → ∃ v, w'.cell? (o.at j) = some v ∧ one v ∧ RepC ρ w Z c v
  | .fbox f cs => o.sz = 1 ∧ o.room = 1 ∧ (o.nil = false ∧ o.gone = false) ∧ ∃ v, w'.cell? (o.at 0) = some v ∧ RepU ρ w Z (.clo f cs) v

def rhoN (ρ : Rho) (i : Nat) (o : Own) : Rho := upd (upd ρ i none) i (some o)

theorem rhoN_same (ρ : Rho) (i : Nat) (o : Own) : rhoN ρ i o i = some o := upd_same _ _ _
theorem rhoN_ne (ρ : Rho) {i j : Nat} (o : Own) (h : j ≠ i) : rhoN ρ i o j = ρ j := by unfold rhoN; rw [upd_ne _ _ h, upd_ne _ _ h]

theorem new_keep {w' : World} (hx : Ext w w') {i : Nat} {o : Own} (hfar : ∀ ad, o.has ad → w.heap.size ≤ ad.block) : Keep w w' (Out ρ Z) (Out (rhoN ρ i o) Z) := fun ad x hn hv => ⟨hx.cell hv, fun ho => by
  rcases ho with ho | ⟨j, o', hj, ho⟩
  · exact hn (.inl ho)
  · by_cases e : j = i
    · subst e
      rw [rhoN_same] at hj
      cases hj
      have := hfar ad ho
      have := World.block_lt_of_cell? w ad hv
      omega
    · rw [rhoN_ne ρ _ e] at hj
      exact hn (.inr ⟨j, o', hj, ho⟩)⟩

theorem new_turn {w' : World} (hx : Ext w w') {i : Nat} {o : Own} (hfar : ∀ ad, o.has ad → w.heap.size ≤ ad.block) : Turn ρ (rhoN ρ i o) w w' Z (purgeG i) := by
  intro c v h
  have hk := new_keep (ρ := ρ) (Z := Z) (i := i) hx hfar
  cases c with
  | d x => exact RepC.keep hk (fun _ h => by cases h) h
  | nl => exact h
  | bad => exact h
  | sl j off n =>
    simp only [C.on, purgeG]
    split
    · exact RepC.one h
    · rename_i hj
      exact RepC.keep hk (fun k hk' => by cases hk'; exact rhoN_ne ρ o hj) h
  | ptr j off =>
    simp only [C.on, purgeG]
    split
    · exact RepC.one h
    · rename_i hj
      exact RepC.keep hk (fun k hk' => by cases hk'; exact rhoN_ne ρ o hj) h

theorem RepAt.new {w' : World} (hx : Ext w w') {i : Nat} {o : Own} (hfar : ∀ ad, o.has ad → w.heap.size ≤ ad.block) {b : Blk} (h : RepAt ρ w Z w' o b) : RepB (rhoN ρ i o) w' Z o (b.on (purgeG i)) := by
  have hk := new_keep (ρ := ρ) (Z := Z) (i := i) hx hfar
  cases b with
  | row sz cs app =>
    obtain ⟨h1, h2, h3, h4, h5⟩ := h
    refine ⟨h1, h2, h3, h4, fun j x hx => ?_⟩
    obtain ⟨v, hv, hd⟩ := h5 j x hx
    exact ⟨v, hv, hd.keep hk⟩
  | box cs =>
    obtain ⟨h1, h2, h3, h4⟩ := h
    refine ⟨h1, by rw [h2]; simp, h3, fun j c hc' => ?_⟩
    rw [List.getElem?_map] at hc'
    cases hy : cs[j]? with
    | none => rw [hy] at hc'; cases hc'
    | some y =>
      rw [hy] at hc'
      cases hc'
      obtain ⟨v, hv, h1v, hr⟩ := h4 j y hy
      exact ⟨v, hv, h1v, new_turn hx hfar _ _ hr⟩
  | fbox f cs =>
    obtain ⟨h1, h2, h3, v, hv, hr⟩ := h
    exact ⟨h1, h2, h3, v, hv, RepU.turn (u := .clo f cs) (new_turn hx hfar) hr⟩

/-- A new block under a number; what stood under it is forgotten. -/
theorem Rel.new (h : Rel M Z w0 ρ st a w) {w' : World} (hx : Ext w w') (i : Nat) {o : Own} {b : Blk} (hfar : ∀ ad, o.has ad → w.heap.size ≤ ad.block)
    (hcells : o.gone = false → ∀ j, j < o.room * o.sz → (∃ v, w'.cell? (o.at j) = some v) ∧ w'.frozen? (o.at j) = false) (hlim : o.room ≤ maxLen) (hb : RepAt ρ w Z w' o b) :
    Rel M Z w0 (rhoN ρ i o) (st.new i b) a w' := by
  refine (h.purge i).add (upd_same _ _ _) (fun ad hh => ?_) (fun ad v hh hv => ?_) hx hcells hlim (hb.new hx hfar)
  · exact Nat.le_trans h.fr.size (hfar ad hh)
  · have := hfar ad hh
    have := World.block_lt_of_cell? w ad hv
    omega

end Go.Va

/-
  Soundness, second part: freezing, writing, what a call hands back.
-/
namespace Go.Va
open Go.RowKit

theorem mapM_some {α β : Type} {f : α → Option β} : ∀ {l : List α} {r : List β}, l.mapM f = some r → r.length = l.length ∧ ∀ (j : Nat) (x : α), l[j]? = some x → ∃ y, r[j]? = some y ∧ f x = some y
  | [], r, h => by simp at h; subst h; exact ⟨rfl, fun j x hx => by simp at hx⟩
  | a :: l, r, h => by
    simp only [List.mapM_cons, Option.pure_def, Option.bind_eq_bind, Option.bind_eq_some_iff, Option.some.injEq] at h
    obtain ⟨y, hy, ys, hys, rfl⟩ := h
    obtain ⟨h1, h2⟩ := mapM_some hys
    refine ⟨by simp [h1], fun j x hx => ?_⟩
    cases j with
    | zero => simp at hx; subst hx; exact ⟨y, by simp, hy⟩
    | succ j => simpa using h2 j x (by simpa using hx)

theorem getElem?_cut {α : Type} (off n j : Nat) (l : List α) : (cut off n l)[j]? = if j < n then l[off + j]? else none := by
  unfold cut
  rw [List.getElem?_take, List.getElem?_drop]

/-! ### freezing -/

def ersd (ok : Nat → Bool) (ρ : Rho) : Rho := fun j => if ok j then none else ρ j
theorem ersd_some {ok : Nat → Bool} {ρ : Rho} {j : Nat} {o : Own} (h : ersd ok ρ j = some o) : ok j = false ∧ ρ j = some o := by
  unfold ersd at h
  cases hk : ok j with
  | true => rw [hk] at h; simp at h
  | false => rw [hk] at h; exact ⟨rfl, by simpa using h⟩
theorem out_ersd {ok : Nat → Bool} {ρ : Rho} {Z : Addr → Prop} {a : Addr} (h : Out (ersd ok ρ) Z a) : Out ρ Z a := by
  rcases h with h | ⟨j, o, hj, ho⟩
  · exact .inl h
  · exact .inr ⟨j, o, (ersd_some hj).2, ho⟩

section
variable {M Z : Addr → Prop} {w0 w : World} {ρ : Rho} {st : St} {a : Act}

/-- A frozen cell is kept out no more. -/
theorem Rel.thawed (h : Rel M Z w0 ρ st a w) {ok : Nat → Bool} {i : Nat} {o : Own} (hi : ρ i = some o) (hok : ok i = true) {ad : Addr} (had : o.has ad) : ¬ Out (ersd ok ρ) Z ad := by
  rintro (hz | ⟨j, o', hj, ho'⟩)
  · rcases h.mine i o ad hi had with hm | hs
    · exact h.mz ad hm hz
    · have := h.out ad hz; omega
  · obtain ⟨hf, hj⟩ := ersd_some hj
    have hne : i ≠ j := fun e => by subst e; rw [hok] at hf; cases hf
    exact h.heap.owns.apart i j o o' hi hj hne ad had ho'

theorem Own.has_at {o : Own} (hn : o.gone = false) {j : Nat} (hj : j < o.room * o.sz) : o.has (o.at j) := ⟨hn, rfl, by simp, by simp; omega⟩

theorem toD_sl (h : Rel M Z w0 ρ st a w) (ok : Nat → Bool) (k i off n : Nat) (v : Value) (x : D) (hc : RepC ρ w Z (.sl i off n) v) (hx : toD ok st.h k (.sl i off n) = some x) : RepD w (Out (ersd ok ρ) Z) x v := by
  have hx : (if ok i then (match lk i st.h with
    | some (.row sz cs _) => if (off + n) * sz ≤ cs.length then some (.slice n (cut (off * sz) (n * sz) cs)) else none
    | _ => none) else none) = some x := by cases k <;> exact hx
  split at hx
  case isFalse => cases hx
  case isTrue hok =>
    split at hx
    case h_2 => cases hx
    case h_1 sz cs app hlk =>
      split at hx
      case isFalse => cases hx
      case isTrue hlen =>
        cases hx
        obtain ⟨o, ho, _, hcase⟩ := hc
        obtain ⟨o', ho', hb⟩ := h.heap.rep i _ hlk
        obtain rfl : o' = o := Option.some.inj (ho'.symm.trans ho)
        obtain ⟨hb1, hb2, hb3, hb4, hb5⟩ := hb
        rcases hcase with ⟨hn, rfl, rfl, rfl⟩ | ⟨hn, ad, c, rfl, hnc, hcm, had, _⟩
        · have : cut (0 * sz) (0 * sz) cs = [] := by simp [cut]
          rw [this]; exact .snil
        · have key : ∀ (j : Nat) (y : D), (cut (off * sz) (n * sz) cs)[j]? = some y → j < n * sz ∧ cs[off * sz + j]? = some y := by
            intro j y hy
            rw [getElem?_cut] at hy
            split at hy
            · exact ⟨‹_›, hy⟩
            · cases hy
          have hadr : ∀ (j : Nat) (y : D), (cut (off * sz) (n * sz) cs)[j]? = some y → ad = o'.at (off * o'.sz) := by
            intro j y hy
            obtain ⟨hj, _⟩ := key j y hy
            rcases had with h0 | h1
            · have : n = 0 := by omega
              subst this
              simp at hj
            · exact h1
          refine .slice n _ ad c (fun j => (w.cell? (o'.at (off * sz + j))).getD undef) (fun hne => ?_) hnc hcm ?_ ?_ ?_
          · obtain ⟨y, r, hyr⟩ := List.exists_cons_of_ne_nil hne
            rw [hadr 0 y (by rw [hyr]; rfl)]
          all_goals
            intro j y hy
            obtain ⟨hj, hcs⟩ := key j y hy
            obtain ⟨v, hv, hd⟩ := hb5 _ y hcs
            have hlt : off * sz + j < cs.length := (List.getElem?_eq_some_iff.1 hcs).1
            have ha := hadr j y hy
            have he : (⟨ad.block, ad.off + j, none⟩ : Addr) = o'.at (off * sz + j) := by rw [ha, hb1]; simp [Own.at]; omega
          · rw [he, hv]; rfl
          · rw [he]; exact h.thawed ho hok (Own.has_at (hb4.2.trans hn) (by rw [hb1]; omega))
          · rw [hv]; exact hd.keep (Keep.mono fun _ => out_ersd)

theorem toD_rep (h : Rel M Z w0 ρ st a w) (ok : Nat → Bool) : ∀ (k : Nat) (c : C) (v : Value) (x : D), RepC ρ w Z c v → toD ok st.h k c = some x → RepD w (Out (ersd ok ρ) Z) x v := by
  intro k
  induction k with
  | zero =>
    intro c v x hc hx
    cases c with
    | d y => simp [toD] at hx; subst hx; exact RepD.keep (Keep.mono fun _ => out_ersd) hc
    | nl => simp [toD] at hx; subst hx; cases (show v = _ from hc); exact .snil
    | bad => simp [toD] at hx
    | ptr i off =>
      simp [toD] at hx
      rw [← hx.2]
      exact .any v (RepC.one hc)
    | sl i off n => exact toD_sl h ok 0 i off n v x hc hx
  | succ k ih =>
    intro c v x hc hx
    cases c with
    | d y => simp [toD] at hx; subst hx; exact RepD.keep (Keep.mono fun _ => out_ersd) hc
    | nl => simp [toD] at hx; subst hx; cases (show v = _ from hc); exact .snil
    | bad => simp [toD] at hx
    | sl i off n => exact toD_sl h ok _ i off n v x hc hx
    | ptr i off =>
      simp only [toD] at hx
      split at hx
      case isFalse => cases hx
      case isTrue hok =>
        obtain ⟨o, ho, hn, rfl⟩ := hc
        split at hx
        case h_4 => cases hx
        case h_3 f cs hlk =>
          split at hx
          case isFalse => cases hx
          case isTrue hoff =>
            subst hoff
            rw [Option.map_eq_some_iff] at hx
            obtain ⟨ds, hds, rfl⟩ := hx
            obtain ⟨hl, hm⟩ := mapM_some hds
            obtain ⟨o', ho', hb⟩ := h.heap.rep i _ hlk
            obtain rfl : o' = o := Option.some.inj (ho'.symm.trans ho)
            obtain ⟨hb1, hb2, hb3, v, hv, vs, rfl, hvs⟩ := hb
            have hfn : RepD w (Out (ersd ok ρ) Z) (.fn f ds) (.func (.func f) #[] vs.toArray) := by
              refine .fn f ds vs (by rw [hl]; exact hvs.1) fun j y v hy hv => ?_
              have hj : j < cs.length := by rw [← hl]; exact (List.getElem?_eq_some_iff.1 hy).1
              obtain ⟨y', hy', hf⟩ := hm j _ (List.getElem?_eq_getElem hj)
              rw [hy] at hy'
              cases hy'
              exact ih _ v y (hvs.2 j _ v (List.getElem?_eq_getElem hj) hv) hf
            refine .ref _ _ (fun _ => .func (.func f) #[] vs.toArray) (fun _ => rfl) ?_ ?_ ?_
            all_goals
              intro j y hy
              obtain rfl : j = 0 := by
                have := (List.getElem?_eq_some_iff.1 hy).1
                simpa using this
            · simpa [Own.at] using hv
            · exact h.thawed ho hok (Own.has_at hb3.2 (by rw [hb1, hb2]; omega))
            · simp at hy; subst hy; exact hfn
        case h_1 sz cs app hlk =>
          cases hx
          obtain ⟨o', ho', hb⟩ := h.heap.rep i _ hlk
          obtain rfl : o' = o := Option.some.inj (ho'.symm.trans ho)
          obtain ⟨hb1, hb2, hb3, hb4, hb5⟩ := hb
          refine .ref _ _ (fun j => (w.cell? (o'.at (off + j))).getD undef) (fun _ => rfl) ?_ ?_ ?_
          all_goals
            intro j y hy
            rw [List.getElem?_drop] at hy
            obtain ⟨v, hv, hd⟩ := hb5 _ y hy
            have hlt : off + j < cs.length := (List.getElem?_eq_some_iff.1 hy).1
            have he : (⟨(o'.at off).block, (o'.at off).off + j, none⟩ : Addr) = o'.at (off + j) := by simp [Own.at]; omega
          · rw [he, hv]; rfl
          · rw [he]; exact h.thawed ho hok (Own.has_at (hb4.2.trans hn) (by rw [hb1]; omega))
          · rw [hv]; exact hd.keep (Keep.mono fun _ => out_ersd)
        case h_2 cs hlk =>
          rw [Option.map_eq_some_iff] at hx
          obtain ⟨ds, hds, rfl⟩ := hx
          obtain ⟨hl, hm⟩ := mapM_some hds
          obtain ⟨o', ho', hb⟩ := h.heap.rep i _ hlk
          obtain rfl : o' = o := Option.some.inj (ho'.symm.trans ho)
          obtain ⟨hb1, hb2, hb3, hb4⟩ := hb
          have key : ∀ (j : Nat) (y : D), ds[j]? = some y → ∃ c, cs[off + j]? = some c ∧ toD ok st.h k c = some y := by
            intro j y hy
            have hj : j < (cs.drop off).length := by rw [← hl]; exact (List.getElem?_eq_some_iff.1 hy).1
            obtain ⟨y', hy', hf⟩ := hm j _ (List.getElem?_eq_getElem hj)
            rw [hy] at hy'
            cases hy'
            refine ⟨_, ?_, hf⟩
            rw [← List.getElem?_drop, List.getElem?_eq_getElem hj]
          refine .ref _ _ (fun j => (w.cell? (o'.at (off + j))).getD undef) (fun _ => rfl) ?_ ?_ ?_
          all_goals
            intro j y hy
            obtain ⟨c, hc, hf⟩ := key j y hy
            obtain ⟨v, hv, _, hr⟩ := hb4 _ c hc
            have hlt : off + j < cs.length := (List.getElem?_eq_some_iff.1 hc).1
            have he : (⟨(o'.at off).block, (o'.at off).off + j, none⟩ : Addr) = o'.at (off + j) := by simp [Own.at]; omega
          · rw [he, hv]; rfl
          · rw [he]; exact h.thawed ho hok (Own.has_at hb3.2 (by rw [hb1, hb2]; omega))
          · rw [hv]; exact ih c v y hr hf

theorem lk_rmAll {α : Type} (ok : Nat → Bool) (k : Nat) : ∀ l : List (Nat × α), lk k (rmAll ok l) = if ok k then none else lk k l
  | [] => by simp [rmAll, lk]
  | (j, v) :: r => by
    have ih := lk_rmAll ok k r
    unfold rmAll at ih ⊢
    rw [List.filter_cons]
    cases hj : ok j with
    | true =>
      simp only [hj, Bool.not_true, Bool.false_eq_true, if_false, ih, lk]
      by_cases e : j = k
      · subst e; simp [hj]
      · simp [e]
    | false =>
      simp only [hj, Bool.not_false, if_true, lk, ih]
      by_cases e : j = k
      · subst e; simp [hj]
      · simp [e]

theorem turn_freeze (h : Rel M Z w0 ρ st a w) (ok : Nat → Bool) : Turn ρ (ersd ok ρ) w w Z (freezeG st.h ok) := by
  intro c v hc
  have hk : Keep w w (Out ρ Z) (Out (ersd ok ρ) Z) := Keep.mono fun _ => out_ersd
  cases c with
  | d x => exact RepC.keep hk (fun _ h => by cases h) hc
  | nl => exact hc
  | bad => exact hc
  | sl j off n =>
    simp only [C.on, freezeG]
    split
    · split
      · exact toD_rep h ok 4 _ v _ hc ‹_›
      · exact RepC.one hc
    · rename_i hj
      exact RepC.keep hk (fun k hk' => by cases hk'; simp [ersd, hj]) hc
  | ptr j off =>
    simp only [C.on, freezeG]
    split
    · split
      · exact toD_rep h ok 4 _ v _ hc ‹_›
      · exact RepC.one hc
    · rename_i hj
      exact RepC.keep hk (fun k hk' => by cases hk'; simp [ersd, hj]) hc

theorem Owns.ersd (h : Owns ρ w) (ok : Nat → Bool) : Owns (ersd ok ρ) w :=
  ⟨fun j o hj => h.cells j o (ersd_some hj).2, fun j j' o o' hj hj' => h.apart j j' o o' (ersd_some hj).2 (ersd_some hj').2, fun j o hj => h.lim j o (ersd_some hj).2⟩

theorem Rel.freezeK (h : Rel M Z w0 ρ st a w) (ok : Nat → Bool) : Rel M Z w0 (ersd ok ρ) (st.freezeK ok) a w where
  fr := h.fr
  heap := ⟨h.heap.owns.ersd ok, fun j b hb => by
    simp only [St.freezeK] at hb
    rw [lk_rmAll] at hb
    cases hok : ok j with
    | true => rw [hok] at hb; simp at hb
    | false =>
      rw [hok] at hb
      simp only [Bool.false_eq_true, if_false, St.on] at hb
      rw [lk_map] at hb
      cases hl : lk j st.h with
      | none => rw [hl] at hb; cases hb
      | some b0 =>
        rw [hl] at hb
        cases hb
        obtain ⟨o, ho, hr⟩ := h.heap.rep j b0 hl
        exact ⟨o, by simp [ersd, hok, ho], hr.turn (turn_freeze h ok) (Keep.mono fun _ => out_ersd) (fun _ _ _ => rfl)⟩⟩
  mine := fun j o ad hj => h.mine j o ad (ersd_some hj).2
  out := h.out
  mz := h.mz
  tmps := fun t v hv => by
    simp only [St.freezeK, St.on] at hv
    rw [lk_map] at hv
    cases hl : lk t st.t with
    | none => rw [hl] at hv; cases hv
    | some v0 =>
      rw [hl] at hv
      cases hv
      exact (h.tmps t v0 hl).turn (turn_freeze h ok)
  defers := h.defers

def rhoF (ids : List Nat) (ρ : Rho) : Rho := ersd (ids.contains ·) ρ
theorem Rel.freeze (h : Rel M Z w0 ρ st a w) (ids : List Nat) : Rel M Z w0 (rhoF ids ρ) (st.freeze ids) a w := by
  cases ids with
  | nil =>
    have : rhoF [] ρ = ρ := by funext j; simp [rhoF, ersd]
    rw [this]
    exact h
  | cons i r => exact h.freezeK _

/-- Cells that become data: what the data rests on. -/
theorem Rel.shut (h : Rel M Z w0 ρ st a w) {ids : List Nat} {cs : List C} {ds : List D} {s : St} (hs : st.sealW ids cs = some (ds, s)) {vs : List Value} (hr : RepL (RepC ρ w Z) cs vs) :
    Rel M Z w0 (rhoF ids ρ) s a w ∧ RepL (RepD w (Out (rhoF ids ρ) Z)) ds vs := by
  simp only [St.sealW, Option.map_eq_some_iff, Prod.mk.injEq] at hs
  obtain ⟨ds', hm, rfl, rfl⟩ := hs
  refine ⟨h.freeze ids, ?_⟩
  obtain ⟨hl, hf⟩ := mapM_some hm
  refine ⟨hl.trans hr.1, fun j x v hx hv => ?_⟩
  have hj : j < cs.length := by rw [← hl]; exact (List.getElem?_eq_some_iff.1 hx).1
  obtain ⟨y, hy, hd⟩ := hf j _ (List.getElem?_eq_getElem hj)
  rw [hx] at hy
  cases hy
  exact toD_rep h _ 4 _ v _ (hr.2 j _ v (List.getElem?_eq_getElem hj) hv) hd

/-! ### writing -/

theorem setCells_heap (b : Nat) : ∀ (vs : List Value) (o : Nat) (w : World) (k : Nat), k ≠ b → (w.setCells b o vs).heap[k]? = w.heap[k]?
  | [], _, _, _, _ => rfl
  | v :: r, o, w, k, h => by rw [World.setCells, setCells_heap b r (o + 1) _ k h]; exact Below.heap_setCell w ⟨b, o, none⟩ v k h
theorem setCells_keep (b : Nat) : ∀ (vs : List Value) (o : Nat) (w : World), (w.setCells b o vs).heap.size = w.heap.size ∧ (w.setCells b o vs).os = w.os ∧ (w.setCells b o vs).tape = w.tape ∧ (w.setCells b o vs).output = w.output ∧ (w.setCells b o vs).drawn = w.drawn
  | [], _, _ => ⟨rfl, rfl, rfl, rfl, rfl⟩
  | v :: r, o, w => by
    obtain ⟨h1, h2, h3, h4⟩ := setCells_keep b r (o + 1) (w.setCell ⟨b, o, none⟩ v)
    exact ⟨h1.trans (by simp [World.setCell]), h2, h3, h4⟩

/-- Cells of a block of the call's own are written; what is known of the block is turned to fit. -/
theorem Rel.write (h : Rel M Z w0 ρ st a w) {i : Nat} {o : Own} (hi : ρ i = some o) (hn : o.gone = false) {off : Nat} {vs : List Value} (hfit : off + vs.length ≤ o.room * o.sz) {b : Blk}
    (hb : Keep w (w.setCells o.g (o.o + off) vs) (Out ρ Z) (Out ρ Z) → RepB ρ (w.setCells o.g (o.o + off) vs) Z o b) : Rel M Z w0 ρ (st.blk i b) a (w.setCells o.g (o.o + off) vs) := by
  have hin : ∀ ad : Addr, ad.block = o.g → o.o + off ≤ ad.off → ad.off < o.o + off + vs.length → o.has ad := fun ad h1 h2 h3 => ⟨hn, h1, by omega, by omega⟩
  have hout : ∀ ad : Addr, ¬ o.has ad → (w.setCells o.g (o.o + off) vs).cell? ad = w.cell? ad := fun ad ha => World.cell?_setCells_out _ _ _ _ _ fun hb _ => by
    by_cases h1 : ad.off < o.o + off
    · exact .inl h1
    · by_cases h2 : o.o + off + vs.length ≤ ad.off
      · exact .inr h2
      · exact absurd (hin ad hb (by omega) (by omega)) ha
  have hk : Keep w (w.setCells o.g (o.o + off) vs) (Out ρ Z) (Out ρ Z) := fun ad x hx hv => ⟨by rw [hout ad (fun hh => hx (.inr ⟨i, o, hi, hh⟩))]; exact hv, hx⟩
  have ht : Turn ρ ρ w (w.setCells o.g (o.o + off) vs) Z idG := fun c v hc => by rw [C.on_id]; exact hc.keep hk fun _ _ => rfl
  obtain ⟨ks, kos, kt, ko, kdr⟩ := setCells_keep o.g vs (o.o + off) w
  exact {
    fr := ⟨kos.trans h.fr.os, by rw [kdr]; exact h.fr.drawn, kt.trans h.fr.tape, ko.trans h.fr.output, by rw [ks]; exact h.fr.size,
      fun ad v hm hv => by
        rw [hout ad fun hh => ?_]
        · exact h.fr.cell ad v hm hv
        · rcases h.mine i o ad hi hh with h1 | h1
          · exact hm h1
          · have := World.block_lt_of_cell? w0 ad hv; omega,
      fun ad ha => (World.frozen?_setCells _ _ _ _ _).trans (h.fr.frz ad ha),
      fun k hk' hm => by
        by_cases hvs : vs = []
        · subst hvs; exact h.fr.blk k hk' hm
        · have hpos : 0 < vs.length := List.length_pos_iff.2 hvs
          by_cases e : k = o.g
          · subst e
            have := h.mine i o ⟨o.g, o.o + off, none⟩ hi (hin _ rfl (by simp) (by simp; omega))
            rcases this with h1 | h1
            · exact absurd h1 (hm _ rfl)
            · simp at h1; omega
          · rw [setCells_heap _ _ _ _ _ e]; exact h.fr.blk k hk' hm⟩
    heap := ⟨⟨fun j o' hj hn' k hk' => by
        obtain ⟨⟨v, hv⟩, hf⟩ := h.heap.owns.cells j o' hj hn' k hk'
        refine ⟨?_, (World.frozen?_setCells _ _ _ _ _).trans hf⟩
        by_cases hh : o.has (o'.at k)
        · by_cases e : j = i
          · subst e
            obtain rfl := Option.some.inj (hi.symm.trans hj)
            by_cases hr : off ≤ k ∧ k < off + vs.length
            · have := World.cell?_setCells_in o.g vs (o.o + off) w (fun q hq => by
                obtain ⟨⟨u, hu⟩, _⟩ := h.heap.owns.cells j o hj hn (off + q) (by omega)
                have he : (⟨o.g, o.o + off + q, none⟩ : Addr) = o.at (off + q) := by simp; omega
                rw [he, hu]; rfl) (k - off) (by omega)
              have he : (⟨o.g, o.o + off + (k - off), none⟩ : Addr) = o.at k := by simp; omega
              rw [he] at this
              exact ⟨_, this⟩
            · refine ⟨v, ?_⟩
              rw [World.cell?_setCells_out]
              · exact hv
              · intro _ _; simp; omega
          · exact absurd hh (h.heap.owns.apart j i o' o hj hi e _ (Own.has_at hn' hk'))
        · exact ⟨v, by rw [hout _ hh]; exact hv⟩, h.heap.owns.apart, h.heap.owns.lim⟩,
      fun j b' hb' => by
        by_cases e : j = i
        · subst e
          simp only [St.blk] at hb'
          rw [lk_cons_same] at hb'
          cases hb'
          exact ⟨o, hi, hb hk⟩
        · simp only [St.blk] at hb'
          rw [lk_cons_ne e, lk_rm_ne e] at hb'
          obtain ⟨o', ho', hr⟩ := h.heap.rep j b' hb'
          refine ⟨o', ho', ?_⟩
          have := hr.turn ht hk (fun hn' k hk' => hout _ fun hh => h.heap.owns.apart j i o' o ho' hi e _ (Own.has_at hn' hk') hh)
          rwa [Blk.on_id] at this⟩
    mine := h.mine
    out := h.out
    mz := h.mz
    tmps := fun t v hv => by
      have := (h.tmps t v hv).turn ht
      rwa [V.on_id] at this
    defers := h.defers }

end
end Go.Va

/-
  Soundness, third part: one operation.
-/
namespace Go.Va
open Go.RowKit

/-! ### types -/

def zCell : C → Value → Bool
  | .d (.int k n), .int k' n' => k = k' && n = n'
  | .d (.bool b), .bool b' => b = b'
  | .d (.str s), .string s' => s.size = 0 && s'.size = 0
  | .nl, .slice none 0 0 => true
  | .d .nilPtr, .pointer none => true
  | .d .nilFn, .nilFunc => true
  | _, _ => false
def zCells : List C → List Value → Bool
  | [], [] => true
  | c :: r, v :: s => zCell c v && zCells r s
  | _, _ => false

def kindB (P : Program) (t : TypeId) (z : Option C) : Bool :=
  match P.underlying t, z with
  | some (.int _), some (.d (.int _ _)) => true
  | some .bool, some (.d (.bool _)) => true
  | _, _ => false

/-- Structs and arrays of numbers and bools: '==' goes cell by cell. -/
def flatB (P : Program) (t : TypeId) (d : TypeDesc) (zs : List C) : Bool :=
  !P.eqGuardType P.depth t &&
  (match d with
  | .array n e => n = zs.length && P.cellsOf e = 1 && zs.all fun z => kindB P e (some z)
  | .struct fs => !P.stoodInHeld t && fs.size = zs.length && fs.toList.zipIdx.all fun (f, k) => f.name ≠ "_" && f.offset = k && kindB P f.type zs[k]?
  | _ => false)

def zeroInt : List C → Option IntKind
  | [.d (.int k 0)] => some k
  | _ => none

def descB (d : TypeDesc) (i : TI) : Bool :=
  match d with
  | .struct fs => i.agg && i.sl = none && i.arr = none && i.flds = fs.toList.map fun f => (f.offset, f.type)
  | .array n e => i.agg && i.sl = none && i.arr = some (n, e) && i.flds = []
  | .slice e => !i.agg && i.sl = some e && i.arr = none && i.flds = [] && (match i.zero with | [.nl] => true | _ => false)
  | .int k => !i.agg && i.sl = none && i.arr = none && i.flds = [] && (match i.zero with | [.d (.int k' 0)] => k' = k | _ => false)
  | .bool => !i.agg && i.sl = none && i.arr = none && i.flds = [] && (match i.zero with | [.d (.bool _)] => true | _ => false)
  | .string => !i.agg && i.sl = none && i.arr = none && i.flds = [] && (match i.zero with | [.d (.str _)] => true | _ => false)
  | .func .. => !i.agg && i.sl = none && i.arr = none && i.flds = [] && (match i.zero with | [.d .nilFn] => true | _ => false)
  | .pointer _ => !i.agg && i.sl = none && i.arr = none && i.flds = [] && (match i.zero with | [.d .nilPtr] => true | _ => false)
  | _ => false

/-- What the walk takes for known of a type is so. -/
def tyB (P : Program) (t : TypeId) (i : TI) : Bool :=
  match P.info? t, P.underlying t with
  | some info, some d =>
    info.size = i.size && info.bytes = i.bytes && i.size ≤ 10000 && i.zero.length = i.size && (match info.zero with | some z => zCells i.zero z.cells.toList | none => false) && descB d i && (!i.flat || flatB P t d i.zero)
  | _, _ => false

structure TyOk (P : Program) (t : TypeId) (i : TI) (info : TypeInfo) (d : TypeDesc) : Prop where
  inf : P.info? t = some info
  und : P.underlying t = some d
  size : info.size = i.size
  bytes : info.bytes = i.bytes
  small : i.size ≤ 10000
  zlen : i.zero.length = i.size
  zero : ∃ z, info.zero = some z ∧ zCells i.zero z.cells.toList = true
  desc : descB d i = true
  flat : i.flat = true → flatB P t d i.zero = true

theorem tyB_ok {P : Program} {t : TypeId} {i : TI} (h : tyB P t i = true) : ∃ info d, TyOk P t i info d := by
  unfold tyB at h
  cases hi : P.info? t with
  | none => rw [hi] at h; cases h
  | some info =>
    cases hu : P.underlying t with
    | none => rw [hi, hu] at h; cases h
    | some d =>
      rw [hi, hu] at h
      simp only [Bool.and_eq_true, decide_eq_true_eq, Bool.or_eq_true, Bool.not_eq_true'] at h
      obtain ⟨⟨⟨⟨⟨⟨h1, h2⟩, h2a⟩, h2b⟩, h3⟩, h4⟩, h5⟩ := h
      refine ⟨info, d, hi, hu, h1, h2, h2a, h2b, ?_, h4, fun hf => ?_⟩
      · cases hz : info.zero with
        | none => rw [hz] at h3; cases h3
        | some z => rw [hz] at h3; exact ⟨z, rfl, h3⟩
      · rcases h5 with h5 | h5
        · rw [hf] at h5; cases h5
        · exact h5

def TabOk (P : Program) (T : Tab) : Prop := ∀ t i, T t = some i → tyB P t i = true

section
variable {P : Program} {t : TypeId} {i : TI} {info : TypeInfo} {d : TypeDesc}
theorem TyOk.isAgg (h : TyOk P t i info d) (w : World) : (isAgg t).run P w = .ok i.agg w := by
  have hd := h.desc
  cases d <;> simp only [descB, Bool.and_eq_true, Bool.not_eq_true', Bool.false_eq_true] at hd <;> simp [Go.isAgg, run_underlying h.und, hd]
theorem TyOk.sizeOf (h : TyOk P t i info d) (w : World) : (sizeOf t).run P w = .ok i.size w := by
  simp [Go.sizeOf, typeInfo, h.inf, h.size]
theorem TyOk.slice (h : TyOk P t i info d) {e : TypeId} (he : i.sl = some e) : P.underlying t = some (.slice e) := by
  have hd := h.desc
  cases d <;> simp [descB, he] at hd
  rw [h.und, hd.1.1.1.2]
theorem TyOk.array (h : TyOk P t i info d) {n e : Nat} (he : i.arr = some (n, e)) : P.underlying t = some (.array n e) := by
  have hd := h.desc
  cases d <;> simp [descB, he] at hd
  obtain ⟨⟨_, h1, h2⟩, _⟩ := hd
  rw [h.und, h1, h2]
theorem TyOk.field (h : TyOk P t i info d) {f : Nat} {p : Nat × Nat} (he : i.flds[f]? = some p) : ∃ fs fd, P.underlying t = some (.struct fs) ∧ fs[f]? = some fd ∧ fd.offset = p.1 ∧ fd.type = p.2 := by
  have hd := h.desc
  cases d <;> simp [descB] at hd
  case struct fs =>
    obtain ⟨_, h2⟩ := hd
    rw [h2] at he
    simp only [List.getElem?_map, Option.map_eq_some_iff] at he
    obtain ⟨fd, hfd, rfl⟩ := he
    exact ⟨fs, fd, h.und, by simpa using hfd, rfl, rfl⟩
  all_goals (first | (obtain ⟨⟨_, h2⟩, _⟩ := hd; rw [h2] at he; cases he) | (obtain ⟨_, h2⟩ := hd; rw [h2] at he; cases he))
theorem TyOk.intKind (h : TyOk P t i info d) {k : IntKind} {n : Int} (ha : i.agg = false) (hz : i.zero = [.d (.int k n)]) : P.underlying t = some (.int k) := by
  have hd := h.desc
  cases d <;> simp [descB, hz, ha] at hd
  case int k' =>
    rw [h.und]
    have := hd.2
    split at this <;> simp_all
theorem TyOk.bool (h : TyOk P t i info d) {b : Bool} (ha : i.agg = false) (hz : i.zero = [.d (.bool b)]) : P.underlying t = some .bool := by
  have hd := h.desc
  cases d <;> simp [descB, hz, ha] at hd
  exact h.und
theorem TyOk.func (h : TyOk P t i info d) (ha : i.agg = false) (hz : i.zero = [.d .nilFn]) : ∃ p r v, P.underlying t = some (.func p r v) := by
  have hd := h.desc
  cases d <;> simp [descB, hz, ha] at hd
  exact ⟨_, _, _, h.und⟩
theorem TyOk.list (h : TyOk P t i info d) (ha : i.agg = false) (hz : i.zero = [.nl]) : ∃ e, P.underlying t = some (.slice e) := by
  have hd := h.desc
  cases d <;> simp [descB, hz, ha] at hd
  exact ⟨_, h.und⟩
theorem TyOk.str (h : TyOk P t i info d) (h1 : i.sl = none) (h2 : i.arr = none) (ha : i.agg = false) {s : ByteArray} (hz : i.zero = [.d (.str s)]) : P.underlying t = some .string := by
  have hd := h.desc
  cases d <;> simp [descB, hz, ha, h1, h2] at hd
  exact h.und
end

theorem zCell_rep {ρ : Rho} {w : World} {Z : Addr → Prop} {c : C} {v : Value} (h : zCell c v = true) : RepC ρ w Z c v := by
  unfold zCell at h
  split at h <;> simp at h
  · obtain ⟨rfl, rfl⟩ := h; exact .int _ _
  · subst h; exact .bool _
  · rename_i s s'
    have : s = s' := h.1.trans h.2.symm
    subst this
    exact .str _
  · rfl
  · exact .nilPtr
  · exact .nilFn

theorem zCells_rep {ρ : Rho} {w : World} {Z : Addr → Prop} : ∀ {cs : List C} {vs : List Value}, zCells cs vs = true → RepL (RepC ρ w Z) cs vs
  | [], [], _ => ⟨rfl, fun j x v hx _ => by simp at hx⟩
  | [], _ :: _, h => by simp [zCells] at h
  | _ :: _, [], h => by simp [zCells] at h
  | c :: r, v :: s, h => by
    simp only [zCells, Bool.and_eq_true] at h
    obtain ⟨h1, h2⟩ := zCells_rep (ρ := ρ) (w := w) (Z := Z) h.2
    refine ⟨by simp [h1], fun j x u hx hu => ?_⟩
    cases j with
    | zero => simp at hx hu; subst hx; subst hu; exact zCell_rep h.1
    | succ j => exact h2 j x u (by simpa using hx) (by simpa using hu)

/-! ### operands -/

theorem cCell_rep {ρ : Rho} {w : World} {Z : Addr → Prop} {v : Value} {c : C} (h : cCell v = some c) : RepC ρ w Z c v := by
  unfold cCell at h
  split at h <;> cases h
  · exact .int _ _
  · exact .bool _
  · exact .str _
  · rfl
  · exact .nilPtr
  · exact .nilFn

theorem cVal_rep {ρ : Rho} {w : World} {Z : Addr → Prop} {v : Value} {x : V} (h : cVal v = some x) : RepV ρ w Z x v := by
  unfold cVal at h
  split at h
  · rename_i cs
    rw [Option.map_eq_some_iff] at h
    obtain ⟨l, hl, rfl⟩ := h
    obtain ⟨h1, h2⟩ := mapM_some hl
    refine ⟨cs.toList, by simp, h1, fun j c v hc hv => ?_⟩
    obtain ⟨y, hy, hf⟩ := h2 j v hv
    rw [hc] at hy
    cases hy
    exact cCell_rep hf
  · rw [Option.map_eq_some_iff] at h
    obtain ⟨c, hc, rfl⟩ := h
    exact cCell_rep hc

section
variable {P : Program} {M Z : Addr → Prop} {w0 w : World} {ρ : Rho} {st : St} {a : Act}

theorem Rel.ev (h : Rel M Z w0 ρ st a w) {x : Operand} {v : V} (hv : st.ev x = some v) : RepV ρ w Z v (a.eval x) := by
  cases x with
  | tmp t => exact h.tmps t v hv
  | const c => exact cVal_rep hv
  | func f => cases hv; exact .fn f [] [] rfl (fun j x v hx => by simp at hx)
  | global g => cases hv

theorem Rel.evU (h : Rel M Z w0 ρ st a w) {x : Operand} {u : U} (hv : st.evU x = some u) : RepU ρ w Z u (a.eval x) := by
  unfold St.evU at hv
  split at hv <;> cases hv
  exact h.ev ‹_›
theorem Rel.evC (h : Rel M Z w0 ρ st a w) {x : Operand} {c : C} (hv : st.evC x = some c) : RepC ρ w Z c (a.eval x) := by
  unfold St.evC at hv
  split at hv <;> cases hv
  exact h.ev ‹_›
theorem Rel.evI (h : Rel M Z w0 ρ st a w) {x : Operand} {p : IntKind × Int} (hv : st.evI x = some p) : a.eval x = .int p.1 p.2 := by
  unfold St.evI at hv
  split at hv <;> cases hv
  have := h.ev ‹_›
  generalize a.eval x = y at this
  cases this
  rfl
theorem Rel.evB (h : Rel M Z w0 ρ st a w) {x : Operand} {b : Bool} (hv : st.evB x = some b) : a.eval x = .bool b := by
  unfold St.evB at hv
  split at hv <;> cases hv
  have := h.ev ‹_›
  generalize a.eval x = y at this
  cases this
  rfl

theorem RepU.cells {u : U} {v : Value} (h : RepU ρ w Z u v) : RepL (RepC ρ w Z) u.cells v.cells.toList := by
  cases u with
  | c x =>
    have h1 := RepC.one h
    have : v.cells = #[v] := by cases v <;> first | rfl | cases h1
    rw [this]
    refine ⟨rfl, fun j c u hc hu => ?_⟩
    cases j with
    | zero => simp [U.cells] at hc hu; subst hc; subst hu; exact h
    | succ j => simp [U.cells] at hc
  | agg cs => obtain ⟨vs, rfl, hl⟩ := h; simpa [Value.cells, U.cells] using hl
  | clo f cs =>
    obtain ⟨vs, rfl, _⟩ := h
    refine ⟨rfl, fun j c u hc hu => ?_⟩
    cases j with
    | zero => simp [U.cells, Value.cells] at hc hu; subst hc; subst hu; exact rfl
    | succ j => simp [U.cells] at hc

/-- What an operation comes to. -/
def StepOk (P : Program) (M Z : Addr → Prop) (w0 : World) (o : Oper) (st' : St) (a : Act) (w : World) : Prop :=
  ∃ nx v w' ρ', (execOp a.eval o).run P w = .ok nx w' ∧ (nx = .value v ∨ (nx = .skip ∧ v = undef)) ∧ Rel M Z w0 ρ' st' (a.put o.dst v) w'

theorem StepOk.val (h : Rel M Z w0 ρ st a w) {o : Oper} {v : V} {x : Value} (hd : ∀ d, o.dst = some d → d < a.tmps.size)
    (hr : (execOp a.eval o).run P w = .ok (.value x) w) (hv : RepV ρ w Z v x) : StepOk P M Z w0 o (st.put o.dst v) a w :=
  ⟨_, x, w, ρ, hr, .inl rfl, h.put hd hv⟩

/-- A value in a new world. -/
theorem StepOk.new {o : Oper} {v : V} {x : Value} {w' : World} {ρ' : Rho} {s : St} (hd : ∀ d, o.dst = some d → d < a.tmps.size)
    (hr : (execOp a.eval o).run P w = .ok (.value x) w') (h : Rel M Z w0 ρ' s a w') (hv : RepV ρ' w' Z v x) : StepOk P M Z w0 o (s.put o.dst v) a w :=
  ⟨_, x, w', ρ', hr, .inl rfl, h.put hd hv⟩

/-! ### new blocks -/

theorem frozen_new (w : World) (cs : Array Value) (e : TypeId) (j : Nat) : (w.alloc (.cells cs e)).frozen? ⟨w.heap.size, j, none⟩ = false :=
  World.frozen?_alloc_at cs e w.heap.size j rfl

def newOwn (w : World) (sz room : Nat) (app : Bool) : Own := { g := w.heap.size, o := 0, sz, room, app, nil := false, gone := false }

theorem newOwn_far (w : World) (sz room : Nat) (app : Bool) : ∀ ad, (newOwn w sz room app).has ad → w.heap.size ≤ ad.block := fun ad h => by
  obtain ⟨_, h, _⟩ := h
  simp [newOwn] at h
  omega

/-- A box that has just been made. -/
theorem Rel.newBox (h : Rel M Z w0 ρ st a w) (i : Nat) {cs : List C} {vs : List Value} (e : TypeId) (hl : RepL (RepC ρ w Z) cs vs) (hlim : cs.length ≤ maxLen) :
    Rel M Z w0 (rhoN ρ i (newOwn w 1 cs.length false)) (st.new i (.box cs)) a (w.alloc (.cells vs.toArray e)) := by
  refine h.new (Ext.alloc w _) i (newOwn_far w _ _ _) (fun _ j hj => ⟨?_, ?_⟩) hlim ?_
  · have hj' : j < vs.length := by rw [← hl.1]; simpa [newOwn] using hj
    exact ⟨vs[j], by simp [newOwn, Own.at, hj']⟩
  · simp only [newOwn, Own.at, Nat.zero_add]; exact frozen_new w vs.toArray e j
  · refine ⟨rfl, rfl, ⟨rfl, rfl⟩, fun j c hc => ?_⟩
    have hj : j < cs.length := (List.getElem?_eq_some_iff.1 hc).1
    have hj' : j < vs.length := by rw [← hl.1]; exact hj
    have hv : vs[j]? = some vs[j] := List.getElem?_eq_getElem hj'
    exact ⟨vs[j], by simp [newOwn, Own.at, hj'], RepC.one (hl.2 j c _ hc hv), hl.2 j c _ hc hv⟩

/-- A row that has just been made; its cells may be more than what is known of it. -/
theorem Rel.newRow (h : Rel M Z w0 ρ st a w) {w1 : World} (hx : Ext w w1) (hs : w1.heap.size = w.heap.size) (i : Nat) {sz room : Nat} {ds : List D} {vs : List Value} (more : List Value) (e : TypeId) (app : Bool)
    (hl : RepL (RepD w (Out ρ Z)) ds vs) (hroom : (vs ++ more).length = room * sz) (hlim : room ≤ maxLen) :
    Rel M Z w0 (rhoN ρ i (newOwn w sz room app)) (st.new i (.row sz ds app)) a (w1.alloc (.cells (vs ++ more).toArray e)) := by
  have hcell : ∀ j, j < (vs ++ more).length → (w1.alloc (.cells (vs ++ more).toArray e)).cell? ⟨w.heap.size, j, none⟩ = (vs ++ more)[j]? := fun j hj => by
    rw [← hs]
    simp
  refine h.new (Ext.trans hx (Ext.alloc w1 _)) i (newOwn_far w _ _ _) (fun _ j hj => ⟨?_, ?_⟩) hlim ?_
  · have hj' : j < (vs ++ more).length := by rw [hroom]; simpa [newOwn] using hj
    refine ⟨(vs ++ more)[j], ?_⟩
    simp only [newOwn, Own.at, Nat.zero_add]
    rw [hcell j hj', List.getElem?_eq_getElem hj']
  · simpa [newOwn, Own.at, hs] using frozen_new w1 (vs ++ more).toArray e j
  · refine ⟨rfl, rfl, ?_, ⟨fun hn => by simp [newOwn] at hn, rfl⟩, fun j x hx' => ?_⟩
    · have := hl.1
      simp [newOwn] at hroom ⊢
      omega
    · have hj : j < ds.length := (List.getElem?_eq_some_iff.1 hx').1
      have hj' : j < vs.length := by rw [← hl.1]; exact hj
      have hv : vs[j]? = some vs[j] := List.getElem?_eq_getElem hj'
      refine ⟨vs[j], ?_, hl.2 j x _ hx' hv⟩
      simp only [newOwn, Own.at, Nat.zero_add]
      rw [hcell j (by simp; omega), List.getElem?_append_left hj', hv]

end
end Go.Va

/-
  Soundness, fourth part: the operations, one by one.
-/
namespace Go.Va
open Go.RowKit

section
variable {P : Program} {T : Tab} {M Z : Addr → Prop} {w0 w : World} {ρ : Rho} {st : St} {a : Act}

theorem mk_some {d : Option Nat} {st st' : St} {b : Blk} {c : Nat → C} (h : mk d st b c = some st') : ∃ k, d = some k ∧ st' = (st.new k b).put (some k) (vC (c k)) := by
  unfold mk at h
  rw [Option.map_eq_some_iff] at h
  obtain ⟨k, hk, rfl⟩ := h
  exact ⟨k, hk, rfl⟩

/-- Where the operation's place is known. -/
theorem StepOk.at {o : Oper} {k : Nat} (hk : o.dst = some k) {v : V} {x : Value} {w' : World} {ρ' : Rho} {s : St} (hd : ∀ d, o.dst = some d → d < a.tmps.size)
    (hr : (execOp a.eval o).run P w = .ok (.value x) w') (h : Rel M Z w0 ρ' s a w') (hv : RepV ρ' w' Z v x) : StepOk P M Z w0 o (s.put (some k) v) a w := by
  have := StepOk.new (o := o) hd hr h hv
  rwa [hk] at this

theorem step_move (h : Rel M Z w0 ρ st a w) {o : Oper} (hd : ∀ d, o.dst = some d → d < a.tmps.size) (x : Operand) (ho : o.op = .move x ∨ o.op = .assign x) {st' : St}
    (hs : (st.ev x).map (fun v => st.put o.dst v) = some st') : StepOk P M Z w0 o st' a w := by
  rw [Option.map_eq_some_iff] at hs
  obtain ⟨v, hv, rfl⟩ := hs
  exact .val h hd (x := a.eval x) (by rcases ho with ho | ho <;> simp [execOp, ho]) (h.ev hv)

theorem step_nil (h : Rel M Z w0 ρ st a w) (_ : TabOk P T) {o : Oper} (hd : ∀ d, o.dst = some d → d < a.tmps.size) (ho : o.op = .assign (.const (.slice none 0 0))) {st' : St}
    (hs : nilAssign T o.type o.dst st = some st') : StepOk P M Z w0 o st' a w := by
  simp only [nilAssign, Option.bind_eq_some_iff, Option.map_eq_some_iff] at hs
  obtain ⟨k, hk, i, _, e, _, j, _, rfl⟩ := hs
  have hn := h.new (Ext.refl w) k (o := { g := 0, o := 0, sz := j.size, room := 0, app := true, nil := true }) (b := .row j.size [] true)
    (fun ad hh => by cases hh.1) (fun hh => by cases hh) (by simp [maxLen]) ⟨rfl, rfl, by simp, ⟨fun _ => rfl, rfl⟩, fun q x hx => by simp at hx⟩
  exact .at hk hd (x := .slice none 0 0) (by simp [execOp, ho, Act.eval]) hn ⟨_, rhoN_same _ _ _, by simp, .inl ⟨rfl, rfl, rfl, rfl⟩⟩

theorem step_pick (h : Rel M Z w0 ρ st a w) {o : Oper} (hd : ∀ d, o.dst = some d → d < a.tmps.size) (c x y : Operand) (ho : o.op = .pick c x y) {st' : St}
    (hs : ((st.evB c).bind fun c => (pickV c (st.ev x) (st.ev y)).map fun v => st.put o.dst v) = some st') : StepOk P M Z w0 o st' a w := by
  simp only [Option.bind_eq_some_iff, Option.map_eq_some_iff] at hs
  obtain ⟨b, hb, v, hv, rfl⟩ := hs
  have hb' := h.evB hb
  cases b with
  | true => exact .val h hd (x := a.eval x) (by simp [execOp, ho, hb', asBool]) (h.ev (by simpa [pickV] using hv))
  | false => exact .val h hd (x := a.eval y) (by simp [execOp, ho, hb', asBool]) (h.ev (by simpa [pickV] using hv))

theorem lim_small {n : Nat} (h : n ≤ 10000) : n ≤ maxLen := by unfold maxLen; omega

theorem step_alloc (h : Rel M Z w0 ρ st a w) (hT : TabOk P T) {o : Oper} (hd : ∀ d, o.dst = some d → d < a.tmps.size) (t : TypeId) (ho : o.op = .alloc t) {st' : St}
    (hs : ((T t).bind fun i => mk o.dst st (.box i.zero) fun d => .ptr d 0) = some st') : StepOk P M Z w0 o st' a w := by
  rw [Option.bind_eq_some_iff] at hs
  obtain ⟨i, hi, hs⟩ := hs
  obtain ⟨k, hk, rfl⟩ := mk_some hs
  obtain ⟨info, d, ht⟩ := tyB_ok (hT t i hi)
  obtain ⟨z, hz, hzc⟩ := ht.zero
  have hb := h.newBox k t (zCells_rep hzc) (by rw [ht.zlen]; exact lim_small ht.small)
  refine .at hk hd (x := .pointer (some ⟨w.heap.size, 0, none⟩)) ?_ hb ⟨_, rhoN_same _ _ _, rfl, by simp [newOwn]⟩
  simp [execOp, ho, Instr.alloc, zeroValue, typeInfo, ht.inf, hz, newVar, newRow]

theorem step_box (h : Rel M Z w0 ρ st a w) (hT : TabOk P T) {o : Oper} (hd : ∀ d, o.dst = some d → d < a.tmps.size) (t : TypeId) (x : Operand) (ho : o.op = .box t x) {st' : St}
    (hs : ((T t).bind fun i => (st.evU x).bind fun u => if u.cells.length = i.size then mk o.dst st (.box u.cells) (fun d => .ptr d 0) else none) = some st') : StepOk P M Z w0 o st' a w := by
  simp only [Option.bind_eq_some_iff] at hs
  obtain ⟨i, hi, u, hu, hs⟩ := hs
  split at hs
  case isFalse => cases hs
  case isTrue hl =>
    obtain ⟨k, hk, rfl⟩ := mk_some hs
    obtain ⟨info, d, ht⟩ := tyB_ok (hT t i hi)
    have hb := h.newBox k t (h.evU hu).cells (by rw [hl]; exact lim_small ht.small)
    refine .at hk hd (x := .pointer (some ⟨w.heap.size, 0, none⟩)) ?_ hb ⟨_, rhoN_same _ _ _, rfl, by simp [newOwn]⟩
    simp [execOp, ho, Instr.box, newVar, newRow]

/-! ### parts laid over cells -/

theorem splice_get {α : Type} (off : Nat) (new l : List α) (h : off + new.length ≤ l.length) (k : Nat) :
    (splice off new l)[k]? = if off ≤ k ∧ k < off + new.length then new[k - off]? else l[k]? := by
  unfold splice
  rw [List.append_assoc]
  by_cases h1 : k < off
  · rw [List.getElem?_append_left (by simp; omega), List.getElem?_take, if_pos h1, if_neg (by omega)]
  · rw [List.getElem?_append_right (by simp; omega)]
    simp only [List.length_take, Nat.min_eq_left (show off ≤ l.length by omega)]
    by_cases h2 : k < off + new.length
    · rw [List.getElem?_append_left (by omega), if_pos (by omega)]
    · rw [List.getElem?_append_right (by omega), List.getElem?_drop, if_neg (by omega)]
      congr 1
      omega
theorem length_splice {α : Type} (off : Nat) (new l : List α) (h : off + new.length ≤ l.length) : (splice off new l).length = l.length := by
  unfold splice
  simp
  omega

theorem RepL.splice {α : Type} {r : α → Value → Prop} {off : Nat} {new l : List α} {vn vl : List Value} (hn : RepL r new vn) (hl : RepL r l vl) (h : off + new.length ≤ l.length) :
    RepL r (splice off new l) (splice off vn vl) := by
  have h' : off + vn.length ≤ vl.length := by rw [← hn.1, ← hl.1]; exact h
  refine ⟨by rw [length_splice _ _ _ h, length_splice _ _ _ h', hl.1], fun j x v hx hv => ?_⟩
  rw [splice_get _ _ _ h] at hx
  rw [splice_get _ _ _ h', ← hn.1] at hv
  split at hx
  · rw [if_pos ‹_›] at hv; exact hn.2 _ _ _ hx hv
  · rw [if_neg ‹_›] at hv; exact hl.2 _ _ _ hx hv

theorem foldl_splice (off : Nat) (v cells : Array Value) (h : off + v.size ≤ cells.size) :
    (v.zipIdx.foldl (fun cs (x : Value × Nat) => cs.setIfInBounds (off + x.2) x.1) cells).toList = splice off v.toList cells.toList := by
  obtain ⟨g1, g2⟩ := Great.foldl_set off v.toList 0 cells
  have e : v.zipIdx.foldl (fun cs (x : Value × Nat) => cs.setIfInBounds (off + x.2) x.1) cells = (v.toList.zipIdx 0).foldl (fun cs (x : Value × Nat) => cs.setIfInBounds (off + x.2) x.1) cells := by
    rw [← Array.foldl_toList, Array.toList_zipIdx]
  rw [e]
  apply List.ext_getElem?
  intro k
  rw [splice_get _ _ _ (by simpa using h), Array.getElem?_toList, g2 k]
  simp only [Nat.add_zero, Array.length_toList]
  by_cases hk : off ≤ k ∧ k < off + v.size
  · rw [if_pos ⟨hk.1, hk.2, by omega⟩, if_pos hk]
  · rw [if_neg (by omega), if_neg hk]
    simp

theorem fill_rep {r : C → Value → Prop} {place : Nat → Option (Nat × Nat)} : ∀ {parts : List (Nat × List C)} {vps : List (Nat × Value)} {cs cs' : List C} {vs : Array Value},
    RepL r cs vs.toList → parts.length = vps.length → (∀ (j : Nat) (p : Nat × List C) (q : Nat × Value), parts[j]? = some p → vps[j]? = some q → p.1 = q.1 ∧ RepL r p.2 q.2.cells.toList) → fillCs place cs parts = some cs' →
    ∃ vs', Instr.fill place vs vps = some vs' ∧ RepL r cs' vs'.toList
  | [], [], cs, cs', vs, h, _, _, hf => by cases hf; exact ⟨vs, rfl, h⟩
  | [], _ :: _, _, _, _, _, hl, _, _ => by simp at hl
  | _ :: _, [], _, _, _, _, hl, _, _ => by simp at hl
  | (i, c) :: ps, (i', v) :: vps, cs, cs', vs, h, hl, hp, hf => by
    obtain ⟨h1, h2⟩ := hp 0 _ _ rfl rfl
    simp at h1 h2
    subst h1
    simp only [fillCs, Option.bind_eq_some_iff] at hf
    obtain ⟨p, hpl, hf⟩ := hf
    split at hf
    case isFalse => cases hf
    case isTrue hc =>
      have hsz : v.cells.size = c.length := by have := h2.1; simpa using this.symm
      have hcs : cs.length = vs.size := by have := h.1; simpa using this
      have hfit : p.1 + v.cells.size ≤ vs.size := by omega
      obtain ⟨vs', hv', hr'⟩ := fill_rep (vps := vps) (vs := v.cells.zipIdx.foldl (fun cs (x : Value × Nat) => cs.setIfInBounds (p.1 + x.2) x.1) vs)
        (by rw [foldl_splice _ _ _ hfit]; exact h2.splice h (by omega)) (by simpa using hl) (fun j q q' hq hq' => hp (j + 1) q q' (by simpa using hq) (by simpa using hq')) hf
      refine ⟨vs', ?_, hr'⟩
      unfold Instr.fill
      rw [hpl]
      simp only
      rw [if_neg (by simp; omega)]
      exact hv'

theorem evUs_rep (h : Rel M Z w0 ρ st a w) : ∀ {ps : List (Nat × Operand)} {l : List (Nat × List C)}, st.evUs ps = some l →
    l.length = (ps.map fun p => (p.1, a.eval p.2)).length ∧ ∀ (j : Nat) (p : Nat × List C) (q : Nat × Value), l[j]? = some p → (ps.map fun p => (p.1, a.eval p.2))[j]? = some q → p.1 = q.1 ∧ RepL (RepC ρ w Z) p.2 q.2.cells.toList
  | [], l, hl => by cases hl; exact ⟨rfl, fun j p q hp => by simp at hp⟩
  | (i, x) :: r, l, hl => by
    simp only [St.evUs, Option.bind_eq_some_iff, Option.map_eq_some_iff] at hl
    obtain ⟨u, hu, l', hl', rfl⟩ := hl
    obtain ⟨h1, h2⟩ := evUs_rep h hl'
    refine ⟨by simpa using h1, fun j p q hp hq => ?_⟩
    cases j with
    | zero => simp at hp hq; subst hp; subst hq; exact ⟨rfl, (h.evU hu).cells⟩
    | succ j => exact h2 j p q (by simpa using hp) (by simpa using hq)

theorem evUs_map (a : Act) (ps : Array (Nat × Operand)) : (ps.map fun x => (x.1, a.eval x.2)).toList = ps.toList.map fun p => (p.1, a.eval p.2) := by simp

theorem places_ok (hT : TabOk P T) : ∀ (fs : List (Nat × Nat)) (l : List Field), fs = l.map (fun f => (f.offset, f.type)) → ∀ ps : List (Nat × Nat), fs.mapM (fun p => (T p.2).map fun j => (p.1, j.size)) = some ps →
    l.mapM (fun f => (P.info? f.type).map fun i => (f.offset, i.size)) = some ps
  | _, [], hfs, ps, hp => by subst hfs; simpa using hp
  | _, f :: l, hfs, ps, hp => by
    subst hfs
    simp only [List.map_cons, List.mapM_cons, Option.bind_eq_bind, Option.pure_def, Option.bind_eq_some_iff, Option.map_eq_some_iff, Option.some.injEq] at hp
    obtain ⟨q, ⟨j, hj, rfl⟩, r, hr, rfl⟩ := hp
    obtain ⟨info, d, ht⟩ := tyB_ok (hT _ _ hj)
    have ih := places_ok hT _ l rfl r hr
    simp [List.mapM_cons, ht.inf, ih, ht.size]


theorem step_build (h : Rel M Z w0 ρ st a w) (hT : TabOk P T) {o : Oper} (hd : ∀ d, o.dst = some d → d < a.tmps.size) (t : TypeId) (parts : Array (Nat × Operand)) (ho : o.op = .build t parts) {st' : St}
    (hs : ((T t).bind fun i => (st.evUs parts.toList).bind fun l => (build T i l).map fun u => st.put o.dst (.u u)) = some st') : StepOk P M Z w0 o st' a w := by
  simp only [Option.bind_eq_some_iff, Option.map_eq_some_iff] at hs
  obtain ⟨i, hi, l, hl, u, hu, rfl⟩ := hs
  obtain ⟨info, d, ht⟩ := tyB_ok (hT t i hi)
  obtain ⟨z, hz, hzc⟩ := ht.zero
  obtain ⟨hl1, hl2⟩ := evUs_rep h hl
  have hzr : RepL (RepC ρ w Z) i.zero z.cells.toList := zCells_rep hzc
  have key : ∃ vs, P.built t (parts.map fun (i, x) => (i, a.eval x)).toList = some vs ∧ RepU ρ w Z u (.agg vs) := by
    unfold build at hu
    have he : (parts.map fun (i, x) => (i, a.eval x)).toList = parts.toList.map fun p => (p.1, a.eval p.2) := evUs_map a parts
    split at hu
    · rename_i n e harr
      simp only [Option.bind_eq_some_iff, Option.map_eq_some_iff] at hu
      obtain ⟨j, hj, cs, hcs, rfl⟩ := hu
      obtain ⟨infe, de, hte⟩ := tyB_ok (hT e j hj)
      obtain ⟨vs, hv, hr⟩ := fill_rep hzr hl1 hl2 hcs
      refine ⟨vs, ?_, vs.toList, by simp, hr⟩
      unfold Program.built
      rw [ht.inf, ht.array harr]
      simp only [hz, hte.inf, hte.size, he]
      exact hv
    · split at hu
      case isFalse => cases hu
      case isTrue hagg =>
        simp only [Option.bind_eq_some_iff, Option.map_eq_some_iff] at hu
        obtain ⟨ps, hps, cs, hcs, rfl⟩ := hu
        obtain ⟨vs, hv, hr⟩ := fill_rep hzr hl1 hl2 hcs
        refine ⟨vs, ?_, vs.toList, by simp, hr⟩
        have hdd := ht.desc
        have harr : i.arr = none := by assumption
        cases d <;> simp [descB, harr, hagg] at hdd
        case struct fs =>
          have hpl := places_ok (P := P) hT i.flds fs.toList hdd.2 ps hps
          unfold Program.built
          rw [ht.inf, ht.und]
          simp only [hz, hpl, he]
          have : (fun x => (ps.toArray[x]? : Option (Nat × Nat))) = placeOf ps := by funext x; simp [placeOf]
          rw [this]
          exact hv
  obtain ⟨vs, hv, hr⟩ := key
  refine .val h hd (x := .agg vs) ?_ hr
  simp only [execOp, ho, Sem.run_bind, run_build w t _ vs hv, Result.andThen_ok, Sem.run_pure]

/-! ### loads -/

theorem RepL.map_d {cs : List D} {vs : List Value} {ρ : Rho} {w : World} {Z : Addr → Prop} (h : RepL (RepD w (Out ρ Z)) cs vs) : RepL (RepC ρ w Z) (cs.map .d) vs :=
  h.imp C.d fun _ _ _ hx => hx

theorem run_load_cells (w : World) (g o : Nat) (vs : List Value) (h : ∀ (j : Nat) (v : Value), vs[j]? = some v → w.cell? ⟨g, o + j, none⟩ = some v) : (loadCells ⟨g, o, none⟩ vs.length).run P w = .ok vs.toArray w :=
  run_loadCells_list w ⟨g, o, none⟩ vs fun j v hv => by rw [addr_add]; exact h j v hv

theorem run_loadVar_agg {t : TypeId} {i : TI} {info : TypeInfo} {d : TypeDesc} (ht : TyOk P t i info d) (ha : i.agg = true) (g o : Nat) (vs : List Value) (hl : vs.length = i.size)
    (h : ∀ (j : Nat) (v : Value), vs[j]? = some v → w.cell? ⟨g, o + j, none⟩ = some v) : (loadVar t ⟨g, o, none⟩).run P w = .ok (.agg vs.toArray) w := by
  have hc := run_load_cells (P := P) w g o vs h
  rw [hl] at hc
  simp [loadVar, ht.isAgg, ha, ht.sizeOf, hc]
theorem run_loadVar_one {t : TypeId} {i : TI} {info : TypeInfo} {d : TypeDesc} (ht : TyOk P t i info d) (ha : i.agg = false) (g o : Nat) (v : Value)
    (h : w.cell? ⟨g, o, none⟩ = some v) : (loadVar t ⟨g, o, none⟩).run P w = .ok v w := by
  simp [loadVar, ht.isAgg, ha, load, Sem.run, h]

def Blk.all : Blk → List C
  | .row _ cs _ => cs.map .d
  | .box cs => cs
  | .fbox _ _ => [.bad]

theorem RepB.all {o : Own} {b : Blk} (hb : RepB ρ w Z o b) {j : Nat} {c : C} (h : b.all[j]? = some c) : ∃ v, w.cell? (o.at j) = some v ∧ one v ∧ RepC ρ w Z c v := by
  cases b with
  | row sz cs app =>
    obtain ⟨_, _, _, _, h5⟩ := hb
    simp only [Blk.all, List.getElem?_map, Option.map_eq_some_iff] at h
    obtain ⟨x, hx, rfl⟩ := h
    obtain ⟨v, hv, hd⟩ := h5 j x hx
    exact ⟨v, hv, hd.one, hd⟩
  | box cs =>
    obtain ⟨_, _, _, h4⟩ := hb
    exact h4 j c h
  | fbox f cs =>
    obtain ⟨_, _, _, v, hv, vs, rfl, _⟩ := hb
    cases j with
    | zero => simp [Blk.all] at h; subst h; exact ⟨_, hv, rfl, rfl⟩
    | succ j => simp [Blk.all] at h

theorem rd_all {b : Blk} {off k : Nat} {cs : List C} (h : b.rd off k = some cs) : off + k ≤ b.all.length ∧ cs = cut off k b.all := by
  cases b with
  | row sz l app =>
    simp only [Blk.rd] at h
    split at h <;> cases h
    refine ⟨by simpa [Blk.all], by simp [Blk.all, cut, List.map_take, List.map_drop]⟩
  | box l =>
    simp only [Blk.rd] at h
    split at h <;> cases h
    exact ⟨by simpa [Blk.all], rfl⟩
  | fbox f l => simp [Blk.rd] at h

theorem ld_all {b : Blk} {off : Nat} {u : U} (h : b.ld off = some u) : (∃ c, u = .c c ∧ b.all[off]? = some c) ∨ (off = 0 ∧ ∃ f cs, u = .clo f cs ∧ b = .fbox f cs) := by
  cases b with
  | row sz l app => simp only [Blk.ld, Option.map_eq_some_iff] at h; obtain ⟨x, hx, rfl⟩ := h; exact .inl ⟨_, rfl, by simp [Blk.all, hx]⟩
  | box l => simp only [Blk.ld, Option.map_eq_some_iff] at h; obtain ⟨x, hx, rfl⟩ := h; exact .inl ⟨_, rfl, hx⟩
  | fbox f l =>
    simp only [Blk.ld] at h
    split at h <;> cases h
    exact .inr ⟨‹_›, _, _, rfl, rfl⟩

theorem list_of_cells {α : Type} {r : α → Value → Prop} : ∀ (cs : List α) (f : Nat → Option Value), (∀ (j : Nat) (x : α), cs[j]? = some x → ∃ v, f j = some v ∧ r x v) →
    ∃ vs : List Value, RepL r cs vs ∧ ∀ (j : Nat) (v : Value), vs[j]? = some v → f j = some v
  | [], _, _ => ⟨[], ⟨rfl, fun j x v hx => by simp at hx⟩, fun j v hv => by simp at hv⟩
  | c :: r', f, h => by
    obtain ⟨v, hv, hr⟩ := h 0 c rfl
    obtain ⟨vs, ⟨h1, h2⟩, h3⟩ := list_of_cells r' (fun j => f (j + 1)) (fun j x hx => h (j + 1) x (by simpa using hx))
    refine ⟨v :: vs, ⟨by simp [h1], fun j x u hx hu => ?_⟩, fun j u hu => ?_⟩
    · cases j with
      | zero => simp at hx hu; subst hx; subst hu; exact hr
      | succ j => exact h2 j x u (by simpa using hx) (by simpa using hu)
    · cases j with
      | zero => simp at hu; subst hu; exact hv
      | succ j => exact h3 j u (by simpa using hu)

/-- What a load comes to. -/
theorem load_rep (h : Rel M Z w0 ρ st a w) {t : TypeId} {i : TI} {info : TypeInfo} {d : TypeDesc} (ht : TyOk P t i info d) {c : C} {x : Value} (hcr : RepC ρ w Z c x) {u : U} (hu : st.load i c = some u) :
    ∃ ad v, x = .pointer (some ad) ∧ (loadVar t ad).run P w = .ok v w ∧ RepU ρ w Z u v := by
  have fin : ∀ (g q : Nat) (v : Value), x = .pointer (some ⟨g, q, none⟩) → (loadVar t ⟨g, q, none⟩).run P w = .ok v w → RepU ρ w Z u v → ∃ ad v, x = .pointer (some ad) ∧ (loadVar t ad).run P w = .ok v w ∧ RepU ρ w Z u v := fun g q v he hr hv =>
    ⟨_, v, he, hr, hv⟩
  cases c with
  | nl => simp [St.load] at hu
  | bad => simp [St.load] at hu
  | sl => simp [St.load] at hu
  | ptr b off =>
    simp only [St.load, Option.bind_eq_some_iff] at hu
    obtain ⟨k, hk, hu⟩ := hu
    obtain ⟨o', ho', hn', he⟩ := hcr
    obtain ⟨o2, ho2, hb⟩ := h.heap.rep b k hk
    obtain rfl : o2 = o' := Option.some.inj (ho2.symm.trans ho')
    cases ha : i.agg with
    | true =>
      rw [ha] at hu
      simp only [if_true, Option.map_eq_some_iff] at hu
      obtain ⟨cs, hcs, rfl⟩ := hu
      obtain ⟨hlen, rfl⟩ := rd_all hcs
      obtain ⟨vs, hvs, hcell⟩ := list_of_cells (r := RepC ρ w Z) (cut off i.size k.all) (fun j => w.cell? (o2.at (off + j))) (fun j y hy => by
        rw [getElem?_cut] at hy
        split at hy
        · obtain ⟨v, hv, _, hr⟩ := hb.all hy; exact ⟨v, hv, hr⟩
        · cases hy)
      have hvl : vs.length = i.size := by rw [← hvs.1]; simp [cut]; omega
      refine fin _ _ (.agg vs.toArray) he (run_loadVar_agg ht ha _ _ vs hvl fun j v hv => ?_) ⟨vs, rfl, hvs⟩
      have := hcell j v hv
      simpa [Own.at, Nat.add_assoc] using this
    | false =>
      rw [ha] at hu
      simp only [Bool.false_eq_true, if_false] at hu
      rcases ld_all hu with ⟨cc, rfl, hcc⟩ | ⟨rfl, f, cs, rfl, rfl⟩
      · obtain ⟨v, hv, _, hr⟩ := hb.all hcc
        exact fin _ _ v he (run_loadVar_one ht ha _ _ v hv) hr
      · obtain ⟨_, _, _, v, hv, hr⟩ := hb
        exact fin _ _ v he (run_loadVar_one ht ha _ _ v hv) hr
  | d y =>
    cases y with
    | ref cs =>
      simp only [St.load] at hu
      cases hcr with
      | ref _ ad vs hsp h1 h2 h3 =>
        have hx : Value.pointer (some ad) = .pointer (some ad) := rfl
        cases ha : i.agg with
        | true =>
          rw [ha] at hu
          simp only [if_true] at hu
          split at hu
          case isFalse => cases hu
          case isTrue hlen =>
            cases hu
            by_cases h0 : i.size = 0
            · have hc0 : cs.take i.size = [] := by simp [h0]
              rw [hc0]
              obtain ⟨blk, off, spot⟩ := ad
              have hr : (loadVar t ⟨blk, off, spot⟩).run P w = .ok (.agg #[]) w := by
                simp [loadVar, ht.isAgg, ha, ht.sizeOf, h0, loadCells, loadCellsFrom]
              exact ⟨_, .agg #[], rfl, hr, ⟨[], rfl, rfl, fun j x v hx => by simp at hx⟩⟩
            · have hne : cs ≠ [] := fun e => by subst e; simp at hlen; omega
              have hsp' := hsp hne
              obtain ⟨blk, off, spot⟩ := ad
              simp at hsp'
              subst hsp'
              obtain ⟨us, hus, hcell⟩ := list_of_cells (r := RepD w (Out ρ Z)) (cs.take i.size) (fun j => w.cell? ⟨blk, off + j, none⟩) (fun j y hy => by
                rw [List.getElem?_take] at hy
                split at hy
                · exact ⟨_, h1 j y hy, h3 j y hy⟩
                · cases hy)
              have hul : us.length = i.size := by rw [← hus.1]; simp; omega
              exact fin _ _ (.agg us.toArray) hx (run_loadVar_agg ht ha _ _ us hul hcell) ⟨us, rfl, hus.map_d⟩
        | false =>
          rw [ha] at hu
          simp only [Bool.false_eq_true, if_false, Option.map_eq_some_iff] at hu
          obtain ⟨y, hy, rfl⟩ := hu
          have hne : cs ≠ [] := fun e => by subst e; simp at hy
          have hsp' := hsp hne
          obtain ⟨blk, off, spot⟩ := ad
          simp at hsp'
          subst hsp'
          exact fin _ _ _ hx (run_loadVar_one ht ha _ _ _ (by simpa using h1 0 y hy)) (h3 0 y hy)
    | _ => simp [St.load] at hu

theorem step_load (h : Rel M Z w0 ρ st a w) (hT : TabOk P T) {o : Oper} (hd : ∀ d, o.dst = some d → d < a.tmps.size) (t : TypeId) (x : Operand) (ho : o.op = .load t x) {st' : St}
    (hs : ((T t).bind fun i => (st.evC x).bind fun c => (st.load i c).map fun u => st.put o.dst (.u u)) = some st') : StepOk P M Z w0 o st' a w := by
  simp only [Option.bind_eq_some_iff, Option.map_eq_some_iff] at hs
  obtain ⟨i, hi, c, hc, u, hu, rfl⟩ := hs
  obtain ⟨info, d, ht⟩ := tyB_ok (hT t i hi)
  obtain ⟨ad, v, he, hr, hv⟩ := load_rep (P := P) h ht (h.evC hc) hu
  exact .val h hd (x := v) (by simp [execOp, ho, Instr.loadAt, Instr.sureAddr, he, hr]) hv

end
end Go.Va

/-
  Soundness, fifth part: stores, new rows, append, arithmetic.
-/
namespace Go.Va
open Go.RowKit

section
variable {P : Program} {T : Tab} {M Z : Addr → Prop} {w0 w : World} {ρ : Rho} {st : St} {a : Act}

theorem RepL.ones {cs : List C} {vs : List Value} (h : RepL (RepC ρ w Z) cs vs) : ∀ v ∈ vs, v.oneCell' = true := by
  intro v hv
  obtain ⟨j, hj, rfl⟩ := List.getElem_of_mem hv
  have hc : j < cs.length := by rw [h.1]; exact hj
  exact RepC.one (h.2 j _ _ (List.getElem?_eq_getElem hc) (List.getElem?_eq_getElem hj))

/-- Storing cells into a row or a box of the call's own. -/
theorem run_storeVar {t : TypeId} {i : TI} {info : TypeInfo} {d : TypeDesc} (ht : TyOk P t i info d) {o : Own} {off : Nat} {v : Value} (hl : v.cells.size = i.size)
    (hc : ∀ j, j < v.cells.size → (w.cell? (o.at (off + j))).isSome = true ∧ w.frozen? (o.at (off + j)) = false) (h1 : ∀ u ∈ v.cells.toList, u.oneCell' = true) :
    (storeVar t (o.at off) v).run P w = .ok () (w.setCells o.g (o.o + off) v.cells.toList) := by
  have hs := run_storeCells_cells (P := P) o.g (o.o + off) v.cells.toList 0 w (fun j hj => by
      have := (hc j (by simpa using hj)).1
      simpa [Own.at, Nat.add_assoc] using this) (fun j hj => by
      have := (hc j (by simpa using hj)).2
      simpa [Own.at, Nat.add_assoc] using this) h1
  simp only [Nat.add_zero] at hs
  simp [storeVar, ht.sizeOf, hl, Own.at, hs]

/-- What a block reads as behind a store into it. -/
theorem setCells_at (h : Rel M Z w0 ρ st a w) {i : Nat} {o : Own} (hi : ρ i = some o) (hn : o.gone = false) {off : Nat} {vs : List Value} (hfit : off + vs.length ≤ o.room * o.sz) (j : Nat) :
    (w.setCells o.g (o.o + off) vs).cell? (o.at j) = if off ≤ j ∧ j < off + vs.length then vs[j - off]? else w.cell? (o.at j) := by
  by_cases hj : off ≤ j ∧ j < off + vs.length
  · rw [if_pos hj]
    have := World.cell?_setCells_in o.g vs (o.o + off) w (fun q hq => by
      obtain ⟨⟨u, hu⟩, _⟩ := h.heap.owns.cells i o hi hn (off + q) (by omega)
      have he : (⟨o.g, o.o + off + q, none⟩ : Addr) = o.at (off + q) := by simp; omega
      rw [he, hu]; rfl) (j - off) (by omega)
    have he : (⟨o.g, o.o + off + (j - off), none⟩ : Addr) = o.at j := by simp; omega
    rw [he] at this
    rw [this, List.getElem?_eq_getElem]
  · rw [if_neg hj]
    apply World.cell?_setCells_out
    intro _ _
    simp
    omega

theorem storeU_cases {b off : Nat} {u : U} {st s : St} {k : Blk} (h : st.storeU b off u k = some s) : (∃ f cs l0, u = .clo f cs ∧ k = .box [l0] ∧ off = 0 ∧ s = st.blk b (.fbox f cs)) ∨ st.storeB b off u.cells k = some s := by
  unfold St.storeU at h
  split at h
  · split at h
    · split at h <;> cases h
      exact .inl ⟨_, _, _, rfl, rfl, ‹_›, rfl⟩
    · exact .inr h
  · exact .inr h
  · exact .inr h

theorem step_store (h : Rel M Z w0 ρ st a w) (hT : TabOk P T) {o : Oper} (hd : ∀ d, o.dst = some d → d < a.tmps.size) (t : TypeId) (x y : Operand) (ho : o.op = .store t x y) {st' : St}
    (hs : ((T t).bind fun i => (st.evC x).bind fun c => (st.evU y).bind fun u => (st.store i c u).map fun s => s.put o.dst (.tup [])) = some st') : StepOk P M Z w0 o st' a w := by
  simp only [Option.bind_eq_some_iff, Option.map_eq_some_iff] at hs
  obtain ⟨i, hi, c, hc, u, hu, s, hs, rfl⟩ := hs
  obtain ⟨info, d, ht⟩ := tyB_ok (hT t i hi)
  have hur := (h.evU hu).cells
  unfold St.store at hs
  split at hs
  case isFalse => cases hs
  case isTrue hlen =>
    split at hs
    case h_2 => cases hs
    case h_1 b off =>
      rw [Option.bind_eq_some_iff] at hs
      obtain ⟨blk, hblk, hs⟩ := hs
      obtain ⟨ow, how, hn, he⟩ := h.evC hc
      obtain ⟨o2, ho2, hb⟩ := h.heap.rep b blk hblk
      obtain rfl : o2 = ow := Option.some.inj (ho2.symm.trans how)
      have hn := hb.thaw hn
      have hvl : (a.eval y).cells.size = i.size := by have := hur.1; simp at this; omega
      have fin : ∀ (ρ' : Rho) (s' : St), off + (a.eval y).cells.toList.length ≤ o2.room * o2.sz →
          Rel M Z w0 ρ' s' a (w.setCells o2.g (o2.o + off) (a.eval y).cells.toList) → StepOk P M Z w0 o (s'.put o.dst (.tup [])) a w := fun ρ' s' hfit hr => by
        have hrun := run_storeVar (P := P) (w := w) ht (o := o2) (off := off) (v := a.eval y) hvl (fun j hj => by
          obtain ⟨⟨q, hq⟩, hf⟩ := h.heap.owns.cells b o2 how hn (off + j) (by simp at hfit; omega)
          exact ⟨by rw [hq]; rfl, hf⟩) hur.ones
        refine ⟨.skip, undef, _, ρ', ?_, .inr ⟨rfl, rfl⟩, hr.put hd ⟨[], rfl, rfl, fun j x v hx => by simp at hx⟩⟩
        simp [execOp, ho, Instr.storeAt, Instr.sureAddr, he, hrun]
      rcases storeU_cases hs with ⟨f, cs, l0, rfl, rfl, rfl, rfl⟩ | hs
      · obtain ⟨hb1, hb2, hb3, hb4⟩ := hb
        obtain ⟨vs, hvs, hl⟩ := h.evU hu
        have hcl : (a.eval y).cells.toList = [a.eval y] := by rw [hvs]; rfl
        have hfit' : 0 + (a.eval y).cells.toList.length ≤ o2.room * o2.sz := by rw [hcl, hb1, hb2]; simp
        refine fin ρ _ hfit' (h.write how hn hfit' fun hk => ⟨hb1, hb2, hb3, a.eval y, ?_, vs, hvs, hl.1, fun j x v hx hv => (hl.2 j x v hx hv).keep hk fun _ _ => rfl⟩)
        rw [setCells_at h how hn hfit', hcl]
        simp
      cases blk with
      | fbox f cs => simp [St.storeB] at hs
      | box cs =>
        simp only [St.storeB] at hs
        split at hs
        case isFalse => cases hs
        case isTrue hfit =>
          cases hs
          obtain ⟨hb1, hb2, hb3, hb4⟩ := hb
          have hl2 : (a.eval y).cells.toList.length = u.cells.length := hur.1.symm
          have hfit' : off + (a.eval y).cells.toList.length ≤ o2.room * o2.sz := by rw [hl2, hb1, hb2]; omega
          refine fin ρ _ hfit' (h.write how hn hfit' fun hk => ⟨hb1, by rw [hb2, length_splice _ _ _ hfit], hb3, fun j cc hcc => ?_⟩)
          rw [setCells_at h how hn hfit', hl2]
          rw [splice_get _ _ _ hfit] at hcc
          split at hcc
          · rename_i hj
            rw [if_pos hj]
            have hj' : j - off < (a.eval y).cells.toList.length := by omega
            refine ⟨_, List.getElem?_eq_getElem hj', hur.ones _ (List.getElem_mem hj'), (hur.2 _ _ _ hcc (List.getElem?_eq_getElem hj')).keep hk fun _ _ => rfl⟩
          · rename_i hj
            rw [if_neg hj]
            obtain ⟨v, hv, h1, hr⟩ := hb4 j cc hcc
            exact ⟨v, hv, h1, hr.keep hk fun _ _ => rfl⟩
      | row sz cs app =>
        simp only [St.storeB, Option.bind_eq_some_iff] at hs
        obtain ⟨p, hp, hs⟩ := hs
        obtain ⟨ds, s1⟩ := p
        obtain ⟨hrel, hds⟩ := h.shut hp hur
        split at hs
        case h_2 => cases hs
        case h_1 sz' cs' app' hlk =>
          split at hs
          case isFalse => cases hs
          case isTrue hfit =>
            cases hs
            obtain ⟨o3, ho3, hb'⟩ := hrel.heap.rep b _ hlk
            have ho3' : ρ b = some o3 := (ersd_some ho3).2
            obtain rfl : o3 = o2 := Option.some.inj (ho3'.symm.trans how)
            obtain ⟨hb1, hb2, hb3, hb4, hb5⟩ := hb'
            have hl2 : (a.eval y).cells.toList.length = ds.length := hds.1.symm
            have hfit' : off + (a.eval y).cells.toList.length ≤ o3.room * o3.sz := by rw [hl2, hb1]; simp only at hfit; omega
            refine fin _ _ hfit' (hrel.write ho3 hn hfit' fun hk => ⟨hb1, hb2, by rw [length_splice _ _ _ hfit]; exact hb3, hb4, fun j x hx => ?_⟩)
            rw [setCells_at hrel ho3 hn hfit', hl2]
            rw [splice_get _ _ _ hfit] at hx
            split at hx
            · rename_i hj
              rw [if_pos hj]
              have hj' : j - off < (a.eval y).cells.toList.length := by simp only at hj; omega
              exact ⟨_, List.getElem?_eq_getElem hj', (hds.2 _ _ _ hx (List.getElem?_eq_getElem hj')).keep hk⟩
            · rename_i hj
              rw [if_neg hj]
              obtain ⟨v, hv, hr⟩ := hb5 j x hx
              exact ⟨v, hv, hr.keep hk⟩

/-! ### new rows -/

theorem rep_mod {α : Type} (n : Nat) (z : List α) (j : Nat) (hj : j < n * z.length) : (rep n z)[j]? = z[j % z.length]? := by
  induction n generalizing j with
  | zero => simp at hj
  | succ n ih =>
    simp only [rep]
    by_cases h : j < z.length
    · rw [List.getElem?_append_left h, Nat.mod_eq_of_lt h]
    · rw [List.getElem?_append_right (by omega), ih (j - z.length) (by rw [Nat.succ_mul] at hj; omega)]
      rw [show j % z.length = (j - z.length) % z.length from Nat.mod_eq_sub_mod (by omega)]
theorem length_rep {α : Type} (n : Nat) (z : List α) : (rep n z).length = n * z.length := by
  induction n with
  | zero => simp [rep]
  | succ n ih => simp [rep, ih, Nat.succ_mul]; omega

theorem zero_rep {α : Type} {r : α → Value → Prop} {cs : List α} {vs : Array Value} (h : RepL r cs vs.toList) (n : Nat) : RepL r (rep n cs) ((Array.range (n * vs.size)).map (vs[· % vs.size]!)).toList := by
  have hl : cs.length = vs.size := by simpa using h.1
  refine ⟨by simp [length_rep, hl], fun j x v hx hv => ?_⟩
  have hj : j < n * vs.size := by rw [← hl, ← length_rep]; exact (List.getElem?_eq_some_iff.1 hx).1
  have hz : 0 < vs.size := by
    rcases Nat.eq_zero_or_pos vs.size with h0 | h0
    · rw [h0] at hj; omega
    · exact h0
  rw [rep_mod n cs j (by rw [hl]; exact hj), hl] at hx
  have hm : j % vs.size < vs.size := Nat.mod_lt _ hz
  have hv' : v = vs[j % vs.size] := by
    simp [hj] at hv
    rw [← hv]
    simp [hm]
  subst hv'
  exact h.2 (j % vs.size) x _ hx (by simp [hm])

theorem fillCs_len {place : Nat → Option (Nat × Nat)} : ∀ {parts : List (Nat × List C)} {cs cs' : List C}, fillCs place cs parts = some cs' → cs'.length = cs.length
  | [], _, _, h => by cases h; rfl
  | (i, v) :: r, cs, cs', h => by
    simp only [fillCs, Option.bind_eq_some_iff] at h
    obtain ⟨p, _, h⟩ := h
    split at h
    case isFalse => cases h
    case isTrue hc => rw [fillCs_len h, length_splice _ _ _ (by omega)]

theorem newOwn_sl (ρ : Rho) (w w' : World) (Z : Addr → Prop) (k sz room n : Nat) (hn : n ≤ room) (hm : room ≤ maxLen) :
    RepC (rhoN ρ k (newOwn w sz room true)) w' Z (.sl k 0 n) (.slice (some ⟨w.heap.size, 0, none⟩) n room) :=
  ⟨_, rhoN_same _ _ _, by simpa [newOwn] using hn, .inr ⟨rfl, _, _, rfl, hn, hm, .inr (by simp [newOwn, Own.at]), fun _ => by simp [newOwn]⟩⟩

theorem step_buildSlice (h : Rel M Z w0 ρ st a w) (hT : TabOk P T) {o : Oper} (hd : ∀ d, o.dst = some d → d < a.tmps.size) (t : TypeId) (len : Nat) (parts : Array (Nat × Operand)) (ho : o.op = .buildSlice t len parts) {st' : St}
    (hs : ((T t).bind fun i => i.sl.bind fun e => (T e).bind fun j => (st.evUs parts.toList).bind (bslGo j len o.dst st)) = some st') : StepOk P M Z w0 o st' a w := by
  simp only [Option.bind_eq_some_iff] at hs
  obtain ⟨i, hi, e, he, j, hj, l, hl, hs⟩ := hs
  unfold bslGo at hs
  split at hs
  case isFalse => cases hs
  case isTrue hsmall =>
    simp only [Option.bind_eq_some_iff] at hs
    obtain ⟨cs, hcs, hs⟩ := hs
    obtain ⟨info, d, ht⟩ := tyB_ok (hT t i hi)
    obtain ⟨infe, de, hte⟩ := tyB_ok (hT e j hj)
    obtain ⟨z, hz, hzc⟩ := hte.zero
    obtain ⟨hl1, hl2⟩ := evUs_rep h hl
    have hzr : RepL (RepC ρ w Z) j.zero z.cells.toList := zCells_rep hzc
    have hzs : z.cells.size = j.size := by have := hzr.1; simp at this; rw [← this, hte.zlen]
    have hzero := zero_rep hzr len
    rw [hzs] at hzero
    obtain ⟨vs, hv, hr⟩ := fill_rep hzero hl1 hl2 hcs
    have hcl : vs.toList.length = len * j.size := by
      rw [← hr.1, fillCs_len hcs, length_rep, hte.zlen]
    have hroom : len ≤ maxLen := lim_small hsmall.2
    have hrunE : (execOp a.eval o).run P w = .ok (.value (.slice (some ⟨w.heap.size, 0, none⟩) len len)) (w.alloc (.cells vs e)) := by
      have hev : (parts.map fun (i, x) => (i, a.eval x)).toList = parts.toList.map fun p => (p.1, a.eval p.2) := evUs_map a parts
      by_cases h0 : len * j.size = 0
      · have hf : Instr.fill (fun i => some (i * j.size, j.size)) #[] (parts.map fun (i, x) => (i, a.eval x)).toList = some vs := by
          rw [hev, ← hv]
          simp [h0, Array.range_zero', arrPlace]
          rfl
        rw [hev] at hf
        simp [execOp, ho, Instr.buildSlice, run_underlying (ht.slice he), hte.sizeOf, h0, newRow, hf, Array.range_zero']
      · have hf : Instr.fill (fun i => some (i * infe.size, infe.size)) ((Array.range (len * infe.size)).map (z.cells[· % z.cells.size]!)) (parts.map fun (i, x) => (i, a.eval x)).toList = some vs := by
          rw [hev, ← hv, hte.size, hzs]
          rfl
        have := run_buildSlice (P := P) w t e len (parts.map fun (i, x) => (i, a.eval x)) vs infe z (ht.slice he) hte.inf hz (by rw [hte.size]; omega) (by rw [hte.size]; exact h0) hf
        simp only [execOp, ho, Sem.run_bind, this, Result.andThen_ok, Sem.run_pure]
    split at hs
    · rename_i hbox
      obtain ⟨k, hk, rfl⟩ := mk_some hs
      have hcsl : cs.length = len := by have := hr.1; rw [hcl, hbox.1] at this; omega
      have hrow := h.newBox k e hr (by rw [hcsl]; exact hroom)
      rw [Array.toArray_toList] at hrow
      refine .at hk hd (x := .slice (some ⟨w.heap.size, 0, none⟩) len len) hrunE hrow ⟨_, rhoN_same _ _ _, by simp [newOwn, hcsl], .inr ⟨rfl, _, _, rfl, Nat.le_refl _, hroom, .inr (by simp [newOwn, Own.at]), fun hh => by simp [newOwn] at hh⟩⟩
    · rw [Option.bind_eq_some_iff] at hs
      obtain ⟨p, hp, hs⟩ := hs
      obtain ⟨k, hk, rfl⟩ := mk_some hs
      obtain ⟨ds, s1⟩ := p
      obtain ⟨hrel, hds⟩ := h.shut hp hr
      have hrow := hrel.newRow (Ext.refl w) rfl k [] e true hds (by simpa using hcl) hroom
      simp only [List.append_nil, Array.toArray_toList] at hrow
      refine .at hk hd (x := .slice (some ⟨w.heap.size, 0, none⟩) len len) hrunE hrow (newOwn_sl _ w (w.alloc (.cells vs e)) Z k _ _ _ (Nat.le_refl _) hroom)


theorem step_makeSlice (h : Rel M Z w0 ρ st a w) (hT : TabOk P T) {o : Oper} (hd : ∀ d, o.dst = some d → d < a.tmps.size) (t : TypeId) (x y : Operand) (ho : o.op = .makeSlice t x y) {st' : St}
    (hs : ((T t).bind fun i => i.sl.bind fun e => (T e).bind fun j => (st.evI x).bind fun l => (st.evI y).bind fun c => mkslGo j o.dst st l.2 c.2) = some st') : StepOk P M Z w0 o st' a w := by
  simp only [Option.bind_eq_some_iff] at hs
  obtain ⟨i, hi, e, he, j, hj, ⟨kl, l⟩, hl, ⟨kc, c⟩, hc, hs⟩ := hs
  unfold mkslGo at hs
  split at hs
  case isFalse => cases hs
  case isTrue hcond =>
    obtain ⟨h0, hlc, hby, hbig⟩ := hcond
    unfold big at hby hbig
    simp only at h0 hlc hby hbig
    rw [Option.bind_eq_some_iff] at hs
    obtain ⟨ds, hds, hs⟩ := hs
    obtain ⟨k, hk, rfl⟩ := mk_some hs
    obtain ⟨info, d, ht⟩ := tyB_ok (hT t i hi)
    obtain ⟨infe, de, hte⟩ := tyB_ok (hT e j hj)
    obtain ⟨z, hz, hzc⟩ := hte.zero
    have hzr : RepL (RepC ρ w Z) j.zero z.cells.toList := zCells_rep hzc
    have hzs : z.cells.size = j.size := by have := hzr.1; simp at this; rw [← this, hte.zlen]
    -- zero cells as data
    obtain ⟨hm1, hm2⟩ := mapM_some hds
    have hzd : ∀ (ci : C) (v : Value) (x : D), zCell ci v = true → st.cD ci = some x → RepD w (Out ρ Z) x v := by
      intro ci v x hz hx
      unfold zCell at hz
      split at hz <;> simp at hz
      · obtain ⟨rfl, rfl⟩ := hz; simp [St.cD, toD] at hx; subst hx; exact .int _ _
      · subst hz; simp [St.cD, toD] at hx; subst hx; exact .bool _
      · obtain ⟨rfl, rfl⟩ := hz; simp [St.cD, toD] at hx; subst hx; exact .str _
      · simp [St.cD, toD] at hx; subst hx; exact .snil
      · simp [St.cD, toD] at hx; subst hx; exact .nilPtr
      · simp [St.cD, toD] at hx; subst hx; exact .nilFn
    have zc : ∀ {cs : List C} {vs : List Value}, zCells cs vs = true → ∀ (q : Nat) (ci : C) (v : Value), cs[q]? = some ci → vs[q]? = some v → zCell ci v = true := by
      intro cs
      induction cs with
      | nil => intro vs _ q ci v hq; simp at hq
      | cons c r ih =>
        intro vs hz q ci v hq hv
        cases vs with
        | nil => simp at hv
        | cons v0 s =>
          simp only [zCells, Bool.and_eq_true] at hz
          cases q with
          | zero => simp at hq hv; subst hq; subst hv; exact hz.1
          | succ q => exact ih hz.2 q ci v (by simpa using hq) (by simpa using hv)
    have hdz : RepL (RepD w (Out ρ Z)) ds z.cells.toList := by
      refine ⟨hm1.trans hzr.1, fun q x v hx hv => ?_⟩
      have hq : q < j.zero.length := by rw [← hm1]; exact (List.getElem?_eq_some_iff.1 hx).1
      obtain ⟨y', hy', hf⟩ := hm2 q _ (List.getElem?_eq_getElem hq)
      rw [hx] at hy'
      cases hy'
      exact hzd _ v _ (zc hzc q _ v (List.getElem?_eq_getElem hq) hv) hf
    have hrepn : ∀ n : Nat, RepL (RepD w (Out ρ Z)) (rep n ds) (madeCells z.cells (n * j.size)).toList := by
      intro n
      have hdl : ds.length = j.size := by rw [hm1, hte.zlen]
      refine ⟨by simp [length_rep, hdl, size_madeCells], fun q x v hx hv => ?_⟩
      have hq : q < n * j.size := by rw [← hdl, ← length_rep]; exact (List.getElem?_eq_some_iff.1 hx).1
      have hpos : 0 < j.size := by
        rcases Nat.eq_zero_or_pos j.size with h0 | h0
        · rw [h0] at hq; omega
        · exact h0
      have hmod : q % j.size < j.size := Nat.mod_lt _ hpos
      rw [rep_mod n ds q (by rw [hdl]; exact hq), hdl] at hx
      have hv' : v = z.cells[q % j.size]'(by rw [hzs]; exact hmod) := by
        simp [madeCells, hq, hzs] at hv
        rw [← hv]
        rw [getElem!_pos z.cells (q % j.size) (by rw [hzs]; exact hmod)]
      subst hv'
      exact hdz.2 (q % j.size) x _ hx (by simp [hzs, hmod])
    have hrun := run_make (P := P) w t e infe z (ht.slice he) hte.inf hz kl kc l c h0 hlc (by rw [hte.bytes]; rw [Int.mul_comm]; omega) (by omega)
    rw [hte.size] at hrun
    have hsplit : (madeCells z.cells (c.toNat * j.size)) = ((madeCells z.cells (l.toNat * j.size)).toList ++ ((madeCells z.cells (c.toNat * j.size)).toList.drop (l.toNat * j.size))).toArray := by
      apply Array.ext'
      simp only []
      apply List.ext_getElem?
      intro q
      have hle : l.toNat * j.size ≤ c.toNat * j.size := Nat.mul_le_mul_right _ (by omega)
      by_cases hq : q < l.toNat * j.size
      · rw [List.getElem?_append_left (by simpa [size_madeCells] using hq)]
        simp [madeCells, hq, show q < c.toNat * j.size by omega]
      · rw [List.getElem?_append_right (by simpa [size_madeCells] using hq), List.getElem?_drop]
        congr 1
        simp [size_madeCells]
        omega
    have hx1 : Ext w w := Ext.refl w
    have hroom : c.toNat ≤ maxLen := by unfold maxLen; omega
    have hrow := h.newRow hx1 rfl k (sz := j.size) (room := c.toNat) ((madeCells z.cells (c.toNat * j.size)).toList.drop (l.toNat * j.size)) e true (hrepn l.toNat) (by
      simp [size_madeCells]
      have hle : l.toNat * j.size ≤ c.toNat * j.size := Nat.mul_le_mul_right _ (by omega)
      omega) hroom
    rw [← hsplit] at hrow
    refine .at hk hd (x := .slice (some ⟨w.heap.size, 0, none⟩) l.toNat c.toNat) ?_ hrow (newOwn_sl _ w (w.alloc (.cells (madeCells z.cells (c.toNat * j.size)) e)) Z k _ _ _ (by omega) hroom)
    have e1 := h.evI hl
    have e2 := h.evI hc
    simp only at e1 e2
    simp only [execOp, ho, e1, e2, Sem.run_bind, hrun, Result.andThen_ok, Sem.run_pure]

end
end Go.Va
