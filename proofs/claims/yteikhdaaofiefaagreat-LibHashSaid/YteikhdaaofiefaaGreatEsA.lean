/- EsA: part of an interpreter of the program's code whose answers are the machine's. No condition. -/
import GoSem.Core.View
import Derived.Below
import Derived.ChangeKeysEq
import Derived.Laws.StructEq
import Derived.Lib.Strings
set_option linter.unusedSimpArgs false
set_option linter.unusedVariables false
/- The values, states and operations of a small interpreter without memory. -/
namespace Go.Es

/-- Data without addresses: what a slice or a struct holds is told out. -/
inductive D where
  | bool (b : Bool)
  | int (k : IntKind) (n : Int)
  | str (s : List UInt8)
  | sl (es : List D)
  | agg (cs : List D)
  deriving Inhabited

def D.cells : D → List D
  | .agg cs => cs
  | x => [x]

abbrev Id := List Nat

/-- Values of a frame. -/
inductive A where
  | d (x : D)
  | mix (cs : List A)
  | tup (vs : List A)
  | nilp
  | nils
  | empt
  | ptr (id : Id) (ver off : Nat)
  | elt (x : D) (off : Nat)
  | ref (id : Id) (ver off len sz : Nat)
  | eref (id : Id) (ver idx off : Nat)
  | lref (id : Id) (ver off len sz : Nat)
  | fn (f : Nat) (caps : List A)
  | top
  deriving Inhabited

/-- What lies behind an address that the frame owns. -/
inductive Box where
  | cells (cs : List A) (ver : Nat)
  | arr (es : List D) (ver : Nat) (fz : Bool)
  deriving Inhabited

def Box.ver : Box → Nat
  | .cells _ v => v
  | .arr _ v _ => v

/-- What is handed over at a call: a tree; what it points to is its own. -/
inductive T where
  | d (x : D)
  | mix (cs : List T)
  | tup (vs : List T)
  | nilp
  | ptr (cs : List T)
  | arr (fz : Bool) (sz : Nat) (es : List D)
  | fn (f : Nat) (caps : List T)
  | gone
  deriving Inhabited

def D.flat : D → Bool
  | .agg _ => false
  | _ => true

def T.flat : T → Bool
  | .d x => x.flat
  | .mix _ => false
  | .tup _ => false
  | .gone => false
  | _ => true

/-- is it one cell's? -/
def A.flat' : A → Bool
  | .d (.agg _) => false
  | .mix _ => false
  | .tup _ => false
  | .top => false
  | _ => true

abbrev Bx := Id → Option Box

def upd {α β : Type} [DecidableEq α] (f : α → β) (i : α) (v : β) : α → β := fun j => if j = i then v else f j

/-- the version of a new box of a name -/
def nextVer (bx : Bx) (id : Id) : Nat :=
  match bx id with
  | some b => b.ver + 1
  | none => 0

structure St where
  tm : Nat → A
  bx : Bx

inductive O where
  | t (n : Nat)
  | l (n : Nat)
  | c (a : A)
  deriving Inhabited

/-- A slice is handed over to be written to. -/
def lendA0 : A → A
  | .ref id ver off len sz => .lref id ver off len sz
  | a => a
def lendA : A → A
  | .mix cs => .mix (cs.map lendA0)
  | a => lendA0 a

def O.ev (s : Nat → A) : O → A
  | .t n => s n
  | .l n => lendA (s n)
  | .c a => a

/-- what a cell is that can be compared: a number, a bool, a string -/
inductive EK where
  | i | b | s
  deriving Inhabited

inductive K where
  | mv | pick
  | alloc (z : List A)
  | box (n : Nat)
  | build (z : List A) (parts : List (Nat × Nat))
  | bslice (z : D) (n : Nat) (at_ : List Nat)
  | load (agg : Option Nat)
  | store (n : Nat)
  | nilchk
  | bin (op : BinOp)
  | nilS (ne : Bool)
  | eqb (ne : Bool) | eqp (ne : Bool) | eqa (ne : Bool) (ks : List EK)
  | un (op : UnOp)
  | toInt (k : IntKind)
  | sameS
  | strBytes | bytesStr
  | mkslice (z : D) (bytes : Nat)
  | substr (lo hi : Bool)
  | subsl (size : Nat) (lo hi mx : Bool)
  | faddr (off : Nat)
  | field (off : Nat) (agg : Option Nat)
  | iaddrA (len size : Nat)
  | iaddrS (size : Nat)
  | indexS
  | indexA (len size : Nat) (agg : Option Nat)
  | extract (i : Nat)
  | callf (f : Nat)
  | callv
  | mkfn (f : Nat)
  | lenS | lenL
  | append (size bytes : Nat) (str : Bool)
  | copy (size : Nat) (str : Bool)
  | appmk (z : D) (bytes : Nat)
  | mn | mx
  | snap
  | lkp (tbl : List (Int × Int)) (kk vk : IntKind)
  deriving Inhabited

structure Ao where
  dst : Option Nat
  k : K
  xs : List O
  g : Option (Nat × Bool) := none
  av : List Id := []
  al : Option (List Id) := none
  deriving Inhabited

/-- Steps that the machine does not make: another view of the same state. -/
inductive Gs where
  | frz (t : Nat)
  | own (t : Nat) (id : Id) (n : Nat)
  | frzB (id : Id) (j : Nat)
  | ownB (id : Id) (j : Nat) (id' : Id) (n : Nat)
  | mvT (t : Nat) (id' : Id)
  | mvB (id : Id) (j : Nat) (id' : Id)
  deriving Inhabited

inductive Ac where
  | skip
  | gh (l : List Gs)
  | ops (l : List Ao)
  | keep (ts : List Nat) (bs : List Id)
  | seq (a b : Ac)
  | cond (c : O) (a b : Ac)
  | block (id : Nat) (c : Ac)
  | loop (c : Ac)
  | exit (id : Nat)
  | ret
  deriving Inhabited

inductive Out where
  | nrm | exit (id : Nat) | ret
  deriving DecidableEq

/-! ### helpers -/
def A.cells : A → List A
  | .d x => x.cells.map A.d
  | .mix cs => cs
  | .tup _ => []
  | .top => []
  | x => [x]

def allD : List A → Option (List D)
  | [] => some []
  | .d x :: r => (allD r).bind fun l => some (x :: l)
  | _ :: _ => none

def mkAgg (cs : List A) : A :=
  match allD cs with
  | some l => .d (.agg l)
  | none => .mix cs

def getA (l : List A) (i : Nat) : Option A := l[i]?
def getD' (l : List D) (i : Nat) : Option D := l[i]?

/-- cells from off on, n of them -/
def sub {α : Type} (l : List α) (off n : Nat) : Option (List α) :=
  if off + n ≤ l.length then some ((l.drop off).take n) else none

def put {α : Type} (l : List α) (off : Nat) (xs : List α) : Option (List α) :=
  if off + xs.length ≤ l.length then some (l.take off ++ xs ++ l.drop (off + xs.length)) else none

/-- may a box be looked at, beside others that are being made or written? -/
def okId (av : List Id) (id : Id) : Bool := av.all fun a => !(a.isSuffixOf id)

def frz (bx : Bx) (id : Id) : Bx :=
  match bx id with
  | some (.arr es ver _) => upd bx id (some (.arr es ver true))
  | _ => bx

def snapRef (av : List Id) (bx : Bx) (id : Id) (ver off len : Nat) : Option (D × Bx) :=
  if okId av id then
    match bx id with
    | some (.arr es ver' _) => if ver = ver' then (sub es off len).bind fun l => some (.sl l, frz bx id) else none
    | _ => none
  else none

def snap1 (av : List Id) (bx : Bx) : A → Option (D × Bx)
  | .d x => some (x, bx)
  | .nils => some (.sl [], bx)
  | .empt => some (.sl [], bx)
  | .ref id ver off len _ => snapRef av bx id ver off len
  | _ => none

def snaps (av : List Id) (bx : Bx) : List A → Option (List D × Bx)
  | [] => some ([], bx)
  | x :: r => (snap1 av bx x).bind fun p => (snaps av p.2 r).bind fun q => some (p.1 :: q.1, q.2)

def snap (av : List Id) (bx : Bx) : A → Option (D × Bx)
  | .mix cs => (snaps av bx cs).bind fun p => some (.agg p.1, p.2)
  | x => snap1 av bx x

/-- of values of any kind -/
def snapsM (av : List Id) (bx : Bx) : List A → Option (List D × Bx)
  | [] => some ([], bx)
  | x :: r => (snap av bx x).bind fun p => (snapsM av p.2 r).bind fun q => some (p.1 :: q.1, q.2)

/-- what a slice holds, without freezing it -/
def readSl (av : List Id) (bx : Bx) : A → Option (List D)
  | .d (.sl es) => some es
  | .nils => some []
  | .ref id ver off len _ =>
    if okId av id then
      match bx id with
      | some (.arr es ver' _) => if ver = ver' then sub es off len else none
      | _ => none
    else none
  | _ => none

def asI : A → Option (IntKind × Int)
  | .d (.int k n) => some (k, n)
  | _ => none
def asB : A → Option Bool
  | .d (.bool b) => some b
  | _ => none
def asS : A → Option (List UInt8)
  | .d (.str s) => some s
  | _ => none

def goI (n : Int) : A := .d (.int .i64 n)
def dByte (b : UInt8) : D := .int .u8 b.toNat
def byteD : D → Option UInt8
  | .int .u8 n => some (UInt8.ofNat n.toNat)
  | _ => none

/-! ### operators -/
def bitsOp (op : BinOp) (k : IntKind) (x y : Int) : Int :=
  let a := BitVec.ofInt k.bits x
  let b := BitVec.ofInt k.bits y
  match op with
  | .and => k.wrap (a &&& b).toNat
  | .or => k.wrap (a ||| b).toNat
  | .xor => k.wrap (a ^^^ b).toNat
  | _ => k.wrap (a &&& ~~~b).toNat

def shlI (k : IntKind) (x y : Int) : Int := k.wrap (x * 2 ^ (min y.toNat k.bits))
def shrI (k : IntKind) (x y : Int) : Int := x.fdiv (2 ^ (min y.toNat k.bits))

def binI (op : BinOp) (k : IntKind) (x y : Int) : Option D :=
  match op with
  | .add => some (.int k (k.wrap (x + y)))
  | .sub => some (.int k (k.wrap (x - y)))
  | .mul => some (.int k (k.wrap (x * y)))
  | .quo => if y = 0 then none else some (.int k (k.wrap (x.tdiv y)))
  | .rem => if y = 0 then none else some (.int k (x.tmod y))
  | .and => some (.int k (bitsOp .and k x y))
  | .or => some (.int k (bitsOp .or k x y))
  | .xor => some (.int k (bitsOp .xor k x y))
  | .andNot => some (.int k (bitsOp .andNot k x y))
  | .eql => some (.bool (x == y))
  | .neq => some (.bool (x != y))
  | .lss => some (.bool (decide (x < y)))
  | .leq => some (.bool (decide (x ≤ y)))
  | .gtr => some (.bool (decide (x > y)))
  | .geq => some (.bool (decide (x ≥ y)))
  | _ => none

def binD (op : BinOp) (x y : D) : Option D :=
  match op, x, y with
  | .shl, .int k a, .int _ b => if b < 0 then none else some (.int k (shlI k a b))
  | .shr, .int k a, .int _ b => if b < 0 then none else some (.int k (shrI k a b))
  | op, .int k a, .int k' b => if k = k' then binI op k a b else none
  | .add, .str a, .str b => if a.length + b.length ≤ 2 ^ 40 then some (.str (a ++ b)) else none
  | .eql, .str a, .str b => some (.bool (a == b))
  | .neq, .str a, .str b => some (.bool (a != b))
  | _, _, _ => none

def unD (op : UnOp) (x : D) : Option D :=
  match op, x with
  | .not, .bool b => some (.bool (!b))
  | .neg, .int k n => some (.int k (k.wrap (0 - n)))
  | .xor, .int k n => some (.int k (bitsOp .xor k (if k.signed then -1 else k.max) n))
  | _, _ => none

/-- '==' of two structs, cell by cell -/
def eqCells : List EK → List D → List D → Option Bool
  | [], [], [] => some true
  | .i :: ks, .int k a :: r, .int k' b :: s => if k = k' then (eqCells ks r s).bind fun t => some (a == b && t) else none
  | .b :: ks, .bool a :: r, .bool b :: s => (eqCells ks r s).bind fun t => some (a == b && t)
  | .s :: ks, .str a :: r, .str b :: s => (eqCells ks r s).bind fun t => some (a == b && t)
  | _, _, _ => none

/-- is a pointer nil? -/
def isNil : A → Option Bool
  | .nilp => some true
  | .ptr _ _ _ => some false
  | .elt _ _ => some false
  | .eref _ _ _ _ => some false
  | _ => none

/-- is a slice nil? (of one without elements nobody knows, unless it is told) -/
def nilOf : A → Option Bool
  | .nils => some true
  | .empt => some false
  | .d (.sl (_ :: _)) => some false
  | .ref _ _ _ (_ + 1) _ => some false
  | _ => none

/-! ### places -/
def partD (x : D) (agg : Option Nat) (off : Nat) : Option D :=
  match agg with
  | some n => (sub x.cells off n).bind fun l => some (.agg l)
  | none => x.cells[off]?

def loadA (av : List Id) (bx : Bx) (agg : Option Nat) : A → Option A
  | .ptr id ver off =>
    if okId av id then
      match bx id with
      | some (.cells cs ver') =>
        if ver = ver' then
          (match agg with
          | some n => (sub cs off n).bind fun l => some (mkAgg l)
          | none => cs[off]?)
        else none
      | _ => none
    else none
  | .elt x off => (partD x agg off).bind fun y => some (.d y)
  | .eref id ver idx off =>
    if okId av id then
      match bx id with
      | some (.arr es ver' _) =>
        if ver = ver' then (es[idx]?).bind fun x => (partD x agg off).bind fun y => some (.d y) else none
      | _ => none
    else none
  | _ => none

def setD (x : D) (off : Nat) (ds : List D) : Option D :=
  match x with
  | .agg cs => (put cs off ds).bind fun l => some (.agg l)
  | _ => match ds, off with
    | [y], 0 => some y
    | _, _ => none

def alOk (al : Option (List Id)) (id : Id) : Bool :=
  match al with
  | none => true
  | some l => l.contains id

def storeA (av : List Id) (al : Option (List Id)) (bx : Bx) (n : Nat) (a v : A) : Option Bx :=
  match a with
  | .ptr id ver off =>
    if okId av id && alOk al id then
      match bx id with
      | some (.cells cs ver') => if ver = ver' ∧ v.cells.length = n then (put cs off v.cells).bind fun l => some (upd bx id (some (.cells l ver))) else none
      | _ => none
    else none
  | .eref id ver idx off =>
    if okId av id && alOk al id then
      (snaps av bx v.cells).bind fun p =>
      match p.2 id with
      | some (.arr es ver' false) =>
        if ver = ver' ∧ p.1.length = n then (es[idx]?).bind fun x => (setD x off p.1).bind fun y => some (upd p.2 id (some (.arr (es.set idx y) ver false)))
        else none
      | _ => none
    else none
  | _ => none

def fillA (parts : List (Nat × Nat)) (xs : List A) (cs : List A) : Option (List A) :=
  match parts, xs with
  | [], [] => some cs
  | (off, n) :: ps, x :: r => if x.cells.length = n ∧ n ≠ 0 then (put cs off x.cells).bind fun l => fillA ps r l else none
  | _, _ => none

def fillD (sz : Nat) (at_ : List Nat) (xs : List D) (es : List D) : Option (List D) :=
  match at_, xs with
  | [], [] => some es
  | i :: ps, x :: r => if i < es.length ∧ x.cells.length = sz then fillD sz ps r (es.set i x) else none
  | _, _ => none

/-- elements that all have as many cells: told by the first -/
def aggC : A → Option (List A)
  | .d (.agg l) => some (l.map A.d)
  | .mix l => some l
  | _ => none

def partA (cs : List A) (agg : Option Nat) (off : Nat) : Option A :=
  match agg with
  | some n => (sub cs off n).bind fun l => some (mkAgg l)
  | none => cs[off]?

def szOk (es : List D) (sz : Nat) : Bool :=
  match es with
  | [] => true
  | e :: _ => e.cells.length == sz

def bound (x : A) (hi : Nat) : Option Nat :=
  (asI x).bind fun p => if 0 ≤ p.2 ∧ p.2 ≤ (hi : Int) then some p.2.toNat else none

/-- the bounds of a slice expression over something of so many elements: from, to -/
def bounds (n : Nat) : (lo hi mx : Bool) → List A → Option (Nat × Nat)
  | false, false, false, [] => some (0, n)
  | true, false, false, [l] => (bound l n).bind fun l' => some (l', n)
  | false, true, false, [h] => (bound h n).bind fun h' => some (0, h')
  | true, true, false, [l, h] => (bound h n).bind fun h' => (bound l h').bind fun l' => some (l', h')
  | false, true, true, [h, m] => (bound m n).bind fun m' => (bound h m').bind fun h' => some (0, h')
  | true, true, true, [l, h, m] => (bound m n).bind fun m' => (bound h m').bind fun h' => (bound l h').bind fun l' => some (l', h')
  | _, _, _, _ => none

/-! ### calls -/
def husk (bx : Bx) (id : Id) (ver : Nat) : Bx := upd bx id (some (.arr [] (ver + 1) false))

/-- A cell of a box that is handed over: an array goes along, whole; what is frozen goes as what it holds. -/
def giveCell (av : List Id) (al : Option (List Id)) (bx : Bx) : A → Option (T × Bx)
  | .d x => some (.d x, bx)
  | .nilp => some (.nilp, bx)
  | .nils => some (.arr false 0 [], bx)
  | .empt => some (.d (.sl []), bx)
  | .ref id ver off len sz =>
    if okId av id then
      match bx id with
      | some (.arr es ver' fz) =>
        if ver = ver' then
          if off = 0 ∧ len = es.length ∧ alOk al id = true ∧ sz ≠ 0 then some (.arr fz sz es, husk bx id ver)
          else (sub es off len).bind fun l => some (.d (.sl l), frz bx id)
        else none
      | _ => none
    else none
  | _ => none

def giveCells (av : List Id) (al : Option (List Id)) (bx : Bx) : List A → Option (List T × Bx)
  | [] => some ([], bx)
  | x :: r => (giveCell av al bx x).bind fun p => (giveCells av al p.2 r).bind fun q => some (p.1 :: q.1, q.2)

/-- The arrays that are lent, of a struct's cells. -/
def lids0 : List A → List Id
  | [] => []
  | .lref id _ _ _ _ :: r => id :: lids0 r
  | _ :: r => lids0 r

/-- A cell of a struct of which arrays are lent. -/
def giveM1 (av : List Id) (al : Option (List Id)) (bx : Bx) : A → Option (T × Bx)
  | .lref id ver off len sz =>
    if alOk al id = true then
      match bx id with
      | some (.arr es ver' fz) => if ver = ver' ∧ off = 0 ∧ len = es.length ∧ sz ≠ 0 then some (.arr fz sz es, bx) else some (.gone, bx)
      | _ => none
    else none
  | .nilp => some (.nilp, bx)
  | .nils => some (.arr false 0 [], bx)
  | a => (snap1 av bx a).bind fun p => some (.d p.1, p.2)
def giveMs (av : List Id) (al : Option (List Id)) (bx : Bx) : List A → Option (List T × Bx)
  | [] => some ([], bx)
  | x :: r => (giveM1 av al bx x).bind fun p => (giveMs av al p.2 r).bind fun q => some (p.1 :: q.1, q.2)

/-- An argument. -/
def give1 (av : List Id) (al : Option (List Id)) (bx : Bx) : A → Option (T × Bx)
  | .nilp => some (.nilp, bx)
  | .top => some (.gone, bx)
  | .lref id ver off len sz =>
    if alOk al id = true then
      match bx id with
      | some (.arr es ver' fz) => if ver = ver' ∧ off = 0 ∧ len = es.length ∧ sz ≠ 0 then some (.arr fz sz es, bx) else none
      | _ => none
    else none
  | .ptr id ver 0 =>
    if okId av id then
      match bx id with
      | some (.cells cs ver') => if ver = ver' then (giveCells av al bx cs).bind fun p => some (.ptr p.1, p.2) else none
      | _ => none
    else none
  | .mix cs => if (lids0 cs).isEmpty then (snap av bx (.mix cs)).bind fun p => some (.d p.1, p.2) else (giveMs av al bx cs).bind fun p => some (.mix p.1, p.2)
  | a => (snap av bx a).bind fun p => some (.d p.1, p.2)

def gives1 (av : List Id) (al : Option (List Id)) (bx : Bx) : List A → Option (List T × Bx)
  | [] => some ([], bx)
  | x :: r => (give1 av al bx x).bind fun p => (gives1 av al p.2 r).bind fun q => some (p.1 :: q.1, q.2)

def give (av : List Id) (al : Option (List Id)) (bx : Bx) : A → Option (T × Bx)
  | .fn f caps => (gives1 av al bx caps).bind fun p => some (.fn f p.1, p.2)
  | a => give1 av al bx a

def gives (av : List Id) (al : Option (List Id)) (bx : Bx) : List A → Option (List T × Bx)
  | [] => some ([], bx)
  | x :: r => (give av al bx x).bind fun p => (gives av al p.2 r).bind fun q => some (p.1 :: q.1, q.2)

/-- What comes in: a parameter, or a result. -/
def takeCell (id : Id) (bx : Bx) : T → Option (A × Bx)
  | .d x => some (.d x, bx)
  | .nilp => some (.nilp, bx)
  | .gone => some (.top, bx)
  | .arr _ 0 [] => some (.nils, bx)
  | .arr fz sz es => some (.ref id (nextVer bx id) 0 es.length sz, upd bx id (some (.arr es (nextVer bx id) fz)))
  | _ => none

def takeCells (id : Id) (bx : Bx) : Nat → List T → Option (List A × Bx)
  | _, [] => some ([], bx)
  | j, x :: r => (takeCell (j :: id) bx x).bind fun p => (takeCells id p.2 (j + 1) r).bind fun q => some (p.1 :: q.1, q.2)

def take1 (id : Id) (bx : Bx) : T → Option (A × Bx)
  | .ptr ts => (takeCells id bx 0 ts).bind fun p => some (.ptr id (nextVer p.2 id) 0, upd p.2 id (some (.cells p.1 (nextVer p.2 id))))
  | .mix ts => if ts.all T.flat then (takeCells id bx 0 ts).bind fun p => some (.mix p.1, p.2) else none
  | t => takeCell id bx t

def takes1 (id : Id) (bx : Bx) : Nat → List T → Option (List A × Bx)
  | _, [] => some ([], bx)
  | j, x :: r => (take1 (j :: id) bx x).bind fun p => (takes1 id p.2 (j + 1) r).bind fun q => some (p.1 :: q.1, q.2)

def take (id : Id) (bx : Bx) : T → Option (A × Bx)
  | .tup ts => (takes1 id bx 0 ts).bind fun p => some (.tup p.1, p.2)
  | .fn f ts => (takes1 id bx 0 ts).bind fun p => some (.fn f p.1, p.2)
  | t => take1 id bx t

/-- What an array that was lent holds behind the call. -/
def backL (bx : Bx) (id : Id) (ver off sz : Nat) : T → Option Bx
  | .arr fz sz' es =>
    match bx id with
    | some (.arr es0 ver' _) => if ver = ver' ∧ off = 0 ∧ es.length = es0.length ∧ sz' = sz ∧ (fz = false ∨ es ≠ []) then some (upd bx id (some (.arr es ver fz))) else none
    | _ => none
  | .gone => some (upd bx id (some (.arr [] (nextVer bx id) false)))
  | _ => none
def backM1 (bx : Bx) : A → T → Option Bx
  | .lref id ver off _ sz, t => backL bx id ver off sz t
  | _, _ => some bx
def backMs (bx : Bx) : List A → List T → Option Bx
  | [], [] => some bx
  | a :: r, t :: s => (backM1 bx a t).bind fun b => backMs b r s
  | _, _ => none

/-- What an argument's box holds behind the call. -/
def back1 (bx : Bx) : A → T → Option Bx
  | .ptr id ver _, .ptr ts => (takeCells id bx 0 ts).bind fun p =>
    match p.2 id with
    | some (.cells _ ver') => if ver = ver' then some (upd p.2 id (some (.cells p.1 ver))) else none
    | _ => none
  | .ptr _ _ _, _ => none
  | .lref id ver off _ sz, t => backL bx id ver off sz t
  | .mix cs, .mix ts => backMs bx cs ts
  | .mix cs, _ => if (lids0 cs).isEmpty then some bx else none
  | _, _ => some bx

def backs1 (bx : Bx) : List A → List T → Option Bx
  | [], [] => some bx
  | a :: r, t :: s => (back1 bx a t).bind fun b => backs1 b r s
  | _, _ => none

def back (bx : Bx) : A → T → Option Bx
  | .fn _ caps, .fn _ ts => backs1 bx caps ts
  | .fn _ _, _ => none
  | a, t => back1 bx a t

def backs (bx : Bx) : List A → List T → Option Bx
  | [], [] => some bx
  | a :: r, t :: s => (back bx a t).bind fun b => backs b r s
  | _, _ => none

/-- A result: arrays of the call's own go along, others as what they hold. -/
def outCell (np : Nat) (bx : Bx) : A → Option (T × Bx)
  | .ref id ver off len sz =>
    match bx id with
    | some (.arr es ver' fz) =>
      if ver = ver' then
        if off = 0 ∧ len = es.length ∧ np ≤ id.getLastD 0 ∧ sz ≠ 0 then some (.arr fz sz es, husk bx id ver)
        else (sub es off len).bind fun l => some (.d (.sl l), frz bx id)
      else none
    | _ => none
  | a => giveCell [] none bx a

def outCells (np : Nat) (bx : Bx) : List A → Option (List T × Bx)
  | [] => some ([], bx)
  | x :: r => (outCell np bx x).bind fun p => (outCells np p.2 r).bind fun q => some (p.1 :: q.1, q.2)

def out1 (np : Nat) (bx : Bx) : A → Option (T × Bx)
  | .mix cs => (outCells np bx cs).bind fun p => some (.mix p.1, p.2)
  | .ptr id ver 0 =>
    if np ≤ id.getLastD 0 then
      match bx id with
      | some (.cells cs ver') => if ver = ver' then (giveCells [] none bx cs).bind fun p => some (.ptr p.1, husk p.2 id ver) else none
      | _ => none
    else none
  | a => outCell np bx a

def outs1 (np : Nat) (bx : Bx) : List A → Option (List T × Bx)
  | [] => some ([], bx)
  | x :: r => (out1 np bx x).bind fun p => (outs1 np p.2 r).bind fun q => some (p.1 :: q.1, q.2)

abbrev Cs := Nat → List T → Option (T × List T)

def ptrIds1 : List A → List Id
  | [] => []
  | .ptr id _ _ :: r => id :: ptrIds1 r
  | .lref id _ _ _ _ :: r => id :: ptrIds1 r
  | .mix cs :: r => lids0 cs ++ ptrIds1 r
  | _ :: r => ptrIds1 r

/-- The boxes whose places are handed over. -/
def ptrIds : List A → List Id
  | [] => []
  | .fn _ caps :: r => ptrIds1 caps ++ ptrIds r
  | .ptr id _ _ :: r => id :: ptrIds r
  | .lref id _ _ _ _ :: r => id :: ptrIds r
  | .mix cs :: r => lids0 cs ++ ptrIds r
  | _ :: r => ptrIds r

/-- The arrays that are lent. -/
def lids1 : List A → List Id
  | [] => []
  | .lref id _ _ _ _ :: r => id :: lids1 r
  | .mix cs :: r => lids0 cs ++ lids1 r
  | _ :: r => lids1 r
def lids : List A → List Id
  | [] => []
  | .fn _ caps :: r => lids1 caps ++ lids r
  | .lref id _ _ _ _ :: r => id :: lids r
  | .mix cs :: r => lids0 cs ++ lids r
  | _ :: r => lids r

/-- Is it a whole array of the frame's own? -/
def wholeB (bx : Bx) (id : Id) (ver off len sz : Nat) : Bool :=
  match bx id with
  | some (.arr es ver' _) => decide (ver = ver' ∧ off = 0 ∧ len = es.length ∧ sz ≠ 0)
  | _ => false
/-- Lent is what can be; else it goes as what it holds. -/
def lendX0 (av : List Id) (bx : Bx) : A → A
  | .lref id ver off len sz => if okId av id && wholeB bx id ver off len sz then .lref id ver off len sz else .ref id ver off len sz
  | a => a
def lendX (av : List Id) (bx : Bx) : A → A
  | .mix cs => .mix (cs.map (lendX0 av bx))
  | a => lendX0 av bx a
/-- What becomes of a parameter in the end. -/
def lendP (bx : Bx) : A → A
  | .ref id ver off len sz => if wholeB bx id ver off len sz then .lref id ver off len sz else .top
  | .mix cs => .mix (cs.map lendA0)
  | a => a

def apartIds : List Id → Bool
  | [] => true
  | i :: r => !r.contains i && apartIds r

/-- A call: what it answers, under the name id. -/
def callB (C : Cs) (av : List Id) (al : Option (List Id)) (bx : Bx) (id : Id) (f : Nat) (args : List A) : Option (A × Bx) :=
  if !(apartIds (ptrIds args) && (ptrIds args).all (alOk al)) then none else
  (gives (lids args ++ av) al bx args).bind fun p => (C f p.1).bind fun r => (backs p.2 args r.2).bind fun b => take id b r.1
def callA (C : Cs) (av : List Id) (al : Option (List Id)) (bx : Bx) (id : Id) (f : Nat) (args : List A) : Option (A × Bx) :=
  callB C av al bx id f (args.map (lendX av bx))

/-- What is appended: elements. -/
def appended (av : List Id) (bx : Bx) (str : Bool) (x : A) : Option (List D × Bx) :=
  if str then (asS x).bind fun s => some (s.map dByte, bx)
  else match x with
    | .empt => some ([], bx)
    | x => (readSl av bx x).bind fun l => some (l, bx)

def copied (av : List Id) (bx : Bx) (str : Bool) (x : A) : Option (List D) :=
  if str then (asS x).bind fun s => some (s.map dByte) else readSl av bx x

/-- Elements are appended. -/
def appTo (av : List Id) (al : Option (List Id)) (bx : Bx) (id : Id) (n bytes : Nat) (s : A) (ys : List D) : Option (A × Bx) :=
  match s with
  | .nils => if ys.length * bytes ≤ 2 ^ 40 ∧ ys.length ≤ 2 ^ 40 then some (.ref id (nextVer bx id) 0 ys.length n, upd bx id (some (.arr ys (nextVer bx id) false))) else none
  | .ref i ver off len sz =>
    if okId av i && alOk al i then
      match bx i with
      | some (.arr es ver' fz) =>
        if ver = ver' ∧ off = 0 ∧ len = es.length ∧ sz = n ∧ (es.length + ys.length) * bytes ≤ 2 ^ 40 ∧ es.length + ys.length ≤ 2 ^ 40 then
          some (.ref i (ver + 1) 0 (es.length + ys.length) n, upd bx i (some (.arr (es ++ ys) (ver + 1) fz)))
        else none
      | _ => none
    else none
  | _ => none

/-- What a table tells. -/
def lkpO : List (Int × Int) → Int → Option Int
  | [], _ => none
  | p :: r, x => if p.1 = x then some p.2 else lkpO r x
def lkpI (l : List (Int × Int)) (x : Int) : Int := (lkpO l x).getD 0

/-- An operation: what it yields, and the boxes behind it. -/
def sem (C : Cs) (o : Ao) (xs : List A) (bx : Bx) : Option (A × Bx) :=
  let id : Id := [o.dst.getD 0]
  match o.k, xs with
  | .mv, [x] => some (x, bx)
  | .pick, [c, a, b] => (asB c).bind fun t => some (if t then a else b, bx)
  | .alloc z, [] => some (.ptr id (nextVer bx id) 0, upd bx id (some (.cells z (nextVer bx id))))
  | .box n, [x] => if x.cells.length = n then some (.ptr id (nextVer bx id) 0, upd bx id (some (.cells x.cells (nextVer bx id)))) else none
  | .build z ps, xs => (fillA ps xs z).bind fun l => some (mkAgg l, bx)
  | .bslice z n at_, xs => (snapsM o.av bx xs).bind fun p => (fillD z.cells.length at_ p.1 (List.replicate n z)).bind fun es =>
      some (.ref id (nextVer p.2 id) 0 es.length z.cells.length, upd p.2 id (some (.arr es (nextVer p.2 id) false)))
  | .load agg, [a] => (loadA o.av bx agg a).bind fun v => some (v, bx)
  | .store n, [a, v] => (storeA o.av o.al bx n a v).bind fun b => some (.tup [], b)
  | .nilchk, [.ptr id ver off] => some (.ptr id ver off, bx)
  | .nilchk, [.elt x off] => some (.elt x off, bx)
  | .nilchk, [.eref id ver idx off] => some (.eref id ver idx off, bx)
  | .nilchk, [.fn f caps] => some (.fn f caps, bx)
  | .bin op, [.d x, .d y] => (binD op x y).bind fun r => some (.d r, bx)
  | .eqb ne, [x, y] => (asB x).bind fun a => (asB y).bind fun b => some (.d (.bool (if ne then a != b else a == b)), bx)
  | .eqp ne, [x, y] => (isNil x).bind fun a => (isNil y).bind fun b => if a || b then some (.d (.bool (if ne then a != b else a == b)), bx) else none
  | .eqa ne ks, [.d (.agg xs), .d (.agg ys)] => (eqCells ks xs ys).bind fun b => some (.d (.bool (if ne then !b else b)), bx)
  | .sameS, [x] => (asS x).bind fun s => some (.d (.str s), bx)
  | .un op, [.d x] => (unD op x).bind fun r => some (.d r, bx)
  | .toInt k, [x] => (asI x).bind fun p => some (.d (.int k (k.wrap p.2)), bx)
  | .strBytes, [x] => (asS x).bind fun s => some (.ref id (nextVer bx id) 0 s.length 1, upd bx id (some (.arr (s.map dByte) (nextVer bx id) false)))
  | .bytesStr, [x] => (readSl o.av bx x).bind fun es => (es.mapM byteD).bind fun s => some (.d (.str s), bx)
  | .mkslice z b, [l, c] => (asI l).bind fun p => (asI c).bind fun q =>
      if p.2 = q.2 ∧ 0 ≤ p.2 ∧ p.2 * b ≤ 2 ^ 40 ∧ p.2 ≤ 2 ^ 40 then
        some (.ref id (nextVer bx id) 0 p.2.toNat z.cells.length, upd bx id (some (.arr (List.replicate p.2.toNat z) (nextVer bx id) false)))
      else none
  | .substr lo hi, x :: r => (asS x).bind fun s => (bounds s.length lo hi false r).bind fun p => some (.d (.str ((s.drop p.1).take (p.2 - p.1))), bx)
  | .subsl n lo hi mx, .d (.sl es) :: r => if szOk es n then (bounds es.length lo hi mx r).bind fun p => some (.d (.sl ((es.drop p.1).take (p.2 - p.1))), bx) else none
  | .subsl _ lo hi mx, .nils :: r => (bounds 0 lo hi mx r).bind fun _ => some (.nils, bx)
  | .subsl n lo hi mx, .ref id ver off len sz :: r => if sz = n then (bounds len lo hi mx r).bind fun p => some (.ref id ver (off + p.1) (p.2 - p.1) sz, bx) else none
  | .faddr off, [.ptr id ver o] => some (.ptr id ver (o + off), bx)
  | .faddr off, [.elt x o] => some (.elt x (o + off), bx)
  | .faddr off, [.eref id ver i o] => some (.eref id ver i (o + off), bx)
  | .field off agg, [x] => (aggC x).bind fun cs => (partA cs agg off).bind fun y => some (y, bx)
  | .iaddrA n s, [.ptr id ver o, i] => (asI i).bind fun p => if 0 ≤ p.2 ∧ p.2 < (n : Int) then some (.ptr id ver (o + p.2.toNat * s), bx) else none
  | .iaddrA n s, [.elt x o, i] => (asI i).bind fun p => if 0 ≤ p.2 ∧ p.2 < (n : Int) then some (.elt x (o + p.2.toNat * s), bx) else none
  | .iaddrS n, [.d (.sl es), i] => (asI i).bind fun p => if 0 ≤ p.2 then (es[p.2.toNat]?).bind fun x => if x.cells.length = n then some (.elt x 0, bx) else none else none
  | .iaddrS n, [.ref id ver off len sz, i] => (asI i).bind fun p => if 0 ≤ p.2 ∧ p.2 < (len : Int) ∧ sz = n then some (.eref id ver (off + p.2.toNat) 0, bx) else none
  | .indexS, [x, i] => (asS x).bind fun s => (asI i).bind fun p => if 0 ≤ p.2 then (s[p.2.toNat]?).bind fun c => some (.d (dByte c), bx) else none
  | .indexA n s agg, [x, i] => (asI i).bind fun p => if 0 ≤ p.2 ∧ p.2 < (n : Int) then (aggC x).bind fun cs => (partA cs agg (p.2.toNat * s)).bind fun y => some (y, bx) else none
  | .extract i, [.tup vs] => (vs[i]?).bind fun v => some (v, bx)
  | .callf f, xs => callA C o.av o.al bx id f xs
  | .callv, .fn f caps :: xs => callA C o.av o.al bx id f (xs ++ caps)
  | .mkfn f, xs => some (.fn f xs, bx)
  | .lenS, [x] => (asS x).bind fun s => some (goI s.length, bx)
  | .lenL, [.d (.sl es)] => some (goI es.length, bx)
  | .lenL, [.nils] => some (goI 0, bx)
  | .lenL, [.empt] => some (goI 0, bx)
  | .nilS ne, [x, .nils] => (nilOf x).bind fun b => some (.d (.bool (if ne then !b else b)), bx)
  | .lenL, [.ref _ _ _ len _] => some (goI len, bx)
  | .append n bytes str, [s, x] => (appended o.av bx str x).bind fun p =>
      if szOk p.1 n then
        match s with
        | .nils => if p.1.length * bytes ≤ 2 ^ 40 ∧ p.1.length ≤ 2 ^ 40 then some (.ref id (nextVer p.2 id) 0 p.1.length n, upd p.2 id (some (.arr p.1 (nextVer p.2 id) false))) else none
        | .ref i ver off len sz =>
          if okId o.av i && alOk o.al i then
            match p.2 i with
            | some (.arr es ver' fz) =>
              if ver = ver' ∧ off = 0 ∧ len = es.length ∧ sz = n ∧ (es.length + p.1.length) * bytes ≤ 2 ^ 40 ∧ es.length + p.1.length ≤ 2 ^ 40 then
                some (.ref i (ver + 1) 0 (es.length + p.1.length) n, upd p.2 i (some (.arr (es ++ p.1) (ver + 1) fz)))
              else none
            | _ => none
          else none
        | _ => none
      else none
  | .copy n str, [.ref i ver off len sz, x] => (copied o.av bx str x).bind fun ys =>
        if okId o.av i && alOk o.al i && szOk ys n then
          match bx i with
          | some (.arr es ver' false) =>
            if ver = ver' ∧ off + len ≤ es.length ∧ sz = n then
              some (goI (min ys.length len : Nat), upd bx i (some (.arr (es.take off ++ ys.take (min ys.length len) ++ es.drop (off + min ys.length len)) ver false)))
            else none
          | _ => none
        else none
  | .appmk z bytes, [s, x] => (asI x).bind fun q => if 0 ≤ q.2 ∧ q.2 ≤ 2 ^ 40 ∧ q.2 * bytes ≤ 2 ^ 40 then appTo o.av o.al bx id z.cells.length bytes s (List.replicate q.2.toNat z) else none
  | .mn, [x, y] => (asI x).bind fun p => (asI y).bind fun q => some (.d (.int p.1 (if q.2 < p.2 then q.2 else p.2)), bx)
  | .mx, [x, y] => (asI x).bind fun p => (asI y).bind fun q => some (.d (.int p.1 (if q.2 > p.2 then q.2 else p.2)), bx)
  | .snap, [x] => (snap o.av bx x).bind fun p => some (.d p.1, p.2)
  | .lkp tbl kk vk, [x] => (asI x).bind fun p => if p.1 = kk then some (.d (.int vk (lkpI tbl p.2)), bx) else none
  | _, _ => none

def put' (s : St) (dst : Option Nat) (v : A) (bx : Bx) : St :=
  match dst with
  | some t => ⟨upd s.tm t v, bx⟩
  | none => ⟨s.tm, bx⟩

def wanted (s : St) : Option (Nat × Bool) → Option Bool
  | none => some true
  | some (t, b) => match s.tm t with
    | .d (.bool c) => some (c == b)
    | .tup [] => some false
    | _ => none

def step (C : Cs) (o : Ao) (s : St) : Option St :=
  (wanted s o.g).bind fun w =>
    if w then (sem C o (o.xs.map (O.ev s.tm)) s.bx).bind fun p => some (put' s o.dst p.1 p.2)
    else some (put' s o.dst (.tup []) s.bx)

def steps (C : Cs) : List Ao → St → Option St
  | [], s => some s
  | o :: r, s => (step C o s).bind fun s' => steps C r s'

/-- does a value name boxes of these alone? -/
def inB (bs : List Id) : A → Bool
  | .ptr id _ _ => bs.contains id
  | .ref id _ _ _ _ => bs.contains id
  | .eref id _ _ _ => bs.contains id
  | .lref id _ _ _ _ => bs.contains id
  | .mix cs => go cs
  | .tup cs => go cs
  | .fn _ cs => go cs
  | _ => true
where go : List A → Bool
  | [] => true
  | x :: r => inB bs x && go r

def tab : List (Nat × A) → Nat → A
  | [], _ => .top
  | p :: r, n => if n = p.1 then p.2 else tab r n

def tabB : List (Id × Option Box) → Bx
  | [], _ => none
  | p :: r, n => if n = p.1 then p.2 else tabB r n

def boxIn (bs : List Id) : Option Box → Bool
  | some (.cells cs _) => inB.go bs cs
  | _ => true

/-- The same value, looked at. -/
def A.nf (a : A) : A := match a with
  | .d x => .d x
  | .mix cs => .mix cs
  | .tup vs => .tup vs
  | .nilp => .nilp
  | .nils => .nils
  | .empt => .empt
  | .ptr id v o => .ptr id v o
  | .elt x o => .elt x o
  | .ref id v o l z => .ref id v o l z
  | .eref id v i o => .eref id v i o
  | .lref id v o l z => .lref id v o l z
  | .fn f cs => .fn f cs
  | .top => .top
theorem A.nf_eq (a : A) : a.nf = a := by cases a <;> rfl
def nfB (b : Option Box) : Option Box := match b with
  | none => none
  | some (.cells cs v) => some (.cells cs v)
  | some (.arr es v f) => some (.arr es v f)
theorem nfB_eq (b : Option Box) : nfB b = b := by cases b with
  | none => rfl
  | some b => cases b <;> rfl

def keepA (ts : List Nat) (bs : List Id) (s : St) : Option St :=
  if (ts.all fun t => inB bs (s.tm t)) && (bs.all fun b => boxIn bs (s.bx b)) then some ⟨tab (ts.map fun t => (t, (s.tm t).nf)), tabB (bs.map fun b => (b, nfB (s.bx b)))⟩ else none

/-- A slice is nil: it is an array of its own, without elements. -/
def ownA (bx : Bx) (id : Id) (n : Nat) : A → Option (A × Bx)
  | .nils => some (.ref id (nextVer bx id) 0 0 n, upd bx id (some (.arr [] (nextVer bx id) false)))
  | _ => none

def frzA (bx : Bx) (a : A) : Option (A × Bx) := match a with
  | .d _ => none
  | a => (snap [] bx a).bind fun p => some (.d p.1, p.2)

/-- An array gets another name. -/
def mvA (bx : Bx) (id' : Id) : A → Option (A × Bx)
  | .ref i v off len n =>
    if i = id' then none else
    match bx i with
    | some (.arr es v' fz) => if v' = v then some (.ref id' (nextVer bx id') off len n, upd (upd bx i (some (.arr [] (v + 1) false))) id' (some (.arr es (nextVer bx id') fz))) else none
    | _ => none
  | _ => none

/-- A cell of a box is told otherwise. -/
def cellG (f : Bx → A → Option (A × Bx)) (id : Id) (j : Nat) (bx : Bx) : Option Bx :=
  match bx id with
  | some (.cells cs ver) => (cs[j]?).bind fun a => (f bx a).bind fun p =>
      match p.2 id with
      | some (.cells cs' ver') => if ver' = ver ∧ j < cs'.length ∧ p.1.flat' = true then some (upd p.2 id (some (.cells (cs'.set j p.1) ver))) else none
      | _ => none
  | _ => none

/-- Where a step does not apply it does nothing. -/
def orSame (s : St) : Option St → Option St
  | none => some s
  | x => x

def ghost (s : St) : Gs → Option St
  | .frz t => orSame s ((frzA s.bx (s.tm t)).bind fun p => some ⟨upd s.tm t p.1, p.2⟩)
  | .own t id n => orSame s ((ownA s.bx id n (s.tm t)).bind fun p => some ⟨upd s.tm t p.1, p.2⟩)
  | .frzB id j => orSame s ((cellG frzA id j s.bx).bind fun b => some ⟨s.tm, b⟩)
  | .mvT t id' => orSame s ((mvA s.bx id' (s.tm t)).bind fun p => some ⟨upd s.tm t p.1, p.2⟩)
  | .mvB id j id' => orSame s ((cellG (fun b a => mvA b id' a) id j s.bx).bind fun b => some ⟨s.tm, b⟩)
  | .ownB id j id' n => orSame s ((cellG (fun b a => ownA b id' n a) id j s.bx).bind fun b => some ⟨s.tm, b⟩)

def ghosts : List Gs → St → Option St
  | [], s => some s
  | g :: r, s => (ghost s g).bind fun s' => ghosts r s'

def iter (f : St → Option (Out × St)) : Nat → St → Option (Out × St)
  | 0, _ => none
  | k + 1, s => (f s).bind fun p => match p.1 with
    | .nrm => iter f k p.2
    | o => some (o, p.2)

def exec (C : Cs) (k : Nat) : Ac → St → Option (Out × St)
  | .skip, s => some (.nrm, s)
  | .ops l, s => (steps C l s).bind fun s' => some (.nrm, s')
  | .keep ts bs, s => (keepA ts bs s).bind fun s' => some (.nrm, s')
  | .gh l, s => (ghosts l s).bind fun s' => some (.nrm, s')
  | .seq a b, s => (exec C k a s).bind fun p => match p.1 with
    | .nrm => exec C k b p.2
    | o => some (o, p.2)
  | .cond c a b, s => (asB (c.ev s.tm)).bind fun t => if t then exec C k a s else exec C k b s
  | .block id c, s => (exec C k c s).bind fun p => match p.1 with
    | .exit i => if i = id then some (.nrm, p.2) else some (.exit i, p.2)
    | o => some (o, p.2)
  | .loop c, s => iter (exec C k c) k s
  | .exit id, s => some (.exit id, s)
  | .ret, s => some (.ret, s)

inductive Rv where
  | t (n : Nat)
  | c (n : Nat) (agg : Option Nat)
  deriving Inhabited

structure Fn where
  np : Nat
  sp : Bool := false
  mvp : Bool := false
  pb : List Id
  rs : List Rv
  body : Ac
  deriving Inhabited

def takesP (bx : Bx) : Nat → List T → Option (List A × Bx)
  | _, [] => some ([], bx)
  | j, x :: r => (take [j] bx x).bind fun p => (takesP p.2 (j + 1) r).bind fun q => some (p.1 :: q.1, q.2)

def tmOf : List A → Nat → Nat → A
  | [], _, _ => .tup []
  | a :: r, j, n => if n = j then a else tmOf r (j + 1) n

def resA (s : St) : Rv → Option A
  | .t n => some (s.tm n)
  | .c n agg => loadA [] s.bx agg (s.tm n)

def ress (s : St) : List Rv → Option (List A)
  | [] => some []
  | r :: l => (resA s r).bind fun a => (ress s l).bind fun q => some (a :: q)

def one : List T → T
  | [t] => t
  | l => .tup l

/-- The end of a function: its arguments go back. -/
def endV (f : Fn) (o : List T × Bx) (pa : List A) : Option (T × List T) :=
  if !(apartIds (ptrIds (pa.map (lendP o.2))) && inB.go f.pb pa) then none else (gives (lids (pa.map (lendP o.2))) none o.2 (pa.map (lendP o.2))).bind fun ps => some (one o.1, ps.1)

/-- From the function's first state on; tv: what its arguments are looked at as. -/
def runV (C : Cs) (k : Nat) (f : Fn) (tv pa : List A) (bx : Bx) : Option (T × List T) :=
    (exec C k f.body ⟨tmOf tv 0, bx⟩).bind fun q => match q.1 with
      | .exit _ => none
      | _ => (ress q.2 f.rs).bind fun rs => (outs1 (if f.mvp then 0 else f.np) q.2.bx rs).bind fun o => endV f o pa

def run1 (C : Cs) (k : Nat) (f : Fn) (args : List T) : Option (T × List T) :=
  if args.length = f.np then
    (takesP (fun _ => none) 0 args).bind fun p => runV C k f p.1 p.1 p.2
  else none

def emptyRes : Option (T × List T) → Option Nat
  | some (.arr false n [], [.d (.sl [])]) => some n
  | _ => none

/-- A slice without elements is looked at as nil, and as another one: both come to an array without elements. -/
def run0 (C : Cs) (k : Nat) (f : Fn) : Option (T × List T) :=
  if f.np = 1 then
    (emptyRes (runV C k f [.nils] [.d (.sl [])] fun _ => none)).bind fun n => (emptyRes (runV C k f [.empt] [.d (.sl [])] fun _ => none)).bind fun m =>
      if n = m ∨ n = 0 then some (.arr false m [], [.d (.sl [])]) else none
  else none

def run (C : Cs) (k : Nat) (f : Fn) (args : List T) : Option (T × List T) :=
  match f.sp, args with
  | true, [.d (.sl [])] => run0 C k f
  | _, _ => run1 C k f args

end Go.Es

namespace Go.Es

theorem Box.ver_cells (cs : List A) (v : Nat) : (Box.cells cs v).ver = v := rfl
theorem Box.ver_arr (es : List D) (v : Nat) (fz : Bool) : (Box.arr es v fz).ver = v := rfl

/-- The cells that nobody writes any more, and what they hold. -/
abbrev Mm := Nat → Nat → Option Value

def Mm.le (m m' : Mm) : Prop := ∀ b o v, m b o = some v → m' b o = some v

/-- A value that reads as data, in cells that nobody writes any more. -/
inductive RD (m : Mm) : D → Value → Prop where
  | bool (b : Bool) : RD m (.bool b) (.bool b)
  | int (k : IntKind) (n : Int) : RD m (.int k n) (.int k n)
  | str (s : List UInt8) : RD m (.str s) (.string ⟨s.toArray⟩)
  | sl0 (a : Option Addr) (cap : Nat) (h : a = none → cap = 0) : RD m (.sl []) (.slice a 0 cap)
  | sl (es : List D) (b o cap sz : Nat) (u : Nat → Nat → Value) (hcap : es.length ≤ cap)
      (hsz : ∀ i (h : i < es.length), es[i].cells.length = sz)
      (hm : ∀ i j, i < es.length → j < sz → m b (o + i * sz + j) = some (u i j))
      (hf : ∀ i j (h : i < es.length) (hj : j < es[i].cells.length), es[i].cells[j].flat = true)
      (hr : ∀ i j (h : i < es.length) (hj : j < es[i].cells.length), RD m (es[i].cells[j]) (u i j)) :
      RD m (.sl es) (.slice (some ⟨b, o, none⟩) es.length cap)
  | agg (cs : List D) (vs : Array Value) (hl : vs.size = cs.length)
      (hf : ∀ j (h : j < cs.length), cs[j].flat = true)
      (hr : ∀ j (h : j < cs.length), RD m cs[j] (vs[j]'(by omega))) : RD m (.agg cs) (.agg vs)

theorem RD.mono {m m' : Mm} (hm : m.le m') {x : D} {v : Value} (h : RD m x v) : RD m' x v := by
  induction h with
  | bool b => exact .bool b
  | int k n => exact .int k n
  | str s => exact .str s
  | sl0 a cap h => exact .sl0 a cap h
  | sl es b o cap sz u hcap hsz hM hf _ ih => exact .sl es b o cap sz u hcap hsz (fun i j hi hj => hm _ _ _ (hM i j hi hj)) hf ih
  | agg cs vs hl hf _ ih => exact .agg cs vs hl hf ih

/-- Where a box lies: block, first cell, cells an element, cells of the block. -/
structure Pl where
  b : Nat
  base : Nat
  sz : Nat
  n : Nat

structure Gh where
  m : Mm
  β : Id → Option Pl

def A.flat : A → Bool
  | .d x => x.flat
  | .mix _ => false
  | .tup _ => false
  | .top => false
  | _ => true

def cellVal : Value → Bool
  | .agg _ => false
  | .tuple _ => false
  | _ => true

/-- A value of the frame, and the machine's. -/
inductive RA (g : Gh) (bx : Bx) : A → Value → Prop where
  | d {x : D} {v : Value} (h : RD g.m x v) : RA g bx (.d x) v
  | mix (cs : List A) (vs : Array Value) (hl : vs.size = cs.length)
      (hf : ∀ j (h : j < cs.length), cs[j].flat = true)
      (hr : ∀ j (h : j < cs.length), RA g bx cs[j] (vs[j]'(by omega))) : RA g bx (.mix cs) (.agg vs)
  | tup (cs : List A) (vs : Array Value) (hl : vs.size = cs.length)
      (hr : ∀ j (h : j < cs.length), RA g bx cs[j] (vs[j]'(by omega))) : RA g bx (.tup cs) (.tuple vs)
  | nilp : RA g bx .nilp (.pointer none)
  | nils : RA g bx .nils (.slice none 0 0)
  | empt (a : Addr) (cap : Nat) : RA g bx .empt (.slice (some a) 0 cap)
  | ptr (id : Id) (ver off : Nat) (cs : List A) (p : Pl) (hb : bx id = some (.cells cs ver)) (hp : g.β id = some p) :
      RA g bx (.ptr id ver off) (.pointer (some ⟨p.b, off, none⟩))
  | ptrOld (id : Id) (ver off b : Nat) (x : Box) (hb : bx id = some x) (hv : ver < x.ver) : RA g bx (.ptr id ver off) (.pointer (some ⟨b, off, none⟩))
  | elt (x : D) (off b o : Nat) (u : Nat → Value) (hm : ∀ j, j < x.cells.length → g.m b (o + j) = some (u j))
      (hf : ∀ j (hj : j < x.cells.length), x.cells[j].flat = true)
      (hr : ∀ j (hj : j < x.cells.length), RD g.m (x.cells[j]) (u j)) : RA g bx (.elt x off) (.pointer (some ⟨b, o + off, none⟩))
  | ref (id : Id) (ver off len sz a cap : Nat) (es : List D) (fz : Bool) (p : Pl) (hb : bx id = some (.arr es ver fz)) (hp : g.β id = some p) (hsz : p.sz = sz)
      (hlen : off + len ≤ es.length) (hcap : len ≤ cap) (ha : cap = 0 ∨ a = p.base + off * p.sz) (hn : p.base + (off + cap) * p.sz ≤ p.n) :
      RA g bx (.ref id ver off len sz) (.slice (some ⟨p.b, a, none⟩) len cap)
  | refNil (id : Id) (ver sz : Nat) (fz : Bool) (hb : bx id = some (.arr [] ver fz)) (hp : g.β id = none) : RA g bx (.ref id ver 0 0 sz) (.slice none 0 0)
  | refOld (id : Id) (ver off len sz cap : Nat) (a : Option Addr) (x : Box) (hb : bx id = some x) (hv : ver < x.ver) (hcap : len ≤ cap) (ha : 0 < cap → ∃ b o, a = some ⟨b, o, none⟩) :
      RA g bx (.ref id ver off len sz) (.slice a len cap)
  | eref (id : Id) (ver idx off : Nat) (es : List D) (fz : Bool) (p : Pl) (hb : bx id = some (.arr es ver fz)) (hp : g.β id = some p)
      (hi : idx < es.length) : RA g bx (.eref id ver idx off) (.pointer (some ⟨p.b, p.base + idx * p.sz + off, none⟩))
  | erefOld (id : Id) (ver idx off b o : Nat) (x : Box) (hb : bx id = some x) (hv : ver < x.ver) : RA g bx (.eref id ver idx off) (.pointer (some ⟨b, o, none⟩))
  | lref (id : Id) (ver off len sz : Nat) (v : Value) (h : RA g bx (.ref id ver off len sz) v) : RA g bx (.lref id ver off len sz) v
  | fn (f : Nat) (cs : List A) (vs : Array Value) (hl : vs.size = cs.length)
      (hr : ∀ j (h : j < cs.length), RA g bx cs[j] (vs[j]'(by omega))) : RA g bx (.fn f cs) (.func (.func f) #[] vs)
  | top (v : Value) : RA g bx .top v

/-- One state of ghosts and boxes is behind another. -/
structure Le (g : Gh) (bx : Bx) (g' : Gh) (bx' : Bx) : Prop where
  m : g.m.le g'.m
  old : ∀ id x, bx id = some x → ∃ x', bx' id = some x' ∧ x.ver ≤ x'.ver
  cells : ∀ id cs ver, bx id = some (.cells cs ver) → ∀ x', bx' id = some x' → x'.ver = ver → (∃ cs', x' = .cells cs' ver) ∧ g'.β id = g.β id
  arr : ∀ id es ver fz, bx id = some (.arr es ver fz) → ∀ x', bx' id = some x' → x'.ver = ver → (∃ es' fz', x' = .arr es' ver fz' ∧ es'.length = es.length) ∧ g'.β id = g.β id

theorem Le.refl (g : Gh) (bx : Bx) : Le g bx g bx where
  m := fun _ _ _ h => h
  old := fun _ x h => ⟨x, h, Nat.le_refl _⟩
  cells := fun id cs ver h x' h' _ => by rw [h] at h'; cases h'; exact ⟨⟨cs, rfl⟩, rfl⟩
  arr := fun id es ver fz h x' h' _ => by rw [h] at h'; cases h'; exact ⟨⟨es, fz, rfl, rfl⟩, rfl⟩

theorem Le.trans {g1 : Gh} {b1 : Bx} {g2 : Gh} {b2 : Bx} {g3 : Gh} {b3 : Bx} (h : Le g1 b1 g2 b2) (k : Le g2 b2 g3 b3) : Le g1 b1 g3 b3 where
  m := fun b o v e => k.m b o v (h.m b o v e)
  old := fun id x e => by
    obtain ⟨x', e', hv⟩ := h.old id x e
    obtain ⟨x'', e'', hv'⟩ := k.old id x' e'
    exact ⟨x'', e'', Nat.le_trans hv hv'⟩
  cells := fun id cs ver e x' e' hv => by
    obtain ⟨x2, e2, hv2⟩ := h.old id _ e
    obtain ⟨x3, e3, hv3⟩ := k.old id _ e2
    rw [e'] at e3; cases e3
    simp only [Box.ver_cells, Box.ver_arr] at hv2
    have h2 : x2.ver = ver := by omega
    obtain ⟨⟨cs2, rfl⟩, hb2⟩ := h.cells id cs ver e x2 e2 h2
    obtain ⟨hc, hb3⟩ := k.cells id cs2 ver e2 x' e' hv
    exact ⟨hc, hb3.trans hb2⟩
  arr := fun id es ver fz e x' e' hv => by
    obtain ⟨x2, e2, hv2⟩ := h.old id _ e
    obtain ⟨x3, e3, hv3⟩ := k.old id _ e2
    rw [e'] at e3; cases e3
    simp only [Box.ver_cells, Box.ver_arr] at hv2
    have h2 : x2.ver = ver := by omega
    obtain ⟨⟨es2, fz2, rfl, hl2⟩, hb2⟩ := h.arr id es ver fz e x2 e2 h2
    obtain ⟨⟨es3, fz3, hc, hl3⟩, hb3⟩ := k.arr id es2 ver fz2 e2 x' e' hv
    exact ⟨⟨es3, fz3, hc, hl3.trans hl2⟩, hb3.trans hb2⟩

theorem RA.mono {g g' : Gh} {bx bx' : Bx} (h : Le g bx g' bx') {a : A} {v : Value} (hr : RA g bx a v) : RA g' bx' a v := by
  induction hr with
  | d h1 => exact .d (h1.mono h.m)
  | mix cs vs hl hf _ ih => exact .mix cs vs hl hf ih
  | tup cs vs hl _ ih => exact .tup cs vs hl ih
  | nilp => exact .nilp
  | nils => exact .nils
  | empt a cap => exact .empt a cap
  | ptr id ver off cs p hb hp =>
    obtain ⟨x', e', hv⟩ := h.old id _ hb
    by_cases he : x'.ver = ver
    · obtain ⟨⟨cs', rfl⟩, hb'⟩ := h.cells id cs ver hb x' e' he
      exact .ptr id ver off cs' p e' (hb'.trans hp)
    · exact .ptrOld id ver off _ x' e' (by simp only [Box.ver_cells, Box.ver_arr] at hv; omega)
  | ptrOld id ver off b x hb hv =>
    obtain ⟨x', e', hv'⟩ := h.old id _ hb
    exact .ptrOld id ver off b x' e' (by omega)
  | elt x off b o u hm hf hr => exact .elt x off b o u (fun j hj => h.m _ _ _ (hm j hj)) hf (fun j hj => (hr j hj).mono h.m)
  | ref id ver off len sz a cap es fz p hb hp hsz hlen hcap ha hn =>
    obtain ⟨x', e', hv⟩ := h.old id _ hb
    by_cases he : x'.ver = ver
    · obtain ⟨⟨es', fz', rfl, hl⟩, hb'⟩ := h.arr id es ver fz hb x' e' he
      exact .ref id ver off len sz a cap es' fz' p e' (hb'.trans hp) hsz (by omega) hcap ha hn
    · exact .refOld id ver off len sz cap _ x' e' (by simp only [Box.ver_cells, Box.ver_arr] at hv; omega) hcap (fun _ => ⟨_, _, rfl⟩)
  | refNil id ver sz fz hb hp =>
    obtain ⟨x', e', hv⟩ := h.old id _ hb
    by_cases he : x'.ver = ver
    · obtain ⟨⟨es', fz', rfl, hl⟩, hb'⟩ := h.arr id [] ver fz hb x' e' he
      obtain rfl : es' = [] := by simpa using hl
      exact .refNil id ver sz fz' e' (hb'.trans hp)
    · exact .refOld id ver 0 0 sz 0 _ x' e' (by simp only [Box.ver_cells, Box.ver_arr] at hv; omega) (Nat.le_refl _) (fun h => by omega)
  | refOld id ver off len sz cap a x hb hv hcap ha =>
    obtain ⟨x', e', hv'⟩ := h.old id _ hb
    exact .refOld id ver off len sz cap a x' e' (by omega) hcap ha
  | eref id ver idx off es fz p hb hp hi =>
    obtain ⟨x', e', hv⟩ := h.old id _ hb
    by_cases he : x'.ver = ver
    · obtain ⟨⟨es', fz', rfl, hl⟩, hb'⟩ := h.arr id es ver fz hb x' e' he
      exact .eref id ver idx off es' fz' p e' (hb'.trans hp) (by omega)
    · exact .erefOld id ver idx off _ _ x' e' (by simp only [Box.ver_cells, Box.ver_arr] at hv; omega)
  | erefOld id ver idx off b o x hb hv =>
    obtain ⟨x', e', hv'⟩ := h.old id _ hb
    exact .erefOld id ver idx off b o x' e' (by omega)
  | lref id ver off len sz v _ ih => exact .lref id ver off len sz v ih
  | fn f cs vs hl _ ih => exact .fn f cs vs hl ih
  | top v => exact .top v

/-- Cells of a block that are not frozen (a string's are). -/
def Bare (n : Nat) (fr : Nat × Nat) : Prop := ∀ o, o < n → ¬ (fr.1 ≤ o ∧ o < fr.2)

/-- What a box is in memory. -/
inductive BoxAt (g : Gh) (bx : Bx) (w : World) (own : Nat → Prop) (id : Id) : Box → Prop where
  | cells (cs : List A) (ver : Nat) (p : Pl) (vals : Array Value) (ty : TypeId) (fr : Nat × Nat) (hp : g.β id = some p)
      (hh : w.heap[p.b]? = some (.cells vals ty fr)) (hn : vals.size = cs.length) (hbare : Bare vals.size fr)
      (hf : ∀ j (h : j < cs.length), cs[j].flat = true)
      (hr : ∀ j (h : j < cs.length), RA g bx cs[j] (vals[j]'(by omega))) (hm : ∀ o, g.m p.b o = none) (ho : own p.b) : BoxAt g bx w own id (.cells cs ver)
  | arr (es : List D) (ver : Nat) (fz : Bool) (p : Pl) (vals : Array Value) (ty : TypeId) (fr : Nat × Nat) (hp : g.β id = some p)
      (hh : w.heap[p.b]? = some (.cells vals ty fr)) (hn : vals.size = p.n) (hbare : Bare vals.size fr) (hfit : p.base + es.length * p.sz ≤ p.n)
      (hsz : ∀ i (h : i < es.length), es[i].cells.length = p.sz)
      (hf : ∀ i j (h : i < es.length) (hj : j < es[i].cells.length), es[i].cells[j].flat = true)
      (hr : ∀ i j (h : i < es.length) (hj : j < es[i].cells.length), RD g.m (es[i].cells[j]) (vals.getD (p.base + i * p.sz + j) undef))
      (hm : ∀ o, p.base + es.length * p.sz ≤ o → g.m p.b o = none) (hz : fz = false → ∀ o, g.m p.b o = none) (ho : own p.b) :
      BoxAt g bx w own id (.arr es ver fz)
  | nil (ver : Nat) (fz : Bool) (hp : g.β id = none) : BoxAt g bx w own id (.arr [] ver fz)

structure Sim (g : Gh) (bx : Bx) (w : World) (own : Nat → Prop) : Prop where
  cons : ∀ b o v, g.m b o = some v → w.cell? ⟨b, o, none⟩ = some v
  box : ∀ id x, bx id = some x → BoxAt g bx w own id x
  apart : ∀ i j p q, bx i ≠ none → bx j ≠ none → g.β i = some p → g.β j = some q → p.b = q.b → i = j

theorem BoxAt.keep {g g' : Gh} {bx bx' : Bx} {w w' : World} {own : Nat → Prop} {id : Id} {x : Box} (h : BoxAt g bx w own id x)
    (hle : Le g bx g' bx') (hβ : g'.β id = g.β id) (hw : ∀ p, g.β id = some p → w'.heap[p.b]? = w.heap[p.b]?)
    (hm : ∀ p, g.β id = some p → ∀ o, g'.m p.b o = g.m p.b o) : BoxAt g' bx' w' own id x := by
  cases h with
  | cells cs ver p vals ty fr hp hh hn hbare hf hr hM ho =>
    exact .cells cs ver p vals ty fr (hβ.trans hp) ((hw p hp).trans hh) hn hbare hf (fun j hj => (hr j hj).mono hle) (fun o => (hm p hp o).trans (hM o)) ho
  | arr es ver fz p vals ty fr hp hh hn hbare hfit hsz hf hr hM hz ho =>
    exact .arr es ver fz p vals ty fr (hβ.trans hp) ((hw p hp).trans hh) hn hbare hfit hsz hf (fun i j hi hj => (hr i j hi hj).mono hle.m)
      (fun o h => (hm p hp o).trans (hM o h)) (fun h o => (hm p hp o).trans (hz h o)) ho
  | nil ver fz hp => exact .nil ver fz (hβ.trans hp)

/-- One box alone has turned. -/
theorem Sim.change {g g' : Gh} {bx bx' : Bx} {w w' : World} {own : Nat → Prop} (id : Id) (h : Sim g bx w own) (hle : Le g bx g' bx')
    (hbx : ∀ i, i ≠ id → bx' i = bx i) (hβ : ∀ i, i ≠ id → g'.β i = g.β i)
    (hw : ∀ i, i ≠ id → bx i ≠ none → ∀ p, g.β i = some p → w'.heap[p.b]? = w.heap[p.b]?)
    (hm : ∀ i, i ≠ id → bx i ≠ none → ∀ p, g.β i = some p → ∀ o, g'.m p.b o = g.m p.b o)
    (hcons : ∀ b o v, g'.m b o = some v → w'.cell? ⟨b, o, none⟩ = some v)
    (hbox : ∀ x, bx' id = some x → BoxAt g' bx' w' own id x)
    (hap : ∀ j, j ≠ id → bx j ≠ none → ∀ p q, g'.β id = some p → g.β j = some q → p.b ≠ q.b) : Sim g' bx' w' own where
  cons := hcons
  box := fun i x hx => by
    by_cases e : i = id
    · subst e; exact hbox x hx
    · rw [hbx i e] at hx
      exact (h.box i x hx).keep hle (hβ i e) (hw i e (by rw [hx]; simp)) (hm i e (by rw [hx]; simp))
  apart := fun i j p q hi hj hp hq hb => by
    by_cases ei : i = id
    · by_cases ej : j = id
      · rw [ei, ej]
      · subst ei
        rw [hβ j ej] at hq; rw [hbx j ej] at hj
        exact absurd hb (hap j ej hj p q hp hq)
    · by_cases ej : j = id
      · subst ej
        rw [hβ i ei] at hp; rw [hbx i ei] at hi
        exact absurd hb.symm (hap i ei hi q p hq hp)
      · rw [hβ i ei] at hp; rw [hbx i ei] at hi
        rw [hβ j ej] at hq; rw [hbx j ej] at hj
        exact h.apart i j p q hi hj hp hq hb

/-- how many cells a block has -/
def osz (w : World) (b : Nat) : Option Nat := match w.heap[b]? with
  | some (.cells vals _ _) => some vals.size
  | _ => none
theorem osz_of {w : World} {b : Nat} {vals : Array Value} {ty : TypeId} {fr : Nat × Nat} (h : w.heap[b]? = some (.cells vals ty fr)) : osz w b = some vals.size := by
  unfold osz; rw [h]
theorem osz_eq {w w' : World} {b : Nat} (h : w'.heap[b]? = w.heap[b]?) : osz w' b = osz w b := by
  unfold osz; rw [h]
/-- One world is behind another: blocks stay as great as they are. -/
def Grown (w0 w : World) : Prop := w0.heap.size ≤ w.heap.size ∧ ∀ b n, osz w0 b = some n → osz w b = some n
theorem Grown.refl (w : World) : Grown w w := ⟨Nat.le_refl _, fun _ _ h => h⟩
theorem Grown.trans {w0 w1 w2 : World} (h : Grown w0 w1) (k : Grown w1 w2) : Grown w0 w2 := ⟨Nat.le_trans h.1 k.1, fun b n e => k.2 b n (h.2 b n e)⟩
theorem osz_lt {w : World} {b n : Nat} (h : osz w b = some n) : b < w.heap.size := by
  unfold osz at h
  split at h
  · rename_i e; rw [Array.getElem?_eq_some_iff] at e; exact e.1
  · cases h
theorem Grown.old {w w' : World} (hs : w.heap.size ≤ w'.heap.size) (h : ∀ b, b < w.heap.size → w'.heap[b]? = w.heap[b]?) : Grown w w' :=
  ⟨hs, fun b n e => (osz_eq (h b (osz_lt e))).trans e⟩

/-- What a frame may rely on all along: m0 and w0 are as they were when it began; O: the blocks that were handed to it. -/
structure Inv (m0 : Mm) (w0 : World) (O : Nat → Prop) (g : Gh) (bx : Bx) (w : World) : Prop where
  sim : Sim g bx w (fun b => (w0.heap.size ≤ b ∨ O b) ∧ b < w.heap.size)
  mle : m0.le g.m
  keep : ∀ b, b < w0.heap.size → ¬ O b → w.heap[b]? = w0.heap[b]? ∧ ∀ o, g.m b o = m0 b o
  size : Grown w0 w
  os : w.os = w0.os
  tape : w.tape = w0.tape
  output : w.output = w0.output

theorem Sim.own_mono {g : Gh} {bx : Bx} {w : World} {own own' : Nat → Prop} (h : Sim g bx w own) (ho : ∀ b, own b → own' b) : Sim g bx w own' where
  cons := h.cons
  box := fun i x hx => by
    cases h.box i x hx with
    | cells cs ver p vals ty fr hp hh hn hbare hf hr hM h1 => exact .cells cs ver p vals ty fr hp hh hn hbare hf hr hM (ho _ h1)
    | arr es ver fz p vals ty fr hp hh hn hbare hfit hsz hf hr hM hz h1 => exact .arr es ver fz p vals ty fr hp hh hn hbare hfit hsz hf hr hM hz (ho _ h1)
    | nil ver fz hp => exact .nil ver fz hp
  apart := h.apart

/-- The block of a box that is there. -/
theorem Sim.block {g : Gh} {bx : Bx} {w : World} {own : Nat → Prop} (h : Sim g bx w own) {id : Id} {p : Pl} (hb : bx id ≠ none) (hp : g.β id = some p) :
    own p.b ∧ p.b < w.heap.size ∧ ∃ vals ty fr, w.heap[p.b]? = some (.cells vals ty fr) ∧ Bare vals.size fr := by
  cases hx : bx id with
  | none => exact absurd hx hb
  | some x =>
    cases h.box id x hx with
    | cells cs ver q vals ty fr hq hh hn hbare hf hr hM ho =>
      rw [hp] at hq; cases hq
      exact ⟨ho, by rw [Array.getElem?_eq_some_iff] at hh; exact hh.1, vals, ty, fr, hh, hbare⟩
    | arr es ver fz q vals ty fr hq hh hn hbare hfit hsz hf hr hM hz ho =>
      rw [hp] at hq; cases hq
      exact ⟨ho, by rw [Array.getElem?_eq_some_iff] at hh; exact hh.1, vals, ty, fr, hh, hbare⟩
    | nil ver fz hq => rw [hp] at hq; cases hq

theorem upd_self {α β : Type} [DecidableEq α] (f : α → β) (i : α) (v : β) : upd f i v i = v := by simp [upd]
theorem upd_ne {α β : Type} [DecidableEq α] (f : α → β) (i j : α) (v : β) (h : j ≠ i) : upd f i v j = f j := by simp [upd, h]

/-- A box of a name gets a new version. -/
theorem Le.fresh {g : Gh} {bx : Bx} {id : Id} {x : Box} (m' : Mm) (hm : g.m.le m') (β' : Option Pl) (hv : nextVer bx id ≤ x.ver) :
    Le g bx ⟨m', upd g.β id β'⟩ (upd bx id (some x)) where
  m := hm
  old := fun i y hy => by
    by_cases e : i = id
    · subst e
      refine ⟨x, upd_self _ _ _, ?_⟩
      simp only [nextVer, hy] at hv; omega
    · exact ⟨y, by rw [upd_ne _ _ _ _ e]; exact hy, Nat.le_refl _⟩
  cells := fun i cs ver hy x' hx' hver => by
    by_cases e : i = id
    · subst e
      rw [upd_self] at hx'; cases hx'
      simp only [nextVer, hy, Box.ver_cells] at hv; omega
    · rw [upd_ne _ _ _ _ e, hy] at hx'; cases hx'
      exact ⟨⟨cs, rfl⟩, upd_ne _ _ _ _ e⟩
  arr := fun i es ver fz hy x' hx' hver => by
    by_cases e : i = id
    · subst e
      rw [upd_self] at hx'; cases hx'
      simp only [nextVer, hy, Box.ver_arr] at hv; omega
    · rw [upd_ne _ _ _ _ e, hy] at hx'; cases hx'
      exact ⟨⟨es, fz, rfl, rfl⟩, upd_ne _ _ _ _ e⟩

end Go.Es

namespace Go.Es

variable {m0 : Mm} {w0 : World} {O : Nat → Prop} {g : Gh} {bx : Bx} {w : World}

theorem cell_of_heap {w : World} {b o : Nat} {vals : Array Value} {ty : TypeId} {fr : Nat × Nat} (h : w.heap[b]? = some (.cells vals ty fr)) :
    w.cell? ⟨b, o, none⟩ = vals[o]? := by simp [World.cell?, h]

theorem Inv.draw (h : Inv m0 w0 O g bx w) (n : Nat) : Inv m0 w0 O g bx { w with drawn := n } where
  sim := by
    refine ⟨h.sim.cons, fun i x hx => ?_, h.sim.apart⟩
    cases h.sim.box i x hx with
    | cells cs ver p vals ty fr hp hh hn hbare hf hr hM h1 => exact .cells cs ver p vals ty fr hp hh hn hbare hf hr hM h1
    | arr es ver fz p vals ty fr hp hh hn hbare hfit hsz hf hr hM hz h1 => exact .arr es ver fz p vals ty fr hp hh hn hbare hfit hsz hf hr hM hz h1
    | nil ver fz hp => exact .nil ver fz hp
  mle := h.mle
  keep := h.keep
  size := h.size
  os := h.os
  tape := h.tape
  output := h.output

theorem Inv.m_new (h : Inv m0 w0 O g bx w) {b : Nat} (hb : w.heap.size ≤ b) (o : Nat) : g.m b o = none := by
  cases e : g.m b o with
  | none => rfl
  | some v =>
    have := h.sim.cons b o v e
    simp only [World.cell?] at this
    rw [Array.getElem?_eq_none hb] at this
    simp at this

theorem alloc_heap (w : World) (x : Obj) (b : Nat) (hb : b < w.heap.size) : (w.alloc x).heap[b]? = w.heap[b]? := by
  show (w.heap.push x)[b]? = _
  rw [Array.getElem?_push, if_neg (by omega)]
theorem alloc_heap_new (w : World) (x : Obj) : (w.alloc x).heap[w.heap.size]? = some x := by
  show (w.heap.push x)[w.heap.size]? = _
  simp
theorem alloc_size (w : World) (x : Obj) : (w.alloc x).heap.size = w.heap.size + 1 := by
  show (w.heap.push x).size = _
  simp

/-- A new block, under a name; what it is told to be is shown of the new ghosts. -/
theorem Inv.new (h : Inv m0 w0 O g bx w) (id : Id) (x : Box) (p : Pl) (vals : Array Value) (ty : TypeId) (fr : Nat × Nat) (hp : p.b = w.heap.size) (hv : nextVer bx id ≤ x.ver)
    (hbox : ∀ g' bx', g' = ⟨g.m, upd g.β id (some p)⟩ → bx' = upd bx id (some x) → Le g bx g' bx' → (∀ o, g.m p.b o = none) →
      BoxAt g' bx' (w.alloc (.cells vals ty fr)) (fun b => (w0.heap.size ≤ b ∨ O b) ∧ b < (w.alloc (.cells vals ty fr)).heap.size) id x) :
    Inv m0 w0 O ⟨g.m, upd g.β id (some p)⟩ (upd bx id (some x)) (w.alloc (.cells vals ty fr)) ∧ Le g bx ⟨g.m, upd g.β id (some p)⟩ (upd bx id (some x)) := by
  have hle : Le g bx ⟨g.m, upd g.β id (some p)⟩ (upd bx id (some x)) := Le.fresh g.m (fun _ _ _ h => h) (some p) hv
  refine ⟨⟨?_, h.mle, fun b hb hO => ?_, ?_, h.os, h.tape, h.output⟩, hle⟩
  · have hs : Sim g bx w (fun b => (w0.heap.size ≤ b ∨ O b) ∧ b < (w.alloc (.cells vals ty fr)).heap.size) :=
      h.sim.own_mono fun b hb => ⟨hb.1, by rw [alloc_size]; omega⟩
    refine hs.change id hle (fun i e => upd_ne _ _ _ _ e) (fun i e => upd_ne _ _ _ _ e) ?_ (fun _ _ _ _ _ _ => rfl) ?_ ?_ ?_
    · intro i _ hi q hq
      exact alloc_heap _ _ _ (h.sim.block hi hq).2.1
    · intro b o v hm
      have hc := h.sim.cons b o v hm
      have hb : b < w.heap.size := by
        rcases Nat.lt_or_ge b w.heap.size with hlt | hge
        · exact hlt
        · rw [h.m_new hge] at hm; cases hm
      simp only [World.cell?] at hc ⊢
      rw [alloc_heap _ _ _ hb]; exact hc
    · intro y hy
      rw [upd_self] at hy; cases hy
      exact hbox _ _ rfl rfl hle (fun o => h.m_new (by omega) o)
    · intro j ej hj p' q hp' hq
      replace hp' : upd g.β id (some p) id = some p' := hp'
      rw [upd_self] at hp'; cases hp'
      have := (h.sim.block hj hq).2.1
      omega
  · have hlt : b < w.heap.size := Nat.lt_of_lt_of_le hb h.size.1
    exact ⟨(alloc_heap _ _ _ hlt).trans (h.keep b hb hO).1, (h.keep b hb hO).2⟩
  · exact h.size.trans (.old (by rw [alloc_size]; omega) fun b hb => alloc_heap _ _ _ hb)

theorem bare_zero (n : Nat) : Bare n (0, 0) := fun o _ h => by omega

theorem Inv.newCells (h : Inv m0 w0 O g bx w) (id : Id) (cs : List A) (vals : Array Value) (ty : TypeId) (hn : vals.size = cs.length)
    (hf : ∀ j (hj : j < cs.length), cs[j].flat = true) (hr : ∀ j (hj : j < cs.length), RA g bx cs[j] (vals[j]'(by omega))) :
    ∃ g', Inv m0 w0 O g' (upd bx id (some (.cells cs (nextVer bx id)))) (w.alloc (.cells vals ty (0, 0))) ∧
      Le g bx g' (upd bx id (some (.cells cs (nextVer bx id)))) ∧ RA g' (upd bx id (some (.cells cs (nextVer bx id)))) (.ptr id (nextVer bx id) 0) (.pointer (some ⟨w.heap.size, 0, none⟩)) := by
  obtain ⟨hi, hl⟩ := h.new id (.cells cs (nextVer bx id)) ⟨w.heap.size, 0, 1, vals.size⟩ vals ty (0, 0) rfl (Nat.le_refl _) (by
    intro g' bx' hg hb hle hm
    subst hg hb
    refine .cells cs _ ⟨w.heap.size, 0, 1, vals.size⟩ vals ty (0, 0) (upd_self _ _ _) (alloc_heap_new _ _) hn (bare_zero _) hf (fun j hj => (hr j hj).mono hle) hm ⟨.inl h.size.1, by rw [alloc_size]; exact Nat.lt_succ_self _⟩)
  exact ⟨_, hi, hl, .ptr id _ 0 cs ⟨w.heap.size, 0, 1, vals.size⟩ (upd_self _ _ _) (upd_self _ _ _)⟩

/-- Elements and the cells that hold them. -/
structure Lies (m : Mm) (es : List D) (sz base : Nat) (vals : Array Value) : Prop where
  fit : base + es.length * sz ≤ vals.size
  hs : ∀ i (h : i < es.length), es[i].cells.length = sz
  fl : ∀ i j (h : i < es.length) (hj : j < es[i].cells.length), es[i].cells[j].flat = true
  rd : ∀ i j (h : i < es.length) (hj : j < es[i].cells.length), RD m (es[i].cells[j]) (vals.getD (base + i * sz + j) undef)

theorem Lies.mono {m m' : Mm} (hm : m.le m') {es : List D} {sz base : Nat} {vals : Array Value} (h : Lies m es sz base vals) : Lies m' es sz base vals :=
  ⟨h.fit, h.hs, h.fl, fun i j hi hj => (h.rd i j hi hj).mono hm⟩

theorem Inv.newArr (h : Inv m0 w0 O g bx w) (id : Id) (es : List D) (fz : Bool) (sz cap : Nat) (vals : Array Value) (ty : TypeId) (fr : Nat × Nat) (hbare : Bare vals.size fr) (ver : Nat) (hver : nextVer bx id ≤ ver)
    (hl : Lies g.m es sz 0 vals) (hcap : es.length ≤ cap) (hn : cap * sz ≤ vals.size) :
    ∃ g', Inv m0 w0 O g' (upd bx id (some (.arr es ver fz))) (w.alloc (.cells vals ty fr)) ∧
      Le g bx g' (upd bx id (some (.arr es ver fz))) ∧ RA g' (upd bx id (some (.arr es ver fz))) (.ref id ver 0 es.length sz) (.slice (some ⟨w.heap.size, 0, none⟩) es.length cap) := by
  obtain ⟨hi, hle⟩ := h.new id (.arr es ver fz) ⟨w.heap.size, 0, sz, vals.size⟩ vals ty fr rfl hver (by
    intro g' bx' hg hb hle hm
    subst hg hb
    exact .arr es ver fz ⟨w.heap.size, 0, sz, vals.size⟩ vals ty fr (upd_self _ _ _) (alloc_heap_new _ _) rfl hbare hl.fit hl.hs hl.fl hl.rd
      (fun o _ => hm o) (fun _ o => hm o) ⟨.inl h.size.1, by rw [alloc_size]; exact Nat.lt_succ_self _⟩)
  exact ⟨_, hi, hle, .ref id ver 0 es.length sz 0 cap es fz ⟨w.heap.size, 0, sz, vals.size⟩ (upd_self _ _ _) (upd_self _ _ _) rfl (by omega) hcap (.inr (by simp)) (by simpa using hn)⟩

/-- An array that no block bears: of no elements. -/
theorem Inv.husk (h : Inv m0 w0 O g bx w) (id : Id) (ver : Nat) (fz : Bool) (hver : nextVer bx id ≤ ver) :
    Inv m0 w0 O ⟨g.m, upd g.β id none⟩ (upd bx id (some (.arr [] ver fz))) w ∧ Le g bx ⟨g.m, upd g.β id none⟩ (upd bx id (some (.arr [] ver fz))) := by
  have hle : Le g bx ⟨g.m, upd g.β id none⟩ (upd bx id (some (.arr [] ver fz))) := Le.fresh g.m (fun _ _ _ h => h) none hver
  refine ⟨⟨h.sim.change id hle (fun i e => upd_ne _ _ _ _ e) (fun i e => upd_ne _ _ _ _ e) (fun _ _ _ _ _ => rfl) (fun _ _ _ _ _ _ => rfl) h.sim.cons ?_ ?_, h.mle, h.keep, h.size, h.os, h.tape, h.output⟩, hle⟩
  · intro y hy
    rw [upd_self] at hy; cases hy
    exact .nil ver fz (upd_self _ _ _)
  · intro j _ _ p q hp
    replace hp : upd g.β id none id = some p := hp
    rw [upd_self] at hp; cases hp

/-- Arrays alone have been frozen, or given away. -/
structure Fz (av : List Id) (g : Gh) (bx : Bx) (g' : Gh) (bx' : Bx) : Prop where
  m : ∀ b, (¬ ∃ i p es ver fz, bx i = some (.arr es ver fz) ∧ g.β i = some p ∧ p.b = b ∧ okId av i = true) → ∀ o, g'.m b o = g.m b o
  same : ∀ i, okId av i = false → bx' i = bx i
  used : ∀ i p, bx' i ≠ none → g'.β i = some p → bx i ≠ none ∧ g.β i = some p
  cells : ∀ i cs ver, bx' i = some (.cells cs ver) ↔ bx i = some (.cells cs ver)

theorem Fz.refl (av : List Id) (g : Gh) (bx : Bx) : Fz av g bx g bx := ⟨fun _ _ _ => rfl, fun _ _ => rfl, fun _ _ h k => ⟨h, k⟩, fun _ _ _ => Iff.rfl⟩

theorem Fz.trans {av : List Id} {g1 : Gh} {b1 : Bx} {g2 : Gh} {b2 : Bx} {g3 : Gh} {b3 : Bx} (h : Fz av g1 b1 g2 b2) (k : Fz av g2 b2 g3 b3) : Fz av g1 b1 g3 b3 where
  same := fun i hi => (k.same i hi).trans (h.same i hi)
  m := fun b hb o => by
    rw [k.m b _ o, h.m b hb o]
    rintro ⟨i, p, es, ver, fz, h1, h2, h3, hok⟩
    obtain ⟨h4, h5⟩ := h.used i p (by rw [h1]; simp) h2
    cases hx : b1 i with
    | none => exact h4 hx
    | some x =>
      cases x with
      | cells cs v => have := (h.cells i cs v).2 hx; rw [h1] at this; cases this
      | arr es' v' f' => exact hb ⟨i, p, es', v', f', hx, h5, h3, hok⟩
  used := fun i p h1 h2 => by
    obtain ⟨h3, h4⟩ := k.used i p h1 h2
    exact h.used i p h3 h4
  cells := fun i cs ver => (k.cells i cs ver).trans (h.cells i cs ver)

theorem Fz.husk {av : List Id} (g : Gh) (bx : Bx) (id : Id) {es0 : List D} {v0 : Nat} {f0 : Bool} (hb : bx id = some (.arr es0 v0 f0)) (ver : Nat) (fz : Bool) (hok : okId av id = true) :
    Fz av g bx ⟨g.m, upd g.β id none⟩ (upd bx id (some (.arr [] ver fz))) where
  m := fun _ _ _ => rfl
  same := fun i hi => upd_ne _ _ _ _ (by rintro rfl; rw [hok] at hi; cases hi)
  used := fun i p h1 h2 => by
    by_cases e : i = id
    · subst e
      replace h2 : upd g.β i none i = some p := h2
      simp [upd] at h2
    · replace h2 : upd g.β id none i = some p := h2
      simp only [upd, if_neg e] at h1 h2
      exact ⟨h1, h2⟩
  cells := fun i cs v => by
    by_cases e : i = id
    · subst e; simp [upd, hb]
    · simp [upd, e]

/-- What an array holds is frozen. -/
theorem Inv.freeze (h : Inv m0 w0 O g bx w) {av : List Id} {id : Id} {es : List D} {ver : Nat} {fz : Bool} (hb : bx id = some (.arr es ver fz)) (hok : okId av id = true) :
    ∃ g', Inv m0 w0 O g' (frz bx id) w ∧ Le g bx g' (frz bx id) ∧ Fz av g bx g' (frz bx id) ∧
      ∀ p, g.β id = some p → ∃ u : Nat → Nat → Value, ∀ i j (hi : i < es.length) (hj : j < es[i].cells.length),
        es[i].cells.length = p.sz ∧ g'.m p.b (p.base + i * p.sz + j) = some (u i j) ∧ es[i].cells[j].flat = true ∧ RD g'.m (es[i].cells[j]) (u i j) := by
  have hfrz : frz bx id = upd bx id (some (.arr es ver true)) := by simp [frz, hb]
  have hle0 : ∀ m' : Mm, g.m.le m' → Le g bx ⟨m', g.β⟩ (upd bx id (some (.arr es ver true))) := fun m' hm => {
    m := hm
    old := fun i y hy => by
      by_cases e : i = id
      · subst e
        rw [hb] at hy; cases hy
        exact ⟨_, upd_self _ _ _, Nat.le_refl _⟩
      · exact ⟨y, by rw [upd_ne _ _ _ _ e]; exact hy, Nat.le_refl _⟩
    cells := fun i cs v hy x' hx' hv => by
      by_cases e : i = id
      · subst e; rw [hb] at hy; cases hy
      · rw [upd_ne _ _ _ _ e, hy] at hx'; cases hx'
        exact ⟨⟨cs, rfl⟩, rfl⟩
    arr := fun i es' v fz' hy x' hx' hv => by
      by_cases e : i = id
      · subst e
        rw [hb] at hy; cases hy
        rw [upd_self] at hx'; cases hx'
        exact ⟨⟨es, true, rfl, rfl⟩, rfl⟩
      · rw [upd_ne _ _ _ _ e, hy] at hx'; cases hx'
        exact ⟨⟨es', fz', rfl, rfl⟩, rfl⟩ }
  have hfz0 : ∀ m' : Mm, (∀ b, (¬ ∃ i p es ver fz, bx i = some (.arr es ver fz) ∧ g.β i = some p ∧ p.b = b ∧ okId av i = true) → ∀ o, m' b o = g.m b o) → Fz av g bx ⟨m', g.β⟩ (upd bx id (some (.arr es ver true))) := fun m' hm => {
    m := hm
    same := fun i hi => upd_ne _ _ _ _ (by rintro rfl; rw [hok] at hi; cases hi)
    used := fun i p h1 h2 => by
      refine ⟨?_, h2⟩
      by_cases e : i = id
      · subst e; rw [hb]; simp
      · simpa [upd, e] using h1
    cells := fun i cs v => by
      by_cases e : i = id
      · subst e; simp [upd, hb]
      · simp [upd, e] }
  cases h.sim.box id _ hb with
  | nil ver fz hp =>
    refine ⟨g, ?_, hfrz ▸ hle0 g.m (fun _ _ _ h => h), hfrz ▸ hfz0 g.m (fun _ _ _ => rfl), fun p hp' => by rw [hp] at hp'; cases hp'⟩
    rw [hfrz]
    refine ⟨h.sim.change id (hle0 g.m (fun _ _ _ h => h)) (fun i e => upd_ne _ _ _ _ e) (fun _ _ => rfl) (fun _ _ _ _ _ => rfl) (fun _ _ _ _ _ _ => rfl) h.sim.cons ?_ ?_, h.mle, h.keep, h.size, h.os, h.tape, h.output⟩
    · intro y hy
      rw [upd_self] at hy; cases hy
      exact .nil ver true hp
    · intro j _ _ p q hp'
      rw [hp] at hp'; cases hp'
  | arr es ver fz p vals ty fr hp hh hn hbare hfit hsz hf hr hm hz ho =>
    let m' : Mm := fun b o => if b = p.b ∧ p.base ≤ o ∧ o < p.base + es.length * p.sz then some (vals.getD o undef) else g.m b o
    have hget : ∀ o, o < p.base + es.length * p.sz → vals[o]? = some (vals.getD o undef) := fun o ho' => by
      have : o < vals.size := by omega
      simp [Array.getD, this]
    have hle : g.m.le m' := fun b o v hv => by
      show (if _ then _ else _) = _
      split
      · rename_i hc
        obtain ⟨rfl, _, h2⟩ := hc
        have := h.sim.cons _ _ _ hv
        rw [cell_of_heap hh, hget o h2] at this
        exact this
      · exact hv
    have hown : w0.heap.size ≤ p.b ∨ O p.b := ho.1
    refine ⟨⟨m', g.β⟩, ?_, hfrz ▸ hle0 m' hle, hfrz ▸ hfz0 m' (fun b hb' o => ?_), ?_⟩
    rotate_left
    · show (if _ then _ else _) = _
      rw [if_neg]
      rintro ⟨rfl, _⟩
      exact hb' ⟨id, p, es, ver, fz, hb, hp, rfl, hok⟩
    rotate_right
    · rw [hfrz]
      refine ⟨h.sim.change id (hle0 m' hle) (fun i e => upd_ne _ _ _ _ e) (fun _ _ => rfl) (fun _ _ _ _ _ => rfl) ?_ ?_ ?_ ?_, ?_, ?_, h.size, h.os, h.tape, h.output⟩
      · intro i e hi q hq o
        show (if _ then _ else _) = _
        rw [if_neg]
        rintro ⟨he, _⟩
        exact e (h.sim.apart i id q p hi (by rw [hb]; simp) hq hp he)
      · intro b o v hv
        change (if _ then _ else _) = _ at hv
        split at hv
        · rename_i hc
          obtain ⟨rfl, _, h2⟩ := hc
          rw [cell_of_heap hh, hget o h2]; exact hv
        · exact h.sim.cons b o v hv
      · intro y hy
        rw [upd_self] at hy; cases hy
        refine .arr es ver true p vals ty fr hp hh hn hbare hfit hsz hf (fun i j hi hj => (hr i j hi hj).mono hle) ?_ (fun e => by cases e) ho
        intro o ho'
        show (if _ then _ else _) = _
        rw [if_neg (by omega)]; exact hm o ho'
      · intro j ej hj p' q hp' hq he
        have hp'' : g.β id = some p' := hp'
        rw [hp] at hp''; cases hp''
        exact ej (h.sim.apart j id q p hj (by rw [hb]; simp) hq hp he.symm)
      · exact fun b o v hv => hle b o v (h.mle b o v hv)
      · intro b hb' hO
        refine ⟨(h.keep b hb' hO).1, fun o => ?_⟩
        show (if _ then _ else _) = _
        rw [if_neg, (h.keep b hb' hO).2]
        rintro ⟨rfl, _⟩
        rcases hown with h1 | h1
        · omega
        · exact hO h1
    · intro q hq
      rw [hp] at hq; cases hq
      refine ⟨fun i j => vals.getD (p.base + i * p.sz + j) undef, fun i j hi hj => ⟨hsz i hi, ?_, hf i j hi hj, (hr i j hi hj).mono hle⟩⟩
      have hj' : j < p.sz := by rw [← hsz i hi]; exact hj
      have hb2 : p.base + i * p.sz + j < p.base + es.length * p.sz := by
        have : (i + 1) * p.sz ≤ es.length * p.sz := Nat.mul_le_mul_right _ hi
        rw [Nat.add_mul, Nat.one_mul] at this
        omega
      show (if _ then _ else _) = _
      rw [if_pos ⟨rfl, by omega, hb2⟩]

/-- Two boxes of one version: of one kind, and of as many cells or elements. -/
inductive Alike : Box → Box → Prop where
  | cells (cs cs' : List A) (v : Nat) : Alike (.cells cs v) (.cells cs' v)
  | arr (es es' : List D) (v : Nat) (z z' : Bool) (h : es'.length = es.length) : Alike (.arr es v z) (.arr es' v z')
  | newer (x x' : Box) (h : x.ver < x'.ver) : Alike x x'

theorem Alike.ver {x x' : Box} (h : Alike x x') : x.ver ≤ x'.ver := by
  cases h with
  | cells cs cs' v => exact Nat.le_refl _
  | arr es es' v z z' h => exact Nat.le_refl _
  | newer x x' h => exact Nat.le_of_lt h

theorem Le.one {g : Gh} {bx : Bx} {id : Id} {x x' : Box} (hb : bx id = some x) (ha : Alike x x') (m' : Mm) (hm : g.m.le m') :
    Le g bx ⟨m', g.β⟩ (upd bx id (some x')) where
  m := hm
  old := fun i y hy => by
    by_cases e : i = id
    · subst e
      rw [hb] at hy; cases hy
      exact ⟨x', upd_self _ _ _, ha.ver⟩
    · exact ⟨y, by rw [upd_ne _ _ _ _ e]; exact hy, Nat.le_refl _⟩
  cells := fun i cs v hy y hx' hv => by
    by_cases e : i = id
    · subst e
      rw [hb] at hy; cases hy
      rw [upd_self] at hx'; cases hx'
      cases ha with
      | cells _ cs' _ => exact ⟨⟨cs', rfl⟩, rfl⟩
      | newer _ _ h => simp only [Box.ver_cells] at h; omega
    · rw [upd_ne _ _ _ _ e, hy] at hx'; cases hx'
      exact ⟨⟨cs, rfl⟩, rfl⟩
  arr := fun i es v fz hy y hx' hv => by
    by_cases e : i = id
    · subst e
      rw [hb] at hy; cases hy
      rw [upd_self] at hx'; cases hx'
      cases ha with
      | arr _ es' _ _ z' h => exact ⟨⟨es', z', rfl, h⟩, rfl⟩
      | newer _ _ h => simp only [Box.ver_arr] at h; omega
    · rw [upd_ne _ _ _ _ e, hy] at hx'; cases hx'
      exact ⟨⟨es, fz, rfl, rfl⟩, rfl⟩

def wset (w : World) (b : Nat) (x : Obj) : World := { w with heap := w.heap.setIfInBounds b x }

theorem wset_at {w : World} {b : Nat} (hb : b < w.heap.size) (x : Obj) : (wset w b x).heap[b]? = some x := by
  simp [wset, hb]
theorem wset_ne {w : World} {b c : Nat} (x : Obj) (h : c ≠ b) : (wset w b x).heap[c]? = w.heap[c]? := by
  simp only [wset]
  rw [Array.getElem?_setIfInBounds_ne (by omega)]
theorem wset_size (w : World) (b : Nat) (x : Obj) : (wset w b x).heap.size = w.heap.size := by simp [wset]

/-- The block of a box is written. -/
theorem Inv.write (h : Inv m0 w0 O g bx w) {id : Id} {x x' : Box} (hb : bx id = some x) (ha : Alike x x') {p : Pl} (hp : g.β id = some p)
    {vals vals' : Array Value} {ty : TypeId} {fr : Nat × Nat} (hh : w.heap[p.b]? = some (.cells vals ty fr))
    (hsame : vals'.size = vals.size) (hfree : ∀ o v, g.m p.b o = some v → vals'[o]? = vals[o]?)
    (hbox : ∀ bx', bx' = upd bx id (some x') → Le g bx g bx' →
      BoxAt g bx' (wset w p.b (.cells vals' ty fr)) (fun b => (w0.heap.size ≤ b ∨ O b) ∧ b < w.heap.size) id x') :
    Inv m0 w0 O g (upd bx id (some x')) (wset w p.b (.cells vals' ty fr)) ∧ Le g bx g (upd bx id (some x')) := by
  have hle : Le g bx g (upd bx id (some x')) := Le.one hb ha g.m (fun _ _ _ h => h)
  have hbn : bx id ≠ none := by rw [hb]; simp
  have hblk := h.sim.block hbn hp
  refine ⟨⟨?_, h.mle, ?_, h.size.trans ⟨by rw [wset_size]; exact Nat.le_refl _, fun c n e => by
      by_cases hc : c = p.b
      · subst hc
        rw [osz_of hh] at e
        rw [osz_of (wset_at hblk.2.1 _), hsame]; exact e
      · rw [osz_eq (wset_ne _ hc)]; exact e⟩, h.os, h.tape, h.output⟩, hle⟩
  · simp only [wset_size]
    refine h.sim.change id hle (fun i e => upd_ne _ _ _ _ e) (fun _ _ => rfl) ?_ (fun _ _ _ _ _ _ => rfl) ?_ ?_ ?_
    · intro i e hi q hq
      exact wset_ne _ fun he => e (h.sim.apart i id q p hi hbn hq hp he)
    · intro b o v hv
      have hc := h.sim.cons b o v hv
      by_cases e : b = p.b
      · subst e
        rw [cell_of_heap hh] at hc
        rw [cell_of_heap (wset_at hblk.2.1 _), hfree o v hv]; exact hc
      · simp only [World.cell?] at hc ⊢
        rw [wset_ne _ e]; exact hc
    · intro y hy
      rw [upd_self] at hy; cases hy
      exact hbox _ rfl hle
    · intro j ej hj p' q hp' hq he
      rw [hp] at hp'; cases hp'
      exact ej (h.sim.apart j id q p hj hbn hq hp he.symm)
  · intro b hb' hO
    refine ⟨?_, (h.keep b hb' hO).2⟩
    rw [wset_ne, (h.keep b hb' hO).1]
    rintro rfl
    rcases hblk.1.1 with h1 | h1
    · omega
    · exact hO h1

/-- Values put one behind the other into cells. -/
def putsV : Array Value → Nat → List Value → Array Value
  | a, _, [] => a
  | a, o, v :: r => putsV (a.setIfInBounds o v) (o + 1) r

theorem putsV_size : ∀ (vs : List Value) (a : Array Value) (o : Nat), (putsV a o vs).size = a.size
  | [], _, _ => rfl
  | v :: r, a, o => by rw [putsV, putsV_size r]; simp

theorem putsV_get : ∀ (vs : List Value) (a : Array Value) (o k : Nat), o + vs.length ≤ a.size →
    (putsV a o vs)[k]? = if o ≤ k ∧ k < o + vs.length then vs[k - o]? else a[k]?
  | [], a, o, k, _ => by rw [putsV, if_neg (by simp only [List.length_nil]; omega)]
  | v :: r, a, o, k, h => by
    simp only [List.length_cons] at h
    rw [putsV, putsV_get r _ _ k (by simp; omega)]
    by_cases h1 : o + 1 ≤ k ∧ k < o + 1 + r.length
    · rw [if_pos h1, if_pos (by simp only [List.length_cons]; omega)]
      obtain ⟨j, rfl⟩ : ∃ j, k = o + (j + 1) := ⟨k - o - 1, by omega⟩
      rw [show o + (j + 1) - (o + 1) = j from by omega, show o + (j + 1) - o = j + 1 from by omega]
      simp
    · rw [if_neg h1]
      by_cases h2 : k = o
      · subst h2
        rw [if_pos (by simp only [List.length_cons]; omega)]
        simp [Array.getElem?_setIfInBounds]; omega
      · rw [if_neg (by simp only [List.length_cons]; omega), Array.getElem?_setIfInBounds_ne (by omega)]

theorem setCell_eq {w : World} {b o : Nat} {vals : Array Value} {ty : TypeId} {fr : Nat × Nat} (h : w.heap[b]? = some (.cells vals ty fr)) (v : Value) :
    w.setCell ⟨b, o, none⟩ v = wset w b (.cells (vals.setIfInBounds o v) ty fr) := by
  simp only [World.setCell, wset]
  congr 1
  have hb : b < w.heap.size := by rw [Array.getElem?_eq_some_iff] at h; exact h.1
  apply Array.ext_getElem?
  intro i
  by_cases e : i = b
  · subst e
    rw [Array.getElem?_modify, if_pos rfl, h]
    simp [hb]
  · rw [Array.getElem?_modify, if_neg (by omega), Array.getElem?_setIfInBounds_ne (by omega)]

theorem wset_wset (w : World) (b : Nat) (x y : Obj) : wset (wset w b x) b y = wset w b y := by
  simp [wset]

/-- Stores, one behind the other. -/
theorem storeCells_run (P : Program) : ∀ (vs : List Value) (w : World) (b o i : Nat) (vals : Array Value) (ty : TypeId) (fr : Nat × Nat),
    w.heap[b]? = some (.cells vals ty fr) → o + i + vs.length ≤ vals.size → Bare vals.size fr → (∀ v ∈ vs, cellVal v = true) →
    (storeCells ⟨b, o, none⟩ vs i).run P w = .ok () (wset w b (.cells (putsV vals (o + i) vs) ty fr))
  | [], w, b, o, i, vals, ty, fr, h, _, _, _ => by
    have hb : b < w.heap.size := by rw [Array.getElem?_eq_some_iff] at h; exact h.1
    have : wset w b (.cells vals ty fr) = w := by
      simp only [wset]
      have h2 : w.heap.setIfInBounds b (.cells vals ty fr) = w.heap := by
        apply Array.ext_getElem?
        intro k
        by_cases e : k = b
        · subst e; rw [h]; simp [hb]
        · rw [Array.getElem?_setIfInBounds_ne (by omega)]
      rw [h2]
    simp [storeCells, putsV, this, Sem.run, pure]
  | v :: r, w, b, o, i, vals, ty, fr, h, hs, hbare, hv => by
    have hb : b < w.heap.size := by rw [Array.getElem?_eq_some_iff] at h; exact h.1
    simp only [List.length_cons] at hs
    have hadd : (⟨b, o, none⟩ : Addr).add i = ⟨b, o + i, none⟩ := by
      simp only [Addr.add]; split
      · rename_i h0; subst h0; rfl
      · rfl
    have hcell : w.cell? ⟨b, o + i, none⟩ = some (vals[o + i]'(by omega)) := by
      rw [cell_of_heap h]; simp
    have hfz : w.frozen? ⟨b, o + i, none⟩ = false := by
      have := hbare (o + i) (by omega)
      obtain ⟨lo, hi⟩ := fr
      simp only [World.frozen?, h]
      simpa using this
    have ih := storeCells_run P r (wset w b (.cells (vals.setIfInBounds (o + i) v) ty fr)) b o (i + 1) (vals.setIfInBounds (o + i) v) ty fr
      (wset_at hb _) (by simp; omega) (by simpa using hbare) (fun u hu => hv u (List.mem_cons_of_mem _ hu))
    have hvv : cellVal v = true := hv v (List.mem_cons_self ..)
    rw [wset_wset] at ih
    show Sem.run P (Sem.bind (store ((⟨b, o, none⟩ : Addr).add i) v) fun _ => storeCells ⟨b, o, none⟩ r (i + 1)) w = _
    rw [hadd]
    have hstep : ∀ (k : Unit → Sem Unit), Sem.run P (Sem.bind (store ⟨b, o + i, none⟩ v) k) w = (k ()).run P (w.setCell ⟨b, o + i, none⟩ v) := by
      intro k
      cases v <;> simp [store, Sem.bind, Sem.run, hcell, hfz, cellVal] at hvv ⊢
    rw [hstep, setCell_eq h, ih]
    rfl

theorem loadCellsFrom_run (P : Program) (b o : Nat) (w : World) (vals : Nat → Value) : ∀ (n i : Nat) (acc : Array Value),
    (∀ j, i ≤ j → j < i + n → w.cell? ⟨b, o + j, none⟩ = some (vals j)) →
    (loadCellsFrom ⟨b, o, none⟩ i n acc).run P w = .ok (acc ++ ((List.range n).map fun j => vals (i + j)).toArray) w
  | 0, i, acc, _ => by simp [loadCellsFrom, Sem.run, pure]
  | n + 1, i, acc, h => by
    have hadd : (⟨b, o, none⟩ : Addr).add i = ⟨b, o + i, none⟩ := by
      simp only [Addr.add]; split
      · rename_i h0; subst h0; rfl
      · rfl
    have ih := loadCellsFrom_run P b o w vals n (i + 1) (acc.push (vals i)) (fun j h1 h2 => h j (by omega) (by omega))
    show Sem.run P (Sem.bind (load ((⟨b, o, none⟩ : Addr).add i)) fun v => loadCellsFrom ⟨b, o, none⟩ (i + 1) n (acc.push v)) w = _
    rw [hadd]
    simp only [load, Sem.bind, Sem.run, h i (Nat.le_refl _) (by omega)]
    rw [ih]
    congr 1
    rw [List.range_succ_eq_map]
    simp only [List.map_cons, List.map_map, Nat.add_zero]
    apply Array.ext'
    simp only [Array.toList_append, Array.toList_push, List.append_assoc, List.singleton_append]
    congr 2
    apply List.map_congr_left
    intro j _
    simp only [Function.comp, Nat.succ_eq_add_one]
    congr 1; omega

theorem loadCells_run (P : Program) (b o n : Nat) (w : World) (vals : Nat → Value) (h : ∀ j, j < n → w.cell? ⟨b, o + j, none⟩ = some (vals j)) :
    (loadCells ⟨b, o, none⟩ n).run P w = .ok ((List.range n).map vals).toArray w := by
  have := loadCellsFrom_run P b o w vals n 0 #[] (fun j _ h2 => h j (by omega))
  rw [loadCells, this]
  simp

end Go.Es

namespace Go.Es

variable {m0 : Mm} {w0 : World} {O : Nat → Prop} {g : Gh} {bx : Bx} {w : World}

theorem RD.cells {m : Mm} {x : D} {v : Value} (h : RD m x v) : ∃ hl : x.cells.length = v.cells.size,
    ∀ j (hj : j < x.cells.length), x.cells[j].flat = true ∧ RD m x.cells[j] (v.cells[j]'(by omega)) := by
  have one : ∀ {x : D} {v : Value}, x.cells = [x] → v.cells = #[v] → x.flat = true → RD m x v → ∃ hl : x.cells.length = v.cells.size,
      ∀ j (hj : j < x.cells.length), x.cells[j].flat = true ∧ RD m x.cells[j] (v.cells[j]'(by omega)) := by
    intro x v hx hv hf hr
    refine ⟨by rw [hx, hv]; rfl, fun j hj => ?_⟩
    have hj0 : j = 0 := by rw [hx] at hj; simpa using hj
    subst hj0
    simp only [hx, hv, List.getElem_cons_zero]
    exact ⟨hf, by simpa using hr⟩
  cases h with
  | bool b => exact one rfl rfl rfl (.bool b)
  | int k n => exact one rfl rfl rfl (.int k n)
  | str s => exact one rfl rfl rfl (.str s)
  | sl0 a cap h => exact one rfl rfl rfl (.sl0 a cap h)
  | sl es b o cap sz u hcap hsz hm hf hr => exact one rfl rfl rfl (.sl es b o cap sz u hcap hsz hm hf hr)
  | agg cs vs hl hf hr => exact ⟨hl.symm, fun j hj => ⟨hf j hj, hr j hj⟩⟩

theorem RD.cellVal {m : Mm} {x : D} {v : Value} (h : RD m x v) (hf : x.flat = true) : cellVal v = true := by
  cases h <;> first | rfl | simp [D.flat] at hf

theorem RA.cellVal {a : A} {v : Value} (h : RA g bx a v) (hf : a.flat = true) : cellVal v = true := by
  cases h with
  | d h => exact h.cellVal hf
  | mix => simp [A.flat] at hf
  | tup => simp [A.flat] at hf
  | top => simp [A.flat] at hf
  | lref _ _ _ _ _ _ h => cases h <;> rfl
  | _ => rfl

theorem cells_one {v : Value} (h : Es.cellVal v = true) : v.cells = #[v] := by cases v <;> first | rfl | simp [Es.cellVal] at h

theorem RA.cells {a : A} {v : Value} (h : RA g bx a v) (hn : a.cells ≠ [] ∨ v.cells = #[]) : ∃ hl : a.cells.length = v.cells.size,
    ∀ j (hj : j < a.cells.length), a.cells[j].flat = true ∧ RA g bx a.cells[j] (v.cells[j]'(by omega)) := by
  have one : a.cells = [a] → a.flat = true → ∃ hl : a.cells.length = v.cells.size,
      ∀ j (hj : j < a.cells.length), a.cells[j].flat = true ∧ RA g bx a.cells[j] (v.cells[j]'(by omega)) := by
    intro ha hf
    have hv := cells_one (h.cellVal hf)
    refine ⟨by rw [ha, hv]; rfl, fun j hj => ?_⟩
    have hj0 : j = 0 := by rw [ha] at hj; simpa using hj
    subst hj0
    simp only [ha, hv, List.getElem_cons_zero]
    exact ⟨hf, by simpa using h⟩
  cases h with
  | @d x v hd =>
    obtain ⟨hl, hc⟩ := hd.cells
    refine ⟨by simp only [A.cells, List.length_map]; exact hl, fun j hj => ?_⟩
    simp only [A.cells, List.length_map] at hj
    obtain ⟨h1, h2⟩ := hc j hj
    simp only [A.cells, List.getElem_map]
    exact ⟨h1, .d h2⟩
  | mix cs vs hl hf hr => exact ⟨hl.symm, fun j hj => ⟨hf j hj, hr j hj⟩⟩
  | tup cs vs hl hr =>
    rcases hn with hn | hn
    · exact absurd rfl hn
    · simp [Value.cells] at hn
  | top v =>
    rcases hn with hn | hn
    · exact absurd rfl hn
    · exact ⟨by rw [hn]; rfl, fun j hj => by simp [A.cells] at hj⟩
  | _ => exact one rfl rfl

/-- Cells, one by one. -/
def RAs (g : Gh) (bx : Bx) (cs : List A) (vs : List Value) : Prop :=
  ∃ hl : cs.length = vs.length, ∀ j (hj : j < cs.length), cs[j].flat = true ∧ RA g bx cs[j] (vs[j]'(by omega))

theorem RAs.mono {g' : Gh} {bx' : Bx} (hle : Le g bx g' bx') {cs : List A} {vs : List Value} (h : RAs g bx cs vs) : RAs g' bx' cs vs :=
  ⟨h.1, fun j hj => ⟨(h.2 j hj).1, (h.2 j hj).2.mono hle⟩⟩

theorem RA.ras {a : A} {v : Value} (h : RA g bx a v) (hn : a.cells ≠ []) : RAs g bx a.cells v.cells.toList := by
  obtain ⟨hl, hc⟩ := h.cells (.inl hn)
  exact ⟨by simpa using hl, fun j hj => by simpa using hc j hj⟩

theorem RAs.vals {cs : List A} {vs : List Value} (h : RAs g bx cs vs) : ∀ v ∈ vs, Es.cellVal v = true := by
  intro v hv
  obtain ⟨j, hj, rfl⟩ := List.mem_iff_getElem.1 hv
  obtain ⟨hl, hc⟩ := h
  exact (hc j (by omega)).2.cellVal (hc j (by omega)).1

theorem allD_spec : ∀ {cs : List A} {ds : List D}, allD cs = some ds → cs = ds.map A.d
  | [], ds, h => by simp [allD] at h; subst h; rfl
  | a :: r, ds, h => by
    cases a with
    | d x =>
      simp only [allD, Option.bind_eq_some_iff] at h
      obtain ⟨l, hl, he⟩ := h
      cases he
      rw [allD_spec hl]; rfl
    | _ => simp [allD] at h

theorem RA.mkAgg {cs : List A} {vs : List Value} (h : RAs g bx cs vs) : RA g bx (Es.mkAgg cs) (.agg vs.toArray) := by
  obtain ⟨hl, hc⟩ := h
  simp only [Es.mkAgg]
  cases hd : allD cs with
  | none => exact .mix cs _ (by simpa using hl.symm) (fun j hj => (hc j hj).1) (fun j hj => by simpa using (hc j hj).2)
  | some ds =>
    have := allD_spec hd
    subst this
    simp only [List.length_map] at hl hc
    refine .d (.agg ds _ (by simpa using hl.symm) (fun j hj => ?_) (fun j hj => ?_))
    · have := (hc j (by simpa using hj)).1
      simpa [A.flat] using this
    · have := (hc j (by simpa using hj)).2
      simp only [List.getElem_map] at this
      cases this with
      | d h => simpa using h

theorem RAs.sub {cs l : List A} {vs : List Value} {off n : Nat} (h : RAs g bx cs vs) (hs : Es.sub cs off n = some l) :
    off + n ≤ vs.length ∧ RAs g bx l ((vs.drop off).take n) := by
  obtain ⟨hl, hc⟩ := h
  simp only [Es.sub] at hs
  split at hs
  · rename_i hle
    cases hs
    refine ⟨by omega, ⟨by simp [hl], fun j hj => ?_⟩⟩
    simp only [List.length_take, List.length_drop] at hj
    simp only [List.getElem_take, List.getElem_drop]
    exact hc (off + j) (by omega)
  · cases hs

theorem RAs.get {cs : List A} {vs : List Value} {i : Nat} {a : A} (h : RAs g bx cs vs) (hi : cs[i]? = some a) :
    ∃ v, vs[i]? = some v ∧ a.flat = true ∧ RA g bx a v := by
  obtain ⟨hl, hc⟩ := h
  rw [List.getElem?_eq_some_iff] at hi
  obtain ⟨hi, rfl⟩ := hi
  exact ⟨vs[i]'(by omega), by simp, (hc i hi).1, (hc i hi).2⟩

theorem RAs.put {cs l xs : List A} {vs us : List Value} {off : Nat} (h : RAs g bx cs vs) (hx : RAs g bx xs us) (hp : Es.put cs off xs = some l) :
    off + us.length ≤ vs.length ∧ RAs g bx l (vs.take off ++ us ++ vs.drop (off + us.length)) := by
  obtain ⟨hl, hc⟩ := h
  obtain ⟨hxl, hxc⟩ := hx
  simp only [Es.put] at hp
  split at hp
  · rename_i hle
    cases hp
    refine ⟨by omega, ⟨by simp [hl, hxl], fun j hj => ?_⟩⟩
    simp only [List.append_assoc, List.getElem_append, List.length_take, List.length_append, List.length_drop] at hj ⊢
    by_cases h1 : j < min off cs.length
    · have h1' : j < min off vs.length := by omega
      simp only [dif_pos h1, dif_pos h1', List.getElem_take]
      exact hc j (by omega)
    · have h1' : ¬ j < min off vs.length := by omega
      simp only [dif_neg h1, dif_neg h1']
      by_cases h2 : j - min off cs.length < xs.length
      · have h2' : j - min off vs.length < us.length := by omega
        simp only [dif_pos h2, dif_pos h2']
        have : j - min off cs.length = j - min off vs.length := by rw [hl]
        have e := hxc (j - min off cs.length) h2
        simpa only [hl] using e
      · have h2' : ¬ j - min off vs.length < us.length := by omega
        simp only [dif_neg h2, dif_neg h2', List.getElem_drop]
        have e := hc (off + xs.length + (j - min off cs.length - xs.length)) (by omega)
        simpa only [hl, hxl] using e
  · cases hp

/-! ### types -/
theorem run_under {P : Program} {t : TypeId} {d : TypeDesc} (h : P.underlying t = some d) (w : World) : (underlying t).run P w = .ok d w := by
  simp [underlying, h]
theorem run_info {P : Program} {t : TypeId} {i : TypeInfo} (h : P.info? t = some i) (w : World) : (typeInfo t).run P w = .ok i w := by
  simp [typeInfo, h]
theorem run_size {P : Program} {t : TypeId} {i : TypeInfo} (h : P.info? t = some i) (w : World) : (sizeOf t).run P w = .ok i.size w := by
  simp [sizeOf, run_info h]
theorem run_zero {P : Program} {t : TypeId} {i : TypeInfo} {z : Value} (h : P.info? t = some i) (hz : i.zero = some z) (w : World) : (zeroValue t).run P w = .ok z w := by
  simp [zeroValue, run_info h, hz]

def isAggD : TypeDesc → Bool
  | .struct _ | .array _ _ => true
  | _ => false
theorem run_agg {P : Program} {t : TypeId} {d : TypeDesc} (h : P.underlying t = some d) (w : World) : (isAgg t).run P w = .ok (isAggD d) w := by
  simp only [isAgg, Sem.run_bind, run_under h, Result.andThen_ok]
  cases d <;> rfl

end Go.Es

namespace Go.Es

variable {m0 : Mm} {w0 : World} {O : Nat → Prop} {g : Gh} {bx : Bx} {w : World}

/-! ### freezing -/
theorem snapRef_spec (h : Inv m0 w0 O g bx w) {av : List Id} {id : Id} {ver off len sz : Nat} {x : D} {bx' : Bx} {v : Value}
    (hv : RA g bx (.ref id ver off len sz) v) (hs : snapRef av bx id ver off len = some (x, bx')) :
    ∃ g', Inv m0 w0 O g' bx' w ∧ Le g bx g' bx' ∧ RD g'.m x v ∧ Fz av g bx g' bx' := by
  simp only [snapRef] at hs
  split at hs
  · rename_i hok
    split at hs
    · rename_i es ver' fz hb
      split at hs
      · rename_i hver
        subst hver
        rw [Option.bind_eq_some_iff] at hs
        obtain ⟨l, hl, he⟩ := hs
        cases he
        simp only [Es.sub] at hl
        split at hl
        · rename_i hle
          cases hl
          obtain ⟨g', hi, hg, hfz, hu⟩ := h.freeze hb hok
          refine ⟨g', hi, hg, ?_, hfz⟩
          cases hv with
          | ref _ _ _ _ _ a cap es' fz' p hb' hp hpsz hlen hcap ha hn =>
            rw [hb] at hb'; cases hb'
            obtain ⟨u, hu⟩ := hu p hp
            by_cases h0 : len = 0
            · subst h0
              simp only [List.take_zero]
              exact .sl0 _ _ (fun h => by cases h)
            · have hlen' : ((es.drop off).take len).length = len := by simp; omega
              have ha' : a = p.base + off * p.sz := by rcases ha with h1 | h1; omega; exact h1
              subst ha'
              have := RD.sl (m := g'.m) ((es.drop off).take len) p.b (p.base + off * p.sz) cap p.sz (fun i j => u (off + i) j) (by omega)
                (fun i hi => by
                  simp only [List.getElem_take, List.getElem_drop]
                  have hi' : off + i < es.length := by omega
                  rcases Nat.eq_zero_or_pos es[off + i].cells.length with hz | hz
                  · cases h.sim.box id _ hb with
                    | arr _ _ _ q _ _ _ hq _ _ _ _ hsz => rw [hp] at hq; cases hq; exact hsz _ hi'
                    | nil _ _ hq => rw [hp] at hq; cases hq
                  · exact (hu (off + i) 0 hi' hz).1)
                (fun i j hi hj => by
                  rw [hlen'] at hi
                  have hi' : off + i < es.length := by omega
                  have hsz : es[off + i].cells.length = p.sz := by
                    cases h.sim.box id _ hb with
                    | arr _ _ _ q _ _ _ hq _ _ _ _ hsz => rw [hp] at hq; cases hq; exact hsz _ hi'
                    | nil _ _ hq => rw [hp] at hq; cases hq
                  have := (hu (off + i) j hi' (by omega)).2.1
                  rw [Nat.add_mul] at this
                  rw [show p.base + off * p.sz + i * p.sz + j = p.base + (off * p.sz + i * p.sz) + j from by omega]
                  exact this)
                (fun i j hi hj => by
                  simp only [List.getElem_take, List.getElem_drop] at hj ⊢
                  exact (hu (off + i) j (by omega) hj).2.2.1)
                (fun i j hi hj => by
                  simp only [List.getElem_take, List.getElem_drop] at hj ⊢
                  exact (hu (off + i) j (by omega) hj).2.2.2)
              rw [hlen'] at this
              exact this
          | refNil _ _ _ fz' hb' hp =>
            simp only [List.take_zero]
            exact .sl0 _ _ (fun _ => rfl)
          | refOld _ _ _ _ _ _ _ y hb' hlt =>
            rw [hb] at hb'; cases hb'
            simp only [Box.ver_arr] at hlt; omega
        · cases hl
      · cases hs
    · cases hs
  · cases hs

theorem snap1_spec (h : Inv m0 w0 O g bx w) {av : List Id} {a : A} {x : D} {bx' : Bx} {v : Value} (hv : RA g bx a v) (hs : snap1 av bx a = some (x, bx')) :
    ∃ g', Inv m0 w0 O g' bx' w ∧ Le g bx g' bx' ∧ RD g'.m x v ∧ Fz av g bx g' bx' := by
  cases a with
  | d y =>
    simp only [snap1] at hs; cases hs
    cases hv with
    | d hr => exact ⟨g, h, Le.refl _ _, hr, Fz.refl _ _ _⟩
  | nils =>
    simp only [snap1] at hs; cases hs
    cases hv with
    | nils => exact ⟨g, h, Le.refl _ _, .sl0 none 0 (fun _ => rfl), Fz.refl _ _ _⟩
  | empt =>
    simp only [snap1] at hs; cases hs
    cases hv with
    | empt a cap => exact ⟨g, h, Le.refl _ _, .sl0 (some a) cap (fun h => by cases h), Fz.refl _ _ _⟩
  | ref id ver off len sz => exact snapRef_spec h hv hs
  | _ => simp [snap1] at hs

theorem snaps_spec {av : List Id} : ∀ {cs : List A} {vs : List Value} {l : List D} {g : Gh} {bx bx' : Bx} (h : Inv m0 w0 O g bx w)
    (hl : cs.length = vs.length) (hv : ∀ j (hj : j < cs.length), RA g bx cs[j] (vs[j]'(by omega))) (hs : snaps av bx cs = some (l, bx')),
    ∃ g', Inv m0 w0 O g' bx' w ∧ Le g bx g' bx' ∧ Fz av g bx g' bx' ∧ ∃ hl' : l.length = vs.length, ∀ j (hj : j < l.length), RD g'.m l[j] (vs[j]'(by omega))
  | [], vs, l, g, bx, bx', h, hl, hv, hs => by
    simp only [snaps] at hs; cases hs
    exact ⟨g, h, Le.refl _ _, Fz.refl _ _ _, by simpa using hl, fun j hj => by simp at hj⟩
  | a :: r, [], l, g, bx, bx', h, hl, hv, hs => by simp at hl
  | a :: r, v :: vs, l, g, bx, bx', h, hl, hv, hs => by
    simp only [snaps, Option.bind_eq_some_iff] at hs
    obtain ⟨⟨x, b1⟩, h1, ⟨l2, b2⟩, h2, he⟩ := hs
    cases he
    obtain ⟨g1, i1, le1, r1, f1⟩ := snap1_spec h (hv 0 (by simp)) h1
    obtain ⟨g2, i2, le2, f2, hl2, r2⟩ := snaps_spec (vs := vs) i1 (by simpa using hl) (fun j hj => (hv (j + 1) (by simp; omega)).mono le1) h2
    refine ⟨g2, i2, le1.trans le2, f1.trans f2, by simpa using hl2, fun j hj => ?_⟩
    cases j with
    | zero => exact r1.mono le2.m
    | succ j => exact r2 j (by simpa using hj)

theorem snap1_flat {av : List Id} {bx bx' : Bx} {a : A} {x : D} (hf : a.flat = true) (h : snap1 av bx a = some (x, bx')) : x.flat = true := by
  cases a with
  | d y => simp only [snap1] at h; cases h; exact hf
  | nils => simp only [snap1] at h; cases h; rfl
  | empt => simp only [snap1] at h; cases h; rfl
  | ref id ver off len sz =>
    simp only [snap1, snapRef] at h
    split at h
    · split at h
      · split at h
        · rw [Option.bind_eq_some_iff] at h
          obtain ⟨l, _, he⟩ := h
          cases he; rfl
        · cases h
      · cases h
    · cases h
  | _ => simp [snap1] at h

theorem snaps_flat {av : List Id} : ∀ {cs : List A} {l : List D} {bx bx' : Bx}, (∀ j (hj : j < cs.length), cs[j].flat = true) → snaps av bx cs = some (l, bx') →
    ∀ j (hj : j < l.length), l[j].flat = true
  | [], l, bx, bx', hf, h => by simp only [snaps] at h; cases h; intro j hj; simp at hj
  | a :: r, l, bx, bx', hf, h => by
    simp only [snaps, Option.bind_eq_some_iff] at h
    obtain ⟨⟨x, b1⟩, h1, ⟨l2, b2⟩, h2, he⟩ := h
    cases he
    intro j hj
    cases j with
    | zero => exact snap1_flat (hf 0 (by simp)) h1
    | succ j => exact snaps_flat (fun k hk => hf (k + 1) (by simp; omega)) h2 j (by simpa using hj)

theorem snap_spec (h : Inv m0 w0 O g bx w) {av : List Id} {a : A} {x : D} {bx' : Bx} {v : Value} (hv : RA g bx a v) (hs : snap av bx a = some (x, bx')) :
    ∃ g', Inv m0 w0 O g' bx' w ∧ Le g bx g' bx' ∧ RD g'.m x v ∧ Fz av g bx g' bx' := by
  cases a with
  | mix cs =>
    simp only [snap, Option.bind_eq_some_iff] at hs
    obtain ⟨⟨l, b⟩, h1, he⟩ := hs
    cases he
    cases hv with
    | mix _ vs hl hf hr =>
      obtain ⟨g', i, le, hfz, hl', hrd⟩ := snaps_spec (vs := vs.toList) h (by simpa using hl.symm) (fun j hj => by simpa using hr j hj) h1
      exact ⟨g', i, le, .agg l vs (by simpa using hl'.symm) (snaps_flat hf h1) (fun j hj => by simpa using hrd j hj), hfz⟩
  | d y => exact snap1_spec (av := av) h hv hs
  | nils => exact snap1_spec (av := av) h hv hs
  | empt => exact snap1_spec (av := av) h hv hs
  | ref id ver off len sz => exact snap1_spec (av := av) h hv hs
  | _ => simp [snap, snap1] at hs

theorem snapsM_spec {av : List Id} : ∀ {cs : List A} {vs : List Value} {l : List D} {g : Gh} {bx bx' : Bx} (h : Inv m0 w0 O g bx w)
    (hl : cs.length = vs.length) (hv : ∀ j (hj : j < cs.length), RA g bx cs[j] (vs[j]'(by omega))) (hs : snapsM av bx cs = some (l, bx')),
    ∃ g', Inv m0 w0 O g' bx' w ∧ Le g bx g' bx' ∧ Fz av g bx g' bx' ∧ ∃ hl' : l.length = vs.length, ∀ j (hj : j < l.length), RD g'.m l[j] (vs[j]'(by omega))
  | [], vs, l, g, bx, bx', h, hl, hv, hs => by
    simp only [snapsM] at hs; cases hs
    exact ⟨g, h, Le.refl _ _, Fz.refl _ _ _, by simpa using hl, fun j hj => by simp at hj⟩
  | a :: r, [], l, g, bx, bx', h, hl, hv, hs => by simp at hl
  | a :: r, v :: vs, l, g, bx, bx', h, hl, hv, hs => by
    simp only [snapsM, Option.bind_eq_some_iff] at hs
    obtain ⟨⟨x, b1⟩, h1, ⟨l2, b2⟩, h2, he⟩ := hs
    cases he
    obtain ⟨g1, i1, le1, r1, f1⟩ := snap_spec h (hv 0 (by simp)) h1
    obtain ⟨g2, i2, le2, f2, hl2, r2⟩ := snapsM_spec (vs := vs) i1 (by simpa using hl) (fun j hj => (hv (j + 1) (by simp; omega)).mono le1) h2
    refine ⟨g2, i2, le1.trans le2, f1.trans f2, by simpa using hl2, fun j hj => ?_⟩
    cases j with
    | zero => exact r1.mono le2.m
    | succ j => exact r2 j (by simpa using hj)

/-! ### what an operation comes to -/
def Good (m0 : Mm) (w0 : World) (O : Nat → Prop) (g : Gh) (bx : Bx) (r : Result Next) (a : A) (bx' : Bx) : Prop :=
  ∃ v w' g', (r = .ok (.value v) w' ∨ (r = .ok .skip w' ∧ v = undef)) ∧ Inv m0 w0 O g' bx' w' ∧ Le g bx g' bx' ∧ RA g' bx' a v

theorem Good.same (h : Inv m0 w0 O g bx w) {a : A} {v : Value} (hv : RA g bx a v) {r : Result Next} (hr : r = .ok (.value v) w) : Good m0 w0 O g bx r a bx :=
  ⟨v, w, g, .inl hr, h, Le.refl _ _, hv⟩

theorem asI_spec {a : A} {k : IntKind} {n : Int} (h : asI a = some (k, n)) : a = .d (.int k n) := by
  cases a with
  | d x => cases x <;> simp [asI] at h; obtain ⟨rfl, rfl⟩ := h; rfl
  | _ => simp [asI] at h
theorem asB_spec {a : A} {b : Bool} (h : asB a = some b) : a = .d (.bool b) := by
  cases a with
  | d x => cases x <;> simp [asB] at h; subst h; rfl
  | _ => simp [asB] at h
theorem asS_spec {a : A} {s : List UInt8} (h : asS a = some s) : a = .d (.str s) := by
  cases a with
  | d x => cases x <;> simp [asS] at h; subst h; rfl
  | _ => simp [asS] at h

theorem RA.int_inv {k : IntKind} {n : Int} {v : Value} (h : RA g bx (.d (.int k n)) v) : v = .int k n := by
  cases h with | d h => cases h; rfl
theorem RA.bool_inv {b : Bool} {v : Value} (h : RA g bx (.d (.bool b)) v) : v = .bool b := by
  cases h with | d h => cases h; rfl
theorem RA.str_inv {s : List UInt8} {v : Value} (h : RA g bx (.d (.str s)) v) : v = .string ⟨s.toArray⟩ := by
  cases h with | d h => cases h; rfl

/-! ### operators -/
theorem binI_spec {P : Program} {op : BinOp} {k : IntKind} {x y : Int} {r : D} (h : binI op k x y = some r) (t : TypeId) :
    ∃ v, (binOp op t (.int k x) (.int k y)).run P w = .ok v w ∧ ∀ m, RD m r v := by
  have hb : ∀ op, op ≠ .shl → op ≠ .shr → binOp op t (.int k x) (.int k y) = match op with
      | .add | .sub | .mul => Op.intArith op k x y
      | .quo | .rem => Op.intDiv op k x y
      | .and | .or | .xor | .andNot => Op.intBits op k x y
      | _ => Op.intCmp op x y := by
    intro op h1 h2
    cases op <;> first | exact absurd rfl h1 | exact absurd rfl h2 | simp [binOp]
  cases op <;> simp only [binI] at h <;> first | (cases h; done) | rw [hb _ (by simp) (by simp)]
  case quo =>
    split at h
    · cases h
    · rename_i hy; cases h
      exact ⟨_, by simp only [Op.intDiv, if_neg hy]; rfl, fun m => .int _ _⟩
  case rem =>
    split at h
    · cases h
    · rename_i hy; cases h
      exact ⟨_, by simp only [Op.intDiv, if_neg hy]; rfl, fun m => .int _ _⟩
  all_goals cases h
  all_goals first
    | exact ⟨_, rfl, fun m => .int _ _⟩
    | exact ⟨_, rfl, fun m => .bool _⟩

theorem run_equal {P : Program} {t : TypeId} {a b : Value} {r : Bool} (h : (Op.equalIn (9999 + 1) t a b).run P w = .ok r w) : (Op.equal t a b).run P w = .ok r w := h

theorem binD_spec {P : Program} {op : BinOp} {x y r : D} {m : Mm} {a b : Value} (h : binD op x y = some r) (ha : RD m x a) (hb : RD m y b)
    (t : TypeId) : ∃ v, (binOp op t a b).run P w = .ok v w ∧ RD m r v := by
  cases x with
  | int k n =>
    cases ha
    cases y with
    | int k' n' =>
      cases hb
      by_cases hs : op = .shl
      · subst hs
        simp only [binD] at h
        split at h
        · cases h
        · rename_i hn; cases h
          exact ⟨_, by simp [binOp, Op.shift, hn]; rfl, .int _ _⟩
      · by_cases hs' : op = .shr
        · subst hs'
          simp only [binD] at h
          split at h
          · cases h
          · rename_i hn; cases h
            exact ⟨_, by simp [binOp, Op.shift, hn]; rfl, .int _ _⟩
        · have h' : (if k = k' then binI op k n n' else none) = some r := by
            cases op <;> first | exact absurd rfl hs | exact absurd rfl hs' | exact h
          split at h'
          · rename_i hk; subst hk
            obtain ⟨v, hv, hr⟩ := binI_spec (w := w) (P := P) h' t
            exact ⟨v, hv, hr m⟩
          · cases h'
    | _ => cases op <;> simp [binD] at h
  | str s =>
    cases ha
    cases y with
    | str s' =>
      cases hb
      cases op <;> simp only [binD] at h <;> first | (cases h; done) | skip
      case add =>
        split at h
        · rename_i hl; cases h
          refine ⟨.string ⟨(s ++ s').toArray⟩, ?_, .str _⟩
          have hsz : ¬ (((ByteArray.mk s.toArray).size + (ByteArray.mk s'.toArray).size : Nat) : Int) > IntKind.i64.max := by
            have e1 : (ByteArray.mk s.toArray).size = s.length := by simp [ByteArray.size]
            have e2 : (ByteArray.mk s'.toArray).size = s'.length := by simp [ByteArray.size]
            have e3 : IntKind.i64.max = 9223372036854775807 := by decide
            rw [e1, e2, e3]; omega
          simp only [binOp, Op.stringOp]
          rw [if_neg hsz]
          simp only [Sem.run_pure]
          congr 2
        · cases h
      case eql => cases h; exact ⟨_, by simp [binOp, Op.stringOp], .bool _⟩
      case neq => cases h; exact ⟨_, by simp [binOp, Op.stringOp, bne], .bool _⟩
    | _ => cases op <;> simp [binD] at h
  | _ => cases op <;> simp [binD] at h

theorem unD_spec {P : Program} {op : UnOp} {x r : D} {m : Mm} {a : Value} (h : unD op x = some r) (ha : RD m x a) : ∃ v, (Op.unary op a).run P w = .ok v w ∧ RD m r v := by
  cases x with
  | bool b =>
    cases ha
    cases op <;> simp only [unD] at h <;> cases h
    exact ⟨_, rfl, .bool _⟩
  | int k n =>
    cases ha
    cases op <;> simp only [unD] at h <;> cases h
    · exact ⟨_, rfl, .int _ _⟩
    · exact ⟨_, rfl, .int _ _⟩
  | _ => cases op <;> simp [unD] at h

end Go.Es

namespace Go.Es

variable {m0 : Mm} {w0 : World} {O : Nat → Prop} {g : Gh} {bx : Bx} {w : World} {P : Program}

/-! ### loads -/
theorem run_loadAt_cells {t : TypeId} {d : TypeDesc} {i : TypeInfo} (hu : P.underlying t = some d) (hi : P.info? t = some i) (hd : isAggD d = true)
    {b o : Nat} {us : Nat → Value} (h : ∀ j, j < i.size → w.cell? ⟨b, o + j, none⟩ = some (us j)) :
    (Instr.loadAt t (.pointer (some ⟨b, o, none⟩))).run P w = .ok (.agg ((List.range i.size).map us).toArray) w := by
  simp only [Instr.loadAt, Instr.sureAddr, pure_bind, loadVar, Sem.run_bind, run_agg hu, Result.andThen_ok, hd, if_true, run_size hi, loadCells_run P b o i.size w us h, Sem.run_pure]

theorem run_loadAt_cell {t : TypeId} {d : TypeDesc} (hu : P.underlying t = some d) (hd : isAggD d = false)
    {b o : Nat} {u : Value} (h : w.cell? ⟨b, o, none⟩ = some u) :
    (Instr.loadAt t (.pointer (some ⟨b, o, none⟩))).run P w = .ok u w := by
  simp only [Instr.loadAt, Instr.sureAddr, pure_bind, loadVar, Sem.run_bind, run_agg hu, Result.andThen_ok, hd, Bool.false_eq_true, if_false, run_load, h]

/-- what 'load' is told of a type -/
def AggOk (P : Program) (t : TypeId) (agg : Option Nat) : Prop :=
  ∃ d i, P.underlying t = some d ∧ P.info? t = some i ∧ agg = if isAggD d then some i.size else none

theorem partD_spec {m : Mm} {x y : D} {agg : Option Nat} {off b o : Nat} {u : Nat → Value} (hp : partD x agg off = some y)
    (hw : ∀ j, j < x.cells.length → w.cell? ⟨b, o + j, none⟩ = some (u j))
    (hf : ∀ j (hj : j < x.cells.length), x.cells[j].flat = true) (hr : ∀ j (hj : j < x.cells.length), RD m (x.cells[j]) (u j))
    {t : TypeId} (ha : AggOk P t agg) : ∃ v, (Instr.loadAt t (.pointer (some ⟨b, o + off, none⟩))).run P w = .ok v w ∧ RD m y v := by
  obtain ⟨d, i, hu, hi, hagg⟩ := ha
  cases agg with
  | some n =>
    simp only [partD, Option.bind_eq_some_iff] at hp
    obtain ⟨l, hl, he⟩ := hp
    cases he
    split at hagg
    · rename_i hd
      cases hagg
      simp only [Es.sub] at hl
      split at hl
      · rename_i hle
        cases hl
        refine ⟨_, run_loadAt_cells (us := fun j => u (off + j)) hu hi hd (fun j hj => by rw [Nat.add_assoc]; exact hw (off + j) (by omega)), ?_⟩
        have hlen : ((x.cells.drop off).take i.size).length = i.size := by simp; omega
        refine .agg _ _ (by simp; omega) (fun j hj => ?_) (fun j hj => ?_)
        · simp only [List.getElem_take, List.getElem_drop]; exact hf _ _
        · rw [hlen] at hj
          simp only [List.getElem_take, List.getElem_drop, List.getElem_toArray, List.getElem_map, List.getElem_range]
          exact hr _ (by omega)
      · cases hl
    · cases hagg
  | none =>
    simp only [partD] at hp
    split at hagg
    · cases hagg
    · rename_i hd
      rw [List.getElem?_eq_some_iff] at hp
      obtain ⟨hj, rfl⟩ := hp
      exact ⟨_, run_loadAt_cell hu (by simpa using hd) (hw off hj), hr off hj⟩

theorem load_spec (h : Inv m0 w0 O g bx w) {av : List Id} {agg : Option Nat} {a x : A} {v : Value} {t : TypeId} (hv : RA g bx a v) (hs : loadA av bx agg a = some x)
    (ha : AggOk P t agg) : ∃ y, (Instr.loadAt t v).run P w = .ok y w ∧ RA g bx x y := by
  cases a with
  | ptr id ver off =>
    simp only [loadA] at hs
    split at hs
    · split at hs
      · rename_i cs ver' hb
        split at hs
        · rename_i hver
          subst hver
          cases hv with
          | ptrOld _ _ _ _ y hb' hlt => rw [hb] at hb'; cases hb'; simp only [Box.ver_cells] at hlt; omega
          | ptr _ _ _ cs' p hb' hp =>
            rw [hb] at hb'; cases hb'
            cases h.sim.box id _ hb with
            | cells _ _ q vals ty fr hq hh hn hbare hf hr hm ho =>
              rw [hp] at hq; cases hq
              obtain ⟨d, i, hu, hi, hagg⟩ := ha
              have hras : RAs g bx cs vals.toList := ⟨by simpa using hn.symm, fun j hj => ⟨hf j hj, by simpa using hr j hj⟩⟩
              cases agg with
              | some n =>
                simp only [Option.bind_eq_some_iff] at hs
                obtain ⟨l, hl, he⟩ := hs
                cases he
                split at hagg
                · rename_i hd
                  cases hagg
                  obtain ⟨hle, hsub⟩ := hras.sub hl
                  refine ⟨_, run_loadAt_cells (us := fun j => vals.getD (off + j) undef) hu hi hd (fun j hj => ?_), ?_⟩
                  · have : off + j < vals.size := by simp at hle; omega
                    rw [cell_of_heap hh]; simp [this]
                  · have e : (List.range i.size).map (fun j => vals.getD (off + j) undef) = (vals.toList.drop off).take i.size := by
                      apply List.ext_getElem
                      · simp at hle ⊢; omega
                      · intro k h1 h2
                        simp at h1 hle
                        have : off + k < vals.size := by omega
                        simp [this]
                    rw [e]
                    exact RA.mkAgg hsub
                · cases hagg
              | none =>
                split at hagg
                · cases hagg
                · rename_i hd
                  obtain ⟨y, hy, _, hry⟩ := hras.get hs
                  refine ⟨y, run_loadAt_cell hu (by simpa using hd) ?_, hry⟩
                  rw [cell_of_heap hh]; simpa using hy
        · cases hs
      · cases hs
    · cases hs
  | elt x' off =>
    simp only [loadA, Option.bind_eq_some_iff] at hs
    obtain ⟨y, hy, he⟩ := hs
    cases he
    cases hv with
    | elt _ _ b o u hm hf hr =>
      obtain ⟨v, hv, hrd⟩ := partD_spec (m := g.m) (w := w) hy (fun j hj => h.sim.cons _ _ _ (hm j hj)) hf hr ha
      exact ⟨v, hv, .d hrd⟩
  | eref id ver idx off =>
    simp only [loadA] at hs
    split at hs
    · split at hs
      · rename_i es ver' fz hb
        split at hs
        · rename_i hver
          subst hver
          simp only [Option.bind_eq_some_iff] at hs
          obtain ⟨x', hx', y, hy, he⟩ := hs
          cases he
          rw [List.getElem?_eq_some_iff] at hx'
          obtain ⟨hidx, rfl⟩ := hx'
          cases hv with
          | erefOld _ _ _ _ _ _ y hb' hlt => rw [hb] at hb'; cases hb'; simp only [Box.ver_arr] at hlt; omega
          | eref _ _ _ _ es' fz' p hb' hp hi =>
            rw [hb] at hb'; cases hb'
            cases h.sim.box id _ hb with
            | nil _ _ hq => rw [hp] at hq; cases hq
            | arr _ _ _ q vals ty fr hq hh hn hbare hfit hsz hf hr hm hz ho =>
              rw [hp] at hq; cases hq
              obtain ⟨v, hv, hrd⟩ := partD_spec (P := P) (m := g.m) (w := w) (b := p.b) (o := p.base + idx * p.sz) (u := fun j => vals.getD (p.base + idx * p.sz + j) undef) hy
                (fun j hj => by
                  rw [hsz idx hidx] at hj
                  have h1 : (idx + 1) * p.sz ≤ es.length * p.sz := Nat.mul_le_mul_right _ hidx
                  rw [Nat.add_mul, Nat.one_mul] at h1
                  have : p.base + idx * p.sz + j < vals.size := by omega
                  rw [cell_of_heap hh]; simp [this])
                (fun j hj => hf idx j hidx hj) (fun j hj => hr idx j hidx hj) ha
              exact ⟨v, hv, .d hrd⟩
        · cases hs
      · cases hs
    · cases hs
  | _ => simp [loadA] at hs

/-! ### stores -/
theorem run_storeAt {t : TypeId} {i : TypeInfo} (hi : P.info? t = some i) {b o : Nat} {vals : Array Value} {ty : TypeId} {fr : Nat × Nat} {v : Value}
    (hh : w.heap[b]? = some (.cells vals ty fr)) (hn : v.cells.size = i.size) (hfit : o + i.size ≤ vals.size) (hb : Bare vals.size fr) (hv : ∀ u ∈ v.cells.toList, cellVal u = true) :
    (Instr.storeAt t (.pointer (some ⟨b, o, none⟩)) v).run P w = .ok () (wset w b (.cells (putsV vals o v.cells.toList) ty fr)) := by
  have := storeCells_run P v.cells.toList w b o 0 vals ty fr hh (by simp; omega) hb hv
  simp only [Instr.storeAt, Instr.sureAddr, pure_bind, storeVar, Sem.run_bind, run_size hi, Result.andThen_ok]
  rw [if_neg (by simpa using hn)]
  simpa using this

theorem putsV_toList (vs : List Value) (a : Array Value) (o : Nat) (h : o + vs.length ≤ a.size) :
    (putsV a o vs).toList = a.toList.take o ++ vs ++ a.toList.drop (o + vs.length) := by
  apply List.ext_getElem?
  intro k
  have hg := putsV_get vs a o k h
  rw [Array.getElem?_toList, hg]
  by_cases h1 : k < o
  · rw [if_neg (by omega), List.append_assoc, List.getElem?_append_left (by simp; omega), List.getElem?_take_of_lt h1]; simp
  · by_cases h2 : k < o + vs.length
    · rw [if_pos ⟨by omega, h2⟩, List.append_assoc, List.getElem?_append_right (by simp; omega), List.getElem?_append_left (by simp; omega)]
      simp only [List.length_take, Array.length_toList]
      rw [Nat.min_eq_left (by omega)]
    · rw [if_neg (by omega), List.getElem?_append_right (by simp; omega)]
      simp only [List.length_append, List.length_take, Array.length_toList, List.getElem?_drop, Nat.min_eq_left (show o ≤ a.size by omega)]
      rw [show o + vs.length + (k - (o + vs.length)) = k from by omega]; simp

theorem store_eref (h : Inv m0 w0 O g bx w) {va vx : Value} {t : TypeId} {i : TypeInfo} (hi : P.info? t = some i) (hpos : 0 < i.size) {id : Id} {ver idx off : Nat} {es ds : List D} {x0 y : D}
    (hva : RA g bx (.eref id ver idx off) va) (hb : bx id = some (.arr es ver false)) (hlen : ds.length = i.size) (hxl : vx.cells.toList.length = ds.length) (hxv : ∀ u ∈ vx.cells.toList, Es.cellVal u = true)
    (hds' : ∀ j (hj : j < ds.length), ds[j].flat = true ∧ RD g.m ds[j] (vx.cells.toList[j]'(by omega))) (hx0 : es[idx]? = some x0) (hy : setD x0 off ds = some y) :
    ∃ w', (Instr.storeAt t va vx).run P w = .ok () w' ∧ Inv m0 w0 O g (upd bx id (some (.arr (es.set idx y) ver false))) w' ∧ Le g bx g (upd bx id (some (.arr (es.set idx y) ver false))) := by
  rw [List.getElem?_eq_some_iff] at hx0
  obtain ⟨hidx, rfl⟩ := hx0
  cases hva with
  | erefOld _ _ _ _ _ _ y hb' hlt => rw [hb] at hb'; cases hb'; simp only [Box.ver_arr] at hlt; omega
  | eref _ _ _ _ es' fz' p hb' hp hi' =>
    rw [hb] at hb'; cases hb'
    cases h.sim.box id _ hb with
    | nil _ _ hq => rw [hp] at hq; cases hq
    | arr _ _ _ q vals ty fr hq hh hnn hbare hfit hsz hf hr hm hz ho =>
      rw [hp] at hq; cases hq
      -- the element, with its new cells
      have hcells : off + ds.length ≤ es[idx].cells.length ∧ y.cells = es[idx].cells.take off ++ ds ++ es[idx].cells.drop (off + ds.length) := by
        cases hce : es[idx] with
        | agg cs =>
          rw [hce] at hy
          simp only [setD, Option.bind_eq_some_iff] at hy
          obtain ⟨l, hl, he⟩ := hy
          cases he
          simp only [Es.put] at hl
          split at hl
          · cases hl; exact ⟨by assumption, rfl⟩
          · cases hl
        | _ =>
          rw [hce] at hy
          simp only [setD] at hy
          split at hy
          · cases hy
            have hfl := (hds' 0 (by simp)).1
            simp only [List.getElem_cons_zero] at hfl
            refine ⟨by simp [D.cells], ?_⟩
            have hyc : y.cells = [y] := by cases y <;> first | rfl | (simp [D.flat] at hfl; done)
            rw [hyc]; simp [D.cells]
          · cases hy
      obtain ⟨hoff, hcells⟩ := hcells
      have hs1 : es[idx].cells.length = p.sz := hsz idx hidx
      have hfitI : p.base + idx * p.sz + p.sz ≤ vals.size := by
        have h1 : (idx + 1) * p.sz ≤ es.length * p.sz := Nat.mul_le_mul_right _ hidx
        rw [Nat.add_mul, Nat.one_mul] at h1
        omega
      have hvs : vx.cells.size = i.size := by simp at hxl; omega
      have hfit2 : p.base + idx * p.sz + off + vx.cells.toList.length ≤ vals.size := by omega
      refine ⟨_, run_storeAt hi hh hvs (by simp at hxl; omega) hbare hxv, ?_⟩
      have hsz2 : (putsV vals (p.base + idx * p.sz + off) vx.cells.toList).size = vals.size := putsV_size _ _ _
      have hyl : y.cells.length = p.sz := by rw [hcells]; simp; omega
      refine h.write hb (.arr es (es.set idx y) ver false false (by simp)) hp hh hsz2 (fun o v hv => by rw [hz rfl] at hv; cases hv) ?_
      intro bx' hbx' hle
      have hset : ∀ k (hk : k < (es.set idx y).length), (es.set idx y)[k] = if idx = k then y else es[k]'(by simpa using hk) := by
        intro k hk; rw [List.getElem_set]
      refine .arr _ ver false p _ ty fr hp (wset_at (h.sim.block (by rw [hb]; simp) hp).2.1 _) (by rw [hsz2, hnn]) (by rw [hsz2]; exact hbare) (by simpa using hfit)
        ?_ ?_ ?_ (by simpa using hm) hz ho
      · intro k hk
        rw [hset k hk]
        split
        · exact hyl
        · exact hsz k _
      · intro k j hk hj
        have hset' := hset k hk
        by_cases e : idx = k
        · rw [if_pos e] at hset'
          simp only [hset'] at hj ⊢
          simp only [hcells] at hj ⊢
          rw [List.getElem_append]
          split
          · rw [List.getElem_append]
            split
            · rw [List.getElem_take]; exact hf idx _ hidx _
            · exact (hds' _ _).1
          · rw [List.getElem_drop]; exact hf idx _ hidx _
        · rw [if_neg e] at hset'
          simp only [hset'] at hj ⊢
          exact hf k j _ hj
      · intro k j hk hj
        have hset' := hset k hk
        have hg := putsV_get vx.cells.toList vals (p.base + idx * p.sz + off) (p.base + k * p.sz + j) hfit2
        have hk' : k < es.length := by simpa using hk
        by_cases e : idx = k
        · subst e
          rw [if_pos rfl] at hset'
          simp only [hset'] at hj ⊢
          have hjs : j < p.sz := by rw [← hyl]; exact hj
          rw [Array.getD_eq_getD_getElem?, hg]
          simp only [hcells]
          by_cases h1 : j < off
          · rw [if_neg (by omega), List.getElem_append_left (by simp; omega), List.getElem_append_left (by simp; omega), List.getElem_take]
            have := hr idx j hidx (by omega)
            rwa [Array.getD_eq_getD_getElem?] at this
          · by_cases h2 : j < off + ds.length
            · rw [if_pos ⟨by omega, by omega⟩, List.getElem_append_left (by simp; omega), List.getElem_append_right (by simp; omega)]
              have h3 := (hds' (j - off) (by omega)).2
              simp only [List.length_take, Nat.min_eq_left (show off ≤ es[idx].cells.length by omega)]
              rw [show p.base + idx * p.sz + j - (p.base + idx * p.sz + off) = j - off from by omega]
              rw [List.getElem?_eq_getElem (by omega)]
              exact h3
            · rw [if_neg (by omega), List.getElem_append_right (by simp; omega), List.getElem_drop]
              have := hr idx j hidx (by omega)
              rw [Array.getD_eq_getD_getElem?] at this
              have e3 : off + ds.length + (j - (es[idx].cells.take off ++ ds).length) = j := by
                simp only [List.length_append, List.length_take, Nat.min_eq_left (show off ≤ es[idx].cells.length by omega)]; omega
              simp only [e3]
              exact this
        · rw [if_neg e] at hset'
          simp only [hset'] at hj ⊢
          have hjs : j < p.sz := by rw [← hsz k hk']; exact hj
          rw [Array.getD_eq_getD_getElem?, hg, if_neg]
          · have := hr k j hk' hj
            rwa [Array.getD_eq_getD_getElem?] at this
          · rintro ⟨h1, h2⟩
            rcases Nat.lt_or_gt_of_ne e with hlt | hgt
            · have h3 : (idx + 1) * p.sz ≤ k * p.sz := Nat.mul_le_mul_right _ hlt
              rw [Nat.add_mul, Nat.one_mul] at h3
              omega
            · have h3 : (k + 1) * p.sz ≤ idx * p.sz := Nat.mul_le_mul_right _ hgt
              rw [Nat.add_mul, Nat.one_mul] at h3
              omega

theorem store_spec (h : Inv m0 w0 O g bx w) {av : List Id} {al : Option (List Id)} {n : Nat} {a x : A} {va vx : Value} {bx' : Bx} {t : TypeId} {i : TypeInfo}
    (hi : P.info? t = some i) (hn : n = i.size) (hpos : 0 < n)
    (hva : RA g bx a va) (hvx : RA g bx x vx) (hs : storeA av al bx n a x = some bx') :
    ∃ w' g', (Instr.storeAt t va vx).run P w = .ok () w' ∧ Inv m0 w0 O g' bx' w' ∧ Le g bx g' bx' := by
  subst hn
  cases a with
  | ptr id ver off =>
    simp only [storeA] at hs
    split at hs
    · split at hs
      · rename_i cs ver' hb
        split at hs
        · rename_i hc
          obtain ⟨hver, hlen⟩ := hc
          subst hver
          simp only [Option.bind_eq_some_iff] at hs
          obtain ⟨l, hl, he⟩ := hs
          cases he
          cases hva with
          | ptrOld _ _ _ _ y hb' hlt => rw [hb] at hb'; cases hb'; simp only [Box.ver_cells] at hlt; omega
          | ptr _ _ _ cs' p hb' hp =>
            rw [hb] at hb'; cases hb'
            cases h.sim.box id _ hb with
            | cells _ _ q vals ty fr hq hh hnn hbare hf hr hm ho =>
              rw [hp] at hq; cases hq
              have hras : RAs g bx cs vals.toList := ⟨by simpa using hnn.symm, fun j hj => ⟨hf j hj, by simpa using hr j hj⟩⟩
              have hx := hvx.ras (by intro e; rw [e] at hlen; simp at hlen; omega)
              obtain ⟨hfit, hput⟩ := hras.put hx hl
              have hxl : vx.cells.size = i.size := by have := hx.1; simp at this; omega
              refine ⟨_, g, run_storeAt hi hh hxl (by simp at hfit; omega) hbare hx.vals, ?_⟩
              have hsz : (putsV vals off vx.cells.toList).size = vals.size := putsV_size _ _ _
              have hll : l.length = cs.length := by
                have := hput.1
                simp at this hfit; omega
              refine h.write hb (.cells cs l ver) hp hh hsz (fun o v hv => by rw [hm] at hv; cases hv) ?_
              intro bx' hbx' hle
              have hput' := hput.mono (hbx' ▸ hle)
              refine .cells l ver p _ ty fr hp (wset_at (h.sim.block (by rw [hb]; simp) hp).2.1 _) (by rw [hsz, hnn, hll]) (by rw [hsz]; exact hbare) (fun j hj => (hput.2 j hj).1) ?_ hm ho
              intro j hj
              have hj' := (hput'.2 j hj).2
              have e := putsV_toList vx.cells.toList vals off (by simp at hfit ⊢; omega)
              subst hbx'
              have : (putsV vals off vx.cells.toList)[j]'(by omega) = (putsV vals off vx.cells.toList).toList[j]'(by simp; omega) := by simp
              rw [this]
              simp only [e]
              exact hj'
        · cases hs
      · cases hs
    · cases hs
  | eref id ver idx off =>
    simp only [storeA] at hs
    split at hs
    · rw [Option.bind_eq_some_iff] at hs
      obtain ⟨⟨ds, b1⟩, hds, hs⟩ := hs
      simp only at hs
      split at hs
      · rename_i es ver' hb
        split at hs
        · rename_i hc
          obtain ⟨hver, hlen⟩ := hc
          subst hver
          simp only [Option.bind_eq_some_iff] at hs
          obtain ⟨x0, hx0, y, hy, he⟩ := hs
          cases he
          have hne : x.cells ≠ [] := by
            intro e
            rw [e] at hds
            simp only [snaps, Option.some.injEq, Prod.mk.injEq] at hds
            rw [← hds.1] at hlen; simp at hlen; omega
          have hx := hvx.ras hne
          obtain ⟨g1, h1, le1, _, hl', hrd⟩ := snaps_spec (vs := vx.cells.toList) h hx.1 (fun j hj => (hx.2 j hj).2) hds
          have hfl := snaps_flat (fun j hj => (hx.2 j hj).1) hds
          obtain ⟨w', hrun, hi', hle'⟩ := store_eref h1 hi hpos (hva.mono le1) hb hlen hl'.symm hx.vals (fun j hj => ⟨hfl j hj, hrd j hj⟩) hx0 hy
          exact ⟨w', g1, hrun, hi', le1.trans hle'⟩
        · cases hs
      · cases hs
    · cases hs
  | _ => simp [storeA] at hs

end Go.Es

namespace Go.Es

variable {m0 : Mm} {w0 : World} {O : Nat → Prop} {g : Gh} {bx : Bx} {w : World} {P : Program}

/-! ### new variables -/
theorem run_newVar (t : TypeId) (v : Value) : (newVar t v).run P w = .ok ⟨w.heap.size, 0, none⟩ (w.alloc (.cells v.cells t (0, 0))) := rfl
theorem run_newRow (t : TypeId) (c : Array Value) : (newRow t c).run P w = .ok ⟨w.heap.size, 0, none⟩ (w.alloc (.cells c t (0, 0))) := rfl

/-- A zero value, as the interpreter is told it. -/
def ZeroOk (P : Program) (t : TypeId) (z : List A) : Prop :=
  ∃ i v, P.info? t = some i ∧ i.zero = some v ∧ ∀ g bx, RAs g bx z v.cells.toList

theorem alloc_good (h : Inv m0 w0 O g bx w) {t : TypeId} {z : List A} (hz : ZeroOk P t z) (id : Id) :
    ∃ v w' g', (Instr.alloc t true (.tuple #[])).run P w = .ok v w' ∧ Inv m0 w0 O g' (upd bx id (some (.cells z (nextVer bx id)))) w' ∧
      Le g bx g' (upd bx id (some (.cells z (nextVer bx id)))) ∧ RA g' (upd bx id (some (.cells z (nextVer bx id)))) (.ptr id (nextVer bx id) 0) v := by
  obtain ⟨i, v, hi, hv, hr⟩ := hz
  obtain ⟨hl, hc⟩ := hr g bx
  obtain ⟨g', h1, h2, h3⟩ := h.newCells id z v.cells t (by simpa using hl.symm) (fun j hj => (hc j hj).1) (fun j hj => by simpa using (hc j hj).2)
  refine ⟨_, _, g', ?_, h1, h2, h3⟩
  simp only [Instr.alloc, Sem.run_bind, run_zero hi hv, Result.andThen_ok, run_newVar, Sem.run_pure]

theorem box_good (h : Inv m0 w0 O g bx w) {t : TypeId} {a : A} {v : Value} (hv : RA g bx a v) (hn : a.cells ≠ []) (id : Id) :
    ∃ u w' g', (Instr.box t v).run P w = .ok u w' ∧ Inv m0 w0 O g' (upd bx id (some (.cells a.cells (nextVer bx id)))) w' ∧
      Le g bx g' (upd bx id (some (.cells a.cells (nextVer bx id)))) ∧ RA g' (upd bx id (some (.cells a.cells (nextVer bx id)))) (.ptr id (nextVer bx id) 0) u := by
  obtain ⟨hl, hc⟩ := hv.cells (.inl hn)
  obtain ⟨g', h1, h2, h3⟩ := h.newCells id a.cells v.cells t hl.symm (fun j hj => (hc j hj).1) (fun j hj => (hc j hj).2)
  refine ⟨_, _, g', ?_, h1, h2, h3⟩
  simp only [Instr.box, Sem.run_bind, run_newVar, Result.andThen_ok, Sem.run_pure]

/-! ### values, one by one -/
inductive RAl (g : Gh) (bx : Bx) : List A → List Value → Prop where
  | nil : RAl g bx [] []
  | cons {a : A} {v : Value} {r : List A} {s : List Value} (h : RA g bx a v) (t : RAl g bx r s) : RAl g bx (a :: r) (v :: s)

theorem RAl.length {xs : List A} {vs : List Value} (h : RAl g bx xs vs) : xs.length = vs.length := by
  induction h with
  | nil => rfl
  | cons _ _ ih => simp [ih]
theorem RAl.get {xs : List A} {vs : List Value} (h : RAl g bx xs vs) : ∀ j (hj : j < xs.length), RA g bx xs[j] (vs[j]'(by rw [← h.length]; exact hj)) := by
  induction h with
  | nil => intro j hj; simp at hj
  | cons h _ ih =>
    intro j hj
    cases j with
    | zero => exact h
    | succ j => exact ih j (by simpa using hj)
theorem RAl.mono {g' : Gh} {bx' : Bx} (hle : Le g bx g' bx') {xs : List A} {vs : List Value} (h : RAl g bx xs vs) : RAl g' bx' xs vs := by
  induction h with
  | nil => exact .nil
  | cons h _ ih => exact .cons (h.mono hle) ih

/-! ### structs and arrays built -/
theorem foldl_put : ∀ (vs : List Value) (cells : Array Value) (off j : Nat),
    (vs.zipIdx j).foldl (fun cs (p : Value × Nat) => cs.setIfInBounds (off + p.2) p.1) cells = putsV cells (off + j) vs
  | [], _, _, _ => rfl
  | v :: r, cells, off, j => by
    simp only [List.zipIdx_cons, List.foldl_cons, putsV]
    exact foldl_put r _ off (j + 1)

theorem fill_step (place : Nat → Option (Nat × Nat)) (cells : Array Value) (i off size : Nat) (v : Value) (rest : List (Nat × Value)) (hp : place i = some (off, size))
    (hv : v.cells.size = size) (hfit : off + size ≤ cells.size) :
    Instr.fill place cells ((i, v) :: rest) = Instr.fill place (putsV cells off v.cells.toList) rest := by
  simp only [Instr.fill, hp]
  rw [if_neg (by simp [hv]; omega)]
  congr 1
  rw [← Array.foldl_toList, Array.toList_zipIdx]
  simpa using foldl_put v.cells.toList cells off 0

theorem fillA_spec {place : Nat → Option (Nat × Nat)} : ∀ {ps : List (Nat × Nat)} {idx : List Nat} {xs : List A} {vs : List Value} {cs l : List A} {cells : Array Value},
    idx.length = ps.length → (∀ k (hk : k < ps.length) (hk' : k < idx.length), place idx[k] = some ps[k]) → RAl g bx xs vs → fillA ps xs cs = some l → RAs g bx cs cells.toList →
    ∃ cells', Instr.fill place cells (idx.zip vs) = some cells' ∧ RAs g bx l cells'.toList
  | [], [], xs, vs, cs, l, cells, hl, hp, hx, hf, hc => by
    cases hx with
    | nil => simp only [fillA] at hf; cases hf; exact ⟨cells, rfl, hc⟩
    | cons h t => simp [fillA] at hf
  | [], i :: idx, xs, vs, cs, l, cells, hl, _, _, _, _ => by simp at hl
  | p :: ps, [], xs, vs, cs, l, cells, hl, _, _, _, _ => by simp at hl
  | (off, n) :: ps, i :: idx, xs, vs, cs, l, cells, hl, hp, hx, hf, hc => by
    cases hx with
    | nil => simp [fillA] at hf
    | @cons a v r s h t =>
      simp only [fillA] at hf
      split at hf
      · rename_i hn
        rw [Option.bind_eq_some_iff] at hf
        obtain ⟨l1, h1, h2⟩ := hf
        have hne : a.cells ≠ [] := by intro e; rw [e] at hn; simp at hn; omega
        have hras := h.ras hne
        have hvs : v.cells.size = n := by have := hras.1; simp at this; omega
        obtain ⟨hfit, hput⟩ := hc.put hras h1
        simp at hfit
        have e := putsV_toList v.cells.toList cells off (by simpa using hfit)
        rw [← e] at hput
        obtain ⟨c', hc1, hc2⟩ := fillA_spec (ps := ps) (idx := idx) (place := place) (by simpa using hl) (fun k hk hk' => hp (k + 1) (by simp; omega) (by simp; omega)) t h2 hput
        refine ⟨c', ?_, hc2⟩
        rw [List.zip_cons_cons, fill_step place cells i off n v _ (hp 0 (by simp) (by simp)) hvs (by omega)]
        exact hc1
      · cases hf

theorem run_mapM_list {α β : Type} {f : α → Sem β} {h : α → β} : ∀ (l : List α), (∀ a ∈ l, (f a).run P w = .ok (h a) w) → (l.mapM f).run P w = .ok (l.map h) w
  | [], _ => by simp
  | a :: r, hf => by
    simp only [List.mapM_cons, Sem.run_bind, hf a (List.mem_cons_self ..), Result.andThen_ok, run_mapM_list r (fun b hb => hf b (List.mem_cons_of_mem _ hb)), Sem.run_pure, List.map_cons]

theorem run_mapM_array {α β : Type} {f : α → Sem β} {h : α → β} (l : Array α) (hf : ∀ a ∈ l, (f a).run P w = .ok (h a) w) : (l.mapM f).run P w = .ok (l.map h) w := by
  obtain ⟨l⟩ := l
  rw [List.mapM_toArray]
  simp only [Sem.run_map, run_mapM_list l (fun a ha => hf a (by simpa using ha)), Result.andThen_ok]
  simp

/-- The fields of a struct, or the elements of an array, as the interpreter is told them. -/
inductive PartsOk (P : Program) (t : TypeId) : List Nat → List (Nat × Nat) → Prop where
  | struct (fs : Array Field) (sz : Field → Nat) (idx : List Nat) (ps : List (Nat × Nat)) (hu : P.underlying t = some (.struct fs))
      (hs : ∀ f ∈ fs, ∃ i, P.info? f.type = some i ∧ i.size = sz f) (hl : idx.length = ps.length)
      (hp : ∀ k (hk : k < ps.length) (hk' : k < idx.length), (fs[idx[k]]?).map (fun f => (f.offset, sz f)) = some ps[k]) : PartsOk P t idx ps
  | array (n e : Nat) (i : TypeInfo) (idx : List Nat) (ps : List (Nat × Nat)) (hu : P.underlying t = some (.array n e)) (hi : P.info? e = some i) (hl : idx.length = ps.length)
      (hp : ∀ k (hk : k < ps.length) (hk' : k < idx.length), ps[k] = (idx[k] * i.size, i.size)) : PartsOk P t idx ps

theorem build_good {t : TypeId} {z : List A} (hz : ZeroOk P t z) {idx : List Nat} {ps : List (Nat × Nat)} (hp : PartsOk P t idx ps) {xs : List A} {vs : List Value} {l : List A}
    (hx : RAl g bx xs vs) (hf : fillA ps xs z = some l) : ∃ v, (Instr.build t (idx.zip vs).toArray).run P w = .ok v w ∧ RA g bx (mkAgg l) v := by
  obtain ⟨i, v, hi, hv, hr⟩ := hz
  cases hp with
  | struct fs sz idx ps hu hs hl hp =>
    have hm : (fs.mapM fun (f : Field) => do pure (f.offset, ← sizeOf f.type)).run P w = .ok (fs.map fun (f : Field) => (f.offset, sz f)) w :=
      run_mapM_array fs fun f hf => by
        obtain ⟨j, hj, hsz⟩ := hs f hf
        simp only [Sem.run_bind, run_size hj, Result.andThen_ok, Sem.run_pure, hsz]
    obtain ⟨c', h1, h2⟩ := fillA_spec (place := fun k => (fs.map fun (f : Field) => (f.offset, sz f))[k]?) hl (fun k hk hk' => by simpa using hp k hk hk') hx hf (hr g bx)
    refine ⟨.agg c', ?_, RA.mkAgg h2⟩
    simp only [Instr.build, Sem.run_bind, run_zero hi hv, Result.andThen_ok, run_under hu, hm]
    simp only [h1, Sem.run_pure]
  | array n e j idx ps hu hj hl hp =>
    obtain ⟨c', h1, h2⟩ := fillA_spec (place := fun k => some (k * j.size, j.size)) hl (fun k hk hk' => by rw [hp k hk hk']) hx hf (hr g bx)
    refine ⟨.agg c', ?_, RA.mkAgg h2⟩
    simp only [Instr.build, Sem.run_bind, run_zero hi hv, Result.andThen_ok, run_under hu, run_size hj]
    simp only [h1, Sem.run_pure]

/-! ### rows of elements -/
/-- An element's zero value, as the interpreter is told it. -/
def ElemOk (P : Program) (e : TypeId) (z : D) : Prop :=
  ∃ i v, P.info? e = some i ∧ i.zero = some v ∧ i.size = v.cells.size ∧ z.cells.length = i.size ∧ 0 < i.size ∧ ∀ m, RD m z v

theorem zero_lies {m : Mm} {z : D} {v : Value} (hr : RD m z v) (hpos : 0 < v.cells.size) (n k : Nat) (hk : n * v.cells.size ≤ k) :
    Lies m (List.replicate n z) v.cells.size 0 ((Array.range k).map (v.cells[· % v.cells.size]!)) := by
  obtain ⟨hl, hc⟩ := hr.cells
  refine ⟨by simpa using hk, fun i hi => by simpa using hl, fun i j hi hj => ?_, fun i j hi hj => ?_⟩
  · simp only [List.getElem_replicate] at hj ⊢
    exact (hc j hj).1
  · simp only [List.getElem_replicate, List.length_replicate] at hi hj ⊢
    have hj' : j < v.cells.size := by omega
    have h1 : i * v.cells.size + j < n * v.cells.size := by
      have : (i + 1) * v.cells.size ≤ n * v.cells.size := Nat.mul_le_mul_right _ hi
      rw [Nat.add_mul, Nat.one_mul] at this; omega
    have h2 : i * v.cells.size + j < k := by omega
    have e : ((Array.range k).map (v.cells[· % v.cells.size]!)).getD (0 + i * v.cells.size + j) undef = v.cells[j] := by
      rw [Nat.zero_add, Array.getD_eq_getD_getElem?]
      have hsz : i * v.cells.size + j < ((Array.range k).map (v.cells[· % v.cells.size]!)).size := by simpa using h2
      rw [Array.getElem?_eq_getElem hsz]
      simp only [Option.getD_some, Array.getElem_map, Array.getElem_range]
      rw [Nat.mul_comm i, Nat.mul_add_mod, Nat.mod_eq_of_lt hj']
      simp [hj']
    rw [e]
    exact (hc j hj).2

theorem Lies.set {m : Mm} {es : List D} {sz : Nat} {vals : Array Value} (h : Lies m es sz 0 vals) {x : D} {v : Value} (hx : RD m x v) (hs : x.cells.length = sz) {i : Nat} (hi : i < es.length) :
    Lies m (es.set i x) sz 0 (putsV vals (i * sz) v.cells.toList) := by
  obtain ⟨hl, hc⟩ := hx.cells
  have hvl : v.cells.toList.length = sz := by simp; omega
  have hfit : i * sz + v.cells.toList.length ≤ vals.size := by
    have h1 := h.fit
    have : (i + 1) * sz ≤ es.length * sz := Nat.mul_le_mul_right _ hi
    rw [Nat.add_mul, Nat.one_mul] at this; omega
  have hset : ∀ k (hk : k < (es.set i x).length), (es.set i x)[k] = if i = k then x else es[k]'(by simpa using hk) := fun k hk => by rw [List.getElem_set]
  refine ⟨by rw [putsV_size]; simpa using h.fit, fun k hk => ?_, fun k j hk hj => ?_, fun k j hk hj => ?_⟩
  · rw [hset k hk]; split
    · exact hs
    · exact h.hs k _
  · have e := hset k hk
    by_cases c : i = k
    · rw [if_pos c] at e; simp only [e] at hj ⊢; exact (hc j hj).1
    · rw [if_neg c] at e; simp only [e] at hj ⊢; exact h.fl k j _ hj
  · have e := hset k hk
    have hk' : k < es.length := by simpa using hk
    have hg := putsV_get v.cells.toList vals (i * sz) (0 + k * sz + j) hfit
    rw [Array.getD_eq_getD_getElem?, hg]
    by_cases c : i = k
    · rw [if_pos c] at e
      have hj2 : j < x.cells.length := by rw [e] at hj; exact hj
      have eg : (es.set i x)[k].cells[j] = x.cells[j]'hj2 := by simp only [e]
      rw [eg, ← c]
      rw [if_pos (by omega), show 0 + i * sz + j - i * sz = j from by omega, List.getElem?_eq_getElem (by omega)]
      simpa using (hc j hj2).2
    · rw [if_neg c] at e
      simp only [e] at hj ⊢
      have hjs : j < sz := by rw [← h.hs k hk']; exact hj
      rw [if_neg]
      · have := h.rd k j hk' hj
        rwa [Array.getD_eq_getD_getElem?] at this
      · rintro ⟨h1, h2⟩
        rcases Nat.lt_or_gt_of_ne c with hlt | hgt
        · have h3 : (i + 1) * sz ≤ k * sz := Nat.mul_le_mul_right _ hlt
          rw [Nat.add_mul, Nat.one_mul] at h3; omega
        · have h3 : (k + 1) * sz ≤ i * sz := Nat.mul_le_mul_right _ hgt
          rw [Nat.add_mul, Nat.one_mul] at h3; omega

theorem fillD_spec {m : Mm} {sz : Nat} : ∀ {at_ : List Nat} {xs : List D} {vs : List Value} {es l : List D} {cells : Array Value},
    (hl : xs.length = vs.length) → (∀ j (hj : j < xs.length), RD m xs[j] (vs[j]'(by omega))) → fillD sz at_ xs es = some l → Lies m es sz 0 cells →
    ∃ cells', Instr.fill (fun i => some (i * sz, sz)) cells (at_.zip vs) = some cells' ∧ Lies m l sz 0 cells' ∧ cells'.size = cells.size ∧ l.length = es.length
  | [], [], vs, es, l, cells, hl, hr, hf, hc => by
    simp only [fillD] at hf; cases hf
    exact ⟨cells, by simp [Instr.fill], hc, rfl, rfl⟩
  | [], x :: r, vs, es, l, cells, hl, hr, hf, hc => by simp [fillD] at hf
  | i :: ps, [], vs, es, l, cells, hl, hr, hf, hc => by simp [fillD] at hf
  | i :: ps, x :: r, [], es, l, cells, hl, hr, hf, hc => by simp at hl
  | i :: ps, x :: r, v :: vs, es, l, cells, hl, hr, hf, hc => by
    simp only [fillD] at hf
    split at hf
    · rename_i hcd
      obtain ⟨hi, hs⟩ := hcd
      have h0 := hr 0 (by simp)
      simp only [List.getElem_cons_zero] at h0
      obtain ⟨hl0, _⟩ := h0.cells
      obtain ⟨c', h1, h2, h3, h4⟩ := fillD_spec (at_ := ps) (vs := vs) (by simpa using hl) (fun j hj => hr (j + 1) (by simp; omega)) hf (hc.set h0 hs hi)
      refine ⟨c', ?_, h2, h3.trans (putsV_size _ _ _), h4.trans (by simp)⟩
      have hfit : i * sz + sz ≤ cells.size := by
        have h1 := hc.fit
        have : (i + 1) * sz ≤ es.length * sz := Nat.mul_le_mul_right _ hi
        rw [Nat.add_mul, Nat.one_mul] at this; omega
      rw [List.zip_cons_cons, fill_step _ cells i (i * sz) sz v _ rfl (by omega) hfit]
      exact h1
    · cases hf

theorem bslice_good (h : Inv m0 w0 O g bx w) {t e : TypeId} {z : D} (hu : P.underlying t = some (.slice e)) (hz : ElemOk P e z) {n : Nat} {at_ : List Nat} {xs : List A} {vs : List Value}
    (hx : RAl g bx xs vs) {av : List Id} {p : List D × Bx} (hs : snapsM av bx xs = some p) {es : List D} (hf : fillD z.cells.length at_ p.1 (List.replicate n z) = some es) (id : Id)
    (hlim : ∀ i, P.info? e = some i → n * i.size ≤ 2 ^ 24) :
    ∃ v w' g', (Instr.buildSlice t n (at_.zip vs).toArray).run P w = .ok v w' ∧ Inv m0 w0 O g' (upd p.2 id (some (.arr es (nextVer p.2 id) false))) w' ∧
      Le g bx g' (upd p.2 id (some (.arr es (nextVer p.2 id) false))) ∧
      RA g' (upd p.2 id (some (.arr es (nextVer p.2 id) false))) (.ref id (nextVer p.2 id) 0 es.length z.cells.length) v := by
  obtain ⟨i, zv, hi, hzv, hsz, hzl, hpos, hzr⟩ := hz
  obtain ⟨l, b⟩ := p
  obtain ⟨g1, i1, le1, _, hl1, r1⟩ := snapsM_spec h hx.length hx.get hs
  have hzs : z.cells.length = zv.cells.size := by omega
  rw [hzs] at hf
  have hl0 := zero_lies (m := g1.m) (hzr g1.m) (by omega) n (n * zv.cells.size) (Nat.le_refl _)
  obtain ⟨c', h1, h2, h3, h4⟩ := fillD_spec hl1 r1 hf hl0
  simp only [List.length_replicate] at h4
  obtain ⟨g2, i2, le2, ra2⟩ := i1.newArr id es false zv.cells.size n c' e (0, 0) (bare_zero _) (nextVer b id) (Nat.le_refl _) h2 (by omega) (by rw [h3]; simp)
  rw [h4] at ra2 ⊢
  rw [hzs]
  refine ⟨_, _, g2, ?_, i2, le1.trans le2, ra2⟩
  have hlen : ¬ (n * i.size > 2 ^ 24) := by have := hlim i hi; omega
  simp only [Instr.buildSlice, Sem.run_bind, run_under hu, Result.andThen_ok, run_size hi]
  rw [hsz] at hlen ⊢
  rw [if_neg hlen]
  by_cases h0 : n * zv.cells.size = 0
  · have hn0 : n = 0 := by
      rcases Nat.mul_eq_zero.1 h0 with h | h
      · exact h
      · omega
    subst hn0
    rw [h0] at h1
    simp only [h0, if_true, Sem.run_pure, Result.andThen_ok, Sem.run_bind]
    have e1 : (Array.range 0).map (fun k => (#[] : Array Value)[k % (#[] : Array Value).size]!) = (Array.range 0).map (zv.cells[· % zv.cells.size]!) := by
      simp
    rw [e1]
    simp only [h1, Sem.run_bind, run_newRow, Result.andThen_ok, Sem.run_pure]
  · simp only [h0, if_false, Sem.run_bind, run_zero hi hzv, Result.andThen_ok, Sem.run_pure, h1, run_newRow]

theorem mkslice_good (h : Inv m0 w0 O g bx w) {t e : TypeId} {z : D} {b : Nat} (hu : P.underlying t = some (.slice e)) (hz : ElemOk P e z)
    (hb : ∀ i, P.info? e = some i → i.bytes = b) {k k' : IntKind} {n : Int} (h0 : 0 ≤ n) (hlim : n * b ≤ 2 ^ 40) (hlim2 : n ≤ 2 ^ 40) (id : Id) :
    ∃ v w' g', (Instr.makeSlice t (.int k n) (.int k' n)).run P w = .ok v w' ∧ Inv m0 w0 O g' (upd bx id (some (.arr (List.replicate n.toNat z) (nextVer bx id) false))) w' ∧
      Le g bx g' (upd bx id (some (.arr (List.replicate n.toNat z) (nextVer bx id) false))) ∧
      RA g' (upd bx id (some (.arr (List.replicate n.toNat z) (nextVer bx id) false))) (.ref id (nextVer bx id) 0 n.toNat z.cells.length) v := by
  obtain ⟨i, zv, hi, hzv, hsz, hzl, hpos, hzr⟩ := hz
  have hbi := hb i hi
  have hzs : z.cells.length = zv.cells.size := by omega
  have hw : IntKind.i64.wrap n = n := by rw [IntKind.wrap_i64]; omega
  have hbn : ¬ ((b : Int) * n > 2 ^ 48) := by rw [Int.mul_comm]; omega
  have hl0 := zero_lies (m := g.m) (hzr g.m) (by omega) n.toNat (n.toNat * zv.cells.size) (Nat.le_refl _)
  obtain ⟨g2, i2, le2, ra2⟩ := h.newArr id (List.replicate n.toNat z) false zv.cells.size n.toNat _ e (0, 0) (bare_zero _) (nextVer bx id) (Nat.le_refl _) hl0 (by simp) (by simp)
  simp only [List.length_replicate] at ra2
  rw [hzs]
  refine ⟨_, _, g2, ?_, i2, le2, ra2⟩
  have hdec : (decide ((b : Int) * n > 2 ^ 48)) = false := by simpa using hbn
  have hn0 : (decide (n < 0)) = false := by simp; omega
  have hnn : (decide (n > n)) = false := by simp
  simp only [Instr.makeSlice, Sem.run_bind, run_under hu, Result.andThen_ok, asInt, asIntOf, Sem.run_pure, run_info hi, hbi, hw, hdec, hn0, hnn, Bool.or_self, Bool.false_eq_true, if_false, run_askRoom, run_size hi, hsz]
  by_cases hz0 : n.toNat * zv.cells.size = 0
  · have hn0' : n.toNat = 0 := by
      rcases Nat.mul_eq_zero.1 hz0 with h | h
      · exact h
      · omega
    rw [hz0] at i2
    simp only [hz0, if_true, Sem.run_pure, Result.andThen_ok]
    have e1 : (Array.range 0).map (fun k => (#[] : Array Value)[k % (#[] : Array Value).size]!) = (Array.range 0).map (zv.cells[· % zv.cells.size]!) := by
      simp
    simp only [pure_bind, e1, Sem.run_bind, run_newRow, Result.andThen_ok, Sem.run_pure]
  · simp only [hz0, if_false, Sem.run_bind, run_zero hi hzv, Result.andThen_ok, Sem.run_pure, run_newRow]

end Go.Es

namespace Go.Es

variable {m0 : Mm} {w0 : World} {O : Nat → Prop} {g : Gh} {bx : Bx} {w : World} {P : Program}

/-! ### rows -/
structure Row (m : Mm) (es : List D) (sz : Nat) (us : Nat → Value) : Prop where
  hs : ∀ i (h : i < es.length), es[i].cells.length = sz
  fl : ∀ i j (h : i < es.length) (hj : j < es[i].cells.length), es[i].cells[j].flat = true
  rd : ∀ i j (h : i < es.length) (hj : j < es[i].cells.length), RD m (es[i].cells[j]) (us (i * sz + j))

theorem Row.mono {m m' : Mm} (hm : m.le m') {es : List D} {sz : Nat} {us : Nat → Value} (h : Row m es sz us) : Row m' es sz us :=
  ⟨h.hs, h.fl, fun i j hi hj => (h.rd i j hi hj).mono hm⟩

theorem idx_lt {i j n sz : Nat} (hi : i < n) (hj : j < sz) : i * sz + j < n * sz := by
  have : (i + 1) * sz ≤ n * sz := Nat.mul_le_mul_right _ hi
  rw [Nat.add_mul, Nat.one_mul] at this; omega

theorem Row.congr {m : Mm} {es : List D} {sz : Nat} {us us' : Nat → Value} (h : Row m es sz us) (he : ∀ k, k < es.length * sz → us k = us' k) : Row m es sz us' :=
  ⟨h.hs, h.fl, fun i j hi hj => by rw [← he _ (idx_lt hi (by rw [← h.hs i hi]; exact hj))]; exact h.rd i j hi hj⟩

theorem Row.lies {m : Mm} {es : List D} {sz base : Nat} {vals : Array Value} (h : Row m es sz (fun k => vals.getD (base + k) undef)) (hfit : base + es.length * sz ≤ vals.size) :
    Lies m es sz base vals := ⟨hfit, h.hs, h.fl, fun i j hi hj => by rw [Nat.add_assoc]; exact h.rd i j hi hj⟩

theorem Lies.row {m : Mm} {es : List D} {sz base : Nat} {vals : Array Value} (h : Lies m es sz base vals) : Row m es sz (fun k => vals.getD (base + k) undef) :=
  ⟨h.hs, h.fl, fun i j hi hj => by have := h.rd i j hi hj; rwa [Nat.add_assoc] at this⟩

theorem Row.append {m : Mm} {es ys : List D} {sz : Nat} {us : Nat → Value} (h : Row m es sz us) (k : Row m ys sz (fun k => us (es.length * sz + k))) : Row m (es ++ ys) sz us := by
  have get : ∀ i (hi : i < (es ++ ys).length), (es ++ ys)[i] = if h : i < es.length then es[i] else ys[i - es.length]'(by simp at hi; omega) := fun i hi => by
    rw [List.getElem_append]
  refine ⟨fun i hi => ?_, fun i j hi hj => ?_, fun i j hi hj => ?_⟩
  · rw [get i hi]; split
    · exact h.hs _ _
    · exact k.hs _ _
  · have e := get i hi
    simp only [e] at hj ⊢
    split
    · rename_i c; simp only [dif_pos c] at hj; exact h.fl _ _ c hj
    · rename_i c; simp only [dif_neg c] at hj; exact k.fl _ _ _ hj
  · have e := get i hi
    by_cases c : i < es.length
    · rw [dif_pos c] at e
      simp only [e] at hj ⊢; exact h.rd i j c hj
    · rw [dif_neg c] at e
      simp only [e] at hj ⊢
      have hi' : i - es.length < ys.length := by simp at hi; omega
      have := k.rd (i - es.length) j hi' hj
      have e2 : es.length * sz + ((i - es.length) * sz + j) = i * sz + j := by
        rw [← Nat.add_assoc, ← Nat.add_mul]; congr 2; omega
      simp only [e2] at this
      exact this

theorem Row.sub {m : Mm} {es : List D} {sz : Nat} {us : Nat → Value} (h : Row m es sz us) (off n : Nat) (hn : off + n ≤ es.length) : Row m ((es.drop off).take n) sz (fun k => us (off * sz + k)) := by
  refine ⟨fun i hi => ?_, fun i j hi hj => ?_, fun i j hi hj => ?_⟩
  · simp only [List.getElem_take, List.getElem_drop]; exact h.hs _ _
  · simp only [List.getElem_take, List.getElem_drop] at hj ⊢; exact h.fl _ _ _ hj
  · simp only [List.getElem_take, List.getElem_drop] at hj ⊢
    have := h.rd (off + i) j (by simp at hi; omega) hj
    rw [Nat.add_mul, Nat.add_assoc] at this; exact this

/-- What a slice's value is, of such elements. -/
def SlAt (m : Mm) (w : World) (es : List D) (v : Value) : Prop :=
  ∃ a cap, v = .slice a es.length cap ∧ (es = [] ∨ ∃ b o sz us, a = some ⟨b, o, none⟩ ∧ Row m es sz us ∧ ∀ k, k < es.length * sz → w.cell? ⟨b, o + k, none⟩ = some (us k))

theorem RD.slAt {es : List D} {v : Value} {m : Mm} (h : RD m (.sl es) v) (hc : ∀ b o v, m b o = some v → w.cell? ⟨b, o, none⟩ = some v) : SlAt m w es v := by
  cases h with
  | sl0 a cap => exact ⟨a, cap, rfl, .inl rfl⟩
  | sl _ b o cap sz u hcap hsz hm hf hr =>
    refine ⟨_, cap, rfl, ?_⟩
    by_cases h0 : sz = 0
    · by_cases he : es = []
      · exact .inl he
      · refine .inr ⟨b, o, sz, fun _ => undef, rfl, ⟨hsz, hf, fun i j hi hj => ?_⟩, fun k hk => by subst h0; simp at hk⟩
        rw [hsz i hi] at hj; omega
    · refine .inr ⟨b, o, sz, fun k => u (k / sz) (k % sz), rfl, ⟨hsz, hf, fun i j hi hj => ?_⟩, fun k hk => ?_⟩
      · have hj' : j < sz := by rw [← hsz i hi]; exact hj
        have e1 : (i * sz + j) / sz = i := by rw [Nat.mul_comm, Nat.mul_add_div (by omega), Nat.div_eq_of_lt hj']; rfl
        have e2 : (i * sz + j) % sz = j := by rw [Nat.mul_comm, Nat.mul_add_mod, Nat.mod_eq_of_lt hj']
        simp only [e1, e2]
        exact hr i j hi hj
      · have hd : k / sz < es.length := Nat.div_lt_of_lt_mul (by rw [Nat.mul_comm]; exact hk)
        have := hc _ _ _ (hm (k / sz) (k % sz) hd (Nat.mod_lt _ (by omega)))
        rw [Nat.add_assoc, Nat.mul_comm, Nat.div_add_mod] at this
        exact this

theorem read_spec (h : Inv m0 w0 O g bx w) {av : List Id} {a : A} {v : Value} {es : List D} (hv : RA g bx a v) (hs : readSl av bx a = some es) : SlAt g.m w es v := by
  cases a with
  | d x =>
    cases x with
    | sl l =>
      simp only [readSl] at hs; cases hs
      cases hv with | d hr => exact hr.slAt h.sim.cons
    | _ => simp [readSl] at hs
  | nils =>
    simp only [readSl] at hs; cases hs
    cases hv
    exact ⟨none, 0, rfl, .inl rfl⟩
  | ref id ver off len sz =>
    simp only [readSl] at hs
    split at hs
    · split at hs
      · rename_i es' ver' fz hb
        split at hs
        · rename_i hver
          subst hver
          simp only [Es.sub] at hs
          split at hs
          · rename_i hle
            cases hs
            cases hv with
            | ref _ _ _ _ _ a cap es'' fz' p hb' hp hpsz hlen hcap ha hn =>
              rw [hb] at hb'; cases hb'
              have hll : ((es'.drop off).take len).length = len := by simp; omega
              refine ⟨some ⟨p.b, a, none⟩, cap, by rw [hll], ?_⟩
              by_cases h0 : len = 0
              · subst h0; exact .inl (by simp)
              · cases h.sim.box id _ hb with
                | nil _ _ hq => rw [hp] at hq; cases hq
                | arr _ _ _ q vals ty fr hq hh hnn hbare hfit hsz hf hr hm hz ho =>
                  rw [hp] at hq; cases hq
                  have hl : Lies g.m es' p.sz p.base vals := ⟨by omega, hsz, hf, hr⟩
                  have ha' : a = p.base + off * p.sz := by rcases ha with h1 | h1; omega; exact h1
                  refine .inr ⟨p.b, a, p.sz, _, rfl, hl.row.sub off len (by omega), fun k hk => ?_⟩
                  rw [hll] at hk
                  have h1 : (off + len) * p.sz ≤ es'.length * p.sz := Nat.mul_le_mul_right _ (by omega)
                  rw [Nat.add_mul] at h1
                  have h2 : a + k < vals.size := by omega
                  rw [cell_of_heap hh, ha', Nat.add_assoc]
                  have h3 : p.base + (off * p.sz + k) < vals.size := by omega
                  simp [h3]
            | refNil _ _ _ fz' hb' hp =>
              rw [hb] at hb'; cases hb'
              exact ⟨none, 0, by simp, .inl (by simp)⟩
            | refOld _ _ _ _ _ _ _ y hb' hlt => rw [hb] at hb'; cases hb'; simp only [Box.ver_arr] at hlt; omega
          · cases hs
        · cases hs
      · cases hs
    · cases hs
  | _ => simp [readSl] at hs

/-! ### strings and bytes -/
theorem run_firstCells_str (sz n : Nat) (s : List UInt8) : (Builtin.firstCells sz n (.string ⟨s.toArray⟩)).run P w = .ok ((s.take n).map fun b => Value.int .u8 b.toNat).toArray w := by
  simp only [Builtin.firstCells, Sem.run_pure]
  congr 1
  apply Array.ext'
  have e := Lib.extract_data (⟨s.toArray⟩ : ByteArray) 0 n
  simp only [Array.toList_map, e]
  simp

theorem bytes_row {m : Mm} (s : List UInt8) : Row m (s.map dByte) 1 (fun k => ((s.map fun b => Value.int .u8 b.toNat).toArray).getD k undef) := by
  refine ⟨fun i hi => by simp [dByte, D.cells], fun i j hi hj => ?_, fun i j hi hj => ?_⟩
  · simp only [List.getElem_map, dByte, D.cells, List.length_singleton] at hj ⊢
    obtain rfl : j = 0 := by omega
    rfl
  · simp only [List.getElem_map, dByte, D.cells, List.length_singleton] at hj ⊢
    obtain rfl : j = 0 := by omega
    have hi' : i < s.length := by simpa using hi
    simp [hi']
    exact .int _ _

theorem run_loadCells_row {b o n : Nat} {us : Nat → Value} (h : ∀ k, k < n → w.cell? ⟨b, o + k, none⟩ = some (us k)) :
    (loadCells ⟨b, o, none⟩ n).run P w = .ok ((List.range n).map us).toArray w := loadCells_run P b o n w us h

theorem freeze_alloc (w : World) (vals : Array Value) (ty : TypeId) :
    (w.alloc (.cells vals ty (0, 0))).freeze ⟨w.heap.size, vals.size, none⟩ 1 = w.alloc (.cells vals ty (vals.size, vals.size + 1)) := by
  simp only [World.freeze, World.alloc, if_neg (show ¬ (1 = 0) by omega)]
  congr 1
  apply Array.ext_getElem?
  intro i
  rw [Array.getElem?_modify]
  by_cases e : w.heap.size = i
  · subst e; simp
  · rw [if_neg e, Array.getElem?_push, Array.getElem?_push]
    rw [if_neg (by omega), if_neg (by omega)]

theorem strBytes_good (h : Inv m0 w0 O g bx w) (e : TypeId) (s : List UInt8) (id : Id) :
    ∃ v w' g', (Conv.stringToBytes e ⟨s.toArray⟩).run P w = .ok v w' ∧ Inv m0 w0 O g' (upd bx id (some (.arr (s.map dByte) (nextVer bx id) false))) w' ∧
      Le g bx g' (upd bx id (some (.arr (s.map dByte) (nextVer bx id) false))) ∧ RA g' (upd bx id (some (.arr (s.map dByte) (nextVer bx id) false))) (.ref id (nextVer bx id) 0 s.length 1) v := by
  have hsz : (⟨s.toArray⟩ : ByteArray).size = s.length := by simp [ByteArray.size]
  generalize hcap : s.length + w.tape w.drawn (.appendCap s.length 0 e) % (2 ^ 63 - s.length) = cap
  have hi := h.draw (w.drawn + 1)
  generalize hvals : (s.map fun b => Value.int .u8 b.toNat).toArray ++ Array.replicate (cap - s.length) (Value.int .u8 0) = vals
  have hvs : vals.size = cap := by rw [← hvals]; simp; omega
  have hl : Lies g.m (s.map dByte) 1 0 vals := by
    refine Row.lies ((bytes_row s).congr fun k hk => ?_) (by rw [hvs]; simp; omega)
    simp only [List.length_map, Nat.mul_one] at hk
    rw [← hvals, Nat.zero_add, Array.getD_eq_getD_getElem?, Array.getD_eq_getD_getElem?, Array.getElem?_append_left (by simpa using hk)]
  obtain ⟨g', i', le', ra'⟩ := hi.newArr id (s.map dByte) false 1 cap vals e (vals.size, vals.size + 1) (fun o ho hh => by omega) (nextVer bx id) (Nat.le_refl _) hl (by simp; omega) (by omega)
  simp only [List.length_map] at ra'
  refine ⟨_, _, g', ?_, i', le', ra'⟩
  have hmap : (⟨s.toArray⟩ : ByteArray).data.map (fun b => Value.int .u8 b.toNat) = (s.map fun b => Value.int .u8 b.toNat).toArray := by simp
  simp only [Conv.stringToBytes, hsz, Sem.run_bind, run_choose, Question.forced, Question.cut, Bool.false_eq_true, if_false, Result.andThen_ok, hcap, hmap, hvals, run_newRow, markStringish, run_shape,
    World.shape?, alloc_heap_new, run_freeze, Sem.run_pure]
  rw [← freeze_alloc]

theorem byteD_spec {x : D} {c : UInt8} (h : byteD x = some c) : ∃ n, x = .int .u8 n ∧ c = UInt8.ofNat n.toNat := by
  cases x with
  | int k n => cases k <;> simp [byteD] at h; exact ⟨n, rfl, h.symm⟩
  | _ => simp [byteD] at h

theorem run_pushBytes {f : Value → ByteArray → Sem (ForInStep ByteArray)} (hf : ∀ n s, f (.int .u8 n) s = pure (.yield (s.push (UInt8.ofNat n.toNat)))) :
    ∀ (cs : List Value) (bs : List UInt8) (acc : ByteArray), cs.length = bs.length →
    (∀ i (h : i < cs.length) (h' : i < bs.length), ∃ n, cs[i] = .int .u8 n ∧ bs[i] = UInt8.ofNat n.toNat) →
    (forIn cs acc f).run P w = .ok ⟨(acc.data.toList ++ bs).toArray⟩ w
  | [], [], acc, _, _ => by simp
  | [], b :: bs, acc, hl, _ => by simp at hl
  | c :: cs, [], acc, hl, _ => by simp at hl
  | c :: cs, b :: bs, acc, hl, h => by
    obtain ⟨n, h1, h2⟩ := h 0 (by simp) (by simp)
    simp only [List.getElem_cons_zero] at h1 h2
    subst h1 h2
    have ih := run_pushBytes hf cs bs (acc.push (UInt8.ofNat n.toNat)) (by simpa using hl) (fun i hi hi' => by
      have := h (i + 1) (by simp; omega) (by simp; omega)
      simpa only [List.getElem_cons_succ] using this)
    simp only [List.forIn_cons, hf, pure_bind]
    rw [ih]
    simp

theorem mapM_byteD : ∀ {es : List D} {s : List UInt8}, es.mapM byteD = some s → es.length = s.length ∧ ∀ i (h : i < es.length) (h' : i < s.length), byteD es[i] = some s[i]
  | [], s, h => by simp at h; subst h; exact ⟨rfl, fun i hi => by simp at hi⟩
  | x :: r, s, h => by
    simp only [List.mapM_cons] at h
    cases hx : byteD x with
    | none => simp [hx] at h
    | some c =>
      cases hr : r.mapM byteD with
      | none => simp [hx, hr] at h
      | some t =>
        simp [hx, hr] at h
        subst h
        obtain ⟨hl, ih⟩ := mapM_byteD hr
        refine ⟨by simp [hl], fun i hi hi' => ?_⟩
        cases i with
        | zero => exact hx
        | succ i => exact ih i (by simpa using hi) (by simpa using hi')

theorem bytesStr_run {es : List D} {v : Value} {m : Mm} {s : List UInt8} (hs : SlAt m w es v) (hb : es.mapM byteD = some s) :
    (Conv.bytesToString v).run P w = .ok (.string ⟨s.toArray⟩) w := by
  obtain ⟨hl, hbs⟩ := mapM_byteD hb
  obtain ⟨a, cap, rfl, h⟩ := hs
  cases a with
  | none =>
    rcases h with h | ⟨b, o, sz, us, h, _⟩
    · subst h
      obtain rfl : s = [] := by simpa using hl.symm
      simp [Conv.bytesToString]; rfl
    · cases h
  | some ad =>
    have key : ∃ us : Nat → Value, (loadCells ad es.length).run P w = .ok ((List.range es.length).map us).toArray w ∧
        ∀ i (h : i < es.length), ∃ n, us i = .int .u8 n ∧ es[i] = .int .u8 n := by
      rcases h with h | ⟨b, o, sz, us, h, hrow, hc⟩
      · subst h
        exact ⟨fun _ => undef, by simp [loadCells, loadCellsFrom], fun i hi => by simp at hi⟩
      · cases h
        have hone : ∀ i (h : i < es.length), es[i].cells = [es[i]] := fun i hi => by
          obtain ⟨n, hn, _⟩ := byteD_spec (hbs i hi (by omega))
          rw [hn]; rfl
        by_cases he : es.length = 0
        · exact ⟨us, by rw [he]; simp [loadCells, loadCellsFrom], fun i hi => by omega⟩
        · have hsz1 : sz = 1 := by have := hrow.hs 0 (by omega); rw [hone 0 (by omega)] at this; simpa using this.symm
          subst hsz1
          refine ⟨us, run_loadCells_row (fun k hk => hc k (by omega)), fun i hi => ?_⟩
          obtain ⟨n, hn, _⟩ := byteD_spec (hbs i hi (by omega))
          refine ⟨n, ?_, hn⟩
          have := hrow.rd i 0 hi (by rw [hone i hi]; simp)
          simp only [hone i hi, List.getElem_cons_zero, Nat.mul_one, Nat.add_zero] at this
          rw [hn] at this
          generalize us i = u at this
          cases this
          rfl
    obtain ⟨us, hrun, hus⟩ := key
    have hp := fun f hf => run_pushBytes (P := P) (w := w) (f := f) hf ((List.range es.length).map us) s ByteArray.empty (by simpa using hl) (fun i hi hi' => by
      simp only [List.length_map, List.length_range] at hi
      obtain ⟨n, h1, h2⟩ := hus i hi
      refine ⟨n, by simpa using h1, ?_⟩
      have := hbs i hi hi'
      rw [h2] at this
      simpa [byteD] using this.symm)
    simp only [Conv.bytesToString, Sem.run_bind, hrun, Result.andThen_ok]
    rw [← Array.forIn_toList]
    simp only [List.toList_toArray]
    rw [hp _ (fun n s => rfl)]
    simp

end Go.Es

namespace Go.Es

variable {m0 : Mm} {w0 : World} {O : Nat → Prop} {g : Gh} {bx : Bx} {w : World} {P : Program}

theorem szOk_spec {es : List D} {n sz : Nat} {us : Nat → Value} {m : Mm} (h : szOk es n = true) (hr : Row m es sz us) : es = [] ∨ sz = n := by
  cases es with
  | nil => exact .inl rfl
  | cons e r =>
    have := hr.hs 0 (by simp)
    simp only [szOk, beq_iff_eq, List.getElem_cons_zero] at h this
    exact .inr (by omega)

/-- What an operand to append or copy gives: its length, and its first cells. -/
def Gives (P : Program) (w : World) (m : Mm) (ys : List D) (n : Nat) (v : Value) : Prop :=
  (∀ w1, (Builtin.lenOf v).run P w1 = .ok ys.length w1) ∧
  ∀ k, k ≤ ys.length → ∃ new : Array Value, (∀ w1 : World, w1.heap = w.heap → (Builtin.firstCells n k v).run P w1 = .ok new w1) ∧ new.size = k * n ∧ Row m (ys.take k) n (fun j => new.getD j undef) ∧ ∀ u ∈ new.toList, cellVal u = true

theorem Row.vals {m : Mm} {es : List D} {sz : Nat} {us : Nat → Value} (h : Row m es sz us) {k : Nat} (hk : k < es.length * sz) : cellVal (us k) = true := by
  have hpos : 0 < sz := by rcases Nat.eq_zero_or_pos sz with h0 | h0; · subst h0; simp at hk
                           · exact h0
  have hd : k / sz < es.length := Nat.div_lt_of_lt_mul (by rw [Nat.mul_comm]; exact hk)
  have hm : k % sz < sz := Nat.mod_lt _ hpos
  have hj : k % sz < es[k / sz].cells.length := by rw [h.hs _ hd]; exact hm
  have := (h.rd (k / sz) (k % sz) hd hj).cellVal (h.fl _ _ hd hj)
  rwa [Nat.mul_comm, Nat.div_add_mod] at this

theorem Row.nil (m : Mm) (sz : Nat) (us : Nat → Value) : Row m [] sz us :=
  ⟨fun i hi => by simp at hi, fun i j hi hj => by simp at hi, fun i j hi hj => by simp at hi⟩

theorem SlAt.gives {m : Mm} {ys : List D} {v : Value} {n : Nat} (h : SlAt m w ys v) (hs : szOk ys n = true) : Gives P w m ys n v := by
  obtain ⟨a, cap, rfl, h⟩ := h
  refine ⟨by simp [Builtin.lenOf], fun k hk => ?_⟩
  by_cases h0 : k = 0
  · subst h0
    refine ⟨#[], fun w1 _ => ?_, by simp, Row.nil _ _ _, by simp⟩
    cases a <;> simp [Builtin.firstCells, loadCells, loadCellsFrom]
  · rcases h with h | ⟨b, o, sz, us, rfl, hrow, hc⟩
    · subst h; simp at hk; omega
    · obtain rfl : sz = n := by rcases szOk_spec hs hrow with h | h; · subst h; simp at hk; omega
                                · exact h
      have hle : k * sz ≤ ys.length * sz := Nat.mul_le_mul_right _ hk
      have hrow' : Row m (ys.take k) sz us := by simpa using hrow.sub 0 k (by omega)
      have hlen : (ys.take k).length = k := by simp; omega
      refine ⟨((List.range (k * sz)).map us).toArray, fun w1 hw => run_loadCells_row (fun j hj => by rw [← hc j (by omega)]; simp only [World.cell?, hw]), by simp, hrow'.congr fun j hj => ?_, ?_⟩
      · rw [hlen] at hj
        simp [hj]
      · intro u hu
        simp only [List.toList_toArray, List.mem_map, List.mem_range] at hu
        obtain ⟨j, hj, rfl⟩ := hu
        exact hrow'.vals (by rw [hlen]; exact hj)

theorem str_gives (m : Mm) (s : List UInt8) : Gives P w m (s.map dByte) 1 (.string ⟨s.toArray⟩) := by
  refine ⟨by simp [Builtin.lenOf, ByteArray.size], fun k hk => ⟨_, fun w1 _ => run_firstCells_str 1 k s, ?_, ?_, ?_⟩⟩
  · simp at hk ⊢; omega
  · have := bytes_row (m := m) (s.take k)
    simpa [List.map_take] using this
  · intro u hu
    simp only [List.toList_toArray, List.mem_map] at hu
    obtain ⟨b, _, rfl⟩ := hu
    rfl

theorem appended_spec (h : Inv m0 w0 O g bx w) {av : List Id} {str : Bool} {a : A} {v : Value} {p : List D × Bx} {n : Nat} (hv : RA g bx a v)
    (hs : appended av bx str a = some p) (hn : szOk p.1 n = true) (hstr : str = true → n = 1) :
    ∃ g', Inv m0 w0 O g' p.2 w ∧ Le g bx g' p.2 ∧ Gives P w g'.m p.1 n v := by
  simp only [appended] at hs
  split at hs
  · rename_i hst
    rw [Option.bind_eq_some_iff] at hs
    obtain ⟨s, h1, h2⟩ := hs
    cases h2
    have := asS_spec h1; subst this
    have := hv.str_inv; subst this
    have := hstr hst; subst this
    exact ⟨g, h, Le.refl _ _, str_gives _ _⟩
  · by_cases he : a = .empt
    · subst he
      cases hs
      obtain ⟨g', i1, le1, r1, _⟩ := snap_spec (av := av) h hv (show snap av bx .empt = some (.sl [], bx) from rfl)
      exact ⟨g', i1, le1, (r1.slAt i1.sim.cons).gives hn⟩
    · have hs' : ((readSl av bx a).bind fun l => some (l, bx)) = some p := by
        cases a <;> first | exact hs | exact absurd rfl he
      rw [Option.bind_eq_some_iff] at hs'
      obtain ⟨l, h1, h2⟩ := hs'
      cases h2
      exact ⟨g, h, Le.refl _ _, (read_spec h hv h1).gives hn⟩

theorem copied_spec (h : Inv m0 w0 O g bx w) {av : List Id} {str : Bool} {a : A} {v : Value} {ys : List D} {n : Nat} (hv : RA g bx a v)
    (hs : copied av bx str a = some ys) (hn : szOk ys n = true) (hstr : str = true → n = 1) : Gives P w g.m ys n v := by
  simp only [copied] at hs
  split at hs
  · rename_i hst
    rw [Option.bind_eq_some_iff] at hs
    obtain ⟨s, h1, h2⟩ := hs
    cases h2
    have := asS_spec h1; subst this
    have := hv.str_inv; subst this
    have := hstr hst; subst this
    exact str_gives _ _
  · exact (read_spec h hv hs).gives hn

/-! ### how much is asked for -/
theorem growBy_le (n : Nat) : ∀ (r c : Nat), c ≤ 2 * n + 192 → Builtin.growBy n r c ≤ 2 * n + 192
  | 0, c, h => h
  | r + 1, c, h => by
    simp only [Builtin.growBy]
    split
    · exact h
    · exact growBy_le n r _ (by omega)

theorem nextslicecap_le (n c : Nat) (h : c < n) : Builtin.nextslicecap n c ≤ 2 * n + 192 := by
  simp only [Builtin.nextslicecap]
  split
  · omega
  · split
    · omega
    · exact growBy_le n 4 c (by omega)

/-- What an append is told of its element's type. -/
def AppOk (P : Program) (ts tx e n bytes : Nat) : Prop :=
  P.underlying ts = some (.slice e) ∧ (P.underlying tx = some .string ∨ ∃ e', P.underlying tx = some (.slice e')) ∧
  ∃ i z, P.info? e = some i ∧ i.zero = some z ∧ i.size = n ∧ i.bytes = bytes ∧ z.cells.size = n ∧ 0 < n ∧ 0 < bytes ∧ bytes ≤ 2 ^ 30

theorem append_run_room {ts tx e n bytes : Nat} (hok : AppOk P ts tx e n bytes) (ty : TypeId) {base : Option Addr} {len cap : Nat} {ys : List D} {m : Mm} {v : Value}
    (hg : Gives P w m ys n v) (hroom : len + ys.length ≤ cap) {new : Array Value} (hnew : (Builtin.firstCells n ys.length v).run P w = .ok new w) {w' : World}
    (hst : ∀ a, base = some a → (storeCells (a.add (len * n)) new.toList).run P w = .ok () w') (hno : base = none → w' = w) :
    (Builtin.append_ #[ts, tx] ty #[.slice base len cap, v]).run P w = .ok (.slice base (len + ys.length) cap) w' := by
  obtain ⟨hu, hd, i, z, hi, hz, hsz, hb, hzs, hn, hb0, hb1⟩ := hok
  have hl := hg.1 w
  rcases hd with hd | ⟨e', hd⟩
  all_goals
    simp only [Builtin.append_]
    simp only [List.getElem?_toArray, List.getElem?_cons_zero, List.getElem?_cons_succ, Sem.run_bind, run_under hu, Result.andThen_ok, run_size hi, run_under hd, Sem.run_pure, hsz,
      Bool.false_eq_true, if_false, hl, Bool.not_false, if_true, if_pos hroom, hnew]
    cases base with
    | none => rw [hno rfl]; simp
    | some a => simp only [Sem.run_bind, hst a rfl, Result.andThen_ok, Sem.run_pure]

theorem append_run_grow {ts tx e n bytes : Nat} (hok : AppOk P ts tx e n bytes) (ty : TypeId) {base : Option Addr} {len cap : Nat} {ys : List D} {m : Mm} {v : Value}
    (hg : Gives P w m ys n v) (hroom : cap < len + ys.length) (hlim : (len + ys.length) * bytes ≤ 2 ^ 40) (hlim2 : len + ys.length ≤ 2 ^ 40) {old new : Array Value}
    (hold : ∀ w1 : World, w1.heap = w.heap → (Builtin.firstCells n len (.slice base len cap)).run P w1 = .ok old w1)
    (hnew : ∀ w1 : World, w1.heap = w.heap → (Builtin.firstCells n ys.length v).run P w1 = .ok new w1) :
    ∃ (c : Nat) (rest : Array Value), len + ys.length ≤ c ∧ rest.size = (c - (len + ys.length)) * n ∧
    (Builtin.append_ #[ts, tx] ty #[.slice base len cap, v]).run P w =
      .ok (.slice (some ⟨w.heap.size, 0, none⟩) (len + ys.length) c) (World.alloc { w with drawn := w.drawn + 1 } (.cells (old ++ new ++ rest) e (0, 0))) := by
  obtain ⟨hu, hd, i, z, hi, hz, hsz, hb, hzs, hn, hb0, hb1⟩ := hok
  have hl := hg.1
  generalize hc : (len + ys.length) + w.tape w.drawn (.appendCap (len + ys.length) cap e) % (2 ^ 63 - (len + ys.length)) = c
  refine ⟨c, Builtin.zeroCells z.cells (c - (len + ys.length)), by omega, by simp [Builtin.zeroCells, hzs], ?_⟩
  have h1 : ¬ (((len + ys.length : Nat) : Int) > IntKind.i64.max ∧ (False ∨ i.bytes = 0)) := by
    rw [hb]; rintro ⟨_, h | h⟩
    · exact h
    · omega
  have h2 : ¬ (Builtin.nextslicecap (len + ys.length) cap * i.bytes > 2 ^ 48) := by
    have := nextslicecap_le (len + ys.length) cap hroom
    rw [hb]
    have h3 : Builtin.nextslicecap (len + ys.length) cap * bytes ≤ (2 * (len + ys.length) + 192) * bytes := Nat.mul_le_mul_right _ this
    have h4 : (2 * (len + ys.length) + 192) * bytes = 2 * ((len + ys.length) * bytes) + 192 * bytes := by rw [Nat.add_mul, Nat.mul_assoc]
    omega
  have h3 : ¬ (len + ys.length ≤ cap) := by omega
  rcases hd with hd | ⟨e', hd⟩
  all_goals
    simp only [Builtin.append_]
    simp only [List.getElem?_toArray, List.getElem?_cons_zero, List.getElem?_cons_succ, Sem.run_bind, run_under hu, Result.andThen_ok, run_size hi, run_under hd, Sem.run_pure, hsz,
      Bool.false_eq_true, if_false, hl, Bool.not_false, if_true, if_neg h3, run_info hi, if_neg h1, if_neg h2, run_choose, Question.forced, Question.cut, hc, run_askRoom,
      hold { w with drawn := w.drawn + 1 } rfl, hnew { w with drawn := w.drawn + 1 } rfl, run_zero hi hz, run_newRow]

theorem wset_same {w : World} {b : Nat} {x : Obj} (h : w.heap[b]? = some x) : wset w b x = w := by
  have hb : b < w.heap.size := by rw [Array.getElem?_eq_some_iff] at h; exact h.1
  simp only [wset]
  have h2 : w.heap.setIfInBounds b x = w.heap := by
    apply Array.ext_getElem?
    intro k
    by_cases e : b = k
    · subst e; rw [h]; simp [hb]
    · rw [Array.getElem?_setIfInBounds_ne e]
  rw [h2]

/-- A new row: what was there, what is appended, and room. -/
theorem append_new (h : Inv m0 w0 O g bx w) {es ys : List D} {n e c : Nat} {old new rest : Array Value} (hold : old.size = es.length * n) (hro : Row g.m es n (fun j => old.getD j undef))
    (hnew : new.size = ys.length * n) (hrn : Row g.m ys n (fun j => new.getD j undef)) (hc : es.length + ys.length ≤ c) (hrest : rest.size = (c - (es.length + ys.length)) * n)
    (id : Id) (ver : Nat) (hver : nextVer bx id ≤ ver) (fz : Bool) :
    ∃ g', Inv m0 w0 O g' (upd bx id (some (.arr (es ++ ys) ver fz))) (World.alloc { w with drawn := w.drawn + 1 } (.cells (old ++ new ++ rest) e (0, 0))) ∧
      Le g bx g' (upd bx id (some (.arr (es ++ ys) ver fz))) ∧
      RA g' (upd bx id (some (.arr (es ++ ys) ver fz))) (.ref id ver 0 (es.length + ys.length) n) (.slice (some ⟨w.heap.size, 0, none⟩) (es.length + ys.length) c) := by
  have hi := h.draw (w.drawn + 1)
  have hvs : (old ++ new ++ rest).size = c * n := by
    simp only [Array.size_append, hold, hnew, hrest]
    rw [← Nat.add_mul, ← Nat.add_mul]; congr 1; omega
  have hrow : Row g.m (es ++ ys) n (fun j => (old ++ new ++ rest).getD j undef) := by
    refine Row.append (hro.congr fun k hk => ?_) (hrn.congr fun k hk => ?_)
    · rw [Array.getD_eq_getD_getElem?, Array.getD_eq_getD_getElem?, Array.append_assoc, Array.getElem?_append_left (by omega)]
    · rw [Array.getD_eq_getD_getElem?, Array.getD_eq_getD_getElem?, Array.append_assoc, Array.getElem?_append_right (by omega), Array.getElem?_append_left (by omega)]
      congr 2; omega
  have hl : Lies g.m (es ++ ys) n 0 (old ++ new ++ rest) := by
    refine Row.lies (hrow.congr fun k hk => by rw [Nat.zero_add]) ?_
    rw [hvs, Nat.zero_add]
    exact Nat.mul_le_mul_right _ (by simpa using hc)
  obtain ⟨g', i', le', ra'⟩ := hi.newArr id (es ++ ys) fz n c _ e (0, 0) (bare_zero _) ver hver hl (by simpa using hc) (by rw [hvs]; exact Nat.le_refl _)
  simp only [List.length_append] at ra'
  exact ⟨g', i', le', ra'⟩

/-- What an append does, told by its own elements. -/
def AppRun (P : Program) (w : World) (m : Mm) (ts tx e n bytes : Nat) (ty : TypeId) (ys : List D) (v : Value) : Prop :=
  ∃ new : Array Value, new.size = ys.length * n ∧ Row m ys n (fun j => new.getD j undef) ∧ (∀ u ∈ new.toList, cellVal u = true) ∧
    (∀ (base : Option Addr) (len cap : Nat) (w' : World), len + ys.length ≤ cap → (∀ a, base = some a → (storeCells (a.add (len * n)) new.toList).run P w = .ok () w') → (base = none → w' = w) →
      (Builtin.append_ #[ts, tx] ty #[.slice base len cap, v]).run P w = .ok (.slice base (len + ys.length) cap) w') ∧
    (∀ (base : Option Addr) (len cap : Nat) (old : Array Value), cap < len + ys.length → (len + ys.length) * bytes ≤ 2 ^ 40 → len + ys.length ≤ 2 ^ 40 →
      (∀ w1 : World, w1.heap = w.heap → (Builtin.firstCells n len (.slice base len cap)).run P w1 = .ok old w1) →
      ∃ (c : Nat) (rest : Array Value), len + ys.length ≤ c ∧ rest.size = (c - (len + ys.length)) * n ∧
      (Builtin.append_ #[ts, tx] ty #[.slice base len cap, v]).run P w =
        .ok (.slice (some ⟨w.heap.size, 0, none⟩) (len + ys.length) c) (World.alloc { w with drawn := w.drawn + 1 } (.cells (old ++ new ++ rest) e (0, 0))))

theorem AppRun.gives {ts tx e n bytes : Nat} (hok : AppOk P ts tx e n bytes) (ty : TypeId) {ys : List D} {m : Mm} {v : Value} (hg : Gives P w m ys n v) : AppRun P w m ts tx e n bytes ty ys v := by
  obtain ⟨new, hnew, hsz, hrow, hvals⟩ := hg.2 ys.length (Nat.le_refl _)
  rw [List.take_length] at hrow
  exact ⟨new, hsz, hrow, hvals, fun base len cap w' hr hst hno => append_run_room hok ty hg hr (hnew w rfl) hst hno,
    fun base len cap old hr h1 h2 hold => append_run_grow hok ty hg hr h1 h2 hold hnew⟩

/-- noughts are appended -/
theorem AppRun.zeros {ts tx e bytes : Nat} {kt : IntKind} {z : D} (hu : P.underlying ts = some (.slice e)) (hd : P.underlying tx = some (.int kt)) (hz : ElemOk P e z) (hb : ∀ i, P.info? e = some i → i.bytes = bytes) (hb0 : 0 < bytes) (hb1 : bytes ≤ 2 ^ 30)
    (ty : TypeId) {m : Mm} {k : IntKind} {c : Int} (h0 : 0 ≤ c) (h1 : c ≤ 2 ^ 40) (h2 : c * bytes ≤ 2 ^ 40) : AppRun P w m ts tx e z.cells.length bytes ty (List.replicate c.toNat z) (.int k c) := by
  obtain ⟨i, zv, hi, hz0, hsz, hzl, hpos, hrd⟩ := hz
  have hbi := hb i hi
  obtain ⟨q, rfl⟩ : ∃ q : Nat, c = q := ⟨c.toNat, by omega⟩
  rw [Int.toNat_natCast]
  have hn : z.cells.length = zv.cells.size := hzl.trans hsz
  have hw : IntKind.i64.wrap (q : Int) = q := by rw [IntKind.wrap_i64]; omega
  have hlies := zero_lies (hrd m) (by omega) q (q * zv.cells.size) (Nat.le_refl _)
  have hnew : (Builtin.zeroCells zv.cells q) = (Array.range (q * zv.cells.size)).map (zv.cells[· % zv.cells.size]!) := rfl
  have hnsz : (Builtin.zeroCells zv.cells q).size = (List.replicate q z).length * z.cells.length := by rw [hnew, hn]; simp
  have hrow : Row m (List.replicate q z) z.cells.length (fun j => (Builtin.zeroCells zv.cells q).getD j undef) := by
    rw [hnew, hn]
    have := hlies.row
    simpa only [Nat.zero_add] using this
  have e1 : ¬ ((q : Int) < 0) := by omega
  have e2 : ¬ ((q : Int) * (i.bytes : Int) > 2 ^ 48) := by rw [hbi]; omega
  have happ : ∀ w1 : World, Sem.run P (if q * i.size = 0 then (pure #[] : Sem (Array Value)) else do pure (Builtin.zeroCells (← zeroValue e).cells q)) w1 = .ok (Builtin.zeroCells zv.cells q) w1 := by
    intro w1
    by_cases hq : q = 0
    · subst hq
      rw [if_pos (by simp), Sem.run_pure]
      simp [Builtin.zeroCells]
    · rw [if_neg (by rw [hsz]; exact Nat.mul_ne_zero hq (by omega)), Sem.run_bind, run_zero hi hz0, Result.andThen_ok, Sem.run_pure]
  refine ⟨Builtin.zeroCells zv.cells q, hnsz, hrow, fun u hu' => ?_, fun base len cap w' hroom hst hno => ?_, fun base len cap old hroom hlim hlim2 hold => ?_⟩
  · obtain ⟨j, hj, rfl⟩ := List.mem_iff_getElem.1 hu'
    have hj' : j < (Builtin.zeroCells zv.cells q).size := by simpa using hj
    have := hrow.vals (k := j) (by rw [← hnsz]; exact hj')
    simpa [hj'] using this
  · have hl : (List.replicate q z).length = q := by simp
    rw [hl] at hroom ⊢
    simp only [Builtin.append_]
    simp only [List.getElem?_toArray, List.getElem?_cons_zero, List.getElem?_cons_succ, Sem.run_bind, run_under hu, Result.andThen_ok, run_size hi, run_under hd, Sem.run_pure,
      if_true, Bool.not_true, Bool.false_eq_true, if_false, asInt, asIntOf, hw, if_neg e1, run_info hi, if_neg e2, Int.toNat_natCast, if_pos hroom, happ]
    cases base with
    | none => rw [hno rfl]; simp
    | some a => 
      have := hst a rfl
      rw [hn, ← hsz] at this
      simp only [Sem.run_bind, this, Result.andThen_ok, Sem.run_pure]
  · have hl : (List.replicate q z).length = q := by simp
    rw [hl] at hroom hlim hlim2 ⊢
    generalize hc : (len + q) + w.tape w.drawn (.appendCap (len + q) cap e) % (2 ^ 63 - (len + q)) = c
    refine ⟨c, Builtin.zeroCells zv.cells (c - (len + q)), by omega, by simp [Builtin.zeroCells, hn], ?_⟩
    have h1 : ¬ (((len + q : Nat) : Int) > IntKind.i64.max ∧ (True ∨ i.bytes = 0)) := by
      rintro ⟨h, _⟩
      have : IntKind.i64.max = 9223372036854775807 := by decide
      omega
    have h2 : ¬ (Builtin.nextslicecap (len + q) cap * i.bytes > 2 ^ 48) := by
      have := nextslicecap_le (len + q) cap hroom
      rw [hbi]
      have h3 : Builtin.nextslicecap (len + q) cap * bytes ≤ (2 * (len + q) + 192) * bytes := Nat.mul_le_mul_right _ this
      have h4 : (2 * (len + q) + 192) * bytes = 2 * ((len + q) * bytes) + 192 * bytes := by rw [Nat.add_mul, Nat.mul_assoc]
      omega
    have h3 : ¬ (len + q ≤ cap) := by omega
    have hold' := hold { w with drawn := w.drawn + 1 } rfl
    rw [hn, ← hsz] at hold'
    simp only [Builtin.append_]
    simp only [List.getElem?_toArray, List.getElem?_cons_zero, List.getElem?_cons_succ, Sem.run_bind, run_under hu, Result.andThen_ok, run_size hi, run_under hd, Sem.run_pure,
      if_true, Bool.not_true, Bool.false_eq_true, if_false, asInt, asIntOf, hw, if_neg e1, run_info hi, if_neg e2, Int.toNat_natCast, if_neg h3, if_neg h1, if_neg h2, happ,
      run_choose, Question.forced, Question.cut, hc, run_askRoom, hold', run_zero hi hz0, run_newRow]

theorem append_good_nils {ts tx e n bytes : Nat} {ty : TypeId} (h : Inv m0 w0 O g bx w) {ys : List D} {v : Value} (hg : AppRun P w g.m ts tx e n bytes ty ys v)
    (hlim : ys.length * bytes ≤ 2 ^ 40) (hlim2 : ys.length ≤ 2 ^ 40) (id : Id) :
    ∃ u w' g', (Builtin.append_ #[ts, tx] ty #[.slice none 0 0, v]).run P w = .ok u w' ∧ Inv m0 w0 O g' (upd bx id (some (.arr ys (nextVer bx id) false))) w' ∧
      Le g bx g' (upd bx id (some (.arr ys (nextVer bx id) false))) ∧ RA g' (upd bx id (some (.arr ys (nextVer bx id) false))) (.ref id (nextVer bx id) 0 ys.length n) u := by
  obtain ⟨new, hsz, hrow, hvals, room, growR⟩ := hg
  by_cases h0 : ys.length = 0
  · have hy : ys = [] := by simpa using h0
    subst hy
    obtain ⟨hi, hle⟩ := h.husk id (nextVer bx id) false (Nat.le_refl _)
    exact ⟨_, w, _, room _ _ _ _ (by simp) (fun a ha => by cases ha) (fun _ => rfl), hi, hle, .refNil id _ n false (upd_self _ _ _) (upd_self _ _ _)⟩
  · obtain ⟨c, rest, hc, hrest, hrun⟩ := growR none 0 0 #[] (by omega) (by simpa using hlim) (by simpa using hlim2) (fun w1 _ => by simp [Builtin.firstCells])
    obtain ⟨g', i', le', ra'⟩ := append_new h (es := []) (ys := ys) (e := e) (old := #[]) (by simp) (Row.nil _ _ _) hsz hrow (by simpa using hc) (by simpa using hrest) id (nextVer bx id) (Nat.le_refl _) false
    simp only [List.nil_append, List.length_nil, Nat.zero_add] at i' le' ra' hrun
    exact ⟨_, _, g', hrun, i', le', ra'⟩

theorem append_good_ref {ts tx e n bytes : Nat} {ty : TypeId} (h : Inv m0 w0 O g bx w) {ys : List D} {v : Value} (hg : AppRun P w g.m ts tx e n bytes ty ys v)
    {i : Id} {ver : Nat} {es : List D} {fz : Bool} (hb : bx i = some (.arr es ver fz)) {s : Value} {len : Nat} (hll : len = es.length) (hs : RA g bx (.ref i ver 0 len n) s)
    (hlim : (es.length + ys.length) * bytes ≤ 2 ^ 40) (hlim2 : es.length + ys.length ≤ 2 ^ 40) :
    ∃ u w' g', (Builtin.append_ #[ts, tx] ty #[s, v]).run P w = .ok u w' ∧ Inv m0 w0 O g' (upd bx i (some (.arr (es ++ ys) (ver + 1) fz))) w' ∧
      Le g bx g' (upd bx i (some (.arr (es ++ ys) (ver + 1) fz))) ∧ RA g' (upd bx i (some (.arr (es ++ ys) (ver + 1) fz))) (.ref i (ver + 1) 0 (es.length + ys.length) n) u := by
  obtain ⟨new, hnsz, hnrow, hnvals, room, growR⟩ := hg
  have hnv : nextVer bx i = ver + 1 := by simp [nextVer, hb, Box.ver]
  cases hs with
  | refOld _ _ _ _ _ _ _ y hb' hlt => rw [hb] at hb'; cases hb'; simp only [Box.ver_arr] at hlt; omega
  | refNil _ _ _ fz' hb' hp =>
    rw [hb] at hb'; cases hb'
    by_cases h0 : ys.length = 0
    · have hy : ys = [] := by simpa using h0
      subst hy
      obtain ⟨hi, hle⟩ := h.husk i (ver + 1) fz (by omega)
      exact ⟨_, w, _, room _ _ _ _ (by simp) (fun a ha => by cases ha) (fun _ => rfl), hi, hle, .refNil i _ n fz (upd_self _ _ _) (upd_self _ _ _)⟩
    · obtain ⟨c, rest, hc, hrest, hrun⟩ := growR none 0 0 #[] (by omega) (by simpa using hlim) (by simpa using hlim2) (fun w1 _ => by simp [Builtin.firstCells])
      obtain ⟨g', i', le', ra'⟩ := append_new h (es := []) (ys := ys) (e := e) (old := #[]) (by simp) (Row.nil _ _ _) hnsz hnrow (by simpa using hc) (by simpa using hrest) i (ver + 1) (by omega) fz
      simp only [List.nil_append, List.length_nil, Nat.zero_add] at i' le' ra' hrun
      exact ⟨_, _, g', hrun, i', le', by simpa using ra'⟩
  | ref _ _ _ _ _ a cap es' fz' p hb' hp hpsz hlen hcap ha hn =>
    rw [hb] at hb'; cases hb'
    subst hll
    cases h.sim.box i _ hb with
    | nil _ _ hq => rw [hp] at hq; cases hq
    | arr _ _ _ q vals ety fr hq hh hnn hbare hfit hsz hf hr hm hz ho =>
      rw [hp] at hq; cases hq
      subst hpsz
      have hl : Lies g.m es p.sz p.base vals := ⟨by omega, hsz, hf, hr⟩
      have hblk := h.sim.block (show bx i ≠ none by rw [hb]; simp) hp
      by_cases hroom : es.length + ys.length ≤ cap
      · -- in place
        by_cases hcap0 : cap = 0
        · have he0 : es = [] := by apply List.eq_nil_of_length_eq_zero; omega
          have hy0 : ys = [] := by apply List.eq_nil_of_length_eq_zero; omega
          subst he0 hy0
          have hnew0 : new = #[] := by apply Array.eq_empty_of_size_eq_zero; simpa using hnsz
          obtain ⟨hi, hle⟩ := h.write hb (.newer _ (.arr [] (ver + 1) fz) (by simp [Box.ver])) hp hh (vals' := vals) rfl (fun _ _ _ => rfl) (by
            intro bx' hbx' hle
            rw [wset_same hh]
            exact .arr [] (ver + 1) fz p vals ety fr hp hh hnn hbare (by simpa using hfit) (fun i hi => by simp at hi) (fun i j hi => by simp at hi) (fun i j hi => by simp at hi) hm hz ho)
          rw [wset_same hh] at hi
          refine ⟨_, w, g, room _ _ _ _ hroom (fun a' ha' => ?_) (fun hno => by cases hno), hi, hle, ?_⟩
          · rw [hnew0]; simp [storeCells]
          · exact .ref i (ver + 1) 0 _ _ a cap [] fz p (upd_self _ _ _) hp rfl (by simp) (by simp) (.inl hcap0) (by simpa using hn)
        · have ha' : a = p.base := by rcases ha with h1 | h1; omega; simpa using h1
          subst ha'
          have hcm : (es.length + ys.length) * p.sz ≤ cap * p.sz := Nat.mul_le_mul_right _ hroom
          rw [Nat.add_mul] at hcm
          simp only [Nat.zero_add] at hn
          have hnl : new.toList.length = ys.length * p.sz := by simpa using hnsz
          have hfitS : p.base + es.length * p.sz + new.toList.length ≤ vals.size := by omega
          have hadd : (⟨p.b, p.base, none⟩ : Addr).add (es.length * p.sz) = ⟨p.b, p.base + es.length * p.sz, none⟩ := by
            simp only [Addr.add]; split
            · rename_i h0; rw [h0]; rfl
            · rfl
          have hstore := storeCells_run P new.toList w p.b (p.base + es.length * p.sz) 0 vals ety fr hh (by omega) hbare hnvals
          rw [Nat.add_zero] at hstore
          obtain ⟨hi, hle⟩ := h.write hb (.newer _ (.arr (es ++ ys) (ver + 1) fz) (by simp [Box.ver])) hp hh (vals' := putsV vals (p.base + es.length * p.sz) new.toList) (putsV_size _ _ _) (by
              intro o v hv
              rw [putsV_get _ _ _ _ hfitS, if_neg]
              rintro ⟨h1, _⟩
              rw [hm o h1] at hv; cases hv) (by
            intro bx' hbx' hle
            have hrow : Row g.m (es ++ ys) p.sz (fun k => (putsV vals (p.base + es.length * p.sz) new.toList).getD (p.base + k) undef) := by
              refine Row.append (hl.row.congr fun k hk => ?_) (hnrow.congr fun k hk => ?_)
              · rw [Array.getD_eq_getD_getElem?, Array.getD_eq_getD_getElem?, putsV_get _ _ _ _ hfitS, if_neg (by omega)]
              · rw [Array.getD_eq_getD_getElem?, Array.getD_eq_getD_getElem?, putsV_get _ _ _ _ hfitS, if_pos (by omega)]
                rw [show p.base + (es.length * p.sz + k) - (p.base + es.length * p.sz) = k from by omega]; simp
            have hfit2 : p.base + (es ++ ys).length * p.sz ≤ (putsV vals (p.base + es.length * p.sz) new.toList).size := by
              rw [putsV_size]; simp only [List.length_append, Nat.add_mul]; omega
            have hl2 := hrow.lies hfit2
            refine .arr (es ++ ys) (ver + 1) fz p _ ety fr hp (wset_at hblk.2.1 _) (by rw [putsV_size]; exact hnn) (by rw [putsV_size]; exact hbare) (by rw [putsV_size] at hfit2; omega) hl2.hs hl2.fl hl2.rd ?_ hz ho
            intro o ho'
            refine hm o ?_
            simp only [List.length_append, Nat.add_mul] at ho'; omega)
          refine ⟨_, _, g, room _ _ _ _ hroom (fun a' ha' => ?_) (fun hno => by cases hno), hi, hle, ?_⟩
          · cases ha'
            rw [hadd]; exact hstore
          · exact .ref i (ver + 1) 0 _ _ p.base cap (es ++ ys) fz p (upd_self _ _ _) hp rfl (by simp) hroom (.inr (by simp)) (by simpa using hn)
      · -- anew
        have hold : ∀ w1 : World, w1.heap = w.heap → (Builtin.firstCells p.sz es.length (.slice (some ⟨p.b, a, none⟩) es.length cap)).run P w1 = .ok ((List.range (es.length * p.sz)).map fun k => vals.getD (p.base + k) undef).toArray w1 := by
          intro w1 hw1
          by_cases he : es.length = 0
          · rw [he]; simp [Builtin.firstCells, loadCells, loadCellsFrom]
          · have ha' : a = p.base := by rcases ha with h1 | h1; omega; simpa using h1
            subst ha'
            simp only [Builtin.firstCells]
            refine run_loadCells_row fun k hk => ?_
            have hk' : p.base + k < vals.size := by omega
            have : w1.cell? ⟨p.b, p.base + k, none⟩ = w.cell? ⟨p.b, p.base + k, none⟩ := by simp only [World.cell?, hw1]
            rw [this, cell_of_heap hh]; simp [hk']
        obtain ⟨c, rest, hc, hrest, hrun⟩ := growR (some ⟨p.b, a, none⟩) es.length cap _ (by omega) hlim hlim2 hold
        obtain ⟨g', i', le', ra'⟩ := append_new h (es := es) (ys := ys) (e := e) (old := ((List.range (es.length * p.sz)).map fun k => vals.getD (p.base + k) undef).toArray) (by simp) (hl.row.congr fun k hk => by simp [hk]) hnsz hnrow hc hrest i (ver + 1) (by omega) fz
        exact ⟨_, _, g', hrun, i', le', ra'⟩

/-! ### copy -/
theorem copy_run {td ts e n : Nat} (hu : P.underlying td = some (.slice e)) {i : TypeInfo} (hi : P.info? e = some i) (hsz : i.size = n) (ty : TypeId) {a : Addr} {dl dc : Nat} {ys : List D} {m : Mm} {v : Value}
    (hg : Gives P w m ys n v) {new : Array Value} (hnew : (Builtin.firstCells n (min ys.length dl) v).run P w = .ok new w) {w' : World} (hst : (storeCells a new.toList).run P w = .ok () w') :
    (Builtin.copy_ #[td, ts] ty #[.slice (some a) dl dc, v]).run P w = .ok (.int .i64 (min ys.length dl : Nat)) w' := by
  have hl := hg.1 w
  have hmin : ∀ x y : Nat, Nat.min x y = min x y := fun _ _ => rfl
  simp only [Builtin.copy_, List.getElem?_toArray, List.getElem?_cons_zero, List.getElem?_cons_succ, Sem.run_bind, run_under hu, Result.andThen_ok, hl, hmin, run_size hi, hsz, hnew, hst, Sem.run_pure, goInt]

theorem copy_run_nil {td ts e n : Nat} (hu : P.underlying td = some (.slice e)) {i : TypeInfo} (hi : P.info? e = some i) (hsz : i.size = n) (ty : TypeId) {dc : Nat} {ys : List D} {m : Mm} {v : Value}
    (hg : Gives P w m ys n v) {new : Array Value} (hnew : (Builtin.firstCells n 0 v).run P w = .ok new w) :
    (Builtin.copy_ #[td, ts] ty #[.slice none 0 dc, v]).run P w = .ok (.int .i64 (0 : Nat)) w := by
  have hl := hg.1 w
  have hmin : Nat.min ys.length 0 = 0 := Nat.min_zero _
  simp only [Builtin.copy_, List.getElem?_toArray, List.getElem?_cons_zero, List.getElem?_cons_succ, Sem.run_bind, run_under hu, Result.andThen_ok, hl, hmin, run_size hi, hsz, hnew, Sem.run_pure, goInt]

theorem copy_good {td ts e n : Nat} (hu : P.underlying td = some (.slice e)) {ei : TypeInfo} (hei : P.info? e = some ei) (hesz : ei.size = n) (ty : TypeId) (h : Inv m0 w0 O g bx w) {ys : List D} {v : Value}
    (hg : Gives P w g.m ys n v) {i : Id} {ver off len : Nat} {es : List D} (hb : bx i = some (.arr es ver false)) {s : Value} (hs : RA g bx (.ref i ver off len n) s) (hle : off + len ≤ es.length) :
    ∃ w' g', (Builtin.copy_ #[td, ts] ty #[s, v]).run P w = .ok (.int .i64 (min ys.length len : Nat)) w' ∧
      Inv m0 w0 O g' (upd bx i (some (.arr (es.take off ++ ys.take (min ys.length len) ++ es.drop (off + min ys.length len)) ver false))) w' ∧
      Le g bx g' (upd bx i (some (.arr (es.take off ++ ys.take (min ys.length len) ++ es.drop (off + min ys.length len)) ver false))) := by
  obtain ⟨new, hnew, hnsz, hnrow, hnvals⟩ := hg.2 (min ys.length len) (Nat.min_le_left _ _)
  generalize hk : min ys.length len = k at *
  have hkl : k ≤ len := by omega
  have hky : k ≤ ys.length := by omega
  have hlen : (es.take off ++ ys.take k ++ es.drop (off + k)).length = es.length := by simp; omega
  cases hs with
  | refOld _ _ _ _ _ _ _ y hb' hlt => rw [hb] at hb'; cases hb'; simp only [Box.ver_arr] at hlt; omega
  | refNil _ _ _ fz' hb' hp =>
    rw [hb] at hb'; cases hb'
    obtain rfl : k = 0 := by omega
    have e1 : ([] : List D).take 0 ++ ys.take 0 ++ ([] : List D).drop (0 + 0) = [] := by simp
    rw [e1]
    have e2 : upd bx i (some (.arr [] ver false)) = bx := by
      funext j; by_cases c : j = i
      · subst c; rw [upd_self, hb]
      · rw [upd_ne _ _ _ _ c]
    rw [e2]
    exact ⟨w, g, copy_run_nil hu hei hesz ty hg (hnew w rfl), h, Le.refl _ _⟩
  | ref _ _ _ _ _ a cap es' fz' p hb' hp hpsz hlen' hcap ha hn =>
    rw [hb] at hb'; cases hb'
    cases h.sim.box i _ hb with
    | nil _ _ hq => rw [hp] at hq; cases hq
    | arr _ _ _ q vals ety fr hq hh hnn hbare hfit hsz hf hr hm hz ho =>
      rw [hp] at hq; cases hq
      subst hpsz
      have hl : Lies g.m es p.sz p.base vals := ⟨by omega, hsz, hf, hr⟩
      have hblk := h.sim.block (show bx i ≠ none by rw [hb]; simp) hp
      by_cases h0 : k = 0
      · subst h0
        have e1 : es.take off ++ ys.take 0 ++ es.drop (off + 0) = es := by simp
        rw [e1]
        have e2 : upd bx i (some (.arr es ver false)) = bx := by
          funext j; by_cases c : j = i
          · subst c; rw [upd_self, hb]
          · rw [upd_ne _ _ _ _ c]
        rw [e2]
        have hnew0 : new = #[] := by apply Array.eq_empty_of_size_eq_zero; simpa using hnsz
        have hrun := copy_run (ts := ts) hu hei hesz ty (a := ⟨p.b, a, none⟩) (dl := len) (dc := cap) hg (by rw [hk]; exact hnew w rfl) (w' := w) (by rw [hnew0]; simp [storeCells])
        rw [hk] at hrun
        exact ⟨w, g, hrun, h, Le.refl _ _⟩
      · have ha' : a = p.base + off * p.sz := by rcases ha with h1 | h1; omega; exact h1
        subst ha'
        have h1 : (off + k) * p.sz ≤ es.length * p.sz := Nat.mul_le_mul_right _ (by omega)
        rw [Nat.add_mul] at h1
        have hnl : new.toList.length = k * p.sz := by simpa using hnsz
        have hfitS : p.base + off * p.sz + new.toList.length ≤ vals.size := by omega
        have hstore := storeCells_run P new.toList w p.b (p.base + off * p.sz) 0 vals ety fr hh (by omega) hbare hnvals
        rw [Nat.add_zero] at hstore
        have hrun := copy_run (ts := ts) hu hei hesz ty (a := ⟨p.b, p.base + off * p.sz, none⟩) (dl := len) (dc := cap) hg (by rw [hk]; exact hnew w rfl) hstore
        rw [hk] at hrun
        refine ⟨_, g, hrun, ?_⟩
        refine h.write hb (.arr es _ ver false false hlen) hp hh (vals' := putsV vals (p.base + off * p.sz) new.toList) (putsV_size _ _ _) (fun o v hv => by rw [hz rfl] at hv; cases hv) ?_
        intro bx' hbx' hle'
        have hrow : Row g.m (es.take off ++ ys.take k ++ es.drop (off + k)) p.sz (fun j => (putsV vals (p.base + off * p.sz) new.toList).getD (p.base + j) undef) := by
          have hto : (es.take off).length = off := by simp; omega
          have hty : (ys.take k).length = k := by simp; omega
          refine Row.append (Row.append ?_ ?_) ?_
          · have := hl.row.sub 0 off (by omega)
            simp only [List.drop_zero] at this
            refine this.congr fun j hj => ?_
            rw [hto] at hj
            rw [Array.getD_eq_getD_getElem?, Array.getD_eq_getD_getElem?, putsV_get _ _ _ _ hfitS, if_neg (by omega)]; simp
          · refine hnrow.congr fun j hj => ?_
            rw [hty] at hj
            rw [hto, Array.getD_eq_getD_getElem?, Array.getD_eq_getD_getElem?, putsV_get _ _ _ _ hfitS, if_pos (by omega)]
            rw [show p.base + (off * p.sz + j) - (p.base + off * p.sz) = j from by omega]; simp
          · have := hl.row.sub (off + k) (es.length - (off + k)) (by omega)
            rw [List.take_of_length_le (by simp)] at this
            refine this.congr fun j hj => ?_
            simp only [List.length_append, hto, hty]
            rw [Array.getD_eq_getD_getElem?, Array.getD_eq_getD_getElem?, putsV_get _ _ _ _ hfitS, if_neg (by rw [Nat.add_mul]; omega)]
        have hfit2 : p.base + (es.take off ++ ys.take k ++ es.drop (off + k)).length * p.sz ≤ (putsV vals (p.base + off * p.sz) new.toList).size := by
          rw [putsV_size, hlen]; omega
        have hl2 := hrow.lies hfit2
        exact .arr _ ver false p _ ety fr hp (wset_at hblk.2.1 _) (by rw [putsV_size]; exact hnn) (by rw [putsV_size]; exact hbare) (by rw [hlen]; exact hfit) hl2.hs hl2.fl hl2.rd
          (fun o ho' => hz rfl o) hz ho

end Go.Es

namespace Go.Es

variable {m0 : Mm} {w0 : World} {OO : Nat → Prop} {g : Gh} {bx : Bx} {w : World} {P : Program}

/-! ### places in slices, strings, arrays -/
theorem addr_add (b o n : Nat) : (⟨b, o, none⟩ : Addr).add n = ⟨b, o + n, none⟩ := by
  simp only [Addr.add]; split
  · rename_i h; subst h; rfl
  · rfl

theorem iaddr_elt {m : Mm} {es : List D} {v : Value} (h : RD m (.sl es) v) {n : Nat} {i : Int} (h0 : 0 ≤ i) {x : D} (hx : es[i.toNat]? = some x) (hn : x.cells.length = n)
    {t e : TypeId} (hu : P.underlying t = some (.slice e)) {ei : TypeInfo} (hi : P.info? e = some ei) (hsz : ei.size = n) (k : IntKind) :
    ∃ u, (Instr.indexAt t v (.int k i)).run P w = .ok u w ∧ ∀ g bx, g.m = m → RA g bx (.elt x 0) u := by
  rw [List.getElem?_eq_some_iff] at hx
  obtain ⟨hlt, rfl⟩ := hx
  cases h with
  | sl0 a cap => simp at hlt
  | sl _ b o cap sz u hcap hs hm hf hr =>
    have hsn : sz = n := by rw [← hs _ hlt, hn]
    subst hsn
    have hi0 : (0 ≤ i ∧ i < (es.length : Int)) := ⟨h0, by omega⟩
    refine ⟨.pointer (some ⟨b, o + i.toNat * sz, none⟩), ?_, fun g bx hg => ?_⟩
    · simp only [Instr.indexAt, asIntOf, pure_bind, Sem.run_bind, run_under hu, Result.andThen_ok, Sem.run_pure]
      simp only [if_pos hi0, Sem.run_bind, run_size hi, Result.andThen_ok, Sem.run_pure, hsz, addr_add]
    · have := RA.elt (g := g) (bx := bx) es[i.toNat] 0 b (o + i.toNat * sz) (fun j => u i.toNat j) (fun j hj => by
        rw [hg]
        have := hm i.toNat j hlt (by rw [← hs _ hlt]; exact hj)
        exact this) (fun j hj => hf _ _ hlt hj) (fun j hj => by rw [hg]; exact hr _ _ hlt hj)
      simpa using this

theorem iaddr_ref {id : Id} {ver off len n : Nat} {v : Value} (h : RA g bx (.ref id ver off len n) v) {i : Int} (h0 : 0 ≤ i) (h1 : i < (len : Int))
    {t e : TypeId} (hu : P.underlying t = some (.slice e)) {ei : TypeInfo} (hi : P.info? e = some ei) (hsz : ei.size = n) (k : IntKind) :
    ∃ u, (Instr.indexAt t v (.int k i)).run P w = .ok u w ∧ RA g bx (.eref id ver (off + i.toNat) 0) u := by
  cases h with
  | ref _ _ _ _ _ a cap es fz p hb hp hpsz hlen hcap ha hn =>
    have ha' : a = p.base + off * p.sz := by rcases ha with h | h; omega; exact h
    subst hpsz ha'
    refine ⟨.pointer (some ⟨p.b, p.base + off * p.sz + i.toNat * p.sz, none⟩), ?_, ?_⟩
    · simp only [Instr.indexAt, asIntOf, pure_bind, Sem.run_bind, run_under hu, Result.andThen_ok, Sem.run_pure]
      simp only [if_pos (⟨h0, h1⟩ : 0 ≤ i ∧ i < (len : Int)), Sem.run_bind, run_size hi, Result.andThen_ok, Sem.run_pure, hsz, addr_add]
    · have := RA.eref (g := g) (bx := bx) id ver (off + i.toNat) 0 es fz p hb hp (by omega)
      rw [Nat.add_mul, ← Nat.add_assoc, Nat.add_zero] at this
      exact this
  | refNil _ _ _ fz hb hp => omega
  | refOld _ _ _ _ _ cap a x hb hv hcap ha =>
    obtain ⟨b, o, rfl⟩ := ha (by omega)
    refine ⟨.pointer (some ⟨b, o + i.toNat * n, none⟩), ?_, .erefOld _ _ _ _ _ _ x hb hv⟩
    simp only [Instr.indexAt, asIntOf, pure_bind, Sem.run_bind, run_under hu, Result.andThen_ok, Sem.run_pure]
    simp only [if_pos (⟨h0, h1⟩ : 0 ≤ i ∧ i < (len : Int)), Sem.run_bind, run_size hi, Result.andThen_ok, Sem.run_pure, hsz, addr_add]

theorem run_indexAt_arr {t e len : Nat} (hu : P.underlying t = some (.array len e)) {ei : TypeInfo} (hi : P.info? e = some ei) (b o : Nat) (k : IntKind) {i : Int} (h : 0 ≤ i ∧ i < (len : Int)) :
    (Instr.indexAt t (.pointer (some ⟨b, o, none⟩)) (.int k i)).run P w = .ok (.pointer (some ⟨b, o + i.toNat * ei.size, none⟩)) w := by
  simp only [Instr.indexAt, asIntOf, pure_bind, Sem.run_bind, run_under hu, Result.andThen_ok, Sem.run_pure, Instr.sureAddr]
  simp only [if_pos h, Sem.run_bind, run_size hi, Result.andThen_ok, Sem.run_pure, addr_add]

/-- a pointer's value, moved on -/
theorem ptr_move {a : A} {v : Value} (h : RA g bx a v) {n : Nat} {a' : A} (ha : (∃ id ver o, a = .ptr id ver o ∧ a' = .ptr id ver (o + n)) ∨ (∃ x o, a = .elt x o ∧ a' = .elt x (o + n)) ∨
    (∃ id ver i o, a = .eref id ver i o ∧ a' = .eref id ver i (o + n))) : ∃ b o, v = .pointer (some ⟨b, o, none⟩) ∧ RA g bx a' (.pointer (some ⟨b, o + n, none⟩)) := by
  rcases ha with ⟨id, ver, o, rfl, rfl⟩ | ⟨x, o, rfl, rfl⟩ | ⟨id, ver, i, o, rfl, rfl⟩
  · cases h with
    | ptr _ _ _ cs p hb hp => exact ⟨p.b, o, rfl, .ptr _ _ _ cs p hb hp⟩
    | ptrOld _ _ _ b x hb hv => exact ⟨b, o, rfl, .ptrOld _ _ _ b x hb hv⟩
  · cases h with
    | elt _ _ b o' u hm hf hr => exact ⟨b, o' + o, rfl, by rw [Nat.add_assoc]; exact .elt x (o + n) b o' u hm hf hr⟩
  · cases h with
    | eref _ _ _ _ es fz p hb hp hi => exact ⟨p.b, _, rfl, by rw [Nat.add_assoc]; exact .eref _ _ _ (o + n) es fz p hb hp hi⟩
    | erefOld _ _ _ _ b o' x hb hv => exact ⟨b, o', rfl, .erefOld _ _ _ _ b (o' + n) x hb hv⟩

/-! ### bounds of slice expressions -/
theorem bound_spec {x : A} {hi n : Nat} (h : bound x hi = some n) : ∃ k i, x = .d (.int k i) ∧ 0 ≤ i ∧ i ≤ (hi : Int) ∧ n = i.toNat := by
  simp only [bound, Option.bind_eq_some_iff] at h
  obtain ⟨⟨k, i⟩, h1, h2⟩ := h
  have := asI_spec h1
  split at h2
  · rename_i hc; cases h2; exact ⟨k, i, this, hc.1, hc.2, rfl⟩
  · cases h2

theorem run_sliceBound {k : IntKind} {i : Int} {hi cap : Nat} (h0 : 0 ≤ i) (h1 : i ≤ (hi : Int)) (hc : hi ≤ cap) (code : BoundsCode) :
    (Instr.sliceBound (.int k i) cap code).run P w = .ok i.toNat w := by
  have h : 0 ≤ i ∧ i ≤ (cap : Int) := ⟨h0, by omega⟩
  simp only [Instr.sliceBound, asIntOf, pure_bind, if_pos h, Sem.run_pure]

def optV (lo : Bool) (v : Value) : Option Value := if lo then some v else none

theorem bounds_spec {n : Nat} {lo hi mx : Bool} {xs : List A} {p : Nat × Nat} (h : bounds n lo hi mx xs = some p) {l hh m : Value} {ws : List Value}
    (hx : RAl g bx xs ws) (hw : ws = (if lo then [l] else []) ++ (if hi then [hh] else []) ++ (if mx then [m] else [])) (isS : Bool) {cap : Nat} (hc : n ≤ cap) :
    p.1 ≤ p.2 ∧ p.2 ≤ n ∧ ∃ q, p.2 ≤ q ∧ q ≤ cap ∧ (mx = false → q = cap) ∧
      (Instr.sliceBounds isS n cap (optV lo l) (optV hi hh) (optV mx m)).run P w = .ok (p.1, p.2, q) w := by
  cases lo <;> cases hi <;> cases mx <;> simp only [Bool.false_eq_true, if_false, if_true, List.nil_append, List.append_nil, List.cons_append] at hw <;> subst hw
  · cases hx; simp only [bounds] at h; cases h
    exact ⟨Nat.zero_le _, Nat.le_refl _, cap, hc, Nat.le_refl _, fun _ => rfl, by simp [Instr.sliceBounds, optV]⟩
  · cases hx with | cons h1 h2 => cases h2; simp [bounds] at h
  · cases hx with
    | cons h1 h2 =>
      cases h2
      simp only [bounds, Option.bind_eq_some_iff] at h
      obtain ⟨h', hb, he⟩ := h; cases he
      obtain ⟨k, i, rfl, i0, i1, rfl⟩ := bound_spec hb
      have := h1.int_inv; subst this
      refine ⟨Nat.zero_le _, by omega, cap, by omega, Nat.le_refl _, fun _ => rfl, ?_⟩
      simp only [Instr.sliceBounds, optV, if_true, Bool.false_eq_true, if_false, Sem.run_bind, Sem.run_pure, Result.andThen_ok, run_sliceBound i0 i1 hc]
  · cases hx with
    | cons h1 h2 =>
      cases h2 with
      | cons h2 h3 =>
        cases h3
        simp only [bounds, Option.bind_eq_some_iff] at h
        obtain ⟨m', hb, h', hb', he⟩ := h; cases he
        obtain ⟨k, i, rfl, i0, i1, rfl⟩ := bound_spec hb
        obtain ⟨k', i', rfl, i0', i1', rfl⟩ := bound_spec hb'
        have := h1.int_inv; subst this
        have := h2.int_inv; subst this
        refine ⟨Nat.zero_le _, by omega, i.toNat, by omega, by omega, (fun h => by cases h), ?_⟩
        simp only [Instr.sliceBounds, optV, if_true, Bool.false_eq_true, if_false, Sem.run_bind, Sem.run_pure, Result.andThen_ok, run_sliceBound i0 i1 hc, run_sliceBound i0' i1' (Nat.le_refl _)]
  · cases hx with
    | cons h1 h2 =>
      cases h2
      simp only [bounds, Option.bind_eq_some_iff] at h
      obtain ⟨h', hb, he⟩ := h; cases he
      obtain ⟨k, i, rfl, i0, i1, rfl⟩ := bound_spec hb
      have := h1.int_inv; subst this
      refine ⟨by omega, Nat.le_refl _, cap, hc, Nat.le_refl _, fun _ => rfl, ?_⟩
      simp only [Instr.sliceBounds, optV, if_true, Bool.false_eq_true, if_false, Sem.run_bind, Sem.run_pure, Result.andThen_ok, run_sliceBound i0 i1 (Nat.le_refl _), Option.isSome_none]
  · cases hx with | cons h1 h2 => cases h2 with | cons h2 h3 => cases h3; simp [bounds] at h
  · cases hx with
    | cons h1 h2 =>
      cases h2 with
      | cons h2 h3 =>
        cases h3
        simp only [bounds, Option.bind_eq_some_iff] at h
        obtain ⟨m', hb, h', hb', he⟩ := h; cases he
        obtain ⟨k, i, rfl, i0, i1, rfl⟩ := bound_spec hb
        obtain ⟨k', i', rfl, i0', i1', rfl⟩ := bound_spec hb'
        have := h1.int_inv; subst this
        have := h2.int_inv; subst this
        refine ⟨by omega, by omega, cap, by omega, Nat.le_refl _, fun _ => rfl, ?_⟩
        simp only [Instr.sliceBounds, optV, if_true, Bool.false_eq_true, if_false, Sem.run_bind, Sem.run_pure, Result.andThen_ok, run_sliceBound i0 i1 hc, run_sliceBound i0' i1' (Nat.le_refl _), Option.isSome_none]
  · cases hx with
    | cons h1 h2 =>
      cases h2 with
      | cons h2 h3 =>
        cases h3 with
        | cons h3 h4 =>
          cases h4
          simp only [bounds, Option.bind_eq_some_iff] at h
          obtain ⟨m', hb, h', hb', l', hb2, he⟩ := h; cases he
          obtain ⟨k, i, rfl, i0, i1, rfl⟩ := bound_spec hb
          obtain ⟨k', i', rfl, i0', i1', rfl⟩ := bound_spec hb'
          obtain ⟨k2, i2, rfl, i02, i12, rfl⟩ := bound_spec hb2
          have := h1.int_inv; subst this
          have := h2.int_inv; subst this
          have := h3.int_inv; subst this
          refine ⟨by omega, by omega, i.toNat, by omega, by omega, (fun h => by cases h), ?_⟩
          simp only [Instr.sliceBounds, optV, if_true, Bool.false_eq_true, if_false, Sem.run_bind, Sem.run_pure, Result.andThen_ok, run_sliceBound i0 i1 hc, run_sliceBound i0' i1' (Nat.le_refl _),
            run_sliceBound i02 i12 (Nat.le_refl _), Option.isSome_some]

/-- a piece of data -/
theorem RD.piece {m : Mm} {es : List D} {a : Option Addr} {len cap : Nat} (h : RD m (.sl es) (.slice a len cap)) {l h' q n : Nat} (h1 : l ≤ h') (h2 : h' ≤ es.length) (h3 : h' ≤ q) (h4 : q ≤ cap)
    (hn : ∀ i (hi : i < es.length), es[i].cells.length = n) : RD m (.sl ((es.drop l).take (h' - l))) (.slice (if q = l then a else a.map (·.add (l * n))) (h' - l) (q - l)) := by
  by_cases h0 : h' - l = 0
  · rw [h0]; simp only [List.take_zero]
    refine .sl0 _ _ (fun hn => ?_)
    split at hn
    · omega
    · cases h with
      | sl0 _ _ hc =>
        cases a with
        | none => have := hc rfl; omega
        | some a => cases hn
      | sl => cases hn
  · cases h with
    | sl0 => simp at h2; omega
    | sl _ b o cap sz u hcap hs hm hf hr =>
      have hsn : sz = n := by rw [← hs 0 (by omega), hn 0 (by omega)]
      subst hsn
      rw [if_neg (by omega)]
      simp only [Option.map_some, addr_add]
      have hl : ((es.drop l).take (h' - l)).length = h' - l := by simp; omega
      have := RD.sl (m := m) ((es.drop l).take (h' - l)) b (o + l * sz) (q - l) sz (fun i j => u (l + i) j) (by omega)
        (fun i hi => by simp only [List.getElem_take, List.getElem_drop]; exact hs _ _)
        (fun i j hi hj => by
          rw [hl] at hi
          have := hm (l + i) j (by omega) hj
          rw [Nat.add_mul] at this
          rw [show o + l * sz + i * sz + j = o + (l * sz + i * sz) + j from by omega]; exact this)
        (fun i j hi hj => by simp only [List.getElem_take, List.getElem_drop] at hj ⊢; exact hf _ _ _ hj)
        (fun i j hi hj => by simp only [List.getElem_take, List.getElem_drop] at hj ⊢; exact hr _ _ _ hj)
      rw [hl] at this
      exact this

end Go.Es

namespace Go.Es

variable {mg m0 : Mm} {w0 : World} {OO : Nat → Prop} {g : Gh} {bx : Bx} {w : World} {P : Program}

/-! ### operands -/
/-- An operand, and the interpreter's. -/
inductive FO (mg : Mm) : Operand → O → Prop where
  | tmp (n : Nat) : FO mg (.tmp n) (.t n)
  | lent (n : Nat) : FO mg (.tmp n) (.l n)
  | const (v : Value) (a : A) (h : ∀ g bx, RA g bx a v) : FO mg (.const v) (.c a)
  | func (f : Nat) : FO mg (.func f) (.c (.fn f []))
  | global (n : Nat) (a : A) (h : ∀ g bx, mg.le g.m → RA g bx a (.pointer (some ⟨n, 0, none⟩))) : FO mg (.global n) (.c a)

inductive FOs (mg : Mm) : List Operand → List O → Prop where
  | nil : FOs mg [] []
  | cons {x : Operand} {o : O} {r : List Operand} {s : List O} (h : FO mg x o) (t : FOs mg r s) : FOs mg (x :: r) (o :: s)

def TmOk (mg : Mm) (g : Gh) (bx : Bx) (tm : Nat → A) (ac : Act) : Prop := mg.le g.m ∧ ∀ t, RA g bx (tm t) (ac.tmps.getD t undef)

theorem RA.mixMap {f : A → A} (hr : ∀ {a : A} {v : Value}, RA g bx a v → RA g bx (f a) v) (hf : ∀ a : A, a.flat = true → (f a).flat = true) {cs : List A} {v : Value} (h : RA g bx (.mix cs) v) : RA g bx (.mix (cs.map f)) v := by
  cases h with
  | mix _ vs hl hfl hra =>
    refine .mix _ vs (by simpa using hl) (fun j hj => ?_) (fun j hj => ?_)
    · rw [List.getElem_map]; exact hf _ (hfl j (by simpa using hj))
    · rw [List.getElem_map]; exact hr (hra j (by simpa using hj))
theorem RA.lend0 {a : A} {v : Value} (h : RA g bx a v) : RA g bx (lendA0 a) v := by
  cases a with
  | ref id ver off len sz => exact .lref _ _ _ _ _ _ h
  | _ => exact h
theorem lendA0_flat (a : A) (h : a.flat = true) : (lendA0 a).flat = true := by
  cases a with
  | ref id ver off len sz => rfl
  | _ => exact h
theorem RA.lend {a : A} {v : Value} (h : RA g bx a v) : RA g bx (lendA a) v := by
  cases a with
  | ref id ver off len sz => exact .lref _ _ _ _ _ _ h
  | mix cs => exact h.mixMap RA.lend0 lendA0_flat
  | _ => exact h

theorem FO.ra {tm : Nat → A} {ac : Act} (ht : TmOk mg g bx tm ac) {x : Operand} {o : O} (h : FO mg x o) : RA g bx (o.ev tm) (ac.eval x) := by
  cases h with
  | tmp n => exact ht.2 n
  | lent n => exact (ht.2 n).lend
  | const v a h => exact h g bx
  | func f => exact .fn f [] #[] rfl (fun j hj => by simp at hj)
  | global n a h => exact h g bx ht.1

theorem FOs.ral {tm : Nat → A} {ac : Act} (ht : TmOk mg g bx tm ac) {xs : List Operand} {os : List O} (h : FOs mg xs os) : RAl g bx (os.map (O.ev tm)) (xs.map ac.eval) := by
  induction h with
  | nil => exact .nil
  | cons h _ ih => exact .cons (h.ra ht) ih

/-! ### '==' of structs -/
/-- A type whose cells are each a number, a bool or a string; d deep. -/
inductive EqT (P : Program) : Nat → TypeId → List EK → Prop where
  | int (d : Nat) (t : TypeId) (k : IntKind) (h : P.underlying t = some (.int k)) : EqT P (d + 1) t [.i]
  | bool (d : Nat) (t : TypeId) (h : P.underlying t = some .bool) : EqT P (d + 1) t [.b]
  | str (d : Nat) (t : TypeId) (h : P.underlying t = some .string) : EqT P (d + 1) t [.s]
  | struct (d : Nat) (t : TypeId) (fs : Array Field) (h : P.underlying t = some (.struct fs)) (hs : P.stoodInHeld t = false) (kf : Field → List EK)
      (hna : ∀ f ∈ fs.toList, f.name ≠ "_") (hf : ∀ f ∈ fs.toList, EqT P d f.type (kf f)) (hi : ∀ f ∈ fs.toList, ∃ i, P.info? f.type = some i ∧ i.size = (kf f).length)
      (ho : ∀ k (hk : k < fs.toList.length), fs.toList[k].offset = ((fs.toList.take k).flatMap kf).length) : EqT P (d + 1) t (fs.toList.flatMap kf)

theorem eqCells_len : ∀ {ks : List EK} {xs ys : List D} {b : Bool}, eqCells ks xs ys = some b → xs.length = ks.length ∧ ys.length = ks.length := by
  intro ks
  induction ks with
  | nil => intro xs ys b h; cases xs <;> cases ys <;> simp [eqCells] at h ⊢
  | cons k ks ih =>
    intro xs ys b h
    cases k <;> (cases xs with
      | nil => simp [eqCells] at h
      | cons x xs => cases ys with
        | nil => cases x <;> simp [eqCells] at h
        | cons y ys =>
          cases x <;> cases y <;> simp only [eqCells, Option.bind_eq_some_iff, Option.ite_none_right_eq_some] at h <;> first
            | (cases h; done)
            | (obtain ⟨t, h1, _⟩ := h
               have := ih h1
               simp only [List.length_cons]; omega)
            | (obtain ⟨_, t, h1, _⟩ := h
               have := ih h1
               simp only [List.length_cons]; omega))

theorem eqCells_append : ∀ {ks ks' : List EK} {xs ys xs' ys' : List D} {b : Bool}, xs.length = ks.length → ys.length = ks.length → eqCells (ks ++ ks') (xs ++ xs') (ys ++ ys') = some b →
    ∃ c c', eqCells ks xs ys = some c ∧ eqCells ks' xs' ys' = some c' ∧ b = (c && c') := by
  intro ks
  induction ks with
  | nil =>
    intro ks' xs ys xs' ys' b hx hy h
    obtain rfl : xs = [] := by simpa using hx
    obtain rfl : ys = [] := by simpa using hy
    exact ⟨true, b, rfl, h, by simp⟩
  | cons k ks ih =>
    intro ks' xs ys xs' ys' b hx hy h
    cases xs with
    | nil => simp at hx
    | cons x xs =>
      cases ys with
      | nil => simp at hy
      | cons y ys =>
        have hx' : xs.length = ks.length := by simpa using hx
        have hy' : ys.length = ks.length := by simpa using hy
        cases k <;> cases x <;> cases y <;> simp only [List.cons_append, eqCells, Option.bind_eq_some_iff, Option.ite_none_right_eq_some] at h <;> first
          | (cases h; done)
          | (obtain ⟨t, h1, h2⟩ := h
             cases h2
             obtain ⟨c, c', h3, h4, rfl⟩ := ih hx' hy' h1
             refine ⟨_, c', by simp only [eqCells, h3, Option.bind_some]; rfl, h4, by simp [Bool.and_assoc]⟩)
          | (obtain ⟨hk, t, h1, h2⟩ := h
             cases h2
             obtain ⟨c, c', h3, h4, rfl⟩ := ih hx' hy' h1
             refine ⟨_, c', by simp only [eqCells, hk, if_true, h3, Option.bind_some]; rfl, h4, by simp [Bool.and_assoc]⟩)

/-- cells and their values -/
def VC (m : Mm) (xs : List D) (vs : List Value) : Prop := ∃ hl : xs.length = vs.length, ∀ j (hj : j < xs.length), xs[j].flat = true ∧ RD m xs[j] (vs[j]'(by omega))

theorem VC.sub {m : Mm} {xs : List D} {vs : List Value} (h : VC m xs vs) (off n : Nat) : VC m ((xs.drop off).take n) ((vs.drop off).take n) := by
  obtain ⟨hl, hc⟩ := h
  refine ⟨by simp [hl], fun j hj => ?_⟩
  simp only [List.getElem_take, List.getElem_drop]
  exact hc _ _

/-- the shape of a value at a type -/
def Sh (P : Program) (t : TypeId) (v : Value) : Prop := ∃ d, P.underlying t = some d ∧ (if isAggD d then v = .agg v.cells else cellVal v = true)

theorem EqT.part {d t : Nat} {ks : List EK} (h : EqT P d t ks) (hi : ∃ i, P.info? t = some i ∧ i.size = ks.length) {m : Mm} {xs : List D} {vs : Array Value} (hv : VC m xs vs.toList) {off : Nat}
    (hfit : off + ks.length ≤ xs.length) : ∃ v, (part t vs off).run P w = .ok v w ∧ v.cells.toList = (vs.toList.drop off).take ks.length ∧ Sh P t v := by
  obtain ⟨hl, hc⟩ := hv
  have one : ∀ dd, P.underlying t = some dd → isAggD dd = false → ks.length = 1 → ∃ v, (Go.part t vs off).run P w = .ok v w ∧ v.cells.toList = (vs.toList.drop off).take ks.length ∧ Sh P t v := by
    intro dd hu hd hn
    rw [hn] at hfit ⊢
    have hlt : off < vs.size := by simp at hl; omega
    have hcv : cellVal vs[off] = true := by
      have := hc off (by omega)
      simpa using this.2.cellVal this.1
    refine ⟨vs[off], ?_, ?_, ⟨dd, hu, by rw [hd]; simpa using hcv⟩⟩
    · simp only [Go.part, Sem.run_bind, run_agg hu, hd, Result.andThen_ok, Bool.false_eq_true, if_false]
      rw [Array.getElem?_eq_getElem hlt]; rfl
    · rw [cells_one hcv, List.take_one, List.head?_drop]
      simp [hlt]
  cases h with
  | int d t k hu => exact one _ hu rfl rfl
  | bool d t hu => exact one _ hu rfl rfl
  | str d t hu => exact one _ hu rfl rfl
  | struct d t fs hu hs kf hna hf hii ho =>
    obtain ⟨i, hi, hsz⟩ := hi
    refine ⟨.agg (vs.extract off (off + i.size)), ?_, ?_, ⟨_, hu, by simp [isAggD, Value.cells]⟩⟩
    · simp only [Go.part, Sem.run_bind, run_agg hu, isAggD, Result.andThen_ok, if_true, run_size hi, Sem.run_pure]
    · simp only [Value.cells, Array.toList_extract, hsz]
      rw [List.extract_eq_take_drop]
      congr 1; omega

theorem eqF_run {d : Nat} {m : Mm} {xs ys : List D} {vx vy : Array Value} (hx : VC m xs vx.toList) (hy : VC m ys vy.toList) (kf : Field → List EK)
    (IH : ∀ t ks, EqT P d t ks → ∀ (xs ys : List D) (vx vy : Value) (b : Bool), VC m xs vx.cells.toList → VC m ys vy.cells.toList → Sh P t vx → Sh P t vy → eqCells ks xs ys = some b → (Op.equalIn d t vx vy).run P w = .ok b w) :
    ∀ (fs : List Field) (off : Nat) (b : Bool), (∀ f ∈ fs, f.name ≠ "_") → (∀ f ∈ fs, EqT P d f.type (kf f)) → (∀ f ∈ fs, ∃ i, P.info? f.type = some i ∧ i.size = (kf f).length) →
      (∀ k (hk : k < fs.length), fs[k].offset = off + ((fs.take k).flatMap kf).length) → off ≤ xs.length → off ≤ ys.length → eqCells (fs.flatMap kf) (xs.drop off) (ys.drop off) = some b →
      (Op.eqFields d vx vy fs).run P w = .ok b w
  | [], off, b, _, _, _, _, _, _, he => by
    obtain ⟨h1, h2⟩ := eqCells_len he
    simp only [List.flatMap_nil, List.length_nil] at h1 h2
    rw [List.eq_nil_of_length_eq_zero h1, List.eq_nil_of_length_eq_zero h2] at he
    cases he
    simp [Op.eqFields]
  | f :: fs, off, b, hna, hf, hi, ho, hox, hoy, he => by
    have h0 := ho 0 (by simp)
    simp at h0
    obtain ⟨l1, l2⟩ := eqCells_len he
    simp only [List.flatMap_cons, List.length_append, List.length_drop] at l1 l2
    have hfx := hf f (List.mem_cons_self ..)
    have hii := hi f (List.mem_cons_self ..)
    obtain ⟨u, hu1, hu2, hu3⟩ := hfx.part (w := w) hii hx (off := off) (by omega)
    obtain ⟨u', hu1', hu2', hu3'⟩ := hfx.part (w := w) hii hy (off := off) (by omega)
    have hsp : ∀ (l : List D), l.drop off = (l.drop off).take (kf f).length ++ l.drop (off + (kf f).length) := fun l => by
      rw [← List.drop_drop]; exact (List.take_append_drop _ _).symm
    rw [hsp xs, hsp ys, List.flatMap_cons] at he
    obtain ⟨c, c', h1, h2, rfl⟩ := eqCells_append (by simp; omega) (by simp; omega) he
    have e1 := IH f.type (kf f) hfx _ _ u u' c (by rw [hu2]; exact hx.sub _ _) (by rw [hu2']; exact hy.sub _ _) hu3 hu3' h1
    have e2 := eqF_run hx hy kf IH fs (off + (kf f).length) c' (fun g hg => hna g (List.mem_cons_of_mem _ hg)) (fun g hg => hf g (List.mem_cons_of_mem _ hg)) (fun g hg => hi g (List.mem_cons_of_mem _ hg))
      (fun k hk => by have := ho (k + 1) (by simp; omega); simp only [List.getElem_cons_succ, List.take_succ_cons, List.flatMap_cons, List.length_append] at this; omega) (by omega) (by omega) h2
    simp only [Op.eqFields, if_pos (hna f (List.mem_cons_self ..)), h0, Sem.run_bind, hu1, hu1', e1, Result.andThen_ok]
    cases c
    · simp
    · simpa using e2

theorem eqT_run {m : Mm} : ∀ (d : Nat) (t : TypeId) (ks : List EK), EqT P d t ks → ∀ (xs ys : List D) (vx vy : Value) (b : Bool), VC m xs vx.cells.toList → VC m ys vy.cells.toList →
    Sh P t vx → Sh P t vy → eqCells ks xs ys = some b → (Op.equalIn d t vx vy).run P w = .ok b w
  | 0, t, ks, h, _, _, _, _, _, _, _, _, _, _ => by cases h
  | d + 1, t, ks, h, xs, ys, vx, vy, b, hx, hy, hsx, hsy, he => by
    obtain ⟨lx, ly⟩ := eqCells_len he
    have single : ∀ dd, P.underlying t = some dd → isAggD dd = false → ks.length = 1 → ∃ x y, xs = [x] ∧ ys = [y] ∧ RD m x vx ∧ RD m y vy := by
      intro dd hu hd hn
      obtain ⟨d1, hu1, h1⟩ := hsx
      obtain ⟨d2, hu2, h2⟩ := hsy
      rw [hu] at hu1 hu2; cases hu1; cases hu2
      rw [hd] at h1 h2
      simp only [Bool.false_eq_true, if_false] at h1 h2
      rw [cells_one h1] at hx; rw [cells_one h2] at hy
      obtain ⟨l1, c1⟩ := hx
      obtain ⟨l2, c2⟩ := hy
      obtain ⟨x, rfl⟩ : ∃ x, xs = [x] := List.length_eq_one_iff.1 (by simpa using l1)
      obtain ⟨y, rfl⟩ : ∃ y, ys = [y] := List.length_eq_one_iff.1 (by simpa using l2)
      exact ⟨x, y, rfl, rfl, by simpa using (c1 0 (by simp)).2, by simpa using (c2 0 (by simp)).2⟩
    cases h with
    | int d t k hu =>
      obtain ⟨x, y, rfl, rfl, hx, hy⟩ := single _ hu rfl rfl
      cases x <;> cases y <;> simp only [eqCells, Option.bind_some, Option.ite_none_right_eq_some] at he <;> first | (cases he; done) | skip
      obtain ⟨rfl, he⟩ := he
      cases hx; cases hy; cases he
      simpa using run_equalIn_int w d t _ k _ _ hu
    | bool d t hu =>
      obtain ⟨x, y, rfl, rfl, hx, hy⟩ := single _ hu rfl rfl
      cases x <;> cases y <;> simp only [eqCells, Option.bind_some] at he <;> first | (cases he; done) | skip
      cases hx; cases hy; cases he
      simpa using run_equalIn_bool' w d t _ _ hu
    | str d t hu =>
      obtain ⟨x, y, rfl, rfl, hx, hy⟩ := single _ hu rfl rfl
      cases x <;> cases y <;> simp only [eqCells, Option.bind_some] at he <;> first | (cases he; done) | skip
      cases hx; cases hy; cases he
      rename_i s1 s2
      have := run_equalIn_string w d t (⟨s1.toArray⟩ : ByteArray) (⟨s2.toArray⟩ : ByteArray) hu
      simpa only [ByteArray.toList_mk, Bool.and_true] using this
    | struct d t fs hu hs kf hna hf hii ho =>
      obtain ⟨d1, hu1, h1⟩ := hsx
      obtain ⟨d2, hu2, h2⟩ := hsy
      rw [hu] at hu1 hu2; cases hu1; cases hu2
      simp only [isAggD, if_true] at h1 h2
      rw [h1, h2]
      have hfo : P.fieldsOf t = fs := by simp [Program.fieldsOf, hu]
      rw [run_equalIn_struct (P := P) w d t _ _ (by rw [hfo]; exact hu) hs, hfo]
      exact eqF_run hx hy kf (fun t ks h => eqT_run d t ks h) fs.toList 0 b hna hf hii (by simpa using ho) (Nat.zero_le _) (Nat.zero_le _) (by simpa using he)

end Go.Es

