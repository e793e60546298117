/- A verified evaluator of the model's code, part 1 of 7: the evaluator, and the compiler to its code. -/
import GoSem.Dispatch
import Derived.CheckFast
/-
  An evaluator of the model's code over an abstract heap, written so that the kernel runs it fast: every case of a recursor is a closed constant.
-/
namespace Go.Ev
noncomputable section

/-! ## Tries -/
inductive T (α : Type) where
  | e : T α
  | n (l : T α) (v : Option α) (r : T α) : T α

def bsel {α : Sort _} (c : Bool) (a b : α) : α := Bool.rec b a c
def osel {α β : Type} (x : Option α) (f : α → Option β) : Option β := Option.rec none f x
def lrec {α : Type} {β : Sort _} (z : β) (f : α → List α → β → β) (l : List α) : β := List.rec z f l

namespace T
variable {α : Type}
def get (t : T α) : Nat → Option α :=
  T.rec (motive := fun _ => Nat → Option α) (fun _ => none)
    (fun _ v _ gl gr k => bsel (Nat.beq k 0) v (bsel (Nat.beq (Nat.mod k 2) 1) (gl (Nat.div k 2)) (gr (Nat.sub (Nat.div k 2) 1)))) t
def single (f : Nat) : Nat → Option α → T α :=
  Nat.rec (motive := fun _ => Nat → Option α → T α) (fun _ _ => .e)
    (fun _ ih k x => bsel (Nat.beq k 0) (.n .e x .e) (bsel (Nat.beq (Nat.mod k 2) 1) (.n (ih (Nat.div k 2) x) none .e) (.n .e none (ih (Nat.sub (Nat.div k 2) 1) x)))) f
def set (t : T α) : Nat → Option α → T α :=
  T.rec (motive := fun _ => Nat → Option α → T α) (fun k x => single (Nat.succ k) k x)
    (fun l v r sl sr k x => bsel (Nat.beq k 0) (.n l x r) (bsel (Nat.beq (Nat.mod k 2) 1) (.n (sl (Nat.div k 2) x) v r) (.n l v (sr (Nat.sub (Nat.div k 2) 1) x)))) t
end T

/-! ## Abstract values -/
inductive AV where
  | bool (b : Bool)
  | int (k : IntKind) (n : Int)
  | str (s : List Nat)
  | ptr (b off : Nat)
  | nilp
  | sl (b off len cap : Nat) (o : Bool)
  | nilsl
  | emp        -- an empty slice, not nil, of unknown place and capacity
  | map (b : Nat)
  | nilmap
  | fn (f : Nat) (first captured : List AV)
  | nilfn
  | yld (b : Nat)
  | iface (t : Nat) (v : AV)
  | niliface
  | mth (name : String) (tbl : List (Nat × Nat × Option (Bool × Nat))) (v : AV)     -- a method of an interface value, bound
  | agg (cs : List AV)
  | tup (vs : List AV)
  deriving Inhabited

/-- the cells of a value that can be stored -/
def AV.cells (v : AV) : Option (List AV) :=
  match v with
  | .agg cs => some cs
  | .tup _ => none
  | v => some [v]

def AV.undef : AV := .tup []

/-! ## Code -/
inductive Opd where
  | t (i : Nat)
  | c (v : AV)
  deriving Inhabited

/-- how a type's values are compared -/
inductive EqP where
  | bool | int | str | ptr | slice | map | func | iface | no
  deriving Inhabited, DecidableEq
inductive EqT where
  | p (e : EqP)
  | struct (fs : List (Nat × EqP))
  deriving Inhabited

inductive ConvK where
  | int (k : IntKind)
  | same
  | bytesToStr
  | intToStr
  deriving Inhabited

inductive SlK where
  | str
  | slice (size : Nat)
  | arr (n size : Nat)
  deriving Inhabited

inductive IxK where
  | arr (n size : Nat)
  | slice (size : Nat)
  deriving Inhabited

inductive QOp where
  | mv (x : Opd)
  | pick (c a b : Opd)
  | build (zero : List AV) (parts : List (Nat × Nat × Opd))
  | ld (agg : Bool) (n : Nat) (x : Opd)
  | nilchk (x : Opd)
  | bin (op : BinOp) (e : EqT) (x y : Opd)
  | un (op : UnOp) (x : Opd)
  | conv (k : ConvK) (x : Opd)
  | mkIface (t : Nat) (x : Opd)
  | mkFunc (f : Nat) (first captured : List Opd)
  | slc (k : SlK) (x : Opd) (lo hi mx : Option Opd)
  | faddr (off : Nat) (x : Opd)
  | fld (agg : Bool) (off n : Nat) (x : Opd)
  | iaddr (k : IxK) (x ix : Opd)
  | idxArr (agg : Bool) (n size : Nat) (x ix : Opd)
  | idxStr (x ix : Opd)
  | lookup (e : EqT) (zero : AV) (commaOk : Bool) (m key : Opd)
  | tassert (t : Nat) (zero : AV) (commaOk : Bool) (x : Opd)
  | extract (x : Opd) (i : Nat)
  | lenArr (n : Nat)
  | lenStr (x : Opd)
  | lenSl (x : Opd)
  | lenMap (x : Opd)
  | capSl (x : Opd)
  | minmax (isMax : Bool) (xs : List Opd)
  | mkMeth (name : String) (tbl : List (Nat × Nat × Option (Bool × Nat))) (x : Opd)
  deriving Inhabited

inductive AlOp where
  | alloc (t : Nat) (cells : List AV)
  | box (t : Nat) (x : Opd)
  | bslice (t size len : Nat) (zero : List AV) (parts : List (Nat × Opd))
  | mkSlice (t size bytes : Nat) (zero : List AV) (l c : Opd)
  | mkMap
  | strBytes (t : Nat) (x : Opd)
  deriving Inhabited

/-- functions without a body that are known -/
inductive ExtK where
  | add64 | idxByte | idxStr
  deriving Inhabited

inductive XOp where
  | st (n : Nat) (x v : Opd)
  | call (f : Opd) (args : List Opd)
  | inv (tbl : List (Nat × Nat × Option (Bool × Nat))) (recv : Opd) (args : List Opd)
  | app (t size bytes : Nat) (s x : Opd)
  | copy (size : Nat) (d s : Opd)
  | mapUpd (e : EqT) (m k v : Opd)
  | mapDel (e : EqT) (m k : Opd)
  | clr (zero : List AV) (x : Opd)
  | ext (k : ExtK) (args : List Opd)
  | bad
  deriving Inhabited

inductive AOp where
  | q (o : QOp)
  | a (o : AlOp)
  | x (o : XOp)
  deriving Inhabited

structure AO where
  dst : Option Nat
  op : AOp
  grd : Option (Nat × Bool)
  mask : Nat      -- the operations before it (drawn regions)
  deriving Inhabited

inductive AC where
  | skip
  | seq (a b : AC)
  | cond (c : Opd) (a b : AC)
  | block (id : Nat) (c : AC)
  | loop (c : AC)
  | exit (id : Nat)
  | ret
  | reg (ops : List AO)
  | drw (ops : List AO)
  | rng (f : Opd) (params : List Nat) (assign body : AC)
  | dfr (ops : List AO) (f : Opd) (args : List Opd)
  deriving Inhabited

inductive RV where
  | t (i : Nat)
  | cell (a : Nat) (agg : Bool) (n : Nat)
  deriving Inhabited

structure AFn where
  ntmps : Nat
  res : List RV
  body : AC
  deriving Inhabited

abbrev Fr := T AV

inductive LSt where
  | ready | busy | done | exhausted
  deriving DecidableEq, Inhabited

inductive Out where
  | normal
  | exit (id : Nat)
  | ret
  deriving Inhabited

/-- a block -/
inductive AB where
  | cells (cs : List AV) (opn : Bool) (size : Nat)     -- opn: there may be more room behind; size: the cells of an element then
  | ro (cs : List AV)
  | map (es : List (AV × AV))
  | loop (st : LSt) (pend : Option Out) (fr : Fr) (params : List Nat) (assign body : AC)
  | dfd
  deriving Inhabited

structure St where
  h : T AB
  nx : Nat

/-! ## Operands -/
def tmpV (i : Nat) (F : Fr) : AV := Option.rec (motive := fun _ => AV) .undef (fun v => v) (F.get i)
def constV (v : AV) (_ : Fr) : AV := v
def Opd.val (x : Opd) : Fr → AV := Opd.rec (motive := fun _ => Fr → AV) tmpV constV x
def valsOf (l : List Opd) : Fr → List AV := List.rec (motive := fun _ => Fr → List AV) (fun _ => []) (fun x _ ih F => x.val F :: ih F) l
def nth {α : Type} (l : List α) : Nat → Option α := List.rec (motive := fun _ => Nat → Option α) (fun _ => none) (fun x _ ih k => bsel (Nat.beq k 0) (some x) (ih (Nat.sub k 1))) l
def dropL {α : Type} (l : List α) : Nat → List α := List.rec (motive := fun _ => Nat → List α) (fun _ => []) (fun x xs ih k => bsel (Nat.beq k 0) (x :: xs) (ih (Nat.sub k 1))) l
def takeL {α : Type} (l : List α) : Nat → Option (List α) :=
  List.rec (motive := fun _ => Nat → Option (List α)) (fun n => bsel (Nat.beq n 0) (some []) none)
    (fun x _ ih n => bsel (Nat.beq n 0) (some []) (osel (ih (Nat.sub n 1)) fun r => some (x :: r))) l
/-- put the cells vs at the head of l -/
def overL {α : Type} (vs : List α) : List α → Option (List α) :=
  List.rec (motive := fun _ => List α → Option (List α)) (fun l => some l)
    (fun v _ ih l => List.rec (motive := fun _ => Option (List α)) none (fun _ xs _ => osel (ih xs) fun r => some (v :: r)) l) vs
def put {α : Type} (l : List α) : Nat → List α → Option (List α) :=
  List.rec (motive := fun _ => Nat → List α → Option (List α)) (fun k vs => bsel (Nat.beq k 0) (overL vs []) none)
    (fun x xs ih k vs => bsel (Nat.beq k 0) (overL vs (x :: xs)) (osel (ih (Nat.sub k 1) vs) fun r => some (x :: r))) l
def lenL {α : Type} (l : List α) : Nat := List.rec (motive := fun _ => Nat) 0 (fun _ _ ih => Nat.succ ih) l
def appL {α : Type} (l m : List α) : List α := List.rec (motive := fun _ => List α) m (fun x _ ih => x :: ih) l
def repeatL {α : Type} (z : List α) (n : Nat) : List α := Nat.rec (motive := fun _ => List α) [] (fun _ ih => appL z ih) n

/-- the cells from i on, n of them -/
def cut {α : Type} (l : List α) (i n : Nat) : Option (List α) := takeL (dropL l i) n

/-! ## integers -/
def maxN (k : IntKind) : Nat :=
  match k with
  | .i8 => 127 | .i16 => 32767 | .i32 => 2147483647 | .i64 => 9223372036854775807
  | .u8 => 255 | .u16 => 65535 | .u32 => 4294967295 | .u64 => 18446744073709551615
/-- a natural number as a value of a kind -/
def nat (k : IntKind) (n : Nat) : Int := bsel (Nat.ble n (maxN k)) (.ofNat n) (k.wrap (.ofNat n))
def isSigned (k : IntKind) : Bool :=
  match k with
  | .i8 | .i16 | .i32 | .i64 => true
  | _ => false
def neg (k : IntKind) (n : Nat) : Int := bsel (isSigned k) (bsel (Nat.ble n (maxN k)) (.negSucc n) (k.wrap (.negSucc n))) (k.wrap (.negSucc n))
def inRange (k : IntKind) (n : Nat) : Bool := Nat.ble n (maxN k)
def wrapF (k : IntKind) (n : Int) : Int := Int.rec (motive := fun _ => Int) (fun m => nat k m) (fun m => neg k m) n
def iSubNN (k : IntKind) (a b : Nat) : Int := bsel (Nat.ble b a) (nat k (Nat.sub a b)) (neg k (Nat.sub (Nat.sub b a) 1))
def iAddV (k : IntKind) (x y : Int) : Int :=
  Int.rec (motive := fun _ => Int) (fun a => Int.rec (motive := fun _ => Int) (fun b => nat k (Nat.add a b)) (fun b => iSubNN k a (Nat.succ b)) y)
    (fun a => Int.rec (motive := fun _ => Int) (fun b => iSubNN k b (Nat.succ a)) (fun b => neg k (Nat.succ (Nat.add a b))) y) x
def iSubV (k : IntKind) (x y : Int) : Int :=
  Int.rec (motive := fun _ => Int) (fun a => Int.rec (motive := fun _ => Int) (fun b => iSubNN k a b) (fun b => nat k (Nat.add a (Nat.succ b))) y)
    (fun a => Int.rec (motive := fun _ => Int) (fun b => neg k (Nat.add a b)) (fun b => iSubNN k b a) y) x
def iMulV (k : IntKind) (x y : Int) : Int :=
  Int.rec (motive := fun _ => Int) (fun a => Int.rec (motive := fun _ => Int) (fun b => nat k (Nat.mul a b)) (fun b => wrapF k (Int.mul (.ofNat a) (.negSucc b))) y)
    (fun a => wrapF k (Int.mul (.negSucc a) y)) x
def ieq (x y : Int) : Bool :=
  Int.rec (motive := fun _ => Bool) (fun a => Int.rec (motive := fun _ => Bool) (fun b => Nat.beq a b) (fun _ => false) y)
    (fun a => Int.rec (motive := fun _ => Bool) (fun _ => false) (fun b => Nat.beq a b) y) x
def ile (x y : Int) : Bool :=
  Int.rec (motive := fun _ => Bool) (fun a => Int.rec (motive := fun _ => Bool) (fun b => Nat.ble a b) (fun _ => false) y)
    (fun a => Int.rec (motive := fun _ => Bool) (fun _ => true) (fun b => Nat.ble b a) y) x
def keq (x y : IntKind) : Bool := Nat.beq (maxN x) (maxN y)
def beq2 (x y : Bool) : Bool := bsel x y (bsel y false true)

def iAdd (k : IntKind) (x y : Int) : Option AV := some (.int k (iAddV k x y))
def iSub (k : IntKind) (x y : Int) : Option AV := some (.int k (iSubV k x y))
def iMul (k : IntKind) (x y : Int) : Option AV := some (.int k (iMulV k x y))
def iQuo (k : IntKind) (x y : Int) : Option AV :=
  match x, y with
  | .ofNat a, .ofNat b => bsel (Nat.beq b 0) none (some (.int k (nat k (Nat.div a b))))
  | x, y => bsel (ieq y (.ofNat 0)) none (some (.int k (wrapF k (x.tdiv y))))
def iRem (k : IntKind) (x y : Int) : Option AV :=
  match x, y with
  | .ofNat a, .ofNat b => bsel (Nat.beq b 0) none (some (.int k (.ofNat (Nat.mod a b))))
  | x, y => bsel (ieq y (.ofNat 0)) none (some (.int k (x.tmod y)))
def iBits (f : Nat → Nat → Nat) (k : IntKind) (x y : Int) : Option AV :=
  match x, y with
  | .ofNat a, .ofNat b => bsel (inRange k a) (bsel (inRange k b) (some (.int k (.ofNat (f a b)))) none) none
  | _, _ => none
def iAnd := iBits Nat.land
def iOr := iBits Nat.lor
def iXor := iBits Nat.xor
def iEql (_ : IntKind) (x y : Int) : Option AV := some (.bool (ieq x y))
def iNeq (_ : IntKind) (x y : Int) : Option AV := some (.bool (bsel (ieq x y) false true))
def iLss (_ : IntKind) (x y : Int) : Option AV := some (.bool (bsel (ile y x) false true))
def iLeq (_ : IntKind) (x y : Int) : Option AV := some (.bool (ile x y))
def iGtr (_ : IntKind) (x y : Int) : Option AV := some (.bool (bsel (ile x y) false true))
def iGeq (_ : IntKind) (x y : Int) : Option AV := some (.bool (ile y x))
def iNone (_ : IntKind) (_ _ : Int) : Option AV := none

def intBin (op : BinOp) : IntKind → Int → Int → Option AV :=
  BinOp.rec (motive := fun _ => IntKind → Int → Int → Option AV) iAdd iSub iMul iQuo iRem iAnd iOr iXor iNone iNone iNone iEql iNeq iLss iLeq iGtr iGeq op

def shiftN (op : BinOp) (k : IntKind) (x : Int) (b : Nat) : Option AV :=
  let n := bsel (Nat.ble b k.bits) b k.bits
  match op with
  | .shl => some (.int k (iMulV k x (.ofNat (Nat.pow 2 n))))
  | .shr => some (.int k (x.fdiv (.ofNat (Nat.pow 2 n))))
  | _ => none

def shiftBin (op : BinOp) (k : IntKind) (x y : Int) : Option AV :=
  match y with
  | .ofNat b => shiftN op k x b
  | _ => none

def isShift (op : BinOp) : Bool := BinOp.rec (motive := fun _ => Bool) false false false false false false false false true true false false false false false false false op

def strLess : List Nat → List Nat → Bool
  | _, [] => false
  | [], _ :: _ => true
  | a :: x, b :: y => bsel (Nat.blt a b) true (bsel (Nat.beq a b) (strLess x y) false)

def strEq : List Nat → List Nat → Bool
  | [], [] => true
  | a :: x, b :: y => bsel (Nat.beq a b) (strEq x y) false
  | _, _ => false

def strBin (op : BinOp) (a b : List Nat) : Option AV :=
  match op with
  | .add => bsel (Nat.ble (lenL a + lenL b) 9223372036854775807) (some (.str (appL a b))) none
  | .eql => some (.bool (strEq a b))
  | .neq => some (.bool (!strEq a b))
  | .lss => some (.bool (strLess a b))
  | .leq => some (.bool (strLess a b || strEq a b))
  | .gtr => some (.bool (!(strLess a b || strEq a b)))
  | .geq => some (.bool (!strLess a b))
  | _ => none

def partOf (agg : Bool) (cs : List AV) (off n : Nat) : Option AV :=
  bsel agg (osel (cut cs off n) fun r => some (.agg r)) (nth cs off)

def eqp : EqP → AV → AV → Option Bool
  | .bool, .bool a, .bool b => some (beq2 a b)
  | .int, .int k a, .int k' b => bsel (keq k k') (some (ieq a b)) none
  | .str, .str a, .str b => some (strEq a b)
  | .ptr, .nilp, .nilp => some true
  | .ptr, .nilp, .ptr _ _ => some false
  | .ptr, .ptr _ _, .nilp => some false
  | .slice, .nilsl, .nilsl => some true
  | .slice, .nilsl, .sl .. => some false
  | .slice, .sl .., .nilsl => some false
  | .slice, .nilsl, .emp => some false
  | .slice, .emp, .nilsl => some false
  | .map, .nilmap, .nilmap => some true
  | .map, .nilmap, .map _ => some false
  | .map, .map _, .nilmap => some false
  | .func, .nilfn, .nilfn => some true
  | .func, .nilfn, .fn .. => some false
  | .func, .fn .., .nilfn => some false
  | .iface, .niliface, .iface _ _ => some false
  | .iface, .iface _ _, .niliface => some false
  | _, _, _ => none

def eqs : List (Nat × EqP) → List AV → List AV → Option Bool
  | [], _, _ => some true
  | (off, e) :: fs, xs, ys =>
    match nth xs off, nth ys off with
    | some x, some y => match eqp e x y with
      | some true => eqs fs xs ys
      | some false => some false
      | none => none
    | _, _ => none

def eqv : EqT → AV → AV → Option Bool
  | .p e, x, y => eqp e x y
  | .struct fs, .agg xs, .agg ys => bsel (Nat.beq (lenL xs) (lenL fs)) (bsel (Nat.beq (lenL ys) (lenL fs)) (eqs fs xs ys) none) none
  | _, _, _ => none

def eqBin (op : BinOp) (e : EqT) (x y : AV) : Option AV :=
  match op with
  | .eql => osel (eqv e x y) fun b => some (.bool b)
  | .neq => osel (eqv e x y) fun b => some (.bool (bsel b false true))
  | _ => none

def intsBin (op : BinOp) (k : IntKind) (a : Int) (k' : IntKind) (b : Int) : Option AV :=
  bsel (isShift op) (shiftBin op k a b) (bsel (keq k k') (intBin op k a b) none)

/-- the number of a value -/
def intOfV (v : AV) : Option (IntKind × Int) :=
  match v with
  | .int k a => some (k, a)
  | _ => none
def strOfV (v : AV) : Option (List Nat) :=
  match v with
  | .str s => some s
  | _ => none
def binV (op : BinOp) (e : EqT) (x y : AV) : Option AV :=
  match intOfV x, intOfV y with
  | some a, some b => intsBin op a.1 a.2 b.1 b.2
  | _, _ => match strOfV x, strOfV y with
    | some a, some b => strBin op a b
    | _, _ => eqBin op e x y

def unV (op : UnOp) (x : AV) : Option AV :=
  match op, x with
  | .neg, .int k n => some (.int k (iSubV k (.ofNat 0) n))
  | .not, .bool b => some (.bool (bsel b false true))
  | _, _ => none

/-! ## reading the heap -/
def cellsOfB (b : AB) : Option (List AV) :=
  match b with
  | .cells cs _ _ => some cs
  | .ro cs => some cs
  | _ => none

def cellsAt (h : T AB) (b : Nat) : Option (List AV) := osel (h.get b) cellsOfB

def loadN (h : T AB) (b off n : Nat) : Option (List AV) := osel (cellsAt h b) fun cs => cut cs off n

def load1 (h : T AB) (b off : Nat) : Option AV := osel (cellsAt h b) fun cs => nth cs off

def loadV (agg : Bool) (n : Nat) (h : T AB) (b off : Nat) : Option AV :=
  bsel agg (osel (loadN h b off n) fun cs => some (.agg cs)) (load1 h b off)

def fillP (zero : List AV) : List (Nat × Nat × AV) → Option (List AV)
  | [] => some zero
  | (off, n, v) :: ps => osel v.cells fun cs => bsel (Nat.beq (lenL cs) n) (osel (put zero off cs) fun z => fillP z ps) none

def bytesOf : List AV → Option (List Nat)
  | [] => some []
  | .int .u8 (.ofNat n) :: vs => bsel (Nat.ble n 255) (osel (bytesOf vs) fun r => some (n :: r)) none
  | _ :: _ => none

def natOf (v : AV) : Option Nat :=
  match v with
  | .int _ (.ofNat n) => some n
  | _ => none

def optNat (F : Fr) (d : Nat) (x : Option Opd) : Option Nat :=
  match x with
  | none => some d
  | some x => natOf (x.val F)

def findK (e : EqT) (k : AV) : List (AV × AV) → Nat → Option (Option (Nat × AV))
  | [], _ => some none
  | (k', v) :: es, i => osel (eqv e k k') fun b => bsel b (some (some (i, v))) (findK e k es (Nat.succ i))

/-- the key is looked at, too -/
def findKK (e : EqT) (k : AV) (es : List (AV × AV)) : Option (Option (Nat × AV)) := osel (eqv e k k) fun _ => findK e k es 0

def mapOfB (b : AB) : Option (List (AV × AV)) :=
  match b with
  | .map es => some es
  | _ => none

def mapAt (h : T AB) (m : AV) : Option (List (AV × AV)) :=
  match m with
  | .nilmap => some []
  | .map b => osel (h.get b) mapOfB
  | _ => none

def minmaxV (isMax : Bool) : List AV → AV → Option AV
  | [], x => some x
  | .int k' b :: vs, .int k a => bsel (keq k k')
      (minmaxV isMax vs (.int k (bsel isMax (bsel (ile b a) a b) (bsel (ile a b) a b)))) none
  | _, _ => none

/-! ### the quiet operations -/
abbrev QF := Fr → T AB → Option AV
def qMv (x : Opd) : QF := fun F _ => some (x.val F)
def qPickB (v : AV) (a b : Opd) (F : Fr) : Option AV :=
  match v with
  | .bool t => some (bsel t (a.val F) (b.val F))
  | _ => none
def qPick (c a b : Opd) : QF := fun F _ => qPickB (c.val F) a b F
def partsV (F : Fr) : List (Nat × Nat × Opd) → List (Nat × Nat × AV)
  | [] => []
  | (a, b, x) :: ps => (a, b, x.val F) :: partsV F ps
def qBuild (zero : List AV) (ps : List (Nat × Nat × Opd)) : QF := fun F _ => osel (fillP zero (partsV F ps)) fun cs => some (.agg cs)
def qLdV (v : AV) (agg : Bool) (n : Nat) (h : T AB) : Option AV :=
  match v with
  | .ptr b off => loadV agg n h b off
  | _ => none
def qLd (agg : Bool) (n : Nat) (x : Opd) : QF := fun F h => qLdV (x.val F) agg n h
def findM {α : Type} (t : Nat) : List (Nat × α) → Option α
  | [] => none
  | (u, a) :: l => bsel (Nat.beq t u) (some a) (findM t l)
/-- the receiver of a bound method is at hand: no nil pointer -/
def mthOk (n : String) (tbl : List (Nat × Nat × Option (Bool × Nat))) (v : AV) : Option AV :=
  match v with
  | .iface t w => osel (findM t tbl) fun r => match r.2, w with
    | none, _ => some (.mth n tbl v)
    | some _, .ptr _ _ => some (.mth n tbl v)
    | _, _ => none
  | _ => none
def nilchkV (v : AV) : Option AV :=
  match v with
  | .ptr b o => some (.ptr b o)
  | .fn f a b => some (.fn f a b)
  | .iface t v => some (.iface t v)
  | .yld b => some (.yld b)
  | .mth n tbl v => mthOk n tbl v
  | _ => none
def qNilchk (x : Opd) : QF := fun F _ => nilchkV (x.val F)
def qBin (op : BinOp) (e : EqT) (x y : Opd) : QF := fun F _ => binV op e (x.val F) (y.val F)
def qUn (op : UnOp) (x : Opd) : QF := fun F _ => unV op (x.val F)
def strOfCells (h : T AB) (b off len : Nat) : Option AV := osel (loadN h b off len) fun cs => osel (bytesOf cs) fun s => some (.str s)
def convV (k : ConvK) (v : AV) (h : T AB) : Option AV :=
  match k, v with
  | .int k, .int _ n => some (.int k (wrapF k n))
  | .same, .str s => some (.str s)
  | .bytesToStr, .nilsl => some (.str [])
  | .bytesToStr, .emp => some (.str [])
  | .bytesToStr, .sl b off len _ _ => strOfCells h b off len
  | .intToStr, .int _ (.ofNat n) => bsel (Nat.ble n 127) (some (.str [n])) none
  | _, _ => none
def qConv (k : ConvK) (x : Opd) : QF := fun F h => convV k (x.val F) h
def qMkIface (t : Nat) (x : Opd) : QF := fun F _ => some (.iface t (x.val F))
def qMkFunc (f : Nat) (first cap : List Opd) : QF := fun F _ => some (.fn f (valsOf first F) (valsOf cap F))
def slStr (s : List Nat) (lo hi mx : Option Opd) (F : Fr) : Option AV :=
  match mx with
  | some _ => none
  | none => osel (optNat F (lenL s) hi) fun h' => osel (optNat F 0 lo) fun l =>
      bsel (Nat.ble h' (lenL s)) (bsel (Nat.ble l h') (osel (cut s l (h' - l)) fun r => some (.str r)) none) none
/-- the bounds of a slice expression -/
def bounds (len cap : Nat) (lo hi mx : Option Opd) (F : Fr) : Option (Nat × Nat × Nat) :=
  osel (optNat F cap mx) fun m => osel (optNat F len hi) fun h => osel (optNat F 0 lo) fun l =>
    bsel (Nat.ble m cap) (bsel (Nat.ble h m) (bsel (Nat.ble l h) (some (l, h, m)) none) none) none
def slSl (size b off len cap : Nat) (o : Bool) (lo hi mx : Option Opd) (F : Fr) : Option AV :=
  osel (bounds len cap lo hi mx F) fun x =>
    let o' := bsel o mx.isNone false
    bsel (Nat.beq x.2.2 x.1) (bsel o' (some .emp) (some (.sl b off (x.2.1 - x.1) (x.2.2 - x.1) false)))
      (some (.sl b (off + x.1 * size) (x.2.1 - x.1) (x.2.2 - x.1) o'))
def slEmp (lo hi mx : Option Opd) (F : Fr) : Option AV := osel (bounds 0 0 lo hi mx F) fun _ => some .emp
def slNil (lo hi mx : Option Opd) (F : Fr) : Option AV := osel (bounds 0 0 lo hi mx F) fun _ => some .nilsl
def slArr (n size b off : Nat) (lo hi mx : Option Opd) (F : Fr) : Option AV :=
  osel (bounds n n lo hi mx F) fun x =>
    bsel (Nat.beq x.2.2 x.1) (some (.sl b off (x.2.1 - x.1) (x.2.2 - x.1) false))
      (some (.sl b (off + x.1 * size) (x.2.1 - x.1) (x.2.2 - x.1) false))
def slcV (k : SlK) (v : AV) (lo hi mx : Option Opd) (F : Fr) : Option AV :=
  match k, v with
  | .str, .str s => slStr s lo hi mx F
  | .slice size, .sl b off len cap o => slSl size b off len cap o lo hi mx F
  | .slice _, .nilsl => slNil lo hi mx F
  | .slice _, .emp => slEmp lo hi mx F
  | .arr n size, .ptr b off => slArr n size b off lo hi mx F
  | _, _ => none
def qSlc (k : SlK) (x : Opd) (lo hi mx : Option Opd) : QF := fun F _ => slcV k (x.val F) lo hi mx F
def faddrV (v : AV) (off : Nat) : Option AV :=
  match v with
  | .ptr b o => some (.ptr b (o + off))
  | _ => none
def qFaddr (off : Nat) (x : Opd) : QF := fun F _ => faddrV (x.val F) off
def fldV (v : AV) (agg : Bool) (off n : Nat) : Option AV :=
  match v with
  | .agg cs => partOf agg cs off n
  | _ => none
def qFld (agg : Bool) (off n : Nat) (x : Opd) : QF := fun F _ => fldV (x.val F) agg off n
def iaddrV (k : IxK) (v : AV) (i : Nat) : Option AV :=
  match k, v with
  | .arr n size, .ptr b off => bsel (Nat.blt i n) (some (.ptr b (off + i * size))) none
  | .slice size, .sl b off len _ _ => bsel (Nat.blt i len) (some (.ptr b (off + i * size))) none
  | _, _ => none
def qIaddr (k : IxK) (x ix : Opd) : QF := fun F _ => osel (natOf (ix.val F)) fun i => iaddrV k (x.val F) i
def idxArrV (v : AV) (agg : Bool) (n size i : Nat) : Option AV :=
  match v with
  | .agg cs => bsel (Nat.blt i n) (partOf agg cs (i * size) size) none
  | _ => none
def qIdxArr (agg : Bool) (n size : Nat) (x ix : Opd) : QF := fun F _ => osel (natOf (ix.val F)) fun i => idxArrV (x.val F) agg n size i
def idxStrV (v : AV) (i : Nat) : Option AV :=
  match v with
  | .str s => osel (nth s i) fun b => some (.int .u8 (.ofNat b))
  | _ => none
def qIdxStr (x ix : Opd) : QF := fun F _ => osel (natOf (ix.val F)) fun i => idxStrV (x.val F) i
def withOk (ok : Bool) (v : AV) (b : Bool) : AV := bsel ok (.tup [v, .bool b]) v
def lookupV (r : Option (Nat × AV)) (zero : AV) (ok : Bool) : Option AV :=
  match r with
  | some (_, v) => some (withOk ok v true)
  | none => some (withOk ok zero false)
def qLookup (sk : EqT) (zero : AV) (ok : Bool) (m key : Opd) : QF := fun F h =>
  osel (mapAt h (m.val F)) fun es => osel (findKK sk (key.val F) es) fun r => lookupV r zero ok
def tassertV (v : AV) (t : Nat) (zero : AV) (ok : Bool) : Option AV :=
  match v with
  | .iface t' v => bsel (Nat.beq t t') (some (withOk ok v true)) (bsel ok (some (.tup [zero, .bool false])) none)
  | .niliface => bsel ok (some (.tup [zero, .bool false])) none
  | _ => none
def qTassert (t : Nat) (zero : AV) (ok : Bool) (x : Opd) : QF := fun F _ => tassertV (x.val F) t zero ok
def extractV (v : AV) (i : Nat) : Option AV :=
  match v with
  | .tup vs => nth vs i
  | _ => none
def qExtract (x : Opd) (i : Nat) : QF := fun F _ => extractV (x.val F) i
def qLenArr (n : Nat) : QF := fun _ _ => some (.int .i64 (.ofNat n))
def lenStrV (v : AV) : Option AV :=
  match v with
  | .str s => some (.int .i64 (.ofNat (lenL s)))
  | _ => none
def qLenStr (x : Opd) : QF := fun F _ => lenStrV (x.val F)
def lenSlV (v : AV) : Option AV :=
  match v with
  | .nilsl => some (.int .i64 (.ofNat 0))
  | .emp => some (.int .i64 (.ofNat 0))
  | .sl _ _ n _ _ => some (.int .i64 (.ofNat n))
  | _ => none
def qLenSl (x : Opd) : QF := fun F _ => lenSlV (x.val F)
def qLenMap (x : Opd) : QF := fun F h => osel (mapAt h (x.val F)) fun es => some (.int .i64 (.ofNat (lenL es)))
def capSlV (v : AV) : Option AV :=
  match v with
  | .nilsl => some (.int .i64 (.ofNat 0))
  | .sl _ _ _ c false => some (.int .i64 (.ofNat c))
  | _ => none
def qCapSl (x : Opd) : QF := fun F _ => capSlV (x.val F)
def minmaxL (isMax : Bool) (l : List AV) : Option AV :=
  match l with
  | [] => none
  | v :: vs => minmaxV isMax vs v
def qMkMeth (n : String) (tbl : List (Nat × Nat × Option (Bool × Nat))) (x : Opd) : QF := fun F _ => some (.mth n tbl (x.val F))
def qMinmax (mx : Bool) (xs : List Opd) : QF := fun F _ => minmaxL mx (valsOf xs F)

def evQ (q : QOp) : QF :=
  QOp.rec (motive := fun _ => QF) qMv qPick qBuild qLd qNilchk qBin qUn qConv qMkIface qMkFunc qSlc qFaddr qFld qIaddr qIdxArr qIdxStr qLookup qTassert qExtract qLenArr qLenStr qLenSl qLenMap qCapSl qMinmax qMkMeth q

/-! ### a new block at id -/
abbrev AF := Fr → Nat → Option (AV × AB)
def room : Nat := 140737488355328
def aAlloc (_ : Nat) (cells : List AV) : AF := fun _ id => some (.ptr id 0, .cells cells false 0)
def aBox (_ : Nat) (x : Opd) : AF := fun F id => osel (x.val F).cells fun cs => some (.ptr id 0, .cells cs false 0)
def parts2V (size : Nat) (F : Fr) : List (Nat × Opd) → List (Nat × Nat × AV)
  | [] => []
  | (i, x) :: ps => (i * size, size, x.val F) :: parts2V size F ps
def aBslice (_ size len : Nat) (zero : List AV) (ps : List (Nat × Opd)) : AF := fun F id =>
  osel (fillP (repeatL zero len) (parts2V size F ps)) fun cs => some (.sl id 0 len len false, .cells cs false 0)
def aMkSlice (_ _ bytes : Nat) (zero : List AV) (l c : Opd) : AF := fun F id =>
  osel (natOf (l.val F)) fun l => osel (natOf (c.val F)) fun c =>
    bsel (Nat.ble l c) (bsel (Nat.ble c room) (bsel (Nat.ble (bytes * c) room) (some (.sl id 0 l c false, .cells (repeatL zero c) false 0)) none) none) none
def aMkMap : AF := fun _ id => some (.map id, .map [])
def byteCells : List Nat → List AV
  | [] => []
  | b :: bs => .int .u8 (.ofNat b) :: byteCells bs
def strBytesV (v : AV) (id : Nat) : Option (AV × AB) :=
  match v with
  | .str s => some (.sl id 0 (lenL s) (lenL s) true, .cells (byteCells s) true 1)
  | _ => none
def aStrBytes (_ : Nat) (x : Opd) : AF := fun F id => strBytesV (x.val F) id
def evA (a : AlOp) : AF := AlOp.rec (motive := fun _ => AF) aAlloc aBox aBslice aMkSlice aMkMap aStrBytes a

/-! ### what writes -/
def storeB (bl : AB) (S : St) (b off : Nat) (vs : List AV) : Option St :=
  match bl with
  | .cells cs o s => osel (put cs off vs) fun cs' => some ⟨S.h.set b (some (.cells cs' o s)), S.nx⟩
  | _ => none
def storeN (S : St) (b off : Nat) (vs : List AV) : Option St := osel (S.h.get b) fun bl => storeB bl S b off vs

/-- the cells of what is appended or copied -/
def srcCells (v : AV) (h : T AB) (size n : Nat) : Option (List AV) :=
  match v with
  | .sl b off _ _ _ => loadN h b off (n * size)
  | .nilsl => bsel (Nat.beq n 0) (some []) none
  | .emp => bsel (Nat.beq n 0) (some []) none
  | .str s => bsel (Nat.beq size 1) (osel (takeL s n) fun r => some (byteCells r)) none
  | _ => none

def lenOfV (v : AV) : Option Nat :=
  match v with
  | .sl _ _ n _ _ => some n
  | .nilsl => some 0
  | .emp => some 0
  | .str s => some (lenL s)
  | _ => none

/-- a grown slice in a new block -/
def grown (h : T AB) (nx need size : Nat) (cs : List AV) : Option (AV × St) :=
  some (.sl nx 0 need need true, ⟨h.set nx (some (.cells cs true size)), Nat.succ nx⟩)

def growB (bl : AB) (size b off len cap : Nat) (o : Bool) (n : Nat) (new : List AV) (S : St) : Option (AV × St) :=
  match bl with
  | .cells cs o' sz => osel (cut cs off (len * size)) fun old =>
      bsel o
        -- the old block is given up: the new slice may lie in it or in a new one
        (bsel o' (bsel (Nat.beq sz size) (bsel (Nat.beq (off + cap * size) (lenL cs)) (grown (S.h.set b none) S.nx (len + n) size (appL old new)) none) none) none)
        (grown S.h S.nx (len + n) size (appL old new))
  | .ro cs => bsel o none (osel (cut cs off (len * size)) fun old => grown S.h S.nx (len + n) size (appL old new))
  | _ => none

def appSl (bytes size b off len cap : Nat) (o : Bool) (n : Nat) (new : List AV) (S : St) : Option (AV × St) :=
  bsel (Nat.ble (len + n) cap)
    (bsel (Nat.beq n 0) (some (.sl b off len cap o, S)) (osel (storeN S b (off + len * size) new) fun S' => some (.sl b off (len + n) cap o, S')))
    (bsel (Nat.ble (len + n) room) (bsel (Nat.ble ((len + n) * bytes) room) (osel (S.h.get b) fun bl => growB bl size b off len cap o n new S) none) none)

def appNil (bytes size n : Nat) (new : List AV) (S : St) : Option (AV × St) :=
  bsel (Nat.beq n 0) (some (.nilsl, S))
    (bsel (Nat.ble n room) (bsel (Nat.ble (n * bytes) room) (grown S.h S.nx n size new) none) none)

def appV (s : AV) (bytes size n : Nat) (new : List AV) (S : St) : Option (AV × St) :=
  match s with
  | .nilsl => appNil bytes size n new S
  | .emp => bsel (Nat.beq n 0) (some (.emp, S)) none
  | .sl b off len cap o => appSl bytes size b off len cap o n new S
  | _ => none

def appendV (bytes size : Nat) (s x : AV) (S : St) : Option (AV × St) :=
  osel (lenOfV x) fun n => osel (srcCells x S.h size n) fun new => appV s bytes size n new S

def modifyAt {α : Type} (f : α → α) : List α → Nat → List α
  | [], _ => []
  | x :: xs, k => bsel (Nat.beq k 0) (f x :: xs) (x :: modifyAt f xs (k - 1))

/-- an activation: its slots, and whether it is a round of a range over a function -/
structure Act' where
  F : Fr
  inr : Bool

abbrev CallF := AV → List AV → St → Option (AV × St)
abbrev XF := CallF → Fr → St → Option (AV × St)

def xStV (p : AV) (n : Nat) (cs : List AV) (S : St) : Option (AV × St) :=
  match p with
  | .ptr b off => bsel (Nat.beq (lenL cs) n) (osel (storeN S b off cs) fun S' => some (.undef, S')) none
  | _ => none
def xSt (n : Nat) (x v : Opd) : XF := fun _ F S => osel (v.val F).cells fun cs => xStV (x.val F) n cs S
def xCall (f : Opd) (args : List Opd) : XF := fun call F S => call (f.val F) (valsOf args F) S
def invPtr (v : AV) (f : Nat) (agg : Bool) (n : Nat) (args : List AV) (call : CallF) (S : St) : Option (AV × St) :=
  match v with
  | .ptr b off => osel (loadV agg n S.h b off) fun r => call (.fn f [r] []) args S
  | _ => none
def invRow (r : Nat × Option (Bool × Nat)) (v : AV) (args : List AV) (call : CallF) (S : St) : Option (AV × St) :=
  match r with
  | (f, none) => call (.fn f [v] []) args S
  | (f, some (agg, n)) => invPtr v f agg n args call S
def invV (v : AV) (tbl : List (Nat × Nat × Option (Bool × Nat))) (args : List AV) (call : CallF) (S : St) : Option (AV × St) :=
  match v with
  | .iface t v => osel (findM t tbl) fun r => invRow r v args call S
  | _ => none
def xInv (tbl : List (Nat × Nat × Option (Bool × Nat))) (recv : Opd) (args : List Opd) : XF := fun call F S => invV (recv.val F) tbl (valsOf args F) call S
def xApp (_ size bytes : Nat) (s x : Opd) : XF := fun _ F S => appendV bytes size (s.val F) (x.val F) S
def copyV (d : AV) (size m : Nat) (s : AV) (S : St) : Option (AV × St) :=
  match d with
  | .nilsl => some (.int .i64 (.ofNat 0), S)
  | .emp => some (.int .i64 (.ofNat 0), S)
  | .sl b off len _ _ =>
    let n := bsel (Nat.ble m len) m len
    bsel (Nat.beq n 0) (some (.int .i64 (.ofNat 0), S)) (osel (srcCells s S.h size n) fun cs => osel (storeN S b off cs) fun S' => some (.int .i64 (.ofNat n), S'))
  | _ => none
def lenOfS (v : AV) : Option Nat :=
  match v with
  | .sl _ _ n _ _ => some n
  | .nilsl => some 0
  | .emp => some 0
  | _ => none
def xCopy (size : Nat) (d s : Opd) : XF := fun _ F S => osel (lenOfS (s.val F)) fun m => copyV (d.val F) size m (s.val F) S
def mapPut (r : Option (Nat × AV)) (es : List (AV × AV)) (k v : AV) : List (AV × AV) :=
  match r with
  | some (i, _) => modifyAt (fun _ => (k, v)) es i
  | none => appL es [(k, v)]
def mapUpdV (m : AV) (sk : EqT) (k v : AV) (S : St) : Option (AV × St) :=
  match m with
  | .map b => osel (osel (S.h.get b) mapOfB) fun es => osel (findKK sk k es) fun r => some (.undef, ⟨S.h.set b (some (.map (mapPut r es k v))), S.nx⟩)
  | _ => none
def xMapUpd (sk : EqT) (m k v : Opd) : XF := fun _ F S => mapUpdV (m.val F) sk (k.val F) (v.val F) S
def mapDelR (r : Option (Nat × AV)) (es : List (AV × AV)) (b : Nat) (S : St) : Option (AV × St) :=
  match r with
  | some (i, _) => some (.undef, ⟨S.h.set b (some (.map (es.eraseIdx i))), S.nx⟩)
  | none => some (.undef, S)
def mapDelV (m : AV) (sk : EqT) (k : AV) (S : St) : Option (AV × St) :=
  match m with
  | .map b => osel (osel (S.h.get b) mapOfB) fun es => osel (findKK sk k es) fun r => mapDelR r es b S
  | .nilmap => some (.undef, S)
  | _ => none
def xMapDel (sk : EqT) (m k : Opd) : XF := fun _ F S => mapDelV (m.val F) sk (k.val F) S
def clrV (x : AV) (zero : List AV) (S : St) : Option (AV × St) :=
  match x with
  | .nilsl => some (.undef, S)
  | .emp => some (.undef, S)
  | .sl b off n _ _ => bsel (Nat.beq n 0) (some (.undef, S)) (osel (storeN S b off (repeatL zero n)) fun S' => some (.undef, S'))
  | _ => none
def xClr (zero : List AV) (x : Opd) : XF := fun _ F S => clrV (x.val F) zero S
def add64V (a b c : Nat) : AV :=
  .tup [.int .u64 (.ofNat (Nat.mod (Nat.add (Nat.add a b) c) 18446744073709551616)), .int .u64 (.ofNat (Nat.div (Nat.add (Nat.add a b) c) 18446744073709551616))]
def findByte (c : Nat) : List Nat → Nat → Int
  | [], _ => .negSucc 0
  | b :: bs, i => bsel (Nat.beq b c) (.ofNat i) (findByte c bs (Nat.succ i))
def extV (k : ExtK) (args : List AV) : Option AV :=
  match k, args with
  | .add64, [.int .u64 (.ofNat a), .int .u64 (.ofNat b), .int .u64 (.ofNat c)] => bsel (Nat.ble c 1) (some (add64V a b c)) none
  | .idxByte, [.str s, .int .u8 (.ofNat c)] => bsel (Nat.ble c 255) (some (.int .i64 (findByte c s 0))) none
  | _, _ => none
def xExt (k : ExtK) (args : List Opd) : XF := fun _ F S => osel (extV k (valsOf args F)) fun v => some (v, S)
def xBad : XF := fun _ _ _ => none
def evX (x : XOp) : XF := XOp.rec (motive := fun _ => XF) xSt xCall xInv xApp xCopy xMapUpd xMapDel xClr xExt xBad x

def isB (v : AV) (w : Bool) : Bool :=
  match v with
  | .bool b => beq2 b w
  | _ => false
def putF (d : Option Nat) : Fr → AV → Fr := Option.rec (motive := fun _ => Fr → AV → Fr) (fun F _ => F) (fun i F v => F.set i (some v)) d
def wants (g : Option (Nat × Bool)) : Fr → Bool := Option.rec (motive := fun _ => Fr → Bool) (fun _ => true) (fun p F => isB (tmpV p.1 F) p.2) g

/-! ### a plain region -/
abbrev OF := Option Nat → CallF → Fr → St → Option (Fr × St)
def oQ (q : QOp) : OF := fun d _ F S => osel (evQ q F S.h) fun v => some (putF d F v, S)
def oA (a : AlOp) : OF := fun d _ F S => osel (evA a F S.nx) fun r => some (putF d F r.1, ⟨S.h.set S.nx (some r.2), Nat.succ S.nx⟩)
def oX (x : XOp) : OF := fun d call F S => osel (evX x call F S) fun r => some (putF d F r.1, r.2)
def oOp (o : AOp) : OF := AOp.rec (motive := fun _ => OF) oQ oA oX o
def evOp (o : AO) (call : CallF) (F : Fr) (S : St) : Option (Fr × St) :=
  bsel (wants o.grd F) (oOp o.op o.dst call F S) (some (putF o.dst F .undef, S))
def evOps (l : List AO) : CallF → Fr → St → Option (Fr × St) :=
  List.rec (motive := fun _ => CallF → Fr → St → Option (Fr × St)) (fun _ F S => some (F, S)) (fun o _ ih call F S => osel (evOp o call F S) fun r => ih call r.1 r.2) l

/-! ### a region that draws its order -/
structure Pend where
  i : Nat
  id : Nat
  b : AB

/-- lay the blocks that stand before an operation -/
def flush (mask : Nat) : List Pend → T AB → List Pend × T AB
  | [], h => ([], h)
  | p :: ps, h => bsel (Nat.testBit mask p.i) (flush mask ps (h.set p.id (some p.b))) (p :: (flush mask ps h).1, (flush mask ps h).2)

/-- a load that was made -/
structure Loaded where
  q : QOp
  F : Fr
  v : AV
  i : Nat
  mask : Nat

def isLoad (q : QOp) : Bool :=
  match q with
  | .ld .. | .lookup .. | .lenMap .. => true
  | .conv .bytesToStr _ => true
  | _ => false

/-- where a region's walk stands: F, S, what is made and not yet laid, the heaps behind each chain operation (newest first, with its place and mask), the loads -/
structure DS where
  F : Fr
  S : St
  ps : List Pend
  hs : List (Nat × Nat × T AB)
  ls : List Loaded

abbrev DF := AO → Nat → Nat → CallF → DS → Option DS
def dQ (q : QOp) : DF := fun o i _ _ D => osel (evQ q D.F D.S.h) fun v =>
  some ⟨putF o.dst D.F v, D.S, D.ps, D.hs, bsel (isLoad q) (⟨q, D.F, v, i, o.mask⟩ :: D.ls) D.ls⟩
def dA (a : AlOp) : DF := fun o i base _ D => osel (evA a D.F (base + i)) fun r =>
  some ⟨putF o.dst D.F r.1, D.S, ⟨i, base + i, r.2⟩ :: D.ps, D.hs, D.ls⟩
/-- the chain operation before this one stands before it -/
def lastOk (hs : List (Nat × Nat × T AB)) (mask : Nat) : Bool :=
  match hs with
  | [] => true
  | e :: _ => Nat.testBit mask e.1
def dX (x : XOp) : DF := fun o i _ call D =>
  bsel (lastOk D.hs o.mask) (osel (evX x call D.F ⟨(flush o.mask D.ps D.S.h).2, D.S.nx⟩) fun r =>
    some ⟨putF o.dst D.F r.1, r.2, (flush o.mask D.ps D.S.h).1, (i, o.mask, r.2.h) :: D.hs, D.ls⟩) none
def dOp (o : AOp) : DF := AOp.rec (motive := fun _ => DF) dQ dA dX o
def evD (o : AO) (i base : Nat) (call : CallF) (D : DS) : Option DS :=
  bsel (wants o.grd D.F) (dOp o.op o i base call D) (some ⟨putF o.dst D.F .undef, D.S, D.ps, D.hs, D.ls⟩)
def evDs : List AO → Nat → Nat → CallF → DS → Option DS
  | [], _, _, _, D => some D
  | o :: os, i, base, call, D => osel (evD o i base call D) fun D' => evDs os (i + 1) base call D'

mutual
def sameV : AV → AV → Bool
  | .bool a, .bool b => beq2 a b
  | .int k a, .int j b => bsel (keq k j) (ieq a b) false
  | .str a, .str b => strEq a b
  | .ptr a b, .ptr c d => bsel (Nat.beq a c) (Nat.beq b d) false
  | .nilp, .nilp => true
  | .sl a b c d e, .sl a' b' c' d' e' => Nat.beq a a' && Nat.beq b b' && Nat.beq c c' && Nat.beq d d' && beq2 e e'
  | .nilsl, .nilsl => true
  | .emp, .emp => true
  | .map a, .map b => Nat.beq a b
  | .nilmap, .nilmap => true
  | .fn f a b, .fn g c d => Nat.beq f g && sameVs a c && sameVs b d
  | .nilfn, .nilfn => true
  | .yld a, .yld b => Nat.beq a b
  | .iface t v, .iface u w => Nat.beq t u && sameV v w
  | .niliface, .niliface => true
  | .agg a, .agg b => sameVs a b
  | .tup a, .tup b => sameVs a b
  | _, _ => false
def sameVs : List AV → List AV → Bool
  | [], [] => true
  | a :: x, b :: y => bsel (sameV a b) (sameVs x y) false
  | _, _ => false
end

def sameO (v : AV) (r : Option AV) : Bool :=
  match r with
  | some w => sameV w v
  | none => false

/-- the load gives the same in front of every chain operation before which it may stand, and behind the last one if it may stand there (hs: oldest first) -/
def loadGo (l : Loaded) : List (Nat × Nat × T AB) → T AB → Bool
  | [], h => sameO l.v (evQ l.q l.F h)
  | (i, m, h') :: r, h =>
    bsel (Nat.testBit l.mask i) (loadGo l r h')
      (bsel (sameO l.v (evQ l.q l.F h)) (bsel (Nat.testBit m l.i) true (loadGo l r h')) false)

def loadsOk (h0 : T AB) (hs : List (Nat × Nat × T AB)) : List Loaded → Bool
  | [] => true
  | l :: ls => bsel (loadGo l hs h0) (loadsOk h0 hs ls) false

def endDrawn (h0 : T AB) (n : Nat) (D : DS) : Option (Fr × St) :=
  bsel (loadsOk h0 D.hs.reverse D.ls) (some (D.F, ⟨(flush (2 ^ n - 1) D.ps D.S.h).2, D.S.nx⟩)) none

def evDrawn (ops : List AO) (call : CallF) (F : Fr) (S : St) : Option (Fr × St) :=
  osel (evDs ops 0 S.nx call ⟨F, ⟨S.h, S.nx + lenL ops⟩, [], [], []⟩) fun D => endDrawn S.h (lenL ops) D

/-! ## Code -/
structure Evs where
  code : AC → Act' → St → Option (Out × Act' × St)
  call : CallF

abbrev CF := Evs → Act' → St → Option (Out × Act' × St)

def paramsIn : List Nat → List AV → Fr → Option Fr
  | [], [], F => some F
  | p :: ps, v :: vs, F => paramsIn ps vs (F.set p (some v))
  | _, _, _ => none

def argsIn : List AV → Nat → Fr → Fr
  | [], _, F => F
  | v :: vs, i, F => argsIn vs (i + 1) (F.set i (some v))

def outC (o : Option Out) : Option AC :=
  match o with
  | none => some .skip
  | some .ret => some .ret
  | some (.exit id) => some (.exit id)
  | some .normal => none

def cSkip : CF := fun _ A S => some (.normal, A, S)
def seqK (b : AC) (ih : Evs) (r : Out × Act' × St) : Option (Out × Act' × St) :=
  match r.1 with
  | .normal => ih.code b r.2.1 r.2.2
  | _ => some r
def cSeq (a b : AC) : CF := fun ih A S => osel (ih.code a A S) (seqK b ih)
def condK (v : AV) (a b : AC) : CF := fun ih A S =>
  match v with
  | .bool t => ih.code (bsel t a b) A S
  | _ => none
def cCond (c : Opd) (a b : AC) : CF := fun ih A S => condK (c.val A.F) a b ih A S
def blockK (id : Nat) (r : Out × Act' × St) : Option (Out × Act' × St) :=
  match r.1 with
  | .exit i => bsel (Nat.beq i id) (some (.normal, r.2)) (some r)
  | _ => some r
def cBlock (id : Nat) (c : AC) : CF := fun ih A S => osel (ih.code c A S) (blockK id)
def cLoop (c : AC) : CF := fun ih A S => osel (ih.code c A S) (seqK (.loop c) ih)
def cExit (id : Nat) : CF := fun _ A S => some (.exit id, A, S)
def cRet : CF := fun _ A S => some (.ret, A, S)
def cReg (ops : List AO) : CF := fun ih A S => osel (evOps ops ih.call A.F S) fun r => some (.normal, ⟨r.1, A.inr⟩, r.2)
def cDfr (_ : List AO) (_ : Opd) (_ : List Opd) : CF := fun _ _ _ => none
def cDrw (ops : List AO) : CF := fun ih A S => osel (evDrawn ops ih.call A.F S) fun r => some (.normal, ⟨r.1, A.inr⟩, r.2)
/-- behind the function that was ranged over -/
def rngEnd (bl : AB) (l : Nat) (A : Act') (S2 : St) (ih : Evs) : Option (Out × Act' × St) :=
  match bl with
  | .loop st pend fr ps as bd =>
    match st with
    | .busy => none
    | _ => osel (outC pend) fun c => ih.code c A ⟨S2.h.set l (some (.loop .exhausted pend fr ps as bd)), S2.nx⟩
  | _ => none
def isFn (v : AV) : Bool :=
  match v with
  | .fn .. => true
  | _ => false
def cRng (f : Opd) (params : List Nat) (assign body : AC) : CF := fun ih A S =>
  bsel A.inr none (bsel (isFn (f.val A.F))
    (osel (ih.call (f.val A.F) [.yld S.nx] ⟨S.h.set S.nx (some (.loop .ready none A.F params assign body)), Nat.succ S.nx⟩) fun r =>
      osel (r.2.h.get S.nx) fun bl => rngEnd bl S.nx A r.2 ih) none)

def evCode (c : AC) : CF :=
  AC.rec (motive := fun _ => CF) cSkip (fun a b _ _ => cSeq a b) (fun c a b _ _ => cCond c a b) (fun id c _ => cBlock id c) (fun c _ => cLoop c) cExit cRet cReg cDrw (fun f ps as bd _ _ => cRng f ps as bd) cDfr c

def resV (v : AV) (agg : Bool) (n : Nat) (h : T AB) : Option AV :=
  match v with
  | .ptr b off => loadV agg n h b off
  | _ => none
def results : List RV → Fr → T AB → Option (List AV)
  | [], _, _ => some []
  | .t i :: rs, F, h => osel (results rs F h) fun vs => some (tmpV i F :: vs)
  | .cell a agg n :: rs, F, h => osel (resV (tmpV a F) agg n h) fun v => osel (results rs F h) fun vs => some (v :: vs)
def oneOf (vs : List AV) : AV :=
  match vs with
  | [v] => v
  | vs => .tup vs

def leaveK (fn : AFn) (r : Out × Act' × St) : Option (AV × St) :=
  match r.1 with
  | .exit _ => none
  | _ => osel (results fn.res r.2.1.F r.2.2.h) fun vs => some (oneOf vs, r.2.2)

def callFn (fn : AFn) (args : List AV) (ih : Evs) (S : St) : Option (AV × St) :=
  bsel (Nat.ble (lenL args) fn.ntmps) (osel (ih.code fn.body ⟨argsIn args 0 .e, false⟩ S) (leaveK fn)) none

def endRoundB (bl : AB) (o : Out) (l : Nat) (S2 : St) : Option (AV × St) :=
  match bl with
  | .loop .busy _ fr ps as bd =>
    match o with
    | .normal => some (.bool true, ⟨S2.h.set l (some (.loop .ready none fr ps as bd)), S2.nx⟩)
    | o => some (.bool false, ⟨S2.h.set l (some (.loop .done (some o) fr ps as bd)), S2.nx⟩)
  | _ => none
def bodyRound (l : Nat) (bd : AC) (ih : Evs) (A : Act') (S : St) : Option (AV × St) :=
  osel (ih.code bd A S) fun r => osel (r.2.2.h.get l) fun bl => endRoundB bl r.1 l r.2.2
def beginRoundB (bl : AB) (l : Nat) (bd : AC) (ih : Evs) (A : Act') (S1 : St) : Option (AV × St) :=
  match bl with
  | .loop .ready pend fr ps as bd' => bodyRound l bd ih A ⟨S1.h.set l (some (.loop .busy pend fr ps as bd')), S1.nx⟩
  | _ => none
def assignK (l : Nat) (bd : AC) (ih : Evs) (r : Out × Act' × St) : Option (AV × St) :=
  match r.1 with
  | .normal => osel (r.2.2.h.get l) fun bl => beginRoundB bl l bd ih r.2.1 r.2.2
  | _ => none
def roundB (bl : AB) (l : Nat) (args : List AV) (ih : Evs) (S : St) : Option (AV × St) :=
  match bl with
  | .loop .ready _ fr ps as bd => osel (paramsIn ps args fr) fun F => osel (ih.code as ⟨F, true⟩ S) (assignK l bd ih)
  | _ => none

def evCall (fns : T AFn) (ih : Evs) (f : AV) (args : List AV) (S : St) : Option (AV × St) :=
  match f with
  | .fn id first cap => osel (fns.get id) fun fn => callFn fn (appL first (appL args cap)) ih S
  | .yld l => osel (S.h.get l) fun bl => roundB bl l args ih S
  | _ => none

def noCode (_ : AC) (_ : Act') (_ : St) : Option (Out × Act' × St) := none
def noCall (_ : AV) (_ : List AV) (_ : St) : Option (AV × St) := none
def ev (fns : T AFn) (n : Nat) : Evs :=
  Nat.rec (motive := fun _ => Evs) ⟨noCode, noCall⟩ (fun _ ih => ⟨fun c => evCode c ih, evCall fns ih⟩) n

end
end Go.Ev

namespace Go.Ev
noncomputable section

/-! ## From the model's code to this one's -/
/-- a value of one cell -/
def flatV (v : Value) : Bool :=
  match v with
  | .agg _ => false
  | .tuple _ => false
  | _ => true

mutual
def ofValue : Value → Option AV
  | .bool b => some (.bool b)
  | .int k n => some (.int k n)
  | .string s => some (.str (s.data.toList.map UInt8.toNat))
  | .pointer none => some .nilp
  | .slice none 0 0 => some .nilsl
  | .map none => some .nilmap
  | .nilFunc => some .nilfn
  | .nilIface => some .niliface
  | .func (.func f) ⟨a⟩ ⟨b⟩ => match ofValues a, ofValues b with
    | some a, some b => some (.fn f a b)
    | _, _ => none
  | .iface t v => (ofValue v).map (.iface t)
  | .agg ⟨cs⟩ => bif cs.all flatV then (ofValues cs).map .agg else none
  | .tuple ⟨cs⟩ => (ofValues cs).map .tup
  | _ => none
def ofValues : List Value → Option (List AV)
  | [] => some []
  | v :: vs => match ofValue v, ofValues vs with
    | some a, some as => some (a :: as)
    | _, _ => none
end

variable (P : Program)

def cOpd : Operand → Option Opd
  | .tmp t => some (.t t)
  | .const v => (ofValue v).map .c
  | .global g => bif Nat.blt g P.globals.size then some (.c (.ptr g 0)) else none
  | .func f => some (.c (.fn f [] []))

def cOpds : List Operand → Option (List Opd)
  | [] => some []
  | x :: xs => match cOpd P x, cOpds xs with
    | some a, some as => some (a :: as)
    | _, _ => none

def cOpt : Option Operand → Option (Option Opd)
  | none => some none
  | some x => (cOpd P x).map some

def aggT (t : TypeId) : Option (Bool × Nat) :=
  match P.underlying t, P.info? t with
  | some (.struct _), some i => some (true, i.size)
  | some (.array _ _), some i => some (true, i.size)
  | some _, some i => some (false, i.size)
  | _, _ => none

def zeroT (t : TypeId) : Option AV :=
  match P.info? t with
  | some i => match i.zero with
    | some v => ofValue v
    | none => none
  | none => none

def eqP (t : TypeId) : EqP :=
  match P.underlying t with
  | some .bool => .bool
  | some (.int _) => .int
  | some .string => .str
  | some (.pointer _) => .ptr
  | some (.slice _) => .slice
  | some (.map _ _) => .map
  | some (.func ..) => .func
  | some (.interface _) => .iface
  | _ => .no

def eqFields : List Field → List (Nat × EqP)
  | [] => []
  | f :: fs => bif f.name == "_" then eqFields fs else (f.offset, eqP P f.type) :: eqFields fs

def eqT (t : TypeId) : EqT :=
  match P.underlying t with
  | some (.struct fs) => bif P.stoodInHeld t || P.eqGuardType P.depth t then .p .no else .struct (eqFields P fs.toList)
  | some (.array n e) => bif P.eqGuardType P.depth t || n > 64 || P.cellsOf e != 1 then .p .no else .struct ((List.range n).map fun i => (i, eqP P e))
  | _ => .p (eqP P t)

def cParts (place : Nat → Option (Nat × Nat)) : List (Nat × Operand) → Option (List (Nat × Nat × Opd))
  | [] => some []
  | (i, x) :: ps => match place i, cOpd P x, cParts place ps with
    | some (off, n), some x, some ps => some ((off, n, x) :: ps)
    | _, _, _ => none

def placeOf (fs : Array Field) (i : Nat) : Option (Nat × Nat) :=
  match fs[i]? with
  | some f => match P.info? f.type with
    | some s => some (f.offset, s.size)
    | none => none
  | none => none

/-- every field's type is known -/
def fieldsKnown : List Field → Bool
  | [] => true
  | f :: fs => (P.info? f.type).isSome && fieldsKnown fs

def cParts2 : List (Nat × Operand) → Option (List (Nat × Opd))
  | [] => some []
  | (i, x) :: ps => match cOpd P x, cParts2 ps with
    | some x, some ps => some ((i, x) :: ps)
    | _, _ => none

def elemOfT (t : TypeId) : Option (TypeId × TypeInfo) :=
  match P.underlying t with
  | some (.slice e) => (P.info? e).map fun i => (e, i)
  | _ => none

def zeroCellsT (t : TypeId) : Option (List AV) := (zeroT P t).bind AV.cells

/-- the zero of an element, which has the element's size -/
def zeroElemT (e : TypeId) (i : TypeInfo) : Option (List AV) :=
  match zeroCellsT P e with
  | some z => bif Nat.beq z.length i.size then some z else none
  | none => none

/-- what may be appended -/
def srcT (u : TypeId) (i : TypeInfo) : Bool :=
  match P.underlying u with
  | some (.slice _) => true
  | some .string => Nat.beq i.size 1
  | _ => false

/-- the types that have a method of this name, with the function and how the receiver is made -/
def methodRow (name : String) (t : TypeId) (i : TypeInfo) : Option (Nat × Nat × Option (Bool × Nat)) :=
  match i.methods.find? (·.name == name) with
  | some m => bif !m.path.isEmpty then none else match m.func with
    | none => none
    | some (f, ptr) => match P.underlying t, ptr with
      | some (.pointer _), true => some (t, f, none)
      | some (.pointer e), false => (aggT P e).map fun a => (t, f, some a)
      | some (.interface _), _ => none
      | some _, false => some (t, f, none)
      | _, _ => none
  | none => none

def methodTable (name : String) : List TypeInfo → Nat → List (Nat × Nat × Option (Bool × Nat))
  | [], _ => []
  | i :: is, t => match methodRow P name t i with
    | some r => r :: methodTable name is (t + 1)
    | none => methodTable name is (t + 1)

def plainKey : EqP → Bool
  | .int | .str | .bool => true
  | _ => false

/-- the cells are the fields, one by one -/
def covers : Nat → List (Nat × EqP) → Bool
  | _, [] => true
  | i, (o, e) :: l => Nat.beq o i && (plainKey e && covers (i + 1) l)

/-- how keys of a map are compared -/
def keyT (t : TypeId) : Option EqT :=
  match P.underlying t with
  | some .string => some (.p .str)
  | some (.int _) => some (.p .int)
  | some (.struct fs) => match eqT P t with
    | .struct l => bif fs.all (fun f => plainKey (eqP P f.type)) && covers 0 l then some (.struct l) else none
    | _ => none
  | some (.array _ e) => match eqT P t with
    | .struct l => bif plainKey (eqP P e) && covers 0 l then some (.struct l) else none
    | _ => none
  | _ => none

def extName (s : String) : Option ExtK :=
  bif s == "math/bits.Add64" then some .add64
  else bif s == "internal/bytealg.IndexByteString" then some .idxByte
  else none

def extOf (f : Operand) : Option ExtK :=
  match f with
  | .func f => match P.funcs[f]? with
    | some fn => bif fn.body.isNone && (Extern.allNextRows.lookup fn.origin).isNone then extName fn.name else none
    | none => none
  | _ => none

def q (o : Option QOp) : Option AOp := o.map .q
def al (o : Option AlOp) : Option AOp := o.map .a
def xx (o : Option XOp) : Option AOp := o.map .x

def cCopy (b : Builtin) (as : List Operand) (ts : List TypeId) : Option AOp :=
  match b with
  | .copy => match as, ts with
    | [d, s], [t, _] => match elemOfT P t with
      | some (_, i) => xx do some (.copy i.size (← cOpd P d) (← cOpd P s))
      | none => none
    | _, _ => none
  | _ => none

def cOp (o : Op) : Option AOp :=
  match o with
  | .move x | .assign x => q do some (.mv (← cOpd P x))
  | .pick c a b => q do some (.pick (← cOpd P c) (← cOpd P a) (← cOpd P b))
  | .alloc t => al do some (.alloc t (← zeroCellsT P t))
  | .box t x => al do some (.box t (← cOpd P x))
  | .build t ps =>
    match P.underlying t with
    | some (.struct fs) => bif fieldsKnown P fs.toList then q do some (.build (← zeroCellsT P t) (← cParts P (placeOf P fs) ps.toList)) else none
    | some (.array _ e) => q do let s ← P.info? e; some (.build (← zeroCellsT P t) (← cParts P (fun i => some (i * s.size, s.size)) ps.toList))
    | _ => none
  | .buildSlice t len ps => al do
    let (e, i) ← elemOfT P t
    if len * i.size > 65536 then none
    some (.bslice e i.size len (← zeroElemT P e i) (← cParts2 P ps.toList))
  | .load t a => q do let (agg, n) ← aggT P t; some (.ld agg n (← cOpd P a))
  | .store t a v => xx do let (_, n) ← aggT P t; some (.st n (← cOpd P a) (← cOpd P v))
  | .nilCheck x => q do some (.nilchk (← cOpd P x))
  | .binOp op t x y _ => q do some (.bin op (eqT P t) (← cOpd P x) (← cOpd P y))
  | .unOp op _ x => q do some (.un op (← cOpd P x))
  | .convert src dst x =>
    match P.underlying src, P.underlying dst with
    | some (.int _), some (.int k) => q do some (.conv (.int k) (← cOpd P x))
    | some .string, some .string => q do some (.conv .same (← cOpd P x))
    | some (.int _), some .string => q do some (.conv .intToStr (← cOpd P x))
    | some (.slice e), some .string => match P.underlying e with
      | some (.int .u8) => q do some (.conv .bytesToStr (← cOpd P x))
      | _ => none
    | some .string, some (.slice e) => match P.underlying e with
      | some (.int .u8) => al do some (.strBytes e (← cOpd P x))
      | _ => none
    | _, _ => none
  | .makeInterface t x => match P.underlying t with
    | some (.interface _) => none
    | some _ => q do some (.mkIface t (← cOpd P x))
    | none => none
  | .makeFunc (.method name) a b => match a.toList, b.toList with
    | [x], [] => q do some (.mkMeth name (methodTable P name P.types.toList 0) (← cOpd P x))
    | _, _ => none
  | .makeFunc (.func f) a b => q do some (.mkFunc f (← cOpds P a.toList) (← cOpds P b.toList))
  | .makeMap _ none => al (some .mkMap)
  | .makeSlice t l c => al do let (e, i) ← elemOfT P t; some (.mkSlice e i.size i.bytes (← zeroElemT P e i) (← cOpd P l) (← cOpd P c))
  | .slice t x lo hi mx => bif mx.isSome && hi.isNone then none else
    match P.underlying t with
    | some .string => q do some (.slc .str (← cOpd P x) (← cOpt P lo) (← cOpt P hi) (← cOpt P mx))
    | some (.slice e) => q do let i ← P.info? e; some (.slc (.slice i.size) (← cOpd P x) (← cOpt P lo) (← cOpt P hi) (← cOpt P mx))
    | some (.array n e) => q do let i ← P.info? e; some (.slc (.arr n i.size) (← cOpd P x) (← cOpt P lo) (← cOpt P hi) (← cOpt P mx))
    | _ => none
  | .fieldAddr t x f => match P.underlying t with
    | some (.struct fs) => q do
      let f ← fs[f]?
      let i ← P.info? f.type
      if i.size = 0 then none
      some (.faddr f.offset (← cOpd P x))
    | _ => none
  | .field t x f => match P.underlying t with
    | some (.struct fs) => q do
      let f ← fs[f]?
      let (agg, n) ← aggT P f.type
      some (.fld agg f.offset n (← cOpd P x))
    | _ => none
  | .indexAddr t x ix => match P.underlying t with
    | some (.slice e) => q do let i ← P.info? e; some (.iaddr (.slice i.size) (← cOpd P x) (← cOpd P ix))
    | some (.array n e) => q do let i ← P.info? e; some (.iaddr (.arr n i.size) (← cOpd P x) (← cOpd P ix))
    | _ => none
  | .index t x ix => match P.underlying t with
    | some .string => q do some (.idxStr (← cOpd P x) (← cOpd P ix))
    | some (.array n e) => q do let (agg, s) ← aggT P e; some (.idxArr agg n s (← cOpd P x) (← cOpd P ix))
    | _ => none
  | .lookup t m k ok => match P.underlying t with
    | some (.map kt et) => q do some (.lookup (← keyT P kt) (← zeroT P et) ok (← cOpd P m) (← cOpd P k))
    | _ => none
  | .mapUpdate t m k v | .insert t m k v => match P.underlying t with
    | some (.map kt _) => xx do some (.mapUpd (← keyT P kt) (← cOpd P m) (← cOpd P k) (← cOpd P v))
    | _ => none
  | .typeAssert x _ t ok => match P.underlying t with
    | some (.interface _) => none
    | some _ => q do some (.tassert t (← zeroT P t) ok (← cOpd P x))
    | none => none
  | .extract x i => q do some (.extract (← cOpd P x) i)
  | .call { callee := .value f, args, .. } => match extOf P f with
    | some k => xx do some (.ext k (← cOpds P args.toList))
    | none => xx do some (.call (← cOpd P f) (← cOpds P args.toList))
  | .call { callee := .invoke r name, args, .. } => xx do some (.inv (methodTable P name P.types.toList 0) (← cOpd P r) (← cOpds P args.toList))
  | .call { callee := .builtin b, args, argTypes } =>
    match b, args.toList, argTypes.toList with
    | .len, [x], [t] => match P.underlying t with
      | some .string => q do some (.lenStr (← cOpd P x))
      | some (.slice _) => q do some (.lenSl (← cOpd P x))
      | some (.array n _) => q (some (.lenArr n))
      | some (.map _ _) => q do some (.lenMap (← cOpd P x))
      | _ => none
    | .cap, [x], [t] => match P.underlying t with
      | some (.slice _) => q do some (.capSl (← cOpd P x))
      | _ => none
    | .max, xs, _ => q do some (.minmax true (← cOpds P xs))
    | .min, xs, _ => q do some (.minmax false (← cOpds P xs))
    | .append, [s, x], [t, u] => match elemOfT P t with
      | some (e, i) => bif srcT P u i && (zeroElemT P e i).isSome then xx do some (.app e i.size i.bytes (← cOpd P s) (← cOpd P x)) else none
      | none => none
    | .clear, [x], [t] => match elemOfT P t with
      | some (e, i) => xx do some (.clr (← zeroElemT P e i) (← cOpd P x))
      | none => none
    | b, as, ts => cCopy P b as ts
  | _ => none

def cGuard (ops : Array Oper) : Option (Nat × Bool) → Option (Option (Nat × Bool))
  | none => some none
  | some (j, w) => match (ops[j]?).bind (·.dst) with
    | some d => some (some (d, w))
    | none => none

def dstOk (nt : Nat) : Option Tmp → Bool
  | some d => Nat.blt d nt
  | none => true

def cOper (nt : Nat) (ops : Array Oper) (o : Oper) (mask : Nat) : Option AO :=
  bif dstOk nt o.dst then
    match cGuard ops o.guard with
    | some g => match cOp P o.op with
      | some op => some ⟨o.dst, op, g, mask⟩
      | none => some ⟨o.dst, .x .bad, g, mask⟩
    | none => none
  else none

def cOpers (nt : Nat) (ops : Array Oper) : List Oper → List Nat → Option (List AO)
  | [], _ => some []
  | o :: os, ms => match cOper P nt ops o (ms.headD 0), cOpers nt ops os ms.tail with
    | some a, some as => some (a :: as)
    | _, _ => none

/-! ### what is asked of a region that draws its order -/
/-- the slots that are read -/
def Opd.rd (x : Opd) : List Nat :=
  match x with
  | .t i => [i]
  | .c _ => []
def rds : List Opd → List Nat
  | [] => []
  | x :: xs => x.rd ++ rds xs
def rdo (x : Option Opd) : List Nat :=
  match x with
  | some x => x.rd
  | none => []
def rdp : List (Nat × Nat × Opd) → List Nat
  | [] => []
  | (_, _, x) :: ps => x.rd ++ rdp ps
def rdp2 : List (Nat × Opd) → List Nat
  | [] => []
  | (_, x) :: ps => x.rd ++ rdp2 ps
def QOp.rd (o : QOp) : List Nat :=
  match o with
  | .mv x | .ld _ _ x | .nilchk x | .un _ x | .conv _ x | .mkIface _ x | .faddr _ x | .fld _ _ _ x | .tassert _ _ _ x | .extract x _ | .lenStr x | .lenSl x | .lenMap x | .capSl x | .mkMeth _ _ x => x.rd
  | .pick c a b => c.rd ++ (a.rd ++ b.rd)
  | .build _ ps => rdp ps
  | .bin _ _ x y | .iaddr _ x y | .idxArr _ _ _ x y | .idxStr x y | .lookup _ _ _ x y => x.rd ++ y.rd
  | .mkFunc _ a b => rds a ++ rds b
  | .slc _ x lo hi mx => x.rd ++ (rdo lo ++ (rdo hi ++ rdo mx))
  | .lenArr _ => []
  | .minmax _ xs => rds xs
def AlOp.rd (o : AlOp) : List Nat :=
  match o with
  | .alloc _ _ | .mkMap => []
  | .box _ x | .strBytes _ x => x.rd
  | .bslice _ _ _ _ ps => rdp2 ps
  | .mkSlice _ _ _ _ l c => l.rd ++ c.rd
def XOp.rd (o : XOp) : List Nat :=
  match o with
  | .st _ x v => x.rd ++ v.rd
  | .call f args | .inv _ f args => f.rd ++ rds args
  | .app _ _ _ s x | .copy _ s x | .mapDel _ s x => s.rd ++ x.rd
  | .mapUpd _ m k v => m.rd ++ (k.rd ++ v.rd)
  | .clr _ x => x.rd
  | .ext _ args => rds args
  | .bad => []
def AOp.rd (o : AOp) : List Nat :=
  match o with
  | .q o => o.rd
  | .a o => o.rd
  | .x o => o.rd
/-- the slots that an operation touches -/
def AO.touch (o : AO) : List Nat := o.dst.toList ++ ((o.grd.map (·.1)).toList ++ o.op.rd)
def inL (t : Nat) : List Nat → Bool
  | [] => false
  | u :: l => bif Nat.beq t u then true else inL t l
def meets (d : Option Nat) (b : List Nat) : Bool :=
  match d with
  | some d => inL d b
  | none => false
/-- an operation against those behind it -/
def drwOne (i : Nat) (d : Option Nat) (tch : List Nat) : List AO → Bool
  | [] => true
  | b :: l => (bif meets d b.touch || meets b.dst tch then Nat.testBit b.mask i else true) && drwOne i d tch l
def drwGo : Nat → List AO → Bool
  | _, [] => true
  | i, a :: l => drwOne i a.dst a.touch l && drwGo (i + 1) l
def drwOk (l : List AO) : Bool := drwGo 0 l
def edgesGo : Nat → List Oper → Bool
  | _, [] => true
  | i, o :: l => o.after.all (fun e => !Region.binds .any e || Nat.blt e.on i) && edgesGo (i + 1) l
def cDrawn (nt : Nat) (ops : Array Oper) : Option AC :=
  match cOpers P nt ops ops.toList (CheckFast.beforeL ops.toList 0 []) with
  | some aos => bif edgesGo 0 ops.toList && drwOk aos then some (.drw aos) else none
  | none => none

def cCode (nt : Nat) : Code → Option AC
  | .skip => some .skip
  | .seq a b => match cCode nt a, cCode nt b with
    | some a, some b => some (.seq a b)
    | _, _ => none
  | .cond c a b => match cOpd P c, cCode nt a, cCode nt b with
    | some c, some a, some b => some (.cond c a b)
    | _, _, _ => none
  | .block id c => (cCode nt c).map (.block id)
  | .loop c => (cCode nt c).map .loop
  | .exit id => some (.exit id)
  | .ret => some .ret
  | .region _ ops d => bif d then cDrawn P nt ops else (cOpers P nt ops ops.toList []).map .reg
  | .rangeFunc f ps as bd => bif ps.toList.all (fun p => Nat.blt p nt) then match cOpd P f, cCode nt as, cCode nt bd with
    | some f, some as, some bd => some (.rng f ps.toList as bd)
    | _, _, _ => none
    else none
  | _ => none

def cRes : List ResultVar → Option (List RV)
  | [] => some []
  | .tmp t :: rs => (cRes rs).map (.t t :: ·)
  | .cell a t :: rs => match aggT P t, cRes rs with
    | some (agg, n), some rs => some (.cell a agg n :: rs)
    | _, _ => none

def cFn (fn : Func) : Option AFn :=
  bif fn.name == "runtime.NumGoroutine" then none else
  match fn.body with
  | some c => match cCode P fn.ntmps c, cRes P fn.results.toList with
    | some c, some rs => some ⟨fn.ntmps, rs, c⟩
    | _, _ => none
  | none => none


/-! ### functions that defer a call -/
/-- code without a range over a function -/
def noRng : AC → Bool
  | .rng _ _ _ _ => false
  | .seq a b => noRng a && noRng b
  | .cond _ a b => noRng a && noRng b
  | .block _ c => noRng c
  | .loop c => noRng c
  | _ => true
def kpD (k : Nat) (d : Option Nat) : Bool := match d with | some i => !(Nat.beq i k) | none => true
def kpO (k : Nat) : List AO → Bool
  | [] => true
  | o :: l => kpD k o.dst && kpO k l
/-- the temporary k is not written -/
def keepsT (k : Nat) : AC → Bool
  | .reg l => kpO k l
  | .drw l => kpO k l
  | .seq a b => keepsT k a && keepsT k b
  | .cond _ a b => keepsT k a && keepsT k b
  | .block _ c => keepsT k c
  | .loop c => keepsT k c
  | .rng _ _ _ _ => false
  | .dfr _ _ _ => false
  | _ => true
/-- returns become exits of the block K -/
def retEx (K : Nat) : AC → AC
  | .ret => .exit K
  | .seq a b => .seq (retEx K a) (retEx K b)
  | .cond c a b => .cond c (retEx K a) (retEx K b)
  | .block i c => .block i (retEx K c)
  | .loop c => .loop (retEx K c)
  | c => c
/-- no exit and no block is called K; no range over a function -/
def freeK (K : Nat) : AC → Bool
  | .exit i => !(Nat.beq i K)
  | .seq a b => freeK K a && freeK K b
  | .cond _ a b => freeK K a && freeK K b
  | .block i c => !(Nat.beq i K) && freeK K c
  | .loop c => freeK K c
  | .rng _ _ _ _ => false
  | _ => true
/-- a region whose last operation defers the call of a closure that the operation before it makes -/
def cDefer (nt : Nat) (ops : Array Oper) : Option (List AO × Nat × Nat) :=
  match ops.toList.reverse with
  | ⟨none, .defer ⟨.value f, as, _⟩, _, _, _, none⟩ :: l =>
    match cOpers P nt ops l.reverse [], cOpd P f, as.toList with
    | some aos, some (.t k), [] => match aos.reverse with
      | ⟨some j, .q (.mkFunc id _ _), none, _⟩ :: _ => bif Nat.beq j k then some (aos, k, id) else none
      | _ => none
    | _, _, _ => none
  | _ => none
/-- the block that stands for the function's end -/
def kEnd : Nat := 1000000
/-- the code of a body that defers a call, and the function called -/
def cDf (nt : Nat) : Code → Option (AC × Nat)
  | .seq x y =>
    match (match x with | .region _ ops false => cDefer P nt ops | _ => none) with
    | some (aos, k, id) => match cCode P nt y with
      | some cy => bif freeK kEnd cy && keepsT k cy then some (.seq (.reg aos) (.seq (.block kEnd (retEx kEnd cy)) (.reg [⟨none, .x (.call (.t k) []), none, 0⟩])), id) else none
      | none => none
    | none => match cCode P nt x, cDf nt y with
      | some cx, some (cy, id) => bif noRng cx then some (.seq cx cy, id) else none
      | _, _ => none
  | _ => none
def cDfn (fn : Func) : Option (AFn × Nat) :=
  bif fn.name == "runtime.NumGoroutine" then none else
  match fn.body with
  | some c => match cDf P fn.ntmps c, cRes P fn.results.toList with
    | some (c, id), some rs => some (⟨fn.ntmps, rs, c⟩, id)
    | _, _ => none
  | none => none

end
end Go.Ev
