import GoSem.Dispatch
import Derived.CheckFast
namespace Go.Ev
noncomputable section
inductive T (α : Type) where
 | e : T α
 | n (l : T α) (v : Option α) (r : T α) : T α
def bO {α : Sort _} (c : Bool) (a b : α) : α := Bool.rec b a c
def aU {α β : Type} (x : Option α) (f : α → Option β) : Option β := Option.rec none f x
namespace T
variable {α : Type}
def get (t : T α) : Nat → Option α :=
 T.rec (motive := fun _ => Nat → Option α) (fun _ => none)
  (fun _ v _ gl gr k => bO (Nat.beq k 0) v (bO (Nat.beq (Nat.mod k 2) 1) (gl (Nat.div k 2)) (gr (Nat.sub (Nat.div k 2) 1)))) t
def single (f : Nat) : Nat → Option α → T α :=
 Nat.rec (motive := fun _ => Nat → Option α → T α) (fun _ _ => .e)
  (fun _ ih k x => bO (Nat.beq k 0) (.n .e x .e) (bO (Nat.beq (Nat.mod k 2) 1) (.n (ih (Nat.div k 2) x) none .e) (.n .e none (ih (Nat.sub (Nat.div k 2) 1) x)))) f
def set (t : T α) : Nat → Option α → T α :=
 T.rec (motive := fun _ => Nat → Option α → T α) (fun k x => single (Nat.succ k) k x)
  (fun l v r sl sr k x => bO (Nat.beq k 0) (.n l x r) (bO (Nat.beq (Nat.mod k 2) 1) (.n (sl (Nat.div k 2) x) v r) (.n l v (sr (Nat.sub (Nat.div k 2) 1) x)))) t
end T
inductive AV where
 | bool (b : Bool)
 | int (k : IntKind) (n : Int)
 | str (s : List Nat)
 | ptr (b off : Nat)
 | nilp
 | sl (b off len cap : Nat) (o : Bool)
 | nilsl
 | emp        -- an empty slice, not nil, of unknown place and capacity
 | map (b : Nat)
 | nilmap
 | fn (f : Nat) (first captured : List AV)
 | nilfn
 | yld (b : Nat)
 | iface (t : Nat) (v : AV)
 | niliface
 | mth (name : String) (tbl : List (Nat × Nat × Option (Bool × Nat))) (v : AV)     -- a method of an interface value, bound
 | agg (cs : List AV)
 | tup (vs : List AV)
 deriving Inhabited
def AV.cells (v : AV) : Option (List AV) :=
 match v with
 | .agg cs => some cs
 | .tup _ => none
 | v => some [v]
def AV.undef : AV := .tup []
inductive cH where
 | t (i : Nat)
 | c (v : AV)
 deriving Inhabited
inductive EqP where
 | bool | int | str | ptr | slice | map | func | iface | no
 deriving Inhabited, DecidableEq
inductive rC where
 | p (e : EqP)
 | struct (fs : List (Nat × EqP))
 deriving Inhabited
inductive aEH where
 | int (k : IntKind)
 | same
 | bytesToStr
 | intToStr
 deriving Inhabited
inductive SlK where
 | str
 | slice (size : Nat)
 | arr (n size : Nat)
 deriving Inhabited
inductive IxK where
 | arr (n size : Nat)
 | slice (size : Nat)
 deriving Inhabited
inductive wN where
 | mv (x : cH)
 | pick (c a b : cH)
 | build (zero : List AV) (parts : List (Nat × Nat × cH))
 | ld (agg : Bool) (n : Nat) (x : cH)
 | nilchk (x : cH)
 | bin (op : BinOp) (e : rC) (x y : cH)
 | un (op : UnOp) (x : cH)
 | conv (k : aEH) (x : cH)
 | mkIface (t : Nat) (x : cH)
 | mkFunc (f : Nat) (first captured : List cH)
 | slc (k : SlK) (x : cH) (lo hi mx : Option cH)
 | faddr (off : Nat) (x : cH)
 | fld (agg : Bool) (off n : Nat) (x : cH)
 | iaddr (k : IxK) (x ix : cH)
 | idxArr (agg : Bool) (n size : Nat) (x ix : cH)
 | idxStr (x ix : cH)
 | lookup (e : rC) (zero : AV) (commaOk : Bool) (m key : cH)
 | tassert (t : Nat) (zero : AV) (commaOk : Bool) (x : cH)
 | extract (x : cH) (i : Nat)
 | lenArr (n : Nat)
 | lenStr (x : cH)
 | lenSl (x : cH)
 | lenMap (x : cH)
 | capSl (x : cH)
 | minmax (isMax : Bool) (xs : List cH)
 | mkMeth (name : String) (tbl : List (Nat × Nat × Option (Bool × Nat))) (x : cH)
 deriving Inhabited
inductive tE where
 | alloc (t : Nat) (cells : List AV)
 | box (t : Nat) (x : cH)
 | bslice (t size len : Nat) (zero : List AV) (parts : List (Nat × cH))
 | mkSlice (t size bytes : Nat) (zero : List AV) (l c : cH)
 | mkMap
 | strBytes (t : Nat) (x : cH)
 deriving Inhabited
inductive aGs where
 | add64 | idxByte | idxStr
 deriving Inhabited
inductive XOp where
 | st (n : Nat) (x v : cH)
 | call (f : cH) (args : List cH)
 | inv (tbl : List (Nat × Nat × Option (Bool × Nat))) (recv : cH) (args : List cH)
 | app (t size bytes : Nat) (s x : cH)
 | copy (size : Nat) (d s : cH)
 | mapUpd (e : rC) (m k v : cH)
 | mapDel (e : rC) (m k : cH)
 | clr (zero : List AV) (x : cH)
 | ext (k : aGs) (args : List cH)
 | bad
 deriving Inhabited
inductive AOp where
 | q (o : wN)
 | a (o : tE)
 | x (o : XOp)
 deriving Inhabited
structure AO where
 dst : Option Nat
 op : AOp
 grd : Option (Nat × Bool)
 mask : Nat      -- the operations before it (drawn regions)
 deriving Inhabited
inductive AC where
 | skip
 | seq (a b : AC)
 | cond (c : cH) (a b : AC)
 | block (id : Nat) (c : AC)
 | loop (c : AC)
 | exit (id : Nat)
 | ret
 | reg (ops : List AO)
 | drw (ops : List AO)
 | rng (f : cH) (params : List Nat) (assign body : AC)
 | dfr (ops : List AO) (f : cH) (args : List cH)
 deriving Inhabited
inductive RV where
 | t (i : Nat)
 | cell (a : Nat) (agg : Bool) (n : Nat)
 deriving Inhabited
structure cA where
 ntmps : Nat
 res : List RV
 body : AC
 deriving Inhabited
abbrev Fr := T AV
inductive LSt where
 | ready | busy | done | exhausted
 deriving DecidableEq, Inhabited
inductive Out where
 | normal
 | exit (id : Nat)
 | ret
 deriving Inhabited
inductive AB where
 | cells (cs : List AV) (opn : Bool) (size : Nat)     -- opn: there may be more room behind; size: the cells of an element then
 | ro (cs : List AV)
 | map (es : List (AV × AV))
 | loop (st : LSt) (pend : Option Out) (fr : Fr) (params : List Nat) (assign body : AC)
 | dfd
 deriving Inhabited
structure St where
 h : T AB
 nx : Nat
def aC (i : Nat) (F : Fr) : AV := Option.rec (motive := fun _ => AV) .undef (fun v => v) (F.get i)
def aLp (v : AV) (_ : Fr) : AV := v
def cH.val (x : cH) : Fr → AV := cH.rec (motive := fun _ => Fr → AV) aC aLp x
def cT (l : List cH) : Fr → List AV := List.rec (motive := fun _ => Fr → List AV) (fun _ => []) (fun x _ ih F => x.val F :: ih F) l
def nth {α : Type} (l : List α) : Nat → Option α := List.rec (motive := fun _ => Nat → Option α) (fun _ => none) (fun x _ ih k => bO (Nat.beq k 0) (some x) (ih (Nat.sub k 1))) l
def aEx {α : Type} (l : List α) : Nat → List α := List.rec (motive := fun _ => Nat → List α) (fun _ => []) (fun x xs ih k => bO (Nat.beq k 0) (x :: xs) (ih (Nat.sub k 1))) l
def aFh {α : Type} (l : List α) : Nat → Option (List α) :=
 List.rec (motive := fun _ => Nat → Option (List α)) (fun n => bO (Nat.beq n 0) (some []) none)
  (fun x _ ih n => bO (Nat.beq n 0) (some []) (aU (ih (Nat.sub n 1)) fun r => some (x :: r))) l
def aBI {α : Type} (vs : List α) : List α → Option (List α) :=
 List.rec (motive := fun _ => List α → Option (List α)) (fun l => some l)
  (fun v _ ih l => List.rec (motive := fun _ => Option (List α)) none (fun _ xs _ => aU (ih xs) fun r => some (v :: r)) l) vs
def put {α : Type} (l : List α) : Nat → List α → Option (List α) :=
 List.rec (motive := fun _ => Nat → List α → Option (List α)) (fun k vs => bO (Nat.beq k 0) (aBI vs []) none)
  (fun x xs ih k vs => bO (Nat.beq k 0) (aBI vs (x :: xs)) (aU (ih (Nat.sub k 1) vs) fun r => some (x :: r))) l
def jM {α : Type} (l : List α) : Nat := List.rec (motive := fun _ => Nat) 0 (fun _ _ ih => Nat.succ ih) l
def uT {α : Type} (l m : List α) : List α := List.rec (motive := fun _ => List α) m (fun x _ ih => x :: ih) l
def repeatL {α : Type} (z : List α) (n : Nat) : List α := Nat.rec (motive := fun _ => List α) [] (fun _ ih => uT z ih) n
def cut {α : Type} (l : List α) (i n : Nat) : Option (List α) := aFh (aEx l i) n
def mU (k : IntKind) : Nat :=
 match k with
 | .i8 => 127 | .i16 => 32767 | .i32 => 2147483647 | .i64 => 9223372036854775807
 | .u8 => 255 | .u16 => 65535 | .u32 => 4294967295 | .u64 => 18446744073709551615
def nat (k : IntKind) (n : Nat) : Int := bO (Nat.ble n (mU k)) (.ofNat n) (k.wrap (.ofNat n))
def aCo (k : IntKind) : Bool :=
 match k with
 | .i8 | .i16 | .i32 | .i64 => true
 | _ => false
def neg (k : IntKind) (n : Nat) : Int := bO (aCo k) (bO (Nat.ble n (mU k)) (.negSucc n) (k.wrap (.negSucc n))) (k.wrap (.negSucc n))
def uN (k : IntKind) (n : Nat) : Bool := Nat.ble n (mU k)
def aCX (k : IntKind) (n : Int) : Int := Int.rec (motive := fun _ => Int) (fun m => nat k m) (fun m => neg k m) n
def zH (k : IntKind) (a b : Nat) : Int := bO (Nat.ble b a) (nat k (Nat.sub a b)) (neg k (Nat.sub (Nat.sub b a) 1))
def aI1 (k : IntKind) (x y : Int) : Int :=
 Int.rec (motive := fun _ => Int) (fun a => Int.rec (motive := fun _ => Int) (fun b => nat k (Nat.add a b)) (fun b => zH k a (Nat.succ b)) y)
  (fun a => Int.rec (motive := fun _ => Int) (fun b => zH k b (Nat.succ a)) (fun b => neg k (Nat.succ (Nat.add a b))) y) x
def aE8 (k : IntKind) (x y : Int) : Int :=
 Int.rec (motive := fun _ => Int) (fun a => Int.rec (motive := fun _ => Int) (fun b => zH k a b) (fun b => nat k (Nat.add a (Nat.succ b))) y)
  (fun a => Int.rec (motive := fun _ => Int) (fun b => neg k (Nat.add a b)) (fun b => zH k b a) y) x
def aGL (k : IntKind) (x y : Int) : Int :=
 Int.rec (motive := fun _ => Int) (fun a => Int.rec (motive := fun _ => Int) (fun b => nat k (Nat.mul a b)) (fun b => aCX k (Int.mul (.ofNat a) (.negSucc b))) y)
  (fun a => aCX k (Int.mul (.negSucc a) y)) x
def ieq (x y : Int) : Bool :=
 Int.rec (motive := fun _ => Bool) (fun a => Int.rec (motive := fun _ => Bool) (fun b => Nat.beq a b) (fun _ => false) y)
  (fun a => Int.rec (motive := fun _ => Bool) (fun _ => false) (fun b => Nat.beq a b) y) x
def ile (x y : Int) : Bool :=
 Int.rec (motive := fun _ => Bool) (fun a => Int.rec (motive := fun _ => Bool) (fun b => Nat.ble a b) (fun _ => false) y)
  (fun a => Int.rec (motive := fun _ => Bool) (fun _ => true) (fun b => Nat.ble b a) y) x
def keq (x y : IntKind) : Bool := Nat.beq (mU x) (mU y)
def aJR (x y : Bool) : Bool := bO x y (bO y false true)
def aNE (k : IntKind) (x y : Int) : Option AV := some (.int k (aI1 k x y))
def aOd (k : IntKind) (x y : Int) : Option AV := some (.int k (aE8 k x y))
def aOa (k : IntKind) (x y : Int) : Option AV := some (.int k (aGL k x y))
def aJj (k : IntKind) (x y : Int) : Option AV :=
 match x, y with
 | .ofNat a, .ofNat b => bO (Nat.beq b 0) none (some (.int k (nat k (Nat.div a b))))
 | x, y => bO (ieq y (.ofNat 0)) none (some (.int k (aCX k (x.tdiv y))))
def aJA (k : IntKind) (x y : Int) : Option AV :=
 match x, y with
 | .ofNat a, .ofNat b => bO (Nat.beq b 0) none (some (.int k (.ofNat (Nat.mod a b))))
 | x, y => bO (ieq y (.ofNat 0)) none (some (.int k (x.tmod y)))
def aAr (f : Nat → Nat → Nat) (k : IntKind) (x y : Int) : Option AV :=
 match x, y with
 | .ofNat a, .ofNat b => bO (uN k a) (bO (uN k b) (some (.int k (.ofNat (f a b)))) none) none
 | _, _ => none
def aN6 := aAr Nat.land
def iOr := aAr Nat.lor
def aNR := aAr Nat.xor
def aN5 (_ : IntKind) (x y : Int) : Option AV := some (.bool (ieq x y))
def aNL (_ : IntKind) (x y : Int) : Option AV := some (.bool (bO (ieq x y) false true))
def aNt (_ : IntKind) (x y : Int) : Option AV := some (.bool (bO (ile y x) false true))
def aN4 (_ : IntKind) (x y : Int) : Option AV := some (.bool (ile x y))
def aNA (_ : IntKind) (x y : Int) : Option AV := some (.bool (bO (ile x y) false true))
def aNw (_ : IntKind) (x y : Int) : Option AV := some (.bool (ile y x))
def aI9 (_ : IntKind) (_ _ : Int) : Option AV := none
def aJE (op : BinOp) : IntKind → Int → Int → Option AV :=
 BinOp.rec (motive := fun _ => IntKind → Int → Int → Option AV) aNE aOd aOa aJj aJA aN6 iOr aNR aI9 aI9 aI9 aN5 aNL aNt aN4 aNA aNw op
def aD3 (op : BinOp) (k : IntKind) (x : Int) (b : Nat) : Option AV :=
 let n := bO (Nat.ble b k.bits) b k.bits
 match op with
 | .shl => some (.int k (aGL k x (.ofNat (Nat.pow 2 n))))
 | .shr => some (.int k (x.fdiv (.ofNat (Nat.pow 2 n))))
 | _ => none
def xJ (op : BinOp) (k : IntKind) (x y : Int) : Option AV :=
 match y with
 | .ofNat b => aD3 op k x b
 | _ => none
def fD (op : BinOp) : Bool := BinOp.rec (motive := fun _ => Bool) false false false false false false false false true true false false false false false false false op
def nB : List Nat → List Nat → Bool
 | _, [] => false
 | [], _ :: _ => true
 | a :: x, b :: y => bO (Nat.blt a b) true (bO (Nat.beq a b) (nB x y) false)
def mA : List Nat → List Nat → Bool
 | [], [] => true
 | a :: x, b :: y => bO (Nat.beq a b) (mA x y) false
 | _, _ => false
def aFM (op : BinOp) (a b : List Nat) : Option AV :=
 match op with
 | .add => bO (Nat.ble (jM a + jM b) 9223372036854775807) (some (.str (uT a b))) none
 | .eql => some (.bool (mA a b))
 | .neq => some (.bool (!mA a b))
 | .lss => some (.bool (nB a b))
 | .leq => some (.bool (nB a b || mA a b))
 | .gtr => some (.bool (!(nB a b || mA a b)))
 | .geq => some (.bool (!nB a b))
 | _ => none
def partOf (agg : Bool) (cs : List AV) (off n : Nat) : Option AV :=
 bO agg (aU (cut cs off n) fun r => some (.agg r)) (nth cs off)
def xA : EqP → AV → AV → Option Bool
 | .bool, .bool a, .bool b => some (aJR a b)
 | .int, .int k a, .int k' b => bO (keq k k') (some (ieq a b)) none
 | .str, .str a, .str b => some (mA a b)
 | .ptr, .nilp, .nilp => some true
 | .ptr, .nilp, .ptr _ _ => some false
 | .ptr, .ptr _ _, .nilp => some false
 | .slice, .nilsl, .nilsl => some true
 | .slice, .nilsl, .sl .. => some false
 | .slice, .sl .., .nilsl => some false
 | .slice, .nilsl, .emp => some false
 | .slice, .emp, .nilsl => some false
 | .map, .nilmap, .nilmap => some true
 | .map, .nilmap, .map _ => some false
 | .map, .map _, .nilmap => some false
 | .func, .nilfn, .nilfn => some true
 | .func, .nilfn, .fn .. => some false
 | .func, .fn .., .nilfn => some false
 | .iface, .niliface, .iface _ _ => some false
 | .iface, .iface _ _, .niliface => some false
 | _, _, _ => none
def eqs : List (Nat × EqP) → List AV → List AV → Option Bool
 | [], _, _ => some true
 | (off, e) :: fs, xs, ys =>
  match nth xs off, nth ys off with
  | some x, some y => match xA e x y with
   | some true => eqs fs xs ys
   | some false => some false
   | none => none
  | _, _ => none
def eqv : rC → AV → AV → Option Bool
 | .p e, x, y => xA e x y
 | .struct fs, .agg xs, .agg ys => bO (Nat.beq (jM xs) (jM fs)) (bO (Nat.beq (jM ys) (jM fs)) (eqs fs xs ys) none) none
 | _, _, _ => none
def aLi (op : BinOp) (e : rC) (x y : AV) : Option AV :=
 match op with
 | .eql => aU (eqv e x y) fun b => some (.bool b)
 | .neq => aU (eqv e x y) fun b => some (.bool (bO b false true))
 | _ => none
def dN (op : BinOp) (k : IntKind) (a : Int) (k' : IntKind) (b : Int) : Option AV :=
 bO (fD op) (xJ op k a b) (bO (keq k k') (aJE op k a b) none)
def aDK (v : AV) : Option (IntKind × Int) :=
 match v with
 | .int k a => some (k, a)
 | _ => none
def aDY (v : AV) : Option (List Nat) :=
 match v with
 | .str s => some s
 | _ => none
def mW (op : BinOp) (e : rC) (x y : AV) : Option AV :=
 match aDK x, aDK y with
 | some a, some b => dN op a.1 a.2 b.1 b.2
 | _, _ => match aDY x, aDY y with
  | some a, some b => aFM op a b
  | _, _ => aLi op e x y
def unV (op : UnOp) (x : AV) : Option AV :=
 match op, x with
 | .neg, .int k n => some (.int k (aE8 k (.ofNat 0) n))
 | .not, .bool b => some (.bool (bO b false true))
 | _, _ => none
def nP (b : AB) : Option (List AV) :=
 match b with
 | .cells cs _ _ => some cs
 | .ro cs => some cs
 | _ => none
def cP (h : T AB) (b : Nat) : Option (List AV) := aU (h.get b) nP
def vH (h : T AB) (b off n : Nat) : Option (List AV) := aU (cP h b) fun cs => cut cs off n
def mX (h : T AB) (b off : Nat) : Option AV := aU (cP h b) fun cs => nth cs off
def oO (agg : Bool) (n : Nat) (h : T AB) (b off : Nat) : Option AV :=
 bO agg (aU (vH h b off n) fun cs => some (.agg cs)) (mX h b off)
def dY (zero : List AV) : List (Nat × Nat × AV) → Option (List AV)
 | [] => some zero
 | (off, n, v) :: ps => aU v.cells fun cs => bO (Nat.beq (jM cs) n) (aU (put zero off cs) fun z => dY z ps) none
def bytesOf : List AV → Option (List Nat)
 | [] => some []
 | .int .u8 (.ofNat n) :: vs => bO (Nat.ble n 255) (aU (bytesOf vs) fun r => some (n :: r)) none
 | _ :: _ => none
def eF (v : AV) : Option Nat :=
 match v with
 | .int _ (.ofNat n) => some n
 | _ => none
def iL (F : Fr) (d : Nat) (x : Option cH) : Option Nat :=
 match x with
 | none => some d
 | some x => eF (x.val F)
def pV (e : rC) (k : AV) : List (AV × AV) → Nat → Option (Option (Nat × AV))
 | [], _ => some none
 | (k', v) :: es, i => aU (eqv e k k') fun b => bO b (some (some (i, v))) (pV e k es (Nat.succ i))
def wG (e : rC) (k : AV) (es : List (AV × AV)) : Option (Option (Nat × AV)) := aU (eqv e k k) fun _ => pV e k es 0
def aB9 (b : AB) : Option (List (AV × AV)) :=
 match b with
 | .map es => some es
 | _ => none
def tQ (h : T AB) (m : AV) : Option (List (AV × AV)) :=
 match m with
 | .nilmap => some []
 | .map b => aU (h.get b) aB9
 | _ => none
def jP (isMax : Bool) : List AV → AV → Option AV
 | [], x => some x
 | .int k' b :: vs, .int k a => bO (keq k k')
   (jP isMax vs (.int k (bO isMax (bO (ile b a) a b) (bO (ile a b) a b)))) none
 | _, _ => none
abbrev QF := Fr → T AB → Option AV
def qMv (x : cH) : QF := fun F _ => some (x.val F)
def tC (v : AV) (a b : cH) (F : Fr) : Option AV :=
 match v with
 | .bool t => some (bO t (a.val F) (b.val F))
 | _ => none
def aML (c a b : cH) : QF := fun F _ => tC (c.val F) a b F
def dO (F : Fr) : List (Nat × Nat × cH) → List (Nat × Nat × AV)
 | [] => []
 | (a, b, x) :: ps => (a, b, x.val F) :: dO F ps
def aLF (zero : List AV) (ps : List (Nat × Nat × cH)) : QF := fun F _ => aU (dY zero (dO F ps)) fun cs => some (.agg cs)
def fK (v : AV) (agg : Bool) (n : Nat) (h : T AB) : Option AV :=
 match v with
 | .ptr b off => oO agg n h b off
 | _ => none
def qLd (agg : Bool) (n : Nat) (x : cH) : QF := fun F h => fK (x.val F) agg n h
def tT {α : Type} (t : Nat) : List (Nat × α) → Option α
 | [] => none
 | (u, a) :: l => bO (Nat.beq t u) (some a) (tT t l)
def aE3 (n : String) (tbl : List (Nat × Nat × Option (Bool × Nat))) (v : AV) : Option AV :=
 match v with
 | .iface t w => aU (tT t tbl) fun r => match r.2, w with
  | none, _ => some (.mth n tbl v)
  | some _, .ptr _ _ => some (.mth n tbl v)
  | _, _ => none
 | _ => none
def rU (v : AV) : Option AV :=
 match v with
 | .ptr b o => some (.ptr b o)
 | .fn f a b => some (.fn f a b)
 | .iface t v => some (.iface t v)
 | .yld b => some (.yld b)
 | .mth n tbl v => aE3 n tbl v
 | _ => none
def aKp (x : cH) : QF := fun F _ => rU (x.val F)
def aNB (op : BinOp) (e : rC) (x y : cH) : QF := fun F _ => mW op e (x.val F) (y.val F)
def qUn (op : UnOp) (x : cH) : QF := fun F _ => unV op (x.val F)
def aBN (h : T AB) (b off len : Nat) : Option AV := aU (vH h b off len) fun cs => aU (bytesOf cs) fun s => some (.str s)
def yE (k : aEH) (v : AV) (h : T AB) : Option AV :=
 match k, v with
 | .int k, .int _ n => some (.int k (aCX k n))
 | .same, .str s => some (.str s)
 | .bytesToStr, .nilsl => some (.str [])
 | .bytesToStr, .emp => some (.str [])
 | .bytesToStr, .sl b off len _ _ => aBN h b off len
 | .intToStr, .int _ (.ofNat n) => bO (Nat.ble n 127) (some (.str [n])) none
 | _, _ => none
def aMA (k : aEH) (x : cH) : QF := fun F h => yE k (x.val F) h
def aJF (t : Nat) (x : cH) : QF := fun F _ => some (.iface t (x.val F))
def aKe (f : Nat) (first cap : List cH) : QF := fun F _ => some (.fn f (cT first F) (cT cap F))
def aEl (s : List Nat) (lo hi mx : Option cH) (F : Fr) : Option AV :=
 match mx with
 | some _ => none
 | none => aU (iL F (jM s) hi) fun h' => aU (iL F 0 lo) fun l =>
   bO (Nat.ble h' (jM s)) (bO (Nat.ble l h') (aU (cut s l (h' - l)) fun r => some (.str r)) none) none
def jE (len cap : Nat) (lo hi mx : Option cH) (F : Fr) : Option (Nat × Nat × Nat) :=
 aU (iL F cap mx) fun m => aU (iL F len hi) fun h => aU (iL F 0 lo) fun l =>
  bO (Nat.ble m cap) (bO (Nat.ble h m) (bO (Nat.ble l h) (some (l, h, m)) none) none) none
def aEK (size b off len cap : Nat) (o : Bool) (lo hi mx : Option cH) (F : Fr) : Option AV :=
 aU (jE len cap lo hi mx F) fun x =>
  let o' := bO o mx.isNone false
  bO (Nat.beq x.2.2 x.1) (bO o' (some .emp) (some (.sl b off (x.2.1 - x.1) (x.2.2 - x.1) false)))
   (some (.sl b (off + x.1 * size) (x.2.1 - x.1) (x.2.2 - x.1) o'))
def aJp (lo hi mx : Option cH) (F : Fr) : Option AV := aU (jE 0 0 lo hi mx F) fun _ => some .emp
def aIp (lo hi mx : Option cH) (F : Fr) : Option AV := aU (jE 0 0 lo hi mx F) fun _ => some .nilsl
def aJn (n size b off : Nat) (lo hi mx : Option cH) (F : Fr) : Option AV :=
 aU (jE n n lo hi mx F) fun x =>
  bO (Nat.beq x.2.2 x.1) (some (.sl b off (x.2.1 - x.1) (x.2.2 - x.1) false))
   (some (.sl b (off + x.1 * size) (x.2.1 - x.1) (x.2.2 - x.1) false))
def pK (k : SlK) (v : AV) (lo hi mx : Option cH) (F : Fr) : Option AV :=
 match k, v with
 | .str, .str s => aEl s lo hi mx F
 | .slice size, .sl b off len cap o => aEK size b off len cap o lo hi mx F
 | .slice _, .nilsl => aIp lo hi mx F
 | .slice _, .emp => aJp lo hi mx F
 | .arr n size, .ptr b off => aJn n size b off lo hi mx F
 | _, _ => none
def aNs (k : SlK) (x : cH) (lo hi mx : Option cH) : QF := fun F _ => pK k (x.val F) lo hi mx F
def vV (v : AV) (off : Nat) : Option AV :=
 match v with
 | .ptr b o => some (.ptr b (o + off))
 | _ => none
def aLN (off : Nat) (x : cH) : QF := fun F _ => vV (x.val F) off
def aGi (v : AV) (agg : Bool) (off n : Nat) : Option AV :=
 match v with
 | .agg cs => partOf agg cs off n
 | _ => none
def aNx (agg : Bool) (off n : Nat) (x : cH) : QF := fun F _ => aGi (x.val F) agg off n
def eO (k : IxK) (v : AV) (i : Nat) : Option AV :=
 match k, v with
 | .arr n size, .ptr b off => bO (Nat.blt i n) (some (.ptr b (off + i * size))) none
 | .slice size, .sl b off len _ _ => bO (Nat.blt i len) (some (.ptr b (off + i * size))) none
 | _, _ => none
def aLK (k : IxK) (x ix : cH) : QF := fun F _ => aU (eF (ix.val F)) fun i => eO k (x.val F) i
def uK (v : AV) (agg : Bool) (n size i : Nat) : Option AV :=
 match v with
 | .agg cs => bO (Nat.blt i n) (partOf agg cs (i * size) size) none
 | _ => none
def aKB (agg : Bool) (n size : Nat) (x ix : cH) : QF := fun F _ => aU (eF (ix.val F)) fun i => uK (x.val F) agg n size i
def uP (v : AV) (i : Nat) : Option AV :=
 match v with
 | .str s => aU (nth s i) fun b => some (.int .u8 (.ofNat b))
 | _ => none
def aKh (x ix : cH) : QF := fun F _ => aU (eF (ix.val F)) fun i => uP (x.val F) i
def aCf (ok : Bool) (v : AV) (b : Bool) : AV := bO ok (.tup [v, .bool b]) v
def sC (r : Option (Nat × AV)) (zero : AV) (ok : Bool) : Option AV :=
 match r with
 | some (_, v) => some (aCf ok v true)
 | none => some (aCf ok zero false)
def aKb (sk : rC) (zero : AV) (ok : Bool) (m key : cH) : QF := fun F h =>
 aU (tQ h (m.val F)) fun es => aU (wG sk (key.val F) es) fun r => sC r zero ok
def tS (v : AV) (t : Nat) (zero : AV) (ok : Bool) : Option AV :=
 match v with
 | .iface t' v => bO (Nat.beq t t') (some (aCf ok v true)) (bO ok (some (.tup [zero, .bool false])) none)
 | .niliface => bO ok (some (.tup [zero, .bool false])) none
 | _ => none
def aIG (t : Nat) (zero : AV) (ok : Bool) (x : cH) : QF := fun F _ => tS (x.val F) t zero ok
def lS (v : AV) (i : Nat) : Option AV :=
 match v with
 | .tup vs => nth vs i
 | _ => none
def aIP (x : cH) (i : Nat) : QF := fun F _ => lS (x.val F) i
def aKx (n : Nat) : QF := fun _ _ => some (.int .i64 (.ofNat n))
def yC (v : AV) : Option AV :=
 match v with
 | .str s => some (.int .i64 (.ofNat (jM s)))
 | _ => none
def aKm (x : cH) : QF := fun F _ => yC (x.val F)
def mB (v : AV) : Option AV :=
 match v with
 | .nilsl => some (.int .i64 (.ofNat 0))
 | .emp => some (.int .i64 (.ofNat 0))
 | .sl _ _ n _ _ => some (.int .i64 (.ofNat n))
 | _ => none
def aLO (x : cH) : QF := fun F _ => mB (x.val F)
def aJ9 (x : cH) : QF := fun F h => aU (tQ h (x.val F)) fun es => some (.int .i64 (.ofNat (jM es)))
def aBU (v : AV) : Option AV :=
 match v with
 | .nilsl => some (.int .i64 (.ofNat 0))
 | .sl _ _ _ c false => some (.int .i64 (.ofNat c))
 | _ => none
def aLv (x : cH) : QF := fun F _ => aBU (x.val F)
def lU (isMax : Bool) (l : List AV) : Option AV :=
 match l with
 | [] => none
 | v :: vs => jP isMax vs v
def aKW (n : String) (tbl : List (Nat × Nat × Option (Bool × Nat))) (x : cH) : QF := fun F _ => some (.mth n tbl (x.val F))
def aKl (mx : Bool) (xs : List cH) : QF := fun F _ => lU mx (cT xs F)
def gP (q : wN) : QF :=
 wN.rec (motive := fun _ => QF) qMv aML aLF qLd aKp aNB qUn aMA aJF aKe aNs aLN aNx aLK aKB aKh aKb aIG aIP aKx aKm aLO aJ9 aLv aKl aKW q
abbrev AF := Fr → Nat → Option (AV × AB)
def room : Nat := 140737488355328
def aLP (_ : Nat) (cells : List AV) : AF := fun _ id => some (.ptr id 0, .cells cells false 0)
def aNF (_ : Nat) (x : cH) : AF := fun F id => aU (x.val F).cells fun cs => some (.ptr id 0, .cells cs false 0)
def iU (size : Nat) (F : Fr) : List (Nat × cH) → List (Nat × Nat × AV)
 | [] => []
 | (i, x) :: ps => (i * size, size, x.val F) :: iU size F ps
def aKt (_ size len : Nat) (zero : List AV) (ps : List (Nat × cH)) : AF := fun F id =>
 aU (dY (repeatL zero len) (iU size F ps)) fun cs => some (.sl id 0 len len false, .cells cs false 0)
def tH (_ _ bytes : Nat) (zero : List AV) (l c : cH) : AF := fun F id =>
 aU (eF (l.val F)) fun l => aU (eF (c.val F)) fun c =>
  bO (Nat.ble l c) (bO (Nat.ble c room) (bO (Nat.ble (bytes * c) room) (some (.sl id 0 l c false, .cells (repeatL zero c) false 0)) none) none) none
def aLU : AF := fun _ id => some (.map id, .map [])
def byteCells : List Nat → List AV
 | [] => []
 | b :: bs => .int .u8 (.ofNat b) :: byteCells bs
def pY (v : AV) (id : Nat) : Option (AV × AB) :=
 match v with
 | .str s => some (.sl id 0 (jM s) (jM s) true, .cells (byteCells s) true 1)
 | _ => none
def aHo (_ : Nat) (x : cH) : AF := fun F id => pY (x.val F) id
def sN (a : tE) : AF := tE.rec (motive := fun _ => AF) aLP aNF aKt tH aLU aHo a
def yY (bl : AB) (S : St) (b off : Nat) (vs : List AV) : Option St :=
 match bl with
 | .cells cs o s => aU (put cs off vs) fun cs' => some ⟨S.h.set b (some (.cells cs' o s)), S.nx⟩
 | _ => none
def oZ (S : St) (b off : Nat) (vs : List AV) : Option St := aU (S.h.get b) fun bl => yY bl S b off vs
def dS (v : AV) (h : T AB) (size n : Nat) : Option (List AV) :=
 match v with
 | .sl b off _ _ _ => vH h b off (n * size)
 | .nilsl => bO (Nat.beq n 0) (some []) none
 | .emp => bO (Nat.beq n 0) (some []) none
 | .str s => bO (Nat.beq size 1) (aU (aFh s n) fun r => some (byteCells r)) none
 | _ => none
def kJ (v : AV) : Option Nat :=
 match v with
 | .sl _ _ n _ _ => some n
 | .nilsl => some 0
 | .emp => some 0
 | .str s => some (jM s)
 | _ => none
def grown (h : T AB) (nx need size : Nat) (cs : List AV) : Option (AV × St) :=
 some (.sl nx 0 need need true, ⟨h.set nx (some (.cells cs true size)), Nat.succ nx⟩)
def vC (bl : AB) (size b off len cap : Nat) (o : Bool) (n : Nat) (new : List AV) (S : St) : Option (AV × St) :=
 match bl with
 | .cells cs o' sz => aU (cut cs off (len * size)) fun old =>
   bO o
    (bO o' (bO (Nat.beq sz size) (bO (Nat.beq (off + cap * size) (jM cs)) (grown (S.h.set b none) S.nx (len + n) size (uT old new)) none) none) none)
    (grown S.h S.nx (len + n) size (uT old new))
 | .ro cs => bO o none (aU (cut cs off (len * size)) fun old => grown S.h S.nx (len + n) size (uT old new))
 | _ => none
def kD (bytes size b off len cap : Nat) (o : Bool) (n : Nat) (new : List AV) (S : St) : Option (AV × St) :=
 bO (Nat.ble (len + n) cap)
  (bO (Nat.beq n 0) (some (.sl b off len cap o, S)) (aU (oZ S b (off + len * size) new) fun S' => some (.sl b off (len + n) cap o, S')))
  (bO (Nat.ble (len + n) room) (bO (Nat.ble ((len + n) * bytes) room) (aU (S.h.get b) fun bl => vC bl size b off len cap o n new S) none) none)
def pE (bytes size n : Nat) (new : List AV) (S : St) : Option (AV × St) :=
 bO (Nat.beq n 0) (some (.nilsl, S))
  (bO (Nat.ble n room) (bO (Nat.ble (n * bytes) room) (grown S.h S.nx n size new) none) none)
def zM (s : AV) (bytes size n : Nat) (new : List AV) (S : St) : Option (AV × St) :=
 match s with
 | .nilsl => pE bytes size n new S
 | .emp => bO (Nat.beq n 0) (some (.emp, S)) none
 | .sl b off len cap o => kD bytes size b off len cap o n new S
 | _ => none
def fV (bytes size : Nat) (s x : AV) (S : St) : Option (AV × St) :=
 aU (kJ x) fun n => aU (dS x S.h size n) fun new => zM s bytes size n new S
def tJ {α : Type} (f : α → α) : List α → Nat → List α
 | [], _ => []
 | x :: xs, k => bO (Nat.beq k 0) (f x :: xs) (x :: tJ f xs (k - 1))
structure bT where
 F : Fr
 inr : Bool
abbrev dV := AV → List AV → St → Option (AV × St)
abbrev XF := dV → Fr → St → Option (AV × St)
def oH (p : AV) (n : Nat) (cs : List AV) (S : St) : Option (AV × St) :=
 match p with
 | .ptr b off => bO (Nat.beq (jM cs) n) (aU (oZ S b off cs) fun S' => some (.undef, S')) none
 | _ => none
def xSt (n : Nat) (x v : cH) : XF := fun _ F S => aU (v.val F).cells fun cs => oH (x.val F) n cs S
def aM5 (f : cH) (args : List cH) : XF := fun call F S => call (f.val F) (cT args F) S
def aDX (v : AV) (f : Nat) (agg : Bool) (n : Nat) (args : List AV) (call : dV) (S : St) : Option (AV × St) :=
 match v with
 | .ptr b off => aU (oO agg n S.h b off) fun r => call (.fn f [r] []) args S
 | _ => none
def aFT (r : Nat × Option (Bool × Nat)) (v : AV) (args : List AV) (call : dV) (S : St) : Option (AV × St) :=
 match r with
 | (f, none) => call (.fn f [v] []) args S
 | (f, some (agg, n)) => aDX v f agg n args call S
def aDp (v : AV) (tbl : List (Nat × Nat × Option (Bool × Nat))) (args : List AV) (call : dV) (S : St) : Option (AV × St) :=
 match v with
 | .iface t v => aU (tT t tbl) fun r => aFT r v args call S
 | _ => none
def aNP (tbl : List (Nat × Nat × Option (Bool × Nat))) (recv : cH) (args : List cH) : XF := fun call F S => aDp (recv.val F) tbl (cT args F) call S
def aN2 (_ size bytes : Nat) (s x : cH) : XF := fun _ F S => fV bytes size (s.val F) (x.val F) S
def copyV (d : AV) (size m : Nat) (s : AV) (S : St) : Option (AV × St) :=
 match d with
 | .nilsl => some (.int .i64 (.ofNat 0), S)
 | .emp => some (.int .i64 (.ofNat 0), S)
 | .sl b off len _ _ =>
  let n := bO (Nat.ble m len) m len
  bO (Nat.beq n 0) (some (.int .i64 (.ofNat 0), S)) (aU (dS s S.h size n) fun cs => aU (oZ S b off cs) fun S' => some (.int .i64 (.ofNat n), S'))
 | _ => none
def aNk (size : Nat) (d s : cH) : XF := fun _ F S => aU (kJ (s.val F)) fun m => copyV (d.val F) size m (s.val F) S
def aB4 (r : Option (Nat × AV)) (es : List (AV × AV)) (k v : AV) : List (AV × AV) :=
 match r with
 | some (i, _) => tJ (fun _ => (k, v)) es i
 | none => uT es [(k, v)]
def yM (m : AV) (sk : rC) (k v : AV) (S : St) : Option (AV × St) :=
 match m with
 | .map b => aU (aU (S.h.get b) aB9) fun es => aU (wG sk k es) fun r => some (.undef, ⟨S.h.set b (some (.map (aB4 r es k v))), S.nx⟩)
 | _ => none
def aKS (sk : rC) (m k v : cH) : XF := fun _ F S => yM (m.val F) sk (k.val F) (v.val F) S
def aKT (r : Option (Nat × AV)) (es : List (AV × AV)) (b : Nat) (S : St) : Option (AV × St) :=
 match r with
 | some (i, _) => some (.undef, ⟨S.h.set b (some (.map (es.eraseIdx i))), S.nx⟩)
 | none => some (.undef, S)
def aDB (m : AV) (sk : rC) (k : AV) (S : St) : Option (AV × St) :=
 match m with
 | .map b => aU (aU (S.h.get b) aB9) fun es => aU (wG sk k es) fun r => aKT r es b S
 | .nilmap => some (.undef, S)
 | _ => none
def aKv (sk : rC) (m k : cH) : XF := fun _ F S => aDB (m.val F) sk (k.val F) S
def aJJ (x : AV) (zero : List AV) (S : St) : Option (AV × St) :=
 match x with
 | .nilsl => some (.undef, S)
 | .emp => some (.undef, S)
 | .sl b off n _ _ => bO (Nat.beq n 0) (some (.undef, S)) (aU (oZ S b off (repeatL zero n)) fun S' => some (.undef, S'))
 | _ => none
def aN3 (zero : List AV) (x : cH) : XF := fun _ F S => aJJ (x.val F) zero S
def aJM (a b c : Nat) : AV :=
 .tup [.int .u64 (.ofNat (Nat.mod (Nat.add (Nat.add a b) c) 18446744073709551616)), .int .u64 (.ofNat (Nat.div (Nat.add (Nat.add a b) c) 18446744073709551616))]
def qD (c : Nat) : List Nat → Nat → Int
 | [], _ => .negSucc 0
 | b :: bs, i => bO (Nat.beq b c) (.ofNat i) (qD c bs (Nat.succ i))
def aF0 (k : aGs) (args : List AV) : Option AV :=
 match k, args with
 | .add64, [.int .u64 (.ofNat a), .int .u64 (.ofNat b), .int .u64 (.ofNat c)] => bO (Nat.ble c 1) (some (aJM a b c)) none
 | .idxByte, [.str s, .int .u8 (.ofNat c)] => bO (Nat.ble c 255) (some (.int .i64 (qD c s 0))) none
 | _, _ => none
def aNN (k : aGs) (args : List cH) : XF := fun _ F S => aU (aF0 k (cT args F)) fun v => some (v, S)
def aN8 : XF := fun _ _ _ => none
def xP (x : XOp) : XF := XOp.rec (motive := fun _ => XF) xSt aM5 aNP aN2 aNk aKS aKv aN3 aNN aN8 x
def isB (v : AV) (w : Bool) : Bool :=
 match v with
 | .bool b => aJR b w
 | _ => false
def cG (d : Option Nat) : Fr → AV → Fr := Option.rec (motive := fun _ => Fr → AV → Fr) (fun F _ => F) (fun i F v => F.set i (some v)) d
def dW (g : Option (Nat × Bool)) : Fr → Bool := Option.rec (motive := fun _ => Fr → Bool) (fun _ => true) (fun p F => isB (aC p.1 F) p.2) g
abbrev OF := Option Nat → dV → Fr → St → Option (Fr × St)
def oQ (q : wN) : OF := fun d _ F S => aU (gP q F S.h) fun v => some (cG d F v, S)
def oA (a : tE) : OF := fun d _ F S => aU (sN a F S.nx) fun r => some (cG d F r.1, ⟨S.h.set S.nx (some r.2), Nat.succ S.nx⟩)
def oX (x : XOp) : OF := fun d call F S => aU (xP x call F S) fun r => some (cG d F r.1, r.2)
def oOp (o : AOp) : OF := AOp.rec (motive := fun _ => OF) oQ oA oX o
def aCg (o : AO) (call : dV) (F : Fr) (S : St) : Option (Fr × St) :=
 bO (dW o.grd F) (oOp o.op o.dst call F S) (some (cG o.dst F .undef, S))
def sI (l : List AO) : dV → Fr → St → Option (Fr × St) :=
 List.rec (motive := fun _ => dV → Fr → St → Option (Fr × St)) (fun _ F S => some (F, S)) (fun o _ ih call F S => aU (aCg o call F S) fun r => ih call r.1 r.2) l
structure gI where
 i : Nat
 id : Nat
 b : AB
def cE (mask : Nat) : List gI → T AB → List gI × T AB
 | [], h => ([], h)
 | p :: ps, h => bO (Nat.testBit mask p.i) (cE mask ps (h.set p.id (some p.b))) (p :: (cE mask ps h).1, (cE mask ps h).2)
structure jJ where
 q : wN
 F : Fr
 v : AV
 i : Nat
 mask : Nat
def dG (q : wN) : Bool :=
 match q with
 | .ld .. | .lookup .. | .lenMap .. => true
 | .conv .bytesToStr _ => true
 | _ => false
structure DS where
 F : Fr
 S : St
 ps : List gI
 hs : List (Nat × Nat × T AB)
 ls : List jJ
abbrev DF := AO → Nat → Nat → dV → DS → Option DS
def dQ (q : wN) : DF := fun o i _ _ D => aU (gP q D.F D.S.h) fun v =>
 some ⟨cG o.dst D.F v, D.S, D.ps, D.hs, bO (dG q) (⟨q, D.F, v, i, o.mask⟩ :: D.ls) D.ls⟩
def dA (a : tE) : DF := fun o i base _ D => aU (sN a D.F (base + i)) fun r =>
 some ⟨cG o.dst D.F r.1, D.S, ⟨i, base + i, r.2⟩ :: D.ps, D.hs, D.ls⟩
def iK (hs : List (Nat × Nat × T AB)) (mask : Nat) : Bool :=
 match hs with
 | [] => true
 | e :: _ => Nat.testBit mask e.1
def dX (x : XOp) : DF := fun o i _ call D =>
 bO (iK D.hs o.mask) (aU (xP x call D.F ⟨(cE o.mask D.ps D.S.h).2, D.S.nx⟩) fun r =>
  some ⟨cG o.dst D.F r.1, r.2, (cE o.mask D.ps D.S.h).1, (i, o.mask, r.2.h) :: D.hs, D.ls⟩) none
def dOp (o : AOp) : DF := AOp.rec (motive := fun _ => DF) dQ dA dX o
def pG (o : AO) (i base : Nat) (call : dV) (D : DS) : Option DS :=
 bO (dW o.grd D.F) (dOp o.op o i base call D) (some ⟨cG o.dst D.F .undef, D.S, D.ps, D.hs, D.ls⟩)
def sM : List AO → Nat → Nat → dV → DS → Option DS
 | [], _, _, _, D => some D
 | o :: os, i, base, call, D => aU (pG o i base call D) fun D' => sM os (i + 1) base call D'
mutual
def cN : AV → AV → Bool
 | .bool a, .bool b => aJR a b
 | .int k a, .int j b => bO (keq k j) (ieq a b) false
 | .str a, .str b => mA a b
 | .ptr a b, .ptr c d => bO (Nat.beq a c) (Nat.beq b d) false
 | .nilp, .nilp => true
 | .sl a b c d e, .sl a' b' c' d' e' => Nat.beq a a' && Nat.beq b b' && Nat.beq c c' && Nat.beq d d' && aJR e e'
 | .nilsl, .nilsl => true
 | .emp, .emp => true
 | .map a, .map b => Nat.beq a b
 | .nilmap, .nilmap => true
 | .fn f a b, .fn g c d => Nat.beq f g && mV a c && mV b d
 | .nilfn, .nilfn => true
 | .yld a, .yld b => Nat.beq a b
 | .iface t v, .iface u w => Nat.beq t u && cN v w
 | .niliface, .niliface => true
 | .agg a, .agg b => mV a b
 | .tup a, .tup b => mV a b
 | _, _ => false
def mV : List AV → List AV → Bool
 | [], [] => true
 | a :: x, b :: y => bO (cN a b) (mV x y) false
 | _, _ => false
end
def lM (v : AV) (r : Option AV) : Bool :=
 match r with
 | some w => cN w v
 | none => false
def eG (l : jJ) : List (Nat × Nat × T AB) → T AB → Bool
 | [], h => lM l.v (gP l.q l.F h)
 | (i, m, h') :: r, h =>
  bO (Nat.testBit l.mask i) (eG l r h')
   (bO (lM l.v (gP l.q l.F h)) (bO (Nat.testBit m l.i) true (eG l r h')) false)
def fC (h0 : T AB) (hs : List (Nat × Nat × T AB)) : List jJ → Bool
 | [] => true
 | l :: ls => bO (eG l hs h0) (fC h0 hs ls) false
def xW (h0 : T AB) (n : Nat) (D : DS) : Option (Fr × St) :=
 bO (fC h0 D.hs.reverse D.ls) (some (D.F, ⟨(cE (2 ^ n - 1) D.ps D.S.h).2, D.S.nx⟩)) none
def uQ (ops : List AO) (call : dV) (F : Fr) (S : St) : Option (Fr × St) :=
 aU (sM ops 0 S.nx call ⟨F, ⟨S.h, S.nx + jM ops⟩, [], [], []⟩) fun D => xW S.h (jM ops) D
structure Evs where
 code : AC → bT → St → Option (Out × bT × St)
 call : dV
abbrev CF := Evs → bT → St → Option (Out × bT × St)
def nN : List Nat → List AV → Fr → Option Fr
 | [], [], F => some F
 | p :: ps, v :: vs, F => nN ps vs (F.set p (some v))
 | _, _, _ => none
def oV : List AV → Nat → Fr → Fr
 | [], _, F => F
 | v :: vs, i, F => oV vs (i + 1) (F.set i (some v))
def aMq (o : Option Out) : Option AC :=
 match o with
 | none => some .skip
 | some .ret => some .ret
 | some (.exit id) => some (.exit id)
 | some .normal => none
def aMz : CF := fun _ A S => some (.normal, A, S)
def pU (b : AC) (ih : Evs) (r : Out × bT × St) : Option (Out × bT × St) :=
 match r.1 with
 | .normal => ih.code b r.2.1 r.2.2
 | _ => some r
def aNX (a b : AC) : CF := fun ih A S => aU (ih.code a A S) (pU b ih)
def aAD (v : AV) (a b : AC) : CF := fun ih A S =>
 match v with
 | .bool t => ih.code (bO t a b) A S
 | _ => none
def aMB (c : cH) (a b : AC) : CF := fun ih A S => aAD (c.val A.F) a b ih A S
def pH (id : Nat) (r : Out × bT × St) : Option (Out × bT × St) :=
 match r.1 with
 | .exit i => bO (Nat.beq i id) (some (.normal, r.2)) (some r)
 | _ => some r
def aL6 (id : Nat) (c : AC) : CF := fun ih A S => aU (ih.code c A S) (pH id)
def aMS (c : AC) : CF := fun ih A S => aU (ih.code c A S) (pU (.loop c) ih)
def aMy (id : Nat) : CF := fun _ A S => some (.exit id, A, S)
def aNq : CF := fun _ A S => some (.ret, A, S)
def aNH (ops : List AO) : CF := fun ih A S => aU (sI ops ih.call A.F S) fun r => some (.normal, ⟨r.1, A.inr⟩, r.2)
def aNU (_ : List AO) (_ : cH) (_ : List cH) : CF := fun _ _ _ => none
def aNu (ops : List AO) : CF := fun ih A S => aU (uQ ops ih.call A.F S) fun r => some (.normal, ⟨r.1, A.inr⟩, r.2)
def aD1 (bl : AB) (l : Nat) (A : bT) (S2 : St) (ih : Evs) : Option (Out × bT × St) :=
 match bl with
 | .loop st pend fr ps as bd =>
  match st with
  | .busy => none
  | _ => aU (aMq pend) fun c => ih.code c A ⟨S2.h.set l (some (.loop .exhausted pend fr ps as bd)), S2.nx⟩
 | _ => none
def aL8 (v : AV) : Bool :=
 match v with
 | .fn .. => true
 | _ => false
def aKk (f : cH) (params : List Nat) (assign body : AC) : CF := fun ih A S =>
 bO A.inr none (bO (aL8 (f.val A.F))
  (aU (ih.call (f.val A.F) [.yld S.nx] ⟨S.h.set S.nx (some (.loop .ready none A.F params assign body)), Nat.succ S.nx⟩) fun r =>
   aU (r.2.h.get S.nx) fun bl => aD1 bl S.nx A r.2 ih) none)
def aGq (c : AC) : CF :=
 AC.rec (motive := fun _ => CF) aMz (fun a b _ _ => aNX a b) (fun c a b _ _ => aMB c a b) (fun id c _ => aL6 id c) (fun c _ => aMS c) aMy aNq aNH aNu (fun f ps as bd _ _ => aKk f ps as bd) aNU c
def aMQ (v : AV) (agg : Bool) (n : Nat) (h : T AB) : Option AV :=
 match v with
 | .ptr b off => oO agg n h b off
 | _ => none
def results : List RV → Fr → T AB → Option (List AV)
 | [], _, _ => some []
 | .t i :: rs, F, h => aU (results rs F h) fun vs => some (aC i F :: vs)
 | .cell a agg n :: rs, F, h => aU (aMQ (aC a F) agg n h) fun v => aU (results rs F h) fun vs => some (v :: vs)
def oneOf (vs : List AV) : AV :=
 match vs with
 | [v] => v
 | vs => .tup vs
def aDq (fn : cA) (r : Out × bT × St) : Option (AV × St) :=
 match r.1 with
 | .exit _ => none
 | _ => aU (results fn.res r.2.1.F r.2.2.h) fun vs => some (oneOf vs, r.2.2)
def tF (fn : cA) (args : List AV) (ih : Evs) (S : St) : Option (AV × St) :=
 bO (Nat.ble (jM args) fn.ntmps) (aU (ih.code fn.body ⟨oV args 0 .e, false⟩ S) (aDq fn)) none
def aCK (bl : AB) (o : Out) (l : Nat) (S2 : St) : Option (AV × St) :=
 match bl with
 | .loop .busy _ fr ps as bd =>
  match o with
  | .normal => some (.bool true, ⟨S2.h.set l (some (.loop .ready none fr ps as bd)), S2.nx⟩)
  | o => some (.bool false, ⟨S2.h.set l (some (.loop .done (some o) fr ps as bd)), S2.nx⟩)
 | _ => none
def aIb (l : Nat) (bd : AC) (ih : Evs) (A : bT) (S : St) : Option (AV × St) :=
 aU (ih.code bd A S) fun r => aU (r.2.2.h.get l) fun bl => aCK bl r.1 l r.2.2
def tZ (bl : AB) (l : Nat) (bd : AC) (ih : Evs) (A : bT) (S1 : St) : Option (AV × St) :=
 match bl with
 | .loop .ready pend fr ps as bd' => aIb l bd ih A ⟨S1.h.set l (some (.loop .busy pend fr ps as bd')), S1.nx⟩
 | _ => none
def aD4 (l : Nat) (bd : AC) (ih : Evs) (r : Out × bT × St) : Option (AV × St) :=
 match r.1 with
 | .normal => aU (r.2.2.h.get l) fun bl => tZ bl l bd ih r.2.1 r.2.2
 | _ => none
def zK (bl : AB) (l : Nat) (args : List AV) (ih : Evs) (S : St) : Option (AV × St) :=
 match bl with
 | .loop .ready _ fr ps as bd => aU (nN ps args fr) fun F => aU (ih.code as ⟨F, true⟩ S) (aD4 l bd ih)
 | _ => none
def tI (fns : T cA) (ih : Evs) (f : AV) (args : List AV) (S : St) : Option (AV × St) :=
 match f with
 | .fn id first cap => aU (fns.get id) fun fn => tF fn (uT first (uT args cap)) ih S
 | .yld l => aU (S.h.get l) fun bl => zK bl l args ih S
 | _ => none
def aLH (_ : AC) (_ : bT) (_ : St) : Option (Out × bT × St) := none
def aMb (_ : AV) (_ : List AV) (_ : St) : Option (AV × St) := none
def ev (fns : T cA) (n : Nat) : Evs :=
 Nat.rec (motive := fun _ => Evs) ⟨aLH, aMb⟩ (fun _ ih => ⟨fun c => aGq c ih, tI fns ih⟩) n
end
end Go.Ev
namespace Go.Ev
noncomputable section
def aJo (v : Value) : Bool :=
 match v with
 | .agg _ => false
 | .tuple _ => false
 | _ => true
mutual
def ofValue : Value → Option AV
 | .bool b => some (.bool b)
 | .int k n => some (.int k n)
 | .string s => some (.str (s.data.toList.map UInt8.toNat))
 | .pointer none => some .nilp
 | .slice none 0 0 => some .nilsl
 | .map none => some .nilmap
 | .nilFunc => some .nilfn
 | .nilIface => some .niliface
 | .func (.func f) ⟨a⟩ ⟨b⟩ => match ofValues a, ofValues b with
  | some a, some b => some (.fn f a b)
  | _, _ => none
 | .iface t v => (ofValue v).map (.iface t)
 | .agg ⟨cs⟩ => bif cs.all aJo then (ofValues cs).map .agg else none
 | .tuple ⟨cs⟩ => (ofValues cs).map .tup
 | _ => none
def ofValues : List Value → Option (List AV)
 | [] => some []
 | v :: vs => match ofValue v, ofValues vs with
  | some a, some as => some (a :: as)
  | _, _ => none
end
variable (P : Program)
def eE : Operand → Option cH
 | .tmp t => some (.t t)
 | .const v => (ofValue v).map .c
 | .global g => bif Nat.blt g P.globals.size then some (.c (.ptr g 0)) else none
 | .func f => some (.c (.fn f [] []))
def sP : List Operand → Option (List cH)
 | [] => some []
 | x :: xs => match eE P x, sP xs with
  | some a, some as => some (a :: as)
  | _, _ => none
def jS : Option Operand → Option (Option cH)
 | none => some none
 | some x => (eE P x).map some
def xS (t : TypeId) : Option (Bool × Nat) :=
 match P.underlying t, P.info? t with
 | some (.struct _), some i => some (true, i.size)
 | some (.array _ _), some i => some (true, i.size)
 | some _, some i => some (false, i.size)
 | _, _ => none
def aCd (t : TypeId) : Option AV :=
 match P.info? t with
 | some i => match i.zero with
  | some v => ofValue v
  | none => none
 | none => none
def eqP (t : TypeId) : EqP :=
 match P.underlying t with
 | some .bool => .bool
 | some (.int _) => .int
 | some .string => .str
 | some (.pointer _) => .ptr
 | some (.slice _) => .slice
 | some (.map _ _) => .map
 | some (.func ..) => .func
 | some (.interface _) => .iface
 | _ => .no
def eqFields : List Field → List (Nat × EqP)
 | [] => []
 | f :: fs => bif f.name == "_" then eqFields fs else (f.offset, eqP P f.type) :: eqFields fs
def eqT (t : TypeId) : rC :=
 match P.underlying t with
 | some (.struct fs) => bif P.stoodInHeld t || P.eqGuardType P.depth t then .p .no else .struct (eqFields P fs.toList)
 | some (.array n e) => bif P.eqGuardType P.depth t || n > 64 || P.cellsOf e != 1 then .p .no else .struct ((List.range n).map fun i => (i, eqP P e))
 | _ => .p (eqP P t)
def tP (place : Nat → Option (Nat × Nat)) : List (Nat × Operand) → Option (List (Nat × Nat × cH))
 | [] => some []
 | (i, x) :: ps => match place i, eE P x, tP place ps with
  | some (off, n), some x, some ps => some ((off, n, x) :: ps)
  | _, _, _ => none
def placeOf (fs : Array Field) (i : Nat) : Option (Nat × Nat) :=
 match fs[i]? with
 | some f => match P.info? f.type with
  | some s => some (f.offset, s.size)
  | none => none
 | none => none
def mR : List Field → Bool
 | [] => true
 | f :: fs => (P.info? f.type).isSome && mR fs
def uL : List (Nat × Operand) → Option (List (Nat × cH))
 | [] => some []
 | (i, x) :: ps => match eE P x, uL ps with
  | some x, some ps => some ((i, x) :: ps)
  | _, _ => none
def mM (t : TypeId) : Option (TypeId × TypeInfo) :=
 match P.underlying t with
 | some (.slice e) => (P.info? e).map fun i => (e, i)
 | _ => none
def iM (t : TypeId) : Option (List AV) := (aCd P t).bind AV.cells
def iP (e : TypeId) (i : TypeInfo) : Option (List AV) :=
 match iM P e with
 | some z => bif Nat.beq z.length i.size then some z else none
 | none => none
def aKU (u : TypeId) (i : TypeInfo) : Bool :=
 match P.underlying u with
 | some (.slice _) => true
 | some .string => Nat.beq i.size 1
 | _ => false
def mI (name : String) (t : TypeId) (i : TypeInfo) : Option (Nat × Nat × Option (Bool × Nat)) :=
 match i.methods.find? (·.name == name) with
 | some m => bif !m.path.isEmpty then none else match m.func with
  | none => none
  | some (f, ptr) => match P.underlying t, ptr with
   | some (.pointer _), true => some (t, f, none)
   | some (.pointer e), false => (xS P e).map fun a => (t, f, some a)
   | some (.interface _), _ => none
   | some _, false => some (t, f, none)
   | _, _ => none
 | none => none
def fL (name : String) : List TypeInfo → Nat → List (Nat × Nat × Option (Bool × Nat))
 | [], _ => []
 | i :: is, t => match mI P name t i with
  | some r => r :: fL name is (t + 1)
  | none => fL name is (t + 1)
def plainKey : EqP → Bool
 | .int | .str | .bool => true
 | _ => false
def zZ : Nat → List (Nat × EqP) → Bool
 | _, [] => true
 | i, (o, e) :: l => Nat.beq o i && (plainKey e && zZ (i + 1) l)
def aAl (t : TypeId) : Option rC :=
 match P.underlying t with
 | some .string => some (.p .str)
 | some (.int _) => some (.p .int)
 | some (.struct fs) => match eqT P t with
  | .struct l => bif fs.all (fun f => plainKey (eqP P f.type)) && zZ 0 l then some (.struct l) else none
  | _ => none
 | some (.array _ e) => match eqT P t with
  | .struct l => bif plainKey (eqP P e) && zZ 0 l then some (.struct l) else none
  | _ => none
 | _ => none
def aGP (s : String) : Option aGs :=
 bif s == "math/bits.Add64" then some .add64
 else bif s == "internal/bytealg.IndexByteString" then some .idxByte
 else none
def aG0 (f : Operand) : Option aGs :=
 match f with
 | .func f => match P.funcs[f]? with
  | some fn => bif fn.body.isNone && (Extern.allNextRows.lookup fn.origin).isNone then aGP fn.name else none
  | none => none
 | _ => none
def q (o : Option wN) : Option AOp := o.map .q
def al (o : Option tE) : Option AOp := o.map .a
def xx (o : Option XOp) : Option AOp := o.map .x
def nC (o : Op) : Option AOp :=
 match o with
 | .move x | .assign x => q do some (.mv (← eE P x))
 | .pick c a b => q do some (.pick (← eE P c) (← eE P a) (← eE P b))
 | .alloc t => al do some (.alloc t (← iM P t))
 | .box t x => al do some (.box t (← eE P x))
 | .build t ps =>
  match P.underlying t with
  | some (.struct fs) => bif mR P fs.toList then q do some (.build (← iM P t) (← tP P (placeOf P fs) ps.toList)) else none
  | some (.array _ e) => q do let s ← P.info? e; some (.build (← iM P t) (← tP P (fun i => some (i * s.size, s.size)) ps.toList))
  | _ => none
 | .buildSlice t len ps => al do
  let (e, i) ← mM P t
  if len * i.size > 65536 then none
  some (.bslice e i.size len (← iP P e i) (← uL P ps.toList))
 | .load t a => q do let (agg, n) ← xS P t; some (.ld agg n (← eE P a))
 | .store t a v => xx do let (_, n) ← xS P t; some (.st n (← eE P a) (← eE P v))
 | .nilCheck x => q do some (.nilchk (← eE P x))
 | .binOp op t x y _ => q do some (.bin op (eqT P t) (← eE P x) (← eE P y))
 | .unOp op _ x => q do some (.un op (← eE P x))
 | .convert src dst x =>
  match P.underlying src, P.underlying dst with
  | some (.int _), some (.int k) => q do some (.conv (.int k) (← eE P x))
  | some .string, some .string => q do some (.conv .same (← eE P x))
  | some (.int _), some .string => q do some (.conv .intToStr (← eE P x))
  | some (.slice e), some .string => match P.underlying e with
   | some (.int .u8) => q do some (.conv .bytesToStr (← eE P x))
   | _ => none
  | some .string, some (.slice e) => match P.underlying e with
   | some (.int .u8) => al do some (.strBytes e (← eE P x))
   | _ => none
  | _, _ => none
 | .makeInterface t x => match P.underlying t with
  | some (.interface _) => none
  | some _ => q do some (.mkIface t (← eE P x))
  | none => none
 | .makeFunc (.method name) a b => match a.toList, b.toList with
  | [x], [] => q do some (.mkMeth name (fL P name P.types.toList 0) (← eE P x))
  | _, _ => none
 | .makeFunc (.func f) a b => q do some (.mkFunc f (← sP P a.toList) (← sP P b.toList))
 | .makeMap _ none => al (some .mkMap)
 | .makeSlice t l c => al do let (e, i) ← mM P t; some (.mkSlice e i.size i.bytes (← iP P e i) (← eE P l) (← eE P c))
 | .slice t x lo hi mx => bif mx.isSome && hi.isNone then none else
  match P.underlying t with
  | some .string => q do some (.slc .str (← eE P x) (← jS P lo) (← jS P hi) (← jS P mx))
  | some (.slice e) => q do let i ← P.info? e; some (.slc (.slice i.size) (← eE P x) (← jS P lo) (← jS P hi) (← jS P mx))
  | some (.array n e) => q do let i ← P.info? e; some (.slc (.arr n i.size) (← eE P x) (← jS P lo) (← jS P hi) (← jS P mx))
  | _ => none
 | .fieldAddr t x f => match P.underlying t with
  | some (.struct fs) => q do
   let f ← fs[f]?
   let i ← P.info? f.type
   if i.size = 0 then none
   some (.faddr f.offset (← eE P x))
  | _ => none
 | .field t x f => match P.underlying t with
  | some (.struct fs) => q do
   let f ← fs[f]?
   let (agg, n) ← xS P f.type
   some (.fld agg f.offset n (← eE P x))
  | _ => none
 | .indexAddr t x ix => match P.underlying t with
  | some (.slice e) => q do let i ← P.info? e; some (.iaddr (.slice i.size) (← eE P x) (← eE P ix))
  | some (.array n e) => q do let i ← P.info? e; some (.iaddr (.arr n i.size) (← eE P x) (← eE P ix))
  | _ => none
 | .index t x ix => match P.underlying t with
  | some .string => q do some (.idxStr (← eE P x) (← eE P ix))
  | some (.array n e) => q do let (agg, s) ← xS P e; some (.idxArr agg n s (← eE P x) (← eE P ix))
  | _ => none
 | .lookup t m k ok => match P.underlying t with
  | some (.map kt et) => q do some (.lookup (← aAl P kt) (← aCd P et) ok (← eE P m) (← eE P k))
  | _ => none
 | .mapUpdate t m k v | .insert t m k v => match P.underlying t with
  | some (.map kt _) => xx do some (.mapUpd (← aAl P kt) (← eE P m) (← eE P k) (← eE P v))
  | _ => none
 | .typeAssert x _ t ok => match P.underlying t with
  | some (.interface _) => none
  | some _ => q do some (.tassert t (← aCd P t) ok (← eE P x))
  | none => none
 | .extract x i => q do some (.extract (← eE P x) i)
 | .call { callee := .value f, args, .. } => match aG0 P f with
  | some k => xx do some (.ext k (← sP P args.toList))
  | none => xx do some (.call (← eE P f) (← sP P args.toList))
 | .call { callee := .invoke r name, args, .. } => xx do some (.inv (fL P name P.types.toList 0) (← eE P r) (← sP P args.toList))
 | .call { callee := .builtin b, args, argTypes } =>
  match b, args.toList, argTypes.toList with
  | .len, [x], [t] => match P.underlying t with
   | some .string => q do some (.lenStr (← eE P x))
   | some (.slice _) => q do some (.lenSl (← eE P x))
   | some (.array n _) => q (some (.lenArr n))
   | some (.map _ _) => q do some (.lenMap (← eE P x))
   | _ => none
  | .cap, [x], [t] => match P.underlying t with
   | some (.slice _) => q do some (.capSl (← eE P x))
   | _ => none
  | .max, xs, _ => q do some (.minmax true (← sP P xs))
  | .min, xs, _ => q do some (.minmax false (← sP P xs))
  | .append, [s, x], [t, u] => match mM P t with
   | some (e, i) => bif aKU P u i && (iP P e i).isSome then xx do some (.app e i.size i.bytes (← eE P s) (← eE P x)) else none
   | none => none
  | .clear, [x], [t] => match mM P t with
   | some (e, i) => xx do some (.clr (← iP P e i) (← eE P x))
   | none => none
  | _, _, _ => none
 | _ => none
def zD (ops : Array Oper) : Option (Nat × Bool) → Option (Option (Nat × Bool))
 | none => some none
 | some (j, w) => match (ops[j]?).bind (·.dst) with
  | some d => some (some (d, w))
  | none => none
def uZ (nt : Nat) : Option Tmp → Bool
 | some d => Nat.blt d nt
 | none => true
def aGY (nt : Nat) (ops : Array Oper) (o : Oper) (mask : Nat) : Option AO :=
 bif uZ nt o.dst then
  match zD ops o.guard with
  | some g => match nC P o.op with
   | some op => some ⟨o.dst, op, g, mask⟩
   | none => some ⟨o.dst, .x .bad, g, mask⟩
  | none => none
 else none
def sB (nt : Nat) (ops : Array Oper) : List Oper → List Nat → Option (List AO)
 | [], _ => some []
 | o :: os, ms => match aGY P nt ops o (ms.headD 0), sB nt ops os ms.tail with
  | some a, some as => some (a :: as)
  | _, _ => none
def cH.rd (x : cH) : List Nat :=
 match x with
 | .t i => [i]
 | .c _ => []
def rds : List cH → List Nat
 | [] => []
 | x :: xs => x.rd ++ rds xs
def rdo (x : Option cH) : List Nat :=
 match x with
 | some x => x.rd
 | none => []
def rdp : List (Nat × Nat × cH) → List Nat
 | [] => []
 | (_, _, x) :: ps => x.rd ++ rdp ps
def aL0 : List (Nat × cH) → List Nat
 | [] => []
 | (_, x) :: ps => x.rd ++ aL0 ps
def wN.rd (o : wN) : List Nat :=
 match o with
 | .mv x | .ld _ _ x | .nilchk x | .un _ x | .conv _ x | .mkIface _ x | .faddr _ x | .fld _ _ _ x | .tassert _ _ _ x | .extract x _ | .lenStr x | .lenSl x | .lenMap x | .capSl x | .mkMeth _ _ x => x.rd
 | .pick c a b => c.rd ++ (a.rd ++ b.rd)
 | .build _ ps => rdp ps
 | .bin _ _ x y | .iaddr _ x y | .idxArr _ _ _ x y | .idxStr x y | .lookup _ _ _ x y => x.rd ++ y.rd
 | .mkFunc _ a b => rds a ++ rds b
 | .slc _ x lo hi mx => x.rd ++ (rdo lo ++ (rdo hi ++ rdo mx))
 | .lenArr _ => []
 | .minmax _ xs => rds xs
def tE.rd (o : tE) : List Nat :=
 match o with
 | .alloc _ _ | .mkMap => []
 | .box _ x | .strBytes _ x => x.rd
 | .bslice _ _ _ _ ps => aL0 ps
 | .mkSlice _ _ _ _ l c => l.rd ++ c.rd
def XOp.rd (o : XOp) : List Nat :=
 match o with
 | .st _ x v => x.rd ++ v.rd
 | .call f args | .inv _ f args => f.rd ++ rds args
 | .app _ _ _ s x | .copy _ s x | .mapDel _ s x => s.rd ++ x.rd
 | .mapUpd _ m k v => m.rd ++ (k.rd ++ v.rd)
 | .clr _ x => x.rd
 | .ext _ args => rds args
 | .bad => []
def AOp.rd (o : AOp) : List Nat :=
 match o with
 | .q o => o.rd
 | .a o => o.rd
 | .x o => o.rd
def AO.touch (o : AO) : List Nat := o.dst.toList ++ ((o.grd.map (·.1)).toList ++ o.op.rd)
def inL (t : Nat) : List Nat → Bool
 | [] => false
 | u :: l => bif Nat.beq t u then true else inL t l
def meets (d : Option Nat) (b : List Nat) : Bool :=
 match d with
 | some d => inL d b
 | none => false
def aDC (i : Nat) (d : Option Nat) (tch : List Nat) : List AO → Bool
 | [] => true
 | b :: l => (bif meets d b.touch || meets b.dst tch then Nat.testBit b.mask i else true) && aDC i d tch l
def aGy : Nat → List AO → Bool
 | _, [] => true
 | i, a :: l => aDC i a.dst a.touch l && aGy (i + 1) l
def aMO (l : List AO) : Bool := aGy 0 l
def aA0 : Nat → List Oper → Bool
 | _, [] => true
 | i, o :: l => o.after.all (fun e => !Region.binds .any e || Nat.blt e.on i) && aA0 (i + 1) l
def aEd (nt : Nat) (ops : Array Oper) : Option AC :=
 match sB P nt ops ops.toList (CheckFast.beforeL ops.toList 0 []) with
 | some aos => bif aA0 0 ops.toList && aMO aos then some (.drw aos) else none
 | none => none
def jL (nt : Nat) : Code → Option AC
 | .skip => some .skip
 | .seq a b => match jL nt a, jL nt b with
  | some a, some b => some (.seq a b)
  | _, _ => none
 | .cond c a b => match eE P c, jL nt a, jL nt b with
  | some c, some a, some b => some (.cond c a b)
  | _, _, _ => none
 | .block id c => (jL nt c).map (.block id)
 | .loop c => (jL nt c).map .loop
 | .exit id => some (.exit id)
 | .ret => some .ret
 | .region _ ops d => bif d then aEd P nt ops else (sB P nt ops ops.toList []).map .reg
 | .rangeFunc f ps as bd => bif ps.toList.all (fun p => Nat.blt p nt) then match eE P f, jL nt as, jL nt bd with
  | some f, some as, some bd => some (.rng f ps.toList as bd)
  | _, _, _ => none
  else none
 | _ => none
def aEy : List ResultVar → Option (List RV)
 | [] => some []
 | .tmp t :: rs => (aEy rs).map (.t t :: ·)
 | .cell a t :: rs => match xS P t, aEy rs with
  | some (agg, n), some rs => some (.cell a agg n :: rs)
  | _, _ => none
def cFn (fn : Func) : Option cA :=
 bif fn.name == "runtime.NumGoroutine" then none else
 match fn.body with
 | some c => match jL P fn.ntmps c, aEy P fn.results.toList with
  | some c, some rs => some ⟨fn.ntmps, rs, c⟩
  | _, _ => none
 | none => none
end
end Go.Ev
