import GoSem.Dispatch
import Derived.CheckFast
namespace Go.Ev
theorem Aa : type_of% @decide_eq_false := @decide_eq_false
theorem Ab.{u} : type_of% @List.getElem?_eq_getElem.{u} := @List.getElem?_eq_getElem.{u}
theorem Ac.{u} : type_of% @List.getD_eq_getElem?_getD.{u} := @List.getD_eq_getElem?_getD.{u}
theorem Ad : type_of% @decide_eq_true := @decide_eq_true
theorem Ae : type_of% @Nat.lt_of_lt_of_le := @Nat.lt_of_lt_of_le
theorem Af : type_of% @Nat.le_refl := @Nat.le_refl
theorem Ag.{u} : type_of% @List.forall_mem_cons.{u} := @List.forall_mem_cons.{u}
theorem Ah.{u} : type_of% @List.length_append.{u} := @List.length_append.{u}
theorem Ai.{u} : type_of% @List.getElem?_eq_some_iff.{u} := @List.getElem?_eq_some_iff.{u}
theorem Aj : type_of% @Int.ofNat_eq_natCast := @Int.ofNat_eq_natCast
theorem Ak : type_of% @Nat.ble_eq_true_of_le := @Nat.ble_eq_true_of_le
theorem Al : type_of% @Nat.le_trans := @Nat.le_trans
theorem Am : type_of% @Nat.zero_add := @Nat.zero_add
theorem An.{u} : type_of% @List.getElem?_append_left.{u} := @List.getElem?_append_left.{u}
theorem Ao.{u} : type_of% @List.getElem?_append_right.{u} := @List.getElem?_append_right.{u}
theorem Ap.{u} : type_of% @List.length_replicate.{u} := @List.length_replicate.{u}
theorem Aq.{u} : type_of% @List.length_singleton.{u} := @List.length_singleton.{u}
theorem Ar.{u} : type_of% @Option.some.injEq.{u} := @Option.some.injEq.{u}
theorem Au.{u} : type_of% @List.length_set.{u} := @List.length_set.{u}
theorem Av.{u,v} : type_of% @List.length_map.{u,v} := @List.length_map.{u,v}
theorem Aw.{u,v} : type_of% @Option.map_eq_some_iff.{u,v} := @Option.map_eq_some_iff.{u,v}
theorem Ax : type_of% @not_false_eq_true := @not_false_eq_true
theorem Ay : type_of% @Nat.le_of_ble_eq_true := @Nat.le_of_ble_eq_true
theorem Az.{u} : type_of% @List.length_cons.{u} := @List.length_cons.{u}
theorem Ba : type_of% @Int.toNat_natCast := @Int.toNat_natCast
theorem Bb : type_of% @Bool.false_eq_true := @Bool.false_eq_true
theorem Bc.{u,v} : type_of% @List.getElem?_map.{u,v} := @List.getElem?_map.{u,v}
theorem Bd : type_of% @Nat.beq_eq := @Nat.beq_eq
theorem Be : type_of% @Nat.eq_zero_or_pos := @Nat.eq_zero_or_pos
theorem Bf.{u} : type_of% @List.append_assoc.{u} := @List.append_assoc.{u}
theorem Bg.{u} : type_of% @List.mem_cons_of_mem.{u} := @List.mem_cons_of_mem.{u}
theorem Bh.{u} : type_of% @List.mem_append.{u} := @List.mem_append.{u}
theorem Bi.{u} : type_of% @Array.getD_eq_getD_getElem?.{u} := @Array.getD_eq_getD_getElem?.{u}
theorem Bj : type_of% @Nat.add_zero := @Nat.add_zero
theorem Bk.{u} : type_of% @List.append_nil.{u} := @List.append_nil.{u}
theorem Bl.{u} : type_of% @List.getElem?_eq_none.{u} := @List.getElem?_eq_none.{u}
theorem Bm.{u} : type_of% @List.mem_cons_self.{u} := @List.mem_cons_self.{u}
theorem Bn.{u} : type_of% @List.take_of_length_le.{u} := @List.take_of_length_le.{u}
theorem Bo.{u} : type_of% @List.length_eq_zero_iff.{u} := @List.length_eq_zero_iff.{u}
theorem Bp.{u} : type_of% @Bool.cond_eq_ite.{u} := @Bool.cond_eq_ite.{u}
theorem Bq.{u} : type_of% @Option.some.inj.{u} := @Option.some.inj.{u}
theorem Br.{u} : type_of% @List.mem_cons.{u} := @List.mem_cons.{u}
theorem Bs.{u} : type_of% @List.length_take.{u} := @List.length_take.{u}
theorem Bt.{u} : type_of% @List.getElem_mem.{u} := @List.getElem_mem.{u}
theorem Bu : type_of% @Nat.mul_le_mul_right := @Nat.mul_le_mul_right
theorem Bv : type_of% @Nat.not_lt_zero := @Nat.not_lt_zero
theorem Bw.{u} : type_of% @List.nil_append.{u} := @List.nil_append.{u}
theorem Bx.{u} : type_of% @List.mem_of_getElem?.{u} := @List.mem_of_getElem?.{u}
theorem Bz.{u} : type_of% @List.length_nil.{u} := @List.length_nil.{u}
theorem Ca.{u} : type_of% @List.getElem?_replicate.{u} := @List.getElem?_replicate.{u}
theorem Cb : type_of% @Bool.eq_false_iff := @Bool.eq_false_iff
theorem Cc.{u,v} : type_of% @Option.bind_eq_some_iff.{u,v} := @Option.bind_eq_some_iff.{u,v}
theorem Cd : type_of% @Nat.eq_of_beq_eq_true := @Nat.eq_of_beq_eq_true
theorem Ce : type_of% @Bool.eq_iff_iff := @Bool.eq_iff_iff
theorem Cf.{u} : type_of% @List.mem_singleton.{u} := @List.mem_singleton.{u}
theorem Cg : type_of% @Nat.succ_mul := @Nat.succ_mul
theorem Ch.{u} : type_of% @List.getElem?_cons_succ.{u} := @List.getElem?_cons_succ.{u}
theorem Ci : type_of% @Nat.zero_le := @Nat.zero_le
theorem Cj.{u} : type_of% @List.drop_eq_getElem_cons.{u} := @List.drop_eq_getElem_cons.{u}
theorem Ck : type_of% @Nat.le_add_right := @Nat.le_add_right
theorem Cl.{u} : type_of% @List.take_add_one.{u} := @List.take_add_one.{u}
theorem Cm.{u} : type_of% @List.mem_append_right.{u} := @List.mem_append_right.{u}
theorem Cn : type_of% @Nat.lt_or_ge := @Nat.lt_or_ge
theorem Co.{u,v} : type_of% @List.map_append.{u,v} := @List.map_append.{u,v}
theorem Cp.{u} : type_of% @List.cons_append.{u} := @List.cons_append.{u}
theorem Cq.{u} : type_of% @List.length_drop.{u} := @List.length_drop.{u}
theorem Cr.{u} : type_of% @Ne.symm.{u} := @Ne.symm.{u}
theorem Ct : type_of% @Nat.add_assoc := @Nat.add_assoc
theorem Cu : type_of% @not_true_eq_false := @not_true_eq_false
theorem Cv.{u} : type_of% @List.drop_of_length_le.{u} := @List.drop_of_length_le.{u}
theorem Cw.{u} : type_of% @Array.getElem?_toList.{u} := @Array.getElem?_toList.{u}
theorem Cx : type_of% @Nat.zero_mul := @Nat.zero_mul
theorem Cy : type_of% @List.length_range := @List.length_range
theorem Cz.{u} : type_of% @List.reverse_cons.{u} := @List.reverse_cons.{u}
theorem Da.{u} : type_of% @List.mem_append_left.{u} := @List.mem_append_left.{u}
theorem Db : type_of% @decide_eq_true_iff := @decide_eq_true_iff
theorem Dc : type_of% @Int.natAbs_natCast := @Int.natAbs_natCast
theorem Dd.{u,v} : type_of% @List.map_cons.{u,v} := @List.map_cons.{u,v}
theorem De : type_of% @Bool.not_true := @Bool.not_true
theorem Dg : type_of% @Int.toNat_of_nonneg := @Int.toNat_of_nonneg
theorem Dh : type_of% @List.getElem?_range := @List.getElem?_range
theorem Di.{u} : type_of% @List.getElem?_set.{u} := @List.getElem?_set.{u}
theorem Dj.{u} : type_of% @List.singleton_append.{u} := @List.singleton_append.{u}
theorem Dk.{u} : type_of% @List.drop_zero.{u} := @List.drop_zero.{u}
theorem Dl : type_of% @Nat.mul_le_mul := @Nat.mul_le_mul
theorem Dm.{u} : type_of% @List.all_eq_true.{u} := @List.all_eq_true.{u}
theorem Dn : type_of% @Nat.lt_succ_self := @Nat.lt_succ_self
theorem Dp : type_of% @Bool.and_eq_true := @Bool.and_eq_true
theorem Dq : type_of% @Nat.add_mul := @Nat.add_mul
theorem Dr.{u,v} : type_of% @List.mem_map.{u,v} := @List.mem_map.{u,v}
theorem Dt.{u,v} : type_of% @List.map_congr_left.{u,v} := @List.map_congr_left.{u,v}
theorem Du : type_of% @Rat.intCast_mul := @Rat.intCast_mul
theorem Dv.{u} : type_of% @Array.getElem?_eq_getElem.{u} := @Array.getElem?_eq_getElem.{u}
theorem Dw.{u} : type_of% @List.getElem?_take_of_lt.{u} := @List.getElem?_take_of_lt.{u}
theorem Dx.{u} : type_of% @List.mem_of_mem_take.{u} := @List.mem_of_mem_take.{u}
theorem Dy.{u} : type_of% @if_false.{u} := @if_false.{u}
theorem Dz.{u} : type_of% @List.getElem?_append.{u} := @List.getElem?_append.{u}
theorem Ea : type_of% @Bool.not_false := @Bool.not_false
theorem Eb.{u} : type_of% @List.mem_iff_getElem.{u} := @List.mem_iff_getElem.{u}
theorem Ec : type_of% @Nat.add_sub_cancel_left := @Nat.add_sub_cancel_left
theorem Ed.{u} : type_of% @Array.length_toList.{u} := @Array.length_toList.{u}
theorem Ee : type_of% @Nat.mul_one := @Nat.mul_one
theorem Ef : type_of% @Nat.lt_of_le_of_lt := @Nat.lt_of_le_of_lt
theorem Eg : type_of% @Int.natCast_mul := @Int.natCast_mul
theorem Eh.{u} : type_of% @List.mem_of_mem_drop.{u} := @List.mem_of_mem_drop.{u}
theorem Ei.{u,v,w} : type_of% @List.map_map.{u,v,w} := @List.map_map.{u,v,w}
theorem Ej : type_of% @Nat.sub_self := @Nat.sub_self
theorem Ek : type_of% @Nat.lt_trichotomy := @Nat.lt_trichotomy
theorem El.{u} : type_of% @if_true.{u} := @if_true.{u}
theorem Em.{u,v} : type_of% @Array.toList_map.{u,v} := @Array.toList_map.{u,v}
theorem En.{u} : type_of% @List.ext_getElem.{u} := @List.ext_getElem.{u}
theorem Eo : type_of% @Nat.one_mul := @Nat.one_mul
theorem Ep : type_of% @Nat.add_sub_cancel := @Nat.add_sub_cancel
theorem Eq.{u} : type_of% @List.getElem?_drop.{u} := @List.getElem?_drop.{u}
theorem Er : type_of% @Bool.or_eq_true := @Bool.or_eq_true
theorem Es : type_of% @Decidable.not_not := @Decidable.not_not
theorem Et : type_of% @Nat.ble_eq := @Nat.ble_eq
theorem Eu : type_of% @Int.natAbs_mul := @Int.natAbs_mul
noncomputable section
inductive T (α : Type) where
 | e : T α
 | n (l : T α) (v : Option α) (r : T α) : T α
def bQ {α : Sort _} (c : Bool) (a b : α) : α := Bool.rec b a c
def bE {α β : Type} (x : Option α) (f : α → Option β) : Option β := Option.rec none f x
namespace T
variable {α : Type}
def get (t : T α) : Nat → Option α :=
 T.rec (motive := fun _ => Nat → Option α) (fun _ => none)
  (fun _ v _ gl gr k => bQ (Nat.beq k 0) v (bQ (Nat.beq (Nat.mod k 2) 1) (gl (Nat.div k 2)) (gr (Nat.sub (Nat.div k 2) 1)))) t
def single (f : Nat) : Nat → Option α → T α :=
 Nat.rec (motive := fun _ => Nat → Option α → T α) (fun _ _ => .e)
  (fun _ ih k x => bQ (Nat.beq k 0) (.n .e x .e) (bQ (Nat.beq (Nat.mod k 2) 1) (.n (ih (Nat.div k 2) x) none .e) (.n .e none (ih (Nat.sub (Nat.div k 2) 1) x)))) f
def set (t : T α) : Nat → Option α → T α :=
 T.rec (motive := fun _ => Nat → Option α → T α) (fun k x => single (Nat.succ k) k x)
  (fun l v r sl sr k x => bQ (Nat.beq k 0) (.n l x r) (bQ (Nat.beq (Nat.mod k 2) 1) (.n (sl (Nat.div k 2) x) v r) (.n l v (sr (Nat.sub (Nat.div k 2) 1) x)))) t
end T
inductive AV where
 | bool (b : Bool)
 | int (k : IntKind) (n : Int)
 | str (s : List Nat)
 | ptr (b off : Nat)
 | nilp
 | sl (b off len cap : Nat) (o : Bool)
 | nilsl
 | emp        -- an empty slice, not nil, of unknown place and capacity
 | map (b : Nat)
 | nilmap
 | fn (f : Nat) (first captured : List AV)
 | nilfn
 | yld (b : Nat)
 | iface (t : Nat) (v : AV)
 | niliface
 | mth (name : String) (tbl : List (Nat × Nat × Option (Bool × Nat))) (v : AV)     -- a method of an interface value, bound
 | agg (cs : List AV)
 | tup (vs : List AV)
 deriving Inhabited
def AV.cells (v : AV) : Option (List AV) :=
 match v with
 | .agg cs => some cs
 | .tup _ => none
 | v => some [v]
def AV.undef : AV := .tup []
inductive cK where
 | t (i : Nat)
 | c (v : AV)
 deriving Inhabited
inductive EqP where
 | bool | int | str | ptr | slice | map | func | iface | no
 deriving Inhabited, DecidableEq
inductive vC where
 | p (e : EqP)
 | struct (fs : List (Nat × EqP))
 deriving Inhabited
inductive aGg where
 | int (k : IntKind)
 | same
 | bytesToStr
 | intToStr
 deriving Inhabited
inductive SlK where
 | str
 | slice (size : Nat)
 | arr (n size : Nat)
 deriving Inhabited
inductive IxK where
 | arr (n size : Nat)
 | slice (size : Nat)
 deriving Inhabited
inductive uY where
 | mv (x : cK)
 | pick (c a b : cK)
 | build (zero : List AV) (parts : List (Nat × Nat × cK))
 | ld (agg : Bool) (n : Nat) (x : cK)
 | nilchk (x : cK)
 | bin (op : BinOp) (e : vC) (x y : cK)
 | un (op : UnOp) (x : cK)
 | conv (k : aGg) (x : cK)
 | mkIface (t : Nat) (x : cK)
 | mkFunc (f : Nat) (first captured : List cK)
 | slc (k : SlK) (x : cK) (lo hi mx : Option cK)
 | faddr (off : Nat) (x : cK)
 | fld (agg : Bool) (off n : Nat) (x : cK)
 | iaddr (k : IxK) (x ix : cK)
 | idxArr (agg : Bool) (n size : Nat) (x ix : cK)
 | idxStr (x ix : cK)
 | lookup (e : vC) (zero : AV) (commaOk : Bool) (m key : cK)
 | tassert (t : Nat) (zero : AV) (commaOk : Bool) (x : cK)
 | extract (x : cK) (i : Nat)
 | lenArr (n : Nat)
 | lenStr (x : cK)
 | lenSl (x : cK)
 | lenMap (x : cK)
 | capSl (x : cK)
 | minmax (isMax : Bool) (xs : List cK)
 | mkMeth (name : String) (tbl : List (Nat × Nat × Option (Bool × Nat))) (x : cK)
 deriving Inhabited
inductive sG where
 | alloc (t : Nat) (cells : List AV)
 | box (t : Nat) (x : cK)
 | bslice (t size len : Nat) (zero : List AV) (parts : List (Nat × cK))
 | mkSlice (t size bytes : Nat) (zero : List AV) (l c : cK)
 | mkMap
 | strBytes (t : Nat) (x : cK)
 deriving Inhabited
inductive aIq where
 | add64 | idxByte | idxStr
 deriving Inhabited
inductive XOp where
 | st (n : Nat) (x v : cK)
 | call (f : cK) (args : List cK)
 | inv (tbl : List (Nat × Nat × Option (Bool × Nat))) (recv : cK) (args : List cK)
 | app (t size bytes : Nat) (s x : cK)
 | copy (size : Nat) (d s : cK)
 | mapUpd (e : vC) (m k v : cK)
 | mapDel (e : vC) (m k : cK)
 | clr (zero : List AV) (x : cK)
 | ext (k : aIq) (args : List cK)
 | bad
 deriving Inhabited
inductive AOp where
 | q (o : uY)
 | a (o : sG)
 | x (o : XOp)
 deriving Inhabited
structure AO where
 dst : Option Nat
 op : AOp
 grd : Option (Nat × Bool)
 mask : Nat      -- the operations before it (drawn regions)
 deriving Inhabited
inductive AC where
 | skip
 | seq (a b : AC)
 | cond (c : cK) (a b : AC)
 | block (id : Nat) (c : AC)
 | loop (c : AC)
 | exit (id : Nat)
 | ret
 | reg (ops : List AO)
 | drw (ops : List AO)
 | rng (f : cK) (params : List Nat) (assign body : AC)
 | dfr (ops : List AO) (f : cK) (args : List cK)
 deriving Inhabited
inductive RV where
 | t (i : Nat)
 | cell (a : Nat) (agg : Bool) (n : Nat)
 deriving Inhabited
structure eJ where
 ntmps : Nat
 res : List RV
 body : AC
 deriving Inhabited
abbrev Fr := T AV
inductive LSt where
 | ready | busy | done | exhausted
 deriving DecidableEq, Inhabited
inductive Out where
 | normal
 | exit (id : Nat)
 | ret
 deriving Inhabited
inductive AB where
 | cells (cs : List AV) (opn : Bool) (size : Nat)     -- opn: there may be more room behind; size: the cells of an element then
 | ro (cs : List AV)
 | map (es : List (AV × AV))
 | loop (st : LSt) (pend : Option Out) (fr : Fr) (params : List Nat) (assign body : AC)
 | dfd
 deriving Inhabited
structure St where
 h : T AB
 nx : Nat
def aC (i : Nat) (F : Fr) : AV := Option.rec (motive := fun _ => AV) .undef (fun v => v) (F.get i)
def aLY (v : AV) (_ : Fr) : AV := v
def cK.val (x : cK) : Fr → AV := cK.rec (motive := fun _ => Fr → AV) aC aLY x
def cW (l : List cK) : Fr → List AV := List.rec (motive := fun _ => Fr → List AV) (fun _ => []) (fun x _ ih F => x.val F :: ih F) l
def nth {α : Type} (l : List α) : Nat → Option α := List.rec (motive := fun _ => Nat → Option α) (fun _ => none) (fun x _ ih k => bQ (Nat.beq k 0) (some x) (ih (Nat.sub k 1))) l
def aEe {α : Type} (l : List α) : Nat → List α := List.rec (motive := fun _ => Nat → List α) (fun _ => []) (fun x xs ih k => bQ (Nat.beq k 0) (x :: xs) (ih (Nat.sub k 1))) l
def aE2 {α : Type} (l : List α) : Nat → Option (List α) :=
 List.rec (motive := fun _ => Nat → Option (List α)) (fun n => bQ (Nat.beq n 0) (some []) none)
  (fun x _ ih n => bQ (Nat.beq n 0) (some []) (bE (ih (Nat.sub n 1)) fun r => some (x :: r))) l
def aAY {α : Type} (vs : List α) : List α → Option (List α) :=
 List.rec (motive := fun _ => List α → Option (List α)) (fun l => some l)
  (fun v _ ih l => List.rec (motive := fun _ => Option (List α)) none (fun _ xs _ => bE (ih xs) fun r => some (v :: r)) l) vs
def put {α : Type} (l : List α) : Nat → List α → Option (List α) :=
 List.rec (motive := fun _ => Nat → List α → Option (List α)) (fun k vs => bQ (Nat.beq k 0) (aAY vs []) none)
  (fun x xs ih k vs => bQ (Nat.beq k 0) (aAY vs (x :: xs)) (bE (ih (Nat.sub k 1) vs) fun r => some (x :: r))) l
def jY {α : Type} (l : List α) : Nat := List.rec (motive := fun _ => Nat) 0 (fun _ _ ih => Nat.succ ih) l
def tM {α : Type} (l m : List α) : List α := List.rec (motive := fun _ => List α) m (fun x _ ih => x :: ih) l
def repeatL {α : Type} (z : List α) (n : Nat) : List α := Nat.rec (motive := fun _ => List α) [] (fun _ ih => tM z ih) n
def cut {α : Type} (l : List α) (i n : Nat) : Option (List α) := aE2 (aEe l i) n
def mR (k : IntKind) : Nat :=
 match k with
 | .i8 => 127 | .i16 => 32767 | .i32 => 2147483647 | .i64 => 9223372036854775807
 | .u8 => 255 | .u16 => 65535 | .u32 => 4294967295 | .u64 => 18446744073709551615
def nat (k : IntKind) (n : Nat) : Int := bQ (Nat.ble n (mR k)) (.ofNat n) (k.wrap (.ofNat n))
def aBI (k : IntKind) : Bool :=
 match k with
 | .i8 | .i16 | .i32 | .i64 => true
 | _ => false
def neg (k : IntKind) (n : Nat) : Int := bQ (aBI k) (bQ (Nat.ble n (mR k)) (.negSucc n) (k.wrap (.negSucc n))) (k.wrap (.negSucc n))
def tK (k : IntKind) (n : Nat) : Bool := Nat.ble n (mR k)
def aCa (k : IntKind) (n : Int) : Int := Int.rec (motive := fun _ => Int) (fun m => nat k m) (fun m => neg k m) n
def yO (k : IntKind) (a b : Nat) : Int := bQ (Nat.ble b a) (nat k (Nat.sub a b)) (neg k (Nat.sub (Nat.sub b a) 1))
def aJz (k : IntKind) (x y : Int) : Int :=
 Int.rec (motive := fun _ => Int) (fun a => Int.rec (motive := fun _ => Int) (fun b => nat k (Nat.add a b)) (fun b => yO k a (Nat.succ b)) y)
  (fun a => Int.rec (motive := fun _ => Int) (fun b => yO k b (Nat.succ a)) (fun b => neg k (Nat.succ (Nat.add a b))) y) x
def aE8 (k : IntKind) (x y : Int) : Int :=
 Int.rec (motive := fun _ => Int) (fun a => Int.rec (motive := fun _ => Int) (fun b => yO k a b) (fun b => nat k (Nat.add a (Nat.succ b))) y)
  (fun a => Int.rec (motive := fun _ => Int) (fun b => neg k (Nat.add a b)) (fun b => yO k b a) y) x
def aGc (k : IntKind) (x y : Int) : Int :=
 Int.rec (motive := fun _ => Int) (fun a => Int.rec (motive := fun _ => Int) (fun b => nat k (Nat.mul a b)) (fun b => aCa k (Int.mul (.ofNat a) (.negSucc b))) y)
  (fun a => aCa k (Int.mul (.negSucc a) y)) x
def ieq (x y : Int) : Bool :=
 Int.rec (motive := fun _ => Bool) (fun a => Int.rec (motive := fun _ => Bool) (fun b => Nat.beq a b) (fun _ => false) y)
  (fun a => Int.rec (motive := fun _ => Bool) (fun _ => false) (fun b => Nat.beq a b) y) x
def ile (x y : Int) : Bool :=
 Int.rec (motive := fun _ => Bool) (fun a => Int.rec (motive := fun _ => Bool) (fun b => Nat.ble a b) (fun _ => false) y)
  (fun a => Int.rec (motive := fun _ => Bool) (fun _ => true) (fun b => Nat.ble b a) y) x
def keq (x y : IntKind) : Bool := Nat.beq (mR x) (mR y)
def aJm (x y : Bool) : Bool := bQ x y (bQ y false true)
def aN7 (k : IntKind) (x y : Int) : Option AV := some (.int k (aJz k x y))
def aOh (k : IntKind) (x y : Int) : Option AV := some (.int k (aE8 k x y))
def aOn (k : IntKind) (x y : Int) : Option AV := some (.int k (aGc k x y))
def aI8 (k : IntKind) (x y : Int) : Option AV :=
 match x, y with
 | .ofNat a, .ofNat b => bQ (Nat.beq b 0) none (some (.int k (nat k (Nat.div a b))))
 | x, y => bQ (ieq y (.ofNat 0)) none (some (.int k (aCa k (x.tdiv y))))
def aH5 (k : IntKind) (x y : Int) : Option AV :=
 match x, y with
 | .ofNat a, .ofNat b => bQ (Nat.beq b 0) none (some (.int k (.ofNat (Nat.mod a b))))
 | x, y => bQ (ieq y (.ofNat 0)) none (some (.int k (x.tmod y)))
def zL (f : Nat → Nat → Nat) (k : IntKind) (x y : Int) : Option AV :=
 match x, y with
 | .ofNat a, .ofNat b => bQ (tK k a) (bQ (tK k b) (some (.int k (.ofNat (f a b)))) none) none
 | _, _ => none
def aN2 := zL Nat.land
def iOr := zL Nat.lor
def aNZ := zL Nat.xor
def aNU (_ : IntKind) (x y : Int) : Option AV := some (.bool (ieq x y))
def aNX (_ : IntKind) (x y : Int) : Option AV := some (.bool (bQ (ieq x y) false true))
def aNK (_ : IntKind) (x y : Int) : Option AV := some (.bool (bQ (ile y x) false true))
def aOk (_ : IntKind) (x y : Int) : Option AV := some (.bool (ile x y))
def aNO (_ : IntKind) (x y : Int) : Option AV := some (.bool (bQ (ile x y) false true))
def aOe (_ : IntKind) (x y : Int) : Option AV := some (.bool (ile y x))
def aIA (_ : IntKind) (_ _ : Int) : Option AV := none
def aJj (op : BinOp) : IntKind → Int → Int → Option AV :=
 BinOp.rec (motive := fun _ => IntKind → Int → Int → Option AV) aN7 aOh aOn aI8 aH5 aN2 iOr aNZ aIA aIA aIA aNU aNX aNK aOk aNO aOe op
def aDB (op : BinOp) (k : IntKind) (x : Int) (b : Nat) : Option AV :=
 let n := bQ (Nat.ble b k.bits) b k.bits
 match op with
 | .shl => some (.int k (aGc k x (.ofNat (Nat.pow 2 n))))
 | .shr => some (.int k (x.fdiv (.ofNat (Nat.pow 2 n))))
 | _ => none
def wE (op : BinOp) (k : IntKind) (x y : Int) : Option AV :=
 match y with
 | .ofNat b => aDB op k x b
 | _ => none
def fG (op : BinOp) : Bool := BinOp.rec (motive := fun _ => Bool) false false false false false false false false true true false false false false false false false op
def mX : List Nat → List Nat → Bool
 | _, [] => false
 | [], _ :: _ => true
 | a :: x, b :: y => bQ (Nat.blt a b) true (bQ (Nat.beq a b) (mX x y) false)
def lT : List Nat → List Nat → Bool
 | [], [] => true
 | a :: x, b :: y => bQ (Nat.beq a b) (lT x y) false
 | _, _ => false
def aFQ (op : BinOp) (a b : List Nat) : Option AV :=
 match op with
 | .add => bQ (Nat.ble (jY a + jY b) 9223372036854775807) (some (.str (tM a b))) none
 | .eql => some (.bool (lT a b))
 | .neq => some (.bool (!lT a b))
 | .lss => some (.bool (mX a b))
 | .leq => some (.bool (mX a b || lT a b))
 | .gtr => some (.bool (!(mX a b || lT a b)))
 | .geq => some (.bool (!mX a b))
 | _ => none
def partOf (agg : Bool) (cs : List AV) (off n : Nat) : Option AV :=
 bQ agg (bE (cut cs off n) fun r => some (.agg r)) (nth cs off)
def eqp : EqP → AV → AV → Option Bool
 | .bool, .bool a, .bool b => some (aJm a b)
 | .int, .int k a, .int k' b => bQ (keq k k') (some (ieq a b)) none
 | .str, .str a, .str b => some (lT a b)
 | .ptr, .nilp, .nilp => some true
 | .ptr, .nilp, .ptr _ _ => some false
 | .ptr, .ptr _ _, .nilp => some false
 | .slice, .nilsl, .nilsl => some true
 | .slice, .nilsl, .sl .. => some false
 | .slice, .sl .., .nilsl => some false
 | .slice, .nilsl, .emp => some false
 | .slice, .emp, .nilsl => some false
 | .map, .nilmap, .nilmap => some true
 | .map, .nilmap, .map _ => some false
 | .map, .map _, .nilmap => some false
 | .func, .nilfn, .nilfn => some true
 | .func, .nilfn, .fn .. => some false
 | .func, .fn .., .nilfn => some false
 | .iface, .niliface, .iface _ _ => some false
 | .iface, .iface _ _, .niliface => some false
 | _, _, _ => none
def eqs : List (Nat × EqP) → List AV → List AV → Option Bool
 | [], _, _ => some true
 | (off, e) :: fs, xs, ys =>
  match nth xs off, nth ys off with
  | some x, some y => match eqp e x y with
   | some true => eqs fs xs ys
   | some false => some false
   | none => none
  | _, _ => none
def eqv : vC → AV → AV → Option Bool
 | .p e, x, y => eqp e x y
 | .struct fs, .agg xs, .agg ys => bQ (Nat.beq (jY xs) (jY fs)) (bQ (Nat.beq (jY ys) (jY fs)) (eqs fs xs ys) none) none
 | _, _, _ => none
def aKY (op : BinOp) (e : vC) (x y : AV) : Option AV :=
 match op with
 | .eql => bE (eqv e x y) fun b => some (.bool b)
 | .neq => bE (eqv e x y) fun b => some (.bool (bQ b false true))
 | _ => none
def dS (op : BinOp) (k : IntKind) (a : Int) (k' : IntKind) (b : Int) : Option AV :=
 bQ (fG op) (wE op k a b) (bQ (keq k k') (aJj op k a b) none)
def aC1 (v : AV) : Option (IntKind × Int) :=
 match v with
 | .int k a => some (k, a)
 | _ => none
def aDM (v : AV) : Option (List Nat) :=
 match v with
 | .str s => some s
 | _ => none
def lE (op : BinOp) (e : vC) (x y : AV) : Option AV :=
 match aC1 x, aC1 y with
 | some a, some b => dS op a.1 a.2 b.1 b.2
 | _, _ => match aDM x, aDM y with
  | some a, some b => aFQ op a b
  | _, _ => aKY op e x y
def unV (op : UnOp) (x : AV) : Option AV :=
 match op, x with
 | .neg, .int k n => some (.int k (aE8 k (.ofNat 0) n))
 | .not, .bool b => some (.bool (bQ b false true))
 | _, _ => none
def nO (b : AB) : Option (List AV) :=
 match b with
 | .cells cs _ _ => some cs
 | .ro cs => some cs
 | _ => none
def cP (h : T AB) (b : Nat) : Option (List AV) := bE (h.get b) nO
def tV (h : T AB) (b off n : Nat) : Option (List AV) := bE (cP h b) fun cs => cut cs off n
def mS (h : T AB) (b off : Nat) : Option AV := bE (cP h b) fun cs => nth cs off
def oD (agg : Bool) (n : Nat) (h : T AB) (b off : Nat) : Option AV :=
 bQ agg (bE (tV h b off n) fun cs => some (.agg cs)) (mS h b off)
def eF (zero : List AV) : List (Nat × Nat × AV) → Option (List AV)
 | [] => some zero
 | (off, n, v) :: ps => bE v.cells fun cs => bQ (Nat.beq (jY cs) n) (bE (put zero off cs) fun z => eF z ps) none
def bytesOf : List AV → Option (List Nat)
 | [] => some []
 | .int .u8 (.ofNat n) :: vs => bQ (Nat.ble n 255) (bE (bytesOf vs) fun r => some (n :: r)) none
 | _ :: _ => none
def eX (v : AV) : Option Nat :=
 match v with
 | .int _ (.ofNat n) => some n
 | _ => none
def iW (F : Fr) (d : Nat) (x : Option cK) : Option Nat :=
 match x with
 | none => some d
 | some x => eX (x.val F)
def aLe (e : vC) (k : AV) : List (AV × AV) → Nat → Option (Option (Nat × AV))
 | [], _ => some none
 | (k', v) :: es, i => bE (eqv e k k') fun b => bQ b (some (some (i, v))) (aLe e k es (Nat.succ i))
def aA1 (e : vC) (k : AV) (es : List (AV × AV)) : Option (Option (Nat × AV)) := bE (eqv e k k) fun _ => aLe e k es 0
def aFt (b : AB) : Option (List (AV × AV)) :=
 match b with
 | .map es => some es
 | _ => none
def aCm (h : T AB) (m : AV) : Option (List (AV × AV)) :=
 match m with
 | .nilmap => some []
 | .map b => bE (h.get b) aFt
 | _ => none
def jT (isMax : Bool) : List AV → AV → Option AV
 | [], x => some x
 | .int k' b :: vs, .int k a => bQ (keq k k')
   (jT isMax vs (.int k (bQ isMax (bQ (ile b a) a b) (bQ (ile a b) a b)))) none
 | _, _ => none
abbrev QF := Fr → T AB → Option AV
def qMv (x : cK) : QF := fun F _ => some (x.val F)
def rR (v : AV) (a b : cK) (F : Fr) : Option AV :=
 match v with
 | .bool t => some (bQ t (a.val F) (b.val F))
 | _ => none
def aNs (c a b : cK) : QF := fun F _ => rR (c.val F) a b F
def dJ (F : Fr) : List (Nat × Nat × cK) → List (Nat × Nat × AV)
 | [] => []
 | (a, b, x) :: ps => (a, b, x.val F) :: dJ F ps
def aL2 (zero : List AV) (ps : List (Nat × Nat × cK)) : QF := fun F _ => bE (eF zero (dJ F ps)) fun cs => some (.agg cs)
def fH (v : AV) (agg : Bool) (n : Nat) (h : T AB) : Option AV :=
 match v with
 | .ptr b off => oD agg n h b off
 | _ => none
def qLd (agg : Bool) (n : Nat) (x : cK) : QF := fun F h => fH (x.val F) agg n h
def aAB {α : Type} (t : Nat) : List (Nat × α) → Option α
 | [] => none
 | (u, a) :: l => bQ (Nat.beq t u) (some a) (aAB t l)
def aOE (n : String) (tbl : List (Nat × Nat × Option (Bool × Nat))) (v : AV) : Option AV :=
 match v with
 | .iface t w => bE (aAB t tbl) fun r => match r.2, w with
  | none, _ => some (.mth n tbl v)
  | some _, .ptr _ _ => some (.mth n tbl v)
  | _, _ => none
 | _ => none
def rB (v : AV) : Option AV :=
 match v with
 | .ptr b o => some (.ptr b o)
 | .fn f a b => some (.fn f a b)
 | .iface t v => some (.iface t v)
 | .yld b => some (.yld b)
 | _ => none
def aKC (x : cK) : QF := fun F _ => rB (x.val F)
def aNJ (op : BinOp) (e : vC) (x y : cK) : QF := fun F _ => lE op e (x.val F) (y.val F)
def qUn (op : UnOp) (x : cK) : QF := fun F _ => unV op (x.val F)
def aFJ (h : T AB) (b off len : Nat) : Option AV := bE (tV h b off len) fun cs => bE (bytesOf cs) fun s => some (.str s)
def aA5 (k : aGg) (v : AV) (h : T AB) : Option AV :=
 match k, v with
 | .int k, .int _ n => some (.int k (aCa k n))
 | .same, .str s => some (.str s)
 | .bytesToStr, .nilsl => some (.str [])
 | .bytesToStr, .emp => some (.str [])
 | .bytesToStr, .sl b off len _ _ => aFJ h b off len
 | .intToStr, .int _ (.ofNat n) => bQ (Nat.ble n 127) (some (.str [n])) none
 | _, _ => none
def aNv (k : aGg) (x : cK) : QF := fun F h => aA5 k (x.val F) h
def aIx (t : Nat) (x : cK) : QF := fun F _ => some (.iface t (x.val F))
def aJ9 (f : Nat) (first cap : List cK) : QF := fun F _ => some (.fn f (cW first F) (cW cap F))
def aLa (s : List Nat) (lo hi mx : Option cK) (F : Fr) : Option AV :=
 match mx with
 | some _ => none
 | none => bE (iW F (jY s) hi) fun h' => bE (iW F 0 lo) fun l =>
   bQ (Nat.ble h' (jY s)) (bQ (Nat.ble l h') (bE (cut s l (h' - l)) fun r => some (.str r)) none) none
def kQ (len cap : Nat) (lo hi mx : Option cK) (F : Fr) : Option (Nat × Nat × Nat) :=
 bE (iW F cap mx) fun m => bE (iW F len hi) fun h => bE (iW F 0 lo) fun l =>
  bQ (Nat.ble m cap) (bQ (Nat.ble h m) (bQ (Nat.ble l h) (some (l, h, m)) none) none) none
def aES (size b off len cap : Nat) (o : Bool) (lo hi mx : Option cK) (F : Fr) : Option AV :=
 bE (kQ len cap lo hi mx F) fun x =>
  let o' := bQ o mx.isNone false
  bQ (Nat.beq x.2.2 x.1) (bQ o' (some .emp) (some (.sl b off (x.2.1 - x.1) (x.2.2 - x.1) false)))
   (some (.sl b (off + x.1 * size) (x.2.1 - x.1) (x.2.2 - x.1) o'))
def aIn (lo hi mx : Option cK) (F : Fr) : Option AV := bE (kQ 0 0 lo hi mx F) fun _ => some .emp
def aJx (lo hi mx : Option cK) (F : Fr) : Option AV := bE (kQ 0 0 lo hi mx F) fun _ => some .nilsl
def aJo (n size b off : Nat) (lo hi mx : Option cK) (F : Fr) : Option AV :=
 bE (kQ n n lo hi mx F) fun x =>
  bQ (Nat.beq x.2.2 x.1) (some (.sl b off (x.2.1 - x.1) (x.2.2 - x.1) false))
   (some (.sl b (off + x.1 * size) (x.2.1 - x.1) (x.2.2 - x.1) false))
def qI (k : SlK) (v : AV) (lo hi mx : Option cK) (F : Fr) : Option AV :=
 match k, v with
 | .str, .str s => aLa s lo hi mx F
 | .slice size, .sl b off len cap o => aES size b off len cap o lo hi mx F
 | .slice _, .nilsl => aJx lo hi mx F
 | .slice _, .emp => aIn lo hi mx F
 | .arr n size, .ptr b off => aJo n size b off lo hi mx F
 | _, _ => none
def aN8 (k : SlK) (x : cK) (lo hi mx : Option cK) : QF := fun F _ => qI k (x.val F) lo hi mx F
def uL (v : AV) (off : Nat) : Option AV :=
 match v with
 | .ptr b o => some (.ptr b (o + off))
 | _ => none
def aLo (off : Nat) (x : cK) : QF := fun F _ => uL (x.val F) off
def aFg (v : AV) (agg : Bool) (off n : Nat) : Option AV :=
 match v with
 | .agg cs => partOf agg cs off n
 | _ => none
def aOa (agg : Bool) (off n : Nat) (x : cK) : QF := fun F _ => aFg (x.val F) agg off n
def eT (k : IxK) (v : AV) (i : Nat) : Option AV :=
 match k, v with
 | .arr n size, .ptr b off => bQ (Nat.blt i n) (some (.ptr b (off + i * size))) none
 | .slice size, .sl b off len _ _ => bQ (Nat.blt i len) (some (.ptr b (off + i * size))) none
 | _, _ => none
def aL6 (k : IxK) (x ix : cK) : QF := fun F _ => bE (eX (ix.val F)) fun i => eT k (x.val F) i
def aDF (v : AV) (agg : Bool) (n size i : Nat) : Option AV :=
 match v with
 | .agg cs => bQ (Nat.blt i n) (partOf agg cs (i * size) size) none
 | _ => none
def aKv (agg : Bool) (n size : Nat) (x ix : cK) : QF := fun F _ => bE (eX (ix.val F)) fun i => aDF (x.val F) agg n size i
def aDD (v : AV) (i : Nat) : Option AV :=
 match v with
 | .str s => bE (nth s i) fun b => some (.int .u8 (.ofNat b))
 | _ => none
def aKI (x ix : cK) : QF := fun F _ => bE (eX (ix.val F)) fun i => aDD (x.val F) i
def aFO (ok : Bool) (v : AV) (b : Bool) : AV := bQ ok (.tup [v, .bool b]) v
def aDJ (r : Option (Nat × AV)) (zero : AV) (ok : Bool) : Option AV :=
 match r with
 | some (_, v) => some (aFO ok v true)
 | none => some (aFO ok zero false)
def aKx (sk : vC) (zero : AV) (ok : Bool) (m key : cK) : QF := fun F h =>
 bE (aCm h (m.val F)) fun es => bE (aA1 sk (key.val F) es) fun r => aDJ r zero ok
def aAA (v : AV) (t : Nat) (zero : AV) (ok : Bool) : Option AV :=
 match v with
 | .iface t' v => bQ (Nat.beq t t') (some (aFO ok v true)) (bQ ok (some (.tup [zero, .bool false])) none)
 | .niliface => bQ ok (some (.tup [zero, .bool false])) none
 | _ => none
def aJH (t : Nat) (zero : AV) (ok : Bool) (x : cK) : QF := fun F _ => aAA (x.val F) t zero ok
def lP (v : AV) (i : Nat) : Option AV :=
 match v with
 | .tup vs => nth vs i
 | _ => none
def aH0 (x : cK) (i : Nat) : QF := fun F _ => lP (x.val F) i
def aJ1 (n : Nat) : QF := fun _ _ => some (.int .i64 (.ofNat n))
def aC4 (v : AV) : Option AV :=
 match v with
 | .str s => some (.int .i64 (.ofNat (jY s)))
 | _ => none
def aKJ (x : cK) : QF := fun F _ => aC4 (x.val F)
def lW (v : AV) : Option AV :=
 match v with
 | .nilsl => some (.int .i64 (.ofNat 0))
 | .emp => some (.int .i64 (.ofNat 0))
 | .sl _ _ n _ _ => some (.int .i64 (.ofNat n))
 | _ => none
def aLq (x : cK) : QF := fun F _ => lW (x.val F)
def aKb (x : cK) : QF := fun F h => bE (aCm h (x.val F)) fun es => some (.int .i64 (.ofNat (jY es)))
def aFs (v : AV) : Option AV :=
 match v with
 | .nilsl => some (.int .i64 (.ofNat 0))
 | .sl _ _ _ c false => some (.int .i64 (.ofNat c))
 | _ => none
def aLD (x : cK) : QF := fun F _ => aFs (x.val F)
def lM (isMax : Bool) (l : List AV) : Option AV :=
 match l with
 | [] => none
 | v :: vs => jT isMax vs v
def aKr (n : String) (tbl : List (Nat × Nat × Option (Bool × Nat))) (x : cK) : QF := fun F _ => some (.mth n tbl (x.val F))
def aJ3 (mx : Bool) (xs : List cK) : QF := fun F _ => lM mx (cW xs F)
def gR (q : uY) : QF :=
 uY.rec (motive := fun _ => QF) qMv aNs aL2 qLd aKC aNJ qUn aNv aIx aJ9 aN8 aLo aOa aL6 aKv aKI aKx aJH aH0 aJ1 aKJ aLq aKb aLD aJ3 aKr q
abbrev AF := Fr → Nat → Option (AV × AB)
def room : Nat := 140737488355328
def aLC (_ : Nat) (cells : List AV) : AF := fun _ id => some (.ptr id 0, .cells cells false 0)
def aNQ (_ : Nat) (x : cK) : AF := fun F id => bE (x.val F).cells fun cs => some (.ptr id 0, .cells cs false 0)
def jD (size : Nat) (F : Fr) : List (Nat × cK) → List (Nat × Nat × AV)
 | [] => []
 | (i, x) :: ps => (i * size, size, x.val F) :: jD size F ps
def aKP (_ size len : Nat) (zero : List AV) (ps : List (Nat × cK)) : AF := fun F id =>
 bE (eF (repeatL zero len) (jD size F ps)) fun cs => some (.sl id 0 len len false, .cells cs false 0)
def sR (_ _ bytes : Nat) (zero : List AV) (l c : cK) : AF := fun F id =>
 bE (eX (l.val F)) fun l => bE (eX (c.val F)) fun c =>
  bQ (Nat.ble l c) (bQ (Nat.ble c room) (bQ (Nat.ble (bytes * c) room) (some (.sl id 0 l c false, .cells (repeatL zero c) false 0)) none) none) none
def aMe : AF := fun _ id => some (.map id, .map [])
def byteCells : List Nat → List AV
 | [] => []
 | b :: bs => .int .u8 (.ofNat b) :: byteCells bs
def yU (v : AV) (id : Nat) : Option (AV × AB) :=
 match v with
 | .str s => some (.sl id 0 (jY s) (jY s) true, .cells (byteCells s) true 1)
 | _ => none
def aG4 (_ : Nat) (x : cK) : AF := fun F id => yU (x.val F) id
def rO (a : sG) : AF := sG.rec (motive := fun _ => AF) aLC aNQ aKP sR aMe aG4 a
def yQ (bl : AB) (S : St) (b off : Nat) (vs : List AV) : Option St :=
 match bl with
 | .cells cs o s => bE (put cs off vs) fun cs' => some ⟨S.h.set b (some (.cells cs' o s)), S.nx⟩
 | _ => none
def oP (S : St) (b off : Nat) (vs : List AV) : Option St := bE (S.h.get b) fun bl => yQ bl S b off vs
def eE (v : AV) (h : T AB) (size n : Nat) : Option (List AV) :=
 match v with
 | .sl b off _ _ _ => tV h b off (n * size)
 | .nilsl => bQ (Nat.beq n 0) (some []) none
 | .emp => bQ (Nat.beq n 0) (some []) none
 | .str s => bQ (Nat.beq size 1) (bE (aE2 s n) fun r => some (byteCells r)) none
 | _ => none
def jZ (v : AV) : Option Nat :=
 match v with
 | .sl _ _ n _ _ => some n
 | .nilsl => some 0
 | .emp => some 0
 | .str s => some (jY s)
 | _ => none
def grown (h : T AB) (nx need size : Nat) (cs : List AV) : Option (AV × St) :=
 some (.sl nx 0 need need true, ⟨h.set nx (some (.cells cs true size)), Nat.succ nx⟩)
def tQ (bl : AB) (size b off len cap : Nat) (o : Bool) (n : Nat) (new : List AV) (S : St) : Option (AV × St) :=
 match bl with
 | .cells cs o' sz => bE (cut cs off (len * size)) fun old =>
   bQ o
    (bQ o' (bQ (Nat.beq sz size) (bQ (Nat.beq (off + cap * size) (jY cs)) (grown (S.h.set b none) S.nx (len + n) size (tM old new)) none) none) none)
    (grown S.h S.nx (len + n) size (tM old new))
 | .ro cs => bQ o none (bE (cut cs off (len * size)) fun old => grown S.h S.nx (len + n) size (tM old new))
 | _ => none
def jU (bytes size b off len cap : Nat) (o : Bool) (n : Nat) (new : List AV) (S : St) : Option (AV × St) :=
 bQ (Nat.ble (len + n) cap)
  (bQ (Nat.beq n 0) (some (.sl b off len cap o, S)) (bE (oP S b (off + len * size) new) fun S' => some (.sl b off (len + n) cap o, S')))
  (bQ (Nat.ble (len + n) room) (bQ (Nat.ble ((len + n) * bytes) room) (bE (S.h.get b) fun bl => tQ bl size b off len cap o n new S) none) none)
def oS (bytes size n : Nat) (new : List AV) (S : St) : Option (AV × St) :=
 bQ (Nat.beq n 0) (some (.nilsl, S))
  (bQ (Nat.ble n room) (bQ (Nat.ble (n * bytes) room) (grown S.h S.nx n size new) none) none)
def yS (s : AV) (bytes size n : Nat) (new : List AV) (S : St) : Option (AV × St) :=
 match s with
 | .nilsl => oS bytes size n new S
 | .emp => bQ (Nat.beq n 0) (some (.emp, S)) none
 | .sl b off len cap o => jU bytes size b off len cap o n new S
 | _ => none
def gF (bytes size : Nat) (s x : AV) (S : St) : Option (AV × St) :=
 bE (jZ x) fun n => bE (eE x S.h size n) fun new => yS s bytes size n new S
def aEF {α : Type} (f : α → α) : List α → Nat → List α
 | [], _ => []
 | x :: xs, k => bQ (Nat.beq k 0) (f x :: xs) (x :: aEF f xs (k - 1))
structure bT where
 F : Fr
 inr : Bool
abbrev eI := AV → List AV → St → Option (AV × St)
abbrev XF := eI → Fr → St → Option (AV × St)
def nQ (p : AV) (n : Nat) (cs : List AV) (S : St) : Option (AV × St) :=
 match p with
 | .ptr b off => bQ (Nat.beq (jY cs) n) (bE (oP S b off cs) fun S' => some (.undef, S')) none
 | _ => none
def xSt (n : Nat) (x v : cK) : XF := fun _ F S => bE (v.val F).cells fun cs => nQ (x.val F) n cs S
def aNm (f : cK) (args : List cK) : XF := fun call F S => call (f.val F) (cW args F) S
def aId (v : AV) (f : Nat) (agg : Bool) (n : Nat) (args : List AV) (call : eI) (S : St) : Option (AV × St) :=
 match v with
 | .ptr b off => bE (oD agg n S.h b off) fun r => call (.fn f [r] []) args S
 | _ => none
def aFq (r : Nat × Option (Bool × Nat)) (v : AV) (args : List AV) (call : eI) (S : St) : Option (AV × St) :=
 match r with
 | (f, none) => call (.fn f [v] []) args S
 | (f, some (agg, n)) => aId v f agg n args call S
def aFU (v : AV) (tbl : List (Nat × Nat × Option (Bool × Nat))) (args : List AV) (call : eI) (S : St) : Option (AV × St) :=
 match v with
 | .iface t v => bE (aAB t tbl) fun r => aFq r v args call S
 | _ => none
def aN1 (tbl : List (Nat × Nat × Option (Bool × Nat))) (recv : cK) (args : List cK) : XF := fun call F S => aFU (recv.val F) tbl (cW args F) call S
def aNR (_ size bytes : Nat) (s x : cK) : XF := fun _ F S => gF bytes size (s.val F) (x.val F) S
def copyV (d : AV) (size m : Nat) (s : AV) (S : St) : Option (AV × St) :=
 match d with
 | .nilsl => some (.int .i64 (.ofNat 0), S)
 | .emp => some (.int .i64 (.ofNat 0), S)
 | .sl b off len _ _ =>
  let n := bQ (Nat.ble m len) m len
  bQ (Nat.beq n 0) (some (.int .i64 (.ofNat 0), S)) (bE (eE s S.h size n) fun cs => bE (oP S b off cs) fun S' => some (.int .i64 (.ofNat n), S'))
 | _ => none
def aMB (size : Nat) (d s : cK) : XF := fun _ F S => bE (jZ (s.val F)) fun m => copyV (d.val F) size m (s.val F) S
def aMb (r : Option (Nat × AV)) (es : List (AV × AV)) (k v : AV) : List (AV × AV) :=
 match r with
 | some (i, _) => aEF (fun _ => (k, v)) es i
 | none => tM es [(k, v)]
def aDi (m : AV) (sk : vC) (k v : AV) (S : St) : Option (AV × St) :=
 match m with
 | .map b => bE (bE (S.h.get b) aFt) fun es => bE (aA1 sk k es) fun r => some (.undef, ⟨S.h.set b (some (.map (aMb r es k v))), S.nx⟩)
 | _ => none
def aKi (sk : vC) (m k v : cK) : XF := fun _ F S => aDi (m.val F) sk (k.val F) (v.val F) S
def aKH (r : Option (Nat × AV)) (es : List (AV × AV)) (b : Nat) (S : St) : Option (AV × St) :=
 match r with
 | some (i, _) => some (.undef, ⟨S.h.set b (some (.map (es.eraseIdx i))), S.nx⟩)
 | none => some (.undef, S)
def aDI (m : AV) (sk : vC) (k : AV) (S : St) : Option (AV × St) :=
 match m with
 | .map b => bE (bE (S.h.get b) aFt) fun es => bE (aA1 sk k es) fun r => aKH r es b S
 | .nilmap => some (.undef, S)
 | _ => none
def aKR (sk : vC) (m k : cK) : XF := fun _ F S => aDI (m.val F) sk (k.val F) S
def aLx (x : AV) (zero : List AV) (S : St) : Option (AV × St) :=
 match x with
 | .nilsl => some (.undef, S)
 | .emp => some (.undef, S)
 | .sl b off n _ _ => bQ (Nat.beq n 0) (some (.undef, S)) (bE (oP S b off (repeatL zero n)) fun S' => some (.undef, S'))
 | _ => none
def aOf (zero : List AV) (x : cK) : XF := fun _ F S => aLx (x.val F) zero S
def aMd (a b c : Nat) : AV :=
 .tup [.int .u64 (.ofNat (Nat.mod (Nat.add (Nat.add a b) c) 18446744073709551616)), .int .u64 (.ofNat (Nat.div (Nat.add (Nat.add a b) c) 18446744073709551616))]
def aDU (c : Nat) : List Nat → Nat → Int
 | [], _ => .negSucc 0
 | b :: bs, i => bQ (Nat.beq b c) (.ofNat i) (aDU c bs (Nat.succ i))
def aLs (k : aIq) (args : List AV) : Option AV :=
 match k, args with
 | .add64, [.int .u64 (.ofNat a), .int .u64 (.ofNat b), .int .u64 (.ofNat c)] => bQ (Nat.ble c 1) (some (aMd a b c)) none
 | .idxByte, [.str s, .int .u8 (.ofNat c)] => bQ (Nat.ble c 255) (some (.int .i64 (aDU c s 0))) none
 | _, _ => none
def aOu (k : aIq) (args : List cK) : XF := fun _ F S => bE (aLs k (cW args F)) fun v => some (v, S)
def aNF : XF := fun _ _ _ => none
def vV (x : XOp) : XF := XOp.rec (motive := fun _ => XF) xSt aNm aN1 aNR aMB aKi aKR aOf aOu aNF x
def isB (v : AV) (w : Bool) : Bool :=
 match v with
 | .bool b => aJm b w
 | _ => false
def cJ (d : Option Nat) : Fr → AV → Fr := Option.rec (motive := fun _ => Fr → AV → Fr) (fun F _ => F) (fun i F v => F.set i (some v)) d
def eH (g : Option (Nat × Bool)) : Fr → Bool := Option.rec (motive := fun _ => Fr → Bool) (fun _ => true) (fun p F => isB (aC p.1 F) p.2) g
abbrev OF := Option Nat → eI → Fr → St → Option (Fr × St)
def oQ (q : uY) : OF := fun d _ F S => bE (gR q F S.h) fun v => some (cJ d F v, S)
def oA (a : sG) : OF := fun d _ F S => bE (rO a F S.nx) fun r => some (cJ d F r.1, ⟨S.h.set S.nx (some r.2), Nat.succ S.nx⟩)
def oX (x : XOp) : OF := fun d call F S => bE (vV x call F S) fun r => some (cJ d F r.1, r.2)
def oOp (o : AOp) : OF := AOp.rec (motive := fun _ => OF) oQ oA oX o
def aAZ (o : AO) (call : eI) (F : Fr) (S : St) : Option (Fr × St) :=
 bQ (eH o.grd F) (oOp o.op o.dst call F S) (some (cJ o.dst F .undef, S))
def rJ (l : List AO) : eI → Fr → St → Option (Fr × St) :=
 List.rec (motive := fun _ => eI → Fr → St → Option (Fr × St)) (fun _ F S => some (F, S)) (fun o _ ih call F S => bE (aAZ o call F S) fun r => ih call r.1 r.2) l
structure gL where
 i : Nat
 id : Nat
 b : AB
def cD (mask : Nat) : List gL → T AB → List gL × T AB
 | [], h => ([], h)
 | p :: ps, h => bQ (Nat.testBit mask p.i) (cD mask ps (h.set p.id (some p.b))) (p :: (cD mask ps h).1, (cD mask ps h).2)
structure jO where
 q : uY
 F : Fr
 v : AV
 i : Nat
 mask : Nat
def dH (q : uY) : Bool :=
 match q with
 | .ld .. | .lookup .. | .lenMap .. => true
 | .conv .bytesToStr _ => true
 | _ => false
structure DS where
 F : Fr
 S : St
 ps : List gL
 hs : List (Nat × Nat × T AB)
 ls : List jO
abbrev DF := AO → Nat → Nat → eI → DS → Option DS
def dQ (q : uY) : DF := fun o i _ _ D => bE (gR q D.F D.S.h) fun v =>
 some ⟨cJ o.dst D.F v, D.S, D.ps, D.hs, bQ (dH q) (⟨q, D.F, v, i, o.mask⟩ :: D.ls) D.ls⟩
def dA (a : sG) : DF := fun o i base _ D => bE (rO a D.F (base + i)) fun r =>
 some ⟨cJ o.dst D.F r.1, D.S, ⟨i, base + i, r.2⟩ :: D.ps, D.hs, D.ls⟩
def iQ (hs : List (Nat × Nat × T AB)) (mask : Nat) : Bool :=
 match hs with
 | [] => true
 | e :: _ => Nat.testBit mask e.1
def dX (x : XOp) : DF := fun o i _ call D =>
 bQ (iQ D.hs o.mask) (bE (vV x call D.F ⟨(cD o.mask D.ps D.S.h).2, D.S.nx⟩) fun r =>
  some ⟨cJ o.dst D.F r.1, r.2, (cD o.mask D.ps D.S.h).1, (i, o.mask, r.2.h) :: D.hs, D.ls⟩) none
def dOp (o : AOp) : DF := AOp.rec (motive := fun _ => DF) dQ dA dX o
def oK (o : AO) (i base : Nat) (call : eI) (D : DS) : Option DS :=
 bQ (eH o.grd D.F) (dOp o.op o i base call D) (some ⟨cJ o.dst D.F .undef, D.S, D.ps, D.hs, D.ls⟩)
def rQ : List AO → Nat → Nat → eI → DS → Option DS
 | [], _, _, _, D => some D
 | o :: os, i, base, call, D => bE (oK o i base call D) fun D' => rQ os (i + 1) base call D'
mutual
def cO : AV → AV → Bool
 | .bool a, .bool b => aJm a b
 | .int k a, .int j b => bQ (keq k j) (ieq a b) false
 | .str a, .str b => lT a b
 | .ptr a b, .ptr c d => bQ (Nat.beq a c) (Nat.beq b d) false
 | .nilp, .nilp => true
 | .sl a b c d e, .sl a' b' c' d' e' => Nat.beq a a' && Nat.beq b b' && Nat.beq c c' && Nat.beq d d' && aJm e e'
 | .nilsl, .nilsl => true
 | .emp, .emp => true
 | .map a, .map b => Nat.beq a b
 | .nilmap, .nilmap => true
 | .fn f a b, .fn g c d => Nat.beq f g && mQ a c && mQ b d
 | .nilfn, .nilfn => true
 | .yld a, .yld b => Nat.beq a b
 | .iface t v, .iface u w => Nat.beq t u && cO v w
 | .niliface, .niliface => true
 | .agg a, .agg b => mQ a b
 | .tup a, .tup b => mQ a b
 | _, _ => false
def mQ : List AV → List AV → Bool
 | [], [] => true
 | a :: x, b :: y => bQ (cO a b) (mQ x y) false
 | _, _ => false
end
def lN (v : AV) (r : Option AV) : Bool :=
 match r with
 | some w => cO w v
 | none => false
def eM (l : jO) : List (Nat × Nat × T AB) → T AB → Bool
 | [], h => lN l.v (gR l.q l.F h)
 | (i, m, h') :: r, h =>
  bQ (Nat.testBit l.mask i) (eM l r h')
   (bQ (lN l.v (gR l.q l.F h)) (bQ (Nat.testBit m l.i) true (eM l r h')) false)
def fE (h0 : T AB) (hs : List (Nat × Nat × T AB)) : List jO → Bool
 | [] => true
 | l :: ls => bQ (eM l hs h0) (fE h0 hs ls) false
def xE (h0 : T AB) (n : Nat) (D : DS) : Option (Fr × St) :=
 bQ (fE h0 D.hs.reverse D.ls) (some (D.F, ⟨(cD (2 ^ n - 1) D.ps D.S.h).2, D.S.nx⟩)) none
def tL (ops : List AO) (call : eI) (F : Fr) (S : St) : Option (Fr × St) :=
 bE (rQ ops 0 S.nx call ⟨F, ⟨S.h, S.nx + jY ops⟩, [], [], []⟩) fun D => xE S.h (jY ops) D
structure Evs where
 code : AC → bT → St → Option (Out × bT × St)
 call : eI
abbrev CF := Evs → bT → St → Option (Out × bT × St)
def oV : List AV → Nat → Fr → Fr
 | [], _, F => F
 | v :: vs, i, F => oV vs (i + 1) (F.set i (some v))
def aNT (o : Option Out) : Option AC :=
 match o with
 | none => some .skip
 | some .ret => some .ret
 | some (.exit id) => some (.exit id)
 | some .normal => none
def aM6 : CF := fun _ A S => some (.normal, A, S)
def pL (b : AC) (ih : Evs) (r : Out × bT × St) : Option (Out × bT × St) :=
 match r.1 with
 | .normal => ih.code b r.2.1 r.2.2
 | _ => some r
def aOs (a b : AC) : CF := fun ih A S => bE (ih.code a A S) (pL b ih)
def zG (v : AV) (a b : AC) : CF := fun ih A S =>
 match v with
 | .bool t => ih.code (bQ t a b) A S
 | _ => none
def aNc (c : cK) (a b : AC) : CF := fun ih A S => zG (c.val A.F) a b ih A S
def oT (id : Nat) (r : Out × bT × St) : Option (Out × bT × St) :=
 match r.1 with
 | .exit i => bQ (Nat.beq i id) (some (.normal, r.2)) (some r)
 | _ => some r
def aLt (id : Nat) (c : AC) : CF := fun ih A S => bE (ih.code c A S) (oT id)
def aNa (c : AC) : CF := fun ih A S => bE (ih.code c A S) (pL (.loop c) ih)
def aMX (id : Nat) : CF := fun _ A S => some (.exit id, A, S)
def aNP : CF := fun _ A S => some (.ret, A, S)
def aOd (ops : List AO) : CF := fun ih A S => bE (rJ ops ih.call A.F S) fun r => some (.normal, ⟨r.1, A.inr⟩, r.2)
def aOt (_ : List AO) (_ : cK) (_ : List cK) : CF := fun _ _ _ => none
def aOj (ops : List AO) : CF := fun ih A S => bE (tL ops ih.call A.F S) fun r => some (.normal, ⟨r.1, A.inr⟩, r.2)
def aJK (bl : AB) (l : Nat) (A : bT) (S2 : St) (ih : Evs) : Option (Out × bT × St) :=
 match bl with
 | .loop st pend fr ps as bd =>
  match st with
  | .busy => none
  | _ => bE (aNT pend) fun c => ih.code c A ⟨S2.h.set l (some (.loop .exhausted pend fr ps as bd)), S2.nx⟩
 | _ => none
def aNL (v : AV) : Bool :=
 match v with
 | .fn .. => true
 | _ => false
def aJX (f : cK) (params : List Nat) (assign body : AC) : CF := fun ih A S =>
 bQ A.inr none (bQ (aNL (f.val A.F))
  (bE (ih.call (f.val A.F) [.yld S.nx] ⟨S.h.set S.nx (some (.loop .ready none A.F params assign body)), Nat.succ S.nx⟩) fun r =>
   bE (r.2.h.get S.nx) fun bl => aJK bl S.nx A r.2 ih) none)
def aFc (c : AC) : CF :=
 AC.rec (motive := fun _ => CF) aM6 (fun a b _ _ => aOs a b) (fun c a b _ _ => aNc c a b) (fun id c _ => aLt id c) (fun c _ => aNa c) aMX aNP aOd aOj (fun f ps as bd _ _ => aJX f ps as bd) aOt c
def aMZ (v : AV) (agg : Bool) (n : Nat) (h : T AB) : Option AV :=
 match v with
 | .ptr b off => oD agg n h b off
 | _ => none
def results : List RV → Fr → T AB → Option (List AV)
 | [], _, _ => some []
 | .t i :: rs, F, h => bE (results rs F h) fun vs => some (aC i F :: vs)
 | .cell a agg n :: rs, F, h => bE (aMZ (aC a F) agg n h) fun v => bE (results rs F h) fun vs => some (v :: vs)
def oneOf (vs : List AV) : AV :=
 match vs with
 | [v] => v
 | vs => .tup vs
def aDo (fn : eJ) (r : Out × bT × St) : Option (AV × St) :=
 match r.1 with
 | .exit _ => none
 | _ => bE (results fn.res r.2.1.F r.2.2.h) fun vs => some (oneOf vs, r.2.2)
def sO (fn : eJ) (args : List AV) (ih : Evs) (S : St) : Option (AV × St) :=
 bQ (Nat.ble (jY args) fn.ntmps) (bE (ih.code fn.body ⟨oV args 0 .e, false⟩ S) (aDo fn)) none
def yR (fns : T eJ) (ih : Evs) (f : AV) (args : List AV) (S : St) : Option (AV × St) :=
 match f with
 | .fn id first cap => bE (fns.get id) fun fn => sO fn (tM first (tM args cap)) ih S
 | _ => none
def aLH (_ : AC) (_ : bT) (_ : St) : Option (Out × bT × St) := none
def aLT (_ : AV) (_ : List AV) (_ : St) : Option (AV × St) := none
def ev (fns : T eJ) (n : Nat) : Evs :=
 Nat.rec (motive := fun _ => Evs) ⟨aLH, aLT⟩ (fun _ ih => ⟨fun c => aFc c ih, yR fns ih⟩) n
end
end Go.Ev
namespace Go.Ev
noncomputable section
def aJG (v : Value) : Bool :=
 match v with
 | .agg _ => false
 | .tuple _ => false
 | _ => true
mutual
def ofValue : Value → Option AV
 | .bool b => some (.bool b)
 | .int k n => some (.int k n)
 | .string s => some (.str (s.data.toList.map UInt8.toNat))
 | .pointer none => some .nilp
 | .slice none 0 0 => some .nilsl
 | .map none => some .nilmap
 | .nilFunc => some .nilfn
 | .nilIface => some .niliface
 | .func (.func f) ⟨a⟩ ⟨b⟩ => match ofValues a, ofValues b with
  | some a, some b => some (.fn f a b)
  | _, _ => none
 | .iface t v => (ofValue v).map (.iface t)
 | .agg ⟨cs⟩ => bif cs.all aJG then (ofValues cs).map .agg else none
 | .tuple ⟨cs⟩ => (ofValues cs).map .tup
 | _ => none
def ofValues : List Value → Option (List AV)
 | [] => some []
 | v :: vs => match ofValue v, ofValues vs with
  | some a, some as => some (a :: as)
  | _, _ => none
end
variable (P : Program)
def iK : Operand → Option cK
 | .tmp t => some (.t t)
 | .const v => (ofValue v).map .c
 | .global g => bif Nat.blt g P.globals.size then some (.c (.ptr g 0)) else none
 | .func f => some (.c (.fn f [] []))
def vT : List Operand → Option (List cK)
 | [] => some []
 | x :: xs => match iK P x, vT xs with
  | some a, some as => some (a :: as)
  | _, _ => none
def lR : Option Operand → Option (Option cK)
 | none => some none
 | some x => (iK P x).map some
def aAa (t : TypeId) : Option (Bool × Nat) :=
 match P.underlying t, P.info? t with
 | some (.struct _), some i => some (true, i.size)
 | some (.array _ _), some i => some (true, i.size)
 | some _, some i => some (false, i.size)
 | _, _ => none
def aIl (t : TypeId) : Option AV :=
 match P.info? t with
 | some i => match i.zero with
  | some v => ofValue v
  | none => none
 | none => none
def eqP (t : TypeId) : EqP :=
 match P.underlying t with
 | some .bool => .bool
 | some (.int _) => .int
 | some .string => .str
 | some (.pointer _) => .ptr
 | some (.slice _) => .slice
 | some (.map _ _) => .map
 | some (.func ..) => .func
 | some (.interface _) => .iface
 | _ => .no
def eqFields : List Field → List (Nat × EqP)
 | [] => []
 | f :: fs => bif f.name == "_" then eqFields fs else (f.offset, eqP P f.type) :: eqFields fs
def eqT (t : TypeId) : vC :=
 match P.underlying t with
 | some (.struct fs) => bif P.stoodInHeld t || P.eqGuardType P.depth t then .p .no else .struct (eqFields P fs.toList)
 | some (.array n e) => bif P.eqGuardType P.depth t || n > 64 || P.cellsOf e != 1 then .p .no else .struct ((List.range n).map fun i => (i, eqP P e))
 | _ => .p (eqP P t)
def sC (place : Nat → Option (Nat × Nat)) : List (Nat × Operand) → Option (List (Nat × Nat × cK))
 | [] => some []
 | (i, x) :: ps => match place i, iK P x, sC place ps with
  | some (off, n), some x, some ps => some ((off, n, x) :: ps)
  | _, _, _ => none
def placeOf (fs : Array Field) (i : Nat) : Option (Nat × Nat) :=
 match fs[i]? with
 | some f => match P.info? f.type with
  | some s => some (f.offset, s.size)
  | none => none
 | none => none
def mO : List Field → Bool
 | [] => true
 | f :: fs => (P.info? f.type).isSome && mO fs
def tC : List (Nat × Operand) → Option (List (Nat × cK))
 | [] => some []
 | (i, x) :: ps => match iK P x, tC ps with
  | some x, some ps => some ((i, x) :: ps)
  | _, _ => none
def nT (t : TypeId) : Option (TypeId × TypeInfo) :=
 match P.underlying t with
 | some (.slice e) => (P.info? e).map fun i => (e, i)
 | _ => none
def iP (t : TypeId) : Option (List AV) := (aIl P t).bind AV.cells
def lA (e : TypeId) (i : TypeInfo) : Option (List AV) :=
 match iP P e with
 | some z => bif Nat.beq z.length i.size then some z else none
 | none => none
def aJ2 (u : TypeId) (i : TypeInfo) : Bool :=
 match P.underlying u with
 | some (.slice _) => true
 | some .string => Nat.beq i.size 1
 | _ => false
def aHP (name : String) (t : TypeId) (i : TypeInfo) : Option (Nat × Nat × Option (Bool × Nat)) :=
 match i.methods.find? (·.name == name) with
 | some m => bif !m.path.isEmpty then none else match m.func with
  | none => none
  | some (f, ptr) => match P.underlying t, ptr with
   | some (.pointer _), true => some (t, f, none)
   | some (.pointer e), false => (aAa P e).map fun a => (t, f, some a)
   | some (.interface _), _ => none
   | some _, false => some (t, f, none)
   | _, _ => none
 | none => none
def rU (name : String) : List TypeInfo → Nat → List (Nat × Nat × Option (Bool × Nat))
 | [], _ => []
 | i :: is, t => match aHP P name t i with
  | some r => r :: rU name is (t + 1)
  | none => rU name is (t + 1)
def aKG (s : String) : Option aIq :=
 bif s == "math/bits.Add64" then some .add64
 else bif s == "internal/bytealg.IndexByteString" then some .idxByte
 else none
def aMA (f : Operand) : Option aIq :=
 match f with
 | .func f => match P.funcs[f]? with
  | some fn => bif fn.body.isNone && (Extern.allNextRows.lookup fn.origin).isNone then aKG fn.name else none
  | none => none
 | _ => none
def q (o : Option uY) : Option AOp := o.map .q
def al (o : Option sG) : Option AOp := o.map .a
def xx (o : Option XOp) : Option AOp := o.map .x
def xD (o : Op) : Option AOp :=
 match o with
 | .move x | .assign x => q do some (.mv (← iK P x))
 | .pick c a b => q do some (.pick (← iK P c) (← iK P a) (← iK P b))
 | .alloc t => al do some (.alloc t (← iP P t))
 | .box t x => al do some (.box t (← iK P x))
 | .build t ps =>
  match P.underlying t with
  | some (.struct fs) => bif mO P fs.toList then q do some (.build (← iP P t) (← sC P (placeOf P fs) ps.toList)) else none
  | some (.array _ e) => q do let s ← P.info? e; some (.build (← iP P t) (← sC P (fun i => some (i * s.size, s.size)) ps.toList))
  | _ => none
 | .buildSlice t len ps => al do
  let (e, i) ← nT P t
  if len * i.size > 65536 then none
  some (.bslice e i.size len (← lA P e i) (← tC P ps.toList))
 | .load t a => q do let (agg, n) ← aAa P t; some (.ld agg n (← iK P a))
 | .store t a v => xx do let (_, n) ← aAa P t; some (.st n (← iK P a) (← iK P v))
 | .nilCheck x => q do some (.nilchk (← iK P x))
 | .binOp op t x y _ => q do some (.bin op (eqT P t) (← iK P x) (← iK P y))
 | .unOp op _ x => q do some (.un op (← iK P x))
 | .makeInterface t x => match P.underlying t with
  | some (.interface _) => none
  | some _ => q do some (.mkIface t (← iK P x))
  | none => none
 | .makeFunc (.func f) a b => q do some (.mkFunc f (← vT P a.toList) (← vT P b.toList))
 | .makeSlice t l c => al do let (e, i) ← nT P t; some (.mkSlice e i.size i.bytes (← lA P e i) (← iK P l) (← iK P c))
 | .slice t x lo hi mx => bif mx.isSome && hi.isNone then none else
  match P.underlying t with
  | some (.slice e) => q do let i ← P.info? e; some (.slc (.slice i.size) (← iK P x) (← lR P lo) (← lR P hi) (← lR P mx))
  | some (.array n e) => q do let i ← P.info? e; some (.slc (.arr n i.size) (← iK P x) (← lR P lo) (← lR P hi) (← lR P mx))
  | _ => none
 | .fieldAddr t x f => match P.underlying t with
  | some (.struct fs) => q do
   let f ← fs[f]?
   let i ← P.info? f.type
   if i.size = 0 then none
   some (.faddr f.offset (← iK P x))
  | _ => none
 | .field t x f => match P.underlying t with
  | some (.struct fs) => q do
   let f ← fs[f]?
   let (agg, n) ← aAa P f.type
   some (.fld agg f.offset n (← iK P x))
  | _ => none
 | .indexAddr t x ix => match P.underlying t with
  | some (.slice e) => q do let i ← P.info? e; some (.iaddr (.slice i.size) (← iK P x) (← iK P ix))
  | some (.array n e) => q do let i ← P.info? e; some (.iaddr (.arr n i.size) (← iK P x) (← iK P ix))
  | _ => none
 | .extract x i => q do some (.extract (← iK P x) i)
 | .call { callee := .value f, args, .. } => match aMA P f with
  | some _ => none
  | none => xx do some (.call (← iK P f) (← vT P args.toList))
 | .call { callee := .builtin b, args, argTypes } =>
  match b, args.toList, argTypes.toList with
  | .len, [x], [t] => match P.underlying t with
   | some (.slice _) => q do some (.lenSl (← iK P x))
   | _ => none
  | .max, xs, _ => q do some (.minmax true (← vT P xs))
  | .min, xs, _ => q do some (.minmax false (← vT P xs))
  | .append, [s, x], [t, u] => match nT P t with
   | some (e, i) => bif aJ2 P u i && (lA P e i).isSome then xx do some (.app e i.size i.bytes (← iK P s) (← iK P x)) else none
   | none => none
  | _, _, _ => none
 | _ => none
def xJ (ops : Array Oper) : Option (Nat × Bool) → Option (Option (Nat × Bool))
 | none => some none
 | some (j, w) => match (ops[j]?).bind (·.dst) with
  | some d => some (some (d, w))
  | none => none
def tS (nt : Nat) : Option Tmp → Bool
 | some d => Nat.blt d nt
 | none => true
def aGD (nt : Nat) (ops : Array Oper) (o : Oper) (mask : Nat) : Option AO :=
 bif tS nt o.dst then
  match xJ ops o.guard with
  | some g => match xD P o.op with
   | some op => some ⟨o.dst, op, g, mask⟩
   | none => some ⟨o.dst, .x .bad, g, mask⟩
  | none => none
 else none
def qS (nt : Nat) (ops : Array Oper) : List Oper → List Nat → Option (List AO)
 | [], _ => some []
 | o :: os, ms => match aGD P nt ops o (ms.headD 0), qS nt ops os ms.tail with
  | some a, some as => some (a :: as)
  | _, _ => none
def cK.rd (x : cK) : List Nat :=
 match x with
 | .t i => [i]
 | .c _ => []
def rds : List cK → List Nat
 | [] => []
 | x :: xs => x.rd ++ rds xs
def rdo (x : Option cK) : List Nat :=
 match x with
 | some x => x.rd
 | none => []
def rdp : List (Nat × Nat × cK) → List Nat
 | [] => []
 | (_, _, x) :: ps => x.rd ++ rdp ps
def aLS : List (Nat × cK) → List Nat
 | [] => []
 | (_, x) :: ps => x.rd ++ aLS ps
def uY.rd (o : uY) : List Nat :=
 match o with
 | .mv x | .ld _ _ x | .nilchk x | .un _ x | .conv _ x | .mkIface _ x | .faddr _ x | .fld _ _ _ x | .tassert _ _ _ x | .extract x _ | .lenStr x | .lenSl x | .lenMap x | .capSl x | .mkMeth _ _ x => x.rd
 | .pick c a b => c.rd ++ (a.rd ++ b.rd)
 | .build _ ps => rdp ps
 | .bin _ _ x y | .iaddr _ x y | .idxArr _ _ _ x y | .idxStr x y | .lookup _ _ _ x y => x.rd ++ y.rd
 | .mkFunc _ a b => rds a ++ rds b
 | .slc _ x lo hi mx => x.rd ++ (rdo lo ++ (rdo hi ++ rdo mx))
 | .lenArr _ => []
 | .minmax _ xs => rds xs
def sG.rd (o : sG) : List Nat :=
 match o with
 | .alloc _ _ | .mkMap => []
 | .box _ x | .strBytes _ x => x.rd
 | .bslice _ _ _ _ ps => aLS ps
 | .mkSlice _ _ _ _ l c => l.rd ++ c.rd
def XOp.rd (o : XOp) : List Nat :=
 match o with
 | .st _ x v => x.rd ++ v.rd
 | .call f args | .inv _ f args => f.rd ++ rds args
 | .app _ _ _ s x | .copy _ s x | .mapDel _ s x => s.rd ++ x.rd
 | .mapUpd _ m k v => m.rd ++ (k.rd ++ v.rd)
 | .clr _ x => x.rd
 | .ext _ args => rds args
 | .bad => []
def AOp.rd (o : AOp) : List Nat :=
 match o with
 | .q o => o.rd
 | .a o => o.rd
 | .x o => o.rd
def AO.touch (o : AO) : List Nat := o.dst.toList ++ ((o.grd.map (·.1)).toList ++ o.op.rd)
def inL (t : Nat) : List Nat → Bool
 | [] => false
 | u :: l => bif Nat.beq t u then true else inL t l
def meets (d : Option Nat) (b : List Nat) : Bool :=
 match d with
 | some d => inL d b
 | none => false
def aDH (i : Nat) (d : Option Nat) (tch : List Nat) : List AO → Bool
 | [] => true
 | b :: l => (bif meets d b.touch || meets b.dst tch then Nat.testBit b.mask i else true) && aDH i d tch l
def aGe : Nat → List AO → Bool
 | _, [] => true
 | i, a :: l => aDH i a.dst a.touch l && aGe (i + 1) l
def aMp (l : List AO) : Bool := aGe 0 l
def aAi : Nat → List Oper → Bool
 | _, [] => true
 | i, o :: l => o.after.all (fun e => !Region.binds .any e || Nat.blt e.on i) && aAi (i + 1) l
def aCX (nt : Nat) (ops : Array Oper) : Option AC :=
 match qS P nt ops ops.toList (CheckFast.beforeL ops.toList 0 []) with
 | some aos => bif aAi 0 ops.toList && aMp aos then some (.drw aos) else none
 | none => none
def lS (nt : Nat) : Code → Option AC
 | .skip => some .skip
 | .seq a b => match lS nt a, lS nt b with
  | some a, some b => some (.seq a b)
  | _, _ => none
 | .cond c a b => match iK P c, lS nt a, lS nt b with
  | some c, some a, some b => some (.cond c a b)
  | _, _, _ => none
 | .block id c => (lS nt c).map (.block id)
 | .loop c => (lS nt c).map .loop
 | .exit id => some (.exit id)
 | .ret => some .ret
 | .region _ ops d => bif d then aCX P nt ops else (qS P nt ops ops.toList []).map .reg
 | _ => none
def aE0 : List ResultVar → Option (List RV)
 | [] => some []
 | .tmp t :: rs => (aE0 rs).map (.t t :: ·)
 | .cell a t :: rs => match aAa P t, aE0 rs with
  | some (agg, n), some rs => some (.cell a agg n :: rs)
  | _, _ => none
def cFn (fn : Func) : Option eJ :=
 bif fn.name == "runtime.NumGoroutine" then none else
 match fn.body with
 | some c => match lS P fn.ntmps c, aE0 P fn.results.toList with
  | some c, some rs => some ⟨fn.ntmps, rs, c⟩
  | _, _ => none
 | none => none
end
end Go.Ev
