import GoSem.Dispatch
import Derived.CheckFast
namespace Go.Ev
theorem Aa:type_of% @decide_eq_false:=@decide_eq_false
theorem Ab.{u}:type_of% @List.getElem?_eq_getElem.{u}:=@List.getElem?_eq_getElem.{u}
theorem Ac:type_of% @decide_eq_true:=@decide_eq_true
theorem Ad.{u}:type_of% @List.getD_eq_getElem?_getD.{u}:=@List.getD_eq_getElem?_getD.{u}
theorem Ae:type_of% @Nat.lt_of_lt_of_le:=@Nat.lt_of_lt_of_le
theorem Af.{u}:type_of% @List.forall_mem_cons.{u}:=@List.forall_mem_cons.{u}
theorem Ag:type_of% @Int.ofNat_eq_natCast:=@Int.ofNat_eq_natCast
theorem Ah:type_of% @Nat.le_refl:=@Nat.le_refl
theorem Ai.{u}:type_of% @List.getElem?_eq_some_iff.{u}:=@List.getElem?_eq_some_iff.{u}
theorem Aj.{u,v}:type_of% @List.length_map.{u,v}:=@List.length_map.{u,v}
theorem Ak:type_of% @Nat.le_trans:=@Nat.le_trans
theorem Al:type_of% @not_false_eq_true:=@not_false_eq_true
theorem Am.{u}:type_of% @List.length_append.{u}:=@List.length_append.{u}
theorem An.{u}:type_of% @Option.some.injEq.{u}:=@Option.some.injEq.{u}
theorem Ao:type_of% @Nat.zero_add:=@Nat.zero_add
theorem Ap.{u}:type_of% @List.length_set.{u}:=@List.length_set.{u}
theorem Aq.{u,v}:type_of% @List.getElem?_map.{u,v}:=@List.getElem?_map.{u,v}
theorem Ar.{u}:type_of% @List.length_replicate.{u}:=@List.length_replicate.{u}
theorem Au:type_of% @Nat.ble_eq_true_of_le:=@Nat.ble_eq_true_of_le
theorem Av:type_of% @Nat.le_add_right:=@Nat.le_add_right
theorem Aw.{u,v}:type_of% @Option.map_eq_some_iff.{u,v}:=@Option.map_eq_some_iff.{u,v}
theorem Ax:type_of% @Bool.false_eq_true:=@Bool.false_eq_true
theorem Ay.{u}:type_of% @List.length_cons.{u}:=@List.length_cons.{u}
theorem Az:type_of% @Nat.le_of_ble_eq_true:=@Nat.le_of_ble_eq_true
theorem Ba:type_of% @Int.toNat_natCast:=@Int.toNat_natCast
theorem Bb.{u}:type_of% @List.take_of_length_le.{u}:=@List.take_of_length_le.{u}
theorem Bc.{u}:type_of% @List.mem_of_getElem?.{u}:=@List.mem_of_getElem?.{u}
theorem Bd.{u}:type_of% @List.getElem?_append_right.{u}:=@List.getElem?_append_right.{u}
theorem Be.{u}:type_of% @Array.getD_eq_getD_getElem?.{u}:=@Array.getD_eq_getD_getElem?.{u}
theorem Bf.{u}:type_of% @Bool.cond_eq_ite.{u}:=@Bool.cond_eq_ite.{u}
theorem Bg.{u}:type_of% @List.getElem?_append_left.{u}:=@List.getElem?_append_left.{u}
theorem Bh:type_of% @Nat.beq_eq:=@Nat.beq_eq
theorem Bi.{u}:type_of% @List.length_singleton.{u}:=@List.length_singleton.{u}
theorem Bj.{u}:type_of% @List.mem_cons_of_mem.{u}:=@List.mem_cons_of_mem.{u}
theorem Bk:type_of% @List.length_range:=@List.length_range
theorem Bl:type_of% @List.getElem?_range:=@List.getElem?_range
theorem Bm.{u}:type_of% @List.mem_cons.{u}:=@List.mem_cons.{u}
theorem Bn.{u}:type_of% @Option.some.inj.{u}:=@Option.some.inj.{u}
theorem Bo.{u}:type_of% @List.getElem_mem.{u}:=@List.getElem_mem.{u}
theorem Bp.{u}:type_of% @List.take_add_one.{u}:=@List.take_add_one.{u}
theorem Bq.{u}:type_of% @Ne.symm.{u}:=@Ne.symm.{u}
theorem Br:type_of% @Nat.add_zero:=@Nat.add_zero
theorem Bs:type_of% @Nat.not_lt_zero:=@Nat.not_lt_zero
theorem Bt.{u}:type_of% @List.drop_eq_getElem_cons.{u}:=@List.drop_eq_getElem_cons.{u}
theorem Bu.{u}:type_of% @List.mem_cons_self.{u}:=@List.mem_cons_self.{u}
theorem Bv.{u}:type_of% @List.length_nil.{u}:=@List.length_nil.{u}
theorem Bw.{u}:type_of% @List.length_eq_zero_iff.{u}:=@List.length_eq_zero_iff.{u}
theorem Bx.{u}:type_of% @List.mem_append.{u}:=@List.mem_append.{u}
theorem Bz.{u}:type_of% @List.reverse_cons.{u}:=@List.reverse_cons.{u}
theorem Ca.{u}:type_of% @List.getElem?_eq_none.{u}:=@List.getElem?_eq_none.{u}
theorem Cb.{u}:type_of% @List.getElem_of_mem.{u}:=@List.getElem_of_mem.{u}
theorem Cc.{u}:type_of% @List.nil_append.{u}:=@List.nil_append.{u}
theorem Cd.{u}:type_of% @List.append_assoc.{u}:=@List.append_assoc.{u}
theorem Ce.{u}:type_of% @List.length_take.{u}:=@List.length_take.{u}
theorem Cf.{u}:type_of% @List.cons_append.{u}:=@List.cons_append.{u}
theorem Cg:type_of% @Bool.eq_iff_iff:=@Bool.eq_iff_iff
theorem Ch.{u}:type_of% @List.drop_of_length_le.{u}:=@List.drop_of_length_le.{u}
theorem Ci:type_of% @Bool.and_eq_true:=@Bool.and_eq_true
theorem Cj:type_of% @Nat.eq_of_beq_eq_true:=@Nat.eq_of_beq_eq_true
theorem Ck:type_of% @decide_eq_true_iff:=@decide_eq_true_iff
theorem Cl:type_of% @not_true_eq_false:=@not_true_eq_false
theorem Cm.{u}:type_of% @Array.getElem?_eq_some_iff.{u}:=@Array.getElem?_eq_some_iff.{u}
theorem Cn.{u}:type_of% @List.getElem?_replicate.{u}:=@List.getElem?_replicate.{u}
theorem Co:type_of% @Nat.add_assoc:=@Nat.add_assoc
theorem Cp.{u}:type_of% @List.mem_append_right.{u}:=@List.mem_append_right.{u}
theorem Cq.{u}:type_of% @Array.getElem?_toList.{u}:=@Array.getElem?_toList.{u}
theorem Cr:type_of% @Nat.lt_or_ge:=@Nat.lt_or_ge
theorem Ct.{u}:type_of% @List.getElem?_set.{u}:=@List.getElem?_set.{u}
theorem Cu:type_of% @Decidable.not_not:=@Decidable.not_not
theorem Cv.{u}:type_of% @List.all_eq_true.{u}:=@List.all_eq_true.{u}
theorem Cw:type_of% @Nat.lt_succ_self:=@Nat.lt_succ_self
theorem Cx.{u,v}:type_of% @List.map_cons.{u,v}:=@List.map_cons.{u,v}
theorem Cy.{u}:type_of% @Option.getD_some.{u}:=@Option.getD_some.{u}
theorem Cz:type_of% @Bool.not_true:=@Bool.not_true
theorem Da.{u}:type_of% @Array.length_toList.{u}:=@Array.length_toList.{u}
theorem Db.{u,v}:type_of% @Option.bind_eq_some_iff.{u,v}:=@Option.bind_eq_some_iff.{u,v}
theorem Dc.{u}:type_of% @List.mem_append_left.{u}:=@List.mem_append_left.{u}
theorem Dd.{u}:type_of% @List.append_nil.{u}:=@List.append_nil.{u}
theorem De:type_of% @Nat.zero_le:=@Nat.zero_le
theorem Dg:type_of% @Nat.lt_trichotomy:=@Nat.lt_trichotomy
theorem Dh:type_of% @Nat.mul_one:=@Nat.mul_one
theorem Di.{u}:type_of% @List.singleton_append.{u}:=@List.singleton_append.{u}
theorem Dj:type_of% @List.mem_range:=@List.mem_range
theorem Dk.{u}:type_of% @List.drop_zero.{u}:=@List.drop_zero.{u}
theorem Dl.{u,v}:type_of% @Option.map_some.{u,v}:=@Option.map_some.{u,v}
theorem Dm.{u}:type_of% @List.mem_of_mem_take.{u}:=@List.mem_of_mem_take.{u}
theorem Dn.{u}:type_of% @List.getElem?_cons_succ.{u}:=@List.getElem?_cons_succ.{u}
theorem Dp.{u}:type_of% @List.ext_getElem.{u}:=@List.ext_getElem.{u}
theorem Dq.{u}:type_of% @List.length_drop.{u}:=@List.length_drop.{u}
theorem Dr.{u}:type_of% @List.sum_cons.{u}:=@List.sum_cons.{u}
theorem Dt:type_of% @of_decide_eq_true:=@of_decide_eq_true
theorem Du.{u,v}:type_of% @List.mem_map.{u,v}:=@List.mem_map.{u,v}
theorem Dv.{u}:type_of% @if_false.{u}:=@if_false.{u}
theorem Dw:type_of% @Nat.sub_self:=@Nat.sub_self
theorem Dx.{u,v}:type_of% @List.map_append.{u,v}:=@List.map_append.{u,v}
theorem Dy:type_of% @Nat.add_mul:=@Nat.add_mul
theorem Dz.{u}:type_of% @Array.getElem?_eq_getElem.{u}:=@Array.getElem?_eq_getElem.{u}
theorem Ea.{u}:type_of% @Classical.choose_spec.{u}:=@Classical.choose_spec.{u}
theorem Eb.{u}:type_of% @beq_self_eq_true.{u}:=@beq_self_eq_true.{u}
theorem Ec:type_of% @Nat.mul_le_mul_right:=@Nat.mul_le_mul_right
theorem Ed.{u}:type_of% @List.getElem?_append.{u}:=@List.getElem?_append.{u}
theorem Ee:type_of% @Bool.not_false:=@Bool.not_false
theorem Ef:type_of% @Bool.eq_false_iff:=@Bool.eq_false_iff
theorem Eg:type_of% @Nat.le_max_right:=@Nat.le_max_right
theorem Eh:type_of% @Nat.lt_of_le_of_lt:=@Nat.lt_of_le_of_lt
theorem Ei:type_of% @Nat.eq_zero_or_pos:=@Nat.eq_zero_or_pos
theorem Ej.{u}:type_of% @if_true.{u}:=@if_true.{u}
theorem Ek:type_of% @Bool.or_eq_true:=@Bool.or_eq_true
theorem El:type_of% @Nat.le_max_left:=@Nat.le_max_left
theorem Em.{u}:type_of% @List.mem_of_mem_drop.{u}:=@List.mem_of_mem_drop.{u}
theorem En.{u}:type_of% @List.mem_iff_getElem.{u}:=@List.mem_iff_getElem.{u}
theorem Eo.{u}:type_of% @List.getElem?_take_of_lt.{u}:=@List.getElem?_take_of_lt.{u}
theorem Ep.{u,v}:type_of% @List.map_congr_left.{u,v}:=@List.map_congr_left.{u,v}
theorem Eq.{u,v}:type_of% @Array.toList_map.{u,v}:=@Array.toList_map.{u,v}
theorem Er.{u}:type_of% @List.take_zero.{u}:=@List.take_zero.{u}
theorem Es:type_of% @Nat.add_sub_cancel:=@Nat.add_sub_cancel
theorem Et:type_of% @Nat.le_of_eq:=@Nat.le_of_eq
theorem Eu:type_of% @Nat.ble_eq:=@Nat.ble_eq
noncomputable section
inductive T(α:Type) where
 | e:T α
 | n (l:T α) (v:Option α) (r:T α):T α
def bN{α:Sort _}(c:Bool)(a b:α):α:=Bool.rec b a c
def aZ{α β:Type}(x:Option α)(f:α→Option β):Option β:=Option.rec none f x
namespace T
variable {α:Type}
def get(t:T α):Nat→Option α:=
 T.rec (motive:=fun _=>Nat→Option α) (fun _=>none)
  (fun _ v _ gl gr k=>bN (Nat.beq k 0) v (bN (Nat.beq (Nat.mod k 2) 1) (gl (Nat.div k 2)) (gr (Nat.sub (Nat.div k 2) 1)))) t
def single(f:Nat):Nat→Option α→T α:=
 Nat.rec (motive:=fun _=>Nat→Option α→T α) (fun _ _=>.e)
  (fun _ ih k x=>bN (Nat.beq k 0) (.n .e x .e) (bN (Nat.beq (Nat.mod k 2) 1) (.n (ih (Nat.div k 2) x) none .e) (.n .e none (ih (Nat.sub (Nat.div k 2) 1) x)))) f
def set(t:T α):Nat→Option α→T α:=
 T.rec (motive:=fun _=>Nat→Option α→T α) (fun k x=>single (Nat.succ k) k x)
  (fun l v r sl sr k x=>bN (Nat.beq k 0) (.n l x r) (bN (Nat.beq (Nat.mod k 2) 1) (.n (sl (Nat.div k 2) x) v r) (.n l v (sr (Nat.sub (Nat.div k 2) 1) x)))) t
end T
inductive AV where
 | bool (b:Bool)
 | int (k:IntKind) (n:Int)
 | str (s:List Nat)
 | ptr (b off:Nat)
 | nilp
 | sl (b off len cap:Nat) (o:Bool)
 | nilsl
 | emp        -- an empty slice,not nil,of unknown place and capacity
 | map (b:Nat)
 | nilmap
 | fn (f:Nat) (first captured:List AV)
 | nilfn
 | yld (b:Nat)
 | iface (t:Nat) (v:AV)
 | niliface
 | mth (name:String) (tbl:List (Nat×Nat×Option (Bool×Nat))) (v:AV)     -- a method of an interface value,bound
 | agg (cs:List AV)
 | tup (vs:List AV)
 deriving Inhabited
def AV.cells(v:AV):Option (List AV):=
 match v with
 | .agg cs=>some cs
 | .tup _=>none
 | v=>some [v]
def AV.undef:AV:=.tup []
inductive cL where
 | t (i:Nat)
 | c (v:AV)
 deriving Inhabited
inductive EqP where
 | bool | int | str | ptr | slice | map | func | iface | no
 deriving Inhabited,DecidableEq
inductive sC where
 | p (e:EqP)
 | struct (fs:List (Nat×EqP))
 deriving Inhabited
inductive aIh where
 | int (k:IntKind)
 | same
 | bytesToStr
 | intToStr
 deriving Inhabited
inductive SlK where
 | str
 | slice (size:Nat)
 | arr (n size:Nat)
 deriving Inhabited
inductive IxK where
 | arr (n size:Nat)
 | slice (size:Nat)
 deriving Inhabited
inductive xL where
 | mv (x:cL)
 | pick (c a b:cL)
 | build (zero:List AV) (parts:List (Nat×Nat×cL))
 | ld (agg:Bool) (n:Nat) (x:cL)
 | nilchk (x:cL)
 | bin (op:BinOp) (e:sC) (x y:cL)
 | un (op:UnOp) (x:cL)
 | conv (k:aIh) (x:cL)
 | mkIface (t:Nat) (x:cL)
 | mkFunc (f:Nat) (first captured:List cL)
 | slc (k:SlK) (x:cL) (lo hi mx:Option cL)
 | faddr (off:Nat) (x:cL)
 | fld (agg:Bool) (off n:Nat) (x:cL)
 | iaddr (k:IxK) (x ix:cL)
 | idxArr (agg:Bool) (n size:Nat) (x ix:cL)
 | idxStr (x ix:cL)
 | lookup (e:sC) (zero:AV) (commaOk:Bool) (m key:cL)
 | tassert (t:Nat) (zero:AV) (commaOk:Bool) (x:cL)
 | extract (x:cL) (i:Nat)
 | lenArr (n:Nat)
 | lenStr (x:cL)
 | lenSl (x:cL)
 | lenMap (x:cL)
 | capSl (x:cL)
 | minmax (isMax:Bool) (xs:List cL)
 | mkMeth (name:String) (tbl:List (Nat×Nat×Option (Bool×Nat))) (x:cL)
 deriving Inhabited
inductive uS where
 | alloc (t:Nat) (cells:List AV)
 | box (t:Nat) (x:cL)
 | bslice (t size len:Nat) (zero:List AV) (parts:List (Nat×cL))
 | mkSlice (t size bytes:Nat) (zero:List AV) (l c:cL)
 | mkMap
 | strBytes (t:Nat) (x:cL)
 deriving Inhabited
inductive aKk where
 | add64 | idxByte | idxStr
 deriving Inhabited
inductive XOp where
 | st (n:Nat) (x v:cL)
 | call (f:cL) (args:List cL)
 | inv (tbl:List (Nat×Nat×Option (Bool×Nat))) (recv:cL) (args:List cL)
 | app (t size bytes:Nat) (s x:cL)
 | copy (size:Nat) (d s:cL)
 | mapUpd (e:sC) (m k v:cL)
 | mapDel (e:sC) (m k:cL)
 | clr (zero:List AV) (x:cL)
 | ext (k:aKk) (args:List cL)
 | bad
 deriving Inhabited
inductive AOp where
 | q (o:xL)
 | a (o:uS)
 | x (o:XOp)
 deriving Inhabited
structure AO where
 dst:Option Nat
 op:AOp
 grd:Option (Nat×Bool)
 mask:Nat      -- the operations before it (drawn regions)
 deriving Inhabited
inductive AC where
 | skip
 | seq (a b:AC)
 | cond (c:cL) (a b:AC)
 | block (id:Nat) (c:AC)
 | loop (c:AC)
 | exit (id:Nat)
 | ret
 | reg (ops:List AO)
 | drw (ops:List AO)
 | rng (f:cL) (params:List Nat) (assign body:AC)
 | dfr (ops:List AO) (f:cL) (args:List cL)
 deriving Inhabited
inductive RV where
 | t (i:Nat)
 | cell (a:Nat) (agg:Bool) (n:Nat)
 deriving Inhabited
structure eG where
 ntmps:Nat
 res:List RV
 body:AC
 deriving Inhabited
abbrev Fr:=T AV
inductive LSt where
 | ready | busy | done | exhausted
 deriving DecidableEq,Inhabited
inductive Out where
 | normal
 | exit (id:Nat)
 | ret
 deriving Inhabited
inductive AB where
 | cells (cs:List AV) (opn:Bool) (size:Nat)     -- opn:there may be more room behind;size:the cells of an element then
 | ro (cs:List AV)
 | map (es:List (AV×AV))
 | loop (st:LSt) (pend:Option Out) (fr:Fr) (params:List Nat) (assign body:AC)
 | dfd
 deriving Inhabited
structure St where
 h:T AB
 nx:Nat
def aB(i:Nat)(F:Fr):AV:=Option.rec (motive:=fun _=>AV) .undef (fun v=>v) (F.get i)
def aM8(v:AV)(_:Fr):AV:=v
def cL.val(x:cL):Fr→AV:=cL.rec (motive:=fun _=>Fr→AV) aB aM8 x
def dD(l:List cL):Fr→List AV:=List.rec (motive:=fun _=>Fr→List AV) (fun _=>[]) (fun x _ ih F=>x.val F::ih F) l
def nth{α:Type}(l:List α):Nat→Option α:=List.rec (motive:=fun _=>Nat→Option α) (fun _=>none) (fun x _ ih k=>bN (Nat.beq k 0) (some x) (ih (Nat.sub k 1))) l
def aGp{α:Type}(l:List α):Nat→List α:=List.rec (motive:=fun _=>Nat→List α) (fun _=>[]) (fun x xs ih k=>bN (Nat.beq k 0) (x::xs) (ih (Nat.sub k 1))) l
def aFV{α:Type}(l:List α):Nat→Option (List α):=
 List.rec (motive:=fun _=>Nat→Option (List α)) (fun n=>bN (Nat.beq n 0) (some []) none)
  (fun x _ ih n=>bN (Nat.beq n 0) (some []) (aZ (ih (Nat.sub n 1)) fun r=>some (x::r))) l
def aCw{α:Type}(vs:List α):List α→Option (List α):=
 List.rec (motive:=fun _=>List α→Option (List α)) (fun l=>some l)
  (fun v _ ih l=>List.rec (motive:=fun _=>Option (List α)) none (fun _ xs _=>aZ (ih xs) fun r=>some (v::r)) l) vs
def put{α:Type}(l:List α):Nat→List α→Option (List α):=
 List.rec (motive:=fun _=>Nat→List α→Option (List α)) (fun k vs=>bN (Nat.beq k 0) (aCw vs []) none)
  (fun x xs ih k vs=>bN (Nat.beq k 0) (aCw vs (x::xs)) (aZ (ih (Nat.sub k 1) vs) fun r=>some (x::r))) l
def lI{α:Type}(l:List α):Nat:=List.rec (motive:=fun _=>Nat) 0 (fun _ _ ih=>Nat.succ ih) l
def wU{α:Type}(l m:List α):List α:=List.rec (motive:=fun _=>List α) m (fun x _ ih=>x::ih) l
def repeatL{α:Type}(z:List α)(n:Nat):List α:=Nat.rec (motive:=fun _=>List α) [] (fun _ ih=>wU z ih) n
def cut{α:Type}(l:List α)(i n:Nat):Option (List α):=aFV (aGp l i) n
def oR(k:IntKind):Nat:=
 match k with
 | .i8=>127 | .i16=>32767 | .i32=>2147483647 | .i64=>9223372036854775807
 | .u8=>255 | .u16=>65535 | .u32=>4294967295 | .u64=>18446744073709551615
def nat(k:IntKind)(n:Nat):Int:=bN (Nat.ble n (oR k)) (.ofNat n) (k.wrap (.ofNat n))
def aCD(k:IntKind):Bool:=
 match k with
 | .i8 | .i16 | .i32 | .i64=>true
 | _=>false
def neg(k:IntKind)(n:Nat):Int:=bN (aCD k) (bN (Nat.ble n (oR k)) (.negSucc n) (k.wrap (.negSucc n))) (k.wrap (.negSucc n))
def aHX(k:IntKind)(n:Nat):Bool:=Nat.ble n (oR k)
def aD3(k:IntKind)(n:Int):Int:=Int.rec (motive:=fun _=>Int) (fun m=>nat k m) (fun m=>neg k m) n
def aAM(k:IntKind)(a b:Nat):Int:=bN (Nat.ble b a) (nat k (Nat.sub a b)) (neg k (Nat.sub (Nat.sub b a) 1))
def aKC(k:IntKind)(x y:Int):Int:=
 Int.rec (motive:=fun _=>Int) (fun a=>Int.rec (motive:=fun _=>Int) (fun b=>nat k (Nat.add a b)) (fun b=>aAM k a (Nat.succ b)) y)
  (fun a=>Int.rec (motive:=fun _=>Int) (fun b=>aAM k b (Nat.succ a)) (fun b=>neg k (Nat.succ (Nat.add a b))) y) x
def aH7(k:IntKind)(x y:Int):Int:=
 Int.rec (motive:=fun _=>Int) (fun a=>Int.rec (motive:=fun _=>Int) (fun b=>aAM k a b) (fun b=>nat k (Nat.add a (Nat.succ b))) y)
  (fun a=>Int.rec (motive:=fun _=>Int) (fun b=>neg k (Nat.add a b)) (fun b=>aAM k b a) y) x
def aIy(k:IntKind)(x y:Int):Int:=
 Int.rec (motive:=fun _=>Int) (fun a=>Int.rec (motive:=fun _=>Int) (fun b=>nat k (Nat.mul a b)) (fun b=>aD3 k (Int.mul (.ofNat a) (.negSucc b))) y)
  (fun a=>aD3 k (Int.mul (.negSucc a) y)) x
def ieq(x y:Int):Bool:=
 Int.rec (motive:=fun _=>Bool) (fun a=>Int.rec (motive:=fun _=>Bool) (fun b=>Nat.beq a b) (fun _=>false) y)
  (fun a=>Int.rec (motive:=fun _=>Bool) (fun _=>false) (fun b=>Nat.beq a b) y) x
def ile(x y:Int):Bool:=
 Int.rec (motive:=fun _=>Bool) (fun a=>Int.rec (motive:=fun _=>Bool) (fun b=>Nat.ble a b) (fun _=>false) y)
  (fun a=>Int.rec (motive:=fun _=>Bool) (fun _=>true) (fun b=>Nat.ble b a) y) x
def keq(x y:IntKind):Bool:=Nat.beq (oR x) (oR y)
def aLf(x y:Bool):Bool:=bN x y (bN y false true)
def aQC(k:IntKind)(x y:Int):Option AV:=some (.int k (aKC k x y))
def aQz(k:IntKind)(x y:Int):Option AV:=some (.int k (aH7 k x y))
def aQv(k:IntKind)(x y:Int):Option AV:=some (.int k (aIy k x y))
def aNg(k:IntKind)(x y:Int):Option AV:=
 match x,y with
 | .ofNat a,.ofNat b=>bN (Nat.beq b 0) none (some (.int k (nat k (Nat.div a b))))
 | x,y=>bN (ieq y (.ofNat 0)) none (some (.int k (aD3 k (x.tdiv y))))
def aNM(k:IntKind)(x y:Int):Option AV:=
 match x,y with
 | .ofNat a,.ofNat b=>bN (Nat.beq b 0) none (some (.int k (.ofNat (Nat.mod a b))))
 | x,y=>bN (ieq y (.ofNat 0)) none (some (.int k (x.tmod y)))
def aBn(f:Nat→Nat→Nat)(k:IntKind)(x y:Int):Option AV:=
 match x,y with
 | .ofNat a,.ofNat b=>bN (aHX k a) (bN (aHX k b) (some (.int k (.ofNat (f a b)))) none) none
 | _,_=>none
def aQc:=aBn Nat.land
def iOr:=aBn Nat.lor
def aQu:=aBn Nat.xor
def aQL(_:IntKind)(x y:Int):Option AV:=some (.bool (ieq x y))
def aQP(_:IntKind)(x y:Int):Option AV:=some (.bool (bN (ieq x y) false true))
def aQB(_:IntKind)(x y:Int):Option AV:=some (.bool (bN (ile y x) false true))
def aQs(_:IntKind)(x y:Int):Option AV:=some (.bool (ile x y))
def aQg(_:IntKind)(x y:Int):Option AV:=some (.bool (bN (ile x y) false true))
def aQI(_:IntKind)(x y:Int):Option AV:=some (.bool (ile y x))
def aK2(_:IntKind)(_ _:Int):Option AV:=none
def aK1(op:BinOp):IntKind→Int→Int→Option AV:=
 BinOp.rec (motive:=fun _=>IntKind→Int→Int→Option AV) aQC aQz aQv aNg aNM aQc iOr aQu aK2 aK2 aK2 aQL aQP aQB aQs aQg aQI op
def aJ4(op:BinOp)(k:IntKind)(x:Int)(b:Nat):Option AV:=
 let n:=bN (Nat.ble b k.bits) b k.bits
 match op with
 | .shl=>some (.int k (aIy k x (.ofNat (Nat.pow 2 n))))
 | .shr=>some (.int k (x.fdiv (.ofNat (Nat.pow 2 n))))
 | _=>none
def aAm(op:BinOp)(k:IntKind)(x y:Int):Option AV:=
 match y with
 | .ofNat b=>aJ4 op k x b
 | _=>none
def gQ(op:BinOp):Bool:=BinOp.rec (motive:=fun _=>Bool) false false false false false false false false true true false false false false false false false op
def pE:List Nat→List Nat→Bool
 | _,[]=>false
 | [],_::_=>true
 | a::x,b::y=>bN (Nat.blt a b) true (bN (Nat.beq a b) (pE x y) false)
def mY:List Nat→List Nat→Bool
 | [],[]=>true
 | a::x,b::y=>bN (Nat.beq a b) (mY x y) false
 | _,_=>false
def aHg(op:BinOp)(a b:List Nat):Option AV:=
 match op with
 | .add=>bN (Nat.ble (lI a+lI b) 9223372036854775807) (some (.str (wU a b))) none
 | .eql=>some (.bool (mY a b))
 | .neq=>some (.bool (!mY a b))
 | .lss=>some (.bool (pE a b))
 | .leq=>some (.bool (pE a b || mY a b))
 | .gtr=>some (.bool (!(pE a b || mY a b)))
 | .geq=>some (.bool (!pE a b))
 | _=>none
def partOf(agg:Bool)(cs:List AV)(off n:Nat):Option AV:=
 bN agg (aZ (cut cs off n) fun r=>some (.agg r)) (nth cs off)
def vZ:EqP→AV→AV→Option Bool
 | .bool,.bool a,.bool b=>some (aLf a b)
 | .int,.int k a,.int k' b=>bN (keq k k') (some (ieq a b)) none
 | .str,.str a,.str b=>some (mY a b)
 | .ptr,.nilp,.nilp=>some true
 | .ptr,.nilp,.ptr _ _=>some false
 | .ptr,.ptr _ _,.nilp=>some false
 | .slice,.nilsl,.nilsl=>some true
 | .slice,.nilsl,.sl .. =>some false
 | .slice,.sl ..,.nilsl=>some false
 | .slice,.nilsl,.emp=>some false
 | .slice,.emp,.nilsl=>some false
 | .map,.nilmap,.nilmap=>some true
 | .map,.nilmap,.map _=>some false
 | .map,.map _,.nilmap=>some false
 | .func,.nilfn,.nilfn=>some true
 | .func,.nilfn,.fn .. =>some false
 | .func,.fn ..,.nilfn=>some false
 | .iface,.niliface,.iface _ _=>some false
 | .iface,.iface _ _,.niliface=>some false
 | _,_,_=>none
def eqs:List (Nat×EqP)→List AV→List AV→Option Bool
 | [],_,_=>some true
 | (off,e)::fs,xs,ys=>
  match nth xs off,nth ys off with
  | some x,some y=>match vZ e x y with
   | some true=>eqs fs xs ys
   | some false=>some false
   | none=>none
  | _,_=>none
def eqv:sC→AV→AV→Option Bool
 | .p e,x,y=>vZ e x y
 | .struct fs,.agg xs,.agg ys=>bN (Nat.beq (lI xs) (lI fs)) (bN (Nat.beq (lI ys) (lI fs)) (eqs fs xs ys) none) none
 | _,_,_=>none
def aMz(op:BinOp)(e:sC)(x y:AV):Option AV:=
 match op with
 | .eql=>aZ (eqv e x y) fun b=>some (.bool b)
 | .neq=>aZ (eqv e x y) fun b=>some (.bool (bN b false true))
 | _=>none
def fF(op:BinOp)(k:IntKind)(a:Int)(k':IntKind)(b:Int):Option AV:=
 bN (gQ op) (aAm op k a b) (bN (keq k k') (aK1 op k a b) none)
def aE1(v:AV):Option (IntKind×Int):=
 match v with
 | .int k a=>some (k,a)
 | _=>none
def aFs(v:AV):Option (List Nat):=
 match v with
 | .str s=>some s
 | _=>none
def pO(op:BinOp)(e:sC)(x y:AV):Option AV:=
 match aE1 x,aE1 y with
 | some a,some b=>fF op a.1 a.2 b.1 b.2
 | _,_=>match aFs x,aFs y with
  | some a,some b=>aHg op a b
  | _,_=>aMz op e x y
def unV(op:UnOp)(x:AV):Option AV:=
 match op,x with
 | .neg,.int k n=>some (.int k (aH7 k (.ofNat 0) n))
 | .not,.bool b=>some (.bool (bN b false true))
 | _,_=>none
def jS(b:AB):Option (List AV):=
 match b with
 | .cells cs _ _=>some cs
 | .ro cs=>some cs
 | _=>none
def cN(h:T AB)(b:Nat):Option (List AV):=aZ (h.get b) jS
def xD(h:T AB)(b off n:Nat):Option (List AV):=aZ (cN h b) fun cs=>cut cs off n
def kL(h:T AB)(b off:Nat):Option AV:=aZ (cN h b) fun cs=>nth cs off
def mW(agg:Bool)(n:Nat)(h:T AB)(b off:Nat):Option AV:=
 bN agg (aZ (xD h b off n) fun cs=>some (.agg cs)) (kL h b off)
def eS(zero:List AV):List (Nat×Nat×AV)→Option (List AV)
 | []=>some zero
 | (off,n,v)::ps=>aZ v.cells fun cs=>bN (Nat.beq (lI cs) n) (aZ (put zero off cs) fun z=>eS z ps) none
def bytesOf:List AV→Option (List Nat)
 | []=>some []
 | .int .u8 (.ofNat n)::vs=>bN (Nat.ble n 255) (aZ (bytesOf vs) fun r=>some (n::r)) none
 | _::_=>none
def fI(v:AV):Option Nat:=
 match v with
 | .int _ (.ofNat n)=>some n
 | _=>none
def jY(F:Fr)(d:Nat)(x:Option cL):Option Nat:=
 match x with
 | none=>some d
 | some x=>fI (x.val F)
def qC(e:sC)(k:AV):List (AV×AV)→Nat→Option (Option (Nat×AV))
 | [],_=>some none
 | (k',v)::es,i=>aZ (eqv e k k') fun b=>bN b (some (some (i,v))) (qC e k es (Nat.succ i))
def mQ(e:sC)(k:AV)(es:List (AV×AV)):Option (Option (Nat×AV)):=aZ (eqv e k k) fun _=>qC e k es 0
def rH(b:AB):Option (List (AV×AV)):=
 match b with
 | .map es=>some es
 | _=>none
def sO(h:T AB)(m:AV):Option (List (AV×AV)):=
 match m with
 | .nilmap=>some []
 | .map b=>aZ (h.get b) rH
 | _=>none
def jL(isMax:Bool):List AV→AV→Option AV
 | [],x=>some x
 | .int k' b::vs,.int k a=>bN (keq k k')
   (jL isMax vs (.int k (bN isMax (bN (ile b a) a b) (bN (ile a b) a b)))) none
 | _,_=>none
abbrev QF:=Fr→T AB→Option AV
def qMv(x:cL):QF:=fun F _=>some (x.val F)
def wA(v:AV)(a b:cL)(F:Fr):Option AV:=
 match v with
 | .bool t=>some (bN t (a.val F) (b.val F))
 | _=>none
def aOw(c a b:cL):QF:=fun F _=>wA (c.val F) a b F
def eB(F:Fr):List (Nat×Nat×cL)→List (Nat×Nat×AV)
 | []=>[]
 | (a,b,x)::ps=>(a,b,x.val F)::eB F ps
def aN9(zero:List AV)(ps:List (Nat×Nat×cL)):QF:=fun F _=>aZ (eS zero (eB F ps)) fun cs=>some (.agg cs)
def eH(v:AV)(agg:Bool)(n:Nat)(h:T AB):Option AV:=
 match v with
 | .ptr b off=>mW agg n h b off
 | _=>none
def qLd(agg:Bool)(n:Nat)(x:cL):QF:=fun F h=>eH (x.val F) agg n h
def aCk{α:Type}(t:Nat):List (Nat×α)→Option α
 | []=>none
 | (u,a)::l=>bN (Nat.beq t u) (some a) (aCk t l)
def aRo(n:String)(tbl:List (Nat×Nat×Option (Bool×Nat)))(v:AV):Option AV:=
 match v with
 | .iface t w=>aZ (aCk t tbl) fun r=>match r.2,w with
  | none,_=>some (.mth n tbl v)
  | some _,.ptr _ _=>some (.mth n tbl v)
  | _,_=>none
 | _=>none
def uH(v:AV):Option AV:=
 match v with
 | .ptr b o=>some (.ptr b o)
 | .fn f a b=>some (.fn f a b)
 | .iface t v=>some (.iface t v)
 | .yld b=>some (.yld b)
 | _=>none
def aLv(x:cL):QF:=fun F _=>uH (x.val F)
def aQy(op:BinOp)(e:sC)(x y:cL):QF:=fun F _=>pO op e (x.val F) (y.val F)
def qUn(op:UnOp)(x:cL):QF:=fun F _=>unV op (x.val F)
def aHI(h:T AB)(b off len:Nat):Option AV:=aZ (xD h b off len) fun cs=>aZ (bytesOf cs) fun s=>some (.str s)
def aCZ(k:aIh)(v:AV)(h:T AB):Option AV:=
 match k,v with
 | .int k,.int _ n=>some (.int k (aD3 k n))
 | .same,.str s=>some (.str s)
 | .bytesToStr,.nilsl=>some (.str [])
 | .bytesToStr,.emp=>some (.str [])
 | .bytesToStr,.sl b off len _ _=>aHI h b off len
 | .intToStr,.int _ (.ofNat n)=>bN (Nat.ble n 127) (some (.str [n])) none
 | _,_=>none
def aOW(k:aIh)(x:cL):QF:=fun F h=>aCZ k (x.val F) h
def aJ7(t:Nat)(x:cL):QF:=fun F _=>some (.iface t (x.val F))
def aL5(f:Nat)(first cap:List cL):QF:=fun F _=>some (.fn f (dD first F) (dD cap F))
def aMM(s:List Nat)(lo hi mx:Option cL)(F:Fr):Option AV:=
 match mx with
 | some _=>none
 | none=>aZ (jY F (lI s) hi) fun h'=>aZ (jY F 0 lo) fun l=>
   bN (Nat.ble h' (lI s)) (bN (Nat.ble l h') (aZ (cut s l (h' - l)) fun r=>some (.str r)) none) none
def oU(len cap:Nat)(lo hi mx:Option cL)(F:Fr):Option (Nat×Nat×Nat):=
 aZ (jY F cap mx) fun m=>aZ (jY F len hi) fun h=>aZ (jY F 0 lo) fun l=>
  bN (Nat.ble m cap) (bN (Nat.ble h m) (bN (Nat.ble l h) (some (l,h,m)) none) none) none
def aKF(size b off len cap:Nat)(o:Bool)(lo hi mx:Option cL)(F:Fr):Option AV:=
 aZ (oU len cap lo hi mx F) fun x=>
  let o':=bN o mx.isNone false
  bN (Nat.beq x.2.2 x.1) (bN o' (some .emp) (some (.sl b off (x.2.1 - x.1) (x.2.2 - x.1) false)))
   (some (.sl b (off+x.1 * size) (x.2.1 - x.1) (x.2.2 - x.1) o'))
def aJG(lo hi mx:Option cL)(F:Fr):Option AV:=aZ (oU 0 0 lo hi mx F) fun _=>some .emp
def aKl(lo hi mx:Option cL)(F:Fr):Option AV:=aZ (oU 0 0 lo hi mx F) fun _=>some .nilsl
def aJT(n size b off:Nat)(lo hi mx:Option cL)(F:Fr):Option AV:=
 aZ (oU n n lo hi mx F) fun x=>
  bN (Nat.beq x.2.2 x.1) (some (.sl b off (x.2.1 - x.1) (x.2.2 - x.1) false))
   (some (.sl b (off+x.1 * size) (x.2.1 - x.1) (x.2.2 - x.1) false))
def xX(k:SlK)(v:AV)(lo hi mx:Option cL)(F:Fr):Option AV:=
 match k,v with
 | .str,.str s=>aMM s lo hi mx F
 | .slice size,.sl b off len cap o=>aKF size b off len cap o lo hi mx F
 | .slice _,.nilsl=>aKl lo hi mx F
 | .slice _,.emp=>aJG lo hi mx F
 | .arr n size,.ptr b off=>aJT n size b off lo hi mx F
 | _,_=>none
def aQR(k:SlK)(x:cL)(lo hi mx:Option cL):QF:=fun F _=>xX k (x.val F) lo hi mx F
def xO(v:AV)(off:Nat):Option AV:=
 match v with
 | .ptr b o=>some (.ptr b (o+off))
 | _=>none
def aNv(off:Nat)(x:cL):QF:=fun F _=>xO (x.val F) off
def aI4(v:AV)(agg:Bool)(off n:Nat):Option AV:=
 match v with
 | .agg cs=>partOf agg cs off n
 | _=>none
def aQN(agg:Bool)(off n:Nat)(x:cL):QF:=fun F _=>aI4 (x.val F) agg off n
def eU(k:IxK)(v:AV)(i:Nat):Option AV:=
 match k,v with
 | .arr n size,.ptr b off=>bN (Nat.blt i n) (some (.ptr b (off+i * size))) none
 | .slice size,.sl b off len _ _=>bN (Nat.blt i len) (some (.ptr b (off+i * size))) none
 | _,_=>none
def aNo(k:IxK)(x ix:cL):QF:=fun F _=>aZ (fI (ix.val F)) fun i=>eU k (x.val F) i
def aEO(v:AV)(agg:Bool)(n size i:Nat):Option AV:=
 match v with
 | .agg cs=>bN (Nat.blt i n) (partOf agg cs (i * size) size) none
 | _=>none
def aLE(agg:Bool)(n size:Nat)(x ix:cL):QF:=fun F _=>aZ (fI (ix.val F)) fun i=>aEO (x.val F) agg n size i
def aFe(v:AV)(i:Nat):Option AV:=
 match v with
 | .str s=>aZ (nth s i) fun b=>some (.int .u8 (.ofNat b))
 | _=>none
def aLu(x ix:cL):QF:=fun F _=>aZ (fI (ix.val F)) fun i=>aFe (x.val F) i
def aCG(ok:Bool)(v:AV)(b:Bool):AV:=bN ok (.tup [v,.bool b]) v
def mG(r:Option (Nat×AV))(zero:AV)(ok:Bool):Option AV:=
 match r with
 | some (_,v)=>some (aCG ok v true)
 | none=>some (aCG ok zero false)
def aLH(sk:sC)(zero:AV)(ok:Bool)(m key:cL):QF:=fun F h=>
 aZ (sO h (m.val F)) fun es=>aZ (mQ sk (key.val F) es) fun r=>mG r zero ok
def aDk(v:AV)(t:Nat)(zero:AV)(ok:Bool):Option AV:=
 match v with
 | .iface t' v=>bN (Nat.beq t t') (some (aCG ok v true)) (bN ok (some (.tup [zero,.bool false])) none)
 | .niliface=>bN ok (some (.tup [zero,.bool false])) none
 | _=>none
def aJW(t:Nat)(zero:AV)(ok:Bool)(x:cL):QF:=fun F _=>aDk (x.val F) t zero ok
def jF(v:AV)(i:Nat):Option AV:=
 match v with
 | .tup vs=>nth vs i
 | _=>none
def aKJ(x:cL)(i:Nat):QF:=fun F _=>jF (x.val F) i
def aLN(n:Nat):QF:=fun _ _=>some (.int .i64 (.ofNat n))
def aE5(v:AV):Option AV:=
 match v with
 | .str s=>some (.int .i64 (.ofNat (lI s)))
 | _=>none
def aLA(x:cL):QF:=fun F _=>aE5 (x.val F)
def kO(v:AV):Option AV:=
 match v with
 | .nilsl=>some (.int .i64 (.ofNat 0))
 | .emp=>some (.int .i64 (.ofNat 0))
 | .sl _ _ n _ _=>some (.int .i64 (.ofNat n))
 | _=>none
def aNl(x:cL):QF:=fun F _=>kO (x.val F)
def aLy(x:cL):QF:=fun F h=>aZ (sO h (x.val F)) fun es=>some (.int .i64 (.ofNat (lI es)))
def aG3(v:AV):Option AV:=
 match v with
 | .nilsl=>some (.int .i64 (.ofNat 0))
 | .sl _ _ _ c false=>some (.int .i64 (.ofNat c))
 | _=>none
def aNb(x:cL):QF:=fun F _=>aG3 (x.val F)
def lK(isMax:Bool)(l:List AV):Option AV:=
 match l with
 | []=>none
 | v::vs=>jL isMax vs v
def aLF(n:String)(tbl:List (Nat×Nat×Option (Bool×Nat)))(x:cL):QF:=fun F _=>some (.mth n tbl (x.val F))
def aL0(mx:Bool)(xs:List cL):QF:=fun F _=>lK mx (dD xs F)
def fV(q:xL):QF:=
 xL.rec (motive:=fun _=>QF) qMv aOw aN9 qLd aLv aQy qUn aOW aJ7 aL5 aQR aNv aQN aNo aLE aLu aLH aJW aKJ aLN aLA aNl aLy aNb aL0 aLF q
abbrev AF:=Fr→Nat→Option (AV×AB)
def room:Nat:=140737488355328
def aNW(_:Nat)(cells:List AV):AF:=fun _ id=>some (.ptr id 0,.cells cells false 0)
def aQA(_:Nat)(x:cL):AF:=fun F id=>aZ (x.val F).cells fun cs=>some (.ptr id 0,.cells cs false 0)
def jO(size:Nat)(F:Fr):List (Nat×cL)→List (Nat×Nat×AV)
 | []=>[]
 | (i,x)::ps=>(i * size,size,x.val F)::jO size F ps
def aLz(_ size len:Nat)(zero:List AV)(ps:List (Nat×cL)):AF:=fun F id=>
 aZ (eS (repeatL zero len) (jO size F ps)) fun cs=>some (.sl id 0 len len false,.cells cs false 0)
def vX(_ _ bytes:Nat)(zero:List AV)(l c:cL):AF:=fun F id=>
 aZ (fI (l.val F)) fun l=>aZ (fI (c.val F)) fun c=>
  bN (Nat.ble l c) (bN (Nat.ble c room) (bN (Nat.ble (bytes * c) room) (some (.sl id 0 l c false,.cells (repeatL zero c) false 0)) none) none) none
def aN5:AF:=fun _ id=>some (.map id,.map [])
def byteCells:List Nat→List AV
 | []=>[]
 | b::bs=>.int .u8 (.ofNat b)::byteCells bs
def aAQ(v:AV)(id:Nat):Option (AV×AB):=
 match v with
 | .str s=>some (.sl id 0 (lI s) (lI s) true,.cells (byteCells s) true 1)
 | _=>none
def aIW(_:Nat)(x:cL):AF:=fun F id=>aAQ (x.val F) id
def uL(a:uS):AF:=uS.rec (motive:=fun _=>AF) aNW aQA aLz vX aN5 aIW a
def aAO(bl:AB)(S:St)(b off:Nat)(vs:List AV):Option St:=
 match bl with
 | .cells cs o s=>aZ (put cs off vs) fun cs'=>some ⟨S.h.set b (some (.cells cs' o s)),S.nx⟩
 | _=>none
def rZ(S:St)(b off:Nat)(vs:List AV):Option St:=aZ (S.h.get b) fun bl=>aAO bl S b off vs
def fG(v:AV)(h:T AB)(size n:Nat):Option (List AV):=
 match v with
 | .sl b off _ _ _=>xD h b off (n * size)
 | .nilsl=>bN (Nat.beq n 0) (some []) none
 | .emp=>bN (Nat.beq n 0) (some []) none
 | .str s=>bN (Nat.beq size 1) (aZ (aFV s n) fun r=>some (byteCells r)) none
 | _=>none
def mO(v:AV):Option Nat:=
 match v with
 | .sl _ _ n _ _=>some n
 | .nilsl=>some 0
 | .emp=>some 0
 | .str s=>some (lI s)
 | _=>none
def grown(h:T AB)(nx need size:Nat)(cs:List AV):Option (AV×St):=
 some (.sl nx 0 need need true,⟨h.set nx (some (.cells cs true size)),Nat.succ nx⟩)
def aBh(bl:AB)(size b off len cap:Nat)(o:Bool)(n:Nat)(new:List AV)(S:St):Option (AV×St):=
 match bl with
 | .cells cs o' sz=>aZ (cut cs off (len * size)) fun old=>
   bN o
    (bN o' (bN (Nat.beq sz size) (bN (Nat.beq (off+cap * size) (lI cs)) (grown (S.h.set b none) S.nx (len+n) size (wU old new)) none) none) none)
    (grown S.h S.nx (len+n) size (wU old new))
 | .ro cs=>bN o none (aZ (cut cs off (len * size)) fun old=>grown S.h S.nx (len+n) size (wU old new))
 | _=>none
def qS(bytes size b off len cap:Nat)(o:Bool)(n:Nat)(new:List AV)(S:St):Option (AV×St):=
 bN (Nat.ble (len+n) cap)
  (bN (Nat.beq n 0) (some (.sl b off len cap o,S)) (aZ (rZ S b (off+len * size) new) fun S'=>some (.sl b off (len+n) cap o,S')))
  (bN (Nat.ble (len+n) room) (bN (Nat.ble ((len+n) * bytes) room) (aZ (S.h.get b) fun bl=>aBh bl size b off len cap o n new S) none) none)
def rX(bytes size n:Nat)(new:List AV)(S:St):Option (AV×St):=
 bN (Nat.beq n 0) (some (.nilsl,S))
  (bN (Nat.ble n room) (bN (Nat.ble (n * bytes) room) (grown S.h S.nx n size new) none) none)
def aCN(s:AV)(bytes size n:Nat)(new:List AV)(S:St):Option (AV×St):=
 match s with
 | .nilsl=>rX bytes size n new S
 | .emp=>bN (Nat.beq n 0) (some (.emp,S)) none
 | .sl b off len cap o=>qS bytes size b off len cap o n new S
 | _=>none
def jK(bytes size:Nat)(s x:AV)(S:St):Option (AV×St):=
 aZ (mO x) fun n=>aZ (fG x S.h size n) fun new=>aCN s bytes size n new S
def oO{α:Type}(f:α→α):List α→Nat→List α
 | [],_=>[]
 | x::xs,k=>bN (Nat.beq k 0) (f x::xs) (x::oO f xs (k - 1))
structure bH where
 F:Fr
 inr:Bool
abbrev eQ:=AV→List AV→St→Option (AV×St)
abbrev XF:=eQ→Fr→St→Option (AV×St)
def rU(p:AV)(n:Nat)(cs:List AV)(S:St):Option (AV×St):=
 match p with
 | .ptr b off=>bN (Nat.beq (lI cs) n) (aZ (rZ S b off cs) fun S'=>some (.undef,S')) none
 | _=>none
def xSt(n:Nat)(x v:cL):XF:=fun _ F S=>aZ (v.val F).cells fun cs=>rU (x.val F) n cs S
def aOV(f:cL)(args:List cL):XF:=fun call F S=>call (f.val F) (dD args F) S
def aJS(v:AV)(f:Nat)(agg:Bool)(n:Nat)(args:List AV)(call:eQ)(S:St):Option (AV×St):=
 match v with
 | .ptr b off=>aZ (mW agg n S.h b off) fun r=>call (.fn f [r] []) args S
 | _=>none
def aG5(r:Nat×Option (Bool×Nat))(v:AV)(args:List AV)(call:eQ)(S:St):Option (AV×St):=
 match r with
 | (f,none)=>call (.fn f [v] []) args S
 | (f,some (agg,n))=>aJS v f agg n args call S
def aHL(v:AV)(tbl:List (Nat×Nat×Option (Bool×Nat)))(args:List AV)(call:eQ)(S:St):Option (AV×St):=
 match v with
 | .iface t v=>aZ (aCk t tbl) fun r=>aG5 r v args call S
 | _=>none
def aQD(tbl:List (Nat×Nat×Option (Bool×Nat)))(recv:cL)(args:List cL):XF:=fun call F S=>aHL (recv.val F) tbl (dD args F) call S
def aQn(_ size bytes:Nat)(s x:cL):XF:=fun _ F S=>jK bytes size (s.val F) (x.val F) S
def copyV(d:AV)(size m:Nat)(s:AV)(S:St):Option (AV×St):=
 match d with
 | .nilsl=>some (.int .i64 (.ofNat 0),S)
 | .emp=>some (.int .i64 (.ofNat 0),S)
 | .sl b off len _ _=>
  let n:=bN (Nat.ble m len) m len
  bN (Nat.beq n 0) (some (.int .i64 (.ofNat 0),S)) (aZ (fG s S.h size n) fun cs=>aZ (rZ S b off cs) fun S'=>some (.int .i64 (.ofNat n),S'))
 | _=>none
def aOE(size:Nat)(d s:cL):XF:=fun _ F S=>aZ (mO (s.val F)) fun m=>copyV (d.val F) size m (s.val F) S
def xP(r:Option (Nat×AV))(es:List (AV×AV))(k v:AV):List (AV×AV):=
 match r with
 | some (i,_)=>oO (fun _=>(k,v)) es i
 | none=>wU es [(k,v)]
def pD(m:AV)(sk:sC)(k v:AV)(S:St):Option (AV×St):=
 match m with
 | .map b=>aZ (aZ (S.h.get b) rH) fun es=>aZ (mQ sk k es) fun r=>some (.undef,⟨S.h.set b (some (.map (xP r es k v))),S.nx⟩)
 | _=>none
def aMh(sk:sC)(m k v:cL):XF:=fun _ F S=>pD (m.val F) sk (k.val F) (v.val F) S
def aMg(r:Option (Nat×AV))(es:List (AV×AV))(b:Nat)(S:St):Option (AV×St):=
 match r with
 | some (i,_)=>some (.undef,⟨S.h.set b (some (.map (es.eraseIdx i))),S.nx⟩)
 | none=>some (.undef,S)
def aE4(m:AV)(sk:sC)(k:AV)(S:St):Option (AV×St):=
 match m with
 | .map b=>aZ (aZ (S.h.get b) rH) fun es=>aZ (mQ sk k es) fun r=>aMg r es b S
 | .nilmap=>some (.undef,S)
 | _=>none
def aMe(sk:sC)(m k:cL):XF:=fun _ F S=>aE4 (m.val F) sk (k.val F) S
def aNA(x:AV)(zero:List AV)(S:St):Option (AV×St):=
 match x with
 | .nilsl=>some (.undef,S)
 | .emp=>some (.undef,S)
 | .sl b off n _ _=>bN (Nat.beq n 0) (some (.undef,S)) (aZ (rZ S b off (repeatL zero n)) fun S'=>some (.undef,S'))
 | _=>none
def aQY(zero:List AV)(x:cL):XF:=fun _ F S=>aNA (x.val F) zero S
def aNp(a b c:Nat):AV:=
 .tup [.int .u64 (.ofNat (Nat.mod (Nat.add (Nat.add a b) c) 18446744073709551616)),.int .u64 (.ofNat (Nat.div (Nat.add (Nat.add a b) c) 18446744073709551616))]
def aGx(c:Nat):List Nat→Nat→Int
 | [],_=>.negSucc 0
 | b::bs,i=>bN (Nat.beq b c) (.ofNat i) (aGx c bs (Nat.succ i))
def aNN(k:aKk)(args:List AV):Option AV:=
 match k,args with
 | .add64,[.int .u64 (.ofNat a),.int .u64 (.ofNat b),.int .u64 (.ofNat c)]=>bN (Nat.ble c 1) (some (aNp a b c)) none
 | .idxByte,[.str s,.int .u8 (.ofNat c)]=>bN (Nat.ble c 255) (some (.int .i64 (aGx c s 0))) none
 | _,_=>none
def aQk(k:aKk)(args:List cL):XF:=fun _ F S=>aZ (aNN k (dD args F)) fun v=>some (v,S)
def aQd:XF:=fun _ _ _=>none
def zB(x:XOp):XF:=XOp.rec (motive:=fun _=>XF) xSt aOV aQD aQn aOE aMh aMe aQY aQk aQd x
def isB(v:AV)(w:Bool):Bool:=
 match v with
 | .bool b=>aLf b w
 | _=>false
def cK(d:Option Nat):Fr→AV→Fr:=Option.rec (motive:=fun _=>Fr→AV→Fr) (fun F _=>F) (fun i F v=>F.set i (some v)) d
def eM(g:Option (Nat×Bool)):Fr→Bool:=Option.rec (motive:=fun _=>Fr→Bool) (fun _=>true) (fun p F=>isB (aB p.1 F) p.2) g
abbrev OF:=Option Nat→eQ→Fr→St→Option (Fr×St)
def oQ(q:xL):OF:=fun d _ F S=>aZ (fV q F S.h) fun v=>some (cK d F v,S)
def oA(a:uS):OF:=fun d _ F S=>aZ (uL a F S.nx) fun r=>some (cK d F r.1,⟨S.h.set S.nx (some r.2),Nat.succ S.nx⟩)
def oX(x:XOp):OF:=fun d call F S=>aZ (zB x call F S) fun r=>some (cK d F r.1,r.2)
def oOp(o:AOp):OF:=AOp.rec (motive:=fun _=>OF) oQ oA oX o
def aDL(o:AO)(call:eQ)(F:Fr)(S:St):Option (Fr×St):=
 bN (eM o.grd F) (oOp o.op o.dst call F S) (some (cK o.dst F .undef,S))
def uO(l:List AO):eQ→Fr→St→Option (Fr×St):=
 List.rec (motive:=fun _=>eQ→Fr→St→Option (Fr×St)) (fun _ F S=>some (F,S)) (fun o _ ih call F S=>aZ (aDL o call F S) fun r=>ih call r.1 r.2) l
structure iJ where
 i:Nat
 id:Nat
 b:AB
def cF(mask:Nat):List iJ→T AB→List iJ×T AB
 | [],h=>([],h)
 | p::ps,h=>bN (Nat.testBit mask p.i) (cF mask ps (h.set p.id (some p.b))) (p::(cF mask ps h).1,(cF mask ps h).2)
structure lS where
 q:xL
 F:Fr
 v:AV
 i:Nat
 mask:Nat
def dI(q:xL):Bool:=
 match q with
 | .ld .. | .lookup .. | .lenMap .. =>true
 | .conv .bytesToStr _=>true
 | _=>false
structure DS where
 F:Fr
 S:St
 ps:List iJ
 hs:List (Nat×Nat×T AB)
 ls:List lS
abbrev DF:=AO→Nat→Nat→eQ→DS→Option DS
def dQ(q:xL):DF:=fun o i _ _ D=>aZ (fV q D.F D.S.h) fun v=>
 some ⟨cK o.dst D.F v,D.S,D.ps,D.hs,bN (dI q) (⟨q,D.F,v,i,o.mask⟩::D.ls) D.ls⟩
def dA(a:uS):DF:=fun o i base _ D=>aZ (uL a D.F (base+i)) fun r=>
 some ⟨cK o.dst D.F r.1,D.S,⟨i,base+i,r.2⟩::D.ps,D.hs,D.ls⟩
def iY(hs:List (Nat×Nat×T AB))(mask:Nat):Bool:=
 match hs with
 | []=>true
 | e::_=>Nat.testBit mask e.1
def dX(x:XOp):DF:=fun o i _ call D=>
 bN (iY D.hs o.mask) (aZ (zB x call D.F ⟨(cF o.mask D.ps D.S.h).2,D.S.nx⟩) fun r=>
  some ⟨cK o.dst D.F r.1,r.2,(cF o.mask D.ps D.S.h).1,(i,o.mask,r.2.h)::D.hs,D.ls⟩) none
def dOp(o:AOp):DF:=AOp.rec (motive:=fun _=>DF) dQ dA dX o
def rT(o:AO)(i base:Nat)(call:eQ)(D:DS):Option DS:=
 bN (eM o.grd D.F) (dOp o.op o i base call D) (some ⟨cK o.dst D.F .undef,D.S,D.ps,D.hs,D.ls⟩)
def uQ:List AO→Nat→Nat→eQ→DS→Option DS
 | [],_,_,_,D=>some D
 | o::os,i,base,call,D=>aZ (rT o i base call D) fun D'=>uQ os (i+1) base call D'
mutual
def cC:AV→AV→Bool
 | .bool a,.bool b=>aLf a b
 | .int k a,.int j b=>bN (keq k j) (ieq a b) false
 | .str a,.str b=>mY a b
 | .ptr a b,.ptr c d=>bN (Nat.beq a c) (Nat.beq b d) false
 | .nilp,.nilp=>true
 | .sl a b c d e,.sl a' b' c' d' e'=>Nat.beq a a' && Nat.beq b b' && Nat.beq c c' && Nat.beq d d' && aLf e e'
 | .nilsl,.nilsl=>true
 | .emp,.emp=>true
 | .map a,.map b=>Nat.beq a b
 | .nilmap,.nilmap=>true
 | .fn f a b,.fn g c d=>Nat.beq f g && kB a c && kB b d
 | .nilfn,.nilfn=>true
 | .yld a,.yld b=>Nat.beq a b
 | .iface t v,.iface u w=>Nat.beq t u && cC v w
 | .niliface,.niliface=>true
 | .agg a,.agg b=>kB a b
 | .tup a,.tup b=>kB a b
 | _,_=>false
def kB:List AV→List AV→Bool
 | [],[]=>true
 | a::x,b::y=>bN (cC a b) (kB x y) false
 | _,_=>false
end
def oW(v:AV)(r:Option AV):Bool:=
 match r with
 | some w=>cC w v
 | none=>false
def eI(l:lS):List (Nat×Nat×T AB)→T AB→Bool
 | [],h=>oW l.v (fV l.q l.F h)
 | (i,m,h')::r,h=>
  bN (Nat.testBit l.mask i) (eI l r h')
   (bN (oW l.v (fV l.q l.F h)) (bN (Nat.testBit m l.i) true (eI l r h')) false)
def fN(h0:T AB)(hs:List (Nat×Nat×T AB)):List lS→Bool
 | []=>true
 | l::ls=>bN (eI l hs h0) (fN h0 hs ls) false
def zQ(h0:T AB)(n:Nat)(D:DS):Option (Fr×St):=
 bN (fN h0 D.hs.reverse D.ls) (some (D.F,⟨(cF (2 ^ n - 1) D.ps D.S.h).2,D.S.nx⟩)) none
def wI(ops:List AO)(call:eQ)(F:Fr)(S:St):Option (Fr×St):=
 aZ (uQ ops 0 S.nx call ⟨F,⟨S.h,S.nx+lI ops⟩,[],[],[]⟩) fun D=>zQ S.h (lI ops) D
structure Evs where
 code:AC→bH→St→Option (Out×bH×St)
 call:eQ
abbrev CF:=Evs→bH→St→Option (Out×bH×St)
def mF:List Nat→List AV→Fr→Option Fr
 | [],[],F=>some F
 | p::ps,v::vs,F=>mF ps vs (F.set p (some v))
 | _,_,_=>none
def rR:List AV→Nat→Fr→Fr
 | [],_,F=>F
 | v::vs,i,F=>rR vs (i+1) (F.set i (some v))
def aIT(o:Option Out):Option AC:=
 match o with
 | none=>some .skip
 | some .ret=>some .ret
 | some (.exit id)=>some (.exit id)
 | some .normal=>none
def aPP:CF:=fun _ A S=>some (.normal,A,S)
def tC(b:AC)(ih:Evs)(r:Out×bH×St):Option (Out×bH×St):=
 match r.1 with
 | .normal=>ih.code b r.2.1 r.2.2
 | _=>some r
def aQx(a b:AC):CF:=fun ih A S=>aZ (ih.code a A S) (tC b ih)
def aBi(v:AV)(a b:AC):CF:=fun ih A S=>
 match v with
 | .bool t=>ih.code (bN t a b) A S
 | _=>none
def aO0(c:cL)(a b:AC):CF:=fun ih A S=>aBi (c.val A.F) a b ih A S
def rN(id:Nat)(r:Out×bH×St):Option (Out×bH×St):=
 match r.1 with
 | .exit i=>bN (Nat.beq i id) (some (.normal,r.2)) (some r)
 | _=>some r
def aNm(id:Nat)(c:AC):CF:=fun ih A S=>aZ (ih.code c A S) (rN id)
def aPM(c:AC):CF:=fun ih A S=>aZ (ih.code c A S) (tC (.loop c) ih)
def aOv(id:Nat):CF:=fun _ A S=>some (.exit id,A,S)
def aQV:CF:=fun _ A S=>some (.ret,A,S)
def aQe(ops:List AO):CF:=fun ih A S=>aZ (uO ops ih.call A.F S) fun r=>some (.normal,⟨r.1,A.inr⟩,r.2)
def aQw(_:List AO)(_:cL)(_:List cL):CF:=fun _ _ _=>none
def aQE(ops:List AO):CF:=fun ih A S=>aZ (wI ops ih.call A.F S) fun r=>some (.normal,⟨r.1,A.inr⟩,r.2)
def aAW(bl:AB)(l:Nat)(A:bH)(S2:St)(ih:Evs):Option (Out×bH×St):=
 match bl with
 | .loop st pend fr ps as bd=>
  match st with
  | .busy=>none
  | _=>aZ (aIT pend) fun c=>ih.code c A ⟨S2.h.set l (some (.loop .exhausted pend fr ps as bd)),S2.nx⟩
 | _=>none
def aKZ(v:AV):Bool:=
 match v with
 | .fn .. =>true
 | _=>false
def aLW(f:cL)(params:List Nat)(assign body:AC):CF:=fun ih A S=>
 bN A.inr none (bN (aKZ (f.val A.F))
  (aZ (ih.call (f.val A.F) [.yld S.nx] ⟨S.h.set S.nx (some (.loop .ready none A.F params assign body)),Nat.succ S.nx⟩) fun r=>
   aZ (r.2.h.get S.nx) fun bl=>aAW bl S.nx A r.2 ih) none)
def aHo(c:AC):CF:=
 AC.rec (motive:=fun _=>CF) aPP (fun a b _ _=>aQx a b) (fun c a b _ _=>aO0 c a b) (fun id c _=>aNm id c) (fun c _=>aPM c) aOv aQV aQe aQE (fun f ps as bd _ _=>aLW f ps as bd) aQw c
def aPe(v:AV)(agg:Bool)(n:Nat)(h:T AB):Option AV:=
 match v with
 | .ptr b off=>mW agg n h b off
 | _=>none
def results:List RV→Fr→T AB→Option (List AV)
 | [],_,_=>some []
 | .t i::rs,F,h=>aZ (results rs F h) fun vs=>some (aB i F::vs)
 | .cell a agg n::rs,F,h=>aZ (aPe (aB a F) agg n h) fun v=>aZ (results rs F h) fun vs=>some (v::vs)
def oneOf(vs:List AV):AV:=
 match vs with
 | [v]=>v
 | vs=>.tup vs
def aEz(fn:eG)(r:Out×bH×St):Option (AV×St):=
 match r.1 with
 | .exit _=>none
 | _=>aZ (results fn.res r.2.1.F r.2.2.h) fun vs=>some (oneOf vs,r.2.2)
def vL(fn:eG)(args:List AV)(ih:Evs)(S:St):Option (AV×St):=
 bN (Nat.ble (lI args) fn.ntmps) (aZ (ih.code fn.body ⟨rR args 0 .e,false⟩ S) (aEz fn)) none
def sJ(bl:AB)(o:Out)(l:Nat)(S2:St):Option (AV×St):=
 match bl with
 | .loop .busy _ fr ps as bd=>
  match o with
  | .normal=>some (.bool true,⟨S2.h.set l (some (.loop .ready none fr ps as bd)),S2.nx⟩)
  | o=>some (.bool false,⟨S2.h.set l (some (.loop .done (some o) fr ps as bd)),S2.nx⟩)
 | _=>none
def aII(l:Nat)(bd:AC)(ih:Evs)(A:bH)(S:St):Option (AV×St):=
 aZ (ih.code bd A S) fun r=>aZ (r.2.2.h.get l) fun bl=>sJ bl r.1 l r.2.2
def qN(bl:AB)(l:Nat)(bd:AC)(ih:Evs)(A:bH)(S1:St):Option (AV×St):=
 match bl with
 | .loop .ready pend fr ps as bd'=>aII l bd ih A ⟨S1.h.set l (some (.loop .busy pend fr ps as bd')),S1.nx⟩
 | _=>none
def aB3(l:Nat)(bd:AC)(ih:Evs)(r:Out×bH×St):Option (AV×St):=
 match r.1 with
 | .normal=>aZ (r.2.2.h.get l) fun bl=>qN bl l bd ih r.2.1 r.2.2
 | _=>none
def yR(bl:AB)(l:Nat)(args:List AV)(ih:Evs)(S:St):Option (AV×St):=
 match bl with
 | .loop .ready _ fr ps as bd=>aZ (mF ps args fr) fun F=>aZ (ih.code as ⟨F,true⟩ S) (aB3 l bd ih)
 | _=>none
def vT(fns:T eG)(ih:Evs)(f:AV)(args:List AV)(S:St):Option (AV×St):=
 match f with
 | .fn id first cap=>aZ (fns.get id) fun fn=>vL fn (wU first (wU args cap)) ih S
 | .yld l=>aZ (S.h.get l) fun bl=>yR bl l args ih S
 | _=>none
def aNx(_:AC)(_:bH)(_:St):Option (Out×bH×St):=none
def aM2(_:AV)(_:List AV)(_:St):Option (AV×St):=none
def ev(fns:T eG)(n:Nat):Evs:=
 Nat.rec (motive:=fun _=>Evs) ⟨aNx,aM2⟩ (fun _ ih=>⟨fun c=>aHo c ih,vT fns ih⟩) n
end
end Go.Ev
namespace Go.Ev
noncomputable section
def aKc(v:Value):Bool:=
 match v with
 | .agg _=>false
 | .tuple _=>false
 | _=>true
mutual
def ofValue:Value→Option AV
 | .bool b=>some (.bool b)
 | .int k n=>some (.int k n)
 | .string s=>some (.str (s.data.toList.map UInt8.toNat))
 | .pointer none=>some .nilp
 | .slice none 0 0=>some .nilsl
 | .map none=>some .nilmap
 | .nilFunc=>some .nilfn
 | .nilIface=>some .niliface
 | .func (.func f) ⟨a⟩ ⟨b⟩=>match ofValues a,ofValues b with
  | some a,some b=>some (.fn f a b)
  | _,_=>none
 | .iface t v=>(ofValue v).map (.iface t)
 | .agg ⟨cs⟩=>bif cs.all aKc then(ofValues cs).map .agg else none
 | .tuple ⟨cs⟩=>(ofValues cs).map .tup
 | _=>none
def ofValues:List Value→Option (List AV)
 | []=>some []
 | v::vs=>match ofValue v,ofValues vs with
  | some a,some as=>some (a::as)
  | _,_=>none
end
variable (P:Program)
def gI:Operand→Option cL
 | .tmp t=>some (.t t)
 | .const v=>(ofValue v).map .c
 | .global g=>bif Nat.blt g P.globals.size then some (.c (.ptr g 0)) else none
 | .func f=>some (.c (.fn f [] []))
def zI:List Operand→Option (List cL)
 | []=>some []
 | x::xs=>match gI P x,zI xs with
  | some a,some as=>some (a::as)
  | _,_=>none
def mU:Option Operand→Option (Option cL)
 | none=>some none
 | some x=>(gI P x).map some
def aBP(t:TypeId):Option (Bool×Nat):=
 match P.underlying t,P.info? t with
 | some (.struct _),some i=>some (true,i.size)
 | some (.array _ _),some i=>some (true,i.size)
 | some _,some i=>some (false,i.size)
 | _,_=>none
def aF1(t:TypeId):Option AV:=
 match P.info? t with
 | some i=>match i.zero with
  | some v=>ofValue v
  | none=>none
 | none=>none
def eqP(t:TypeId):EqP:=
 match P.underlying t with
 | some .bool=>.bool
 | some (.int _)=>.int
 | some .string=>.str
 | some (.pointer _)=>.ptr
 | some (.slice _)=>.slice
 | some (.map _ _)=>.map
 | some (.func ..)=>.func
 | some (.interface _)=>.iface
 | _=>.no
def eqFields:List Field→List (Nat×EqP)
 | []=>[]
 | f::fs=>bif f.name== "_" then eqFields fs else(f.offset,eqP P f.type)::eqFields fs
def eqT(t:TypeId):sC:=
 match P.underlying t with
 | some (.struct fs)=>bif P.stoodInHeld t || P.eqGuardType P.depth t then .p .no else .struct (eqFields P fs.toList)
 | some (.array n e)=>bif P.eqGuardType P.depth t || n>64 || P.cellsOf e !=1 then .p .no else .struct ((List.range n).map fun i=>(i,eqP P e))
 | _=>.p (eqP P t)
def vO(place:Nat→Option (Nat×Nat)):List (Nat×Operand)→Option (List (Nat×Nat×cL))
 | []=>some []
 | (i,x)::ps=>match place i,gI P x,vO place ps with
  | some (off,n),some x,some ps=>some ((off,n,x)::ps)
  | _,_,_=>none
def placeOf(fs:Array Field)(i:Nat):Option (Nat×Nat):=
 match fs[i]? with
 | some f=>match P.info? f.type with
  | some s=>some (f.offset,s.size)
  | none=>none
 | none=>none
def oP:List Field→Bool
 | []=>true
 | f::fs=>(P.info? f.type).isSome && oP fs
def wO:List (Nat×Operand)→Option (List (Nat×cL))
 | []=>some []
 | (i,x)::ps=>match gI P x,wO ps with
  | some x,some ps=>some ((i,x)::ps)
  | _,_=>none
def qW(t:TypeId):Option (TypeId×TypeInfo):=
 match P.underlying t with
 | some (.slice e)=>(P.info? e).map fun i=>(e,i)
 | _=>none
def iZ(t:TypeId):Option (List AV):=(aF1 P t).bind AV.cells
def mB(e:TypeId)(i:TypeInfo):Option (List AV):=
 match iZ P e with
 | some z=>bif Nat.beq z.length i.size then some z else none
 | none=>none
def aLw(u:TypeId)(i:TypeInfo):Bool:=
 match P.underlying u with
 | some (.slice _)=>true
 | some .string=>Nat.beq i.size 1
 | _=>false
def aIK(name:String)(t:TypeId)(i:TypeInfo):Option (Nat×Nat×Option (Bool×Nat)):=
 match i.methods.find? (·.name==name) with
 | some m=>bif !m.path.isEmpty then none else match m.func with
  | none=>none
  | some (f,ptr)=>match P.underlying t,ptr with
   | some (.pointer _),true=>some (t,f,none)
   | some (.pointer e),false=>(aBP P e).map fun a=>(t,f,some a)
   | some (.interface _),_=>none
   | some _,false=>some (t,f,none)
   | _,_=>none
 | none=>none
def uT(name:String):List TypeInfo→Nat→List (Nat×Nat×Option (Bool×Nat))
 | [],_=>[]
 | i::is,t=>match aIK P name t i with
  | some r=>r::uT name is (t+1)
  | none=>uT name is (t+1)
def plainKey:EqP→Bool
 | .int | .str | .bool=>true
 | _=>false
def aAv:Nat→List (Nat×EqP)→Bool
 | _,[]=>true
 | i,(o,e)::l=>Nat.beq o i && (plainKey e && aAv (i+1) l)
def aAL(t:TypeId):Option sC:=
 match P.underlying t with
 | some .string=>some (.p .str)
 | some (.int _)=>some (.p .int)
 | some (.struct fs)=>match eqT P t with
  | .struct l=>bif fs.all (fun f=>plainKey (eqP P f.type)) && aAv 0 l then some (.struct l) else none
  | _=>none
 | some (.array _ e)=>match eqT P t with
  | .struct l=>bif plainKey (eqP P e) && aAv 0 l then some (.struct l) else none
  | _=>none
 | _=>none
def aLD(s:String):Option aKk:=
 bif s== "math/bits.Add64" then some .add64
 else bif s== "internal/bytealg.IndexByteString" then some .idxByte
 else none
def aPz(f:Operand):Option aKk:=
 match f with
 | .func f=>match P.funcs[f]? with
  | some fn=>bif fn.body.isNone && (Extern.allNextRows.lookup fn.origin).isNone then aLD fn.name else none
  | none=>none
 | _=>none
def q(o:Option xL):Option AOp:=o.map .q
def al(o:Option uS):Option AOp:=o.map .a
def xx(o:Option XOp):Option AOp:=o.map .x
def tH(o:Op):Option AOp:=
 match o with
 | .move x | .assign x=>q do some (.mv (←gI P x))
 | .pick c a b=>q do some (.pick (←gI P c) (←gI P a) (←gI P b))
 | .alloc t=>al do some (.alloc t (←iZ P t))
 | .box t x=>al do some (.box t (←gI P x))
 | .build t ps=>
  match P.underlying t with
  | some (.struct fs)=>bif oP P fs.toList then q do some (.build (←iZ P t) (←vO P (placeOf P fs) ps.toList)) else none
  | some (.array _ e)=>q do let s ←P.info? e;some (.build (←iZ P t) (←vO P (fun i=>some (i * s.size,s.size)) ps.toList))
  | _=>none
 | .buildSlice t len ps=>al do
  let (e,i) ←qW P t
  if len * i.size>65536 then none
  some (.bslice e i.size len (←mB P e i) (←wO P ps.toList))
 | .load t a=>q do let (agg,n) ←aBP P t;some (.ld agg n (←gI P a))
 | .store t a v=>xx do let (_,n) ←aBP P t;some (.st n (←gI P a) (←gI P v))
 | .nilCheck x=>q do some (.nilchk (←gI P x))
 | .binOp op t x y _=>q do some (.bin op (eqT P t) (←gI P x) (←gI P y))
 | .unOp op _ x=>q do some (.un op (←gI P x))
 | .makeInterface t x=>match P.underlying t with
  | some (.interface _)=>none
  | some _=>q do some (.mkIface t (←gI P x))
  | none=>none
 | .makeFunc (.func f) a b=>q do some (.mkFunc f (←zI P a.toList) (←zI P b.toList))
 | .makeMap _ none=>al (some .mkMap)
 | .makeSlice t l c=>al do let (e,i) ←qW P t;some (.mkSlice e i.size i.bytes (←mB P e i) (←gI P l) (←gI P c))
 | .slice t x lo hi mx=>bif mx.isSome && hi.isNone then none else
  match P.underlying t with
  | some (.slice e)=>q do let i ←P.info? e;some (.slc (.slice i.size) (←gI P x) (←mU P lo) (←mU P hi) (←mU P mx))
  | some (.array n e)=>q do let i ←P.info? e;some (.slc (.arr n i.size) (←gI P x) (←mU P lo) (←mU P hi) (←mU P mx))
  | _=>none
 | .fieldAddr t x f=>match P.underlying t with
  | some (.struct fs)=>q do
   let f ←fs[f]?
   let i ←P.info? f.type
   if i.size=0 then none
   some (.faddr f.offset (←gI P x))
  | _=>none
 | .field t x f=>match P.underlying t with
  | some (.struct fs)=>q do
   let f ←fs[f]?
   let (agg,n) ←aBP P f.type
   some (.fld agg f.offset n (←gI P x))
  | _=>none
 | .indexAddr t x ix=>match P.underlying t with
  | some (.slice e)=>q do let i ←P.info? e;some (.iaddr (.slice i.size) (←gI P x) (←gI P ix))
  | some (.array n e)=>q do let i ←P.info? e;some (.iaddr (.arr n i.size) (←gI P x) (←gI P ix))
  | _=>none
 | .lookup t m k ok=>match P.underlying t with
  | some (.map kt et)=>q do some (.lookup (←aAL P kt) (←aF1 P et) ok (←gI P m) (←gI P k))
  | _=>none
 | .mapUpdate t m k v | .insert t m k v=>match P.underlying t with
  | some (.map kt _)=>xx do some (.mapUpd (←aAL P kt) (←gI P m) (←gI P k) (←gI P v))
  | _=>none
 | .extract x i=>q do some (.extract (←gI P x) i)
 | .call {callee:=.value f,args,.. }=>match aPz P f with
  | some _=>none
  | none=>xx do some (.call (←gI P f) (←zI P args.toList))
 | .call {callee:=.builtin b,args,argTypes}=>
  match b,args.toList,argTypes.toList with
  | .len,[x],[t]=>match P.underlying t with
   | some (.slice _)=>q do some (.lenSl (←gI P x))
   | _=>none
  | .max,xs,_=>q do some (.minmax true (←zI P xs))
  | .min,xs,_=>q do some (.minmax false (←zI P xs))
  | .append,[s,x],[t,u]=>match qW P t with
   | some (e,i)=>bif aLw P u i && (mB P e i).isSome then xx do some (.app e i.size i.bytes (←gI P s) (←gI P x)) else none
   | none=>none
  | _,_,_=>none
 | _=>none
def aAs(ops:Array Oper):Option (Nat×Bool)→Option (Option (Nat×Bool))
 | none=>some none
 | some (j,w)=>match (ops[j]?).bind (·.dst) with
  | some d=>some (some (d,w))
  | none=>none
def xH(nt:Nat):Option Tmp→Bool
 | some d=>Nat.blt d nt
 | none=>true
def aIA(nt:Nat)(ops:Array Oper)(o:Oper)(mask:Nat):Option AO:=
 bif xH nt o.dst then
  match aAs ops o.guard with
  | some g=>match tH P o.op with
   | some op=>some ⟨o.dst,op,g,mask⟩
   | none=>some ⟨o.dst,.x .bad,g,mask⟩
  | none=>none
 else none
def tW(nt:Nat)(ops:Array Oper):List Oper→List Nat→Option (List AO)
 | [],_=>some []
 | o::os,ms=>match aIA P nt ops o (ms.headD 0),tW nt ops os ms.tail with
  | some a,some as=>some (a::as)
  | _,_=>none
def cL.rd(x:cL):List Nat:=
 match x with
 | .t i=>[i]
 | .c _=>[]
def rds:List cL→List Nat
 | []=>[]
 | x::xs=>x.rd++rds xs
def rdo(x:Option cL):List Nat:=
 match x with
 | some x=>x.rd
 | none=>[]
def rdp:List (Nat×Nat×cL)→List Nat
 | []=>[]
 | (_,_,x)::ps=>x.rd++rdp ps
def aNQ:List (Nat×cL)→List Nat
 | []=>[]
 | (_,x)::ps=>x.rd++aNQ ps
def xL.rd(o:xL):List Nat:=
 match o with
 | .mv x | .ld _ _ x | .nilchk x | .un _ x | .conv _ x | .mkIface _ x | .faddr _ x | .fld _ _ _ x | .tassert _ _ _ x | .extract x _ | .lenStr x | .lenSl x | .lenMap x | .capSl x | .mkMeth _ _ x=>x.rd
 | .pick c a b=>c.rd++(a.rd++b.rd)
 | .build _ ps=>rdp ps
 | .bin _ _ x y | .iaddr _ x y | .idxArr _ _ _ x y | .idxStr x y | .lookup _ _ _ x y=>x.rd++y.rd
 | .mkFunc _ a b=>rds a++rds b
 | .slc _ x lo hi mx=>x.rd++(rdo lo++(rdo hi++rdo mx))
 | .lenArr _=>[]
 | .minmax _ xs=>rds xs
def uS.rd(o:uS):List Nat:=
 match o with
 | .alloc _ _ | .mkMap=>[]
 | .box _ x | .strBytes _ x=>x.rd
 | .bslice _ _ _ _ ps=>aNQ ps
 | .mkSlice _ _ _ _ l c=>l.rd++c.rd
def XOp.rd(o:XOp):List Nat:=
 match o with
 | .st _ x v=>x.rd++v.rd
 | .call f args | .inv _ f args=>f.rd++rds args
 | .app _ _ _ s x | .copy _ s x | .mapDel _ s x=>s.rd++x.rd
 | .mapUpd _ m k v=>m.rd++(k.rd++v.rd)
 | .clr _ x=>x.rd
 | .ext _ args=>rds args
 | .bad=>[]
def AOp.rd(o:AOp):List Nat:=
 match o with
 | .q o=>o.rd
 | .a o=>o.rd
 | .x o=>o.rd
def AO.touch(o:AO):List Nat:=o.dst.toList++((o.grd.map (·.1)).toList++o.op.rd)
def inL(t:Nat):List Nat→Bool
 | []=>false
 | u::l=>bif Nat.beq t u then true else inL t l
def meets(d:Option Nat)(b:List Nat):Bool:=
 match d with
 | some d=>inL d b
 | none=>false
def aFb(i:Nat)(d:Option Nat)(tch:List Nat):List AO→Bool
 | []=>true
 | b::l=>(bif meets d b.touch || meets b.dst tch then Nat.testBit b.mask i else true) && aFb i d tch l
def aH6:Nat→List AO→Bool
 | _,[]=>true
 | i,a::l=>aFb i a.dst a.touch l && aH6 (i+1) l
def aPr(l:List AO):Bool:=aH6 0 l
def aBZ:Nat→List Oper→Bool
 | _,[]=>true
 | i,o::l=>o.after.all (fun e=> !Region.binds .any e || Nat.blt e.on i) && aBZ (i+1) l
def aCh(nt:Nat)(ops:Array Oper):Option AC:=
 match tW P nt ops ops.toList (CheckFast.beforeL ops.toList 0 []) with
 | some aos=>bif aBZ 0 ops.toList && aPr aos then some (.drw aos) else none
 | none=>none
def iS(nt:Nat):Code→Option AC
 | .skip=>some .skip
 | .seq a b=>match iS nt a,iS nt b with
  | some a,some b=>some (.seq a b)
  | _,_=>none
 | .cond c a b=>match gI P c,iS nt a,iS nt b with
  | some c,some a,some b=>some (.cond c a b)
  | _,_,_=>none
 | .block id c=>(iS nt c).map (.block id)
 | .loop c=>(iS nt c).map .loop
 | .exit id=>some (.exit id)
 | .ret=>some .ret
 | .region _ ops d=>bif d then aCh P nt ops else(tW P nt ops ops.toList []).map .reg
 | .rangeFunc f ps as bd=>bif ps.toList.all (fun p=>Nat.blt p nt) then match gI P f,iS nt as,iS nt bd with
  | some f,some as,some bd=>some (.rng f ps.toList as bd)
  | _,_,_=>none
  else none
 | _=>none
def aFu:List ResultVar→Option (List RV)
 | []=>some []
 | .tmp t::rs=>(aFu rs).map (.t t:: ·)
 | .cell a t::rs=>match aBP P t,aFu rs with
  | some (agg,n),some rs=>some (.cell a agg n::rs)
  | _,_=>none
def cFn(fn:Func):Option eG:=
 bif fn.name== "runtime.NumGoroutine" then none else
 match fn.body with
 | some c=>match iS P fn.ntmps c,aFu P fn.results.toList with
  | some c,some rs=>some ⟨fn.ntmps,rs,c⟩
  | _,_=>none
 | none=>none
end
end Go.Ev
