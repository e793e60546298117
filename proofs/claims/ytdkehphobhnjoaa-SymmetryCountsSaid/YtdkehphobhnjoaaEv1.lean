import GoSem.Dispatch
import Derived.CheckFast
namespace Go.Ev
theorem bh.{u}{A:Type u}{P:A->Prop}{a:A}{l:List A}(h:P a)(t:∀x∈l,P x):∀x∈a::l,P x:=List.forall_mem_cons.2 ⟨h,t⟩
end Go.Ev
namespace Go.Ev
theorem ay{p:Prop}(h:p:=by omega):p:=h
theorem az{p q:Prop}(a:q)(h:q->p:=by intro a;omega):p:=h a
theorem bg{p:Prop}(h:p:=by decide):p:=h
end Go.Ev
namespace Go.Ev
abbrev Aa:=@decide_eq_false
abbrev Ab:=@decide_eq_true
abbrev Ac.{u}:=@List.getElem?_eq_getElem.{u}
abbrev Ad.{u}:=@List.getD_eq_getElem?_getD.{u}
abbrev Ae:=@Nat.lt_of_lt_of_le
abbrev Af.{u}:=@List.forall_mem_cons.{u}
abbrev Ag:=@Nat.le_refl
abbrev Ah:=@Int.ofNat_eq_natCast
abbrev Ai.{u}:=@List.length_append.{u}
abbrev Aj.{u}:=@List.getElem?_eq_some_iff.{u}
abbrev Ak:=@Nat.ble_eq_true_of_le
abbrev Al.{u}:=@List.getElem?_append_left.{u}
abbrev Am.{u}:=@List.getElem?_append_right.{u}
abbrev An:=@Nat.zero_add
abbrev Ao.{u}:=@Option.some.injEq.{u}
abbrev Ap:=@not_false_eq_true
abbrev Aq.{u}:=@List.length_replicate.{u}
abbrev Ar.{u}:=@List.length_set.{u}
abbrev Au:=@Nat.le_trans
abbrev Av.{u}:=@List.length_singleton.{u}
abbrev Aw.{u}:=@List.length_cons.{u}
abbrev Ax:=@Int.toNat_natCast
abbrev Ay.{u,v}:=@List.length_map.{u,v}
abbrev Az.{u,v}:=@Option.map_eq_some_iff.{u,v}
abbrev Ba:=@Nat.le_of_ble_eq_true
abbrev Bb.{u}:=@List.take_of_length_le.{u}
abbrev Bc.{u,v}:=@List.getElem?_map.{u,v}
abbrev Bd.{u}:=@List.append_assoc.{u}
abbrev Be:=@Bool.false_eq_true
abbrev Bf.{u}:=@List.mem_append.{u}
abbrev Bg:=@Nat.beq_eq
abbrev Bh:=@Nat.add_zero
abbrev Bi.{u}:=@List.append_nil.{u}
abbrev Bj.{u}:=@List.mem_cons_of_mem.{u}
abbrev Bk:=@Nat.eq_zero_or_pos
abbrev Bl.{u}:=@Option.some.inj.{u}
abbrev Bm.{u}:=@List.mem_cons.{u}
abbrev Bn.{u}:=@Bool.cond_eq_ite.{u}
abbrev Bo.{u}:=@List.getElem_mem.{u}
abbrev Bp.{u}:=@List.length_take.{u}
abbrev Bq.{u}:=@List.nil_append.{u}
abbrev Br.{u}:=@List.mem_cons_self.{u}
abbrev Bs.{u}:=@Array.getD_eq_getD_getElem?.{u}
abbrev Bt:=@Bool.not_true
abbrev Bu.{u}:=@List.mem_of_getElem?.{u}
abbrev Bv.{u}:=@List.length_eq_zero_iff.{u}
abbrev Bw.{u}:=@List.take_zero.{u}
abbrev Bx.{u}:=@List.take_add_one.{u}
abbrev Bz.{u}:=@List.getElem?_eq_none.{u}
abbrev Ca.{u}:=@List.take_succ_cons.{u}
abbrev Cb:=@Bool.not_false
abbrev Cc:=@Nat.le_add_right
abbrev Cd:=@Nat.lt_or_ge
abbrev Ce.{u}:=@List.mem_singleton.{u}
abbrev Cf:=@Nat.not_lt_zero
abbrev Cg.{u}:=@List.drop_eq_getElem_cons.{u}
abbrev Ch:=@Bool.eq_false_iff
abbrev Ci.{u}:=@List.length_nil.{u}
abbrev Cj:=@Nat.mul_le_mul_right
abbrev Ck.{u}:=@List.cons_append.{u}
abbrev Cl.{u}:=@List.getElem?_replicate.{u}
abbrev Cm:=@Nat.succ_mul
abbrev Cn:=@Bool.and_eq_true
abbrev Co.{u,v}:=@Option.bind_eq_some_iff.{u,v}
abbrev Cp:=@Nat.eq_of_beq_eq_true
abbrev Cq:=@decide_eq_true_iff
abbrev Cr:=@Bool.eq_iff_iff
abbrev Ct.{u}:=@List.drop_of_length_le.{u}
abbrev Cu.{u}:=@Array.length_toList.{u}
abbrev Cv.{u}:=@List.mem_iff_getElem.{u}
abbrev Cw.{u}:=@List.reverse_cons.{u}
abbrev Cx.{u}:=@Ne.symm.{u}
abbrev Cy:=@Nat.zero_mul
abbrev Cz.{u}:=@List.getElem?_cons_succ.{u}
abbrev Da:=@Nat.zero_le
abbrev Db:=@Nat.add_assoc
abbrev Dc:=@List.getElem?_range
abbrev Dd.{u,v}:=@List.map_append.{u,v}
abbrev De.{u}:=@List.length_drop.{u}
abbrev Dg:=@not_true_eq_false
abbrev Dh.{u}:=@List.mem_append_left.{u}
abbrev Di.{u}:=@List.drop_zero.{u}
abbrev Dj.{u}:=@Array.getElem?_toList.{u}
abbrev Dk.{u}:=@List.mem_append_right.{u}
abbrev Dl.{u,v}:=@List.mem_map.{u,v}
abbrev Dm:=@Nat.mul_one
abbrev Dn:=@Nat.sub_self
abbrev Dp.{u}:=@List.all_eq_true.{u}
abbrev Dq.{u}:=@List.take_append_drop.{u}
abbrev Dr:=@List.length_range
abbrev Dt:=@Nat.lt_trichotomy
abbrev Du.{u}:=@List.getElem?_set.{u}
abbrev Dv.{u,v}:=@List.map_cons.{u,v}
abbrev Dw.{u}:=@List.pairwise_iff_getElem.{u}
abbrev Dx:=@Int.toNat_of_nonneg
abbrev Dy.{u}:=@List.singleton_append.{u}
abbrev Dz.{u}:=@List.pairwise_cons.{u}
abbrev Ea:=@Nat.lt_succ_self
abbrev Eb.{u}:=@List.mem_of_mem_take.{u}
abbrev Ec:=@Nat.add_mul
abbrev Ed.{u}:=@Array.toList_setIfInBounds.{u}
abbrev Ee:=@Decidable.not_not
abbrev Ef:=@of_decide_eq_true
abbrev Eg.{u}:=@Array.getElem?_eq_getElem.{u}
abbrev Eh.{u}:=@if_false.{u}
abbrev Ei:=@Nat.lt_of_le_of_lt
abbrev Ej.{u}:=@if_true.{u}
abbrev Ek.{u}:=@List.getElem?_take_of_lt.{u}
abbrev Em.{u}:=@List.getElem?_append.{u}
abbrev En.{u}:=@List.take_append_of_le_length.{u}
abbrev Eo:=@Bool.false_and
abbrev Ep:=@Nat.add_sub_cancel_left
abbrev Er.{u,v}:=@List.flatMap_cons.{u,v}
abbrev Es:=@Bool.or_eq_true
abbrev Et.{u,v}:=@List.map_congr_left.{u,v}
abbrev Eu:=@Nat.sub_zero
abbrev Ew:=@Bool.true_and
abbrev Ex.{u,v}:=@Array.toList_map.{u,v}
abbrev Ey.{u}:=@List.take_length.{u}
abbrev Ez:=@Nat.add_sub_cancel
abbrev Fa.{u}:=@List.getElem?_drop.{u}
abbrev Fb:=@List.mem_range
abbrev Fc:=@Nat.mul_le_mul
abbrev Fd.{u,v}:=@Option.map_some.{u,v}
abbrev Fe.{u}:=@List.mem_of_mem_drop.{u}
abbrev Ff.{u}:=@List.ext_getElem.{u}
abbrev Fg.{u}:=@List.reverse_nil.{u}
abbrev Fi:=@Nat.one_mul
abbrev Fj.{u,v,w}:=@List.map_map.{u,v,w}
abbrev Fk:=@Nat.beq_refl
abbrev Fm:=@Nat.two_pow_pos
abbrev Fp:=@Nat.ble_eq
abbrev Fq:=@Nat.add_comm
abbrev Ft.{u}:=@Array.ext'.{u}
noncomputable section
inductive T(α:Type) where
 | e:T α
 | n (l:T α) (v:Option α) (r:T α):T α
def cB{α:Sort _}(c:Bool)(a b:α):α:=Bool.rec b a c
def bH{α β:Type}(x:Option α)(f:α->Option β):Option β:=Option.rec none f x
namespace T
variable {α:Type}
def get(t:T α):Nat->Option α:=
 T.rec (motive:=fun _=>Nat->Option α) (fun _=>none)
  (fun _ v _ gl gr k=>cB (Nat.beq k 0) v (cB (Nat.beq (Nat.mod k 2) 1) (gl (Nat.div k 2)) (gr (Nat.sub (Nat.div k 2) 1)))) t
def single(f:Nat):Nat->Option α->T α:=
 Nat.rec (motive:=fun _=>Nat->Option α->T α) (fun _ _=>.e)
  (fun _ ih k x=>cB (Nat.beq k 0) (.n .e x .e) (cB (Nat.beq (Nat.mod k 2) 1) (.n (ih (Nat.div k 2) x) none .e) (.n .e none (ih (Nat.sub (Nat.div k 2) 1) x)))) f
def set(t:T α):Nat->Option α->T α:=
 T.rec (motive:=fun _=>Nat->Option α->T α) (fun k x=>single (Nat.succ k) k x)
  (fun l v r sl sr k x=>cB (Nat.beq k 0) (.n l x r) (cB (Nat.beq (Nat.mod k 2) 1) (.n (sl (Nat.div k 2) x) v r) (.n l v (sr (Nat.sub (Nat.div k 2) 1) x)))) t
end T
inductive AV where
 | bool (b:Bool)
 | int (k:IntKind) (n:Int)
 | str (s:List Nat)
 | ptr (b off:Nat)
 | nilp
 | sl (b off len cap:Nat) (o:Bool)
 | cb
 | emp        -- an empty slice,not nil,of unknown place and capacity
 | map (b:Nat)
 | nilmap
 | fn (f:Nat) (first captured:List AV)
 | nilfn
 | yld (b:Nat)
 | iface (t:Nat) (v:AV)
 | niliface
 | mth (name:String) (tbl:List (Nat×Nat×Option (Bool×Nat))) (v:AV)     -- a method of an interface value,bound
 | agg (cs:List AV)
 | tup (vs:List AV)
 deriving Inhabited
abbrev bt:=List (List Int)
abbrev bu:=List Int
abbrev b6:=List AV
abbrev b9:=List Nat
def AV.cells(v:AV):Option (b6):=
 match v with
 | .agg cs=>some cs
 | .tup _=>none
 | v=>some [v]
def AV.undef:AV:=.tup []
inductive cU where
 | t (i:Nat)
 | c (v:AV)
 deriving Inhabited
inductive EqP where
 | bool | int | str | ptr | slice | map | func | iface | no
 deriving Inhabited,DecidableEq
inductive qF where
 | p (e:EqP)
 | struct (fs:List (Nat×EqP))
 deriving Inhabited
inductive aGL where
 | int (k:IntKind)
 | same
 | bytesToStr
 | intToStr
 deriving Inhabited
inductive SlK where
 | str
 | slice (size:Nat)
 | arr (n size:Nat)
 deriving Inhabited
inductive IxK where
 | arr (n size:Nat)
 | slice (size:Nat)
 deriving Inhabited
inductive zH where
 | mv (x:cU)
 | pick (c a b:cU)
 | build (zero:b6) (parts:List (Nat×Nat×cU))
 | ld (agg:Bool) (n:Nat) (x:cU)
 | cg (x:cU)
 | bin (op:BinOp) (e:qF) (x y:cU)
 | un (op:UnOp) (x:cU)
 | conv (k:aGL) (x:cU)
 | mkIface (t:Nat) (x:cU)
 | mkFunc (f:Nat) (first captured:List cU)
 | slc (k:SlK) (x:cU) (lo hi mx:Option cU)
 | cr (off:Nat) (x:cU)
 | fld (agg:Bool) (off n:Nat) (x:cU)
 | cn (k:IxK) (x ix:cU)
 | idxArr (agg:Bool) (n size:Nat) (x ix:cU)
 | idxStr (x ix:cU)
 | lookup (e:qF) (zero:AV) (commaOk:Bool) (m key:cU)
 | tassert (t:Nat) (zero:AV) (commaOk:Bool) (x:cU)
 | extract (x:cU) (i:Nat)
 | lenArr (n:Nat)
 | lenStr (x:cU)
 | cq (x:cU)
 | lenMap (x:cU)
 | capSl (x:cU)
 | c9 (isMax:Bool) (xs:List cU)
 | mkMeth (name:String) (tbl:List (Nat×Nat×Option (Bool×Nat))) (x:cU)
 deriving Inhabited
inductive wY where
 | alloc (t:Nat) (cells:b6)
 | box (t:Nat) (x:cU)
 | ch (t size len:Nat) (zero:b6) (parts:List (Nat×cU))
 | cv (t size bytes:Nat) (zero:b6) (l c:cU)
 | mkMap
 | strBytes (t:Nat) (x:cU)
 deriving Inhabited
inductive aMr where
 | add64 | idxByte | idxStr
 deriving Inhabited
inductive XOp where
 | st (n:Nat) (x v:cU)
 | call (f:cU) (args:List cU)
 | inv (tbl:List (Nat×Nat×Option (Bool×Nat))) (recv:cU) (args:List cU)
 | app (t size bytes:Nat) (s x:cU)
 | copy (size:Nat) (d s:cU)
 | mapUpd (e:qF) (m k v:cU)
 | mapDel (e:qF) (m k:cU)
 | clr (zero:b6) (x:cU)
 | ext (k:aMr) (args:List cU)
 | bad
 deriving Inhabited
inductive AOp where
 | q (o:zH)
 | a (o:wY)
 | x (o:XOp)
 deriving Inhabited
structure AO where
 dst:Option Nat
 op:AOp
 grd:Option (Nat×Bool)
 mask:Nat      -- the operations before it (drawn regions)
 deriving Inhabited
inductive AC where
 | skip
 | seq (a b:AC)
 | cond (c:cU) (a b:AC)
 | block (id:Nat) (c:AC)
 | loop (c:AC)
 | exit (id:Nat)
 | ret
 | reg (ops:List AO)
 | drw (ops:List AO)
 | rng (f:cU) (params:b9) (assign body:AC)
 | dfr (ops:List AO) (f:cU) (args:List cU)
 deriving Inhabited
inductive RV where
 | t (i:Nat)
 | cell (a:Nat) (agg:Bool) (n:Nat)
 deriving Inhabited
structure dU where
 ntmps:Nat
 res:List RV
 body:AC
 deriving Inhabited
abbrev Fr:=T AV
inductive LSt where
 | ready | busy | done | exhausted
 deriving DecidableEq,Inhabited
inductive Out where
 | normal
 | exit (id:Nat)
 | ret
 deriving Inhabited
inductive AB where
 | cells (cs:b6) (opn:Bool) (size:Nat)     -- opn:there may be more room behind;size:the cells of an element then
 | ro (cs:b6)
 | map (es:List (AV×AV))
 | loop (st:LSt) (pend:Option Out) (fr:Fr) (params:b9) (assign body:AC)
 | dfd
 deriving Inhabited
structure St where
 h:T AB
 nx:Nat
def aD(i:Nat)(F:Fr):AV:=Option.rec (motive:=fun _=>AV) .undef (fun v=>v) (F.get i)
def aPl(v:AV)(_:Fr):AV:=v
def cU.val(x:cU):Fr->AV:=cU.rec (motive:=fun _=>Fr->AV) aD aPl x
def dG(l:List cU):Fr->b6:=List.rec (motive:=fun _=>Fr->b6) (fun _=>[]) (fun x _ ih F=>x.val F::ih F) l
def nth{α:Type}(l:List α):Nat->Option α:=List.rec (motive:=fun _=>Nat->Option α) (fun _=>none) (fun x _ ih k=>cB (Nat.beq k 0) (some x) (ih (Nat.sub k 1))) l
def aHH{α:Type}(l:List α):Nat->List α:=List.rec (motive:=fun _=>Nat->List α) (fun _=>[]) (fun x xs ih k=>cB (Nat.beq k 0) (x::xs) (ih (Nat.sub k 1))) l
def aHD{α:Type}(l:List α):Nat->Option (List α):=
 List.rec (motive:=fun _=>Nat->Option (List α)) (fun n=>cB (Nat.beq n 0) (some []) none)
  (fun x _ ih n=>cB (Nat.beq n 0) (some []) (bH (ih (Nat.sub n 1)) fun r=>some (x::r))) l
def aDR{α:Type}(vs:List α):List α->Option (List α):=
 List.rec (motive:=fun _=>List α->Option (List α)) (fun l=>some l)
  (fun v _ ih l=>List.rec (motive:=fun _=>Option (List α)) none (fun _ xs _=>bH (ih xs) fun r=>some (v::r)) l) vs
def put{α:Type}(l:List α):Nat->List α->Option (List α):=
 List.rec (motive:=fun _=>Nat->List α->Option (List α)) (fun k vs=>cB (Nat.beq k 0) (aDR vs []) none)
  (fun x xs ih k vs=>cB (Nat.beq k 0) (aDR vs (x::xs)) (bH (ih (Nat.sub k 1) vs) fun r=>some (x::r))) l
def lO{α:Type}(l:List α):Nat:=List.rec (motive:=fun _=>Nat) 0 (fun _ _ ih=>Nat.succ ih) l
def wR{α:Type}(l m:List α):List α:=List.rec (motive:=fun _=>List α) m (fun x _ ih=>x::ih) l
def repeatL{α:Type}(z:List α)(n:Nat):List α:=Nat.rec (motive:=fun _=>List α) [] (fun _ ih=>wR z ih) n
def cut{α:Type}(l:List α)(i n:Nat):Option (List α):=aHD (aHH l i) n
def pD(k:IntKind):Nat:=
 match k with
 | .i8=>127 | .i16=>32767 | .i32=>2147483647 | .i64=>9223372036854775807
 | .u8=>255 | .u16=>65535 | .u32=>4294967295 | .u64=>18446744073709551615
def nat(k:IntKind)(n:Nat):Int:=cB (Nat.ble n (pD k)) (.ofNat n) (k.wrap (.ofNat n))
def aCY(k:IntKind):Bool:=
 match k with
 | .i8 | .i16 | .i32 | .i64=>true
 | _=>false
def neg(k:IntKind)(n:Nat):Int:=cB (aCY k) (cB (Nat.ble n (pD k)) (.negSucc n) (k.wrap (.negSucc n))) (k.wrap (.negSucc n))
def xN(k:IntKind)(n:Nat):Bool:=Nat.ble n (pD k)
def aE2(k:IntKind)(n:Int):Int:=Int.rec (motive:=fun _=>Int) (fun m=>nat k m) (fun m=>neg k m) n
def aBM(k:IntKind)(a b:Nat):Int:=cB (Nat.ble b a) (nat k (Nat.sub a b)) (neg k (Nat.sub (Nat.sub b a) 1))
def aNh(k:IntKind)(x y:Int):Int:=
 Int.rec (motive:=fun _=>Int) (fun a=>Int.rec (motive:=fun _=>Int) (fun b=>nat k (Nat.add a b)) (fun b=>aBM k a (Nat.succ b)) y)
  (fun a=>Int.rec (motive:=fun _=>Int) (fun b=>aBM k b (Nat.succ a)) (fun b=>neg k (Nat.succ (Nat.add a b))) y) x
def aHO(k:IntKind)(x y:Int):Int:=
 Int.rec (motive:=fun _=>Int) (fun a=>Int.rec (motive:=fun _=>Int) (fun b=>aBM k a b) (fun b=>nat k (Nat.add a (Nat.succ b))) y)
  (fun a=>Int.rec (motive:=fun _=>Int) (fun b=>neg k (Nat.add a b)) (fun b=>aBM k b a) y) x
def aGE(k:IntKind)(x y:Int):Int:=
 Int.rec (motive:=fun _=>Int) (fun a=>Int.rec (motive:=fun _=>Int) (fun b=>nat k (Nat.mul a b)) (fun b=>aE2 k (Int.mul (.ofNat a) (.negSucc b))) y)
  (fun a=>aE2 k (Int.mul (.negSucc a) y)) x
def ieq(x y:Int):Bool:=
 Int.rec (motive:=fun _=>Bool) (fun a=>Int.rec (motive:=fun _=>Bool) (fun b=>Nat.beq a b) (fun _=>false) y)
  (fun a=>Int.rec (motive:=fun _=>Bool) (fun _=>false) (fun b=>Nat.beq a b) y) x
def ile(x y:Int):Bool:=
 Int.rec (motive:=fun _=>Bool) (fun a=>Int.rec (motive:=fun _=>Bool) (fun b=>Nat.ble a b) (fun _=>false) y)
  (fun a=>Int.rec (motive:=fun _=>Bool) (fun _=>true) (fun b=>Nat.ble b a) y) x
def keq(x y:IntKind):Bool:=Nat.beq (pD x) (pD y)
def aNa(x y:Bool):Bool:=cB x y (cB y false true)
def aS5(k:IntKind)(x y:Int):Option AV:=some (.int k (aNh k x y))
def aSD(k:IntKind)(x y:Int):Option AV:=some (.int k (aHO k x y))
def aS4(k:IntKind)(x y:Int):Option AV:=some (.int k (aGE k x y))
def aL6(k:IntKind)(x y:Int):Option AV:=
 match x,y with
 | .ofNat a,.ofNat b=>cB (Nat.beq b 0) none (some (.int k (nat k (Nat.div a b))))
 | x,y=>cB (ieq y (.ofNat 0)) none (some (.int k (aE2 k (x.tdiv y))))
def aMq(k:IntKind)(x y:Int):Option AV:=
 match x,y with
 | .ofNat a,.ofNat b=>cB (Nat.beq b 0) none (some (.int k (.ofNat (Nat.mod a b))))
 | x,y=>cB (ieq y (.ofNat 0)) none (some (.int k (x.tmod y)))
def aCe(f:Nat->Nat->Nat)(k:IntKind)(x y:Int):Option AV:=
 match x,y with
 | .ofNat a,.ofNat b=>cB (xN k a) (cB (xN k b) (some (.int k (.ofNat (f a b)))) none) none
 | _,_=>none
def aSU:=aCe Nat.land
def iOr:=aCe Nat.lor
def aSR:=aCe Nat.xor
def aSX(_:IntKind)(x y:Int):Option AV:=some (.bool (ieq x y))
def aSL(_:IntKind)(x y:Int):Option AV:=some (.bool (cB (ieq x y) false true))
def aSP(_:IntKind)(x y:Int):Option AV:=some (.bool (cB (ile y x) false true))
def aS1(_:IntKind)(x y:Int):Option AV:=some (.bool (ile x y))
def aSx(_:IntKind)(x y:Int):Option AV:=some (.bool (cB (ile x y) false true))
def aSb(_:IntKind)(x y:Int):Option AV:=some (.bool (ile y x))
def aMP(_:IntKind)(_ _:Int):Option AV:=none
def aMK(op:BinOp):IntKind->Int->Int->Option AV:=
 BinOp.rec (motive:=fun _=>IntKind->Int->Int->Option AV) aS5 aSD aS4 aL6 aMq aSU iOr aSR aMP aMP aMP aSX aSL aSP aS1 aSx aSb op
def rR(op:BinOp)(k:IntKind)(x:Int)(b:Nat):Option AV:=
 let n:=cB (Nat.ble b k.bits) b k.bits
 match op with
 | .shl=>some (.int k (aGE k x (.ofNat (Nat.pow 2 n))))
 | .shr=>some (.int k (x.fdiv (.ofNat (Nat.pow 2 n))))
 | _=>none
def aA3(op:BinOp)(k:IntKind)(x y:Int):Option AV:=
 match y with
 | .ofNat b=>rR op k x b
 | _=>none
def fI(op:BinOp):Bool:=BinOp.rec (motive:=fun _=>Bool) false false false false false false false false true true false false false false false false false op
def pM:b9->b9->Bool
 | _,[]=>false
 | [],_::_=>true
 | a::x,b::y=>cB (Nat.blt a b) true (cB (Nat.beq a b) (pM x y) false)
def mK:b9->b9->Bool
 | [],[]=>true
 | a::x,b::y=>cB (Nat.beq a b) (mK x y) false
 | _,_=>false
def aIB(op:BinOp)(a b:b9):Option AV:=
 match op with
 | .add=>cB (Nat.ble (lO a+lO b) 9223372036854775807) (some (.str (wR a b))) none
 | .eql=>some (.bool (mK a b))
 | .neq=>some (.bool (!mK a b))
 | .lss=>some (.bool (pM a b))
 | .leq=>some (.bool (pM a b || mK a b))
 | .gtr=>some (.bool (!(pM a b || mK a b)))
 | .geq=>some (.bool (!pM a b))
 | _=>none
def partOf(agg:Bool)(cs:b6)(off n:Nat):Option AV:=
 cB agg (bH (cut cs off n) fun r=>some (.agg r)) (nth cs off)
def eqp:EqP->AV->AV->Option Bool
 | .bool,.bool a,.bool b=>some (aNa a b)
 | .int,.int k a,.int k' b=>cB (keq k k') (some (ieq a b)) none
 | .str,.str a,.str b=>some (mK a b)
 | .ptr,.nilp,.nilp=>some true
 | .ptr,.nilp,.ptr _ _=>some false
 | .ptr,.ptr _ _,.nilp=>some false
 | .slice,.cb,.cb=>some true
 | .slice,.cb,.sl .. =>some false
 | .slice,.sl ..,.cb=>some false
 | .slice,.cb,.emp=>some false
 | .slice,.emp,.cb=>some false
 | .map,.nilmap,.nilmap=>some true
 | .map,.nilmap,.map _=>some false
 | .map,.map _,.nilmap=>some false
 | .func,.nilfn,.nilfn=>some true
 | .func,.nilfn,.fn .. =>some false
 | .func,.fn ..,.nilfn=>some false
 | .iface,.niliface,.iface _ _=>some false
 | .iface,.iface _ _,.niliface=>some false
 | _,_,_=>none
def eqs:List (Nat×EqP)->b6->b6->Option Bool
 | [],_,_=>some true
 | (off,e)::fs,xs,ys=>
  match nth xs off,nth ys off with
  | some x,some y=>match eqp e x y with
   | some true=>eqs fs xs ys
   | some false=>some false
   | none=>none
  | _,_=>none
def eqv:qF->AV->AV->Option Bool
 | .p e,x,y=>eqp e x y
 | .struct fs,.agg xs,.agg ys=>cB (Nat.beq (lO xs) (lO fs)) (cB (Nat.beq (lO ys) (lO fs)) (eqs fs xs ys) none) none
 | _,_,_=>none
def aO1(op:BinOp)(e:qF)(x y:AV):Option AV:=
 match op with
 | .eql=>bH (eqv e x y) fun b=>some (.bool b)
 | .neq=>bH (eqv e x y) fun b=>some (.bool (cB b false true))
 | _=>none
def dJ(op:BinOp)(k:IntKind)(a:Int)(k':IntKind)(b:Int):Option AV:=
 cB (fI op) (aA3 op k a b) (cB (keq k k') (aMK op k a b) none)
def aF7(v:AV):Option (IntKind×Int):=
 match v with
 | .int k a=>some (k,a)
 | _=>none
def aFF(v:AV):Option (b9):=
 match v with
 | .str s=>some s
 | _=>none
def iL(op:BinOp)(e:qF)(x y:AV):Option AV:=
 match aF7 x,aF7 y with
 | some a,some b=>dJ op a.1 a.2 b.1 b.2
 | _,_=>match aFF x,aFF y with
  | some a,some b=>aIB op a b
  | _,_=>aO1 op e x y
def unV(op:UnOp)(x:AV):Option AV:=
 match op,x with
 | .neg,.int k n=>some (.int k (aHO k (.ofNat 0) n))
 | .not,.bool b=>some (.bool (cB b false true))
 | _,_=>none
def mI(b:AB):Option (b6):=
 match b with
 | .cells cs _ _=>some cs
 | .ro cs=>some cs
 | _=>none
def cJ(h:T AB)(b:Nat):Option (b6):=bH (h.get b) mI
def uY(h:T AB)(b off n:Nat):Option (b6):=bH (cJ h b) fun cs=>cut cs off n
def mM(h:T AB)(b off:Nat):Option AV:=bH (cJ h b) fun cs=>nth cs off
def nP(agg:Bool)(n:Nat)(h:T AB)(b off:Nat):Option AV:=
 cB agg (bH (uY h b off n) fun cs=>some (.agg cs)) (mM h b off)
def eZ(zero:b6):List (Nat×Nat×AV)->Option (b6)
 | []=>some zero
 | (off,n,v)::ps=>bH v.cells fun cs=>cB (Nat.beq (lO cs) n) (bH (put zero off cs) fun z=>eZ z ps) none
def bytesOf:b6->Option (b9)
 | []=>some []
 | .int .u8 (.ofNat n)::vs=>cB (Nat.ble n 255) (bH (bytesOf vs) fun r=>some (n::r)) none
 | _::_=>none
def fG(v:AV):Option Nat:=
 match v with
 | .int _ (.ofNat n)=>some n
 | _=>none
def jO(F:Fr)(d:Nat)(x:Option cU):Option Nat:=
 match x with
 | none=>some d
 | some x=>fG (x.val F)
def qN(e:qF)(k:AV):List (AV×AV)->Nat->Option (Option (Nat×AV))
 | [],_=>some none
 | (k',v)::es,i=>bH (eqv e k k') fun b=>cB b (some (some (i,v))) (qN e k es (Nat.succ i))
def pH(e:qF)(k:AV)(es:List (AV×AV)):Option (Option (Nat×AV)):=bH (eqv e k k) fun _=>qN e k es 0
def tT(b:AB):Option (List (AV×AV)):=
 match b with
 | .map es=>some es
 | _=>none
def vC(h:T AB)(m:AV):Option (List (AV×AV)):=
 match m with
 | .nilmap=>some []
 | .map b=>bH (h.get b) tT
 | _=>none
def kO(isMax:Bool):b6->AV->Option AV
 | [],x=>some x
 | .int k' b::vs,.int k a=>cB (keq k k')
   (kO isMax vs (.int k (cB isMax (cB (ile b a) a b) (cB (ile a b) a b)))) none
 | _,_=>none
abbrev QF:=Fr->T AB->Option AV
def qMv(x:cU):QF:=fun F _=>some (x.val F)
def wW(v:AV)(a b:cU)(F:Fr):Option AV:=
 match v with
 | .bool t=>some (cB t (a.val F) (b.val F))
 | _=>none
def aRl(c a b:cU):QF:=fun F _=>wW (c.val F) a b F
def eH(F:Fr):List (Nat×Nat×cU)->List (Nat×Nat×AV)
 | []=>[]
 | (a,b,x)::ps=>(a,b,x.val F)::eH F ps
def aPt(zero:b6)(ps:List (Nat×Nat×cU)):QF:=fun F _=>bH (eZ zero (eH F ps)) fun cs=>some (.agg cs)
def eQ(v:AV)(agg:Bool)(n:Nat)(h:T AB):Option AV:=
 match v with
 | .ptr b off=>nP agg n h b off
 | _=>none
def qLd(agg:Bool)(n:Nat)(x:cU):QF:=fun F h=>eQ (x.val F) agg n h
def aD0{α:Type}(t:Nat):List (Nat×α)->Option α
 | []=>none
 | (u,a)::l=>cB (Nat.beq t u) (some a) (aD0 t l)
def aTq(n:String)(tbl:List (Nat×Nat×Option (Bool×Nat)))(v:AV):Option AV:=
 match v with
 | .iface t w=>bH (aD0 t tbl) fun r=>match r.2,w with
  | none,_=>some (.mth n tbl v)
  | some _,.ptr _ _=>some (.mth n tbl v)
  | _,_=>none
 | _=>none
def uT(v:AV):Option AV:=
 match v with
 | .ptr b o=>some (.ptr b o)
 | .fn f a b=>some (.fn f a b)
 | .iface t v=>some (.iface t v)
 | .yld b=>some (.yld b)
 | _=>none
def aOC(x:cU):QF:=fun F _=>uT (x.val F)
def aR9(op:BinOp)(e:qF)(x y:cU):QF:=fun F _=>iL op e (x.val F) (y.val F)
def qUn(op:UnOp)(x:cU):QF:=fun F _=>unV op (x.val F)
def aDS(h:T AB)(b off len:Nat):Option AV:=bH (uY h b off len) fun cs=>bH (bytesOf cs) fun s=>some (.str s)
def yH(k:aGL)(v:AV)(h:T AB):Option AV:=
 match k,v with
 | .int k,.int _ n=>some (.int k (aE2 k n))
 | .same,.str s=>some (.str s)
 | .bytesToStr,.cb=>some (.str [])
 | .bytesToStr,.emp=>some (.str [])
 | .bytesToStr,.sl b off len _ _=>aDS h b off len
 | .intToStr,.int _ (.ofNat n)=>cB (Nat.ble n 127) (some (.str [n])) none
 | _,_=>none
def aQT(k:aGL)(x:cU):QF:=fun F h=>yH k (x.val F) h
def aMc(t:Nat)(x:cU):QF:=fun F _=>some (.iface t (x.val F))
def aOu(f:Nat)(first cap:List cU):QF:=fun F _=>some (.fn f (dG first F) (dG cap F))
def aO2(s:b9)(lo hi mx:Option cU)(F:Fr):Option AV:=
 match mx with
 | some _=>none
 | none=>bH (jO F (lO s) hi) fun h'=>bH (jO F 0 lo) fun l=>
   cB (Nat.ble h' (lO s)) (cB (Nat.ble l h') (bH (cut s l (h' - l)) fun r=>some (.str r)) none) none
def mD(len cap:Nat)(lo hi mx:Option cU)(F:Fr):Option (Nat×Nat×Nat):=
 bH (jO F cap mx) fun m=>bH (jO F len hi) fun h=>bH (jO F 0 lo) fun l=>
  cB (Nat.ble m cap) (cB (Nat.ble h m) (cB (Nat.ble l h) (some (l,h,m)) none) none) none
def aHp(size b off len cap:Nat)(o:Bool)(lo hi mx:Option cU)(F:Fr):Option AV:=
 bH (mD len cap lo hi mx F) fun x=>
  let o':=cB o mx.isNone false
  cB (Nat.beq x.2.2 x.1) (cB o' (some .emp) (some (.sl b off (x.2.1 - x.1) (x.2.2 - x.1) false)))
   (some (.sl b (off+x.1 * size) (x.2.1 - x.1) (x.2.2 - x.1) o'))
def aNb(lo hi mx:Option cU)(F:Fr):Option AV:=bH (mD 0 0 lo hi mx F) fun _=>some .emp
def aMn(lo hi mx:Option cU)(F:Fr):Option AV:=bH (mD 0 0 lo hi mx F) fun _=>some .cb
def aJt(n size b off:Nat)(lo hi mx:Option cU)(F:Fr):Option AV:=
 bH (mD n n lo hi mx F) fun x=>
  cB (Nat.beq x.2.2 x.1) (some (.sl b off (x.2.1 - x.1) (x.2.2 - x.1) false))
   (some (.sl b (off+x.1 * size) (x.2.1 - x.1) (x.2.2 - x.1) false))
def rQ(k:SlK)(v:AV)(lo hi mx:Option cU)(F:Fr):Option AV:=
 match k,v with
 | .str,.str s=>aO2 s lo hi mx F
 | .slice size,.sl b off len cap o=>aHp size b off len cap o lo hi mx F
 | .slice _,.cb=>aMn lo hi mx F
 | .slice _,.emp=>aNb lo hi mx F
 | .arr n size,.ptr b off=>aJt n size b off lo hi mx F
 | _,_=>none
def aSu(k:SlK)(x:cU)(lo hi mx:Option cU):QF:=fun F _=>rQ k (x.val F) lo hi mx F
def zD(v:AV)(off:Nat):Option AV:=
 match v with
 | .ptr b o=>some (.ptr b (o+off))
 | _=>none
def aQn(off:Nat)(x:cU):QF:=fun F _=>zD (x.val F) off
def aIq(v:AV)(agg:Bool)(off n:Nat):Option AV:=
 match v with
 | .agg cs=>partOf agg cs off n
 | _=>none
def aST(agg:Bool)(off n:Nat)(x:cU):QF:=fun F _=>aIq (x.val F) agg off n
def fC(k:IxK)(v:AV)(i:Nat):Option AV:=
 match k,v with
 | .arr n size,.ptr b off=>cB (Nat.blt i n) (some (.ptr b (off+i * size))) none
 | .slice size,.sl b off len _ _=>cB (Nat.blt i len) (some (.ptr b (off+i * size))) none
 | _,_=>none
def aPq(k:IxK)(x ix:cU):QF:=fun F _=>bH (fG (ix.val F)) fun i=>fC k (x.val F) i
def xF(v:AV)(agg:Bool)(n size i:Nat):Option AV:=
 match v with
 | .agg cs=>cB (Nat.blt i n) (partOf agg cs (i * size) size) none
 | _=>none
def aOF(agg:Bool)(n size:Nat)(x ix:cU):QF:=fun F _=>bH (fG (ix.val F)) fun i=>xF (x.val F) agg n size i
def pQ(v:AV)(i:Nat):Option AV:=
 match v with
 | .str s=>bH (nth s i) fun b=>some (.int .u8 (.ofNat b))
 | _=>none
def aOO(x ix:cU):QF:=fun F _=>bH (fG (ix.val F)) fun i=>pQ (x.val F) i
def aEi(ok:Bool)(v:AV)(b:Bool):AV:=cB ok (.tup [v,.bool b]) v
def pS(r:Option (Nat×AV))(zero:AV)(ok:Bool):Option AV:=
 match r with
 | some (_,v)=>some (aEi ok v true)
 | none=>some (aEi ok zero false)
def aN5(sk:qF)(zero:AV)(ok:Bool)(m key:cU):QF:=fun F h=>
 bH (vC h (m.val F)) fun es=>bH (pH sk (key.val F) es) fun r=>pS r zero ok
def aDL(v:AV)(t:Nat)(zero:AV)(ok:Bool):Option AV:=
 match v with
 | .iface t' v=>cB (Nat.beq t t') (some (aEi ok v true)) (cB ok (some (.tup [zero,.bool false])) none)
 | .niliface=>cB ok (some (.tup [zero,.bool false])) none
 | _=>none
def aL5(t:Nat)(zero:AV)(ok:Bool)(x:cU):QF:=fun F _=>aDL (x.val F) t zero ok
def jU(v:AV)(i:Nat):Option AV:=
 match v with
 | .tup vs=>nth vs i
 | _=>none
def aNk(x:cU)(i:Nat):QF:=fun F _=>jU (x.val F) i
def aOQ(n:Nat):QF:=fun _ _=>some (.int .i64 (.ofNat n))
def aFB(v:AV):Option AV:=
 match v with
 | .str s=>some (.int .i64 (.ofNat (lO s)))
 | _=>none
def aOR(x:cU):QF:=fun F _=>aFB (x.val F)
def jD(v:AV):Option AV:=
 match v with
 | .cb=>some (.int .i64 (.ofNat 0))
 | .emp=>some (.int .i64 (.ofNat 0))
 | .sl _ _ n _ _=>some (.int .i64 (.ofNat n))
 | _=>none
def aQp(x:cU):QF:=fun F _=>jD (x.val F)
def aN4(x:cU):QF:=fun F h=>bH (vC h (x.val F)) fun es=>some (.int .i64 (.ofNat (lO es)))
def aIw(v:AV):Option AV:=
 match v with
 | .cb=>some (.int .i64 (.ofNat 0))
 | .sl _ _ _ c false=>some (.int .i64 (.ofNat c))
 | _=>none
def aPG(x:cU):QF:=fun F _=>aIw (x.val F)
def mT(isMax:Bool)(l:b6):Option AV:=
 match l with
 | []=>none
 | v::vs=>kO isMax vs v
def aOt(n:String)(tbl:List (Nat×Nat×Option (Bool×Nat)))(x:cU):QF:=fun F _=>some (.mth n tbl (x.val F))
def aOy(mx:Bool)(xs:List cU):QF:=fun F _=>mT mx (dG xs F)
def gT(q:zH):QF:=
 zH.rec (motive:=fun _=>QF) qMv aRl aPt qLd aOC aR9 qUn aQT aMc aOu aSu aQn aST aPq aOF aOO aN5 aL5 aNk aOQ aOR aQp aN4 aPG aOy aOt q
abbrev AF:=Fr->Nat->Option (AV×AB)
def room:Nat:=140737488355328
theorem bf{p:Prop}(h:p:=by unfold room;omega):p:=h
def aP9(_:Nat)(cells:b6):AF:=fun _ id=>some (.ptr id 0,.cells cells false 0)
def aSJ(_:Nat)(x:cU):AF:=fun F id=>bH (x.val F).cells fun cs=>some (.ptr id 0,.cells cs false 0)
def kR(size:Nat)(F:Fr):List (Nat×cU)->List (Nat×Nat×AV)
 | []=>[]
 | (i,x)::ps=>(i * size,size,x.val F)::kR size F ps
def aOe(_ size len:Nat)(zero:b6)(ps:List (Nat×cU)):AF:=fun F id=>
 bH (eZ (repeatL zero len) (kR size F ps)) fun cs=>some (.sl id 0 len len false,.cells cs false 0)
def xB(_ _ bytes:Nat)(zero:b6)(l c:cU):AF:=fun F id=>
 bH (fG (l.val F)) fun l=>bH (fG (c.val F)) fun c=>
  cB (Nat.ble l c) (cB (Nat.ble c room) (cB (Nat.ble (bytes * c) room) (some (.sl id 0 l c false,.cells (repeatL zero c) false 0)) none) none) none
def aQg:AF:=fun _ id=>some (.map id,.map [])
def byteCells:b9->b6
 | []=>[]
 | b::bs=>.int .u8 (.ofNat b)::byteCells bs
def sK(v:AV)(id:Nat):Option (AV×AB):=
 match v with
 | .str s=>some (.sl id 0 (lO s) (lO s) true,.cells (byteCells s) true 1)
 | _=>none
def aLo(_:Nat)(x:cU):AF:=fun F id=>sK (x.val F) id
def sH(a:wY):AF:=wY.rec (motive:=fun _=>AF) aP9 aSJ aOe xB aQg aLo a
def vX(bl:AB)(S:St)(b off:Nat)(vs:b6):Option St:=
 match bl with
 | .cells cs o s=>bH (put cs off vs) fun cs'=>some ⟨S.h.set b (some (.cells cs' o s)),S.nx⟩
 | _=>none
def pJ(S:St)(b off:Nat)(vs:b6):Option St:=bH (S.h.get b) fun bl=>vX bl S b off vs
def eE(v:AV)(h:T AB)(size n:Nat):Option (b6):=
 match v with
 | .sl b off _ _ _=>uY h b off (n * size)
 | .cb=>cB (Nat.beq n 0) (some []) none
 | .emp=>cB (Nat.beq n 0) (some []) none
 | .str s=>cB (Nat.beq size 1) (bH (aHD s n) fun r=>some (byteCells r)) none
 | _=>none
def mC(v:AV):Option Nat:=
 match v with
 | .sl _ _ n _ _=>some n
 | .cb=>some 0
 | .emp=>some 0
 | .str s=>some (lO s)
 | _=>none
def grown(h:T AB)(nx need size:Nat)(cs:b6):Option (AV×St):=
 some (.sl nx 0 need need true,⟨h.set nx (some (.cells cs true size)),Nat.succ nx⟩)
def vJ(bl:AB)(size b off len cap:Nat)(o:Bool)(n:Nat)(new:b6)(S:St):Option (AV×St):=
 match bl with
 | .cells cs o' sz=>bH (cut cs off (len * size)) fun old=>
   cB o
    (cB o' (cB (Nat.beq sz size) (cB (Nat.beq (off+cap * size) (lO cs)) (grown (S.h.set b none) S.nx (len+n) size (wR old new)) none) none) none)
    (grown S.h S.nx (len+n) size (wR old new))
 | .ro cs=>cB o none (bH (cut cs off (len * size)) fun old=>grown S.h S.nx (len+n) size (wR old new))
 | _=>none
def jK(bytes size b off len cap:Nat)(o:Bool)(n:Nat)(new:b6)(S:St):Option (AV×St):=
 cB (Nat.ble (len+n) cap)
  (cB (Nat.beq n 0) (some (.sl b off len cap o,S)) (bH (pJ S b (off+len * size) new) fun S'=>some (.sl b off (len+n) cap o,S')))
  (cB (Nat.ble (len+n) room) (cB (Nat.ble ((len+n) * bytes) room) (bH (S.h.get b) fun bl=>vJ bl size b off len cap o n new S) none) none)
def pI(bytes size n:Nat)(new:b6)(S:St):Option (AV×St):=
 cB (Nat.beq n 0) (some (.cb,S))
  (cB (Nat.ble n room) (cB (Nat.ble (n * bytes) room) (grown S.h S.nx n size new) none) none)
def yA(s:AV)(bytes size n:Nat)(new:b6)(S:St):Option (AV×St):=
 match s with
 | .cb=>pI bytes size n new S
 | .emp=>cB (Nat.beq n 0) (some (.emp,S)) none
 | .sl b off len cap o=>jK bytes size b off len cap o n new S
 | _=>none
def fN(bytes size:Nat)(s x:AV)(S:St):Option (AV×St):=
 bH (mC x) fun n=>bH (eE x S.h size n) fun new=>yA s bytes size n new S
def wN{α:Type}(f:α->α):List α->Nat->List α
 | [],_=>[]
 | x::xs,k=>cB (Nat.beq k 0) (f x::xs) (x::wN f xs (k - 1))
structure bS where
 F:Fr
 inr:Bool
abbrev fK:=AV->b6->St->Option (AV×St)
abbrev XF:=fK->Fr->St->Option (AV×St)
def mJ(p:AV)(n:Nat)(cs:b6)(S:St):Option (AV×St):=
 match p with
 | .ptr b off=>cB (Nat.beq (lO cs) n) (bH (pJ S b off cs) fun S'=>some (.undef,S')) none
 | _=>none
def xSt(n:Nat)(x v:cU):XF:=fun _ F S=>bH (v.val F).cells fun cs=>mJ (x.val F) n cs S
def aR1(f:cU)(args:List cU):XF:=fun call F S=>call (f.val F) (dG args F) S
def aLz(v:AV)(f:Nat)(agg:Bool)(n:Nat)(args:b6)(call:fK)(S:St):Option (AV×St):=
 match v with
 | .ptr b off=>bH (nP agg n S.h b off) fun r=>call (.fn f [r] []) args S
 | _=>none
def aIZ(r:Nat×Option (Bool×Nat))(v:AV)(args:b6)(call:fK)(S:St):Option (AV×St):=
 match r with
 | (f,none)=>call (.fn f [v] []) args S
 | (f,some (agg,n))=>aLz v f agg n args call S
def aIV(v:AV)(tbl:List (Nat×Nat×Option (Bool×Nat)))(args:b6)(call:fK)(S:St):Option (AV×St):=
 match v with
 | .iface t v=>bH (aD0 t tbl) fun r=>aIZ r v args call S
 | _=>none
def aSa(tbl:List (Nat×Nat×Option (Bool×Nat)))(recv:cU)(args:List cU):XF:=fun call F S=>aIV (recv.val F) tbl (dG args F) call S
def aSQ(_ size bytes:Nat)(s x:cU):XF:=fun _ F S=>fN bytes size (s.val F) (x.val F) S
def copyV(d:AV)(size m:Nat)(s:AV)(S:St):Option (AV×St):=
 match d with
 | .cb=>some (.int .i64 (.ofNat 0),S)
 | .emp=>some (.int .i64 (.ofNat 0),S)
 | .sl b off len _ _=>
  let n:=cB (Nat.ble m len) m len
  cB (Nat.beq n 0) (some (.int .i64 (.ofNat 0),S)) (bH (eE s S.h size n) fun cs=>bH (pJ S b off cs) fun S'=>some (.int .i64 (.ofNat n),S'))
 | _=>none
def aI9(v:AV):Option Nat:=
 match v with
 | .sl _ _ n _ _=>some n
 | .cb=>some 0
 | .emp=>some 0
 | _=>none
def aRo(size:Nat)(d s:cU):XF:=fun _ F S=>bH (aI9 (s.val F)) fun m=>copyV (d.val F) size m (s.val F) S
def aBl(r:Option (Nat×AV))(es:List (AV×AV))(k v:AV):List (AV×AV):=
 match r with
 | some (i,_)=>wN (fun _=>(k,v)) es i
 | none=>wR es [(k,v)]
def uL(m:AV)(sk:qF)(k v:AV)(S:St):Option (AV×St):=
 match m with
 | .map b=>bH (bH (S.h.get b) tT) fun es=>bH (pH sk k es) fun r=>some (.undef,⟨S.h.set b (some (.map (aBl r es k v))),S.nx⟩)
 | _=>none
def aOG(sk:qF)(m k v:cU):XF:=fun _ F S=>uL (m.val F) sk (k.val F) (v.val F) S
def aOT(r:Option (Nat×AV))(es:List (AV×AV))(b:Nat)(S:St):Option (AV×St):=
 match r with
 | some (i,_)=>some (.undef,⟨S.h.set b (some (.map (es.eraseIdx i))),S.nx⟩)
 | none=>some (.undef,S)
def aGi(m:AV)(sk:qF)(k:AV)(S:St):Option (AV×St):=
 match m with
 | .map b=>bH (bH (S.h.get b) tT) fun es=>bH (pH sk k es) fun r=>aOT r es b S
 | .nilmap=>some (.undef,S)
 | _=>none
def aN7(sk:qF)(m k:cU):XF:=fun _ F S=>aGi (m.val F) sk (k.val F) S
def aPD(x:AV)(zero:b6)(S:St):Option (AV×St):=
 match x with
 | .cb=>some (.undef,S)
 | .emp=>some (.undef,S)
 | .sl b off n _ _=>cB (Nat.beq n 0) (some (.undef,S)) (bH (pJ S b off (repeatL zero n)) fun S'=>some (.undef,S'))
 | _=>none
def aSp(zero:b6)(x:cU):XF:=fun _ F S=>aPD (x.val F) zero S
def aP6(a b c:Nat):AV:=
 .tup [.int .u64 (.ofNat (Nat.mod (Nat.add (Nat.add a b) c) 18446744073709551616)),.int .u64 (.ofNat (Nat.div (Nat.add (Nat.add a b) c) 18446744073709551616))]
def aGA(c:Nat):b9->Nat->Int
 | [],_=>.negSucc 0
 | b::bs,i=>cB (Nat.beq b c) (.ofNat i) (aGA c bs (Nat.succ i))
def aPH(k:aMr)(args:b6):Option AV:=
 match k,args with
 | .add64,[.int .u64 (.ofNat a),.int .u64 (.ofNat b),.int .u64 (.ofNat c)]=>cB (Nat.ble c 1) (some (aP6 a b c)) none
 | .idxByte,[.str s,.int .u8 (.ofNat c)]=>cB (Nat.ble c 255) (some (.int .i64 (aGA c s 0))) none
 | _,_=>none
def aSK(k:aMr)(args:List cU):XF:=fun _ F S=>bH (aPH k (dG args F)) fun v=>some (v,S)
def aSH:XF:=fun _ _ _=>none
def evX(x:XOp):XF:=XOp.rec (motive:=fun _=>XF) xSt aR1 aSa aSQ aRo aOG aN7 aSp aSK aSH x
def isB(v:AV)(w:Bool):Bool:=
 match v with
 | .bool b=>aNa b w
 | _=>false
def cR(d:Option Nat):Fr->AV->Fr:=Option.rec (motive:=fun _=>Fr->AV->Fr) (fun F _=>F) (fun i F v=>F.set i (some v)) d
def eT(g:Option (Nat×Bool)):Fr->Bool:=Option.rec (motive:=fun _=>Fr->Bool) (fun _=>true) (fun p F=>isB (aD p.1 F) p.2) g
abbrev OF:=Option Nat->fK->Fr->St->Option (Fr×St)
def oQ(q:zH):OF:=fun d _ F S=>bH (gT q F S.h) fun v=>some (cR d F v,S)
def oA(a:wY):OF:=fun d _ F S=>bH (sH a F S.nx) fun r=>some (cR d F r.1,⟨S.h.set S.nx (some r.2),Nat.succ S.nx⟩)
def oX(x:XOp):OF:=fun d call F S=>bH (evX x call F S) fun r=>some (cR d F r.1,r.2)
def oOp(o:AOp):OF:=AOp.rec (motive:=fun _=>OF) oQ oA oX o
def aEd(o:AO)(call:fK)(F:Fr)(S:St):Option (Fr×St):=
 cB (eT o.grd F) (oOp o.op o.dst call F S) (some (cR o.dst F .undef,S))
def uZ(l:List AO):fK->Fr->St->Option (Fr×St):=
 List.rec (motive:=fun _=>fK->Fr->St->Option (Fr×St)) (fun _ F S=>some (F,S)) (fun o _ ih call F S=>bH (aEd o call F S) fun r=>ih call r.1 r.2) l
structure iH where
 i:Nat
 id:Nat
 b:AB
def cO(mask:Nat):List iH->T AB->List iH×T AB
 | [],h=>([],h)
 | p::ps,h=>cB (Nat.testBit mask p.i) (cO mask ps (h.set p.id (some p.b))) (p::(cO mask ps h).1,(cO mask ps h).2)
structure jT where
 q:zH
 F:Fr
 v:AV
 i:Nat
 mask:Nat
def dR(q:zH):Bool:=
 match q with
 | .ld .. | .lookup .. | .lenMap .. =>true
 | .conv .bytesToStr _=>true
 | _=>false
structure DS where
 F:Fr
 S:St
 ps:List iH
 hs:List (Nat×Nat×T AB)
 ls:List jT
abbrev DF:=AO->Nat->Nat->fK->DS->Option DS
def dQ(q:zH):DF:=fun o i _ _ D=>bH (gT q D.F D.S.h) fun v=>
 some ⟨cR o.dst D.F v,D.S,D.ps,D.hs,cB (dR q) (⟨q,D.F,v,i,o.mask⟩::D.ls) D.ls⟩
def dA(a:wY):DF:=fun o i base _ D=>bH (sH a D.F (base+i)) fun r=>
 some ⟨cR o.dst D.F r.1,D.S,⟨i,base+i,r.2⟩::D.ps,D.hs,D.ls⟩
def jL(hs:List (Nat×Nat×T AB))(mask:Nat):Bool:=
 match hs with
 | []=>true
 | e::_=>Nat.testBit mask e.1
def dX(x:XOp):DF:=fun o i _ call D=>
 cB (jL D.hs o.mask) (bH (evX x call D.F ⟨(cO o.mask D.ps D.S.h).2,D.S.nx⟩) fun r=>
  some ⟨cR o.dst D.F r.1,r.2,(cO o.mask D.ps D.S.h).1,(i,o.mask,r.2.h)::D.hs,D.ls⟩) none
def dOp(o:AOp):DF:=AOp.rec (motive:=fun _=>DF) dQ dA dX o
def pV(o:AO)(i base:Nat)(call:fK)(D:DS):Option DS:=
 cB (eT o.grd D.F) (dOp o.op o i base call D) (some ⟨cR o.dst D.F .undef,D.S,D.ps,D.hs,D.ls⟩)
def vF:List AO->Nat->Nat->fK->DS->Option DS
 | [],_,_,_,D=>some D
 | o::os,i,base,call,D=>bH (pV o i base call D) fun D'=>vF os (i+1) base call D'
mutual
def cT:AV->AV->Bool
 | .bool a,.bool b=>aNa a b
 | .int k a,.int j b=>cB (keq k j) (ieq a b) false
 | .str a,.str b=>mK a b
 | .ptr a b,.ptr c d=>cB (Nat.beq a c) (Nat.beq b d) false
 | .nilp,.nilp=>true
 | .sl a b c d e,.sl a' b' c' d' e'=>Nat.beq a a' && Nat.beq b b' && Nat.beq c c' && Nat.beq d d' && aNa e e'
 | .cb,.cb=>true
 | .emp,.emp=>true
 | .map a,.map b=>Nat.beq a b
 | .nilmap,.nilmap=>true
 | .fn f a b,.fn g c d=>Nat.beq f g && nR a c && nR b d
 | .nilfn,.nilfn=>true
 | .yld a,.yld b=>Nat.beq a b
 | .iface t v,.iface u w=>Nat.beq t u && cT v w
 | .niliface,.niliface=>true
 | .agg a,.agg b=>nR a b
 | .tup a,.tup b=>nR a b
 | _,_=>false
def nR:b6->b6->Bool
 | [],[]=>true
 | a::x,b::y=>cB (cT a b) (nR x y) false
 | _,_=>false
end
def mP(v:AV)(r:Option AV):Bool:=
 match r with
 | some w=>cT w v
 | none=>false
def dY(l:jT):List (Nat×Nat×T AB)->T AB->Bool
 | [],h=>mP l.v (gT l.q l.F h)
 | (i,m,h')::r,h=>
  cB (Nat.testBit l.mask i) (dY l r h')
   (cB (mP l.v (gT l.q l.F h)) (cB (Nat.testBit m l.i) true (dY l r h')) false)
def gK(h0:T AB)(hs:List (Nat×Nat×T AB)):List jT->Bool
 | []=>true
 | l::ls=>cB (dY l hs h0) (gK h0 hs ls) false
def aAn(h0:T AB)(n:Nat)(D:DS):Option (Fr×St):=
 cB (gK h0 D.hs.reverse D.ls) (some (D.F,⟨(cO (2 ^ n - 1) D.ps D.S.h).2,D.S.nx⟩)) none
def xD(ops:List AO)(call:fK)(F:Fr)(S:St):Option (Fr×St):=
 bH (vF ops 0 S.nx call ⟨F,⟨S.h,S.nx+lO ops⟩,[],[],[]⟩) fun D=>aAn S.h (lO ops) D
structure Evs where
 code:AC->bS->St->Option (Out×bS×St)
 call:fK
abbrev CF:=Evs->bS->St->Option (Out×bS×St)
def sC:b6->Nat->Fr->Fr
 | [],_,F=>F
 | v::vs,i,F=>sC vs (i+1) (F.set i (some v))
def aSt(o:Option Out):Option AC:=
 match o with
 | none=>some .skip
 | some .ret=>some .ret
 | some (.exit id)=>some (.exit id)
 | some .normal=>none
def aR0:CF:=fun _ A S=>some (.normal,A,S)
def sT(b:AC)(ih:Evs)(r:Out×bS×St):Option (Out×bS×St):=
 match r.1 with
 | .normal=>ih.code b r.2.1 r.2.2
 | _=>some r
def aSC(a b:AC):CF:=fun ih A S=>bH (ih.code a A S) (sT b ih)
def aBZ(v:AV)(a b:AC):CF:=fun ih A S=>
 match v with
 | .bool t=>ih.code (cB t a b) A S
 | _=>none
def aQ8(c:cU)(a b:AC):CF:=fun ih A S=>aBZ (c.val A.F) a b ih A S
def sF(id:Nat)(r:Out×bS×St):Option (Out×bS×St):=
 match r.1 with
 | .exit i=>cB (Nat.beq i id) (some (.normal,r.2)) (some r)
 | _=>some r
def aQt(id:Nat)(c:AC):CF:=fun ih A S=>bH (ih.code c A S) (sF id)
def aRJ(c:AC):CF:=fun ih A S=>bH (ih.code c A S) (sT (.loop c) ih)
def aQP(id:Nat):CF:=fun _ A S=>some (.exit id,A,S)
def aSl:CF:=fun _ A S=>some (.ret,A,S)
def aS8(ops:List AO):CF:=fun ih A S=>bH (uZ ops ih.call A.F S) fun r=>some (.normal,⟨r.1,A.inr⟩,r.2)
def aSA(_:List AO)(_:cU)(_:List cU):CF:=fun _ _ _=>none
def aS9(ops:List AO):CF:=fun ih A S=>bH (xD ops ih.call A.F S) fun r=>some (.normal,⟨r.1,A.inr⟩,r.2)
def aMV(bl:AB)(l:Nat)(A:bS)(S2:St)(ih:Evs):Option (Out×bS×St):=
 match bl with
 | .loop st pend fr ps as bd=>
  match st with
  | .busy=>none
  | _=>bH (aSt pend) fun c=>ih.code c A ⟨S2.h.set l (some (.loop .exhausted pend fr ps as bd)),S2.nx⟩
 | _=>none
def aSB(v:AV):Bool:=
 match v with
 | .fn .. =>true
 | _=>false
def aOl(f:cU)(params:b9)(assign body:AC):CF:=fun ih A S=>
 cB A.inr none (cB (aSB (f.val A.F))
  (bH (ih.call (f.val A.F) [.yld S.nx] ⟨S.h.set S.nx (some (.loop .ready none A.F params assign body)),Nat.succ S.nx⟩) fun r=>
   bH (r.2.h.get S.nx) fun bl=>aMV bl S.nx A r.2 ih) none)
def aI2(c:AC):CF:=
 AC.rec (motive:=fun _=>CF) aR0 (fun a b _ _=>aSC a b) (fun c a b _ _=>aQ8 c a b) (fun id c _=>aQt id c) (fun c _=>aRJ c) aQP aSl aS8 aS9 (fun f ps as bd _ _=>aOl f ps as bd) aSA c
def aQ1(v:AV)(agg:Bool)(n:Nat)(h:T AB):Option AV:=
 match v with
 | .ptr b off=>nP agg n h b off
 | _=>none
def results:List RV->Fr->T AB->Option (b6)
 | [],_,_=>some []
 | .t i::rs,F,h=>bH (results rs F h) fun vs=>some (aD i F::vs)
 | .cell a agg n::rs,F,h=>bH (aQ1 (aD a F) agg n h) fun v=>bH (results rs F h) fun vs=>some (v::vs)
def oneOf(vs:b6):AV:=
 match vs with
 | [v]=>v
 | vs=>.tup vs
def aFz(fn:dU)(r:Out×bS×St):Option (AV×St):=
 match r.1 with
 | .exit _=>none
 | _=>bH (results fn.res r.2.1.F r.2.2.h) fun vs=>some (oneOf vs,r.2.2)
def wM(fn:dU)(args:b6)(ih:Evs)(S:St):Option (AV×St):=
 cB (Nat.ble (lO args) fn.ntmps) (bH (ih.code fn.body ⟨sC args 0 .e,false⟩ S) (aFz fn)) none
def aBf(fns:T dU)(ih:Evs)(f:AV)(args:b6)(S:St):Option (AV×St):=
 match f with
 | .fn id first cap=>bH (fns.get id) fun fn=>wM fn (wR first (wR args cap)) ih S
 | _=>none
def aQB(_:AC)(_:bS)(_:St):Option (Out×bS×St):=none
def aPU(_:AV)(_:b6)(_:St):Option (AV×St):=none
def ev(fns:T dU)(n:Nat):Evs:=
 Nat.rec (motive:=fun _=>Evs) ⟨aQB,aPU⟩ (fun _ ih=>⟨fun c=>aI2 c ih,aBf fns ih⟩) n
end
end Go.Ev
namespace Go.Ev
noncomputable section
def aM6(v:Value):Bool:=
 match v with
 | .agg _=>false
 | .tuple _=>false
 | _=>true
mutual
def ofValue:Value->Option AV
 | .bool b=>some (.bool b)
 | .int k n=>some (.int k n)
 | .string s=>some (.str (s.data.toList.map UInt8.toNat))
 | .pointer none=>some .nilp
 | .slice none 0 0=>some .cb
 | .map none=>some .nilmap
 | .nilFunc=>some .nilfn
 | .nilIface=>some .niliface
 | .func (.func f) ⟨a⟩ ⟨b⟩=>match ofValues a,ofValues b with
  | some a,some b=>some (.fn f a b)
  | _,_=>none
 | .iface t v=>(ofValue v).map (.iface t)
 | .agg ⟨cs⟩=>bif cs.all aM6 then(ofValues cs).map .agg else none
 | .tuple ⟨cs⟩=>(ofValues cs).map .tup
 | _=>none
def ofValues:List Value->Option (b6)
 | []=>some []
 | v::vs=>match ofValue v,ofValues vs with
  | some a,some as=>some (a::as)
  | _,_=>none
end
variable (P:Program)
def gJ:Operand->Option cU
 | .tmp t=>some (.t t)
 | .const v=>(ofValue v).map .c
 | .global g=>bif Nat.blt g P.globals.size then some (.c (.ptr g 0)) else none
 | .func f=>some (.c (.fn f [] []))
def aAP:List Operand->Option (List cU)
 | []=>some []
 | x::xs=>match gJ P x,aAP xs with
  | some a,some as=>some (a::as)
  | _,_=>none
def oC:Option Operand->Option (Option cU)
 | none=>some none
 | some x=>(gJ P x).map some
def aAg(t:TypeId):Option (Bool×Nat):=
 match P.underlying t,P.info? t with
 | some (.struct _),some i=>some (true,i.size)
 | some (.array _ _),some i=>some (true,i.size)
 | some _,some i=>some (false,i.size)
 | _,_=>none
def aHA(t:TypeId):Option AV:=
 match P.info? t with
 | some i=>match i.zero with
  | some v=>ofValue v
  | none=>none
 | none=>none
def eqP(t:TypeId):EqP:=
 match P.underlying t with
 | some .bool=>.bool
 | some (.int _)=>.int
 | some .string=>.str
 | some (.pointer _)=>.ptr
 | some (.slice _)=>.slice
 | some (.map _ _)=>.map
 | some (.func ..)=>.func
 | some (.interface _)=>.iface
 | _=>.no
def eqFields:List Field->List (Nat×EqP)
 | []=>[]
 | f::fs=>bif f.name== "_" then eqFields fs else(f.offset,eqP P f.type)::eqFields fs
def eqT(t:TypeId):qF:=
 match P.underlying t with
 | some (.struct fs)=>bif P.stoodInHeld t || P.eqGuardType P.depth t then .p .no else .struct (eqFields P fs.toList)
 | some (.array n e)=>bif P.eqGuardType P.depth t || n>64 || P.cellsOf e !=1 then .p .no else .struct ((List.range n).map fun i=>(i,eqP P e))
 | _=>.p (eqP P t)
def wG(place:Nat->Option (Nat×Nat)):List (Nat×Operand)->Option (List (Nat×Nat×cU))
 | []=>some []
 | (i,x)::ps=>match place i,gJ P x,wG place ps with
  | some (off,n),some x,some ps=>some ((off,n,x)::ps)
  | _,_,_=>none
def placeOf(fs:Array Field)(i:Nat):Option (Nat×Nat):=
 match fs[i]? with
 | some f=>match P.info? f.type with
  | some s=>some (f.offset,s.size)
  | none=>none
 | none=>none
def oT:List Field->Bool
 | []=>true
 | f::fs=>(P.info? f.type).isSome && oT fs
def xQ:List (Nat×Operand)->Option (List (Nat×cU))
 | []=>some []
 | (i,x)::ps=>match gJ P x,xQ ps with
  | some x,some ps=>some ((i,x)::ps)
  | _,_=>none
def pO(t:TypeId):Option (TypeId×TypeInfo):=
 match P.underlying t with
 | some (.slice e)=>(P.info? e).map fun i=>(e,i)
 | _=>none
def jS(t:TypeId):Option (b6):=(aHA P t).bind AV.cells
def nD(e:TypeId)(i:TypeInfo):Option (b6):=
 match jS P e with
 | some z=>bif Nat.beq z.length i.size then some z else none
 | none=>none
def aOJ(u:TypeId)(i:TypeInfo):Bool:=
 match P.underlying u with
 | some (.slice _)=>true
 | some .string=>Nat.beq i.size 1
 | _=>false
def aLl(name:String)(t:TypeId)(i:TypeInfo):Option (Nat×Nat×Option (Bool×Nat)):=
 match i.methods.find? (·.name==name) with
 | some m=>bif !m.path.isEmpty then none else match m.func with
  | none=>none
  | some (f,ptr)=>match P.underlying t,ptr with
   | some (.pointer _),true=>some (t,f,none)
   | some (.pointer e),false=>(aAg P e).map fun a=>(t,f,some a)
   | some (.interface _),_=>none
   | some _,false=>some (t,f,none)
   | _,_=>none
 | none=>none
def wF(name:String):List TypeInfo->Nat->List (Nat×Nat×Option (Bool×Nat))
 | [],_=>[]
 | i::is,t=>match aLl P name t i with
  | some r=>r::wF name is (t+1)
  | none=>wF name is (t+1)
def plainKey:EqP->Bool
 | .int | .str | .bool=>true
 | _=>false
def aBR:Nat->List (Nat×EqP)->Bool
 | _,[]=>true
 | i,(o,e)::l=>Nat.beq o i && (plainKey e && aBR (i+1) l)
def aBF(t:TypeId):Option qF:=
 match P.underlying t with
 | some .string=>some (.p .str)
 | some (.int _)=>some (.p .int)
 | some (.struct fs)=>match eqT P t with
  | .struct l=>bif fs.all (fun f=>plainKey (eqP P f.type)) && aBR 0 l then some (.struct l) else none
  | _=>none
 | some (.array _ e)=>match eqT P t with
  | .struct l=>bif plainKey (eqP P e) && aBR 0 l then some (.struct l) else none
  | _=>none
 | _=>none
def aOH(s:String):Option aMr:=
 bif s== "math/bits.Add64" then some .add64
 else bif s== "internal/bytealg.IndexByteString" then some .idxByte
 else none
def aRY(f:Operand):Option aMr:=
 match f with
 | .func f=>match P.funcs[f]? with
  | some fn=>bif fn.body.isNone && (Extern.allNextRows.lookup fn.origin).isNone then aOH fn.name else none
  | none=>none
 | _=>none
def q(o:Option zH):Option AOp:=o.map .q
def al(o:Option wY):Option AOp:=o.map .a
def xx(o:Option XOp):Option AOp:=o.map .x
def aTh(b:Builtin)(as:List Operand)(ts:List TypeId):Option AOp:=
 match b with
 | .copy=>match as,ts with
  | [d,s],[t,_]=>match pO P t with
   | some (_,i)=>xx do some (.copy i.size (<-gJ P d) (<-gJ P s))
   | none=>none
  | _,_=>none
 | _=>none
def rJ(o:Op):Option AOp:=
 match o with
 | .move x | .assign x=>q do some (.mv (<-gJ P x))
 | .pick c a b=>q do some (.pick (<-gJ P c) (<-gJ P a) (<-gJ P b))
 | .alloc t=>al do some (.alloc t (<-jS P t))
 | .box t x=>al do some (.box t (<-gJ P x))
 | .build t ps=>
  match P.underlying t with
  | some (.struct fs)=>bif oT P fs.toList then q do some (.build (<-jS P t) (<-wG P (placeOf P fs) ps.toList)) else none
  | some (.array _ e)=>q do let s <-P.info? e;some (.build (<-jS P t) (<-wG P (fun i=>some (i * s.size,s.size)) ps.toList))
  | _=>none
 | .buildSlice t len ps=>al do
  let (e,i) <-pO P t
  if len * i.size>65536 then none
  some (.ch e i.size len (<-nD P e i) (<-xQ P ps.toList))
 | .load t a=>q do let (agg,n) <-aAg P t;some (.ld agg n (<-gJ P a))
 | .store t a v=>xx do let (_,n) <-aAg P t;some (.st n (<-gJ P a) (<-gJ P v))
 | .nilCheck x=>q do some (.cg (<-gJ P x))
 | .binOp op t x y _=>q do some (.bin op (eqT P t) (<-gJ P x) (<-gJ P y))
 | .unOp op _ x=>q do some (.un op (<-gJ P x))
 | .convert src dst x=>
  match P.underlying src,P.underlying dst with
  | some (.int _),some (.int k)=>q do some (.conv (.int k) (<-gJ P x))
  | some .string,some .string=>q do some (.conv .same (<-gJ P x))
  | some (.int _),some .string=>q do some (.conv .intToStr (<-gJ P x))
  | some (.slice e),some .string=>match P.underlying e with
   | some (.int .u8)=>q do some (.conv .bytesToStr (<-gJ P x))
   | _=>none
  | some .string,some (.slice e)=>match P.underlying e with
   | some (.int .u8)=>al do some (.strBytes e (<-gJ P x))
   | _=>none
  | _,_=>none
 | .makeInterface t x=>match P.underlying t with
  | some (.interface _)=>none
  | some _=>q do some (.mkIface t (<-gJ P x))
  | none=>none
 | .makeFunc (.func f) a b=>q do some (.mkFunc f (<-aAP P a.toList) (<-aAP P b.toList))
 | .makeMap _ none=>al (some .mkMap)
 | .makeSlice t l c=>al do let (e,i) <-pO P t;some (.cv e i.size i.bytes (<-nD P e i) (<-gJ P l) (<-gJ P c))
 | .slice t x lo hi mx=>bif mx.isSome && hi.isNone then none else
  match P.underlying t with
  | some (.slice e)=>q do let i <-P.info? e;some (.slc (.slice i.size) (<-gJ P x) (<-oC P lo) (<-oC P hi) (<-oC P mx))
  | some (.array n e)=>q do let i <-P.info? e;some (.slc (.arr n i.size) (<-gJ P x) (<-oC P lo) (<-oC P hi) (<-oC P mx))
  | _=>none
 | .fieldAddr t x f=>match P.underlying t with
  | some (.struct fs)=>q do
   let f <-fs[f]?
   let i <-P.info? f.type
   if i.size=0 then none
   some (.cr f.offset (<-gJ P x))
  | _=>none
 | .field t x f=>match P.underlying t with
  | some (.struct fs)=>q do
   let f <-fs[f]?
   let (agg,n) <-aAg P f.type
   some (.fld agg f.offset n (<-gJ P x))
  | _=>none
 | .indexAddr t x ix=>match P.underlying t with
  | some (.slice e)=>q do let i <-P.info? e;some (.cn (.slice i.size) (<-gJ P x) (<-gJ P ix))
  | some (.array n e)=>q do let i <-P.info? e;some (.cn (.arr n i.size) (<-gJ P x) (<-gJ P ix))
  | _=>none
 | .index t x ix=>match P.underlying t with
  | some .string=>q do some (.idxStr (<-gJ P x) (<-gJ P ix))
  | some (.array n e)=>q do let (agg,s) <-aAg P e;some (.idxArr agg n s (<-gJ P x) (<-gJ P ix))
  | _=>none
 | .lookup t m k ok=>match P.underlying t with
  | some (.map kt et)=>q do some (.lookup (<-aBF P kt) (<-aHA P et) ok (<-gJ P m) (<-gJ P k))
  | _=>none
 | .mapUpdate t m k v | .insert t m k v=>match P.underlying t with
  | some (.map kt _)=>xx do some (.mapUpd (<-aBF P kt) (<-gJ P m) (<-gJ P k) (<-gJ P v))
  | _=>none
 | .extract x i=>q do some (.extract (<-gJ P x) i)
 | .call {callee:=.value f,args,.. }=>match aRY P f with
  | some _=>none
  | none=>xx do some (.call (<-gJ P f) (<-aAP P args.toList))
 | .call {callee:=.builtin b,args,argTypes}=>
  match b,args.toList,argTypes.toList with
  | .len,[x],[t]=>match P.underlying t with
   | some (.slice _)=>q do some (.cq (<-gJ P x))
   | _=>none
  | .max,xs,_=>q do some (.c9 true (<-aAP P xs))
  | .min,xs,_=>q do some (.c9 false (<-aAP P xs))
  | .append,[s,x],[t,u]=>match pO P t with
   | some (e,i)=>bif aOJ P u i && (nD P e i).isSome then xx do some (.app e i.size i.bytes (<-gJ P s) (<-gJ P x)) else none
   | none=>none
  | _,_,_=>none
 | _=>none
def aBt(ops:Array Oper):Option (Nat×Bool)->Option (Option (Nat×Bool))
 | none=>some none
 | some (j,w)=>match (ops[j]?).bind (·.dst) with
  | some d=>some (some (d,w))
  | none=>none
def yD(nt:Nat):Option Tmp->Bool
 | some d=>Nat.blt d nt
 | none=>true
def aJI(nt:Nat)(ops:Array Oper)(o:Oper)(mask:Nat):Option AO:=
 bif yD nt o.dst then
  match aBt ops o.guard with
  | some g=>match rJ P o.op with
   | some op=>some ⟨o.dst,op,g,mask⟩
   | none=>some ⟨o.dst,.x .bad,g,mask⟩
  | none=>none
 else none
def uJ(nt:Nat)(ops:Array Oper):List Oper->b9->Option (List AO)
 | [],_=>some []
 | o::os,ms=>match aJI P nt ops o (ms.headD 0),uJ nt ops os ms.tail with
  | some a,some as=>some (a::as)
  | _,_=>none
def cU.rd(x:cU):b9:=
 match x with
 | .t i=>[i]
 | .c _=>[]
def rds:List cU->b9
 | []=>[]
 | x::xs=>x.rd++rds xs
def rdo(x:Option cU):b9:=
 match x with
 | some x=>x.rd
 | none=>[]
def rdp:List (Nat×Nat×cU)->b9
 | []=>[]
 | (_,_,x)::ps=>x.rd++rdp ps
def aQv:List (Nat×cU)->b9
 | []=>[]
 | (_,x)::ps=>x.rd++aQv ps
def zH.rd(o:zH):b9:=
 match o with
 | .mv x | .ld _ _ x | .cg x | .un _ x | .conv _ x | .mkIface _ x | .cr _ x | .fld _ _ _ x | .tassert _ _ _ x | .extract x _ | .lenStr x | .cq x | .lenMap x | .capSl x | .mkMeth _ _ x=>x.rd
 | .pick c a b=>c.rd++(a.rd++b.rd)
 | .build _ ps=>rdp ps
 | .bin _ _ x y | .cn _ x y | .idxArr _ _ _ x y | .idxStr x y | .lookup _ _ _ x y=>x.rd++y.rd
 | .mkFunc _ a b=>rds a++rds b
 | .slc _ x lo hi mx=>x.rd++(rdo lo++(rdo hi++rdo mx))
 | .lenArr _=>[]
 | .c9 _ xs=>rds xs
def wY.rd(o:wY):b9:=
 match o with
 | .alloc _ _ | .mkMap=>[]
 | .box _ x | .strBytes _ x=>x.rd
 | .ch _ _ _ _ ps=>aQv ps
 | .cv _ _ _ _ l c=>l.rd++c.rd
def XOp.rd(o:XOp):b9:=
 match o with
 | .st _ x v=>x.rd++v.rd
 | .call f args | .inv _ f args=>f.rd++rds args
 | .app _ _ _ s x | .copy _ s x | .mapDel _ s x=>s.rd++x.rd
 | .mapUpd _ m k v=>m.rd++(k.rd++v.rd)
 | .clr _ x=>x.rd
 | .ext _ args=>rds args
 | .bad=>[]
def AOp.rd(o:AOp):b9:=
 match o with
 | .q o=>o.rd
 | .a o=>o.rd
 | .x o=>o.rd
def AO.touch(o:AO):b9:=o.dst.toList++((o.grd.map (·.1)).toList++o.op.rd)
def inL(t:Nat):b9->Bool
 | []=>false
 | u::l=>bif Nat.beq t u then true else inL t l
def meets(d:Option Nat)(b:b9):Bool:=
 match d with
 | some d=>inL d b
 | none=>false
def aFO(i:Nat)(d:Option Nat)(tch:b9):List AO->Bool
 | []=>true
 | b::l=>(bif meets d b.touch || meets b.dst tch then Nat.testBit b.mask i else true) && aFO i d tch l
def aJn:Nat->List AO->Bool
 | _,[]=>true
 | i,a::l=>aFO i a.dst a.touch l && aJn (i+1) l
def aRz(l:List AO):Bool:=aJn 0 l
def aCw:Nat->List Oper->Bool
 | _,[]=>true
 | i,o::l=>o.after.all (fun e=> !Region.binds .any e || Nat.blt e.on i) && aCw (i+1) l
def aFk(nt:Nat)(ops:Array Oper):Option AC:=
 match uJ P nt ops ops.toList (CheckFast.beforeL ops.toList 0 []) with
 | some aos=>bif aCw 0 ops.toList && aRz aos then some (.drw aos) else none
 | none=>none
def oD(nt:Nat):Code->Option AC
 | .skip=>some .skip
 | .seq a b=>match oD nt a,oD nt b with
  | some a,some b=>some (.seq a b)
  | _,_=>none
 | .cond c a b=>match gJ P c,oD nt a,oD nt b with
  | some c,some a,some b=>some (.cond c a b)
  | _,_,_=>none
 | .block id c=>(oD nt c).map (.block id)
 | .loop c=>(oD nt c).map .loop
 | .exit id=>some (.exit id)
 | .ret=>some .ret
 | .region _ ops d=>bif d then aFk P nt ops else(uJ P nt ops ops.toList []).map .reg
 | _=>none
def aGU:List ResultVar->Option (List RV)
 | []=>some []
 | .tmp t::rs=>(aGU rs).map (.t t:: ·)
 | .cell a t::rs=>match aAg P t,aGU rs with
  | some (agg,n),some rs=>some (.cell a agg n::rs)
  | _,_=>none
def cFn(fn:Func):Option dU:=
 bif fn.name== "runtime.NumGoroutine" then none else
 match fn.body with
 | some c=>match oD P fn.ntmps c,aGU P fn.results.toList with
  | some c,some rs=>some ⟨fn.ntmps,rs,c⟩
  | _,_=>none
 | none=>none
end
end Go.Ev
