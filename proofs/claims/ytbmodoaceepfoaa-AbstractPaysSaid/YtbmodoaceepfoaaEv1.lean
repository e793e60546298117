import GoSem.Dispatch
import Derived.CheckFast
set_option linter.all false
namespace Go.Ev
def bf.{u}{A:Type u}{P:A->Prop}{a:A}{l:List A}(h:P a)(t:∀x∈l,P x):∀x∈a::l,P x:=List.forall_mem_cons.2 ⟨h,t⟩
end Go.Ev
namespace Go.Ev
def au{p:Prop}(h:p:=by omega):p:=h
def ax{p q:Prop}(a:q)(h:q->p:=by intro a;omega):p:=h a
def az{p:Prop}(h:p:=by decide):p:=h
end Go.Ev
namespace Go.Ev
abbrev Aa:=@decide_eq_false
abbrev Ab.{u}:=@List.getElem?_eq_getElem.{u}
abbrev Ac:=@decide_eq_true
abbrev Ad.{u}:=@List.getD_eq_getElem?_getD.{u}
abbrev Ae:=@Nat.lt_of_lt_of_le
abbrev Af:=@Nat.le_refl
abbrev Ag:=@Int.ofNat_eq_natCast
abbrev Ah.{u}:=@List.forall_mem_cons.{u}
abbrev Ai.{u}:=@List.length_append.{u}
abbrev Aj.{u}:=@List.getElem?_eq_some_iff.{u}
abbrev Ak.{u}:=@List.getElem?_append_left.{u}
abbrev Al:=@Nat.ble_eq_true_of_le
abbrev Am:=@Int.toNat_natCast
abbrev An:=@Nat.zero_add
abbrev Ao.{u}:=@List.getElem?_append_right.{u}
abbrev Ap:=@not_false_eq_true
abbrev Aq:=@Nat.le_trans
abbrev Ar.{u}:=@List.length_set.{u}
abbrev Au.{u}:=@List.length_replicate.{u}
abbrev Av.{u,v}:=@List.length_map.{u,v}
abbrev Aw.{u}:=@List.length_cons.{u}
abbrev Ax.{u}:=@List.length_singleton.{u}
abbrev Ay.{u}:=@Option.some.injEq.{u}
abbrev Az.{u}:=@List.mem_cons_of_mem.{u}
abbrev Ba.{u,v}:=@List.getElem?_map.{u,v}
abbrev Bb.{u}:=@List.mem_of_getElem?.{u}
abbrev Bc.{u,v}:=@Option.map_eq_some_iff.{u,v}
abbrev Bd:=@Nat.le_of_ble_eq_true
abbrev Be.{u}:=@List.mem_cons_self.{u}
abbrev Bf:=@Bool.false_eq_true
abbrev Bg.{u}:=@List.append_assoc.{u}
abbrev Bh.{u}:=@List.take_of_length_le.{u}
abbrev Bi.{u}:=@List.mem_append.{u}
abbrev Bj.{u}:=@List.length_eq_zero_iff.{u}
abbrev Bk.{u}:=@Option.some.inj.{u}
abbrev Bl.{u}:=@List.getElem_mem.{u}
abbrev Bm.{u}:=@List.mem_cons.{u}
abbrev Bn:=@Nat.beq_eq
abbrev Bo:=@Nat.not_lt_zero
abbrev Bp.{u}:=@Array.getD_eq_getD_getElem?.{u}
abbrev Bq.{u}:=@Bool.cond_eq_ite.{u}
abbrev Br:=@Nat.le_add_right
abbrev Bs.{u}:=@List.append_nil.{u}
abbrev Bt.{u}:=@List.drop_eq_getElem_cons.{u}
abbrev Bu.{u}:=@List.nil_append.{u}
abbrev Bv.{u}:=@List.getElem?_eq_none.{u}
abbrev Bw:=@Nat.add_zero
abbrev Bx.{u}:=@List.length_take.{u}
abbrev Bz.{u}:=@List.mem_singleton.{u}
abbrev Ca.{u}:=@List.length_nil.{u}
abbrev Cb:=@Nat.eq_zero_or_pos
abbrev Cc.{u}:=@List.take_add_one.{u}
abbrev Cd.{u}:=@List.getElem?_cons_succ.{u}
abbrev Ce.{u}:=@List.getElem_of_mem.{u}
abbrev Cf.{u,v}:=@List.map_append.{u,v}
abbrev Cg.{u}:=@List.reverse_cons.{u}
abbrev Ch.{u}:=@Ne.symm.{u}
abbrev Ci.{u}:=@List.cons_append.{u}
abbrev Cj.{u}:=@List.getElem?_replicate.{u}
abbrev Ck:=@Bool.eq_false_iff
abbrev Cl:=@Int.toNat_of_nonneg
abbrev Cm:=@List.getElem?_range
abbrev Cn:=@List.length_range
abbrev Co:=@Nat.mul_le_mul_right
abbrev Cp.{u,v}:=@List.mem_map.{u,v}
abbrev Cq.{u}:=@List.mem_append_right.{u}
abbrev Cr.{u}:=@List.singleton_append.{u}
abbrev Ct:=@Nat.zero_le
abbrev Cu:=@decide_eq_true_iff
abbrev Cv:=@Bool.eq_iff_iff
abbrev Cw.{u}:=@List.drop_of_length_le.{u}
abbrev Cx:=@Nat.lt_or_ge
abbrev Cy:=@Bool.and_eq_true
abbrev Cz.{u}:=@List.length_drop.{u}
abbrev Da:=@Nat.add_assoc
abbrev Db:=@Nat.eq_of_beq_eq_true
abbrev Dc.{u}:=@List.mem_append_left.{u}
abbrev Dd:=@not_true_eq_false
abbrev De.{u}:=@List.getElem?_set.{u}
abbrev Dg.{u,v}:=@Option.bind_eq_some_iff.{u,v}
abbrev Dh.{u,v}:=@List.map_cons.{u,v}
abbrev Di.{u}:=@List.drop_zero.{u}
abbrev Dj.{u}:=@List.mem_iff_getElem.{u}
abbrev Dk.{u}:=@Array.getElem?_toList.{u}
abbrev Dl:=@Nat.add_mul
abbrev Dm:=@Nat.lt_succ_self
abbrev Dn:=@Bool.not_true
abbrev Dp:=@List.mem_range
abbrev Dq.{u}:=@List.all_eq_true.{u}
abbrev Dr.{u}:=@beq_self_eq_true.{u}
abbrev Dt.{u}:=@List.idxOf_lt_length_iff.{u}
abbrev Du:=@Nat.succ_mul
abbrev Dv:=@Nat.sub_self
abbrev Dw:=@Nat.add_sub_cancel_left
abbrev Dx:=@Nat.mul_le_mul
abbrev Dy:=@Int.natAbs_natCast
abbrev Dz:=@Nat.zero_mul
abbrev Ea.{u}:=@Option.getD_some.{u}
abbrev Eb.{u,v}:=@List.map_congr_left.{u,v}
abbrev Ec:=@Nat.mul_one
abbrev Ed:=@Decidable.not_not
abbrev Ee.{u}:=@List.mem_of_mem_take.{u}
abbrev Ef.{u}:=@List.getElem?_cons_zero.{u}
abbrev Eg.{u}:=@List.getElem?_append.{u}
abbrev Eh.{u}:=@if_false.{u}
abbrev Ei:=@Nat.lt_trichotomy
abbrev Ej:=@Bool.not_false
abbrev Ek:=@Rat.intCast_mul
abbrev El.{u}:=@Array.getElem?_eq_getElem.{u}
abbrev Em.{u}:=@List.take_append_drop.{u}
abbrev En.{u}:=@List.ext_getElem.{u}
abbrev Eo.{u}:=@List.take_length.{u}
abbrev Ep.{u}:=@List.pairwise_cons.{u}
abbrev Eq.{u}:=@List.getElem?_take_of_lt.{u}
abbrev Er.{u}:=@List.sum_cons.{u}
abbrev Es.{u,v}:=@Option.map_some.{u,v}
abbrev Et.{u}:=@Array.length_toList.{u}
abbrev Eu.{u,v,w}:=@List.map_map.{u,v,w}
abbrev Ew:=@Nat.sub_zero
abbrev Ex:=@Nat.le_max_right
abbrev Ey.{u}:=@List.prefix_refl.{u}
abbrev Ez:=@Nat.add_sub_cancel
abbrev Fa:=@Nat.lt_of_le_of_lt
abbrev Fb.{u}:=@Array.getElem?_eq_some_iff.{u}
abbrev Fc.{u}:=@if_true.{u}
abbrev Fd.{u,v,w}:=@Array.mapM_eq_mapM_toList.{u,v,w}
abbrev Fe.{u}:=@List.pairwise_iff_getElem.{u}
abbrev Ff:=@Bool.or_eq_true
abbrev Fg:=@Nat.le_max_left
abbrev Fi:=@Int.natCast_mul
abbrev Fj.{u}:=@List.mem_of_mem_drop.{u}
abbrev Fk.{u,v}:=@Array.toList_map.{u,v}
abbrev Fm.{u}:=@List.mem_reverse.{u}
abbrev Fp.{u}:=@List.getElem?_drop.{u}
abbrev Fq:=@Nat.pos_of_ne_zero
abbrev Ft:=@Nat.ble_eq
abbrev Fu:=@Nat.one_mul
abbrev Fv:=@Int.natAbs_mul
abbrev Fx:=@Nat.beq_refl
abbrev Fy:=@Nat.le_of_eq
noncomputable section
inductive T(α:Type) where
 | e:T α
 | n (l:T α) (v:Option α) (r:T α):T α
def bX{α:Sort _}(c:Bool)(a b:α):α:=Bool.rec b a c
def bD{α β:Type}(x:Option α)(f:α->Option β):Option β:=Option.rec none f x
namespace T
variable {α:Type}
def get(t:T α):Nat->Option α:=
 T.rec (motive:=fun _=>Nat->Option α) (fun _=>none)
  (fun _ v _ a b k=>bX (Nat.beq k 0) v (bX (Nat.beq (Nat.mod k 2) 1) (a (Nat.div k 2)) (b (Nat.sub (Nat.div k 2) 1)))) t
def single(f:Nat):Nat->Option α->T α:=
 Nat.rec (motive:=fun _=>Nat->Option α->T α) (fun _ _=>.e)
  (fun _ a k x=>bX (Nat.beq k 0) (.n .e x .e) (bX (Nat.beq (Nat.mod k 2) 1) (.n (a (Nat.div k 2) x) none .e) (.n .e none (a (Nat.sub (Nat.div k 2) 1) x)))) f
def set(t:T α):Nat->Option α->T α:=
 T.rec (motive:=fun _=>Nat->Option α->T α) (fun k x=>single (Nat.succ k) k x)
  (fun l v r sl a k x=>bX (Nat.beq k 0) (.n l x r) (bX (Nat.beq (Nat.mod k 2) 1) (.n (sl (Nat.div k 2) x) v r) (.n l v (a (Nat.sub (Nat.div k 2) 1) x)))) t
end T
inductive AV where
 | bool (b:Bool)
 | int (k:IntKind) (n:Int)
 | str (s:List Nat)
 | ptr (b off:Nat)
 | nilp
 | sl (b off len cap:Nat) (o:Bool)
 | cr
 | emp        -- an empty slice,not nil,of unknown place and capacity
 | map (b:Nat)
 | nilmap
 | fn (f:Nat) (first captured:List AV)
 | nilfn
 | yld (b:Nat)
 | iface (t:Nat) (v:AV)
 | niliface
 | mth (name:String) (tbl:List (Nat×Nat×Option (Bool×Nat))) (v:AV)     -- a method of an interface value,bound
 | agg (cs:List AV)
 | tup (vs:List AV)
 deriving Inhabited
abbrev bo:=List (List Int)
abbrev bt:=List Int
abbrev bu:=List AV
abbrev cd:=List Nat
def AV.cells(v:AV):Option (bu):=
 match v with
 | .agg cs=>some cs
 | .tup _=>none
 | v=>some [v]
def AV.undef:AV:=.tup []
inductive cQ where
 | t (i:Nat)
 | c (v:AV)
 deriving Inhabited
inductive EqP where
 | bool | int | str | ptr | slice | map | func | iface | no
 deriving Inhabited,DecidableEq
inductive tC where
 | p (e:EqP)
 | struct (fs:List (Nat×EqP))
 deriving Inhabited
inductive aKI where
 | int (k:IntKind)
 | jo
 | bytesToStr
 | intToStr
 deriving Inhabited
inductive SlK where
 | str
 | slice (size:Nat)
 | arr (n size:Nat)
 deriving Inhabited
inductive IxK where
 | arr (n size:Nat)
 | slice (size:Nat)
 deriving Inhabited
inductive QOp where
 | mv (x:cQ)
 | pick (c a b:cQ)
 | build (zero:bu) (parts:List (Nat×Nat×cQ))
 | ld (agg:Bool) (n:Nat) (x:cQ)
 | cw (x:cQ)
 | bin (op:BinOp) (e:tC) (x y:cQ)
 | un (op:UnOp) (x:cQ)
 | conv (k:aKI) (x:cQ)
 | mkIface (t:Nat) (x:cQ)
 | mkFunc (f:Nat) (first captured:List cQ)
 | slc (k:SlK) (x:cQ) (lo hi mx:Option cQ)
 | dd (off:Nat) (x:cQ)
 | fld (agg:Bool) (off n:Nat) (x:cQ)
 | c9 (k:IxK) (x ix:cQ)
 | idxArr (agg:Bool) (n size:Nat) (x ix:cQ)
 | idxStr (x ix:cQ)
 | lookup (e:tC) (zero:AV) (commaOk:Bool) (m key:cQ)
 | tassert (t:Nat) (zero:AV) (commaOk:Bool) (x:cQ)
 | extract (x:cQ) (i:Nat)
 | lenArr (n:Nat)
 | lenStr (x:cQ)
 | dc (x:cQ)
 | lenMap (x:cQ)
 | capSl (x:cQ)
 | dt (isMax:Bool) (xs:List cQ)
 | mkMeth (name:String) (tbl:List (Nat×Nat×Option (Bool×Nat))) (x:cQ)
 deriving Inhabited
inductive yX where
 | alloc (t:Nat) (cells:bu)
 | box (t:Nat) (x:cQ)
 | c7 (t size len:Nat) (zero:bu) (parts:List (Nat×cQ))
 | df (t size bytes:Nat) (zero:bu) (l c:cQ)
 | mkMap
 | strBytes (t:Nat) (x:cQ)
 deriving Inhabited
inductive aNU where
 | add64 | idxByte | idxStr
 deriving Inhabited
inductive XOp where
 | st (n:Nat) (x v:cQ)
 | call (f:cQ) (args:List cQ)
 | inv (tbl:List (Nat×Nat×Option (Bool×Nat))) (recv:cQ) (args:List cQ)
 | app (t size bytes:Nat) (s x:cQ)
 | copy (size:Nat) (d s:cQ)
 | mapUpd (e:tC) (m k v:cQ)
 | mapDel (e:tC) (m k:cQ)
 | clr (zero:bu) (x:cQ)
 | ext (k:aNU) (args:List cQ)
 | bad
 deriving Inhabited
inductive AOp where
 | q (o:QOp)
 | a (o:yX)
 | x (o:XOp)
 deriving Inhabited
structure AO where
 dst:Option Nat
 op:AOp
 grd:Option (Nat×Bool)
 mask:Nat      -- the operations before it (drawn regions)
 deriving Inhabited
inductive AC where
 | skip
 | seq (a b:AC)
 | cond (c:cQ) (a b:AC)
 | block (id:Nat) (c:AC)
 | loop (c:AC)
 | exit (id:Nat)
 | ret
 | reg (ops:List AO)
 | drw (ops:List AO)
 | rng (f:cQ) (params:cd) (assign body:AC)
 | dfr (ops:List AO) (f:cQ) (args:List cQ)
 deriving Inhabited
inductive RV where
 | t (i:Nat)
 | cell (a:Nat) (agg:Bool) (n:Nat)
 deriving Inhabited
structure fD where
 ntmps:Nat
 res:List RV
 body:AC
 deriving Inhabited
abbrev Fr:=T AV
inductive LSt where
 | ready | busy | done | exhausted
 deriving DecidableEq,Inhabited
inductive Out where
 | normal
 | exit (id:Nat)
 | ret
 deriving Inhabited
inductive AB where
 | cells (cs:bu) (opn:Bool) (size:Nat)     -- opn:there may be more room behind;size:the cells of an element then
 | ro (cs:bu)
 | map (es:List (AV×AV))
 | loop (st:LSt) (pend:Option Out) (fr:Fr) (params:cd) (assign body:AC)
 | dfd
 deriving Inhabited
structure St where
 h:T AB
 nx:Nat
def aA(i:Nat)(F:Fr):AV:=Option.rec (motive:=fun _=>AV) .undef (fun v=>v) (F.get i)
def aRb(v:AV)(_:Fr):AV:=v
def cQ.val(x:cQ):Fr->AV:=cQ.rec (motive:=fun _=>Fr->AV) aA aRb x
def dV(l:List cQ):Fr->bu:=List.rec (motive:=fun _=>Fr->bu) (fun _=>[]) (fun x _ a F=>x.val F::a F) l
def nth{α:Type}(l:List α):Nat->Option α:=List.rec (motive:=fun _=>Nat->Option α) (fun _=>none) (fun x _ a k=>bX (Nat.beq k 0) (some x) (a (Nat.sub k 1))) l
def aIY{α:Type}(l:List α):Nat->List α:=List.rec (motive:=fun _=>Nat->List α) (fun _=>[]) (fun x a b k=>bX (Nat.beq k 0) (x::a) (b (Nat.sub k 1))) l
def aIW{α:Type}(l:List α):Nat->Option (List α):=
 List.rec (motive:=fun _=>Nat->Option (List α)) (fun n=>bX (Nat.beq n 0) (some []) none)
  (fun x _ a n=>bX (Nat.beq n 0) (some []) (bD (a (Nat.sub n 1)) fun r=>some (x::r))) l
def aEO{α:Type}(vs:List α):List α->Option (List α):=
 List.rec (motive:=fun _=>List α->Option (List α)) (fun l=>some l)
  (fun v _ a l=>List.rec (motive:=fun _=>Option (List α)) none (fun _ b _=>bD (a b) fun r=>some (v::r)) l) vs
def put{α:Type}(l:List α):Nat->List α->Option (List α):=
 List.rec (motive:=fun _=>Nat->List α->Option (List α)) (fun k vs=>bX (Nat.beq k 0) (aEO vs []) none)
  (fun x a b k vs=>bX (Nat.beq k 0) (aEO vs (x::a)) (bD (b (Nat.sub k 1) vs) fun r=>some (x::r))) l
def mF{α:Type}(l:List α):Nat:=List.rec (motive:=fun _=>Nat) 0 (fun _ _ a=>Nat.succ a) l
def yQ{α:Type}(l m:List α):List α:=List.rec (motive:=fun _=>List α) m (fun x _ a=>x::a) l
def repeatL{α:Type}(z:List α)(n:Nat):List α:=Nat.rec (motive:=fun _=>List α) [] (fun _ a=>yQ z a) n
def cut{α:Type}(l:List α)(i n:Nat):Option (List α):=aIW (aIY l i) n
def qP(k:IntKind):Nat:=
 match k with
 | .i8=>127 | .i16=>32767 | .i32=>2147483647 | .i64=>9223372036854775807
 | .u8=>255 | .u16=>65535 | .u32=>4294967295 | .u64=>18446744073709551615
def nat(k:IntKind)(n:Nat):Int:=bX (Nat.ble n (qP k)) (.ofNat n) (k.wrap (.ofNat n))
def aDL(k:IntKind):Bool:=
 match k with
 | .i8 | .i16 | .i32 | .i64=>true
 | _=>false
def neg(k:IntKind)(n:Nat):Int:=bX (aDL k) (bX (Nat.ble n (qP k)) (.negSucc n) (k.wrap (.negSucc n))) (k.wrap (.negSucc n))
def zO(k:IntKind)(n:Nat):Bool:=Nat.ble n (qP k)
def aF9(k:IntKind)(n:Int):Int:=Int.rec (motive:=fun _=>Int) (fun m=>nat k m) (fun m=>neg k m) n
def aCq(k:IntKind)(a b:Nat):Int:=bX (Nat.ble b a) (nat k (Nat.sub a b)) (neg k (Nat.sub (Nat.sub b a) 1))
def aOI(k:IntKind)(x y:Int):Int:=
 Int.rec (motive:=fun _=>Int) (fun a=>Int.rec (motive:=fun _=>Int) (fun b=>nat k (Nat.add a b)) (fun b=>aCq k a (Nat.succ b)) y)
  (fun a=>Int.rec (motive:=fun _=>Int) (fun b=>aCq k b (Nat.succ a)) (fun b=>neg k (Nat.succ (Nat.add a b))) y) x
def aI6(k:IntKind)(x y:Int):Int:=
 Int.rec (motive:=fun _=>Int) (fun a=>Int.rec (motive:=fun _=>Int) (fun b=>aCq k a b) (fun b=>nat k (Nat.add a (Nat.succ b))) y)
  (fun a=>Int.rec (motive:=fun _=>Int) (fun b=>neg k (Nat.add a b)) (fun b=>aCq k b a) y) x
def aKH(k:IntKind)(x y:Int):Int:=
 Int.rec (motive:=fun _=>Int) (fun a=>Int.rec (motive:=fun _=>Int) (fun b=>nat k (Nat.mul a b)) (fun b=>aF9 k (Int.mul (.ofNat a) (.negSucc b))) y)
  (fun a=>aF9 k (Int.mul (.negSucc a) y)) x
def ieq(x y:Int):Bool:=
 Int.rec (motive:=fun _=>Bool) (fun a=>Int.rec (motive:=fun _=>Bool) (fun b=>Nat.beq a b) (fun _=>false) y)
  (fun a=>Int.rec (motive:=fun _=>Bool) (fun _=>false) (fun b=>Nat.beq a b) y) x
def ile(x y:Int):Bool:=
 Int.rec (motive:=fun _=>Bool) (fun a=>Int.rec (motive:=fun _=>Bool) (fun b=>Nat.ble a b) (fun _=>false) y)
  (fun a=>Int.rec (motive:=fun _=>Bool) (fun _=>true) (fun b=>Nat.ble b a) y) x
def keq(x y:IntKind):Bool:=Nat.beq (qP x) (qP y)
def aOC(x y:Bool):Bool:=bX x y (bX y false true)
def aVP(k:IntKind)(x y:Int):Option AV:=some (.int k (aOI k x y))
def aVj(k:IntKind)(x y:Int):Option AV:=some (.int k (aI6 k x y))
def aVO(k:IntKind)(x y:Int):Option AV:=some (.int k (aKH k x y))
def aNz(k:IntKind)(x y:Int):Option AV:=
 match x,y with
 | .ofNat a,.ofNat b=>bX (Nat.beq b 0) none (some (.int k (nat k (Nat.div a b))))
 | x,y=>bX (ieq y (.ofNat 0)) none (some (.int k (aF9 k (x.tdiv y))))
def aNT(k:IntKind)(x y:Int):Option AV:=
 match x,y with
 | .ofNat a,.ofNat b=>bX (Nat.beq b 0) none (some (.int k (.ofNat (Nat.mod a b))))
 | x,y=>bX (ieq y (.ofNat 0)) none (some (.int k (x.tmod y)))
def aCW(f:Nat->Nat->Nat)(k:IntKind)(x y:Int):Option AV:=
 match x,y with
 | .ofNat a,.ofNat b=>bX (zO k a) (bX (zO k b) (some (.int k (.ofNat (f a b)))) none) none
 | _,_=>none
def aVC:=aCW Nat.land
def iOr:=aCW Nat.lor
def aVy:=aCW Nat.xor
def aVH(_:IntKind)(x y:Int):Option AV:=some (.bool (ieq x y))
def aVq(_:IntKind)(x y:Int):Option AV:=some (.bool (bX (ieq x y) false true))
def aVw(_:IntKind)(x y:Int):Option AV:=some (.bool (bX (ile y x) false true))
def aVL(_:IntKind)(x y:Int):Option AV:=some (.bool (ile x y))
def aVd(_:IntKind)(x y:Int):Option AV:=some (.bool (bX (ile x y) false true))
def aUX(_:IntKind)(x y:Int):Option AV:=some (.bool (ile y x))
def aOj(_:IntKind)(_ _:Int):Option AV:=none
def aOg(op:BinOp):IntKind->Int->Int->Option AV:=
 BinOp.rec (motive:=fun _=>IntKind->Int->Int->Option AV) aVP aVj aVO aNz aNT aVC iOr aVy aOj aOj aOj aVH aVq aVw aVL aVd aUX op
def aGz(op:BinOp)(k:IntKind)(x:Int)(b:Nat):Option AV:=
 let n:=bX (Nat.ble b k.bits) b k.bits
 match op with
 | .shl=>some (.int k (aKH k x (.ofNat (Nat.pow 2 n))))
 | .shr=>some (.int k (x.fdiv (.ofNat (Nat.pow 2 n))))
 | _=>none
def aBN(op:BinOp)(k:IntKind)(x y:Int):Option AV:=
 match y with
 | .ofNat b=>aGz op k x b
 | _=>none
def iE(op:BinOp):Bool:=BinOp.rec (motive:=fun _=>Bool) false false false false false false false false true true false false false false false false false op
def rB:cd->cd->Bool
 | _,[]=>false
 | [],_::_=>true
 | a::x,b::y=>bX (Nat.blt a b) true (bX (Nat.beq a b) (rB x y) false)
def pQ:cd->cd->Bool
 | [],[]=>true
 | a::x,b::y=>bX (Nat.beq a b) (pQ x y) false
 | _,_=>false
def aJM(op:BinOp)(a b:cd):Option AV:=
 match op with
 | .add=>bX (Nat.ble (mF a+mF b) 9223372036854775807) (some (.str (yQ a b))) none
 | .eql=>some (.bool (pQ a b))
 | .neq=>some (.bool (!pQ a b))
 | .lss=>some (.bool (rB a b))
 | .leq=>some (.bool (rB a b || pQ a b))
 | .gtr=>some (.bool (!(rB a b || pQ a b)))
 | .geq=>some (.bool (!rB a b))
 | _=>none
def partOf(agg:Bool)(cs:bu)(off n:Nat):Option AV:=
 bX agg (bD (cut cs off n) fun r=>some (.agg r)) (nth cs off)
def xZ:EqP->AV->AV->Option Bool
 | .bool,.bool a,.bool b=>some (aOC a b)
 | .int,.int k a,.int k' b=>bX (keq k k') (some (ieq a b)) none
 | .str,.str a,.str b=>some (pQ a b)
 | .ptr,.nilp,.nilp=>some true
 | .ptr,.nilp,.ptr _ _=>some false
 | .ptr,.ptr _ _,.nilp=>some false
 | .slice,.cr,.cr=>some true
 | .slice,.cr,.sl .. =>some false
 | .slice,.sl ..,.cr=>some false
 | .slice,.cr,.emp=>some false
 | .slice,.emp,.cr=>some false
 | .map,.nilmap,.nilmap=>some true
 | .map,.nilmap,.map _=>some false
 | .map,.map _,.nilmap=>some false
 | .func,.nilfn,.nilfn=>some true
 | .func,.nilfn,.fn .. =>some false
 | .func,.fn ..,.nilfn=>some false
 | .iface,.niliface,.iface _ _=>some false
 | .iface,.iface _ _,.niliface=>some false
 | _,_,_=>none
def eqs:List (Nat×EqP)->bu->bu->Option Bool
 | [],_,_=>some true
 | (off,e)::c,a,b=>
  match nth a off,nth b off with
  | some x,some y=>match xZ e x y with
   | some true=>eqs c a b
   | some false=>some false
   | none=>none
  | _,_=>none
def eqv:tC->AV->AV->Option Bool
 | .p e,x,y=>xZ e x y
 | .struct a,.agg b,.agg c=>bX (Nat.beq (mF b) (mF a)) (bX (Nat.beq (mF c) (mF a)) (eqs a b c) none) none
 | _,_,_=>none
def aQK(op:BinOp)(e:tC)(x y:AV):Option AV:=
 match op with
 | .eql=>bD (eqv e x y) fun b=>some (.bool b)
 | .neq=>bD (eqv e x y) fun b=>some (.bool (bX b false true))
 | _=>none
def fL(op:BinOp)(k:IntKind)(a:Int)(k':IntKind)(b:Int):Option AV:=
 bX (iE op) (aBN op k a b) (bX (keq k k') (aOg op k a b) none)
def aHl(v:AV):Option (IntKind×Int):=
 match v with
 | .int k a=>some (k,a)
 | _=>none
def aGT(v:AV):Option (cd):=
 match v with
 | .str s=>some s
 | _=>none
def mL(op:BinOp)(e:tC)(x y:AV):Option AV:=
 match aHl x,aHl y with
 | some a,some b=>fL op a.1 a.2 b.1 b.2
 | _,_=>match aGT x,aGT y with
  | some a,some b=>aJM op a b
  | _,_=>aQK op e x y
def unV(op:UnOp)(x:AV):Option AV:=
 match op,x with
 | .neg,.int k n=>some (.int k (aI6 k (.ofNat 0) n))
 | .not,.bool b=>some (.bool (bX b false true))
 | _,_=>none
def nH(b:AB):Option (bu):=
 match b with
 | .cells cs _ _=>some cs
 | .ro cs=>some cs
 | _=>none
def cG(h:T AB)(b:Nat):Option (bu):=bD (h.get b) nH
def aAi(h:T AB)(b off n:Nat):Option (bu):=bD (cG h b) fun cs=>cut cs off n
def nJ(h:T AB)(b off:Nat):Option AV:=bD (cG h b) fun cs=>nth cs off
def qK(agg:Bool)(n:Nat)(h:T AB)(b off:Nat):Option AV:=
 bX agg (bD (aAi h b off n) fun cs=>some (.agg cs)) (nJ h b off)
def eO(zero:bu):List (Nat×Nat×AV)->Option (bu)
 | []=>some zero
 | (off,n,v)::ps=>bD v.cells fun cs=>bX (Nat.beq (mF cs) n) (bD (put zero off cs) fun z=>eO z ps) none
def bytesOf:bu->Option (cd)
 | []=>some []
 | .int .u8 (.ofNat n)::vs=>bX (Nat.ble n 255) (bD (bytesOf vs) fun r=>some (n::r)) none
 | _::_=>none
def gL(v:AV):Option Nat:=
 match v with
 | .int _ (.ofNat n)=>some n
 | _=>none
def jO(F:Fr)(d:Nat)(x:Option cQ):Option Nat:=
 match x with
 | none=>some d
 | some x=>gL (x.val F)
def sM(e:tC)(k:AV):List (AV×AV)->Nat->Option (Option (Nat×AV))
 | [],_=>some none
 | (k',v)::a,i=>bD (eqv e k k') fun b=>bX b (some (some (i,v))) (sM e k a (Nat.succ i))
def pL(e:tC)(k:AV)(a:List (AV×AV)):Option (Option (Nat×AV)):=bD (eqv e k k) fun _=>sM e k a 0
def tS(b:AB):Option (List (AV×AV)):=
 match b with
 | .map a=>some a
 | _=>none
def uW(h:T AB)(m:AV):Option (List (AV×AV)):=
 match m with
 | .nilmap=>some []
 | .map b=>bD (h.get b) tS
 | _=>none
def lM(c:Bool):bu->AV->Option AV
 | [],x=>some x
 | .int k' b::vs,.int k a=>bX (keq k k')
   (lM c vs (.int k (bX c (bX (ile b a) a b) (bX (ile a b) a b)))) none
 | _,_=>none
abbrev QF:=Fr->T AB->Option AV
def qMv(x:cQ):QF:=fun F _=>some (x.val F)
def yV(v:AV)(a b:cQ)(F:Fr):Option AV:=
 match v with
 | .bool t=>some (bX t (a.val F) (b.val F))
 | _=>none
def aTL(c a b:cQ):QF:=fun F _=>yV (c.val F) a b F
def dN(F:Fr):List (Nat×Nat×cQ)->List (Nat×Nat×AV)
 | []=>[]
 | (a,b,x)::ps=>(a,b,x.val F)::dN F ps
def aRj(zero:bu)(ps:List (Nat×Nat×cQ)):QF:=fun F _=>bD (eO zero (dN F ps)) fun cs=>some (.agg cs)
def eE(v:AV)(agg:Bool)(n:Nat)(h:T AB):Option AV:=
 match v with
 | .ptr b off=>qK agg n h b off
 | _=>none
def qLd(agg:Bool)(n:Nat)(x:cQ):QF:=fun F h=>eE (x.val F) agg n h
def aEZ{α:Type}(t:Nat):List (Nat×α)->Option α
 | []=>none
 | (u,a)::l=>bX (Nat.beq t u) (some a) (aEZ t l)
def aWa(n:String)(a:List (Nat×Nat×Option (Bool×Nat)))(v:AV):Option AV:=
 match v with
 | .iface t w=>bD (aEZ t a) fun r=>match r.2,w with
  | none,_=>some (.mth n a v)
  | some _,.ptr _ _=>some (.mth n a v)
  | _,_=>none
 | _=>none
def wN(v:AV):Option AV:=
 match v with
 | .ptr b o=>some (.ptr b o)
 | .fn f a b=>some (.fn f a b)
 | .iface t v=>some (.iface t v)
 | .yld b=>some (.yld b)
 | _=>none
def aQc(x:cQ):QF:=fun F _=>wN (x.val F)
def aUV(op:BinOp)(e:tC)(x y:cQ):QF:=fun F _=>mL op e (x.val F) (y.val F)
def qUn(op:UnOp)(x:cQ):QF:=fun F _=>unV op (x.val F)
def aKf(h:T AB)(b off len:Nat):Option AV:=bD (aAi h b off len) fun cs=>bD (bytesOf cs) fun s=>some (.str s)
def aD5(k:aKI)(v:AV)(h:T AB):Option AV:=
 match k,v with
 | .int k,.int _ n=>some (.int k (aF9 k n))
 | .jo,.str s=>some (.str s)
 | .bytesToStr,.cr=>some (.str [])
 | .bytesToStr,.emp=>some (.str [])
 | .bytesToStr,.sl b off len _ _=>aKf h b off len
 | .intToStr,.int _ (.ofNat n)=>bX (Nat.ble n 127) (some (.str [n])) none
 | _,_=>none
def aS8(k:aKI)(x:cQ):QF:=fun F h=>aD5 k (x.val F) h
def aND(t:Nat)(x:cQ):QF:=fun F _=>some (.iface t (x.val F))
def aP4(f:Nat)(first cap:List cQ):QF:=fun F _=>some (.fn f (dV first F) (dV cap F))
def aQN(s:cd)(lo hi mx:Option cQ)(F:Fr):Option AV:=
 match mx with
 | some _=>none
 | none=>bD (jO F (mF s) hi) fun h'=>bD (jO F 0 lo) fun l=>
   bX (Nat.ble h' (mF s)) (bX (Nat.ble l h') (bD (cut s l (h' - l)) fun r=>some (.str r)) none) none
def kT(len cap:Nat)(lo hi mx:Option cQ)(F:Fr):Option (Nat×Nat×Nat):=
 bD (jO F cap mx) fun m=>bD (jO F len hi) fun h=>bD (jO F 0 lo) fun l=>
  bX (Nat.ble m cap) (bX (Nat.ble h m) (bX (Nat.ble l h) (some (l,h,m)) none) none) none
def aFE(size b off len cap:Nat)(o:Bool)(lo hi mx:Option cQ)(F:Fr):Option AV:=
 bD (kT len cap lo hi mx F) fun x=>
  let a:=bX o mx.isNone false
  bX (Nat.beq x.2.2 x.1) (bX a (some .emp) (some (.sl b off (x.2.1 - x.1) (x.2.2 - x.1) false)))
   (some (.sl b (off+x.1 * size) (x.2.1 - x.1) (x.2.2 - x.1) a))
def aLa(lo hi mx:Option cQ)(F:Fr):Option AV:=bD (kT 0 0 lo hi mx F) fun _=>some .emp
def aKQ(lo hi mx:Option cQ)(F:Fr):Option AV:=bD (kT 0 0 lo hi mx F) fun _=>some .cr
def aNh(n size b off:Nat)(lo hi mx:Option cQ)(F:Fr):Option AV:=
 bD (kT n n lo hi mx F) fun x=>
  bX (Nat.beq x.2.2 x.1) (some (.sl b off (x.2.1 - x.1) (x.2.2 - x.1) false))
   (some (.sl b (off+x.1 * size) (x.2.1 - x.1) (x.2.2 - x.1) false))
def rS(k:SlK)(v:AV)(lo hi mx:Option cQ)(F:Fr):Option AV:=
 match k,v with
 | .str,.str s=>aQN s lo hi mx F
 | .slice size,.sl b off len cap o=>aFE size b off len cap o lo hi mx F
 | .slice _,.cr=>aKQ lo hi mx F
 | .slice _,.emp=>aLa lo hi mx F
 | .arr n size,.ptr b off=>aNh n size b off lo hi mx F
 | _,_=>none
def aVb(k:SlK)(x:cQ)(lo hi mx:Option cQ):QF:=fun F _=>rS k (x.val F) lo hi mx F
def aAE(v:AV)(off:Nat):Option AV:=
 match v with
 | .ptr b o=>some (.ptr b (o+off))
 | _=>none
def aSm(off:Nat)(x:cQ):QF:=fun F _=>aAE (x.val F) off
def aJD(v:AV)(agg:Bool)(off n:Nat):Option AV:=
 match v with
 | .agg cs=>partOf agg cs off n
 | _=>none
def aVB(agg:Bool)(off n:Nat)(x:cQ):QF:=fun F _=>aJD (x.val F) agg off n
def eY(k:IxK)(v:AV)(i:Nat):Option AV:=
 match k,v with
 | .arr n size,.ptr b off=>bX (Nat.blt i n) (some (.ptr b (off+i * size))) none
 | .slice size,.sl b off len _ _=>bX (Nat.blt i len) (some (.ptr b (off+i * size))) none
 | _,_=>none
def aRg(k:IxK)(x a:cQ):QF:=fun F _=>bD (gL (a.val F)) fun i=>eY k (x.val F) i
def aGG(v:AV)(agg:Bool)(n size i:Nat):Option AV:=
 match v with
 | .agg cs=>bX (Nat.blt i n) (partOf agg cs (i * size) size) none
 | _=>none
def aQj(agg:Bool)(n size:Nat)(x a:cQ):QF:=fun F _=>bD (gL (a.val F)) fun i=>aGG (x.val F) agg n size i
def aG8(v:AV)(i:Nat):Option AV:=
 match v with
 | .str s=>bD (nth s i) fun b=>some (.int .u8 (.ofNat b))
 | _=>none
def aQp(x a:cQ):QF:=fun F _=>bD (gL (a.val F)) fun i=>aG8 (x.val F) i
def aFi(ok:Bool)(v:AV)(b:Bool):AV:=bX ok (.tup [v,.bool b]) v
def pM(r:Option (Nat×AV))(zero:AV)(ok:Bool):Option AV:=
 match r with
 | some (_,v)=>some (aFi ok v true)
 | none=>some (aFi ok zero false)
def aPC(a:tC)(zero:AV)(ok:Bool)(m key:cQ):QF:=fun F h=>
 bD (uW h (m.val F)) fun b=>bD (pL a (key.val F) b) fun r=>pM r zero ok
def aEI(v:AV)(t:Nat)(zero:AV)(ok:Bool):Option AV:=
 match v with
 | .iface a v=>bX (Nat.beq t a) (some (aFi ok v true)) (bX ok (some (.tup [zero,.bool false])) none)
 | .niliface=>bX ok (some (.tup [zero,.bool false])) none
 | _=>none
def aNy(t:Nat)(zero:AV)(ok:Bool)(x:cQ):QF:=fun F _=>aEI (x.val F) t zero ok
def nG(v:AV)(i:Nat):Option AV:=
 match v with
 | .tup vs=>nth vs i
 | _=>none
def aON(x:cQ)(i:Nat):QF:=fun F _=>nG (x.val F) i
def aQu(n:Nat):QF:=fun _ _=>some (.int .i64 (.ofNat n))
def aGR(v:AV):Option AV:=
 match v with
 | .str s=>some (.int .i64 (.ofNat (mF s)))
 | _=>none
def aQv(x:cQ):QF:=fun F _=>aGR (x.val F)
def lW(v:AV):Option AV:=
 match v with
 | .cr=>some (.int .i64 (.ofNat 0))
 | .emp=>some (.int .i64 (.ofNat 0))
 | .sl _ _ n _ _=>some (.int .i64 (.ofNat n))
 | _=>none
def aSo(x:cQ):QF:=fun F _=>lW (x.val F)
def aPB(x:cQ):QF:=fun F h=>bD (uW h (x.val F)) fun a=>some (.int .i64 (.ofNat (mF a)))
def aJH(v:AV):Option AV:=
 match v with
 | .cr=>some (.int .i64 (.ofNat 0))
 | .sl _ _ _ c false=>some (.int .i64 (.ofNat c))
 | _=>none
def aRy(x:cQ):QF:=fun F _=>aJH (x.val F)
def oB(a:Bool)(l:bu):Option AV:=
 match l with
 | []=>none
 | v::vs=>lM a vs v
def aP3(n:String)(a:List (Nat×Nat×Option (Bool×Nat)))(x:cQ):QF:=fun F _=>some (.mth n a (x.val F))
def aP8(mx:Bool)(a:List cQ):QF:=fun F _=>oB mx (dV a F)
def iC(q:QOp):QF:=
 QOp.rec (motive:=fun _=>QF) qMv aTL aRj qLd aQc aUV qUn aS8 aND aP4 aVb aSm aVB aRg aQj aQp aPC aNy aON aQu aQv aSo aPB aRy aP8 aP3 q
abbrev AF:=Fr->Nat->Option (AV×AB)
def room:Nat:=140737488355328
def ay{p:Prop}(h:p:=by unfold room;omega):p:=h
def aR0(_:Nat)(cells:bu):AF:=fun _ id=>some (.ptr id 0,.cells cells false 0)
def aVo(_:Nat)(x:cQ):AF:=fun F id=>bD (x.val F).cells fun cs=>some (.ptr id 0,.cells cs false 0)
def lN(size:Nat)(F:Fr):List (Nat×cQ)->List (Nat×Nat×AV)
 | []=>[]
 | (i,x)::ps=>(i * size,size,x.val F)::lN size F ps
def aPN(_ size len:Nat)(zero:bu)(ps:List (Nat×cQ)):AF:=fun F id=>
 bD (eO (repeatL zero len) (lN size F ps)) fun cs=>some (.sl id 0 len len false,.cells cs false 0)
def zB(_ _ bytes:Nat)(zero:bu)(l c:cQ):AF:=fun F id=>
 bD (gL (l.val F)) fun l=>bD (gL (c.val F)) fun c=>
  bX (Nat.ble l c) (bX (Nat.ble c room) (bX (Nat.ble (bytes * c) room) (some (.sl id 0 l c false,.cells (repeatL zero c) false 0)) none) none) none
def aSd:AF:=fun _ id=>some (.map id,.map [])
def byteCells:cd->bu
 | []=>[]
 | b::a=>.int .u8 (.ofNat b)::byteCells a
def aB4(v:AV)(id:Nat):Option (AV×AB):=
 match v with
 | .str s=>some (.sl id 0 (mF s) (mF s) true,.cells (byteCells s) true 1)
 | _=>none
def aMJ(_:Nat)(x:cQ):AF:=fun F id=>aB4 (x.val F) id
def uI(a:yX):AF:=yX.rec (motive:=fun _=>AF) aR0 aVo aPN zB aSd aMJ a
def aCg(bl:AB)(S:St)(b off:Nat)(vs:bu):Option St:=
 match bl with
 | .cells cs o s=>bD (put cs off vs) fun cs'=>some ⟨S.h.set b (some (.cells cs' o s)),S.nx⟩
 | _=>none
def uB(S:St)(b off:Nat)(vs:bu):Option St:=bD (S.h.get b) fun bl=>aCg bl S b off vs
def eS(v:AV)(h:T AB)(size n:Nat):Option (bu):=
 match v with
 | .sl b off _ _ _=>aAi h b off (n * size)
 | .cr=>bX (Nat.beq n 0) (some []) none
 | .emp=>bX (Nat.beq n 0) (some []) none
 | .str s=>bX (Nat.beq size 1) (bD (aIW s n) fun r=>some (byteCells r)) none
 | _=>none
def mY(v:AV):Option Nat:=
 match v with
 | .sl _ _ n _ _=>some n
 | .cr=>some 0
 | .emp=>some 0
 | .str s=>some (mF s)
 | _=>none
def grown(h:T AB)(nx a size:Nat)(cs:bu):Option (AV×St):=
 some (.sl nx 0 a a true,⟨h.set nx (some (.cells cs true size)),Nat.succ nx⟩)
def xJ(bl:AB)(size b off len cap:Nat)(o:Bool)(n:Nat)(new:bu)(S:St):Option (AV×St):=
 match bl with
 | .cells cs a sz=>bD (cut cs off (len * size)) fun old=>
   bX o
    (bX a (bX (Nat.beq sz size) (bX (Nat.beq (off+cap * size) (mF cs)) (grown (S.h.set b none) S.nx (len+n) size (yQ old new)) none) none) none)
    (grown S.h S.nx (len+n) size (yQ old new))
 | .ro cs=>bX o none (bD (cut cs off (len * size)) fun old=>grown S.h S.nx (len+n) size (yQ old new))
 | _=>none
def lP(bytes size b off len cap:Nat)(o:Bool)(n:Nat)(new:bu)(S:St):Option (AV×St):=
 bX (Nat.ble (len+n) cap)
  (bX (Nat.beq n 0) (some (.sl b off len cap o,S)) (bD (uB S b (off+len * size) new) fun S'=>some (.sl b off (len+n) cap o,S')))
  (bX (Nat.ble (len+n) room) (bX (Nat.ble ((len+n) * bytes) room) (bD (S.h.get b) fun bl=>xJ bl size b off len cap o n new S) none) none)
def qV(bytes size n:Nat)(new:bu)(S:St):Option (AV×St):=
 bX (Nat.beq n 0) (some (.cr,S))
  (bX (Nat.ble n room) (bX (Nat.ble (n * bytes) room) (grown S.h S.nx n size new) none) none)
def aAz(s:AV)(bytes size n:Nat)(new:bu)(S:St):Option (AV×St):=
 match s with
 | .cr=>qV bytes size n new S
 | .emp=>bX (Nat.beq n 0) (some (.emp,S)) none
 | .sl b off len cap o=>lP bytes size b off len cap o n new S
 | _=>none
def gQ(bytes size:Nat)(s x:AV)(S:St):Option (AV×St):=
 bD (mY x) fun n=>bD (eS x S.h size n) fun new=>aAz s bytes size n new S
def qM{α:Type}(f:α->α):List α->Nat->List α
 | [],_=>[]
 | x::a,k=>bX (Nat.beq k 0) (f x::a) (x::qM f a (k - 1))
structure bO where
 F:Fr
 inr:Bool
abbrev gD:=AV->bu->St->Option (AV×St)
abbrev XF:=gD->Fr->St->Option (AV×St)
def qZ(p:AV)(n:Nat)(cs:bu)(S:St):Option (AV×St):=
 match p with
 | .ptr b off=>bX (Nat.beq (mF cs) n) (bD (uB S b off cs) fun S'=>some (.undef,S')) none
 | _=>none
def xSt(n:Nat)(x v:cQ):XF:=fun _ F S=>bD (v.val F).cells fun cs=>qZ (x.val F) n cs S
def aUH(f:cQ)(args:List cQ):XF:=fun call F S=>call (f.val F) (dV args F) S
def aMU(v:AV)(f:Nat)(agg:Bool)(n:Nat)(args:bu)(call:gD)(S:St):Option (AV×St):=
 match v with
 | .ptr b off=>bD (qK agg n S.h b off) fun r=>call (.fn f [r] []) args S
 | _=>none
def aJ6(r:Nat×Option (Bool×Nat))(v:AV)(args:bu)(call:gD)(S:St):Option (AV×St):=
 match r with
 | (f,none)=>call (.fn f [v] []) args S
 | (f,some (agg,n))=>aMU v f agg n args call S
def aJ2(v:AV)(a:List (Nat×Nat×Option (Bool×Nat)))(args:bu)(call:gD)(S:St):Option (AV×St):=
 match v with
 | .iface t v=>bD (aEZ t a) fun r=>aJ6 r v args call S
 | _=>none
def aUW(a:List (Nat×Nat×Option (Bool×Nat)))(recv:cQ)(args:List cQ):XF:=fun call F S=>aJ2 (recv.val F) a (dV args F) call S
def aVx(_ size bytes:Nat)(s x:cQ):XF:=fun _ F S=>gQ bytes size (s.val F) (x.val F) S
def copyV(d:AV)(size m:Nat)(s:AV)(S:St):Option (AV×St):=
 match d with
 | .cr=>some (.int .i64 (.ofNat 0),S)
 | .emp=>some (.int .i64 (.ofNat 0),S)
 | .sl b off len _ _=>
  let n:=bX (Nat.ble m len) m len
  bX (Nat.beq n 0) (some (.int .i64 (.ofNat 0),S)) (bD (eS s S.h size n) fun cs=>bD (uB S b off cs) fun S'=>some (.int .i64 (.ofNat n),S'))
 | _=>none
def aKi(v:AV):Option Nat:=
 match v with
 | .sl _ _ n _ _=>some n
 | .cr=>some 0
 | .emp=>some 0
 | _=>none
def aTP(size:Nat)(d s:cQ):XF:=fun _ F S=>bD (aKi (s.val F)) fun m=>copyV (d.val F) size m (s.val F) S
def aAv(r:Option (Nat×AV))(a:List (AV×AV))(k v:AV):List (AV×AV):=
 match r with
 | some (i,_)=>qM (fun _=>(k,v)) a i
 | none=>yQ a [(k,v)]
def rJ(m:AV)(c:tC)(k v:AV)(S:St):Option (AV×St):=
 match m with
 | .map b=>bD (bD (S.h.get b) tS) fun a=>bD (pL c k a) fun r=>some (.undef,⟨S.h.set b (some (.map (aAv r a k v))),S.nx⟩)
 | _=>none
def aQk(a:tC)(m k v:cQ):XF:=fun _ F S=>rJ (m.val F) a (k.val F) (v.val F) S
def aQy(r:Option (Nat×AV))(a:List (AV×AV))(b:Nat)(S:St):Option (AV×St):=
 match r with
 | some (i,_)=>some (.undef,⟨S.h.set b (some (.map (a.eraseIdx i))),S.nx⟩)
 | none=>some (.undef,S)
def aHw(m:AV)(c:tC)(k:AV)(S:St):Option (AV×St):=
 match m with
 | .map b=>bD (bD (S.h.get b) tS) fun a=>bD (pL c k a) fun r=>aQy r a b S
 | .nilmap=>some (.undef,S)
 | _=>none
def aPF(a:tC)(m k:cQ):XF:=fun _ F S=>aHw (m.val F) a (k.val F) S
def aRs(x:AV)(zero:bu)(S:St):Option (AV×St):=
 match x with
 | .cr=>some (.undef,S)
 | .emp=>some (.undef,S)
 | .sl b off n _ _=>bX (Nat.beq n 0) (some (.undef,S)) (bD (uB S b off (repeatL zero n)) fun S'=>some (.undef,S'))
 | _=>none
def aU8(zero:bu)(x:cQ):XF:=fun _ F S=>aRs (x.val F) zero S
def aRX(a b c:Nat):AV:=
 .tup [.int .u64 (.ofNat (Nat.mod (Nat.add (Nat.add a b) c) 18446744073709551616)),.int .u64 (.ofNat (Nat.div (Nat.add (Nat.add a b) c) 18446744073709551616))]
def aHZ(c:Nat):cd->Nat->Int
 | [],_=>.negSucc 0
 | b::a,i=>bX (Nat.beq b c) (.ofNat i) (aHZ c a (Nat.succ i))
def aRz(k:aNU)(args:bu):Option AV:=
 match k,args with
 | .add64,[.int .u64 (.ofNat a),.int .u64 (.ofNat b),.int .u64 (.ofNat c)]=>bX (Nat.ble c 1) (some (aRX a b c)) none
 | .idxByte,[.str s,.int .u8 (.ofNat c)]=>bX (Nat.ble c 255) (some (.int .i64 (aHZ c s 0))) none
 | _,_=>none
def aVp(k:aNU)(args:List cQ):XF:=fun _ F S=>bD (aRz k (dV args F)) fun v=>some (v,S)
def aVl:XF:=fun _ _ _=>none
def evX(x:XOp):XF:=XOp.rec (motive:=fun _=>XF) xSt aUH aUW aVx aTP aQk aPF aU8 aVp aVl x
def isB(v:AV)(w:Bool):Bool:=
 match v with
 | .bool b=>aOC b w
 | _=>false
def cT(d:Option Nat):Fr->AV->Fr:=Option.rec (motive:=fun _=>Fr->AV->Fr) (fun F _=>F) (fun i F v=>F.set i (some v)) d
def fX(g:Option (Nat×Bool)):Fr->Bool:=Option.rec (motive:=fun _=>Fr->Bool) (fun _=>true) (fun p F=>isB (aA p.1 F) p.2) g
abbrev OF:=Option Nat->gD->Fr->St->Option (Fr×St)
def oQ(q:QOp):OF:=fun d _ F S=>bD (iC q F S.h) fun v=>some (cT d F v,S)
def oA(a:yX):OF:=fun d _ F S=>bD (uI a F S.nx) fun r=>some (cT d F r.1,⟨S.h.set S.nx (some r.2),Nat.succ S.nx⟩)
def oX(x:XOp):OF:=fun d call F S=>bD (evX x call F S) fun r=>some (cT d F r.1,r.2)
def oOp(o:AOp):OF:=AOp.rec (motive:=fun _=>OF) oQ oA oX o
def aFe(o:AO)(call:gD)(F:Fr)(S:St):Option (Fr×St):=
 bX (fX o.grd F) (oOp o.op o.dst call F S) (some (cT o.dst F .undef,S))
def wR(l:List AO):gD->Fr->St->Option (Fr×St):=
 List.rec (motive:=fun _=>gD->Fr->St->Option (Fr×St)) (fun _ F S=>some (F,S)) (fun o _ a call F S=>bD (aFe o call F S) fun r=>a call r.1 r.2) l
structure jD where
 i:Nat
 id:Nat
 b:AB
def cN(mask:Nat):List jD->T AB->List jD×T AB
 | [],h=>([],h)
 | p::ps,h=>bX (Nat.testBit mask p.i) (cN mask ps (h.set p.id (some p.b))) (p::(cN mask ps h).1,(cN mask ps h).2)
structure mC where
 q:QOp
 F:Fr
 v:AV
 i:Nat
 mask:Nat
def dU(q:QOp):Bool:=
 match q with
 | .ld .. | .lookup .. | .lenMap .. =>true
 | .conv .bytesToStr _=>true
 | _=>false
structure DS where
 F:Fr
 S:St
 ps:List jD
 hs:List (Nat×Nat×T AB)
 ls:List mC
abbrev DF:=AO->Nat->Nat->gD->DS->Option DS
def dQ(q:QOp):DF:=fun o i _ _ D=>bD (iC q D.F D.S.h) fun v=>
 some ⟨cT o.dst D.F v,D.S,D.ps,D.hs,bX (dU q) (⟨q,D.F,v,i,o.mask⟩::D.ls) D.ls⟩
def dA(a:yX):DF:=fun o i base _ D=>bD (uI a D.F (base+i)) fun r=>
 some ⟨cT o.dst D.F r.1,D.S,⟨i,base+i,r.2⟩::D.ps,D.hs,D.ls⟩
def kN(a:List (Nat×Nat×T AB))(mask:Nat):Bool:=
 match a with
 | []=>true
 | e::_=>Nat.testBit mask e.1
def dX(x:XOp):DF:=fun o i _ call D=>
 bX (kN D.hs o.mask) (bD (evX x call D.F ⟨(cN o.mask D.ps D.S.h).2,D.S.nx⟩) fun r=>
  some ⟨cT o.dst D.F r.1,r.2,(cN o.mask D.ps D.S.h).1,(i,o.mask,r.2.h)::D.hs,D.ls⟩) none
def dOp(o:AOp):DF:=AOp.rec (motive:=fun _=>DF) dQ dA dX o
def tW(o:AO)(i base:Nat)(call:gD)(D:DS):Option DS:=
 bX (fX o.grd D.F) (dOp o.op o i base call D) (some ⟨cT o.dst D.F .undef,D.S,D.ps,D.hs,D.ls⟩)
def wY:List AO->Nat->Nat->gD->DS->Option DS
 | [],_,_,_,D=>some D
 | o::os,i,base,call,D=>bD (tW o i base call D) fun a=>wY os (i+1) base call a
mutual
def cI:AV->AV->Bool
 | .bool a,.bool b=>aOC a b
 | .int k a,.int j b=>bX (keq k j) (ieq a b) false
 | .str a,.str b=>pQ a b
 | .ptr a b,.ptr c d=>bX (Nat.beq a c) (Nat.beq b d) false
 | .nilp,.nilp=>true
 | .sl a b c d e,.sl a' h i l m=>Nat.beq a a' && Nat.beq b h && Nat.beq c i && Nat.beq d l && aOC e m
 | .cr,.cr=>true
 | .emp,.emp=>true
 | .map a,.map b=>Nat.beq a b
 | .nilmap,.nilmap=>true
 | .fn f a b,.fn g c d=>Nat.beq f g && kG a c && kG b d
 | .nilfn,.nilfn=>true
 | .yld a,.yld b=>Nat.beq a b
 | .iface t v,.iface u w=>Nat.beq t u && cI v w
 | .niliface,.niliface=>true
 | .agg a,.agg b=>kG a b
 | .tup a,.tup b=>kG a b
 | _,_=>false
def kG:bu->bu->Bool
 | [],[]=>true
 | a::x,b::y=>bX (cI a b) (kG x y) false
 | _,_=>false
end
def pE(v:AV)(r:Option AV):Bool:=
 match r with
 | some w=>cI w v
 | none=>false
def eU(l:mC):List (Nat×Nat×T AB)->T AB->Bool
 | [],h=>pE l.v (iC l.q l.F h)
 | (i,m,h')::r,h=>
  bX (Nat.testBit l.mask i) (eU l r h')
   (bX (pE l.v (iC l.q l.F h)) (bX (Nat.testBit m l.i) true (eU l r h')) false)
def iF(a:T AB)(b:List (Nat×Nat×T AB)):List mC->Bool
 | []=>true
 | l::ls=>bX (eU l b a) (iF a b ls) false
def aBi(a:T AB)(n:Nat)(D:DS):Option (Fr×St):=
 bX (iF a D.hs.reverse D.ls) (some (D.F,⟨(cN (2 ^ n - 1) D.ps D.S.h).2,D.S.nx⟩)) none
def zE(a:List AO)(call:gD)(F:Fr)(S:St):Option (Fr×St):=
 bD (wY a 0 S.nx call ⟨F,⟨S.h,S.nx+mF a⟩,[],[],[]⟩) fun D=>aBi S.h (mF a) D
structure Evs where
 code:AC->bO->St->Option (Out×bO×St)
 call:gD
abbrev CF:=Evs->bO->St->Option (Out×bO×St)
def pK:cd->bu->Fr->Option Fr
 | [],[],F=>some F
 | p::ps,v::vs,F=>pK ps vs (F.set p (some v))
 | _,_,_=>none
def sN:bu->Nat->Fr->Fr
 | [],_,F=>F
 | v::vs,i,F=>sN vs (i+1) (F.set i (some v))
def aL2(o:Option Out):Option AC:=
 match o with
 | none=>some .skip
 | some .ret=>some .ret
 | some (.exit id)=>some (.exit id)
 | some .normal=>none
def aUG:CF:=fun _ A S=>some (.normal,A,S)
def uQ(b:AC)(a:Evs)(r:Out×bO×St):Option (Out×bO×St):=
 match r.1 with
 | .normal=>a.code b r.2.1 r.2.2
 | _=>some r
def aVi(a b:AC):CF:=fun c A S=>bD (c.code a A S) (uQ b c)
def aCF(v:AV)(a b:AC):CF:=fun c A S=>
 match v with
 | .bool t=>c.code (bX t a b) A S
 | _=>none
def aTt(c:cQ)(a b:AC):CF:=fun d A S=>aCF (c.val A.F) a b d A S
def uC(id:Nat)(r:Out×bO×St):Option (Out×bO×St):=
 match r.1 with
 | .exit i=>bX (Nat.beq i id) (some (.normal,r.2)) (some r)
 | _=>some r
def aSt(id:Nat)(c:AC):CF:=fun a A S=>bD (a.code c A S) (uC id)
def aUp(c:AC):CF:=fun a A S=>bD (a.code c A S) (uQ (.loop c) a)
def aS4(id:Nat):CF:=fun _ A S=>some (.exit id,A,S)
def aU4:CF:=fun _ A S=>some (.ret,A,S)
def aVR(a:List AO):CF:=fun b A S=>bD (wR a b.call A.F S) fun r=>some (.normal,⟨r.1,A.inr⟩,r.2)
def aVh(_:List AO)(_:cQ)(_:List cQ):CF:=fun _ _ _=>none
def aVS(a:List AO):CF:=fun b A S=>bD (zE a b.call A.F S) fun r=>some (.normal,⟨r.1,A.inr⟩,r.2)
def aCj(bl:AB)(l:Nat)(A:bO)(a:St)(b:Evs):Option (Out×bO×St):=
 match bl with
 | .loop st pend d ps as e=>
  match st with
  | .busy=>none
  | _=>bD (aL2 pend) fun c=>b.code c A ⟨a.h.set l (some (.loop .exhausted pend d ps as e)),a.nx⟩
 | _=>none
def aN8(v:AV):Bool:=
 match v with
 | .fn .. =>true
 | _=>false
def aPV(f:cQ)(a:cd)(assign body:AC):CF:=fun b A S=>
 bX A.inr none (bX (aN8 (f.val A.F))
  (bD (b.call (f.val A.F) [.yld S.nx] ⟨S.h.set S.nx (some (.loop .ready none A.F a assign body)),Nat.succ S.nx⟩) fun r=>
   bD (r.2.h.get S.nx) fun bl=>aCj bl S.nx A r.2 b) none)
def aKb(c:AC):CF:=
 AC.rec (motive:=fun _=>CF) aUG (fun a b _ _=>aVi a b) (fun c a b _ _=>aTt c a b) (fun id c _=>aSt id c) (fun c _=>aUp c) aS4 aU4 aVR aVS (fun f ps as d _ _=>aPV f ps as d) aVh c
def aTm(v:AV)(agg:Bool)(n:Nat)(h:T AB):Option AV:=
 match v with
 | .ptr b off=>qK agg n h b off
 | _=>none
def results:List RV->Fr->T AB->Option (bu)
 | [],_,_=>some []
 | .t i::b,F,h=>bD (results b F h) fun vs=>some (aA i F::vs)
 | .cell a agg n::b,F,h=>bD (aTm (aA a F) agg n h) fun v=>bD (results b F h) fun vs=>some (v::vs)
def oneOf(vs:bu):AV:=
 match vs with
 | [v]=>v
 | vs=>.tup vs
def aDY(fn:fD)(r:Out×bO×St):Option (AV×St):=
 match r.1 with
 | .exit _=>none
 | _=>bD (results fn.res r.2.1.F r.2.2.h) fun vs=>some (oneOf vs,r.2.2)
def vY(fn:fD)(args:bu)(a:Evs)(S:St):Option (AV×St):=
 bX (Nat.ble (mF args) fn.ntmps) (bD (a.code fn.body ⟨sN args 0 .e,false⟩ S) (aDY fn)) none
def uG(bl:AB)(o:Out)(l:Nat)(a:St):Option (AV×St):=
 match bl with
 | .loop .busy _ b ps as c=>
  match o with
  | .normal=>some (.bool true,⟨a.h.set l (some (.loop .ready none b ps as c)),a.nx⟩)
  | o=>some (.bool false,⟨a.h.set l (some (.loop .done (some o) b ps as c)),a.nx⟩)
 | _=>none
def aMg(l:Nat)(a:AC)(b:Evs)(A:bO)(S:St):Option (AV×St):=
 bD (b.code a A S) fun r=>bD (r.2.2.h.get l) fun bl=>uG bl r.1 l r.2.2
def tK(bl:AB)(l:Nat)(b:AC)(c:Evs)(A:bO)(S1:St):Option (AV×St):=
 match bl with
 | .loop .ready pend d ps as a=>aMg l b c A ⟨S1.h.set l (some (.loop .busy pend d ps as a)),S1.nx⟩
 | _=>none
def aDk(l:Nat)(a:AC)(b:Evs)(r:Out×bO×St):Option (AV×St):=
 match r.1 with
 | .normal=>bD (r.2.2.h.get l) fun bl=>tK bl l a b r.2.1 r.2.2
 | _=>none
def aAL(bl:AB)(l:Nat)(args:bu)(a:Evs)(S:St):Option (AV×St):=
 match bl with
 | .loop .ready _ b ps as c=>bD (pK ps args b) fun F=>bD (a.code as ⟨F,true⟩ S) (aDk l c a)
 | _=>none
def xG(fns:T fD)(a:Evs)(f:AV)(args:bu)(S:St):Option (AV×St):=
 match f with
 | .fn id first cap=>bD (fns.get id) fun fn=>vY fn (yQ first (yQ args cap)) a S
 | .yld l=>bD (S.h.get l) fun bl=>aAL bl l args a S
 | _=>none
def aSH(_:AC)(_:bO)(_:St):Option (Out×bO×St):=none
def aRL(_:AV)(_:bu)(_:St):Option (AV×St):=none
def ev(fns:T fD)(n:Nat):Evs:=
 Nat.rec (motive:=fun _=>Evs) ⟨aSH,aRL⟩ (fun _ a=>⟨fun c=>aKb c a,xG fns a⟩) n
end
end Go.Ev
namespace Go.Ev
noncomputable section
def aOz(v:Value):Bool:=
 match v with
 | .agg _=>false
 | .tuple _=>false
 | _=>true
mutual
def ofValue:Value->Option AV
 | .bool b=>some (.bool b)
 | .int k n=>some (.int k n)
 | .string s=>some (.str (s.data.toList.map UInt8.toNat))
 | .pointer none=>some .nilp
 | .slice none 0 0=>some .cr
 | .map none=>some .nilmap
 | .nilFunc=>some .nilfn
 | .nilIface=>some .niliface
 | .func (.func f) ⟨a⟩ ⟨b⟩=>match ofValues a,ofValues b with
  | some a,some b=>some (.fn f a b)
  | _,_=>none
 | .iface t v=>(ofValue v).map (.iface t)
 | .agg ⟨cs⟩=>bif cs.all aOz then(ofValues cs).map .agg else none
 | .tuple ⟨cs⟩=>(ofValues cs).map .tup
 | _=>none
def ofValues:List Value->Option (bu)
 | []=>some []
 | v::vs=>match ofValue v,ofValues vs with
  | some a,some as=>some (a::as)
  | _,_=>none
end
variable (P:Program)
def jC:Operand->Option cQ
 | .tmp t=>some (.t t)
 | .const v=>(ofValue v).map .c
 | .global g=>bif Nat.blt g P.globals.size then some (.c (.ptr g 0)) else none
 | .func f=>some (.c (.fn f [] []))
def aBB:List Operand->Option (List cQ)
 | []=>some []
 | x::b=>match jC P x,aBB b with
  | some a,some as=>some (a::as)
  | _,_=>none
def pO:Option Operand->Option (Option cQ)
 | none=>some none
 | some x=>(jC P x).map some
def aDb(t:TypeId):Option (Bool×Nat):=
 match P.underlying t,P.info? t with
 | some (.struct _),some i=>some (true,i.size)
 | some (.array _ _),some i=>some (true,i.size)
 | some _,some i=>some (false,i.size)
 | _,_=>none
def aIR(t:TypeId):Option AV:=
 match P.info? t with
 | some i=>match i.zero with
  | some v=>ofValue v
  | none=>none
 | none=>none
def eqP(t:TypeId):EqP:=
 match P.underlying t with
 | some .bool=>.bool
 | some (.int _)=>.int
 | some .string=>.str
 | some (.pointer _)=>.ptr
 | some (.slice _)=>.slice
 | some (.map _ _)=>.map
 | some (.func ..)=>.func
 | some (.interface _)=>.iface
 | _=>.no
def eqFields:List Field->List (Nat×EqP)
 | []=>[]
 | f::fs=>bif f.name== "_" then eqFields fs else(f.offset,eqP P f.type)::eqFields fs
def eqT(t:TypeId):tC:=
 match P.underlying t with
 | some (.struct a)=>bif P.stoodInHeld t || P.eqGuardType P.depth t then .p .no else .struct (eqFields P a.toList)
 | some (.array n e)=>bif P.eqGuardType P.depth t || n>64 || P.cellsOf e !=1 then .p .no else .struct ((List.range n).map fun i=>(i,eqP P e))
 | _=>.p (eqP P t)
def yH(place:Nat->Option (Nat×Nat)):List (Nat×Operand)->Option (List (Nat×Nat×cQ))
 | []=>some []
 | (i,x)::ps=>match place i,jC P x,yH place ps with
  | some (off,n),some x,some ps=>some ((off,n,x)::ps)
  | _,_,_=>none
def placeOf(a:Array Field)(i:Nat):Option (Nat×Nat):=
 match a[i]? with
 | some f=>match P.info? f.type with
  | some s=>some (f.offset,s.size)
  | none=>none
 | none=>none
def qG:List Field->Bool
 | []=>true
 | f::a=>(P.info? f.type).isSome && qG a
def zU:List (Nat×Operand)->Option (List (Nat×cQ))
 | []=>some []
 | (i,x)::ps=>match jC P x,zU ps with
  | some x,some ps=>some ((i,x)::ps)
  | _,_=>none
def rH(t:TypeId):Option (TypeId×TypeInfo):=
 match P.underlying t with
 | some (.slice e)=>(P.info? e).map fun i=>(e,i)
 | _=>none
def lC(t:TypeId):Option (bu):=(aIR P t).bind AV.cells
def oN(e:TypeId)(i:TypeInfo):Option (bu):=
 match lC P e with
 | some z=>bif Nat.beq z.length i.size then some z else none
 | none=>none
def aQm(u:TypeId)(i:TypeInfo):Bool:=
 match P.underlying u with
 | some (.slice _)=>true
 | some .string=>Nat.beq i.size 1
 | _=>false
def aMG(name:String)(t:TypeId)(i:TypeInfo):Option (Nat×Nat×Option (Bool×Nat)):=
 match i.methods.find? (·.name==name) with
 | some m=>bif !m.path.isEmpty then none else match m.func with
  | none=>none
  | some (f,ptr)=>match P.underlying t,ptr with
   | some (.pointer _),true=>some (t,f,none)
   | some (.pointer e),false=>(aDb P e).map fun a=>(t,f,some a)
   | some (.interface _),_=>none
   | some _,false=>some (t,f,none)
   | _,_=>none
 | none=>none
def yD(name:String):List TypeInfo->Nat->List (Nat×Nat×Option (Bool×Nat))
 | [],_=>[]
 | i::is,t=>match aMG P name t i with
  | some r=>r::yD name is (t+1)
  | none=>yD name is (t+1)
def plainKey:EqP->Bool
 | .int | .str | .bool=>true
 | _=>false
def aCy:Nat->List (Nat×EqP)->Bool
 | _,[]=>true
 | i,(o,e)::l=>Nat.beq o i && (plainKey e && aCy (i+1) l)
def aCh(t:TypeId):Option tC:=
 match P.underlying t with
 | some .string=>some (.p .str)
 | some (.int _)=>some (.p .int)
 | some (.struct a)=>match eqT P t with
  | .struct l=>bif a.all (fun f=>plainKey (eqP P f.type)) && aCy 0 l then some (.struct l) else none
  | _=>none
 | some (.array _ e)=>match eqT P t with
  | .struct l=>bif plainKey (eqP P e) && aCy 0 l then some (.struct l) else none
  | _=>none
 | _=>none
def aQl(s:String):Option aNU:=
 bif s== "math/bits.Add64" then some .add64
 else bif s== "internal/bytealg.IndexByteString" then some .idxByte
 else none
def aUD(f:Operand):Option aNU:=
 match f with
 | .func f=>match P.funcs[f]? with
  | some fn=>bif fn.body.isNone && (Extern.allNextRows.lookup fn.origin).isNone then aQl fn.name else none
  | none=>none
 | _=>none
def q(o:Option QOp):Option AOp:=o.map .q
def al(o:Option yX):Option AOp:=o.map .a
def xx(o:Option XOp):Option AOp:=o.map .x
def aV1(b:Builtin)(as:List Operand)(a:List TypeId):Option AOp:=
 match b with
 | .copy=>match as,a with
  | [d,s],[t,_]=>match rH P t with
   | some (_,i)=>xx do some (.copy i.size (<-jC P d) (<-jC P s))
   | none=>none
  | _,_=>none
 | _=>none
def vF(o:Op):Option AOp:=
 match o with
 | .move x | .assign x=>q do some (.mv (<-jC P x))
 | .pick c a b=>q do some (.pick (<-jC P c) (<-jC P a) (<-jC P b))
 | .alloc t=>al do some (.alloc t (<-lC P t))
 | .box t x=>al do some (.box t (<-jC P x))
 | .build t ps=>
  match P.underlying t with
  | some (.struct fs)=>bif qG P fs.toList then q do some (.build (<-lC P t) (<-yH P (placeOf P fs) ps.toList)) else none
  | some (.array _ e)=>q do let s <-P.info? e;some (.build (<-lC P t) (<-yH P (fun i=>some (i * s.size,s.size)) ps.toList))
  | _=>none
 | .buildSlice t len ps=>al do
  let (e,i) <-rH P t
  if len * i.size>65536 then none
  some (.c7 e i.size len (<-oN P e i) (<-zU P ps.toList))
 | .load t a=>q do let (agg,n) <-aDb P t;some (.ld agg n (<-jC P a))
 | .store t a v=>xx do let (_,n) <-aDb P t;some (.st n (<-jC P a) (<-jC P v))
 | .nilCheck x=>q do some (.cw (<-jC P x))
 | .binOp op t x y _=>q do some (.bin op (eqT P t) (<-jC P x) (<-jC P y))
 | .unOp op _ x=>q do some (.un op (<-jC P x))
 | .makeInterface t x=>match P.underlying t with
  | some (.interface _)=>none
  | some _=>q do some (.mkIface t (<-jC P x))
  | none=>none
 | .makeFunc (.func f) a b=>q do some (.mkFunc f (<-aBB P a.toList) (<-aBB P b.toList))
 | .makeMap _ none=>al (some .mkMap)
 | .makeSlice t l c=>al do let (e,i) <-rH P t;some (.df e i.size i.bytes (<-oN P e i) (<-jC P l) (<-jC P c))
 | .slice t x lo hi mx=>bif mx.isSome && hi.isNone then none else
  match P.underlying t with
  | some (.slice e)=>q do let i <-P.info? e;some (.slc (.slice i.size) (<-jC P x) (<-pO P lo) (<-pO P hi) (<-pO P mx))
  | some (.array n e)=>q do let i <-P.info? e;some (.slc (.arr n i.size) (<-jC P x) (<-pO P lo) (<-pO P hi) (<-pO P mx))
  | _=>none
 | .fieldAddr t x f=>match P.underlying t with
  | some (.struct fs)=>q do
   let f <-fs[f]?
   let i <-P.info? f.type
   if i.size=0 then none
   some (.dd f.offset (<-jC P x))
  | _=>none
 | .field t x f=>match P.underlying t with
  | some (.struct fs)=>q do
   let f <-fs[f]?
   let (agg,n) <-aDb P f.type
   some (.fld agg f.offset n (<-jC P x))
  | _=>none
 | .indexAddr t x ix=>match P.underlying t with
  | some (.slice e)=>q do let i <-P.info? e;some (.c9 (.slice i.size) (<-jC P x) (<-jC P ix))
  | some (.array n e)=>q do let i <-P.info? e;some (.c9 (.arr n i.size) (<-jC P x) (<-jC P ix))
  | _=>none
 | .lookup t m k ok=>match P.underlying t with
  | some (.map kt et)=>q do some (.lookup (<-aCh P kt) (<-aIR P et) ok (<-jC P m) (<-jC P k))
  | _=>none
 | .mapUpdate t m k v | .insert t m k v=>match P.underlying t with
  | some (.map kt _)=>xx do some (.mapUpd (<-aCh P kt) (<-jC P m) (<-jC P k) (<-jC P v))
  | _=>none
 | .extract x i=>q do some (.extract (<-jC P x) i)
 | .call {callee:=.value f,args,.. }=>match aUD P f with
  | some _=>none
  | none=>xx do some (.call (<-jC P f) (<-aBB P args.toList))
 | .call {callee:=.builtin b,args,argTypes}=>
  match b,args.toList,argTypes.toList with
  | .len,[x],[t]=>match P.underlying t with
   | some (.slice _)=>q do some (.dc (<-jC P x))
   | _=>none
  | .max,xs,_=>q do some (.dt true (<-aBB P xs))
  | .min,xs,_=>q do some (.dt false (<-aBB P xs))
  | .append,[s,x],[t,u]=>match rH P t with
   | some (e,i)=>bif aQm P u i && (oN P e i).isSome then xx do some (.app e i.size i.bytes (<-jC P s) (<-jC P x)) else none
   | none=>none
  | _,_,_=>none
 | _=>none
def aB5(a:Array Oper):Option (Nat×Bool)->Option (Option (Nat×Bool))
 | none=>some none
 | some (j,w)=>match (a[j]?).bind (·.dst) with
  | some d=>some (some (d,w))
  | none=>none
def aAf(nt:Nat):Option Tmp->Bool
 | some d=>Nat.blt d nt
 | none=>true
def aKY(nt:Nat)(ops:Array Oper)(o:Oper)(mask:Nat):Option AO:=
 bif aAf nt o.dst then
  match aB5 ops o.guard with
  | some g=>match vF P o.op with
   | some op=>some ⟨o.dst,op,g,mask⟩
   | none=>some ⟨o.dst,.x .bad,g,mask⟩
  | none=>none
 else none
def vW(nt:Nat)(ops:Array Oper):List Oper->cd->Option (List AO)
 | [],_=>some []
 | o::os,ms=>match aKY P nt ops o (ms.headD 0),vW nt ops os ms.tail with
  | some a,some as=>some (a::as)
  | _,_=>none
def cQ.rd(x:cQ):cd:=
 match x with
 | .t i=>[i]
 | .c _=>[]
def rds:List cQ->cd
 | []=>[]
 | x::a=>x.rd++rds a
def rdo(x:Option cQ):cd:=
 match x with
 | some x=>x.rd
 | none=>[]
def rdp:List (Nat×Nat×cQ)->cd
 | []=>[]
 | (_,_,x)::ps=>x.rd++rdp ps
def aSx:List (Nat×cQ)->cd
 | []=>[]
 | (_,x)::ps=>x.rd++aSx ps
def QOp.rd(o:QOp):cd:=
 match o with
 | .mv x | .ld _ _ x | .cw x | .un _ x | .conv _ x | .mkIface _ x | .dd _ x | .fld _ _ _ x | .tassert _ _ _ x | .extract x _ | .lenStr x | .dc x | .lenMap x | .capSl x | .mkMeth _ _ x=>x.rd
 | .pick c a b=>c.rd++(a.rd++b.rd)
 | .build _ ps=>rdp ps
 | .bin _ _ x y | .c9 _ x y | .idxArr _ _ _ x y | .idxStr x y | .lookup _ _ _ x y=>x.rd++y.rd
 | .mkFunc _ a b=>rds a++rds b
 | .slc _ x lo hi mx=>x.rd++(rdo lo++(rdo hi++rdo mx))
 | .lenArr _=>[]
 | .dt _ d=>rds d
def yX.rd(o:yX):cd:=
 match o with
 | .alloc _ _ | .mkMap=>[]
 | .box _ x | .strBytes _ x=>x.rd
 | .c7 _ _ _ _ ps=>aSx ps
 | .df _ _ _ _ l c=>l.rd++c.rd
def XOp.rd(o:XOp):cd:=
 match o with
 | .st _ x v=>x.rd++v.rd
 | .call f args | .inv _ f args=>f.rd++rds args
 | .app _ _ _ s x | .copy _ s x | .mapDel _ s x=>s.rd++x.rd
 | .mapUpd _ m k v=>m.rd++(k.rd++v.rd)
 | .clr _ x=>x.rd
 | .ext _ args=>rds args
 | .bad=>[]
def AOp.rd(o:AOp):cd:=
 match o with
 | .q o=>o.rd
 | .a o=>o.rd
 | .x o=>o.rd
def AO.touch(o:AO):cd:=o.dst.toList++((o.grd.map (·.1)).toList++o.op.rd)
def inL(t:Nat):cd->Bool
 | []=>false
 | u::l=>bif Nat.beq t u then true else inL t l
def meets(d:Option Nat)(b:cd):Bool:=
 match d with
 | some d=>inL d b
 | none=>false
def aG0(i:Nat)(d:Option Nat)(a:cd):List AO->Bool
 | []=>true
 | b::l=>(bif meets d b.touch || meets b.dst a then Nat.testBit b.mask i else true) && aG0 i d a l
def aKz:Nat->List AO->Bool
 | _,[]=>true
 | i,a::l=>aG0 i a.dst a.touch l && aKz (i+1) l
def aT2(l:List AO):Bool:=aKz 0 l
def aDm:Nat->List Oper->Bool
 | _,[]=>true
 | i,o::l=>o.after.all (fun e=> !Region.binds .any e || Nat.blt e.on i) && aDm (i+1) l
def aDG(nt:Nat)(ops:Array Oper):Option AC:=
 match vW P nt ops ops.toList (CheckFast.beforeL ops.toList 0 []) with
 | some aos=>bif aDm 0 ops.toList && aT2 aos then some (.drw aos) else none
 | none=>none
def jU(nt:Nat):Code->Option AC
 | .skip=>some .skip
 | .seq a b=>match jU nt a,jU nt b with
  | some a,some b=>some (.seq a b)
  | _,_=>none
 | .cond c a b=>match jC P c,jU nt a,jU nt b with
  | some c,some a,some b=>some (.cond c a b)
  | _,_,_=>none
 | .block id c=>(jU nt c).map (.block id)
 | .loop c=>(jU nt c).map .loop
 | .exit id=>some (.exit id)
 | .ret=>some .ret
 | .region _ ops d=>bif d then aDG P nt ops else(vW P nt ops ops.toList []).map .reg
 | .rangeFunc f ps as bd=>bif ps.toList.all (fun p=>Nat.blt p nt) then match jC P f,jU nt as,jU nt bd with
  | some f,some as,some bd=>some (.rng f ps.toList as bd)
  | _,_,_=>none
  else none
 | _=>none
def aGP:List ResultVar->Option (List RV)
 | []=>some []
 | .tmp t::b=>(aGP b).map (.t t:: ·)
 | .cell a t::b=>match aDb P t,aGP b with
  | some (agg,n),some b=>some (.cell a agg n::b)
  | _,_=>none
def cFn(fn:Func):Option fD:=
 bif fn.name== "runtime.NumGoroutine" then none else
 match fn.body with
 | some c=>match jU P fn.ntmps c,aGP P fn.results.toList with
  | some c,some rs=>some ⟨fn.ntmps,rs,c⟩
  | _,_=>none
 | none=>none
def aCT:AC->Bool
 | .rng _ _ _ _=>false
 | .seq a b=>aCT a && aCT b
 | .cond _ a b=>aCT a && aCT b
 | .block _ c=>aCT c
 | .loop c=>aCT c
 | _=>true
end
end Go.Ev
