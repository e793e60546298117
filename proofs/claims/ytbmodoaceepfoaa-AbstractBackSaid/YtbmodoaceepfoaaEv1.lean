import GoSem.Dispatch
import Derived.CheckFast
set_option linter.all false
namespace Go.Ev
def bf.{u}{A:Type u}{P:A->Prop}{a:A}{l:List A}(h:P a)(t:∀x∈l,P x):∀x∈a::l,P x:=List.forall_mem_cons.2 ⟨h,t⟩
end Go.Ev
namespace Go.Ev
def au{p:Prop}(h:p:=by omega):p:=h
def ax{p q:Prop}(a:q)(h:q->p:=by intro a;omega):p:=h a
def az{p:Prop}(h:p:=by decide):p:=h
end Go.Ev
namespace Go.Ev
abbrev Aa:=@decide_eq_false
abbrev Ab.{u}:=@List.getElem?_eq_getElem.{u}
abbrev Ac:=@decide_eq_true
abbrev Ad.{u}:=@List.getD_eq_getElem?_getD.{u}
abbrev Ae:=@Nat.lt_of_lt_of_le
abbrev Af:=@Nat.le_refl
abbrev Ag.{u}:=@List.forall_mem_cons.{u}
abbrev Ah:=@Int.ofNat_eq_natCast
abbrev Ai.{u}:=@List.getElem?_eq_some_iff.{u}
abbrev Aj.{u}:=@List.length_append.{u}
abbrev Ak:=@Nat.ble_eq_true_of_le
abbrev Al.{u,v}:=@List.length_map.{u,v}
abbrev Am:=@Nat.zero_add
abbrev An:=@not_false_eq_true
abbrev Ao.{u}:=@List.getElem?_append_left.{u}
abbrev Ap.{u}:=@List.getElem?_append_right.{u}
abbrev Aq.{u}:=@List.length_replicate.{u}
abbrev Ar.{u}:=@List.mem_of_getElem?.{u}
abbrev Au.{u}:=@Option.some.injEq.{u}
abbrev Av:=@Nat.le_trans
abbrev Aw.{u}:=@List.length_set.{u}
abbrev Ax.{u}:=@List.length_cons.{u}
abbrev Ay:=@Int.toNat_natCast
abbrev Az.{u,v}:=@List.getElem?_map.{u,v}
abbrev Ba.{u}:=@List.length_singleton.{u}
abbrev Bb.{u,v}:=@Option.map_eq_some_iff.{u,v}
abbrev Bc:=@Nat.le_of_ble_eq_true
abbrev Bd.{u}:=@List.take_of_length_le.{u}
abbrev Be:=@Bool.false_eq_true
abbrev Bf.{u}:=@List.mem_cons_of_mem.{u}
abbrev Bg.{u}:=@List.append_assoc.{u}
abbrev Bh.{u}:=@Option.some.inj.{u}
abbrev Bi.{u}:=@List.mem_append.{u}
abbrev Bj:=@List.length_range
abbrev Bk.{u}:=@List.mem_cons_self.{u}
abbrev Bl:=@Nat.beq_eq
abbrev Bm.{u}:=@Array.getD_eq_getD_getElem?.{u}
abbrev Bn.{u}:=@Bool.cond_eq_ite.{u}
abbrev Bo.{u}:=@List.length_eq_zero_iff.{u}
abbrev Bp.{u}:=@List.mem_cons.{u}
abbrev Bq:=@Nat.le_add_right
abbrev Br:=@List.getElem?_range
abbrev Bs:=@Nat.add_zero
abbrev Bt.{u}:=@List.getElem_mem.{u}
abbrev Bu.{u}:=@List.append_nil.{u}
abbrev Bv.{u}:=@List.length_take.{u}
abbrev Bw.{u}:=@List.nil_append.{u}
abbrev Bx.{u}:=@List.take_add_one.{u}
abbrev Bz.{u}:=@List.drop_eq_getElem_cons.{u}
abbrev Ca:=@Nat.not_lt_zero
abbrev Cb.{u}:=@List.length_nil.{u}
abbrev Cc.{u}:=@List.mem_singleton.{u}
abbrev Cd.{u}:=@List.getElem?_eq_none.{u}
abbrev Ce.{u}:=@List.reverse_cons.{u}
abbrev Cf.{u}:=@List.cons_append.{u}
abbrev Cg.{u}:=@Ne.symm.{u}
abbrev Ch.{u}:=@List.getElem?_replicate.{u}
abbrev Ci:=@Nat.eq_zero_or_pos
abbrev Cj:=@Bool.eq_false_iff
abbrev Ck:=@Nat.zero_le
abbrev Cl:=@decide_eq_true_iff
abbrev Cm:=@Bool.not_true
abbrev Cn:=@Bool.eq_iff_iff
abbrev Co.{u,v}:=@List.map_append.{u,v}
abbrev Cp.{u}:=@List.getElem_of_mem.{u}
abbrev Cq.{u,v}:=@List.mem_map.{u,v}
abbrev Cr.{u}:=@List.drop_of_length_le.{u}
abbrev Ct:=@not_true_eq_false
abbrev Cu.{u,v}:=@Option.bind_eq_some_iff.{u,v}
abbrev Cv:=@Bool.and_eq_true
abbrev Cw.{u}:=@List.getElem?_set.{u}
abbrev Cx.{u}:=@List.mem_append_right.{u}
abbrev Cy:=@Nat.add_assoc
abbrev Cz:=@Nat.eq_of_beq_eq_true
abbrev Da.{u}:=@List.singleton_append.{u}
abbrev Db:=@Nat.mul_le_mul_right
abbrev Dc.{u}:=@List.ext_getElem.{u}
abbrev Dd.{u}:=@List.length_drop.{u}
abbrev De:=@Nat.lt_or_ge
abbrev Dg.{u,v}:=@List.map_cons.{u,v}
abbrev Dh.{u}:=@List.mem_append_left.{u}
abbrev Di.{u}:=@Array.getElem?_toList.{u}
abbrev Dj:=@Nat.lt_succ_self
abbrev Dk:=@List.mem_range
abbrev Dl:=@Bool.not_false
abbrev Dm:=@Nat.mul_one
abbrev Dn.{u}:=@List.drop_zero.{u}
abbrev Dp.{u}:=@List.all_eq_true.{u}
abbrev Dq.{u}:=@beq_self_eq_true.{u}
abbrev Dr:=@Nat.succ_mul
abbrev Dt:=@Nat.sub_self
abbrev Du:=@Nat.add_mul
abbrev Dv.{u}:=@List.mem_iff_getElem.{u}
abbrev Dw:=@Nat.lt_trichotomy
abbrev Dx:=@Decidable.not_not
abbrev Dy:=@Nat.zero_mul
abbrev Dz.{u}:=@List.mem_of_mem_take.{u}
abbrev Ea.{u}:=@List.getElem?_cons_succ.{u}
abbrev Eb.{u}:=@Option.getD_some.{u}
abbrev Ec.{u}:=@List.getElem?_append.{u}
abbrev Ed.{u}:=@if_false.{u}
abbrev Ee:=@Int.toNat_of_nonneg
abbrev Ef.{u}:=@Array.getElem?_eq_getElem.{u}
abbrev Eg.{u}:=@List.take_append_drop.{u}
abbrev Eh:=@Nat.add_sub_cancel
abbrev Ei.{u}:=@List.pairwise_cons.{u}
abbrev Ej.{u,v}:=@List.getElem_map.{u,v}
abbrev Ek:=@List.getElem_range
abbrev El.{u}:=@if_true.{u}
abbrev Em.{u}:=@List.getElem?_take_of_lt.{u}
abbrev En.{u}:=@List.sum_cons.{u}
abbrev Eo.{u}:=@List.getElem?_cons_zero.{u}
abbrev Ep.{u,v}:=@Option.map_some.{u,v}
abbrev Eq.{u,v}:=@List.map_congr_left.{u,v}
abbrev Er.{u}:=@Array.length_toList.{u}
abbrev Es:=@Nat.sub_zero
abbrev Et.{u,v}:=@Array.toList_map.{u,v}
abbrev Eu:=@Nat.le_max_right
abbrev Ew:=@Nat.lt_of_le_of_lt
abbrev Ex.{u}:=@Array.getElem?_eq_some_iff.{u}
abbrev Ey:=@Nat.mul_le_mul
abbrev Ez.{u}:=@List.mem_iff_getElem?.{u}
abbrev Fa.{u,v,w}:=@Array.mapM_eq_mapM_toList.{u,v,w}
abbrev Fb.{u}:=@List.pairwise_iff_getElem.{u}
abbrev Fc:=@Bool.or_eq_true
abbrev Fd:=@Nat.le_max_left
abbrev Fe.{u}:=@List.mem_of_mem_drop.{u}
abbrev Ff.{u}:=@Array.getElem?_push.{u}
abbrev Fg.{u}:=@List.getElem?_drop.{u}
abbrev Fi.{u,v,w}:=@List.map_map.{u,v,w}
abbrev Fj:=@Nat.le_of_eq
abbrev Fk:=@Nat.ble_eq
abbrev Fm:=@decide_true
abbrev Fp:=@Nat.one_mul
abbrev Fq:=@Nat.beq_refl
abbrev Ft.{u}:=@Array.ext'.{u}
noncomputable section
inductive T(α:Type) where
 | e:T α
 | n (l:T α) (v:Option α) (r:T α):T α
def cC{α:Sort _}(c:Bool)(a b:α):α:=Bool.rec b a c
def bG{α β:Type}(x:Option α)(f:α->Option β):Option β:=Option.rec none f x
namespace T
variable {α:Type}
def get(t:T α):Nat->Option α:=
 T.rec (motive:=fun _=>Nat->Option α) (fun _=>none)
  (fun _ v _ a b k=>cC (Nat.beq k 0) v (cC (Nat.beq (Nat.mod k 2) 1) (a (Nat.div k 2)) (b (Nat.sub (Nat.div k 2) 1)))) t
def single(f:Nat):Nat->Option α->T α:=
 Nat.rec (motive:=fun _=>Nat->Option α->T α) (fun _ _=>.e)
  (fun _ a k x=>cC (Nat.beq k 0) (.n .e x .e) (cC (Nat.beq (Nat.mod k 2) 1) (.n (a (Nat.div k 2) x) none .e) (.n .e none (a (Nat.sub (Nat.div k 2) 1) x)))) f
def set(t:T α):Nat->Option α->T α:=
 T.rec (motive:=fun _=>Nat->Option α->T α) (fun k x=>single (Nat.succ k) k x)
  (fun l v r sl a k x=>cC (Nat.beq k 0) (.n l x r) (cC (Nat.beq (Nat.mod k 2) 1) (.n (sl (Nat.div k 2) x) v r) (.n l v (a (Nat.sub (Nat.div k 2) 1) x)))) t
end T
inductive AV where
 | bool (b:Bool)
 | int (k:IntKind) (n:Int)
 | str (s:List Nat)
 | ptr (b off:Nat)
 | nilp
 | sl (b off len cap:Nat) (o:Bool)
 | ct
 | emp        -- an empty slice,not nil,of unknown place and capacity
 | map (b:Nat)
 | nilmap
 | fn (f:Nat) (first captured:List AV)
 | nilfn
 | yld (b:Nat)
 | iface (t:Nat) (v:AV)
 | niliface
 | mth (name:String) (tbl:List (Nat×Nat×Option (Bool×Nat))) (v:AV)     -- a method of an interface value,bound
 | agg (cs:List AV)
 | tup (vs:List AV)
 deriving Inhabited
abbrev bt:=List (List Int)
abbrev bu:=List Int
abbrev cd:=List AV
abbrev ce:=List Nat
def AV.cells(v:AV):Option (cd):=
 match v with
 | .agg cs=>some cs
 | .tup _=>none
 | v=>some [v]
def AV.undef:AV:=.tup []
inductive cT where
 | t (i:Nat)
 | c (v:AV)
 deriving Inhabited
inductive EqP where
 | bool | int | str | ptr | slice | map | func | iface | no
 deriving Inhabited,DecidableEq
inductive sR where
 | p (e:EqP)
 | struct (fs:List (Nat×EqP))
 deriving Inhabited
inductive aHL where
 | int (k:IntKind)
 | same
 | bytesToStr
 | intToStr
 deriving Inhabited
inductive SlK where
 | str
 | slice (size:Nat)
 | arr (n size:Nat)
 deriving Inhabited
inductive IxK where
 | arr (n size:Nat)
 | slice (size:Nat)
 deriving Inhabited
inductive QOp where
 | mv (x:cT)
 | pick (c a b:cT)
 | build (zero:cd) (parts:List (Nat×Nat×cT))
 | ld (agg:Bool) (n:Nat) (x:cT)
 | cw (x:cT)
 | bin (op:BinOp) (e:sR) (x y:cT)
 | un (op:UnOp) (x:cT)
 | conv (k:aHL) (x:cT)
 | mkIface (t:Nat) (x:cT)
 | mkFunc (f:Nat) (first captured:List cT)
 | slc (k:SlK) (x:cT) (lo hi mx:Option cT)
 | dk (off:Nat) (x:cT)
 | fld (agg:Bool) (off n:Nat) (x:cT)
 | df (k:IxK) (x ix:cT)
 | idxArr (agg:Bool) (n size:Nat) (x ix:cT)
 | idxStr (x ix:cT)
 | lookup (e:sR) (zero:AV) (commaOk:Bool) (m key:cT)
 | tassert (t:Nat) (zero:AV) (commaOk:Bool) (x:cT)
 | extract (x:cT) (i:Nat)
 | lenArr (n:Nat)
 | lenStr (x:cT)
 | dh (x:cT)
 | lenMap (x:cT)
 | capSl (x:cT)
 | dz (isMax:Bool) (xs:List cT)
 | mkMeth (name:String) (tbl:List (Nat×Nat×Option (Bool×Nat))) (x:cT)
 deriving Inhabited
inductive zD where
 | alloc (t:Nat) (cells:cd)
 | box (t:Nat) (x:cT)
 | dd (t size len:Nat) (zero:cd) (parts:List (Nat×cT))
 | du (t size bytes:Nat) (zero:cd) (l c:cT)
 | mkMap
 | strBytes (t:Nat) (x:cT)
 deriving Inhabited
inductive aNx where
 | add64 | idxByte | idxStr
 deriving Inhabited
inductive XOp where
 | st (n:Nat) (x v:cT)
 | call (f:cT) (args:List cT)
 | inv (tbl:List (Nat×Nat×Option (Bool×Nat))) (recv:cT) (args:List cT)
 | app (t size bytes:Nat) (s x:cT)
 | copy (size:Nat) (d s:cT)
 | mapUpd (e:sR) (m k v:cT)
 | mapDel (e:sR) (m k:cT)
 | clr (zero:cd) (x:cT)
 | ext (k:aNx) (args:List cT)
 | bad
 deriving Inhabited
inductive AOp where
 | q (o:QOp)
 | a (o:zD)
 | x (o:XOp)
 deriving Inhabited
structure AO where
 dst:Option Nat
 op:AOp
 grd:Option (Nat×Bool)
 mask:Nat      -- the operations before it (drawn regions)
 deriving Inhabited
inductive AC where
 | skip
 | seq (a b:AC)
 | cond (c:cT) (a b:AC)
 | block (id:Nat) (c:AC)
 | loop (c:AC)
 | exit (id:Nat)
 | ret
 | reg (ops:List AO)
 | drw (ops:List AO)
 | rng (f:cT) (params:ce) (assign body:AC)
 | dfr (ops:List AO) (f:cT) (args:List cT)
 deriving Inhabited
inductive RV where
 | t (i:Nat)
 | cell (a:Nat) (agg:Bool) (n:Nat)
 deriving Inhabited
structure eY where
 ntmps:Nat
 res:List RV
 body:AC
 deriving Inhabited
abbrev Fr:=T AV
inductive LSt where
 | ready | busy | done | exhausted
 deriving DecidableEq,Inhabited
inductive Out where
 | normal
 | exit (id:Nat)
 | ret
 deriving Inhabited
inductive AB where
 | cells (cs:cd) (opn:Bool) (size:Nat)     -- opn:there may be more room behind;size:the cells of an element then
 | ro (cs:cd)
 | map (es:List (AV×AV))
 | loop (st:LSt) (pend:Option Out) (fr:Fr) (params:ce) (assign body:AC)
 | dfd
 deriving Inhabited
structure St where
 h:T AB
 nx:Nat
def aC(i:Nat)(F:Fr):AV:=Option.rec (motive:=fun _=>AV) .undef (fun v=>v) (F.get i)
def aQS(v:AV)(_:Fr):AV:=v
def cT.val(x:cT):Fr->AV:=cT.rec (motive:=fun _=>Fr->AV) aC aQS x
def eF(l:List cT):Fr->cd:=List.rec (motive:=fun _=>Fr->cd) (fun _=>[]) (fun x _ a F=>x.val F::a F) l
def nth{α:Type}(l:List α):Nat->Option α:=List.rec (motive:=fun _=>Nat->Option α) (fun _=>none) (fun x _ a k=>cC (Nat.beq k 0) (some x) (a (Nat.sub k 1))) l
def aIz{α:Type}(l:List α):Nat->List α:=List.rec (motive:=fun _=>Nat->List α) (fun _=>[]) (fun x a b k=>cC (Nat.beq k 0) (x::a) (b (Nat.sub k 1))) l
def aIx{α:Type}(l:List α):Nat->Option (List α):=
 List.rec (motive:=fun _=>Nat->Option (List α)) (fun n=>cC (Nat.beq n 0) (some []) none)
  (fun x _ a n=>cC (Nat.beq n 0) (some []) (bG (a (Nat.sub n 1)) fun r=>some (x::r))) l
def aEP{α:Type}(vs:List α):List α->Option (List α):=
 List.rec (motive:=fun _=>List α->Option (List α)) (fun l=>some l)
  (fun v _ a l=>List.rec (motive:=fun _=>Option (List α)) none (fun _ b _=>bG (a b) fun r=>some (v::r)) l) vs
def put{α:Type}(l:List α):Nat->List α->Option (List α):=
 List.rec (motive:=fun _=>Nat->List α->Option (List α)) (fun k vs=>cC (Nat.beq k 0) (aEP vs []) none)
  (fun x a b k vs=>cC (Nat.beq k 0) (aEP vs (x::a)) (bG (b (Nat.sub k 1) vs) fun r=>some (x::r))) l
def mF{α:Type}(l:List α):Nat:=List.rec (motive:=fun _=>Nat) 0 (fun _ _ a=>Nat.succ a) l
def yX{α:Type}(l m:List α):List α:=List.rec (motive:=fun _=>List α) m (fun x _ a=>x::a) l
def repeatL{α:Type}(z:List α)(n:Nat):List α:=Nat.rec (motive:=fun _=>List α) [] (fun _ a=>yX z a) n
def cut{α:Type}(l:List α)(i n:Nat):Option (List α):=aIx (aIz l i) n
def qL(k:IntKind):Nat:=
 match k with
 | .i8=>127 | .i16=>32767 | .i32=>2147483647 | .i64=>9223372036854775807
 | .u8=>255 | .u16=>65535 | .u32=>4294967295 | .u64=>18446744073709551615
def nat(k:IntKind)(n:Nat):Int:=cC (Nat.ble n (qL k)) (.ofNat n) (k.wrap (.ofNat n))
def aDQ(k:IntKind):Bool:=
 match k with
 | .i8 | .i16 | .i32 | .i64=>true
 | _=>false
def neg(k:IntKind)(n:Nat):Int:=cC (aDQ k) (cC (Nat.ble n (qL k)) (.negSucc n) (k.wrap (.negSucc n))) (k.wrap (.negSucc n))
def zT(k:IntKind)(n:Nat):Bool:=Nat.ble n (qL k)
def aF4(k:IntKind)(n:Int):Int:=Int.rec (motive:=fun _=>Int) (fun m=>nat k m) (fun m=>neg k m) n
def aCs(k:IntKind)(a b:Nat):Int:=cC (Nat.ble b a) (nat k (Nat.sub a b)) (neg k (Nat.sub (Nat.sub b a) 1))
def aOw(k:IntKind)(x y:Int):Int:=
 Int.rec (motive:=fun _=>Int) (fun a=>Int.rec (motive:=fun _=>Int) (fun b=>nat k (Nat.add a b)) (fun b=>aCs k a (Nat.succ b)) y)
  (fun a=>Int.rec (motive:=fun _=>Int) (fun b=>aCs k b (Nat.succ a)) (fun b=>neg k (Nat.succ (Nat.add a b))) y) x
def aIG(k:IntKind)(x y:Int):Int:=
 Int.rec (motive:=fun _=>Int) (fun a=>Int.rec (motive:=fun _=>Int) (fun b=>aCs k a b) (fun b=>nat k (Nat.add a (Nat.succ b))) y)
  (fun a=>Int.rec (motive:=fun _=>Int) (fun b=>neg k (Nat.add a b)) (fun b=>aCs k b a) y) x
def aKq(k:IntKind)(x y:Int):Int:=
 Int.rec (motive:=fun _=>Int) (fun a=>Int.rec (motive:=fun _=>Int) (fun b=>nat k (Nat.mul a b)) (fun b=>aF4 k (Int.mul (.ofNat a) (.negSucc b))) y)
  (fun a=>aF4 k (Int.mul (.negSucc a) y)) x
def ieq(x y:Int):Bool:=
 Int.rec (motive:=fun _=>Bool) (fun a=>Int.rec (motive:=fun _=>Bool) (fun b=>Nat.beq a b) (fun _=>false) y)
  (fun a=>Int.rec (motive:=fun _=>Bool) (fun _=>false) (fun b=>Nat.beq a b) y) x
def ile(x y:Int):Bool:=
 Int.rec (motive:=fun _=>Bool) (fun a=>Int.rec (motive:=fun _=>Bool) (fun b=>Nat.ble a b) (fun _=>false) y)
  (fun a=>Int.rec (motive:=fun _=>Bool) (fun _=>true) (fun b=>Nat.ble b a) y) x
def keq(x y:IntKind):Bool:=Nat.beq (qL x) (qL y)
def aOp(x y:Bool):Bool:=cC x y (cC y false true)
def aU1(k:IntKind)(x y:Int):Option AV:=some (.int k (aOw k x y))
def aUs(k:IntKind)(x y:Int):Option AV:=some (.int k (aIG k x y))
def aU0(k:IntKind)(x y:Int):Option AV:=some (.int k (aKq k x y))
def aNf(k:IntKind)(x y:Int):Option AV:=
 match x,y with
 | .ofNat a,.ofNat b=>cC (Nat.beq b 0) none (some (.int k (nat k (Nat.div a b))))
 | x,y=>cC (ieq y (.ofNat 0)) none (some (.int k (aF4 k (x.tdiv y))))
def aNw(k:IntKind)(x y:Int):Option AV:=
 match x,y with
 | .ofNat a,.ofNat b=>cC (Nat.beq b 0) none (some (.int k (.ofNat (Nat.mod a b))))
 | x,y=>cC (ieq y (.ofNat 0)) none (some (.int k (x.tmod y)))
def aCY(f:Nat->Nat->Nat)(k:IntKind)(x y:Int):Option AV:=
 match x,y with
 | .ofNat a,.ofNat b=>cC (zT k a) (cC (zT k b) (some (.int k (.ofNat (f a b)))) none) none
 | _,_=>none
def aUN:=aCY Nat.land
def iOr:=aCY Nat.lor
def aUJ:=aCY Nat.xor
def aUT(_:IntKind)(x y:Int):Option AV:=some (.bool (ieq x y))
def aUy(_:IntKind)(x y:Int):Option AV:=some (.bool (cC (ieq x y) false true))
def aUH(_:IntKind)(x y:Int):Option AV:=some (.bool (cC (ile y x) false true))
def aUX(_:IntKind)(x y:Int):Option AV:=some (.bool (ile x y))
def aUn(_:IntKind)(x y:Int):Option AV:=some (.bool (cC (ile x y) false true))
def aT6(_:IntKind)(x y:Int):Option AV:=some (.bool (ile y x))
def aN1(_:IntKind)(_ _:Int):Option AV:=none
def aNX(op:BinOp):IntKind->Int->Int->Option AV:=
 BinOp.rec (motive:=fun _=>IntKind->Int->Int->Option AV) aU1 aUs aU0 aNf aNw aUN iOr aUJ aN1 aN1 aN1 aUT aUy aUH aUX aUn aT6 op
def aGq(op:BinOp)(k:IntKind)(x:Int)(b:Nat):Option AV:=
 let n:=cC (Nat.ble b k.bits) b k.bits
 match op with
 | .shl=>some (.int k (aKq k x (.ofNat (Nat.pow 2 n))))
 | .shr=>some (.int k (x.fdiv (.ofNat (Nat.pow 2 n))))
 | _=>none
def aBM(op:BinOp)(k:IntKind)(x y:Int):Option AV:=
 match y with
 | .ofNat b=>aGq op k x b
 | _=>none
def iA(op:BinOp):Bool:=BinOp.rec (motive:=fun _=>Bool) false false false false false false false false true true false false false false false false false op
def qY:ce->ce->Bool
 | _,[]=>false
 | [],_::_=>true
 | a::x,b::y=>cC (Nat.blt a b) true (cC (Nat.beq a b) (qY x y) false)
def pJ:ce->ce->Bool
 | [],[]=>true
 | a::x,b::y=>cC (Nat.beq a b) (pJ x y) false
 | _,_=>false
def aJo(op:BinOp)(a b:ce):Option AV:=
 match op with
 | .add=>cC (Nat.ble (mF a+mF b) 9223372036854775807) (some (.str (yX a b))) none
 | .eql=>some (.bool (pJ a b))
 | .neq=>some (.bool (!pJ a b))
 | .lss=>some (.bool (qY a b))
 | .leq=>some (.bool (qY a b || pJ a b))
 | .gtr=>some (.bool (!(qY a b || pJ a b)))
 | .geq=>some (.bool (!qY a b))
 | _=>none
def partOf(agg:Bool)(cs:cd)(off n:Nat):Option AV:=
 cC agg (bG (cut cs off n) fun r=>some (.agg r)) (nth cs off)
def yL:EqP->AV->AV->Option Bool
 | .bool,.bool a,.bool b=>some (aOp a b)
 | .int,.int k a,.int k' b=>cC (keq k k') (some (ieq a b)) none
 | .str,.str a,.str b=>some (pJ a b)
 | .ptr,.nilp,.nilp=>some true
 | .ptr,.nilp,.ptr _ _=>some false
 | .ptr,.ptr _ _,.nilp=>some false
 | .slice,.ct,.ct=>some true
 | .slice,.ct,.sl .. =>some false
 | .slice,.sl ..,.ct=>some false
 | .slice,.ct,.emp=>some false
 | .slice,.emp,.ct=>some false
 | .map,.nilmap,.nilmap=>some true
 | .map,.nilmap,.map _=>some false
 | .map,.map _,.nilmap=>some false
 | .func,.nilfn,.nilfn=>some true
 | .func,.nilfn,.fn .. =>some false
 | .func,.fn ..,.nilfn=>some false
 | .iface,.niliface,.iface _ _=>some false
 | .iface,.iface _ _,.niliface=>some false
 | _,_,_=>none
def eqs:List (Nat×EqP)->cd->cd->Option Bool
 | [],_,_=>some true
 | (off,e)::c,a,b=>
  match nth a off,nth b off with
  | some x,some y=>match yL e x y with
   | some true=>eqs c a b
   | some false=>some false
   | none=>none
  | _,_=>none
def eqv:sR->AV->AV->Option Bool
 | .p e,x,y=>yL e x y
 | .struct a,.agg b,.agg c=>cC (Nat.beq (mF b) (mF a)) (cC (Nat.beq (mF c) (mF a)) (eqs a b c) none) none
 | _,_,_=>none
def aQr(op:BinOp)(e:sR)(x y:AV):Option AV:=
 match op with
 | .eql=>bG (eqv e x y) fun b=>some (.bool b)
 | .neq=>bG (eqv e x y) fun b=>some (.bool (cC b false true))
 | _=>none
def fH(op:BinOp)(k:IntKind)(a:Int)(k':IntKind)(b:Int):Option AV:=
 cC (iA op) (aBM op k a b) (cC (keq k k') (aNX op k a b) none)
def aG6(v:AV):Option (IntKind×Int):=
 match v with
 | .int k a=>some (k,a)
 | _=>none
def aGJ(v:AV):Option (ce):=
 match v with
 | .str s=>some s
 | _=>none
def nH(op:BinOp)(e:sR)(x y:AV):Option AV:=
 match aG6 x,aG6 y with
 | some a,some b=>fH op a.1 a.2 b.1 b.2
 | _,_=>match aGJ x,aGJ y with
  | some a,some b=>aJo op a b
  | _,_=>aQr op e x y
def unV(op:UnOp)(x:AV):Option AV:=
 match op,x with
 | .neg,.int k n=>some (.int k (aIG k (.ofNat 0) n))
 | .not,.bool b=>some (.bool (cC b false true))
 | _,_=>none
def nD(b:AB):Option (cd):=
 match b with
 | .cells cs _ _=>some cs
 | .ro cs=>some cs
 | _=>none
def cI(h:T AB)(b:Nat):Option (cd):=bG (h.get b) nD
def aAi(h:T AB)(b off n:Nat):Option (cd):=bG (cI h b) fun cs=>cut cs off n
def nF(h:T AB)(b off:Nat):Option AV:=bG (cI h b) fun cs=>nth cs off
def qI(agg:Bool)(n:Nat)(h:T AB)(b off:Nat):Option AV:=
 cC agg (bG (aAi h b off n) fun cs=>some (.agg cs)) (nF h b off)
def eI(zero:cd):List (Nat×Nat×AV)->Option (cd)
 | []=>some zero
 | (off,n,v)::ps=>bG v.cells fun cs=>cC (Nat.beq (mF cs) n) (bG (put zero off cs) fun z=>eI z ps) none
def bytesOf:cd->Option (ce)
 | []=>some []
 | .int .u8 (.ofNat n)::vs=>cC (Nat.ble n 255) (bG (bytesOf vs) fun r=>some (n::r)) none
 | _::_=>none
def gN(v:AV):Option Nat:=
 match v with
 | .int _ (.ofNat n)=>some n
 | _=>none
def jO(F:Fr)(d:Nat)(x:Option cT):Option Nat:=
 match x with
 | none=>some d
 | some x=>gN (x.val F)
def sF(e:sR)(k:AV):List (AV×AV)->Nat->Option (Option (Nat×AV))
 | [],_=>some none
 | (k',v)::a,i=>bG (eqv e k k') fun b=>cC b (some (some (i,v))) (sF e k a (Nat.succ i))
def pF(e:sR)(k:AV)(a:List (AV×AV)):Option (Option (Nat×AV)):=bG (eqv e k k) fun _=>sF e k a 0
def tQ(b:AB):Option (List (AV×AV)):=
 match b with
 | .map a=>some a
 | _=>none
def vF(h:T AB)(m:AV):Option (List (AV×AV)):=
 match m with
 | .nilmap=>some []
 | .map b=>bG (h.get b) tQ
 | _=>none
def lO(c:Bool):cd->AV->Option AV
 | [],x=>some x
 | .int k' b::vs,.int k a=>cC (keq k k')
   (lO c vs (.int k (cC c (cC (ile b a) a b) (cC (ile a b) a b)))) none
 | _,_=>none
abbrev QF:=Fr->T AB->Option AV
def qMv(x:cT):QF:=fun F _=>some (x.val F)
def zC(v:AV)(a b:cT)(F:Fr):Option AV:=
 match v with
 | .bool t=>some (cC t (a.val F) (b.val F))
 | _=>none
def aS8(c a b:cT):QF:=fun F _=>zC (c.val F) a b F
def dJ(F:Fr):List (Nat×Nat×cT)->List (Nat×Nat×AV)
 | []=>[]
 | (a,b,x)::ps=>(a,b,x.val F)::dJ F ps
def aQZ(zero:cd)(ps:List (Nat×Nat×cT)):QF:=fun F _=>bG (eI zero (dJ F ps)) fun cs=>some (.agg cs)
def eK(v:AV)(agg:Bool)(n:Nat)(h:T AB):Option AV:=
 match v with
 | .ptr b off=>qI agg n h b off
 | _=>none
def qLd(agg:Bool)(n:Nat)(x:cT):QF:=fun F h=>eK (x.val F) agg n h
def aEZ{α:Type}(t:Nat):List (Nat×α)->Option α
 | []=>none
 | (u,a)::l=>cC (Nat.beq t u) (some a) (aEZ t l)
def aVl(n:String)(a:List (Nat×Nat×Option (Bool×Nat)))(v:AV):Option AV:=
 match v with
 | .iface t w=>bG (aEZ t a) fun r=>match r.2,w with
  | none,_=>some (.mth n a v)
  | some _,.ptr _ _=>some (.mth n a v)
  | _,_=>none
 | _=>none
def xF(v:AV):Option AV:=
 match v with
 | .ptr b o=>some (.ptr b o)
 | .fn f a b=>some (.fn f a b)
 | .iface t v=>some (.iface t v)
 | .yld b=>some (.yld b)
 | _=>none
def aPQ(x:cT):QF:=fun F _=>xF (x.val F)
def aT4(op:BinOp)(e:sR)(x y:cT):QF:=fun F _=>nH op e (x.val F) (y.val F)
def qUn(op:UnOp)(x:cT):QF:=fun F _=>unV op (x.val F)
def aER(h:T AB)(b off len:Nat):Option AV:=bG (aAi h b off len) fun cs=>bG (bytesOf cs) fun s=>some (.str s)
def aBi(k:aHL)(v:AV)(h:T AB):Option AV:=
 match k,v with
 | .int k,.int _ n=>some (.int k (aF4 k n))
 | .same,.str s=>some (.str s)
 | .bytesToStr,.ct=>some (.str [])
 | .bytesToStr,.emp=>some (.str [])
 | .bytesToStr,.sl b off len _ _=>aER h b off len
 | .intToStr,.int _ (.ofNat n)=>cC (Nat.ble n 127) (some (.str [n])) none
 | _,_=>none
def aSy(k:aHL)(x:cT):QF:=fun F h=>aBi k (x.val F) h
def aNj(t:Nat)(x:cT):QF:=fun F _=>some (.iface t (x.val F))
def aPJ(f:Nat)(first cap:List cT):QF:=fun F _=>some (.fn f (eF first F) (eF cap F))
def aQu(s:ce)(lo hi mx:Option cT)(F:Fr):Option AV:=
 match mx with
 | some _=>none
 | none=>bG (jO F (mF s) hi) fun h'=>bG (jO F 0 lo) fun l=>
   cC (Nat.ble h' (mF s)) (cC (Nat.ble l h') (bG (cut s l (h' - l)) fun r=>some (.str r)) none) none
def lA(len cap:Nat)(lo hi mx:Option cT)(F:Fr):Option (Nat×Nat×Nat):=
 bG (jO F cap mx) fun m=>bG (jO F len hi) fun h=>bG (jO F 0 lo) fun l=>
  cC (Nat.ble m cap) (cC (Nat.ble h m) (cC (Nat.ble l h) (some (l,h,m)) none) none) none
def aFA(size b off len cap:Nat)(o:Bool)(lo hi mx:Option cT)(F:Fr):Option AV:=
 bG (lA len cap lo hi mx F) fun x=>
  let a:=cC o mx.isNone false
  cC (Nat.beq x.2.2 x.1) (cC a (some .emp) (some (.sl b off (x.2.1 - x.1) (x.2.2 - x.1) false)))
   (some (.sl b (off+x.1 * size) (x.2.1 - x.1) (x.2.2 - x.1) a))
def aKR(lo hi mx:Option cT)(F:Fr):Option AV:=bG (lA 0 0 lo hi mx F) fun _=>some .emp
def aKy(lo hi mx:Option cT)(F:Fr):Option AV:=bG (lA 0 0 lo hi mx F) fun _=>some .ct
def aMW(n size b off:Nat)(lo hi mx:Option cT)(F:Fr):Option AV:=
 bG (lA n n lo hi mx F) fun x=>
  cC (Nat.beq x.2.2 x.1) (some (.sl b off (x.2.1 - x.1) (x.2.2 - x.1) false))
   (some (.sl b (off+x.1 * size) (x.2.1 - x.1) (x.2.2 - x.1) false))
def rO(k:SlK)(v:AV)(lo hi mx:Option cT)(F:Fr):Option AV:=
 match k,v with
 | .str,.str s=>aQu s lo hi mx F
 | .slice size,.sl b off len cap o=>aFA size b off len cap o lo hi mx F
 | .slice _,.ct=>aKy lo hi mx F
 | .slice _,.emp=>aKR lo hi mx F
 | .arr n size,.ptr b off=>aMW n size b off lo hi mx F
 | _,_=>none
def aUk(k:SlK)(x:cT)(lo hi mx:Option cT):QF:=fun F _=>rO k (x.val F) lo hi mx F
def aAF(v:AV)(off:Nat):Option AV:=
 match v with
 | .ptr b o=>some (.ptr b (o+off))
 | _=>none
def aRW(off:Nat)(x:cT):QF:=fun F _=>aAF (x.val F) off
def aJd(v:AV)(agg:Bool)(off n:Nat):Option AV:=
 match v with
 | .agg cs=>partOf agg cs off n
 | _=>none
def aUM(agg:Bool)(off n:Nat)(x:cT):QF:=fun F _=>aJd (x.val F) agg off n
def eQ(k:IxK)(v:AV)(i:Nat):Option AV:=
 match k,v with
 | .arr n size,.ptr b off=>cC (Nat.blt i n) (some (.ptr b (off+i * size))) none
 | .slice size,.sl b off len _ _=>cC (Nat.blt i len) (some (.ptr b (off+i * size))) none
 | _,_=>none
def aQW(k:IxK)(x a:cT):QF:=fun F _=>bG (gN (a.val F)) fun i=>eQ k (x.val F) i
def aGw(v:AV)(agg:Bool)(n size i:Nat):Option AV:=
 match v with
 | .agg cs=>cC (Nat.blt i n) (partOf agg cs (i * size) size) none
 | _=>none
def aPU(agg:Bool)(n size:Nat)(x a:cT):QF:=fun F _=>bG (gN (a.val F)) fun i=>aGw (x.val F) agg n size i
def aGU(v:AV)(i:Nat):Option AV:=
 match v with
 | .str s=>bG (nth s i) fun b=>some (.int .u8 (.ofNat b))
 | _=>none
def aP2(x a:cT):QF:=fun F _=>bG (gN (a.val F)) fun i=>aGU (x.val F) i
def aFk(ok:Bool)(v:AV)(b:Bool):AV:=cC ok (.tup [v,.bool b]) v
def pG(r:Option (Nat×AV))(zero:AV)(ok:Bool):Option AV:=
 match r with
 | some (_,v)=>some (aFk ok v true)
 | none=>some (aFk ok zero false)
def aPg(a:sR)(zero:AV)(ok:Bool)(m key:cT):QF:=fun F h=>
 bG (vF h (m.val F)) fun b=>bG (pF a (key.val F) b) fun r=>pG r zero ok
def aEJ(v:AV)(t:Nat)(zero:AV)(ok:Bool):Option AV:=
 match v with
 | .iface a v=>cC (Nat.beq t a) (some (aFk ok v true)) (cC ok (some (.tup [zero,.bool false])) none)
 | .niliface=>cC ok (some (.tup [zero,.bool false])) none
 | _=>none
def aNe(t:Nat)(zero:AV)(ok:Bool)(x:cT):QF:=fun F _=>aEJ (x.val F) t zero ok
def nC(v:AV)(i:Nat):Option AV:=
 match v with
 | .tup vs=>nth vs i
 | _=>none
def aOA(x:cT)(i:Nat):QF:=fun F _=>nC (x.val F) i
def aP7(n:Nat):QF:=fun _ _=>some (.int .i64 (.ofNat n))
def aGH(v:AV):Option AV:=
 match v with
 | .str s=>some (.int .i64 (.ofNat (mF s)))
 | _=>none
def aP9(x:cT):QF:=fun F _=>aGH (x.val F)
def kR(v:AV):Option AV:=
 match v with
 | .ct=>some (.int .i64 (.ofNat 0))
 | .emp=>some (.int .i64 (.ofNat 0))
 | .sl _ _ n _ _=>some (.int .i64 (.ofNat n))
 | _=>none
def aRY(x:cT):QF:=fun F _=>kR (x.val F)
def aPf(x:cT):QF:=fun F h=>bG (vF h (x.val F)) fun a=>some (.int .i64 (.ofNat (mF a)))
def aJj(v:AV):Option AV:=
 match v with
 | .ct=>some (.int .i64 (.ofNat 0))
 | .sl _ _ _ c false=>some (.int .i64 (.ofNat c))
 | _=>none
def aRd(x:cT):QF:=fun F _=>aJj (x.val F)
def nP(a:Bool)(l:cd):Option AV:=
 match l with
 | []=>none
 | v::vs=>lO a vs v
def aPI(n:String)(a:List (Nat×Nat×Option (Bool×Nat)))(x:cT):QF:=fun F _=>some (.mth n a (x.val F))
def aPM(mx:Bool)(a:List cT):QF:=fun F _=>nP mx (eF a F)
def gO(q:QOp):QF:=
 QOp.rec (motive:=fun _=>QF) qMv aS8 aQZ qLd aPQ aT4 qUn aSy aNj aPJ aUk aRW aUM aQW aPU aP2 aPg aNe aOA aP7 aP9 aRY aPf aRd aPM aPI q
abbrev AF:=Fr->Nat->Option (AV×AB)
def room:Nat:=140737488355328
def ay{p:Prop}(h:p:=by unfold room;omega):p:=h
def aRE(_:Nat)(cells:cd):AF:=fun _ id=>some (.ptr id 0,.cells cells false 0)
def aUw(_:Nat)(x:cT):AF:=fun F id=>bG (x.val F).cells fun cs=>some (.ptr id 0,.cells cs false 0)
def lP(size:Nat)(F:Fr):List (Nat×cT)->List (Nat×Nat×AV)
 | []=>[]
 | (i,x)::ps=>(i * size,size,x.val F)::lP size F ps
def aPs(_ size len:Nat)(zero:cd)(ps:List (Nat×cT)):AF:=fun F id=>
 bG (eI (repeatL zero len) (lP size F ps)) fun cs=>some (.sl id 0 len len false,.cells cs false 0)
def zF(_ _ bytes:Nat)(zero:cd)(l c:cT):AF:=fun F id=>
 bG (gN (l.val F)) fun l=>bG (gN (c.val F)) fun c=>
  cC (Nat.ble l c) (cC (Nat.ble c room) (cC (Nat.ble (bytes * c) room) (some (.sl id 0 l c false,.cells (repeatL zero c) false 0)) none) none) none
def aRN:AF:=fun _ id=>some (.map id,.map [])
def byteCells:ce->cd
 | []=>[]
 | b::a=>.int .u8 (.ofNat b)::byteCells a
def uO(v:AV)(id:Nat):Option (AV×AB):=
 match v with
 | .str s=>some (.sl id 0 (mF s) (mF s) true,.cells (byteCells s) true 1)
 | _=>none
def aMo(_:Nat)(x:cT):AF:=fun F id=>uO (x.val F) id
def uH(a:zD):AF:=zD.rec (motive:=fun _=>AF) aRE aUw aPs zF aRN aMo a
def aCf(bl:AB)(S:St)(b off:Nat)(vs:cd):Option St:=
 match bl with
 | .cells cs o s=>bG (put cs off vs) fun cs'=>some ⟨S.h.set b (some (.cells cs' o s)),S.nx⟩
 | _=>none
def uF(S:St)(b off:Nat)(vs:cd):Option St:=bG (S.h.get b) fun bl=>aCf bl S b off vs
def eU(v:AV)(h:T AB)(size n:Nat):Option (cd):=
 match v with
 | .sl b off _ _ _=>aAi h b off (n * size)
 | .ct=>cC (Nat.beq n 0) (some []) none
 | .emp=>cC (Nat.beq n 0) (some []) none
 | .str s=>cC (Nat.beq size 1) (bG (aIx s n) fun r=>some (byteCells r)) none
 | _=>none
def mP(v:AV):Option Nat:=
 match v with
 | .sl _ _ n _ _=>some n
 | .ct=>some 0
 | .emp=>some 0
 | .str s=>some (mF s)
 | _=>none
def grown(h:T AB)(nx a size:Nat)(cs:cd):Option (AV×St):=
 some (.sl nx 0 a a true,⟨h.set nx (some (.cells cs true size)),Nat.succ nx⟩)
def xX(bl:AB)(size b off len cap:Nat)(o:Bool)(n:Nat)(new:cd)(S:St):Option (AV×St):=
 match bl with
 | .cells cs a sz=>bG (cut cs off (len * size)) fun old=>
   cC o
    (cC a (cC (Nat.beq sz size) (cC (Nat.beq (off+cap * size) (mF cs)) (grown (S.h.set b none) S.nx (len+n) size (yX old new)) none) none) none)
    (grown S.h S.nx (len+n) size (yX old new))
 | .ro cs=>cC o none (bG (cut cs off (len * size)) fun old=>grown S.h S.nx (len+n) size (yX old new))
 | _=>none
def lR(bytes size b off len cap:Nat)(o:Bool)(n:Nat)(new:cd)(S:St):Option (AV×St):=
 cC (Nat.ble (len+n) cap)
  (cC (Nat.beq n 0) (some (.sl b off len cap o,S)) (bG (uF S b (off+len * size) new) fun a=>some (.sl b off (len+n) cap o,a)))
  (cC (Nat.ble (len+n) room) (cC (Nat.ble ((len+n) * bytes) room) (bG (S.h.get b) fun bl=>xX bl size b off len cap o n new S) none) none)
def qS(bytes size n:Nat)(new:cd)(S:St):Option (AV×St):=
 cC (Nat.beq n 0) (some (.ct,S))
  (cC (Nat.ble n room) (cC (Nat.ble (n * bytes) room) (grown S.h S.nx n size new) none) none)
def aAA(s:AV)(bytes size n:Nat)(new:cd)(S:St):Option (AV×St):=
 match s with
 | .ct=>qS bytes size n new S
 | .emp=>cC (Nat.beq n 0) (some (.emp,S)) none
 | .sl b off len cap o=>lR bytes size b off len cap o n new S
 | _=>none
def gG(bytes size:Nat)(s x:AV)(S:St):Option (AV×St):=
 bG (mP x) fun n=>bG (eU x S.h size n) fun new=>aAA s bytes size n new S
def qJ{α:Type}(f:α->α):List α->Nat->List α
 | [],_=>[]
 | x::a,k=>cC (Nat.beq k 0) (f x::a) (x::qJ f a (k - 1))
structure bO where
 F:Fr
 inr:Bool
abbrev fX:=AV->cd->St->Option (AV×St)
abbrev XF:=fX->Fr->St->Option (AV×St)
def qX(p:AV)(n:Nat)(cs:cd)(S:St):Option (AV×St):=
 match p with
 | .ptr b off=>cC (Nat.beq (mF cs) n) (bG (uF S b off cs) fun a=>some (.undef,a)) none
 | _=>none
def xSt(n:Nat)(x v:cT):XF:=fun _ F S=>bG (v.val F).cells fun cs=>qX (x.val F) n cs S
def aTQ(f:cT)(args:List cT):XF:=fun call F S=>call (f.val F) (eF args F) S
def aMA(v:AV)(f:Nat)(agg:Bool)(n:Nat)(args:cd)(call:fX)(S:St):Option (AV×St):=
 match v with
 | .ptr b off=>bG (qI agg n S.h b off) fun r=>call (.fn f [r] []) args S
 | _=>none
def aJL(r:Nat×Option (Bool×Nat))(v:AV)(args:cd)(call:fX)(S:St):Option (AV×St):=
 match r with
 | (f,none)=>call (.fn f [v] []) args S
 | (f,some (agg,n))=>aMA v f agg n args call S
def aJH(v:AV)(a:List (Nat×Nat×Option (Bool×Nat)))(args:cd)(call:fX)(S:St):Option (AV×St):=
 match v with
 | .iface t v=>bG (aEZ t a) fun r=>aJL r v args call S
 | _=>none
def aT5(a:List (Nat×Nat×Option (Bool×Nat)))(recv:cT)(args:List cT):XF:=fun call F S=>aJH (recv.val F) a (eF args F) call S
def aUI(_ size bytes:Nat)(s x:cT):XF:=fun _ F S=>gG bytes size (s.val F) (x.val F) S
def copyV(d:AV)(size m:Nat)(s:AV)(S:St):Option (AV×St):=
 match d with
 | .ct=>some (.int .i64 (.ofNat 0),S)
 | .emp=>some (.int .i64 (.ofNat 0),S)
 | .sl b off len _ _=>
  let n:=cC (Nat.ble m len) m len
  cC (Nat.beq n 0) (some (.int .i64 (.ofNat 0),S)) (bG (eU s S.h size n) fun cs=>bG (uF S b off cs) fun a=>some (.int .i64 (.ofNat n),a))
 | _=>none
def aJ2(v:AV):Option Nat:=
 match v with
 | .sl _ _ n _ _=>some n
 | .ct=>some 0
 | .emp=>some 0
 | _=>none
def aTc(size:Nat)(d s:cT):XF:=fun _ F S=>bG (aJ2 (s.val F)) fun m=>copyV (d.val F) size m (s.val F) S
def aAu(r:Option (Nat×AV))(a:List (AV×AV))(k v:AV):List (AV×AV):=
 match r with
 | some (i,_)=>qJ (fun _=>(k,v)) a i
 | none=>yX a [(k,v)]
def rC(m:AV)(c:sR)(k v:AV)(S:St):Option (AV×St):=
 match m with
 | .map b=>bG (bG (S.h.get b) tQ) fun a=>bG (pF c k a) fun r=>some (.undef,⟨S.h.set b (some (.map (aAu r a k v))),S.nx⟩)
 | _=>none
def aPV(a:sR)(m k v:cT):XF:=fun _ F S=>rC (m.val F) a (k.val F) (v.val F) S
def aQd(r:Option (Nat×AV))(a:List (AV×AV))(b:Nat)(S:St):Option (AV×St):=
 match r with
 | some (i,_)=>some (.undef,⟨S.h.set b (some (.map (a.eraseIdx i))),S.nx⟩)
 | none=>some (.undef,S)
def aHh(m:AV)(c:sR)(k:AV)(S:St):Option (AV×St):=
 match m with
 | .map b=>bG (bG (S.h.get b) tQ) fun a=>bG (pF c k a) fun r=>aQd r a b S
 | .nilmap=>some (.undef,S)
 | _=>none
def aPj(a:sR)(m k:cT):XF:=fun _ F S=>aHh (m.val F) a (k.val F) S
def aQ9(x:AV)(zero:cd)(S:St):Option (AV×St):=
 match x with
 | .ct=>some (.undef,S)
 | .emp=>some (.undef,S)
 | .sl b off n _ _=>cC (Nat.beq n 0) (some (.undef,S)) (bG (uF S b off (repeatL zero n)) fun a=>some (.undef,a))
 | _=>none
def aUi(zero:cd)(x:cT):XF:=fun _ F S=>aQ9 (x.val F) zero S
def aRB(a b c:Nat):AV:=
 .tup [.int .u64 (.ofNat (Nat.mod (Nat.add (Nat.add a b) c) 18446744073709551616)),.int .u64 (.ofNat (Nat.div (Nat.add (Nat.add a b) c) 18446744073709551616))]
def aHE(c:Nat):ce->Nat->Int
 | [],_=>.negSucc 0
 | b::a,i=>cC (Nat.beq b c) (.ofNat i) (aHE c a (Nat.succ i))
def aRe(k:aNx)(args:cd):Option AV:=
 match k,args with
 | .add64,[.int .u64 (.ofNat a),.int .u64 (.ofNat b),.int .u64 (.ofNat c)]=>cC (Nat.ble c 1) (some (aRB a b c)) none
 | .idxByte,[.str s,.int .u8 (.ofNat c)]=>cC (Nat.ble c 255) (some (.int .i64 (aHE c s 0))) none
 | _,_=>none
def aUx(k:aNx)(args:List cT):XF:=fun _ F S=>bG (aRe k (eF args F)) fun v=>some (v,S)
def aUu:XF:=fun _ _ _=>none
def evX(x:XOp):XF:=XOp.rec (motive:=fun _=>XF) xSt aTQ aT5 aUI aTc aPV aPj aUi aUx aUu x
def isB(v:AV)(w:Bool):Bool:=
 match v with
 | .bool b=>aOp b w
 | _=>false
def cU(d:Option Nat):Fr->AV->Fr:=Option.rec (motive:=fun _=>Fr->AV->Fr) (fun F _=>F) (fun i F v=>F.set i (some v)) d
def fT(g:Option (Nat×Bool)):Fr->Bool:=Option.rec (motive:=fun _=>Fr->Bool) (fun _=>true) (fun p F=>isB (aC p.1 F) p.2) g
abbrev OF:=Option Nat->fX->Fr->St->Option (Fr×St)
def oQ(q:QOp):OF:=fun d _ F S=>bG (gO q F S.h) fun v=>some (cU d F v,S)
def oA(a:zD):OF:=fun d _ F S=>bG (uH a F S.nx) fun r=>some (cU d F r.1,⟨S.h.set S.nx (some r.2),Nat.succ S.nx⟩)
def oX(x:XOp):OF:=fun d call F S=>bG (evX x call F S) fun r=>some (cU d F r.1,r.2)
def oOp(o:AOp):OF:=AOp.rec (motive:=fun _=>OF) oQ oA oX o
def aFf(o:AO)(call:fX)(F:Fr)(S:St):Option (Fr×St):=
 cC (fT o.grd F) (oOp o.op o.dst call F S) (some (cU o.dst F .undef,S))
def xI(l:List AO):fX->Fr->St->Option (Fr×St):=
 List.rec (motive:=fun _=>fX->Fr->St->Option (Fr×St)) (fun _ F S=>some (F,S)) (fun o _ a call F S=>bG (aFf o call F S) fun r=>a call r.1 r.2) l
structure iR where
 i:Nat
 id:Nat
 b:AB
def cP(mask:Nat):List iR->T AB->List iR×T AB
 | [],h=>([],h)
 | p::ps,h=>cC (Nat.testBit mask p.i) (cP mask ps (h.set p.id (some p.b))) (p::(cP mask ps h).1,(cP mask ps h).2)
structure mC where
 q:QOp
 F:Fr
 v:AV
 i:Nat
 mask:Nat
def eE(q:QOp):Bool:=
 match q with
 | .ld .. | .lookup .. | .lenMap .. =>true
 | .conv .bytesToStr _=>true
 | _=>false
structure DS where
 F:Fr
 S:St
 ps:List iR
 hs:List (Nat×Nat×T AB)
 ls:List mC
abbrev DF:=AO->Nat->Nat->fX->DS->Option DS
def dQ(q:QOp):DF:=fun o i _ _ D=>bG (gO q D.F D.S.h) fun v=>
 some ⟨cU o.dst D.F v,D.S,D.ps,D.hs,cC (eE q) (⟨q,D.F,v,i,o.mask⟩::D.ls) D.ls⟩
def dA(a:zD):DF:=fun o i base _ D=>bG (uH a D.F (base+i)) fun r=>
 some ⟨cU o.dst D.F r.1,D.S,⟨i,base+i,r.2⟩::D.ps,D.hs,D.ls⟩
def kN(a:List (Nat×Nat×T AB))(mask:Nat):Bool:=
 match a with
 | []=>true
 | e::_=>Nat.testBit mask e.1
def dX(x:XOp):DF:=fun o i _ call D=>
 cC (kN D.hs o.mask) (bG (evX x call D.F ⟨(cP o.mask D.ps D.S.h).2,D.S.nx⟩) fun r=>
  some ⟨cU o.dst D.F r.1,r.2,(cP o.mask D.ps D.S.h).1,(i,o.mask,r.2.h)::D.hs,D.ls⟩) none
def dOp(o:AOp):DF:=AOp.rec (motive:=fun _=>DF) dQ dA dX o
def tV(o:AO)(i base:Nat)(call:fX)(D:DS):Option DS:=
 cC (fT o.grd D.F) (dOp o.op o i base call D) (some ⟨cU o.dst D.F .undef,D.S,D.ps,D.hs,D.ls⟩)
def xM:List AO->Nat->Nat->fX->DS->Option DS
 | [],_,_,_,D=>some D
 | o::os,i,base,call,D=>bG (tV o i base call D) fun a=>xM os (i+1) base call a
mutual
def cO:AV->AV->Bool
 | .bool a,.bool b=>aOp a b
 | .int k a,.int j b=>cC (keq k j) (ieq a b) false
 | .str a,.str b=>pJ a b
 | .ptr a b,.ptr c d=>cC (Nat.beq a c) (Nat.beq b d) false
 | .nilp,.nilp=>true
 | .sl a b c d e,.sl a' h i l m=>Nat.beq a a' && Nat.beq b h && Nat.beq c i && Nat.beq d l && aOp e m
 | .ct,.ct=>true
 | .emp,.emp=>true
 | .map a,.map b=>Nat.beq a b
 | .nilmap,.nilmap=>true
 | .fn f a b,.fn g c d=>Nat.beq f g && kK a c && kK b d
 | .nilfn,.nilfn=>true
 | .yld a,.yld b=>Nat.beq a b
 | .iface t v,.iface u w=>Nat.beq t u && cO v w
 | .niliface,.niliface=>true
 | .agg a,.agg b=>kK a b
 | .tup a,.tup b=>kK a b
 | _,_=>false
def kK:cd->cd->Bool
 | [],[]=>true
 | a::x,b::y=>cC (cO a b) (kK x y) false
 | _,_=>false
end
def oY(v:AV)(r:Option AV):Bool:=
 match r with
 | some w=>cO w v
 | none=>false
def fA(l:mC):List (Nat×Nat×T AB)->T AB->Bool
 | [],h=>oY l.v (gO l.q l.F h)
 | (i,m,h')::r,h=>
  cC (Nat.testBit l.mask i) (fA l r h')
   (cC (oY l.v (gO l.q l.F h)) (cC (Nat.testBit m l.i) true (fA l r h')) false)
def iB(a:T AB)(b:List (Nat×Nat×T AB)):List mC->Bool
 | []=>true
 | l::ls=>cC (fA l b a) (iB a b ls) false
def aBh(a:T AB)(n:Nat)(D:DS):Option (Fr×St):=
 cC (iB a D.hs.reverse D.ls) (some (D.F,⟨(cP (2 ^ n - 1) D.ps D.S.h).2,D.S.nx⟩)) none
def zI(a:List AO)(call:fX)(F:Fr)(S:St):Option (Fr×St):=
 bG (xM a 0 S.nx call ⟨F,⟨S.h,S.nx+mF a⟩,[],[],[]⟩) fun D=>aBh S.h (mF a) D
structure Evs where
 code:AC->bO->St->Option (Out×bO×St)
 call:fX
abbrev CF:=Evs->bO->St->Option (Out×bO×St)
def pE:ce->cd->Fr->Option Fr
 | [],[],F=>some F
 | p::ps,v::vs,F=>pE ps vs (F.set p (some v))
 | _,_,_=>none
def sH:cd->Nat->Fr->Fr
 | [],_,F=>F
 | v::vs,i,F=>sH vs (i+1) (F.set i (some v))
def aLJ(o:Option Out):Option AC:=
 match o with
 | none=>some .skip
 | some .ret=>some .ret
 | some (.exit id)=>some (.exit id)
 | some .normal=>none
def aTP:CF:=fun _ A S=>some (.normal,A,S)
def uZ(b:AC)(a:Evs)(r:Out×bO×St):Option (Out×bO×St):=
 match r.1 with
 | .normal=>a.code b r.2.1 r.2.2
 | _=>some r
def aUr(a b:AC):CF:=fun c A S=>bG (c.code a A S) (uZ b c)
def aCH(v:AV)(a b:AC):CF:=fun c A S=>
 match v with
 | .bool t=>c.code (cC t a b) A S
 | _=>none
def aST(c:cT)(a b:AC):CF:=fun d A S=>aCH (c.val A.F) a b d A S
def uG(id:Nat)(r:Out×bO×St):Option (Out×bO×St):=
 match r.1 with
 | .exit i=>cC (Nat.beq i id) (some (.normal,r.2)) (some r)
 | _=>some r
def aR3(id:Nat)(c:AC):CF:=fun a A S=>bG (a.code c A S) (uG id)
def aTA(c:AC):CF:=fun a A S=>bG (a.code c A S) (uZ (.loop c) a)
def aSv(id:Nat):CF:=fun _ A S=>some (.exit id,A,S)
def aUe:CF:=fun _ A S=>some (.ret,A,S)
def aU3(a:List AO):CF:=fun b A S=>bG (xI a b.call A.F S) fun r=>some (.normal,⟨r.1,A.inr⟩,r.2)
def aUq(_:List AO)(_:cT)(_:List cT):CF:=fun _ _ _=>none
def aU4(a:List AO):CF:=fun b A S=>bG (zI a b.call A.F S) fun r=>some (.normal,⟨r.1,A.inr⟩,r.2)
def aCk(bl:AB)(l:Nat)(A:bO)(a:St)(b:Evs):Option (Out×bO×St):=
 match bl with
 | .loop st pend d ps as e=>
  match st with
  | .busy=>none
  | _=>bG (aLJ pend) fun c=>b.code c A ⟨a.h.set l (some (.loop .exhausted pend d ps as e)),a.nx⟩
 | _=>none
def aNO(v:AV):Bool:=
 match v with
 | .fn .. =>true
 | _=>false
def aPz(f:cT)(a:ce)(assign body:AC):CF:=fun b A S=>
 cC A.inr none (cC (aNO (f.val A.F))
  (bG (b.call (f.val A.F) [.yld S.nx] ⟨S.h.set S.nx (some (.loop .ready none A.F a assign body)),Nat.succ S.nx⟩) fun r=>
   bG (r.2.h.get S.nx) fun bl=>aCk bl S.nx A r.2 b) none)
def aJR(c:AC):CF:=
 AC.rec (motive:=fun _=>CF) aTP (fun a b _ _=>aUr a b) (fun c a b _ _=>aST c a b) (fun id c _=>aR3 id c) (fun c _=>aTA c) aSv aUe aU3 aU4 (fun f ps as d _ _=>aPz f ps as d) aUq c
def aSL(v:AV)(agg:Bool)(n:Nat)(h:T AB):Option AV:=
 match v with
 | .ptr b off=>qI agg n h b off
 | _=>none
def results:List RV->Fr->T AB->Option (cd)
 | [],_,_=>some []
 | .t i::b,F,h=>bG (results b F h) fun vs=>some (aC i F::vs)
 | .cell a agg n::b,F,h=>bG (aSL (aC a F) agg n h) fun v=>bG (results b F h) fun vs=>some (v::vs)
def oneOf(vs:cd):AV:=
 match vs with
 | [v]=>v
 | vs=>.tup vs
def aD2(fn:eY)(r:Out×bO×St):Option (AV×St):=
 match r.1 with
 | .exit _=>none
 | _=>bG (results fn.res r.2.1.F r.2.2.h) fun vs=>some (oneOf vs,r.2.2)
def wT(fn:eY)(args:cd)(a:Evs)(S:St):Option (AV×St):=
 cC (Nat.ble (mF args) fn.ntmps) (bG (a.code fn.body ⟨sH args 0 .e,false⟩ S) (aD2 fn)) none
def uL(bl:AB)(o:Out)(l:Nat)(a:St):Option (AV×St):=
 match bl with
 | .loop .busy _ b ps as c=>
  match o with
  | .normal=>some (.bool true,⟨a.h.set l (some (.loop .ready none b ps as c)),a.nx⟩)
  | o=>some (.bool false,⟨a.h.set l (some (.loop .done (some o) b ps as c)),a.nx⟩)
 | _=>none
def aLU(l:Nat)(a:AC)(b:Evs)(A:bO)(S:St):Option (AV×St):=
 bG (b.code a A S) fun r=>bG (r.2.2.h.get l) fun bl=>uL bl r.1 l r.2.2
def tG(bl:AB)(l:Nat)(b:AC)(c:Evs)(A:bO)(S1:St):Option (AV×St):=
 match bl with
 | .loop .ready pend d ps as a=>aLU l b c A ⟨S1.h.set l (some (.loop .busy pend d ps as a)),S1.nx⟩
 | _=>none
def aDn(l:Nat)(a:AC)(b:Evs)(r:Out×bO×St):Option (AV×St):=
 match r.1 with
 | .normal=>bG (r.2.2.h.get l) fun bl=>tG bl l a b r.2.1 r.2.2
 | _=>none
def aAN(bl:AB)(l:Nat)(args:cd)(a:Evs)(S:St):Option (AV×St):=
 match bl with
 | .loop .ready _ b ps as c=>bG (pE ps args b) fun F=>bG (a.code as ⟨F,true⟩ S) (aDn l c a)
 | _=>none
def xU(fns:T eY)(a:Evs)(f:AV)(args:cd)(S:St):Option (AV×St):=
 match f with
 | .fn id first cap=>bG (fns.get id) fun fn=>wT fn (yX first (yX args cap)) a S
 | .yld l=>bG (S.h.get l) fun bl=>aAN bl l args a S
 | _=>none
def aSf(_:AC)(_:bO)(_:St):Option (Out×bO×St):=none
def aRp(_:AV)(_:cd)(_:St):Option (AV×St):=none
def ev(fns:T eY)(n:Nat):Evs:=
 Nat.rec (motive:=fun _=>Evs) ⟨aSf,aRp⟩ (fun _ a=>⟨fun c=>aJR c a,xU fns a⟩) n
end
end Go.Ev
namespace Go.Ev
noncomputable section
def aOm(v:Value):Bool:=
 match v with
 | .agg _=>false
 | .tuple _=>false
 | _=>true
mutual
def ofValue:Value->Option AV
 | .bool b=>some (.bool b)
 | .int k n=>some (.int k n)
 | .string s=>some (.str (s.data.toList.map UInt8.toNat))
 | .pointer none=>some .nilp
 | .slice none 0 0=>some .ct
 | .map none=>some .nilmap
 | .nilFunc=>some .nilfn
 | .nilIface=>some .niliface
 | .func (.func f) ⟨a⟩ ⟨b⟩=>match ofValues a,ofValues b with
  | some a,some b=>some (.fn f a b)
  | _,_=>none
 | .iface t v=>(ofValue v).map (.iface t)
 | .agg ⟨cs⟩=>bif cs.all aOm then(ofValues cs).map .agg else none
 | .tuple ⟨cs⟩=>(ofValues cs).map .tup
 | _=>none
def ofValues:List Value->Option (cd)
 | []=>some []
 | v::vs=>match ofValue v,ofValues vs with
  | some a,some as=>some (a::as)
  | _,_=>none
end
variable (P:Program)
def iK:Operand->Option cT
 | .tmp t=>some (.t t)
 | .const v=>(ofValue v).map .c
 | .global g=>bif Nat.blt g P.globals.size then some (.c (.ptr g 0)) else none
 | .func f=>some (.c (.fn f [] []))
def aBC:List Operand->Option (List cT)
 | []=>some []
 | x::b=>match iK P x,aBC b with
  | some a,some as=>some (a::as)
  | _,_=>none
def pI:Option Operand->Option (Option cT)
 | none=>some none
 | some x=>(iK P x).map some
def aDe(t:TypeId):Option (Bool×Nat):=
 match P.underlying t,P.info? t with
 | some (.struct _),some i=>some (true,i.size)
 | some (.array _ _),some i=>some (true,i.size)
 | some _,some i=>some (false,i.size)
 | _,_=>none
def aIu(t:TypeId):Option AV:=
 match P.info? t with
 | some i=>match i.zero with
  | some v=>ofValue v
  | none=>none
 | none=>none
def eqP(t:TypeId):EqP:=
 match P.underlying t with
 | some .bool=>.bool
 | some (.int _)=>.int
 | some .string=>.str
 | some (.pointer _)=>.ptr
 | some (.slice _)=>.slice
 | some (.map _ _)=>.map
 | some (.func ..)=>.func
 | some (.interface _)=>.iface
 | _=>.no
def eqFields:List Field->List (Nat×EqP)
 | []=>[]
 | f::fs=>bif f.name== "_" then eqFields fs else(f.offset,eqP P f.type)::eqFields fs
def eqT(t:TypeId):sR:=
 match P.underlying t with
 | some (.struct a)=>bif P.stoodInHeld t || P.eqGuardType P.depth t then .p .no else .struct (eqFields P a.toList)
 | some (.array n e)=>bif P.eqGuardType P.depth t || n>64 || P.cellsOf e !=1 then .p .no else .struct ((List.range n).map fun i=>(i,eqP P e))
 | _=>.p (eqP P t)
def yQ(place:Nat->Option (Nat×Nat)):List (Nat×Operand)->Option (List (Nat×Nat×cT))
 | []=>some []
 | (i,x)::ps=>match place i,iK P x,yQ place ps with
  | some (off,n),some x,some ps=>some ((off,n,x)::ps)
  | _,_,_=>none
def placeOf(a:Array Field)(i:Nat):Option (Nat×Nat):=
 match a[i]? with
 | some f=>match P.info? f.type with
  | some s=>some (f.offset,s.size)
  | none=>none
 | none=>none
def qF:List Field->Bool
 | []=>true
 | f::a=>(P.info? f.type).isSome && qF a
def zW:List (Nat×Operand)->Option (List (Nat×cT))
 | []=>some []
 | (i,x)::ps=>match iK P x,zW ps with
  | some x,some ps=>some ((i,x)::ps)
  | _,_=>none
def rB(t:TypeId):Option (TypeId×TypeInfo):=
 match P.underlying t with
 | some (.slice e)=>(P.info? e).map fun i=>(e,i)
 | _=>none
def lD(t:TypeId):Option (cd):=(aIu P t).bind AV.cells
def oH(e:TypeId)(i:TypeInfo):Option (cd):=
 match lD P e with
 | some z=>bif Nat.beq z.length i.size then some z else none
 | none=>none
def aPX(u:TypeId)(i:TypeInfo):Bool:=
 match P.underlying u with
 | some (.slice _)=>true
 | some .string=>Nat.beq i.size 1
 | _=>false
def aMl(name:String)(t:TypeId)(i:TypeInfo):Option (Nat×Nat×Option (Bool×Nat)):=
 match i.methods.find? (·.name==name) with
 | some m=>bif !m.path.isEmpty then none else match m.func with
  | none=>none
  | some (f,ptr)=>match P.underlying t,ptr with
   | some (.pointer _),true=>some (t,f,none)
   | some (.pointer e),false=>(aDe P e).map fun a=>(t,f,some a)
   | some (.interface _),_=>none
   | some _,false=>some (t,f,none)
   | _,_=>none
 | none=>none
def yP(name:String):List TypeInfo->Nat->List (Nat×Nat×Option (Bool×Nat))
 | [],_=>[]
 | i::is,t=>match aMl P name t i with
  | some r=>r::yP name is (t+1)
  | none=>yP name is (t+1)
def plainKey:EqP->Bool
 | .int | .str | .bool=>true
 | _=>false
def aCy:Nat->List (Nat×EqP)->Bool
 | _,[]=>true
 | i,(o,e)::l=>Nat.beq o i && (plainKey e && aCy (i+1) l)
def aCh(t:TypeId):Option sR:=
 match P.underlying t with
 | some .string=>some (.p .str)
 | some (.int _)=>some (.p .int)
 | some (.struct a)=>match eqT P t with
  | .struct l=>bif a.all (fun f=>plainKey (eqP P f.type)) && aCy 0 l then some (.struct l) else none
  | _=>none
 | some (.array _ e)=>match eqT P t with
  | .struct l=>bif plainKey (eqP P e) && aCy 0 l then some (.struct l) else none
  | _=>none
 | _=>none
def aPW(s:String):Option aNx:=
 bif s== "math/bits.Add64" then some .add64
 else bif s== "internal/bytealg.IndexByteString" then some .idxByte
 else none
def aTM(f:Operand):Option aNx:=
 match f with
 | .func f=>match P.funcs[f]? with
  | some fn=>bif fn.body.isNone && (Extern.allNextRows.lookup fn.origin).isNone then aPW fn.name else none
  | none=>none
 | _=>none
def q(o:Option QOp):Option AOp:=o.map .q
def al(o:Option zD):Option AOp:=o.map .a
def xx(o:Option XOp):Option AOp:=o.map .x
def aVb(b:Builtin)(as:List Operand)(a:List TypeId):Option AOp:=
 match b with
 | .copy=>match as,a with
  | [d,s],[t,_]=>match rB P t with
   | some (_,i)=>xx do some (.copy i.size (<-iK P d) (<-iK P s))
   | none=>none
  | _,_=>none
 | _=>none
def uI(o:Op):Option AOp:=
 match o with
 | .move x | .assign x=>q do some (.mv (<-iK P x))
 | .pick c a b=>q do some (.pick (<-iK P c) (<-iK P a) (<-iK P b))
 | .alloc t=>al do some (.alloc t (<-lD P t))
 | .box t x=>al do some (.box t (<-iK P x))
 | .build t ps=>
  match P.underlying t with
  | some (.struct fs)=>bif qF P fs.toList then q do some (.build (<-lD P t) (<-yQ P (placeOf P fs) ps.toList)) else none
  | some (.array _ e)=>q do let s <-P.info? e;some (.build (<-lD P t) (<-yQ P (fun i=>some (i * s.size,s.size)) ps.toList))
  | _=>none
 | .buildSlice t len ps=>al do
  let (e,i) <-rB P t
  if len * i.size>65536 then none
  some (.dd e i.size len (<-oH P e i) (<-zW P ps.toList))
 | .load t a=>q do let (agg,n) <-aDe P t;some (.ld agg n (<-iK P a))
 | .store t a v=>xx do let (_,n) <-aDe P t;some (.st n (<-iK P a) (<-iK P v))
 | .nilCheck x=>q do some (.cw (<-iK P x))
 | .binOp op t x y _=>q do some (.bin op (eqT P t) (<-iK P x) (<-iK P y))
 | .unOp op _ x=>q do some (.un op (<-iK P x))
 | .convert src dst x=>
  match P.underlying src,P.underlying dst with
  | some (.int _),some (.int k)=>q do some (.conv (.int k) (<-iK P x))
  | some .string,some .string=>q do some (.conv .same (<-iK P x))
  | some (.int _),some .string=>q do some (.conv .intToStr (<-iK P x))
  | some (.slice e),some .string=>match P.underlying e with
   | some (.int .u8)=>q do some (.conv .bytesToStr (<-iK P x))
   | _=>none
  | some .string,some (.slice e)=>match P.underlying e with
   | some (.int .u8)=>al do some (.strBytes e (<-iK P x))
   | _=>none
  | _,_=>none
 | .makeInterface t x=>match P.underlying t with
  | some (.interface _)=>none
  | some _=>q do some (.mkIface t (<-iK P x))
  | none=>none
 | .makeFunc (.func f) a b=>q do some (.mkFunc f (<-aBC P a.toList) (<-aBC P b.toList))
 | .makeMap _ none=>al (some .mkMap)
 | .makeSlice t l c=>al do let (e,i) <-rB P t;some (.du e i.size i.bytes (<-oH P e i) (<-iK P l) (<-iK P c))
 | .slice t x lo hi mx=>bif mx.isSome && hi.isNone then none else
  match P.underlying t with
  | some (.slice e)=>q do let i <-P.info? e;some (.slc (.slice i.size) (<-iK P x) (<-pI P lo) (<-pI P hi) (<-pI P mx))
  | some (.array n e)=>q do let i <-P.info? e;some (.slc (.arr n i.size) (<-iK P x) (<-pI P lo) (<-pI P hi) (<-pI P mx))
  | _=>none
 | .fieldAddr t x f=>match P.underlying t with
  | some (.struct fs)=>q do
   let f <-fs[f]?
   let i <-P.info? f.type
   if i.size=0 then none
   some (.dk f.offset (<-iK P x))
  | _=>none
 | .field t x f=>match P.underlying t with
  | some (.struct fs)=>q do
   let f <-fs[f]?
   let (agg,n) <-aDe P f.type
   some (.fld agg f.offset n (<-iK P x))
  | _=>none
 | .indexAddr t x ix=>match P.underlying t with
  | some (.slice e)=>q do let i <-P.info? e;some (.df (.slice i.size) (<-iK P x) (<-iK P ix))
  | some (.array n e)=>q do let i <-P.info? e;some (.df (.arr n i.size) (<-iK P x) (<-iK P ix))
  | _=>none
 | .lookup t m k ok=>match P.underlying t with
  | some (.map kt et)=>q do some (.lookup (<-aCh P kt) (<-aIu P et) ok (<-iK P m) (<-iK P k))
  | _=>none
 | .mapUpdate t m k v | .insert t m k v=>match P.underlying t with
  | some (.map kt _)=>xx do some (.mapUpd (<-aCh P kt) (<-iK P m) (<-iK P k) (<-iK P v))
  | _=>none
 | .extract x i=>q do some (.extract (<-iK P x) i)
 | .call {callee:=.value f,args,.. }=>match aTM P f with
  | some _=>none
  | none=>xx do some (.call (<-iK P f) (<-aBC P args.toList))
 | .call {callee:=.builtin b,args,argTypes}=>
  match b,args.toList,argTypes.toList with
  | .len,[x],[t]=>match P.underlying t with
   | some (.slice _)=>q do some (.dh (<-iK P x))
   | _=>none
  | .max,xs,_=>q do some (.dz true (<-aBC P xs))
  | .min,xs,_=>q do some (.dz false (<-aBC P xs))
  | .append,[s,x],[t,u]=>match rB P t with
   | some (e,i)=>bif aPX P u i && (oH P e i).isSome then xx do some (.app e i.size i.bytes (<-iK P s) (<-iK P x)) else none
   | none=>none
  | _,_,_=>none
 | _=>none
def aB7(a:Array Oper):Option (Nat×Bool)->Option (Option (Nat×Bool))
 | none=>some none
 | some (j,w)=>match (a[j]?).bind (·.dst) with
  | some d=>some (some (d,w))
  | none=>none
def aAf(nt:Nat):Option Tmp->Bool
 | some d=>Nat.blt d nt
 | none=>true
def aKF(nt:Nat)(ops:Array Oper)(o:Oper)(mask:Nat):Option AO:=
 bif aAf nt o.dst then
  match aB7 ops o.guard with
  | some g=>match uI P o.op with
   | some op=>some ⟨o.dst,op,g,mask⟩
   | none=>some ⟨o.dst,.x .bad,g,mask⟩
  | none=>none
 else none
def wQ(nt:Nat)(ops:Array Oper):List Oper->ce->Option (List AO)
 | [],_=>some []
 | o::os,ms=>match aKF P nt ops o (ms.headD 0),wQ nt ops os ms.tail with
  | some a,some as=>some (a::as)
  | _,_=>none
def cT.rd(x:cT):ce:=
 match x with
 | .t i=>[i]
 | .c _=>[]
def rds:List cT->ce
 | []=>[]
 | x::a=>x.rd++rds a
def rdo(x:Option cT):ce:=
 match x with
 | some x=>x.rd
 | none=>[]
def rdp:List (Nat×Nat×cT)->ce
 | []=>[]
 | (_,_,x)::ps=>x.rd++rdp ps
def aR6:List (Nat×cT)->ce
 | []=>[]
 | (_,x)::ps=>x.rd++aR6 ps
def QOp.rd(o:QOp):ce:=
 match o with
 | .mv x | .ld _ _ x | .cw x | .un _ x | .conv _ x | .mkIface _ x | .dk _ x | .fld _ _ _ x | .tassert _ _ _ x | .extract x _ | .lenStr x | .dh x | .lenMap x | .capSl x | .mkMeth _ _ x=>x.rd
 | .pick c a b=>c.rd++(a.rd++b.rd)
 | .build _ ps=>rdp ps
 | .bin _ _ x y | .df _ x y | .idxArr _ _ _ x y | .idxStr x y | .lookup _ _ _ x y=>x.rd++y.rd
 | .mkFunc _ a b=>rds a++rds b
 | .slc _ x lo hi mx=>x.rd++(rdo lo++(rdo hi++rdo mx))
 | .lenArr _=>[]
 | .dz _ d=>rds d
def zD.rd(o:zD):ce:=
 match o with
 | .alloc _ _ | .mkMap=>[]
 | .box _ x | .strBytes _ x=>x.rd
 | .dd _ _ _ _ ps=>aR6 ps
 | .du _ _ _ _ l c=>l.rd++c.rd
def XOp.rd(o:XOp):ce:=
 match o with
 | .st _ x v=>x.rd++v.rd
 | .call f args | .inv _ f args=>f.rd++rds args
 | .app _ _ _ s x | .copy _ s x | .mapDel _ s x=>s.rd++x.rd
 | .mapUpd _ m k v=>m.rd++(k.rd++v.rd)
 | .clr _ x=>x.rd
 | .ext _ args=>rds args
 | .bad=>[]
def AOp.rd(o:AOp):ce:=
 match o with
 | .q o=>o.rd
 | .a o=>o.rd
 | .x o=>o.rd
def AO.touch(o:AO):ce:=o.dst.toList++((o.grd.map (·.1)).toList++o.op.rd)
def inL(t:Nat):ce->Bool
 | []=>false
 | u::l=>bif Nat.beq t u then true else inL t l
def meets(d:Option Nat)(b:ce):Bool:=
 match d with
 | some d=>inL d b
 | none=>false
def aGO(i:Nat)(d:Option Nat)(a:ce):List AO->Bool
 | []=>true
 | b::l=>(bif meets d b.touch || meets b.dst a then Nat.testBit b.mask i else true) && aGO i d a l
def aKj:Nat->List AO->Bool
 | _,[]=>true
 | i,a::l=>aGO i a.dst a.touch l && aKj (i+1) l
def aTn(l:List AO):Bool:=aKj 0 l
def aDp:Nat->List Oper->Bool
 | _,[]=>true
 | i,o::l=>o.after.all (fun e=> !Region.binds .any e || Nat.blt e.on i) && aDp (i+1) l
def aDI(nt:Nat)(ops:Array Oper):Option AC:=
 match wQ P nt ops ops.toList (CheckFast.beforeL ops.toList 0 []) with
 | some aos=>bif aDp 0 ops.toList && aTn aos then some (.drw aos) else none
 | none=>none
def kC(nt:Nat):Code->Option AC
 | .skip=>some .skip
 | .seq a b=>match kC nt a,kC nt b with
  | some a,some b=>some (.seq a b)
  | _,_=>none
 | .cond c a b=>match iK P c,kC nt a,kC nt b with
  | some c,some a,some b=>some (.cond c a b)
  | _,_,_=>none
 | .block id c=>(kC nt c).map (.block id)
 | .loop c=>(kC nt c).map .loop
 | .exit id=>some (.exit id)
 | .ret=>some .ret
 | .region _ ops d=>bif d then aDI P nt ops else(wQ P nt ops ops.toList []).map .reg
 | .rangeFunc f ps as bd=>bif ps.toList.all (fun p=>Nat.blt p nt) then match iK P f,kC nt as,kC nt bd with
  | some f,some as,some bd=>some (.rng f ps.toList as bd)
  | _,_,_=>none
  else none
 | _=>none
def aGF:List ResultVar->Option (List RV)
 | []=>some []
 | .tmp t::b=>(aGF b).map (.t t:: ·)
 | .cell a t::b=>match aDe P t,aGF b with
  | some (agg,n),some b=>some (.cell a agg n::b)
  | _,_=>none
def cFn(fn:Func):Option eY:=
 bif fn.name== "runtime.NumGoroutine" then none else
 match fn.body with
 | some c=>match kC P fn.ntmps c,aGF P fn.results.toList with
  | some c,some rs=>some ⟨fn.ntmps,rs,c⟩
  | _,_=>none
 | none=>none
def aCV:AC->Bool
 | .rng _ _ _ _=>false
 | .seq a b=>aCV a && aCV b
 | .cond _ a b=>aCV a && aCV b
 | .block _ c=>aCV c
 | .loop c=>aCV c
 | _=>true
end
end Go.Ev
