import GoSem.Dispatch
import Derived.CheckFast
namespace Go.Ev
theorem az.{u}{A:Type u}{P:A->Prop}{a:A}{l:List A}(h:P a)(t:∀x∈l,P x):∀x∈a::l,P x:=List.forall_mem_cons.2 ⟨h,t⟩
end Go.Ev
namespace Go.Ev
theorem ar{p:Prop}(h:p:=by omega):p:=h
theorem au{p q:Prop}(a:q)(h:q->p:=by intro a;omega):p:=h a
theorem ay{p:Prop}(h:p:=by decide):p:=h
end Go.Ev
namespace Go.Ev
abbrev Aa:=@decide_eq_false
abbrev Ab.{u}:=@List.getElem?_eq_getElem.{u}
abbrev Ac:=@decide_eq_true
abbrev Ad.{u}:=@List.getD_eq_getElem?_getD.{u}
abbrev Ae:=@Nat.lt_of_lt_of_le
abbrev Af.{u}:=@List.forall_mem_cons.{u}
abbrev Ag:=@Nat.le_refl
abbrev Ah:=@Int.ofNat_eq_natCast
abbrev Ai.{u}:=@List.getElem?_eq_some_iff.{u}
abbrev Aj.{u,v}:=@List.length_map.{u,v}
abbrev Ak:=@not_false_eq_true
abbrev Al:=@Nat.le_trans
abbrev Am.{u,v}:=@List.getElem?_map.{u,v}
abbrev An:=@Nat.zero_add
abbrev Ao.{u}:=@List.length_append.{u}
abbrev Ap.{u}:=@Option.some.injEq.{u}
abbrev Aq.{u}:=@List.length_set.{u}
abbrev Ar.{u}:=@List.mem_of_getElem?.{u}
abbrev Au.{u}:=@List.length_replicate.{u}
abbrev Av:=@Nat.ble_eq_true_of_le
abbrev Aw.{u,v}:=@Option.map_eq_some_iff.{u,v}
abbrev Ax.{u}:=@List.length_cons.{u}
abbrev Ay:=@List.length_range
abbrev Az:=@Int.toNat_natCast
abbrev Ba:=@Nat.le_add_right
abbrev Bb.{u}:=@List.take_of_length_le.{u}
abbrev Bc:=@Bool.false_eq_true
abbrev Bd:=@Nat.le_of_ble_eq_true
abbrev Be.{u}:=@List.getElem?_append_right.{u}
abbrev Bf:=@List.getElem?_range
abbrev Bg.{u}:=@List.getElem?_append_left.{u}
abbrev Bh.{u}:=@Array.getD_eq_getD_getElem?.{u}
abbrev Bi.{u}:=@Bool.cond_eq_ite.{u}
abbrev Bj:=@Nat.beq_eq
abbrev Bk.{u}:=@List.mem_cons_of_mem.{u}
abbrev Bl.{u}:=@List.length_singleton.{u}
abbrev Bm:=@Nat.not_lt_zero
abbrev Bn.{u}:=@List.take_add_one.{u}
abbrev Bo.{u}:=@List.getElem_mem.{u}
abbrev Bp.{u}:=@Option.some.inj.{u}
abbrev Bq.{u}:=@List.length_nil.{u}
abbrev Br:=@Nat.add_zero
abbrev Bs.{u}:=@List.mem_cons.{u}
abbrev Bt.{u}:=@Ne.symm.{u}
abbrev Bu.{u}:=@List.length_eq_zero_iff.{u}
abbrev Bv.{u}:=@List.mem_cons_self.{u}
abbrev Bw.{u}:=@List.drop_eq_getElem_cons.{u}
abbrev Bx.{u}:=@List.cons.injEq.{u}
abbrev Bz.{u}:=@List.reverse_cons.{u}
abbrev Ca.{u}:=@List.length_take.{u}
abbrev Cb.{u}:=@List.mem_append.{u}
abbrev Cc:=@Bool.not_true
abbrev Cd.{u}:=@List.getElem?_eq_none.{u}
abbrev Ce.{u}:=@Array.getElem?_eq_some_iff.{u}
abbrev Cf:=@decide_eq_true_iff
abbrev Cg.{u}:=@List.nil_append.{u}
abbrev Ch.{u}:=@List.getElem?_replicate.{u}
abbrev Ci:=@Bool.not_false
abbrev Cj.{u}:=@List.append_assoc.{u}
abbrev Ck.{u}:=@List.cons_append.{u}
abbrev Cl:=@Bool.eq_iff_iff
abbrev Cm.{u}:=@List.getElem_of_mem.{u}
abbrev Cn.{u}:=@List.drop_of_length_le.{u}
abbrev Co:=@Bool.and_eq_true
abbrev Cp:=@Nat.eq_of_beq_eq_true
abbrev Cq:=@Nat.add_assoc
abbrev Cr:=@Nat.mul_one
abbrev Ct:=@not_true_eq_false
abbrev Cu.{u}:=@List.getElem?_set.{u}
abbrev Cv.{u}:=@List.mem_append_right.{u}
abbrev Cw.{u}:=@Array.getElem?_toList.{u}
abbrev Cx:=@Nat.lt_or_ge
abbrev Cy.{u}:=@Array.length_toList.{u}
abbrev Cz.{u,v}:=@Option.bind_eq_some_iff.{u,v}
abbrev Da:=@List.mem_range
abbrev Db:=@of_decide_eq_true
abbrev Dc.{u,v}:=@List.map_cons.{u,v}
abbrev Dd:=@Decidable.not_not
abbrev De.{u}:=@List.mem_append_left.{u}
abbrev Dg.{u,v}:=@List.mem_map.{u,v}
abbrev Dh:=@Nat.eq_zero_or_pos
abbrev Di.{u}:=@List.all_eq_true.{u}
abbrev Dj:=@Nat.lt_succ_self
abbrev Dk.{u}:=@beq_self_eq_true.{u}
abbrev Dl:=@Nat.lt_trichotomy
abbrev Dm:=@Nat.mul_le_mul_right
abbrev Dn.{u}:=@List.append_nil.{u}
abbrev Dp.{u}:=@List.ext_getElem.{u}
abbrev Dq.{u}:=@Option.getD_some.{u}
abbrev Dr.{u}:=@List.length_drop.{u}
abbrev Dt:=@and_true
abbrev Du:=@Nat.zero_le
abbrev Dv.{u}:=@List.mem_iff_getElem?.{u}
abbrev Dw.{u}:=@List.singleton_append.{u}
abbrev Dx.{u}:=@List.drop_zero.{u}
abbrev Dy.{u,v}:=@Option.map_some.{u,v}
abbrev Dz.{u,v}:=@List.map_append.{u,v}
abbrev Ea.{u}:=@List.mem_of_mem_take.{u}
abbrev Eb.{u}:=@List.getElem?_cons_succ.{u}
abbrev Ec:=@Nat.add_mul
abbrev Ed:=@true_and
abbrev Ee.{u}:=@List.idxOf_lt_length_of_mem.{u}
abbrev Ef.{u}:=@List.sum_cons.{u}
abbrev Eg.{u}:=@if_false.{u}
abbrev Eh:=@Nat.sub_self
abbrev Ei:=@Bool.eq_false_iff
abbrev Ej.{u,v}:=@List.map_congr_left.{u,v}
abbrev Ek.{u}:=@Array.getElem?_eq_getElem.{u}
abbrev El.{u}:=@Classical.choose_spec.{u}
abbrev Em.{u}:=@List.getElem?_take_of_lt.{u}
abbrev En.{u}:=@List.getElem?_append.{u}
abbrev Eo.{u}:=@if_true.{u}
abbrev Ep:=@Nat.zero_mul
abbrev Eq:=@Nat.le_of_eq
abbrev Er:=@Nat.le_max_right
abbrev Et.{u}:=@List.mem_singleton.{u}
abbrev Eu:=@Bool.or_eq_true
abbrev Ew:=@Nat.le_max_left
abbrev Ex.{u}:=@List.mem_of_mem_drop.{u}
abbrev Ey.{u}:=@List.mem_iff_getElem.{u}
abbrev Ez.{u,v}:=@List.mem_map_of_mem.{u,v}
abbrev Fa.{u,v}:=@Array.toList_map.{u,v}
abbrev Fb.{u}:=@List.take_zero.{u}
abbrev Fc:=@Nat.add_sub_cancel
abbrev Fd.{u}:=@List.getElem?_drop.{u}
abbrev Fe:=@Nat.succ_mul
abbrev Ff:=@Nat.ble_eq
abbrev Fg.{u,v}:=@congrArg.{u,v}
noncomputable section
inductive T(α:Type) where
 | e:T α
 | n (l:T α) (v:Option α) (r:T α):T α
def bQ{α:Sort _}(c:Bool)(a b:α):α:=Bool.rec b a c
def bC{α β:Type}(x:Option α)(f:α->Option β):Option β:=Option.rec none f x
namespace T
variable {α:Type}
def get(t:T α):Nat->Option α:=
 T.rec (motive:=fun _=>Nat->Option α) (fun _=>none)
  (fun _ v _ gl gr k=>bQ (Nat.beq k 0) v (bQ (Nat.beq (Nat.mod k 2) 1) (gl (Nat.div k 2)) (gr (Nat.sub (Nat.div k 2) 1)))) t
def single(f:Nat):Nat->Option α->T α:=
 Nat.rec (motive:=fun _=>Nat->Option α->T α) (fun _ _=>.e)
  (fun _ ih k x=>bQ (Nat.beq k 0) (.n .e x .e) (bQ (Nat.beq (Nat.mod k 2) 1) (.n (ih (Nat.div k 2) x) none .e) (.n .e none (ih (Nat.sub (Nat.div k 2) 1) x)))) f
def set(t:T α):Nat->Option α->T α:=
 T.rec (motive:=fun _=>Nat->Option α->T α) (fun k x=>single (Nat.succ k) k x)
  (fun l v r sl sr k x=>bQ (Nat.beq k 0) (.n l x r) (bQ (Nat.beq (Nat.mod k 2) 1) (.n (sl (Nat.div k 2) x) v r) (.n l v (sr (Nat.sub (Nat.div k 2) 1) x)))) t
end T
inductive AV where
 | bool (b:Bool)
 | int (k:IntKind) (n:Int)
 | str (s:List Nat)
 | ptr (b off:Nat)
 | nilp
 | sl (b off len cap:Nat) (o:Bool)
 | bw
 | emp        -- an empty slice,not nil,of unknown place and capacity
 | map (b:Nat)
 | nilmap
 | fn (f:Nat) (first captured:List AV)
 | nilfn
 | yld (b:Nat)
 | iface (t:Nat) (v:AV)
 | niliface
 | mth (name:String) (tbl:List (Nat×Nat×Option (Bool×Nat))) (v:AV)     -- a method of an interface value,bound
 | agg (cs:List AV)
 | tup (vs:List AV)
 deriving Inhabited
abbrev a9:=List (List Int)
abbrev ba:=List Int
abbrev bf:=List AV
abbrev bg:=List Nat
def AV.cells(v:AV):Option (bf):=
 match v with
 | .agg cs=>some cs
 | .tup _=>none
 | v=>some [v]
def AV.undef:AV:=.tup []
inductive cO where
 | t (i:Nat)
 | c (v:AV)
 deriving Inhabited
inductive EqP where
 | bool | int | str | ptr | slice | map | func | iface | no
 deriving Inhabited,DecidableEq
inductive tZ where
 | p (e:EqP)
 | struct (fs:List (Nat×EqP))
 deriving Inhabited
inductive aJY where
 | int (k:IntKind)
 | same
 | bytesToStr
 | intToStr
 deriving Inhabited
inductive SlK where
 | str
 | slice (size:Nat)
 | arr (n size:Nat)
 deriving Inhabited
inductive IxK where
 | arr (n size:Nat)
 | slice (size:Nat)
 deriving Inhabited
inductive QOp where
 | mv (x:cO)
 | pick (c a b:cO)
 | build (zero:bf) (parts:List (Nat×Nat×cO))
 | ld (agg:Bool) (n:Nat) (x:cO)
 | ch (x:cO)
 | bin (op:BinOp) (e:tZ) (x y:cO)
 | un (op:UnOp) (x:cO)
 | conv (k:aJY) (x:cO)
 | mkIface (t:Nat) (x:cO)
 | mkFunc (f:Nat) (first captured:List cO)
 | slc (k:SlK) (x:cO) (lo hi mx:Option cO)
 | cw (off:Nat) (x:cO)
 | fld (agg:Bool) (off n:Nat) (x:cO)
 | cp (k:IxK) (x ix:cO)
 | idxArr (agg:Bool) (n size:Nat) (x ix:cO)
 | idxStr (x ix:cO)
 | lookup (e:tZ) (zero:AV) (commaOk:Bool) (m key:cO)
 | tassert (t:Nat) (zero:AV) (commaOk:Bool) (x:cO)
 | extract (x:cO) (i:Nat)
 | lenArr (n:Nat)
 | lenStr (x:cO)
 | ct (x:cO)
 | lenMap (x:cO)
 | capSl (x:cO)
 | dg (isMax:Bool) (xs:List cO)
 | mkMeth (name:String) (tbl:List (Nat×Nat×Option (Bool×Nat))) (x:cO)
 deriving Inhabited
inductive wN where
 | alloc (t:Nat) (cells:bf)
 | box (t:Nat) (x:cO)
 | cj (t size len:Nat) (zero:bf) (parts:List (Nat×cO))
 | dd (t size bytes:Nat) (zero:bf) (l c:cO)
 | mkMap
 | strBytes (t:Nat) (x:cO)
 deriving Inhabited
inductive aLf where
 | add64 | idxByte | idxStr
 deriving Inhabited
inductive XOp where
 | st (n:Nat) (x v:cO)
 | call (f:cO) (args:List cO)
 | inv (tbl:List (Nat×Nat×Option (Bool×Nat))) (recv:cO) (args:List cO)
 | app (t size bytes:Nat) (s x:cO)
 | copy (size:Nat) (d s:cO)
 | mapUpd (e:tZ) (m k v:cO)
 | mapDel (e:tZ) (m k:cO)
 | clr (zero:bf) (x:cO)
 | ext (k:aLf) (args:List cO)
 | bad
 deriving Inhabited
inductive AOp where
 | q (o:QOp)
 | a (o:wN)
 | x (o:XOp)
 deriving Inhabited
structure AO where
 dst:Option Nat
 op:AOp
 grd:Option (Nat×Bool)
 mask:Nat      -- the operations before it (drawn regions)
 deriving Inhabited
inductive AC where
 | skip
 | seq (a b:AC)
 | cond (c:cO) (a b:AC)
 | block (id:Nat) (c:AC)
 | loop (c:AC)
 | exit (id:Nat)
 | ret
 | reg (ops:List AO)
 | drw (ops:List AO)
 | rng (f:cO) (params:bg) (assign body:AC)
 | dfr (ops:List AO) (f:cO) (args:List cO)
 deriving Inhabited
inductive RV where
 | t (i:Nat)
 | cell (a:Nat) (agg:Bool) (n:Nat)
 deriving Inhabited
structure dY where
 ntmps:Nat
 res:List RV
 body:AC
 deriving Inhabited
abbrev Fr:=T AV
inductive LSt where
 | ready | busy | done | exhausted
 deriving DecidableEq,Inhabited
inductive Out where
 | normal
 | exit (id:Nat)
 | ret
 deriving Inhabited
inductive AB where
 | cells (cs:bf) (opn:Bool) (size:Nat)     -- opn:there may be more room behind;size:the cells of an element then
 | ro (cs:bf)
 | map (es:List (AV×AV))
 | loop (st:LSt) (pend:Option Out) (fr:Fr) (params:bg) (assign body:AC)
 | dfd
 deriving Inhabited
structure St where
 h:T AB
 nx:Nat
def aD(i:Nat)(F:Fr):AV:=Option.rec (motive:=fun _=>AV) .undef (fun v=>v) (F.get i)
def aPT(v:AV)(_:Fr):AV:=v
def cO.val(x:cO):Fr->AV:=cO.rec (motive:=fun _=>Fr->AV) aD aPT x
def dG(l:List cO):Fr->bf:=List.rec (motive:=fun _=>Fr->bf) (fun _=>[]) (fun x _ ih F=>x.val F::ih F) l
def nth{α:Type}(l:List α):Nat->Option α:=List.rec (motive:=fun _=>Nat->Option α) (fun _=>none) (fun x _ ih k=>bQ (Nat.beq k 0) (some x) (ih (Nat.sub k 1))) l
def aHT{α:Type}(l:List α):Nat->List α:=List.rec (motive:=fun _=>Nat->List α) (fun _=>[]) (fun x xs ih k=>bQ (Nat.beq k 0) (x::xs) (ih (Nat.sub k 1))) l
def aGN{α:Type}(l:List α):Nat->Option (List α):=
 List.rec (motive:=fun _=>Nat->Option (List α)) (fun n=>bQ (Nat.beq n 0) (some []) none)
  (fun x _ ih n=>bQ (Nat.beq n 0) (some []) (bC (ih (Nat.sub n 1)) fun r=>some (x::r))) l
def aEK{α:Type}(vs:List α):List α->Option (List α):=
 List.rec (motive:=fun _=>List α->Option (List α)) (fun l=>some l)
  (fun v _ ih l=>List.rec (motive:=fun _=>Option (List α)) none (fun _ xs _=>bC (ih xs) fun r=>some (v::r)) l) vs
def put{α:Type}(l:List α):Nat->List α->Option (List α):=
 List.rec (motive:=fun _=>Nat->List α->Option (List α)) (fun k vs=>bQ (Nat.beq k 0) (aEK vs []) none)
  (fun x xs ih k vs=>bQ (Nat.beq k 0) (aEK vs (x::xs)) (bC (ih (Nat.sub k 1) vs) fun r=>some (x::r))) l
def mC{α:Type}(l:List α):Nat:=List.rec (motive:=fun _=>Nat) 0 (fun _ _ ih=>Nat.succ ih) l
def yA{α:Type}(l m:List α):List α:=List.rec (motive:=fun _=>List α) m (fun x _ ih=>x::ih) l
def repeatL{α:Type}(z:List α)(n:Nat):List α:=Nat.rec (motive:=fun _=>List α) [] (fun _ ih=>yA z ih) n
def cut{α:Type}(l:List α)(i n:Nat):Option (List α):=aGN (aHT l i) n
def pW(k:IntKind):Nat:=
 match k with
 | .i8=>127 | .i16=>32767 | .i32=>2147483647 | .i64=>9223372036854775807
 | .u8=>255 | .u16=>65535 | .u32=>4294967295 | .u64=>18446744073709551615
def nat(k:IntKind)(n:Nat):Int:=bQ (Nat.ble n (pW k)) (.ofNat n) (k.wrap (.ofNat n))
def aDm(k:IntKind):Bool:=
 match k with
 | .i8 | .i16 | .i32 | .i64=>true
 | _=>false
def neg(k:IntKind)(n:Nat):Int:=bQ (aDm k) (bQ (Nat.ble n (pW k)) (.negSucc n) (k.wrap (.negSucc n))) (k.wrap (.negSucc n))
def aEZ(k:IntKind)(n:Int):Int:=Int.rec (motive:=fun _=>Int) (fun m=>nat k m) (fun m=>neg k m) n
def aBF(k:IntKind)(a b:Nat):Int:=bQ (Nat.ble b a) (nat k (Nat.sub a b)) (neg k (Nat.sub (Nat.sub b a) 1))
def aMu(k:IntKind)(x y:Int):Int:=
 Int.rec (motive:=fun _=>Int) (fun a=>Int.rec (motive:=fun _=>Int) (fun b=>nat k (Nat.add a b)) (fun b=>aBF k a (Nat.succ b)) y)
  (fun a=>Int.rec (motive:=fun _=>Int) (fun b=>aBF k b (Nat.succ a)) (fun b=>neg k (Nat.succ (Nat.add a b))) y) x
def aJC(k:IntKind)(x y:Int):Int:=
 Int.rec (motive:=fun _=>Int) (fun a=>Int.rec (motive:=fun _=>Int) (fun b=>aBF k a b) (fun b=>nat k (Nat.add a (Nat.succ b))) y)
  (fun a=>Int.rec (motive:=fun _=>Int) (fun b=>neg k (Nat.add a b)) (fun b=>aBF k b a) y) x
def aJy(k:IntKind)(x y:Int):Int:=
 Int.rec (motive:=fun _=>Int) (fun a=>Int.rec (motive:=fun _=>Int) (fun b=>nat k (Nat.mul a b)) (fun b=>aEZ k (Int.mul (.ofNat a) (.negSucc b))) y)
  (fun a=>aEZ k (Int.mul (.negSucc a) y)) x
def ieq(x y:Int):Bool:=
 Int.rec (motive:=fun _=>Bool) (fun a=>Int.rec (motive:=fun _=>Bool) (fun b=>Nat.beq a b) (fun _=>false) y)
  (fun a=>Int.rec (motive:=fun _=>Bool) (fun _=>false) (fun b=>Nat.beq a b) y) x
def ile(x y:Int):Bool:=
 Int.rec (motive:=fun _=>Bool) (fun a=>Int.rec (motive:=fun _=>Bool) (fun b=>Nat.ble a b) (fun _=>false) y)
  (fun a=>Int.rec (motive:=fun _=>Bool) (fun _=>true) (fun b=>Nat.ble b a) y) x
def keq(x y:IntKind):Bool:=Nat.beq (pW x) (pW y)
def aLg(x y:Bool):Bool:=bQ x y (bQ y false true)
def aS4(k:IntKind)(x y:Int):Option AV:=some (.int k (aMu k x y))
def aST(k:IntKind)(x y:Int):Option AV:=some (.int k (aJC k x y))
def aSR(k:IntKind)(x y:Int):Option AV:=some (.int k (aJy k x y))
def aTm(_:IntKind)(x y:Int):Option AV:=some (.bool (ieq x y))
def aSI(_:IntKind)(x y:Int):Option AV:=some (.bool (bQ (ieq x y) false true))
def aSw(_:IntKind)(x y:Int):Option AV:=some (.bool (bQ (ile y x) false true))
def aSD(_:IntKind)(x y:Int):Option AV:=some (.bool (ile x y))
def aS2(_:IntKind)(x y:Int):Option AV:=some (.bool (bQ (ile x y) false true))
def aSN(_:IntKind)(x y:Int):Option AV:=some (.bool (ile y x))
def aMZ(_:IntKind)(_ _:Int):Option AV:=none
def aLr(op:BinOp):IntKind->Int->Int->Option AV:=
 BinOp.rec (motive:=fun _=>IntKind->Int->Int->Option AV) aS4 aST aSR aMZ aMZ aMZ aMZ aMZ aMZ aMZ aMZ aTm aSI aSw aSD aS2 aSN op
def aMq(op:BinOp)(k:IntKind)(x:Int)(b:Nat):Option AV:=
 let n:=bQ (Nat.ble b k.bits) b k.bits
 match op with
 | .shl=>some (.int k (aJy k x (.ofNat (Nat.pow 2 n))))
 | .shr=>some (.int k (x.fdiv (.ofNat (Nat.pow 2 n))))
 | _=>none
def aAX(op:BinOp)(k:IntKind)(x y:Int):Option AV:=
 match y with
 | .ofNat b=>aMq op k x b
 | _=>none
def iK(op:BinOp):Bool:=BinOp.rec (motive:=fun _=>Bool) false false false false false false false false true true false false false false false false false op
def qN:bg->bg->Bool
 | _,[]=>false
 | [],_::_=>true
 | a::x,b::y=>bQ (Nat.blt a b) true (bQ (Nat.beq a b) (qN x y) false)
def oG:bg->bg->Bool
 | [],[]=>true
 | a::x,b::y=>bQ (Nat.beq a b) (oG x y) false
 | _,_=>false
def aIU(op:BinOp)(a b:bg):Option AV:=
 match op with
 | .add=>bQ (Nat.ble (mC a+mC b) 9223372036854775807) (some (.str (yA a b))) none
 | .eql=>some (.bool (oG a b))
 | .neq=>some (.bool (!oG a b))
 | .lss=>some (.bool (qN a b))
 | .leq=>some (.bool (qN a b || oG a b))
 | .gtr=>some (.bool (!(qN a b || oG a b)))
 | .geq=>some (.bool (!qN a b))
 | _=>none
def partOf(agg:Bool)(cs:bf)(off n:Nat):Option AV:=
 bQ agg (bC (cut cs off n) fun r=>some (.agg r)) (nth cs off)
def yP:EqP->AV->AV->Option Bool
 | .bool,.bool a,.bool b=>some (aLg a b)
 | .int,.int k a,.int k' b=>bQ (keq k k') (some (ieq a b)) none
 | .str,.str a,.str b=>some (oG a b)
 | .ptr,.nilp,.nilp=>some true
 | .ptr,.nilp,.ptr _ _=>some false
 | .ptr,.ptr _ _,.nilp=>some false
 | .slice,.bw,.bw=>some true
 | .slice,.bw,.sl .. =>some false
 | .slice,.sl ..,.bw=>some false
 | .slice,.bw,.emp=>some false
 | .slice,.emp,.bw=>some false
 | .map,.nilmap,.nilmap=>some true
 | .map,.nilmap,.map _=>some false
 | .map,.map _,.nilmap=>some false
 | .func,.nilfn,.nilfn=>some true
 | .func,.nilfn,.fn .. =>some false
 | .func,.fn ..,.nilfn=>some false
 | .iface,.niliface,.iface _ _=>some false
 | .iface,.iface _ _,.niliface=>some false
 | _,_,_=>none
def eqs:List (Nat×EqP)->bf->bf->Option Bool
 | [],_,_=>some true
 | (off,e)::fs,xs,ys=>
  match nth xs off,nth ys off with
  | some x,some y=>match yP e x y with
   | some true=>eqs fs xs ys
   | some false=>some false
   | none=>none
  | _,_=>none
def eqv:tZ->AV->AV->Option Bool
 | .p e,x,y=>yP e x y
 | .struct fs,.agg xs,.agg ys=>bQ (Nat.beq (mC xs) (mC fs)) (bQ (Nat.beq (mC ys) (mC fs)) (eqs fs xs ys) none) none
 | _,_,_=>none
def aOI(op:BinOp)(e:tZ)(x y:AV):Option AV:=
 match op with
 | .eql=>bC (eqv e x y) fun b=>some (.bool b)
 | .neq=>bC (eqv e x y) fun b=>some (.bool (bQ b false true))
 | _=>none
def fM(op:BinOp)(k:IntKind)(a:Int)(k':IntKind)(b:Int):Option AV:=
 bQ (iK op) (aAX op k a b) (bQ (keq k k') (aLr op k a b) none)
def aGu(v:AV):Option (IntKind×Int):=
 match v with
 | .int k a=>some (k,a)
 | _=>none
def aFN(v:AV):Option (bg):=
 match v with
 | .str s=>some s
 | _=>none
def pV(op:BinOp)(e:tZ)(x y:AV):Option AV:=
 match aGu x,aGu y with
 | some a,some b=>fM op a.1 a.2 b.1 b.2
 | _,_=>match aFN x,aFN y with
  | some a,some b=>aIU op a b
  | _,_=>aOI op e x y
def unV(op:UnOp)(x:AV):Option AV:=
 match op,x with
 | .neg,.int k n=>some (.int k (aJC k (.ofNat 0) n))
 | .not,.bool b=>some (.bool (bQ b false true))
 | _,_=>none
def lR(b:AB):Option (bf):=
 match b with
 | .cells cs _ _=>some cs
 | .ro cs=>some cs
 | _=>none
def cK(h:T AB)(b:Nat):Option (bf):=bC (h.get b) lR
def aAF(h:T AB)(b off n:Nat):Option (bf):=bC (cK h b) fun cs=>cut cs off n
def lK(h:T AB)(b off:Nat):Option AV:=bC (cK h b) fun cs=>nth cs off
def pS(agg:Bool)(n:Nat)(h:T AB)(b off:Nat):Option AV:=
 bQ agg (bC (aAF h b off n) fun cs=>some (.agg cs)) (lK h b off)
def eQ(zero:bf):List (Nat×Nat×AV)->Option (bf)
 | []=>some zero
 | (off,n,v)::ps=>bC v.cells fun cs=>bQ (Nat.beq (mC cs) n) (bC (put zero off cs) fun z=>eQ z ps) none
def bytesOf:bf->Option (bg)
 | []=>some []
 | .int .u8 (.ofNat n)::vs=>bQ (Nat.ble n 255) (bC (bytesOf vs) fun r=>some (n::r)) none
 | _::_=>none
def fP(v:AV):Option Nat:=
 match v with
 | .int _ (.ofNat n)=>some n
 | _=>none
def lC(F:Fr)(d:Nat)(x:Option cO):Option Nat:=
 match x with
 | none=>some d
 | some x=>fP (x.val F)
def sF(e:tZ)(k:AV):List (AV×AV)->Nat->Option (Option (Nat×AV))
 | [],_=>some none
 | (k',v)::es,i=>bC (eqv e k k') fun b=>bQ b (some (some (i,v))) (sF e k es (Nat.succ i))
def nK(e:tZ)(k:AV)(es:List (AV×AV)):Option (Option (Nat×AV)):=bC (eqv e k k) fun _=>sF e k es 0
def tQ(b:AB):Option (List (AV×AV)):=
 match b with
 | .map es=>some es
 | _=>none
def uE(h:T AB)(m:AV):Option (List (AV×AV)):=
 match m with
 | .nilmap=>some []
 | .map b=>bC (h.get b) tQ
 | _=>none
def kI(isMax:Bool):bf->AV->Option AV
 | [],x=>some x
 | .int k' b::vs,.int k a=>bQ (keq k k')
   (kI isMax vs (.int k (bQ isMax (bQ (ile b a) a b) (bQ (ile a b) a b)))) none
 | _,_=>none
abbrev QF:=Fr->T AB->Option AV
def qMv(x:cO):QF:=fun F _=>some (x.val F)
def xY(v:AV)(a b:cO)(F:Fr):Option AV:=
 match v with
 | .bool t=>some (bQ t (a.val F) (b.val F))
 | _=>none
def aRx(c a b:cO):QF:=fun F _=>xY (c.val F) a b F
def eH(F:Fr):List (Nat×Nat×cO)->List (Nat×Nat×AV)
 | []=>[]
 | (a,b,x)::ps=>(a,b,x.val F)::eH F ps
def aPx(zero:bf)(ps:List (Nat×Nat×cO)):QF:=fun F _=>bC (eQ zero (eH F ps)) fun cs=>some (.agg cs)
def dT(v:AV)(agg:Bool)(n:Nat)(h:T AB):Option AV:=
 match v with
 | .ptr b off=>pS agg n h b off
 | _=>none
def qLd(agg:Bool)(n:Nat)(x:cO):QF:=fun F h=>dT (x.val F) agg n h
def aDu{α:Type}(t:Nat):List (Nat×α)->Option α
 | []=>none
 | (u,a)::l=>bQ (Nat.beq t u) (some a) (aDu t l)
def vI(v:AV):Option AV:=
 match v with
 | .ptr b o=>some (.ptr b o)
 | .fn f a b=>some (.fn f a b)
 | .iface t v=>some (.iface t v)
 | .yld b=>some (.yld b)
 | _=>none
def aN4(x:cO):QF:=fun F _=>vI (x.val F)
def aSC(op:BinOp)(e:tZ)(x y:cO):QF:=fun F _=>pV op e (x.val F) (y.val F)
def qUn(op:UnOp)(x:cO):QF:=fun F _=>unV op (x.val F)
def aI3(h:T AB)(b off len:Nat):Option AV:=bC (aAF h b off len) fun cs=>bC (bytesOf cs) fun s=>some (.str s)
def aDq(k:aJY)(v:AV)(h:T AB):Option AV:=
 match k,v with
 | .int k,.int _ n=>some (.int k (aEZ k n))
 | .same,.str s=>some (.str s)
 | .bytesToStr,.bw=>some (.str [])
 | .bytesToStr,.emp=>some (.str [])
 | .bytesToStr,.sl b off len _ _=>aI3 h b off len
 | .intToStr,.int _ (.ofNat n)=>bQ (Nat.ble n 127) (some (.str [n])) none
 | _,_=>none
def aSa(k:aJY)(x:cO):QF:=fun F h=>aDq k (x.val F) h
def aL0(t:Nat)(x:cO):QF:=fun F _=>some (.iface t (x.val F))
def aOe(f:Nat)(first cap:List cO):QF:=fun F _=>some (.fn f (dG first F) (dG cap F))
def aOL(s:bg)(lo hi mx:Option cO)(F:Fr):Option AV:=
 match mx with
 | some _=>none
 | none=>bC (lC F (mC s) hi) fun h'=>bC (lC F 0 lo) fun l=>
   bQ (Nat.ble h' (mC s)) (bQ (Nat.ble l h') (bC (cut s l (h' - l)) fun r=>some (.str r)) none) none
def pY(len cap:Nat)(lo hi mx:Option cO)(F:Fr):Option (Nat×Nat×Nat):=
 bC (lC F cap mx) fun m=>bC (lC F len hi) fun h=>bC (lC F 0 lo) fun l=>
  bQ (Nat.ble m cap) (bQ (Nat.ble h m) (bQ (Nat.ble l h) (some (l,h,m)) none) none) none
def aM1(size b off len cap:Nat)(o:Bool)(lo hi mx:Option cO)(F:Fr):Option AV:=
 bC (pY len cap lo hi mx F) fun x=>
  let o':=bQ o mx.isNone false
  bQ (Nat.beq x.2.2 x.1) (bQ o' (some .emp) (some (.sl b off (x.2.1 - x.1) (x.2.2 - x.1) false)))
   (some (.sl b (off+x.1 * size) (x.2.1 - x.1) (x.2.2 - x.1) o'))
def aLb(lo hi mx:Option cO)(F:Fr):Option AV:=bC (pY 0 0 lo hi mx F) fun _=>some .emp
def aMJ(lo hi mx:Option cO)(F:Fr):Option AV:=bC (pY 0 0 lo hi mx F) fun _=>some .bw
def aMW(n size b off:Nat)(lo hi mx:Option cO)(F:Fr):Option AV:=
 bC (pY n n lo hi mx F) fun x=>
  bQ (Nat.beq x.2.2 x.1) (some (.sl b off (x.2.1 - x.1) (x.2.2 - x.1) false))
   (some (.sl b (off+x.1 * size) (x.2.1 - x.1) (x.2.2 - x.1) false))
def aAx(k:SlK)(v:AV)(lo hi mx:Option cO)(F:Fr):Option AV:=
 match k,v with
 | .str,.str s=>aOL s lo hi mx F
 | .slice size,.sl b off len cap o=>aM1 size b off len cap o lo hi mx F
 | .slice _,.bw=>aMJ lo hi mx F
 | .slice _,.emp=>aLb lo hi mx F
 | .arr n size,.ptr b off=>aMW n size b off lo hi mx F
 | _,_=>none
def aTg(k:SlK)(x:cO)(lo hi mx:Option cO):QF:=fun F _=>aAx k (x.val F) lo hi mx F
def zR(v:AV)(off:Nat):Option AV:=
 match v with
 | .ptr b o=>some (.ptr b (o+off))
 | _=>none
def aQj(off:Nat)(x:cO):QF:=fun F _=>zR (x.val F) off
def aKQ(v:AV)(agg:Bool)(off n:Nat):Option AV:=
 match v with
 | .agg cs=>partOf agg cs off n
 | _=>none
def aTd(agg:Bool)(off n:Nat)(x:cO):QF:=fun F _=>aKQ (x.val F) agg off n
def dO(k:IxK)(v:AV)(i:Nat):Option AV:=
 match k,v with
 | .arr n size,.ptr b off=>bQ (Nat.blt i n) (some (.ptr b (off+i * size))) none
 | .slice size,.sl b off len _ _=>bQ (Nat.blt i len) (some (.ptr b (off+i * size))) none
 | _,_=>none
def aP7(k:IxK)(x ix:cO):QF:=fun F _=>bC (fP (ix.val F)) fun i=>dO k (x.val F) i
def aFH(v:AV)(agg:Bool)(n size i:Nat):Option AV:=
 match v with
 | .agg cs=>bQ (Nat.blt i n) (partOf agg cs (i * size) size) none
 | _=>none
def aM6(agg:Bool)(n size:Nat)(x ix:cO):QF:=fun F _=>bC (fP (ix.val F)) fun i=>aFH (x.val F) agg n size i
def aFL(v:AV)(i:Nat):Option AV:=
 match v with
 | .str s=>bC (nth s i) fun b=>some (.int .u8 (.ofNat b))
 | _=>none
def aNB(x ix:cO):QF:=fun F _=>bC (fP (ix.val F)) fun i=>aFL (x.val F) i
def aEq(ok:Bool)(v:AV)(b:Bool):AV:=bQ ok (.tup [v,.bool b]) v
def nM(r:Option (Nat×AV))(zero:AV)(ok:Bool):Option AV:=
 match r with
 | some (_,v)=>some (aEq ok v true)
 | none=>some (aEq ok zero false)
def aOj(sk:tZ)(zero:AV)(ok:Bool)(m key:cO):QF:=fun F h=>
 bC (uE h (m.val F)) fun es=>bC (nK sk (key.val F) es) fun r=>nM r zero ok
def aDA(v:AV)(t:Nat)(zero:AV)(ok:Bool):Option AV:=
 match v with
 | .iface t' v=>bQ (Nat.beq t t') (some (aEq ok v true)) (bQ ok (some (.tup [zero,.bool false])) none)
 | .niliface=>bQ ok (some (.tup [zero,.bool false])) none
 | _=>none
def aLu(t:Nat)(zero:AV)(ok:Bool)(x:cO):QF:=fun F _=>aDA (x.val F) t zero ok
def kC(v:AV)(i:Nat):Option AV:=
 match v with
 | .tup vs=>nth vs i
 | _=>none
def aLE(x:cO)(i:Nat):QF:=fun F _=>kC (x.val F) i
def aM8(n:Nat):QF:=fun _ _=>some (.int .i64 (.ofNat n))
def aGe(v:AV):Option AV:=
 match v with
 | .str s=>some (.int .i64 (.ofNat (mC s)))
 | _=>none
def aOf(x:cO):QF:=fun F _=>aGe (x.val F)
def jJ(v:AV):Option AV:=
 match v with
 | .bw=>some (.int .i64 (.ofNat 0))
 | .emp=>some (.int .i64 (.ofNat 0))
 | .sl _ _ n _ _=>some (.int .i64 (.ofNat n))
 | _=>none
def aPc(x:cO):QF:=fun F _=>jJ (x.val F)
def aN8(x:cO):QF:=fun F h=>bC (uE h (x.val F)) fun es=>some (.int .i64 (.ofNat (mC es)))
def aIl(v:AV):Option AV:=
 match v with
 | .bw=>some (.int .i64 (.ofNat 0))
 | .sl _ _ _ c false=>some (.int .i64 (.ofNat c))
 | _=>none
def aO1(x:cO):QF:=fun F _=>aIl (x.val F)
def mH(isMax:Bool)(l:bf):Option AV:=
 match l with
 | []=>none
 | v::vs=>kI isMax vs v
def aNy(n:String)(tbl:List (Nat×Nat×Option (Bool×Nat)))(x:cO):QF:=fun F _=>some (.mth n tbl (x.val F))
def aOk(mx:Bool)(xs:List cO):QF:=fun F _=>mH mx (dG xs F)
def gM(q:QOp):QF:=
 QOp.rec (motive:=fun _=>QF) qMv aRx aPx qLd aN4 aSC qUn aSa aL0 aOe aTg aQj aTd aP7 aM6 aNB aOj aLu aLE aM8 aOf aPc aN8 aO1 aOk aNy q
abbrev AF:=Fr->Nat->Option (AV×AB)
def room:Nat:=140737488355328
theorem ax{p:Prop}(h:p:=by unfold room;omega):p:=h
def aPY(_:Nat)(cells:bf):AF:=fun _ id=>some (.ptr id 0,.cells cells false 0)
def aSW(_:Nat)(x:cO):AF:=fun F id=>bC (x.val F).cells fun cs=>some (.ptr id 0,.cells cs false 0)
def kK(size:Nat)(F:Fr):List (Nat×cO)->List (Nat×Nat×AV)
 | []=>[]
 | (i,x)::ps=>(i * size,size,x.val F)::kK size F ps
def aNl(_ size len:Nat)(zero:bf)(ps:List (Nat×cO)):AF:=fun F id=>
 bC (eQ (repeatL zero len) (kK size F ps)) fun cs=>some (.sl id 0 len len false,.cells cs false 0)
def xW(_ _ bytes:Nat)(zero:bf)(l c:cO):AF:=fun F id=>
 bC (fP (l.val F)) fun l=>bC (fP (c.val F)) fun c=>
  bQ (Nat.ble l c) (bQ (Nat.ble c room) (bQ (Nat.ble (bytes * c) room) (some (.sl id 0 l c false,.cells (repeatL zero c) false 0)) none) none) none
def aPL:AF:=fun _ id=>some (.map id,.map [])
def byteCells:bg->bf
 | []=>[]
 | b::bs=>.int .u8 (.ofNat b)::byteCells bs
def aB5(v:AV)(id:Nat):Option (AV×AB):=
 match v with
 | .str s=>some (.sl id 0 (mC s) (mC s) true,.cells (byteCells s) true 1)
 | _=>none
def aKK(_:Nat)(x:cO):AF:=fun F id=>aB5 (x.val F) id
def uW(a:wN):AF:=wN.rec (motive:=fun _=>AF) aPY aSW aNl xW aPL aKK a
def aBJ(bl:AB)(S:St)(b off:Nat)(vs:bf):Option St:=
 match bl with
 | .cells cs o s=>bC (put cs off vs) fun cs'=>some ⟨S.h.set b (some (.cells cs' o s)),S.nx⟩
 | _=>none
def tN(S:St)(b off:Nat)(vs:bf):Option St:=bC (S.h.get b) fun bl=>aBJ bl S b off vs
def eY(v:AV)(h:T AB)(size n:Nat):Option (bf):=
 match v with
 | .sl b off _ _ _=>aAF h b off (n * size)
 | .bw=>bQ (Nat.beq n 0) (some []) none
 | .emp=>bQ (Nat.beq n 0) (some []) none
 | .str s=>bQ (Nat.beq size 1) (bC (aGN s n) fun r=>some (byteCells r)) none
 | _=>none
def mL(v:AV):Option Nat:=
 match v with
 | .sl _ _ n _ _=>some n
 | .bw=>some 0
 | .emp=>some 0
 | .str s=>some (mC s)
 | _=>none
def grown(h:T AB)(nx need size:Nat)(cs:bf):Option (AV×St):=
 some (.sl nx 0 need need true,⟨h.set nx (some (.cells cs true size)),Nat.succ nx⟩)
def aCc(bl:AB)(size b off len cap:Nat)(o:Bool)(n:Nat)(new:bf)(S:St):Option (AV×St):=
 match bl with
 | .cells cs o' sz=>bC (cut cs off (len * size)) fun old=>
   bQ o
    (bQ o' (bQ (Nat.beq sz size) (bQ (Nat.beq (off+cap * size) (mC cs)) (grown (S.h.set b none) S.nx (len+n) size (yA old new)) none) none) none)
    (grown S.h S.nx (len+n) size (yA old new))
 | .ro cs=>bQ o none (bC (cut cs off (len * size)) fun old=>grown S.h S.nx (len+n) size (yA old new))
 | _=>none
def qF(bytes size b off len cap:Nat)(o:Bool)(n:Nat)(new:bf)(S:St):Option (AV×St):=
 bQ (Nat.ble (len+n) cap)
  (bQ (Nat.beq n 0) (some (.sl b off len cap o,S)) (bC (tN S b (off+len * size) new) fun S'=>some (.sl b off (len+n) cap o,S')))
  (bQ (Nat.ble (len+n) room) (bQ (Nat.ble ((len+n) * bytes) room) (bC (S.h.get b) fun bl=>aCc bl size b off len cap o n new S) none) none)
def tO(bytes size n:Nat)(new:bf)(S:St):Option (AV×St):=
 bQ (Nat.beq n 0) (some (.bw,S))
  (bQ (Nat.ble n room) (bQ (Nat.ble (n * bytes) room) (grown S.h S.nx n size new) none) none)
def aD1(s:AV)(bytes size n:Nat)(new:bf)(S:St):Option (AV×St):=
 match s with
 | .bw=>tO bytes size n new S
 | .emp=>bQ (Nat.beq n 0) (some (.emp,S)) none
 | .sl b off len cap o=>qF bytes size b off len cap o n new S
 | _=>none
def gP(bytes size:Nat)(s x:AV)(S:St):Option (AV×St):=
 bC (mL x) fun n=>bC (eY x S.h size n) fun new=>aD1 s bytes size n new S
def pU{α:Type}(f:α->α):List α->Nat->List α
 | [],_=>[]
 | x::xs,k=>bQ (Nat.beq k 0) (f x::xs) (x::pU f xs (k - 1))
structure bG where
 F:Fr
 inr:Bool
abbrev fA:=AV->bf->St->Option (AV×St)
abbrev XF:=fA->Fr->St->Option (AV×St)
def sO(p:AV)(n:Nat)(cs:bf)(S:St):Option (AV×St):=
 match p with
 | .ptr b off=>bQ (Nat.beq (mC cs) n) (bC (tN S b off cs) fun S'=>some (.undef,S')) none
 | _=>none
def xSt(n:Nat)(x v:cO):XF:=fun _ F S=>bC (v.val F).cells fun cs=>sO (x.val F) n cs S
def aRW(f:cO)(args:List cO):XF:=fun call F S=>call (f.val F) (dG args F) S
def aL2(v:AV)(f:Nat)(agg:Bool)(n:Nat)(args:bf)(call:fA)(S:St):Option (AV×St):=
 match v with
 | .ptr b off=>bC (pS agg n S.h b off) fun r=>call (.fn f [r] []) args S
 | _=>none
def aIC(r:Nat×Option (Bool×Nat))(v:AV)(args:bf)(call:fA)(S:St):Option (AV×St):=
 match r with
 | (f,none)=>call (.fn f [v] []) args S
 | (f,some (agg,n))=>aL2 v f agg n args call S
def aI9(v:AV)(tbl:List (Nat×Nat×Option (Bool×Nat)))(args:bf)(call:fA)(S:St):Option (AV×St):=
 match v with
 | .iface t v=>bC (aDu t tbl) fun r=>aIC r v args call S
 | _=>none
def aSV(tbl:List (Nat×Nat×Option (Bool×Nat)))(recv:cO)(args:List cO):XF:=fun call F S=>aI9 (recv.val F) tbl (dG args F) call S
def aSG(_ size bytes:Nat)(s x:cO):XF:=fun _ F S=>gP bytes size (s.val F) (x.val F) S
def copyV(d:AV)(size m:Nat)(s:AV)(S:St):Option (AV×St):=
 match d with
 | .bw=>some (.int .i64 (.ofNat 0),S)
 | .emp=>some (.int .i64 (.ofNat 0),S)
 | .sl b off len _ _=>
  let n:=bQ (Nat.ble m len) m len
  bQ (Nat.beq n 0) (some (.int .i64 (.ofNat 0),S)) (bC (eY s S.h size n) fun cs=>bC (tN S b off cs) fun S'=>some (.int .i64 (.ofNat n),S'))
 | _=>none
def aR2(size:Nat)(d s:cO):XF:=fun _ F S=>bC (mL (s.val F)) fun m=>copyV (d.val F) size m (s.val F) S
def zO(r:Option (Nat×AV))(es:List (AV×AV))(k v:AV):List (AV×AV):=
 match r with
 | some (i,_)=>pU (fun _=>(k,v)) es i
 | none=>yA es [(k,v)]
def qK(m:AV)(sk:tZ)(k v:AV)(S:St):Option (AV×St):=
 match m with
 | .map b=>bC (bC (S.h.get b) tQ) fun es=>bC (nK sk k es) fun r=>some (.undef,⟨S.h.set b (some (.map (zO r es k v))),S.nx⟩)
 | _=>none
def aNK(sk:tZ)(m k v:cO):XF:=fun _ F S=>qK (m.val F) sk (k.val F) (v.val F) S
def aN5(r:Option (Nat×AV))(es:List (AV×AV))(b:Nat)(S:St):Option (AV×St):=
 match r with
 | some (i,_)=>some (.undef,⟨S.h.set b (some (.map (es.eraseIdx i))),S.nx⟩)
 | none=>some (.undef,S)
def aGx(m:AV)(sk:tZ)(k:AV)(S:St):Option (AV×St):=
 match m with
 | .map b=>bC (bC (S.h.get b) tQ) fun es=>bC (nK sk k es) fun r=>aN5 r es b S
 | .nilmap=>some (.undef,S)
 | _=>none
def aN1(sk:tZ)(m k:cO):XF:=fun _ F S=>aGx (m.val F) sk (k.val F) S
def aPJ(x:AV)(zero:bf)(S:St):Option (AV×St):=
 match x with
 | .bw=>some (.undef,S)
 | .emp=>some (.undef,S)
 | .sl b off n _ _=>bQ (Nat.beq n 0) (some (.undef,S)) (bC (tN S b off (repeatL zero n)) fun S'=>some (.undef,S'))
 | _=>none
def aS3(zero:bf)(x:cO):XF:=fun _ F S=>aPJ (x.val F) zero S
def aPW(a b c:Nat):AV:=
 .tup [.int .u64 (.ofNat (Nat.mod (Nat.add (Nat.add a b) c) 18446744073709551616)),.int .u64 (.ofNat (Nat.div (Nat.add (Nat.add a b) c) 18446744073709551616))]
def aHk(c:Nat):bg->Nat->Int
 | [],_=>.negSucc 0
 | b::bs,i=>bQ (Nat.beq b c) (.ofNat i) (aHk c bs (Nat.succ i))
def aPm(k:aLf)(args:bf):Option AV:=
 match k,args with
 | .add64,[.int .u64 (.ofNat a),.int .u64 (.ofNat b),.int .u64 (.ofNat c)]=>bQ (Nat.ble c 1) (some (aPW a b c)) none
 | .idxByte,[.str s,.int .u8 (.ofNat c)]=>bQ (Nat.ble c 255) (some (.int .i64 (aHk c s 0))) none
 | _,_=>none
def aSx(k:aLf)(args:List cO):XF:=fun _ F S=>bC (aPm k (dG args F)) fun v=>some (v,S)
def aSz:XF:=fun _ _ _=>none
def evX(x:XOp):XF:=XOp.rec (motive:=fun _=>XF) xSt aRW aSV aSG aR2 aNK aN1 aS3 aSx aSz x
def isB(v:AV)(w:Bool):Bool:=
 match v with
 | .bool b=>aLg b w
 | _=>false
def cM(d:Option Nat):Fr->AV->Fr:=Option.rec (motive:=fun _=>Fr->AV->Fr) (fun F _=>F) (fun i F v=>F.set i (some v)) d
def eS(g:Option (Nat×Bool)):Fr->Bool:=Option.rec (motive:=fun _=>Fr->Bool) (fun _=>true) (fun p F=>isB (aD p.1 F) p.2) g
abbrev OF:=Option Nat->fA->Fr->St->Option (Fr×St)
def oQ(q:QOp):OF:=fun d _ F S=>bC (gM q F S.h) fun v=>some (cM d F v,S)
def oA(a:wN):OF:=fun d _ F S=>bC (uW a F S.nx) fun r=>some (cM d F r.1,⟨S.h.set S.nx (some r.2),Nat.succ S.nx⟩)
def oX(x:XOp):OF:=fun d call F S=>bC (evX x call F S) fun r=>some (cM d F r.1,r.2)
def oOp(o:AOp):OF:=AOp.rec (motive:=fun _=>OF) oQ oA oX o
def aDd(o:AO)(call:fA)(F:Fr)(S:St):Option (Fr×St):=
 bQ (eS o.grd F) (oOp o.op o.dst call F S) (some (cM o.dst F .undef,S))
def wJ(l:List AO):fA->Fr->St->Option (Fr×St):=
 List.rec (motive:=fun _=>fA->Fr->St->Option (Fr×St)) (fun _ F S=>some (F,S)) (fun o _ ih call F S=>bC (aDd o call F S) fun r=>ih call r.1 r.2) l
structure iQ where
 i:Nat
 id:Nat
 b:AB
def cJ(mask:Nat):List iQ->T AB->List iQ×T AB
 | [],h=>([],h)
 | p::ps,h=>bQ (Nat.testBit mask p.i) (cJ mask ps (h.set p.id (some p.b))) (p::(cJ mask ps h).1,(cJ mask ps h).2)
structure mR where
 q:QOp
 F:Fr
 v:AV
 i:Nat
 mask:Nat
def dN(q:QOp):Bool:=
 match q with
 | .ld .. | .lookup .. | .lenMap .. =>true
 | .conv .bytesToStr _=>true
 | _=>false
structure DS where
 F:Fr
 S:St
 ps:List iQ
 hs:List (Nat×Nat×T AB)
 ls:List mR
abbrev DF:=AO->Nat->Nat->fA->DS->Option DS
def dQ(q:QOp):DF:=fun o i _ _ D=>bC (gM q D.F D.S.h) fun v=>
 some ⟨cM o.dst D.F v,D.S,D.ps,D.hs,bQ (dN q) (⟨q,D.F,v,i,o.mask⟩::D.ls) D.ls⟩
def dA(a:wN):DF:=fun o i base _ D=>bC (uW a D.F (base+i)) fun r=>
 some ⟨cM o.dst D.F r.1,D.S,⟨i,base+i,r.2⟩::D.ps,D.hs,D.ls⟩
def jU(hs:List (Nat×Nat×T AB))(mask:Nat):Bool:=
 match hs with
 | []=>true
 | e::_=>Nat.testBit mask e.1
def dX(x:XOp):DF:=fun o i _ call D=>
 bQ (jU D.hs o.mask) (bC (evX x call D.F ⟨(cJ o.mask D.ps D.S.h).2,D.S.nx⟩) fun r=>
  some ⟨cM o.dst D.F r.1,r.2,(cJ o.mask D.ps D.S.h).1,(i,o.mask,r.2.h)::D.hs,D.ls⟩) none
def dOp(o:AOp):DF:=AOp.rec (motive:=fun _=>DF) dQ dA dX o
def tW(o:AO)(i base:Nat)(call:fA)(D:DS):Option DS:=
 bQ (eS o.grd D.F) (dOp o.op o i base call D) (some ⟨cM o.dst D.F .undef,D.S,D.ps,D.hs,D.ls⟩)
def wL:List AO->Nat->Nat->fA->DS->Option DS
 | [],_,_,_,D=>some D
 | o::os,i,base,call,D=>bC (tW o i base call D) fun D'=>wL os (i+1) base call D'
mutual
def cE:AV->AV->Bool
 | .bool a,.bool b=>aLg a b
 | .int k a,.int j b=>bQ (keq k j) (ieq a b) false
 | .str a,.str b=>oG a b
 | .ptr a b,.ptr c d=>bQ (Nat.beq a c) (Nat.beq b d) false
 | .nilp,.nilp=>true
 | .sl a b c d e,.sl a' b' c' d' e'=>Nat.beq a a' && Nat.beq b b' && Nat.beq c c' && Nat.beq d d' && aLg e e'
 | .bw,.bw=>true
 | .emp,.emp=>true
 | .map a,.map b=>Nat.beq a b
 | .nilmap,.nilmap=>true
 | .fn f a b,.fn g c d=>Nat.beq f g && jR a c && jR b d
 | .nilfn,.nilfn=>true
 | .yld a,.yld b=>Nat.beq a b
 | .iface t v,.iface u w=>Nat.beq t u && cE v w
 | .niliface,.niliface=>true
 | .agg a,.agg b=>jR a b
 | .tup a,.tup b=>jR a b
 | _,_=>false
def jR:bf->bf->Bool
 | [],[]=>true
 | a::x,b::y=>bQ (cE a b) (jR x y) false
 | _,_=>false
end
def qI(v:AV)(r:Option AV):Bool:=
 match r with
 | some w=>cE w v
 | none=>false
def eI(l:mR):List (Nat×Nat×T AB)->T AB->Bool
 | [],h=>qI l.v (gM l.q l.F h)
 | (i,m,h')::r,h=>
  bQ (Nat.testBit l.mask i) (eI l r h')
   (bQ (qI l.v (gM l.q l.F h)) (bQ (Nat.testBit m l.i) true (eI l r h')) false)
def fV(h0:T AB)(hs:List (Nat×Nat×T AB)):List mR->Bool
 | []=>true
 | l::ls=>bQ (eI l hs h0) (fV h0 hs ls) false
def aAK(h0:T AB)(n:Nat)(D:DS):Option (Fr×St):=
 bQ (fV h0 D.hs.reverse D.ls) (some (D.F,⟨(cJ (2 ^ n - 1) D.ps D.S.h).2,D.S.nx⟩)) none
def yT(ops:List AO)(call:fA)(F:Fr)(S:St):Option (Fr×St):=
 bC (wL ops 0 S.nx call ⟨F,⟨S.h,S.nx+mC ops⟩,[],[],[]⟩) fun D=>aAK S.h (mC ops) D
structure Evs where
 code:AC->bG->St->Option (Out×bG×St)
 call:fA
abbrev CF:=Evs->bG->St->Option (Out×bG×St)
def nG:bg->bf->Fr->Option Fr
 | [],[],F=>some F
 | p::ps,v::vs,F=>nG ps vs (F.set p (some v))
 | _,_,_=>none
def tS:bf->Nat->Fr->Fr
 | [],_,F=>F
 | v::vs,i,F=>tS vs (i+1) (F.set i (some v))
def aK5(o:Option Out):Option AC:=
 match o with
 | none=>some .skip
 | some .ret=>some .ret
 | some (.exit id)=>some (.exit id)
 | some .normal=>none
def aRE:CF:=fun _ A S=>some (.normal,A,S)
def uQ(b:AC)(ih:Evs)(r:Out×bG×St):Option (Out×bG×St):=
 match r.1 with
 | .normal=>ih.code b r.2.1 r.2.2
 | _=>some r
def aSZ(a b:AC):CF:=fun ih A S=>bC (ih.code a A S) (uQ b ih)
def aCa(v:AV)(a b:AC):CF:=fun ih A S=>
 match v with
 | .bool t=>ih.code (bQ t a b) A S
 | _=>none
def aRi(c:cO)(a b:AC):CF:=fun ih A S=>aCa (c.val A.F) a b ih A S
def tP(id:Nat)(r:Out×bG×St):Option (Out×bG×St):=
 match r.1 with
 | .exit i=>bQ (Nat.beq i id) (some (.normal,r.2)) (some r)
 | _=>some r
def aPh(id:Nat)(c:AC):CF:=fun ih A S=>bC (ih.code c A S) (tP id)
def aRR(c:AC):CF:=fun ih A S=>bC (ih.code c A S) (uQ (.loop c) ih)
def aRJ(id:Nat):CF:=fun _ A S=>some (.exit id,A,S)
def aTi:CF:=fun _ A S=>some (.ret,A,S)
def aS7(ops:List AO):CF:=fun ih A S=>bC (wJ ops ih.call A.F S) fun r=>some (.normal,⟨r.1,A.inr⟩,r.2)
def aSB(_:List AO)(_:cO)(_:List cO):CF:=fun _ _ _=>none
def aSH(ops:List AO):CF:=fun ih A S=>bC (yT ops ih.call A.F S) fun r=>some (.normal,⟨r.1,A.inr⟩,r.2)
def aBM(bl:AB)(l:Nat)(A:bG)(S2:St)(ih:Evs):Option (Out×bG×St):=
 match bl with
 | .loop st pend fr ps as bd=>
  match st with
  | .busy=>none
  | _=>bC (aK5 pend) fun c=>ih.code c A ⟨S2.h.set l (some (.loop .exhausted pend fr ps as bd)),S2.nx⟩
 | _=>none
def aMU(v:AV):Bool:=
 match v with
 | .fn .. =>true
 | _=>false
def aNZ(f:cO)(params:bg)(assign body:AC):CF:=fun ih A S=>
 bQ A.inr none (bQ (aMU (f.val A.F))
  (bC (ih.call (f.val A.F) [.yld S.nx] ⟨S.h.set S.nx (some (.loop .ready none A.F params assign body)),Nat.succ S.nx⟩) fun r=>
   bC (r.2.h.get S.nx) fun bl=>aBM bl S.nx A r.2 ih) none)
def aIr(c:AC):CF:=
 AC.rec (motive:=fun _=>CF) aRE (fun a b _ _=>aSZ a b) (fun c a b _ _=>aRi c a b) (fun id c _=>aPh id c) (fun c _=>aRR c) aRJ aTi aS7 aSH (fun f ps as bd _ _=>aNZ f ps as bd) aSB c
def aR7(v:AV)(agg:Bool)(n:Nat)(h:T AB):Option AV:=
 match v with
 | .ptr b off=>pS agg n h b off
 | _=>none
def results:List RV->Fr->T AB->Option (bf)
 | [],_,_=>some []
 | .t i::rs,F,h=>bC (results rs F h) fun vs=>some (aD i F::vs)
 | .cell a agg n::rs,F,h=>bC (aR7 (aD a F) agg n h) fun v=>bC (results rs F h) fun vs=>some (v::vs)
def oneOf(vs:bf):AV:=
 match vs with
 | [v]=>v
 | vs=>.tup vs
def aFX(fn:dY)(r:Out×bG×St):Option (AV×St):=
 match r.1 with
 | .exit _=>none
 | _=>bC (results fn.res r.2.1.F r.2.2.h) fun vs=>some (oneOf vs,r.2.2)
def wO(fn:dY)(args:bf)(ih:Evs)(S:St):Option (AV×St):=
 bQ (Nat.ble (mC args) fn.ntmps) (bC (ih.code fn.body ⟨tS args 0 .e,false⟩ S) (aFX fn)) none
def uA(bl:AB)(o:Out)(l:Nat)(S2:St):Option (AV×St):=
 match bl with
 | .loop .busy _ fr ps as bd=>
  match o with
  | .normal=>some (.bool true,⟨S2.h.set l (some (.loop .ready none fr ps as bd)),S2.nx⟩)
  | o=>some (.bool false,⟨S2.h.set l (some (.loop .done (some o) fr ps as bd)),S2.nx⟩)
 | _=>none
def aJ1(l:Nat)(bd:AC)(ih:Evs)(A:bG)(S:St):Option (AV×St):=
 bC (ih.code bd A S) fun r=>bC (r.2.2.h.get l) fun bl=>uA bl r.1 l r.2.2
def tH(bl:AB)(l:Nat)(bd:AC)(ih:Evs)(A:bG)(S1:St):Option (AV×St):=
 match bl with
 | .loop .ready pend fr ps as bd'=>aJ1 l bd ih A ⟨S1.h.set l (some (.loop .busy pend fr ps as bd')),S1.nx⟩
 | _=>none
def aCT(l:Nat)(bd:AC)(ih:Evs)(r:Out×bG×St):Option (AV×St):=
 match r.1 with
 | .normal=>bC (r.2.2.h.get l) fun bl=>tH bl l bd ih r.2.1 r.2.2
 | _=>none
def aAf(bl:AB)(l:Nat)(args:bf)(ih:Evs)(S:St):Option (AV×St):=
 match bl with
 | .loop .ready _ fr ps as bd=>bC (nG ps args fr) fun F=>bC (ih.code as ⟨F,true⟩ S) (aCT l bd ih)
 | _=>none
def xV(fns:T dY)(ih:Evs)(f:AV)(args:bf)(S:St):Option (AV×St):=
 match f with
 | .fn id first cap=>bC (fns.get id) fun fn=>wO fn (yA first (yA args cap)) ih S
 | .yld l=>bC (S.h.get l) fun bl=>aAf bl l args ih S
 | _=>none
def aPK(_:AC)(_:bG)(_:St):Option (Out×bG×St):=none
def aQl(_:AV)(_:bf)(_:St):Option (AV×St):=none
def ev(fns:T dY)(n:Nat):Evs:=
 Nat.rec (motive:=fun _=>Evs) ⟨aPK,aQl⟩ (fun _ ih=>⟨fun c=>aIr c ih,xV fns ih⟩) n
end
end Go.Ev
namespace Go.Ev
noncomputable section
def aL5(v:Value):Bool:=
 match v with
 | .agg _=>false
 | .tuple _=>false
 | _=>true
mutual
def ofValue:Value->Option AV
 | .bool b=>some (.bool b)
 | .int k n=>some (.int k n)
 | .string s=>some (.str (s.data.toList.map UInt8.toNat))
 | .pointer none=>some .nilp
 | .slice none 0 0=>some .bw
 | .map none=>some .nilmap
 | .nilFunc=>some .nilfn
 | .nilIface=>some .niliface
 | .func (.func f) ⟨a⟩ ⟨b⟩=>match ofValues a,ofValues b with
  | some a,some b=>some (.fn f a b)
  | _,_=>none
 | .iface t v=>(ofValue v).map (.iface t)
 | .agg ⟨cs⟩=>bif cs.all aL5 then(ofValues cs).map .agg else none
 | .tuple ⟨cs⟩=>(ofValues cs).map .tup
 | _=>none
def ofValues:List Value->Option (bf)
 | []=>some []
 | v::vs=>match ofValue v,ofValues vs with
  | some a,some as=>some (a::as)
  | _,_=>none
end
variable (P:Program)
def iB:Operand->Option cO
 | .tmp t=>some (.t t)
 | .const v=>(ofValue v).map .c
 | .global g=>bif Nat.blt g P.globals.size then some (.c (.ptr g 0)) else none
 | .func f=>some (.c (.fn f [] []))
def aAW:List Operand->Option (List cO)
 | []=>some []
 | x::xs=>match iB P x,aAW xs with
  | some a,some as=>some (a::as)
  | _,_=>none
def oE:Option Operand->Option (Option cO)
 | none=>some none
 | some x=>(iB P x).map some
def aCI(t:TypeId):Option (Bool×Nat):=
 match P.underlying t,P.info? t with
 | some (.struct _),some i=>some (true,i.size)
 | some (.array _ _),some i=>some (true,i.size)
 | some _,some i=>some (false,i.size)
 | _,_=>none
def aHY(t:TypeId):Option AV:=
 match P.info? t with
 | some i=>match i.zero with
  | some v=>ofValue v
  | none=>none
 | none=>none
def eqP(t:TypeId):EqP:=
 match P.underlying t with
 | some .bool=>.bool
 | some (.int _)=>.int
 | some .string=>.str
 | some (.pointer _)=>.ptr
 | some (.slice _)=>.slice
 | some (.map _ _)=>.map
 | some (.func ..)=>.func
 | some (.interface _)=>.iface
 | _=>.no
def eqFields:List Field->List (Nat×EqP)
 | []=>[]
 | f::fs=>bif f.name== "_" then eqFields fs else(f.offset,eqP P f.type)::eqFields fs
def eqT(t:TypeId):tZ:=
 match P.underlying t with
 | some (.struct fs)=>bif P.stoodInHeld t || P.eqGuardType P.depth t then .p .no else .struct (eqFields P fs.toList)
 | some (.array n e)=>bif P.eqGuardType P.depth t || n>64 || P.cellsOf e !=1 then .p .no else .struct ((List.range n).map fun i=>(i,eqP P e))
 | _=>.p (eqP P t)
def yE(place:Nat->Option (Nat×Nat)):List (Nat×Operand)->Option (List (Nat×Nat×cO))
 | []=>some []
 | (i,x)::ps=>match place i,iB P x,yE place ps with
  | some (off,n),some x,some ps=>some ((off,n,x)::ps)
  | _,_,_=>none
def placeOf(fs:Array Field)(i:Nat):Option (Nat×Nat):=
 match fs[i]? with
 | some f=>match P.info? f.type with
  | some s=>some (f.offset,s.size)
  | none=>none
 | none=>none
def pM:List Field->Bool
 | []=>true
 | f::fs=>(P.info? f.type).isSome && pM fs
def yQ:List (Nat×Operand)->Option (List (Nat×cO))
 | []=>some []
 | (i,x)::ps=>match iB P x,yQ ps with
  | some x,some ps=>some ((i,x)::ps)
  | _,_=>none
def tL(t:TypeId):Option (TypeId×TypeInfo):=
 match P.underlying t with
 | some (.slice e)=>(P.info? e).map fun i=>(e,i)
 | _=>none
def jX(t:TypeId):Option (bf):=(aHY P t).bind AV.cells
def mW(e:TypeId)(i:TypeInfo):Option (bf):=
 match jX P e with
 | some z=>bif Nat.beq z.length i.size then some z else none
 | none=>none
def aNv(u:TypeId)(i:TypeInfo):Bool:=
 match P.underlying u with
 | some (.slice _)=>true
 | some .string=>Nat.beq i.size 1
 | _=>false
def aKY(name:String)(t:TypeId)(i:TypeInfo):Option (Nat×Nat×Option (Bool×Nat)):=
 match i.methods.find? (·.name==name) with
 | some m=>bif !m.path.isEmpty then none else match m.func with
  | none=>none
  | some (f,ptr)=>match P.underlying t,ptr with
   | some (.pointer _),true=>some (t,f,none)
   | some (.pointer e),false=>(aCI P e).map fun a=>(t,f,some a)
   | some (.interface _),_=>none
   | some _,false=>some (t,f,none)
   | _,_=>none
 | none=>none
def xS(name:String):List TypeInfo->Nat->List (Nat×Nat×Option (Bool×Nat))
 | [],_=>[]
 | i::is,t=>match aKY P name t i with
  | some r=>r::xS name is (t+1)
  | none=>xS name is (t+1)
def plainKey:EqP->Bool
 | .int | .str | .bool=>true
 | _=>false
def aB2:Nat->List (Nat×EqP)->Bool
 | _,[]=>true
 | i,(o,e)::l=>Nat.beq o i && (plainKey e && aB2 (i+1) l)
def aBS(t:TypeId):Option tZ:=
 match P.underlying t with
 | some .string=>some (.p .str)
 | some (.int _)=>some (.p .int)
 | some (.struct fs)=>match eqT P t with
  | .struct l=>bif fs.all (fun f=>plainKey (eqP P f.type)) && aB2 0 l then some (.struct l) else none
  | _=>none
 | some (.array _ e)=>match eqT P t with
  | .struct l=>bif plainKey (eqP P e) && aB2 0 l then some (.struct l) else none
  | _=>none
 | _=>none
def aNA(s:String):Option aLf:=
 bif s== "math/bits.Add64" then some .add64
 else bif s== "internal/bytealg.IndexByteString" then some .idxByte
 else none
def aQ5(f:Operand):Option aLf:=
 match f with
 | .func f=>match P.funcs[f]? with
  | some fn=>bif fn.body.isNone && (Extern.allNextRows.lookup fn.origin).isNone then aNA fn.name else none
  | none=>none
 | _=>none
def q(o:Option QOp):Option AOp:=o.map .q
def al(o:Option wN):Option AOp:=o.map .a
def xx(o:Option XOp):Option AOp:=o.map .x
def uX(o:Op):Option AOp:=
 match o with
 | .move x | .assign x=>q do some (.mv (<-iB P x))
 | .pick c a b=>q do some (.pick (<-iB P c) (<-iB P a) (<-iB P b))
 | .alloc t=>al do some (.alloc t (<-jX P t))
 | .box t x=>al do some (.box t (<-iB P x))
 | .build t ps=>
  match P.underlying t with
  | some (.struct fs)=>bif pM P fs.toList then q do some (.build (<-jX P t) (<-yE P (placeOf P fs) ps.toList)) else none
  | some (.array _ e)=>q do let s <-P.info? e;some (.build (<-jX P t) (<-yE P (fun i=>some (i * s.size,s.size)) ps.toList))
  | _=>none
 | .buildSlice t len ps=>al do
  let (e,i) <-tL P t
  if len * i.size>65536 then none
  some (.cj e i.size len (<-mW P e i) (<-yQ P ps.toList))
 | .load t a=>q do let (agg,n) <-aCI P t;some (.ld agg n (<-iB P a))
 | .store t a v=>xx do let (_,n) <-aCI P t;some (.st n (<-iB P a) (<-iB P v))
 | .nilCheck x=>q do some (.ch (<-iB P x))
 | .binOp op t x y _=>q do some (.bin op (eqT P t) (<-iB P x) (<-iB P y))
 | .unOp op _ x=>q do some (.un op (<-iB P x))
 | .makeInterface t x=>match P.underlying t with
  | some (.interface _)=>none
  | some _=>q do some (.mkIface t (<-iB P x))
  | none=>none
 | .makeFunc (.func f) a b=>q do some (.mkFunc f (<-aAW P a.toList) (<-aAW P b.toList))
 | .makeMap _ none=>al (some .mkMap)
 | .makeSlice t l c=>al do let (e,i) <-tL P t;some (.dd e i.size i.bytes (<-mW P e i) (<-iB P l) (<-iB P c))
 | .slice t x lo hi mx=>bif mx.isSome && hi.isNone then none else
  match P.underlying t with
  | some (.slice e)=>q do let i <-P.info? e;some (.slc (.slice i.size) (<-iB P x) (<-oE P lo) (<-oE P hi) (<-oE P mx))
  | some (.array n e)=>q do let i <-P.info? e;some (.slc (.arr n i.size) (<-iB P x) (<-oE P lo) (<-oE P hi) (<-oE P mx))
  | _=>none
 | .fieldAddr t x f=>match P.underlying t with
  | some (.struct fs)=>q do
   let f <-fs[f]?
   let i <-P.info? f.type
   if i.size=0 then none
   some (.cw f.offset (<-iB P x))
  | _=>none
 | .field t x f=>match P.underlying t with
  | some (.struct fs)=>q do
   let f <-fs[f]?
   let (agg,n) <-aCI P f.type
   some (.fld agg f.offset n (<-iB P x))
  | _=>none
 | .indexAddr t x ix=>match P.underlying t with
  | some (.slice e)=>q do let i <-P.info? e;some (.cp (.slice i.size) (<-iB P x) (<-iB P ix))
  | some (.array n e)=>q do let i <-P.info? e;some (.cp (.arr n i.size) (<-iB P x) (<-iB P ix))
  | _=>none
 | .lookup t m k ok=>match P.underlying t with
  | some (.map kt et)=>q do some (.lookup (<-aBS P kt) (<-aHY P et) ok (<-iB P m) (<-iB P k))
  | _=>none
 | .mapUpdate t m k v | .insert t m k v=>match P.underlying t with
  | some (.map kt _)=>xx do some (.mapUpd (<-aBS P kt) (<-iB P m) (<-iB P k) (<-iB P v))
  | _=>none
 | .extract x i=>q do some (.extract (<-iB P x) i)
 | .call {callee:=.value f,args,.. }=>match aQ5 P f with
  | some _=>none
  | none=>xx do some (.call (<-iB P f) (<-aAW P args.toList))
 | .call {callee:=.builtin b,args,argTypes}=>
  match b,args.toList,argTypes.toList with
  | .len,[x],[t]=>match P.underlying t with
   | some (.slice _)=>q do some (.ct (<-iB P x))
   | _=>none
  | .max,xs,_=>q do some (.dg true (<-aAW P xs))
  | .min,xs,_=>q do some (.dg false (<-aAW P xs))
  | .append,[s,x],[t,u]=>match tL P t with
   | some (e,i)=>bif aNv P u i && (mW P e i).isSome then xx do some (.app e i.size i.bytes (<-iB P s) (<-iB P x)) else none
   | none=>none
  | _,_,_=>none
 | _=>none
def aBo(ops:Array Oper):Option (Nat×Bool)->Option (Option (Nat×Bool))
 | none=>some none
 | some (j,w)=>match (ops[j]?).bind (·.dst) with
  | some d=>some (some (d,w))
  | none=>none
def zG(nt:Nat):Option Tmp->Bool
 | some d=>Nat.blt d nt
 | none=>true
def aJN(nt:Nat)(ops:Array Oper)(o:Oper)(mask:Nat):Option AO:=
 bif zG nt o.dst then
  match aBo ops o.guard with
  | some g=>match uX P o.op with
   | some op=>some ⟨o.dst,op,g,mask⟩
   | none=>some ⟨o.dst,.x .bad,g,mask⟩
  | none=>none
 else none
def wB(nt:Nat)(ops:Array Oper):List Oper->bg->Option (List AO)
 | [],_=>some []
 | o::os,ms=>match aJN P nt ops o (ms.headD 0),wB nt ops os ms.tail with
  | some a,some as=>some (a::as)
  | _,_=>none
def cO.rd(x:cO):bg:=
 match x with
 | .t i=>[i]
 | .c _=>[]
def rds:List cO->bg
 | []=>[]
 | x::xs=>x.rd++rds xs
def rdo(x:Option cO):bg:=
 match x with
 | some x=>x.rd
 | none=>[]
def rdp:List (Nat×Nat×cO)->bg
 | []=>[]
 | (_,_,x)::ps=>x.rd++rdp ps
def aQf:List (Nat×cO)->bg
 | []=>[]
 | (_,x)::ps=>x.rd++aQf ps
def QOp.rd(o:QOp):bg:=
 match o with
 | .mv x | .ld _ _ x | .ch x | .un _ x | .conv _ x | .mkIface _ x | .cw _ x | .fld _ _ _ x | .tassert _ _ _ x | .extract x _ | .lenStr x | .ct x | .lenMap x | .capSl x | .mkMeth _ _ x=>x.rd
 | .pick c a b=>c.rd++(a.rd++b.rd)
 | .build _ ps=>rdp ps
 | .bin _ _ x y | .cp _ x y | .idxArr _ _ _ x y | .idxStr x y | .lookup _ _ _ x y=>x.rd++y.rd
 | .mkFunc _ a b=>rds a++rds b
 | .slc _ x lo hi mx=>x.rd++(rdo lo++(rdo hi++rdo mx))
 | .lenArr _=>[]
 | .dg _ xs=>rds xs
def wN.rd(o:wN):bg:=
 match o with
 | .alloc _ _ | .mkMap=>[]
 | .box _ x | .strBytes _ x=>x.rd
 | .cj _ _ _ _ ps=>aQf ps
 | .dd _ _ _ _ l c=>l.rd++c.rd
def XOp.rd(o:XOp):bg:=
 match o with
 | .st _ x v=>x.rd++v.rd
 | .call f args | .inv _ f args=>f.rd++rds args
 | .app _ _ _ s x | .copy _ s x | .mapDel _ s x=>s.rd++x.rd
 | .mapUpd _ m k v=>m.rd++(k.rd++v.rd)
 | .clr _ x=>x.rd
 | .ext _ args=>rds args
 | .bad=>[]
def AOp.rd(o:AOp):bg:=
 match o with
 | .q o=>o.rd
 | .a o=>o.rd
 | .x o=>o.rd
def AO.touch(o:AO):bg:=o.dst.toList++((o.grd.map (·.1)).toList++o.op.rd)
def inL(t:Nat):bg->Bool
 | []=>false
 | u::l=>bif Nat.beq t u then true else inL t l
def meets(d:Option Nat)(b:bg):Bool:=
 match d with
 | some d=>inL d b
 | none=>false
def aGm(i:Nat)(d:Option Nat)(tch:bg):List AO->Bool
 | []=>true
 | b::l=>(bif meets d b.touch || meets b.dst tch then Nat.testBit b.mask i else true) && aGm i d tch l
def aJx:Nat->List AO->Bool
 | _,[]=>true
 | i,a::l=>aGm i a.dst a.touch l && aJx (i+1) l
def aRA(l:List AO):Bool:=aJx 0 l
def aCO:Nat->List Oper->Bool
 | _,[]=>true
 | i,o::l=>o.after.all (fun e=> !Region.binds .any e || Nat.blt e.on i) && aCO (i+1) l
def aEz(nt:Nat)(ops:Array Oper):Option AC:=
 match wB P nt ops ops.toList (CheckFast.beforeL ops.toList 0 []) with
 | some aos=>bif aCO 0 ops.toList && aRA aos then some (.drw aos) else none
 | none=>none
def jG(nt:Nat):Code->Option AC
 | .skip=>some .skip
 | .seq a b=>match jG nt a,jG nt b with
  | some a,some b=>some (.seq a b)
  | _,_=>none
 | .cond c a b=>match iB P c,jG nt a,jG nt b with
  | some c,some a,some b=>some (.cond c a b)
  | _,_,_=>none
 | .block id c=>(jG nt c).map (.block id)
 | .loop c=>(jG nt c).map .loop
 | .exit id=>some (.exit id)
 | .ret=>some .ret
 | .region _ ops d=>bif d then aEz P nt ops else(wB P nt ops ops.toList []).map .reg
 | .rangeFunc f ps as bd=>bif ps.toList.all (fun p=>Nat.blt p nt) then match iB P f,jG nt as,jG nt bd with
  | some f,some as,some bd=>some (.rng f ps.toList as bd)
  | _,_,_=>none
  else none
 | _=>none
def aHF:List ResultVar->Option (List RV)
 | []=>some []
 | .tmp t::rs=>(aHF rs).map (.t t:: ·)
 | .cell a t::rs=>match aCI P t,aHF rs with
  | some (agg,n),some rs=>some (.cell a agg n::rs)
  | _,_=>none
def cFn(fn:Func):Option dY:=
 bif fn.name== "runtime.NumGoroutine" then none else
 match fn.body with
 | some c=>match jG P fn.ntmps c,aHF P fn.results.toList with
  | some c,some rs=>some ⟨fn.ntmps,rs,c⟩
  | _,_=>none
 | none=>none
end
end Go.Ev
