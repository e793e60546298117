import GoSem.Dispatch
import Derived.CheckFast
namespace Go.Ev
theorem Aa:type_of% @decide_eq_false:=@decide_eq_false
theorem Ab.{u}:type_of% @List.forall_mem_cons.{u}:=@List.forall_mem_cons.{u}
theorem Ac:type_of% @decide_eq_true:=@decide_eq_true
theorem Ad.{u}:type_of% @List.getElem?_eq_getElem.{u}:=@List.getElem?_eq_getElem.{u}
theorem Ae.{u}:type_of% @List.getElem?_eq_some_iff.{u}:=@List.getElem?_eq_some_iff.{u}
theorem Af:type_of% @Nat.le_refl:=@Nat.le_refl
theorem Ag.{u}:type_of% @List.getD_eq_getElem?_getD.{u}:=@List.getD_eq_getElem?_getD.{u}
theorem Ah:type_of% @Nat.lt_of_lt_of_le:=@Nat.lt_of_lt_of_le
theorem Ai.{u}:type_of% @List.length_append.{u}:=@List.length_append.{u}
theorem Aj:type_of% @Nat.ble_eq_true_of_le:=@Nat.ble_eq_true_of_le
theorem Ak.{u}:type_of% @Option.some.injEq.{u}:=@Option.some.injEq.{u}
theorem Al:type_of% @Int.ofNat_eq_natCast:=@Int.ofNat_eq_natCast
theorem Am.{u}:type_of% @List.length_singleton.{u}:=@List.length_singleton.{u}
theorem An.{u}:type_of% @List.length_cons.{u}:=@List.length_cons.{u}
theorem Ao:type_of% @Nat.zero_add:=@Nat.zero_add
theorem Ap:type_of% @not_false_eq_true:=@not_false_eq_true
theorem Aq:type_of% @Nat.le_of_ble_eq_true:=@Nat.le_of_ble_eq_true
theorem Ar.{u}:type_of% @List.mem_of_getElem?.{u}:=@List.mem_of_getElem?.{u}
theorem Au.{u,v}:type_of% @Option.map_eq_some_iff.{u,v}:=@Option.map_eq_some_iff.{u,v}
theorem Av:type_of% @Bool.false_eq_true:=@Bool.false_eq_true
theorem Aw.{u}:type_of% @List.append_assoc.{u}:=@List.append_assoc.{u}
theorem Ax:type_of% @Nat.beq_eq:=@Nat.beq_eq
theorem Ay.{u,v}:type_of% @List.length_map.{u,v}:=@List.length_map.{u,v}
theorem Az:type_of% @Nat.le_trans:=@Nat.le_trans
theorem Ba.{u}:type_of% @List.getElem?_append_left.{u}:=@List.getElem?_append_left.{u}
theorem Bb.{u}:type_of% @List.getElem?_append_right.{u}:=@List.getElem?_append_right.{u}
theorem Bc.{u}:type_of% @Bool.cond_eq_ite.{u}:=@Bool.cond_eq_ite.{u}
theorem Bd.{u}:type_of% @List.length_replicate.{u}:=@List.length_replicate.{u}
theorem Be.{u}:type_of% @Array.getD_eq_getD_getElem?.{u}:=@Array.getD_eq_getD_getElem?.{u}
theorem Bf.{u,v}:type_of% @List.getElem?_map.{u,v}:=@List.getElem?_map.{u,v}
theorem Bg.{u}:type_of% @List.mem_append.{u}:=@List.mem_append.{u}
theorem Bh.{u}:type_of% @List.nil_append.{u}:=@List.nil_append.{u}
theorem Bi.{u}:type_of% @List.length_set.{u}:=@List.length_set.{u}
theorem Bj.{u}:type_of% @List.take_of_length_le.{u}:=@List.take_of_length_le.{u}
theorem Bk.{u}:type_of% @List.take_succ_cons.{u}:=@List.take_succ_cons.{u}
theorem Bl.{u}:type_of% @List.cons_append.{u}:=@List.cons_append.{u}
theorem Bm.{u}:type_of% @List.mem_cons.{u}:=@List.mem_cons.{u}
theorem Bn:type_of% @Bool.not_true:=@Bool.not_true
theorem Bo.{u}:type_of% @List.getElem?_eq_none.{u}:=@List.getElem?_eq_none.{u}
theorem Bp.{u}:type_of% @List.length_nil.{u}:=@List.length_nil.{u}
theorem Bq:type_of% @Bool.not_false:=@Bool.not_false
theorem Br.{u}:type_of% @List.take_zero.{u}:=@List.take_zero.{u}
theorem Bs:type_of% @Bool.eq_false_iff:=@Bool.eq_false_iff
theorem Bt:type_of% @Nat.add_zero:=@Nat.add_zero
theorem Bu.{u}:type_of% @List.append_nil.{u}:=@List.append_nil.{u}
theorem Bv.{u}:type_of% @List.mem_singleton.{u}:=@List.mem_singleton.{u}
theorem Bw.{u}:type_of% @List.mem_cons_of_mem.{u}:=@List.mem_cons_of_mem.{u}
theorem Bx.{u}:type_of% @List.take_add_one.{u}:=@List.take_add_one.{u}
theorem Bz.{u}:type_of% @List.length_take.{u}:=@List.length_take.{u}
theorem Ca:type_of% @Bool.and_eq_true:=@Bool.and_eq_true
theorem Cb:type_of% @Nat.zero_le:=@Nat.zero_le
theorem Cc.{u}:type_of% @List.length_eq_zero_iff.{u}:=@List.length_eq_zero_iff.{u}
theorem Cd:type_of% @Nat.eq_zero_or_pos:=@Nat.eq_zero_or_pos
theorem Ce.{u,v}:type_of% @List.map_cons.{u,v}:=@List.map_cons.{u,v}
theorem Cf:type_of% @Nat.eq_of_beq_eq_true:=@Nat.eq_of_beq_eq_true
theorem Cg.{u}:type_of% @List.take_length.{u}:=@List.take_length.{u}
theorem Ch.{u}:type_of% @Option.some.inj.{u}:=@Option.some.inj.{u}
theorem Ci.{u,v}:type_of% @congrArg.{u,v}:=@congrArg.{u,v}
theorem Cj:type_of% @not_true_eq_false:=@not_true_eq_false
theorem Ck.{u}:type_of% @List.getElem_mem.{u}:=@List.getElem_mem.{u}
theorem Cl.{u}:type_of% @List.reverse_cons.{u}:=@List.reverse_cons.{u}
theorem Cm.{u}:type_of% @List.singleton_append.{u}:=@List.singleton_append.{u}
theorem Cn:type_of% @Bool.eq_iff_iff:=@Bool.eq_iff_iff
theorem Co.{u}:type_of% @if_false.{u}:=@if_false.{u}
theorem Cp.{u}:type_of% @List.mem_cons_self.{u}:=@List.mem_cons_self.{u}
theorem Cq.{u}:type_of% @List.drop_zero.{u}:=@List.drop_zero.{u}
theorem Cr.{u}:type_of% @Ne.symm.{u}:=@Ne.symm.{u}
theorem Ct:type_of% @Nat.sub_self:=@Nat.sub_self
theorem Cu:type_of% @Nat.mul_le_mul_right:=@Nat.mul_le_mul_right
theorem Cv:type_of% @Nat.add_assoc:=@Nat.add_assoc
theorem Cw.{u}:type_of% @Array.getElem?_toList.{u}:=@Array.getElem?_toList.{u}
theorem Cx.{u}:type_of% @List.mem_append_right.{u}:=@List.mem_append_right.{u}
theorem Cy.{u,v}:type_of% @List.map_congr_left.{u,v}:=@List.map_congr_left.{u,v}
theorem Cz.{u}:type_of% @Array.length_toList.{u}:=@Array.length_toList.{u}
theorem Da.{u}:type_of% @List.length_drop.{u}:=@List.length_drop.{u}
theorem Db:type_of% @Int.toNat_natCast:=@Int.toNat_natCast
theorem Dc.{u,v}:type_of% @List.flatMap_cons.{u,v}:=@List.flatMap_cons.{u,v}
theorem Dd:type_of% @Nat.lt_or_ge:=@Nat.lt_or_ge
theorem De:type_of% @Nat.le_add_right:=@Nat.le_add_right
theorem Dg:type_of% @Nat.succ_mul:=@Nat.succ_mul
theorem Dh:type_of% @of_decide_eq_true:=@of_decide_eq_true
theorem Di.{u,v}:type_of% @Option.bind_eq_some_iff.{u,v}:=@Option.bind_eq_some_iff.{u,v}
theorem Dj.{u}:type_of% @List.getElem?_replicate.{u}:=@List.getElem?_replicate.{u}
theorem Dk.{u}:type_of% @List.mem_of_mem_take.{u}:=@List.mem_of_mem_take.{u}
theorem Dl:type_of% @Nat.lt_of_le_of_lt:=@Nat.lt_of_le_of_lt
theorem Dm:type_of% @Nat.add_mul:=@Nat.add_mul
theorem Dn.{u}:type_of% @List.mem_append_left.{u}:=@List.mem_append_left.{u}
theorem Dp.{u}:type_of% @List.all_eq_true.{u}:=@List.all_eq_true.{u}
theorem Dq.{u,v}:type_of% @Array.toList_map.{u,v}:=@Array.toList_map.{u,v}
theorem Dr.{u}:type_of% @List.pairwise_iff_getElem.{u}:=@List.pairwise_iff_getElem.{u}
theorem Dt.{u}:type_of% @List.drop_eq_getElem_cons.{u}:=@List.drop_eq_getElem_cons.{u}
theorem Du:type_of% @Nat.mul_one:=@Nat.mul_one
theorem Dw:type_of% @Nat.not_lt_zero:=@Nat.not_lt_zero
theorem Dx.{u,v}:type_of% @List.foldl_cons.{u,v}:=@List.foldl_cons.{u,v}
theorem Dy:type_of% @Nat.zero_mul:=@Nat.zero_mul
theorem Dz.{u,v}:type_of% @List.map_append.{u,v}:=@List.map_append.{u,v}
theorem Ea:type_of% @Nat.lt_succ_self:=@Nat.lt_succ_self
theorem Eb.{u}:type_of% @List.getElem?_append.{u}:=@List.getElem?_append.{u}
theorem Ec.{u}:type_of% @if_true.{u}:=@if_true.{u}
theorem Ed.{u}:type_of% @Array.getElem?_eq_some_iff.{u}:=@Array.getElem?_eq_some_iff.{u}
theorem Ee.{u}:type_of% @List.getElem?_set.{u}:=@List.getElem?_set.{u}
theorem Ef.{u}:type_of% @Array.getElem?_eq_getElem.{u}:=@Array.getElem?_eq_getElem.{u}
theorem Eg.{u}:type_of% @List.take_append_drop.{u}:=@List.take_append_drop.{u}
theorem Eh.{u}:type_of% @List.getElem?_drop.{u}:=@List.getElem?_drop.{u}
theorem Ei.{u,v}:type_of% @List.getElem_map.{u,v}:=@List.getElem_map.{u,v}
theorem Ej.{u}:type_of% @List.ext_getElem.{u}:=@List.ext_getElem.{u}
theorem Ek:type_of% @Int.natCast_nonneg:=@Int.natCast_nonneg
theorem Em.{u}:type_of% @List.getElem?_take_of_lt.{u}:=@List.getElem?_take_of_lt.{u}
theorem En.{u,v}:type_of% @List.mem_map.{u,v}:=@List.mem_map.{u,v}
theorem Eo.{u}:type_of% @List.mem_of_mem_drop.{u}:=@List.mem_of_mem_drop.{u}
theorem Ep.{u}:type_of% @List.getElem?_of_mem.{u}:=@List.getElem?_of_mem.{u}
theorem Eq:type_of% @Bool.false_and:=@Bool.false_and
theorem Er.{u}:type_of% @Array.ext'.{u}:=@Array.ext'.{u}
theorem Es:type_of% @Bool.or_eq_true:=@Bool.or_eq_true
theorem Et.{u}:type_of% @List.cons.injEq.{u}:=@List.cons.injEq.{u}
theorem Eu.{u}:type_of% @List.drop_of_length_le.{u}:=@List.drop_of_length_le.{u}
theorem Ew:type_of% @Bool.true_and:=@Bool.true_and
theorem Ex:type_of% @Nat.le_max_right:=@Nat.le_max_right
theorem Ey:type_of% @decide_eq_true_iff:=@decide_eq_true_iff
theorem Ez.{u,v}:type_of% @Option.map_some.{u,v}:=@Option.map_some.{u,v}
theorem Fa:type_of% @Nat.le_max_left:=@Nat.le_max_left
theorem Fb:type_of% @Nat.one_mul:=@Nat.one_mul
theorem Fc:type_of% @Nat.ble_eq:=@Nat.ble_eq
theorem Fd.{u}:type_of% @Array.getElem?_push.{u}:=@Array.getElem?_push.{u}
theorem Fe:type_of% @List.getElem?_range:=@List.getElem?_range
theorem Ff.{u}:type_of% @Option.getD_some.{u}:=@Option.getD_some.{u}
theorem Fg.{u}:type_of% @Option.isSome_none.{u}:=@Option.isSome_none.{u}
theorem Fi:type_of% @Nat.two_pow_pos:=@Nat.two_pow_pos
theorem Fj.{u}:type_of% @List.sum_cons.{u}:=@List.sum_cons.{u}
theorem Fk:type_of% @decide_eq_true_eq:=@decide_eq_true_eq
theorem Fm:type_of% @List.mem_range:=@List.mem_range
theorem Fp.{u,v,w}:type_of% @List.map_map.{u,v,w}:=@List.map_map.{u,v,w}
theorem Fq.{u,v,w}:type_of% @getElem!_pos.{u,v,w}:=@getElem!_pos.{u,v,w}
noncomputable section
inductive T(α:Type) where
 | e:T α
 | n (l:T α) (v:Option α) (r:T α):T α
def bN{α:Sort _}(c:Bool)(a b:α):α:=Bool.rec b a c
def aX{α β:Type}(x:Option α)(f:α→Option β):Option β:=Option.rec none f x
namespace T
variable {α:Type}
def get(t:T α):Nat→Option α:=
 T.rec (motive:=fun _=>Nat→Option α) (fun _=>none)
  (fun _ v _ gl gr k=>bN (Nat.beq k 0) v (bN (Nat.beq (Nat.mod k 2) 1) (gl (Nat.div k 2)) (gr (Nat.sub (Nat.div k 2) 1)))) t
def single(f:Nat):Nat→Option α→T α:=
 Nat.rec (motive:=fun _=>Nat→Option α→T α) (fun _ _=>.e)
  (fun _ ih k x=>bN (Nat.beq k 0) (.n .e x .e) (bN (Nat.beq (Nat.mod k 2) 1) (.n (ih (Nat.div k 2) x) none .e) (.n .e none (ih (Nat.sub (Nat.div k 2) 1) x)))) f
def set(t:T α):Nat→Option α→T α:=
 T.rec (motive:=fun _=>Nat→Option α→T α) (fun k x=>single (Nat.succ k) k x)
  (fun l v r sl sr k x=>bN (Nat.beq k 0) (.n l x r) (bN (Nat.beq (Nat.mod k 2) 1) (.n (sl (Nat.div k 2) x) v r) (.n l v (sr (Nat.sub (Nat.div k 2) 1) x)))) t
end T
inductive AV where
 | bool (b:Bool)
 | int (k:IntKind) (n:Int)
 | str (s:List Nat)
 | ptr (b off:Nat)
 | nilp
 | sl (b off len cap:Nat) (o:Bool)
 | nilsl
 | emp        -- an empty slice,not nil,of unknown place and capacity
 | map (b:Nat)
 | nilmap
 | fn (f:Nat) (first captured:List AV)
 | nilfn
 | yld (b:Nat)
 | iface (t:Nat) (v:AV)
 | niliface
 | mth (name:String) (tbl:List (Nat×Nat×Option (Bool×Nat))) (v:AV)     -- a method of an interface value,bound
 | agg (cs:List AV)
 | tup (vs:List AV)
 deriving Inhabited
def AV.cells(v:AV):Option (List AV):=
 match v with
 | .agg cs=>some cs
 | .tup _=>none
 | v=>some [v]
def AV.undef:AV:=.tup []
inductive cL where
 | t (i:Nat)
 | c (v:AV)
 deriving Inhabited
inductive EqP where
 | bool | int | str | ptr | slice | map | func | iface | no
 deriving Inhabited,DecidableEq
inductive oR where
 | p (e:EqP)
 | struct (fs:List (Nat×EqP))
 deriving Inhabited
inductive aG8 where
 | int (k:IntKind)
 | same
 | bytesToStr
 | intToStr
 deriving Inhabited
inductive SlK where
 | str
 | slice (size:Nat)
 | arr (n size:Nat)
 deriving Inhabited
inductive IxK where
 | arr (n size:Nat)
 | slice (size:Nat)
 deriving Inhabited
inductive zZ where
 | mv (x:cL)
 | pick (c a b:cL)
 | build (zero:List AV) (parts:List (Nat×Nat×cL))
 | ld (agg:Bool) (n:Nat) (x:cL)
 | nilchk (x:cL)
 | bin (op:BinOp) (e:oR) (x y:cL)
 | un (op:UnOp) (x:cL)
 | conv (k:aG8) (x:cL)
 | mkIface (t:Nat) (x:cL)
 | mkFunc (f:Nat) (first captured:List cL)
 | slc (k:SlK) (x:cL) (lo hi mx:Option cL)
 | faddr (off:Nat) (x:cL)
 | fld (agg:Bool) (off n:Nat) (x:cL)
 | iaddr (k:IxK) (x ix:cL)
 | idxArr (agg:Bool) (n size:Nat) (x ix:cL)
 | idxStr (x ix:cL)
 | lookup (e:oR) (zero:AV) (commaOk:Bool) (m key:cL)
 | tassert (t:Nat) (zero:AV) (commaOk:Bool) (x:cL)
 | extract (x:cL) (i:Nat)
 | lenArr (n:Nat)
 | lenStr (x:cL)
 | lenSl (x:cL)
 | lenMap (x:cL)
 | capSl (x:cL)
 | minmax (isMax:Bool) (xs:List cL)
 | mkMeth (name:String) (tbl:List (Nat×Nat×Option (Bool×Nat))) (x:cL)
 deriving Inhabited
inductive vL where
 | alloc (t:Nat) (cells:List AV)
 | box (t:Nat) (x:cL)
 | bslice (t size len:Nat) (zero:List AV) (parts:List (Nat×cL))
 | mkSlice (t size bytes:Nat) (zero:List AV) (l c:cL)
 | mkMap
 | strBytes (t:Nat) (x:cL)
 deriving Inhabited
inductive aH6 where
 | add64 | idxByte | idxStr
 deriving Inhabited
inductive XOp where
 | st (n:Nat) (x v:cL)
 | call (f:cL) (args:List cL)
 | inv (tbl:List (Nat×Nat×Option (Bool×Nat))) (recv:cL) (args:List cL)
 | app (t size bytes:Nat) (s x:cL)
 | copy (size:Nat) (d s:cL)
 | mapUpd (e:oR) (m k v:cL)
 | mapDel (e:oR) (m k:cL)
 | clr (zero:List AV) (x:cL)
 | ext (k:aH6) (args:List cL)
 | bad
 deriving Inhabited
inductive AOp where
 | q (o:zZ)
 | a (o:vL)
 | x (o:XOp)
 deriving Inhabited
structure AO where
 dst:Option Nat
 op:AOp
 grd:Option (Nat×Bool)
 mask:Nat      -- the operations before it (drawn regions)
 deriving Inhabited
inductive AC where
 | skip
 | seq (a b:AC)
 | cond (c:cL) (a b:AC)
 | block (id:Nat) (c:AC)
 | loop (c:AC)
 | exit (id:Nat)
 | ret
 | reg (ops:List AO)
 | drw (ops:List AO)
 | rng (f:cL) (params:List Nat) (assign body:AC)
 | dfr (ops:List AO) (f:cL) (args:List cL)
 deriving Inhabited
inductive RV where
 | t (i:Nat)
 | cell (a:Nat) (agg:Bool) (n:Nat)
 deriving Inhabited
structure cW where
 ntmps:Nat
 res:List RV
 body:AC
 deriving Inhabited
abbrev Fr:=T AV
inductive LSt where
 | ready | busy | done | exhausted
 deriving DecidableEq,Inhabited
inductive Out where
 | normal
 | exit (id:Nat)
 | ret
 deriving Inhabited
inductive AB where
 | cells (cs:List AV) (opn:Bool) (size:Nat)     -- opn:there may be more room behind;size:the cells of an element then
 | ro (cs:List AV)
 | map (es:List (AV×AV))
 | loop (st:LSt) (pend:Option Out) (fr:Fr) (params:List Nat) (assign body:AC)
 | dfd
 deriving Inhabited
structure St where
 h:T AB
 nx:Nat
def aD(i:Nat)(F:Fr):AV:=Option.rec (motive:=fun _=>AV) .undef (fun v=>v) (F.get i)
def aPf(v:AV)(_:Fr):AV:=v
def cL.val(x:cL):Fr→AV:=cL.rec (motive:=fun _=>Fr→AV) aD aPf x
def dC(l:List cL):Fr→List AV:=List.rec (motive:=fun _=>Fr→List AV) (fun _=>[]) (fun x _ ih F=>x.val F::ih F) l
def nth{α:Type}(l:List α):Nat→Option α:=List.rec (motive:=fun _=>Nat→Option α) (fun _=>none) (fun x _ ih k=>bN (Nat.beq k 0) (some x) (ih (Nat.sub k 1))) l
def aGF{α:Type}(l:List α):Nat→List α:=List.rec (motive:=fun _=>Nat→List α) (fun _=>[]) (fun x xs ih k=>bN (Nat.beq k 0) (x::xs) (ih (Nat.sub k 1))) l
def aEL{α:Type}(l:List α):Nat→Option (List α):=
 List.rec (motive:=fun _=>Nat→Option (List α)) (fun n=>bN (Nat.beq n 0) (some []) none)
  (fun x _ ih n=>bN (Nat.beq n 0) (some []) (aX (ih (Nat.sub n 1)) fun r=>some (x::r))) l
def aDH{α:Type}(vs:List α):List α→Option (List α):=
 List.rec (motive:=fun _=>List α→Option (List α)) (fun l=>some l)
  (fun v _ ih l=>List.rec (motive:=fun _=>Option (List α)) none (fun _ xs _=>aX (ih xs) fun r=>some (v::r)) l) vs
def put{α:Type}(l:List α):Nat→List α→Option (List α):=
 List.rec (motive:=fun _=>Nat→List α→Option (List α)) (fun k vs=>bN (Nat.beq k 0) (aDH vs []) none)
  (fun x xs ih k vs=>bN (Nat.beq k 0) (aDH vs (x::xs)) (aX (ih (Nat.sub k 1) vs) fun r=>some (x::r))) l
def jH{α:Type}(l:List α):Nat:=List.rec (motive:=fun _=>Nat) 0 (fun _ _ ih=>Nat.succ ih) l
def vT{α:Type}(l m:List α):List α:=List.rec (motive:=fun _=>List α) m (fun x _ ih=>x::ih) l
def repeatL{α:Type}(z:List α)(n:Nat):List α:=Nat.rec (motive:=fun _=>List α) [] (fun _ ih=>vT z ih) n
def cut{α:Type}(l:List α)(i n:Nat):Option (List α):=aEL (aGF l i) n
def oS(k:IntKind):Nat:=
 match k with
 | .i8=>127 | .i16=>32767 | .i32=>2147483647 | .i64=>9223372036854775807
 | .u8=>255 | .u16=>65535 | .u32=>4294967295 | .u64=>18446744073709551615
def nat(k:IntKind)(n:Nat):Int:=bN (Nat.ble n (oS k)) (.ofNat n) (k.wrap (.ofNat n))
def aDO(k:IntKind):Bool:=
 match k with
 | .i8 | .i16 | .i32 | .i64=>true
 | _=>false
def neg(k:IntKind)(n:Nat):Int:=bN (aDO k) (bN (Nat.ble n (oS k)) (.negSucc n) (k.wrap (.negSucc n))) (k.wrap (.negSucc n))
def xJ(k:IntKind)(n:Nat):Bool:=Nat.ble n (oS k)
def aEN(k:IntKind)(n:Int):Int:=Int.rec (motive:=fun _=>Int) (fun m=>nat k m) (fun m=>neg k m) n
def aBb(k:IntKind)(a b:Nat):Int:=bN (Nat.ble b a) (nat k (Nat.sub a b)) (neg k (Nat.sub (Nat.sub b a) 1))
def aLn(k:IntKind)(x y:Int):Int:=
 Int.rec (motive:=fun _=>Int) (fun a=>Int.rec (motive:=fun _=>Int) (fun b=>nat k (Nat.add a b)) (fun b=>aBb k a (Nat.succ b)) y)
  (fun a=>Int.rec (motive:=fun _=>Int) (fun b=>aBb k b (Nat.succ a)) (fun b=>neg k (Nat.succ (Nat.add a b))) y) x
def aEB(k:IntKind)(x y:Int):Int:=
 Int.rec (motive:=fun _=>Int) (fun a=>Int.rec (motive:=fun _=>Int) (fun b=>aBb k a b) (fun b=>nat k (Nat.add a (Nat.succ b))) y)
  (fun a=>Int.rec (motive:=fun _=>Int) (fun b=>neg k (Nat.add a b)) (fun b=>aBb k b a) y) x
def aG3(k:IntKind)(x y:Int):Int:=
 Int.rec (motive:=fun _=>Int) (fun a=>Int.rec (motive:=fun _=>Int) (fun b=>nat k (Nat.mul a b)) (fun b=>aEN k (Int.mul (.ofNat a) (.negSucc b))) y)
  (fun a=>aEN k (Int.mul (.negSucc a) y)) x
def ieq(x y:Int):Bool:=
 Int.rec (motive:=fun _=>Bool) (fun a=>Int.rec (motive:=fun _=>Bool) (fun b=>Nat.beq a b) (fun _=>false) y)
  (fun a=>Int.rec (motive:=fun _=>Bool) (fun _=>false) (fun b=>Nat.beq a b) y) x
def ile(x y:Int):Bool:=
 Int.rec (motive:=fun _=>Bool) (fun a=>Int.rec (motive:=fun _=>Bool) (fun b=>Nat.ble a b) (fun _=>false) y)
  (fun a=>Int.rec (motive:=fun _=>Bool) (fun _=>true) (fun b=>Nat.ble b a) y) x
def keq(x y:IntKind):Bool:=Nat.beq (oS x) (oS y)
def aLm(x y:Bool):Bool:=bN x y (bN y false true)
def aRD(k:IntKind)(x y:Int):Option AV:=some (.int k (aLn k x y))
def aRe(k:IntKind)(x y:Int):Option AV:=some (.int k (aEB k x y))
def aRk(k:IntKind)(x y:Int):Option AV:=some (.int k (aG3 k x y))
def aMD(k:IntKind)(x y:Int):Option AV:=
 match x,y with
 | .ofNat a,.ofNat b=>bN (Nat.beq b 0) none (some (.int k (nat k (Nat.div a b))))
 | x,y=>bN (ieq y (.ofNat 0)) none (some (.int k (aEN k (x.tdiv y))))
def aLE(k:IntKind)(x y:Int):Option AV:=
 match x,y with
 | .ofNat a,.ofNat b=>bN (Nat.beq b 0) none (some (.int k (.ofNat (Nat.mod a b))))
 | x,y=>bN (ieq y (.ofNat 0)) none (some (.int k (x.tmod y)))
def aBQ(f:Nat→Nat→Nat)(k:IntKind)(x y:Int):Option AV:=
 match x,y with
 | .ofNat a,.ofNat b=>bN (xJ k a) (bN (xJ k b) (some (.int k (.ofNat (f a b)))) none) none
 | _,_=>none
def aRE:=aBQ Nat.land
def iOr:=aBQ Nat.lor
def aRQ:=aBQ Nat.xor
def aRO(_:IntKind)(x y:Int):Option AV:=some (.bool (ieq x y))
def aRs(_:IntKind)(x y:Int):Option AV:=some (.bool (bN (ieq x y) false true))
def aRL(_:IntKind)(x y:Int):Option AV:=some (.bool (bN (ile y x) false true))
def aQX(_:IntKind)(x y:Int):Option AV:=some (.bool (ile x y))
def aRl(_:IntKind)(x y:Int):Option AV:=some (.bool (bN (ile x y) false true))
def aRv(_:IntKind)(x y:Int):Option AV:=some (.bool (ile y x))
def aLS(_:IntKind)(_ _:Int):Option AV:=none
def aL1(op:BinOp):IntKind→Int→Int→Option AV:=
 BinOp.rec (motive:=fun _=>IntKind→Int→Int→Option AV) aRD aRe aRk aMD aLE aRE iOr aRQ aLS aLS aLS aRO aRs aRL aQX aRl aRv op
def sF(op:BinOp)(k:IntKind)(x:Int)(b:Nat):Option AV:=
 let n:=bN (Nat.ble b k.bits) b k.bits
 match op with
 | .shl=>some (.int k (aG3 k x (.ofNat (Nat.pow 2 n))))
 | .shr=>some (.int k (x.fdiv (.ofNat (Nat.pow 2 n))))
 | _=>none
def aAp(op:BinOp)(k:IntKind)(x y:Int):Option AV:=
 match y with
 | .ofNat b=>sF op k x b
 | _=>none
def dS(op:BinOp):Bool:=BinOp.rec (motive:=fun _=>Bool) false false false false false false false false true true false false false false false false false op
def pF:List Nat→List Nat→Bool
 | _,[]=>false
 | [],_::_=>true
 | a::x,b::y=>bN (Nat.blt a b) true (bN (Nat.beq a b) (pF x y) false)
def lA:List Nat→List Nat→Bool
 | [],[]=>true
 | a::x,b::y=>bN (Nat.beq a b) (lA x y) false
 | _,_=>false
def aIB(op:BinOp)(a b:List Nat):Option AV:=
 match op with
 | .add=>bN (Nat.ble (jH a+jH b) 9223372036854775807) (some (.str (vT a b))) none
 | .eql=>some (.bool (lA a b))
 | .neq=>some (.bool (!lA a b))
 | .lss=>some (.bool (pF a b))
 | .leq=>some (.bool (pF a b || lA a b))
 | .gtr=>some (.bool (!(pF a b || lA a b)))
 | .geq=>some (.bool (!pF a b))
 | _=>none
def partOf(agg:Bool)(cs:List AV)(off n:Nat):Option AV:=
 bN agg (aX (cut cs off n) fun r=>some (.agg r)) (nth cs off)
def zW:EqP→AV→AV→Option Bool
 | .bool,.bool a,.bool b=>some (aLm a b)
 | .int,.int k a,.int k' b=>bN (keq k k') (some (ieq a b)) none
 | .str,.str a,.str b=>some (lA a b)
 | .ptr,.nilp,.nilp=>some true
 | .ptr,.nilp,.ptr _ _=>some false
 | .ptr,.ptr _ _,.nilp=>some false
 | .slice,.nilsl,.nilsl=>some true
 | .slice,.nilsl,.sl .. =>some false
 | .slice,.sl ..,.nilsl=>some false
 | .slice,.nilsl,.emp=>some false
 | .slice,.emp,.nilsl=>some false
 | .map,.nilmap,.nilmap=>some true
 | .map,.nilmap,.map _=>some false
 | .map,.map _,.nilmap=>some false
 | .func,.nilfn,.nilfn=>some true
 | .func,.nilfn,.fn .. =>some false
 | .func,.fn ..,.nilfn=>some false
 | .iface,.niliface,.iface _ _=>some false
 | .iface,.iface _ _,.niliface=>some false
 | _,_,_=>none
def eqs:List (Nat×EqP)→List AV→List AV→Option Bool
 | [],_,_=>some true
 | (off,e)::fs,xs,ys=>
  match nth xs off,nth ys off with
  | some x,some y=>match zW e x y with
   | some true=>eqs fs xs ys
   | some false=>some false
   | none=>none
  | _,_=>none
def eqv:oR→AV→AV→Option Bool
 | .p e,x,y=>zW e x y
 | .struct fs,.agg xs,.agg ys=>bN (Nat.beq (jH xs) (jH fs)) (bN (Nat.beq (jH ys) (jH fs)) (eqs fs xs ys) none) none
 | _,_,_=>none
def aOO(op:BinOp)(e:oR)(x y:AV):Option AV:=
 match op with
 | .eql=>aX (eqv e x y) fun b=>some (.bool b)
 | .neq=>aX (eqv e x y) fun b=>some (.bool (bN b false true))
 | _=>none
def cP(op:BinOp)(k:IntKind)(a:Int)(k':IntKind)(b:Int):Option AV:=
 bN (dS op) (aAp op k a b) (bN (keq k k') (aL1 op k a b) none)
def aFP(v:AV):Option (IntKind×Int):=
 match v with
 | .int k a=>some (k,a)
 | _=>none
def aF2(v:AV):Option (List Nat):=
 match v with
 | .str s=>some s
 | _=>none
def eX(op:BinOp)(e:oR)(x y:AV):Option AV:=
 match aFP x,aFP y with
 | some a,some b=>cP op a.1 a.2 b.1 b.2
 | _,_=>match aF2 x,aF2 y with
  | some a,some b=>aIB op a b
  | _,_=>aOO op e x y
def unV(op:UnOp)(x:AV):Option AV:=
 match op,x with
 | .neg,.int k n=>some (.int k (aEB k (.ofNat 0) n))
 | .not,.bool b=>some (.bool (bN b false true))
 | _,_=>none
def nJ(b:AB):Option (List AV):=
 match b with
 | .cells cs _ _=>some cs
 | .ro cs=>some cs
 | _=>none
def cN(h:T AB)(b:Nat):Option (List AV):=aX (h.get b) nJ
def uZ(h:T AB)(b off n:Nat):Option (List AV):=aX (cN h b) fun cs=>cut cs off n
def lI(h:T AB)(b off:Nat):Option AV:=aX (cN h b) fun cs=>nth cs off
def oM(agg:Bool)(n:Nat)(h:T AB)(b off:Nat):Option AV:=
 bN agg (aX (uZ h b off n) fun cs=>some (.agg cs)) (lI h b off)
def fL(zero:List AV):List (Nat×Nat×AV)→Option (List AV)
 | []=>some zero
 | (off,n,v)::ps=>aX v.cells fun cs=>bN (Nat.beq (jH cs) n) (aX (put zero off cs) fun z=>fL z ps) none
def bytesOf:List AV→Option (List Nat)
 | []=>some []
 | .int .u8 (.ofNat n)::vs=>bN (Nat.ble n 255) (aX (bytesOf vs) fun r=>some (n::r)) none
 | _::_=>none
def eY(v:AV):Option Nat:=
 match v with
 | .int _ (.ofNat n)=>some n
 | _=>none
def iQ(F:Fr)(d:Nat)(x:Option cL):Option Nat:=
 match x with
 | none=>some d
 | some x=>eY (x.val F)
def pP(e:oR)(k:AV):List (AV×AV)→Nat→Option (Option (Nat×AV))
 | [],_=>some none
 | (k',v)::es,i=>aX (eqv e k k') fun b=>bN b (some (some (i,v))) (pP e k es (Nat.succ i))
def oN(e:oR)(k:AV)(es:List (AV×AV)):Option (Option (Nat×AV)):=aX (eqv e k k) fun _=>pP e k es 0
def rT(b:AB):Option (List (AV×AV)):=
 match b with
 | .map es=>some es
 | _=>none
def qL(h:T AB)(m:AV):Option (List (AV×AV)):=
 match m with
 | .nilmap=>some []
 | .map b=>aX (h.get b) rT
 | _=>none
def jN(isMax:Bool):List AV→AV→Option AV
 | [],x=>some x
 | .int k' b::vs,.int k a=>bN (keq k k')
   (jN isMax vs (.int k (bN isMax (bN (ile b a) a b) (bN (ile a b) a b)))) none
 | _,_=>none
abbrev QF:=Fr→T AB→Option AV
def qMv(x:cL):QF:=fun F _=>some (x.val F)
def xA(v:AV)(a b:cL)(F:Fr):Option AV:=
 match v with
 | .bool t=>some (bN t (a.val F) (b.val F))
 | _=>none
def aQM(c a b:cL):QF:=fun F _=>xA (c.val F) a b F
def eU(F:Fr):List (Nat×Nat×cL)→List (Nat×Nat×AV)
 | []=>[]
 | (a,b,x)::ps=>(a,b,x.val F)::eU F ps
def aPs(zero:List AV)(ps:List (Nat×Nat×cL)):QF:=fun F _=>aX (fL zero (eU F ps)) fun cs=>some (.agg cs)
def dB(v:AV)(agg:Bool)(n:Nat)(h:T AB):Option AV:=
 match v with
 | .ptr b off=>oM agg n h b off
 | _=>none
def qLd(agg:Bool)(n:Nat)(x:cL):QF:=fun F h=>dB (x.val F) agg n h
def vY{α:Type}(t:Nat):List (Nat×α)→Option α
 | []=>none
 | (u,a)::l=>bN (Nat.beq t u) (some a) (vY t l)
def aGU(n:String)(tbl:List (Nat×Nat×Option (Bool×Nat)))(v:AV):Option AV:=
 match v with
 | .iface t w=>aX (vY t tbl) fun r=>match r.2,w with
  | none,_=>some (.mth n tbl v)
  | some _,.ptr _ _=>some (.mth n tbl v)
  | _,_=>none
 | _=>none
def tX(v:AV):Option AV:=
 match v with
 | .ptr b o=>some (.ptr b o)
 | .fn f a b=>some (.fn f a b)
 | .iface t v=>some (.iface t v)
 | .yld b=>some (.yld b)
 | .mth n tbl v=>aGU n tbl v
 | _=>none
def aOm(x:cL):QF:=fun F _=>tX (x.val F)
def aRd(op:BinOp)(e:oR)(x y:cL):QF:=fun F _=>eX op e (x.val F) (y.val F)
def qUn(op:UnOp)(x:cL):QF:=fun F _=>unV op (x.val F)
def aCW(h:T AB)(b off len:Nat):Option AV:=aX (uZ h b off len) fun cs=>aX (bytesOf cs) fun s=>some (.str s)
def vV(k:aG8)(v:AV)(h:T AB):Option AV:=
 match k,v with
 | .int k,.int _ n=>some (.int k (aEN k n))
 | .same,.str s=>some (.str s)
 | .bytesToStr,.nilsl=>some (.str [])
 | .bytesToStr,.emp=>some (.str [])
 | .bytesToStr,.sl b off len _ _=>aCW h b off len
 | .intToStr,.int _ (.ofNat n)=>bN (Nat.ble n 127) (some (.str [n])) none
 | _,_=>none
def aQj(k:aG8)(x:cL):QF:=fun F h=>vV k (x.val F) h
def aMb(t:Nat)(x:cL):QF:=fun F _=>some (.iface t (x.val F))
def aNp(f:Nat)(first cap:List cL):QF:=fun F _=>some (.fn f (dC first F) (dC cap F))
def aD0(s:List Nat)(lo hi mx:Option cL)(F:Fr):Option AV:=
 match mx with
 | some _=>none
 | none=>aX (iQ F (jH s) hi) fun h'=>aX (iQ F 0 lo) fun l=>
   bN (Nat.ble h' (jH s)) (bN (Nat.ble l h') (aX (cut s l (h' - l)) fun r=>some (.str r)) none) none
def jW(len cap:Nat)(lo hi mx:Option cL)(F:Fr):Option (Nat×Nat×Nat):=
 aX (iQ F cap mx) fun m=>aX (iQ F len hi) fun h=>aX (iQ F 0 lo) fun l=>
  bN (Nat.ble m cap) (bN (Nat.ble h m) (bN (Nat.ble l h) (some (l,h,m)) none) none) none
def aIq(size b off len cap:Nat)(o:Bool)(lo hi mx:Option cL)(F:Fr):Option AV:=
 aX (jW len cap lo hi mx F) fun x=>
  let o':=bN o mx.isNone false
  bN (Nat.beq x.2.2 x.1) (bN o' (some .emp) (some (.sl b off (x.2.1 - x.1) (x.2.2 - x.1) false)))
   (some (.sl b (off+x.1 * size) (x.2.1 - x.1) (x.2.2 - x.1) o'))
def aM9(lo hi mx:Option cL)(F:Fr):Option AV:=aX (jW 0 0 lo hi mx F) fun _=>some .emp
def aMA(lo hi mx:Option cL)(F:Fr):Option AV:=aX (jW 0 0 lo hi mx F) fun _=>some .nilsl
def aJp(n size b off:Nat)(lo hi mx:Option cL)(F:Fr):Option AV:=
 aX (jW n n lo hi mx F) fun x=>
  bN (Nat.beq x.2.2 x.1) (some (.sl b off (x.2.1 - x.1) (x.2.2 - x.1) false))
   (some (.sl b (off+x.1 * size) (x.2.1 - x.1) (x.2.2 - x.1) false))
def qS(k:SlK)(v:AV)(lo hi mx:Option cL)(F:Fr):Option AV:=
 match k,v with
 | .str,.str s=>aD0 s lo hi mx F
 | .slice size,.sl b off len cap o=>aIq size b off len cap o lo hi mx F
 | .slice _,.nilsl=>aMA lo hi mx F
 | .slice _,.emp=>aM9 lo hi mx F
 | .arr n size,.ptr b off=>aJp n size b off lo hi mx F
 | _,_=>none
def aRo(k:SlK)(x:cL)(lo hi mx:Option cL):QF:=fun F _=>qS k (x.val F) lo hi mx F
def zQ(v:AV)(off:Nat):Option AV:=
 match v with
 | .ptr b o=>some (.ptr b (o+off))
 | _=>none
def aPL(off:Nat)(x:cL):QF:=fun F _=>zQ (x.val F) off
def aH0(v:AV)(agg:Bool)(off n:Nat):Option AV:=
 match v with
 | .agg cs=>partOf agg cs off n
 | _=>none
def aQY(agg:Bool)(off n:Nat)(x:cL):QF:=fun F _=>aH0 (x.val F) agg off n
def eI(k:IxK)(v:AV)(i:Nat):Option AV:=
 match k,v with
 | .arr n size,.ptr b off=>bN (Nat.blt i n) (some (.ptr b (off+i * size))) none
 | .slice size,.sl b off len _ _=>bN (Nat.blt i len) (some (.ptr b (off+i * size))) none
 | _,_=>none
def aOZ(k:IxK)(x ix:cL):QF:=fun F _=>aX (eY (ix.val F)) fun i=>eI k (x.val F) i
def xT(v:AV)(agg:Bool)(n size i:Nat):Option AV:=
 match v with
 | .agg cs=>bN (Nat.blt i n) (partOf agg cs (i * size) size) none
 | _=>none
def aOl(agg:Bool)(n size:Nat)(x ix:cL):QF:=fun F _=>aX (eY (ix.val F)) fun i=>xT (x.val F) agg n size i
def nF(v:AV)(i:Nat):Option AV:=
 match v with
 | .str s=>aX (nth s i) fun b=>some (.int .u8 (.ofNat b))
 | _=>none
def aNG(x ix:cL):QF:=fun F _=>aX (eY (ix.val F)) fun i=>nF (x.val F) i
def aDz(ok:Bool)(v:AV)(b:Bool):AV:=bN ok (.tup [v,.bool b]) v
def pJ(r:Option (Nat×AV))(zero:AV)(ok:Bool):Option AV:=
 match r with
 | some (_,v)=>some (aDz ok v true)
 | none=>some (aDz ok zero false)
def aOA(sk:oR)(zero:AV)(ok:Bool)(m key:cL):QF:=fun F h=>
 aX (qL h (m.val F)) fun es=>aX (oN sk (key.val F) es) fun r=>pJ r zero ok
def wO(v:AV)(t:Nat)(zero:AV)(ok:Bool):Option AV:=
 match v with
 | .iface t' v=>bN (Nat.beq t t') (some (aDz ok v true)) (bN ok (some (.tup [zero,.bool false])) none)
 | .niliface=>bN ok (some (.tup [zero,.bool false])) none
 | _=>none
def aLD(t:Nat)(zero:AV)(ok:Bool)(x:cL):QF:=fun F _=>wO (x.val F) t zero ok
def lG(v:AV)(i:Nat):Option AV:=
 match v with
 | .tup vs=>nth vs i
 | _=>none
def aLw(x:cL)(i:Nat):QF:=fun F _=>lG (x.val F) i
def aNl(n:Nat):QF:=fun _ _=>some (.int .i64 (.ofNat n))
def aAC(v:AV):Option AV:=
 match v with
 | .str s=>some (.int .i64 (.ofNat (jH s)))
 | _=>none
def aOa(x:cL):QF:=fun F _=>aAC (x.val F)
def jU(v:AV):Option AV:=
 match v with
 | .nilsl=>some (.int .i64 (.ofNat 0))
 | .emp=>some (.int .i64 (.ofNat 0))
 | .sl _ _ n _ _=>some (.int .i64 (.ofNat n))
 | _=>none
def aO6(x:cL):QF:=fun F _=>jU (x.val F)
def aNB(x:cL):QF:=fun F h=>aX (qL h (x.val F)) fun es=>some (.int .i64 (.ofNat (jH es)))
def aC0(v:AV):Option AV:=
 match v with
 | .nilsl=>some (.int .i64 (.ofNat 0))
 | .sl _ _ _ c false=>some (.int .i64 (.ofNat c))
 | _=>none
def aOW(x:cL):QF:=fun F _=>aC0 (x.val F)
def lM(isMax:Bool)(l:List AV):Option AV:=
 match l with
 | []=>none
 | v::vs=>jN isMax vs v
def aNi(n:String)(tbl:List (Nat×Nat×Option (Bool×Nat)))(x:cL):QF:=fun F _=>some (.mth n tbl (x.val F))
def aOI(mx:Bool)(xs:List cL):QF:=fun F _=>lM mx (dC xs F)
def iG(q:zZ):QF:=
 zZ.rec (motive:=fun _=>QF) qMv aQM aPs qLd aOm aRd qUn aQj aMb aNp aRo aPL aQY aOZ aOl aNG aOA aLD aLw aNl aOa aO6 aNB aOW aOI aNi q
abbrev AF:=Fr→Nat→Option (AV×AB)
def room:Nat:=140737488355328
def aPa(_:Nat)(cells:List AV):AF:=fun _ id=>some (.ptr id 0,.cells cells false 0)
def aRJ(_:Nat)(x:cL):AF:=fun F id=>aX (x.val F).cells fun cs=>some (.ptr id 0,.cells cs false 0)
def jO(size:Nat)(F:Fr):List (Nat×cL)→List (Nat×Nat×AV)
 | []=>[]
 | (i,x)::ps=>(i * size,size,x.val F)::jO size F ps
def aOF(_ size len:Nat)(zero:List AV)(ps:List (Nat×cL)):AF:=fun F id=>
 aX (fL (repeatL zero len) (jO size F ps)) fun cs=>some (.sl id 0 len len false,.cells cs false 0)
def vO(_ _ bytes:Nat)(zero:List AV)(l c:cL):AF:=fun F id=>
 aX (eY (l.val F)) fun l=>aX (eY (c.val F)) fun c=>
  bN (Nat.ble l c) (bN (Nat.ble c room) (bN (Nat.ble (bytes * c) room) (some (.sl id 0 l c false,.cells (repeatL zero c) false 0)) none) none) none
def aPj:AF:=fun _ id=>some (.map id,.map [])
def byteCells:List Nat→List AV
 | []=>[]
 | b::bs=>.int .u8 (.ofNat b)::byteCells bs
def sQ(v:AV)(id:Nat):Option (AV×AB):=
 match v with
 | .str s=>some (.sl id 0 (jH s) (jH s) true,.cells (byteCells s) true 1)
 | _=>none
def aKK(_:Nat)(x:cL):AF:=fun F id=>sQ (x.val F) id
def tH(a:vL):AF:=vL.rec (motive:=fun _=>AF) aPa aRJ aOF vO aPj aKK a
def vX(bl:AB)(S:St)(b off:Nat)(vs:List AV):Option St:=
 match bl with
 | .cells cs o s=>aX (put cs off vs) fun cs'=>some ⟨S.h.set b (some (.cells cs' o s)),S.nx⟩
 | _=>none
def oU(S:St)(b off:Nat)(vs:List AV):Option St:=aX (S.h.get b) fun bl=>vX bl S b off vs
def eF(v:AV)(h:T AB)(size n:Nat):Option (List AV):=
 match v with
 | .sl b off _ _ _=>uZ h b off (n * size)
 | .nilsl=>bN (Nat.beq n 0) (some []) none
 | .emp=>bN (Nat.beq n 0) (some []) none
 | .str s=>bN (Nat.beq size 1) (aX (aEL s n) fun r=>some (byteCells r)) none
 | _=>none
def nI(v:AV):Option Nat:=
 match v with
 | .sl _ _ n _ _=>some n
 | .nilsl=>some 0
 | .emp=>some 0
 | .str s=>some (jH s)
 | _=>none
def grown(h:T AB)(nx need size:Nat)(cs:List AV):Option (AV×St):=
 some (.sl nx 0 need need true,⟨h.set nx (some (.cells cs true size)),Nat.succ nx⟩)
def aBZ(bl:AB)(size b off len cap:Nat)(o:Bool)(n:Nat)(new:List AV)(S:St):Option (AV×St):=
 match bl with
 | .cells cs o' sz=>aX (cut cs off (len * size)) fun old=>
   bN o
    (bN o' (bN (Nat.beq sz size) (bN (Nat.beq (off+cap * size) (jH cs)) (grown (S.h.set b none) S.nx (len+n) size (vT old new)) none) none) none)
    (grown S.h S.nx (len+n) size (vT old new))
 | .ro cs=>bN o none (aX (cut cs off (len * size)) fun old=>grown S.h S.nx (len+n) size (vT old new))
 | _=>none
def oW(bytes size b off len cap:Nat)(o:Bool)(n:Nat)(new:List AV)(S:St):Option (AV×St):=
 bN (Nat.ble (len+n) cap)
  (bN (Nat.beq n 0) (some (.sl b off len cap o,S)) (aX (oU S b (off+len * size) new) fun S'=>some (.sl b off (len+n) cap o,S')))
  (bN (Nat.ble (len+n) room) (bN (Nat.ble ((len+n) * bytes) room) (aX (S.h.get b) fun bl=>aBZ bl size b off len cap o n new S) none) none)
def rM(bytes size n:Nat)(new:List AV)(S:St):Option (AV×St):=
 bN (Nat.beq n 0) (some (.nilsl,S))
  (bN (Nat.ble n room) (bN (Nat.ble (n * bytes) room) (grown S.h S.nx n size new) none) none)
def aDL(s:AV)(bytes size n:Nat)(new:List AV)(S:St):Option (AV×St):=
 match s with
 | .nilsl=>rM bytes size n new S
 | .emp=>bN (Nat.beq n 0) (some (.emp,S)) none
 | .sl b off len cap o=>oW bytes size b off len cap o n new S
 | _=>none
def gS(bytes size:Nat)(s x:AV)(S:St):Option (AV×St):=
 aX (nI x) fun n=>aX (eF x S.h size n) fun new=>aDL s bytes size n new S
def wE{α:Type}(f:α→α):List α→Nat→List α
 | [],_=>[]
 | x::xs,k=>bN (Nat.beq k 0) (f x::xs) (x::wE f xs (k - 1))
structure bQ where
 F:Fr
 inr:Bool
abbrev eS:=AV→List AV→St→Option (AV×St)
abbrev XF:=eS→Fr→St→Option (AV×St)
def jS(p:AV)(n:Nat)(cs:List AV)(S:St):Option (AV×St):=
 match p with
 | .ptr b off=>bN (Nat.beq (jH cs) n) (aX (oU S b off cs) fun S'=>some (.undef,S')) none
 | _=>none
def xSt(n:Nat)(x v:cL):XF:=fun _ F S=>aX (v.val F).cells fun cs=>jS (x.val F) n cs S
def aQG(f:cL)(args:List cL):XF:=fun call F S=>call (f.val F) (dC args F) S
def aE8(v:AV)(f:Nat)(agg:Bool)(n:Nat)(args:List AV)(call:eS)(S:St):Option (AV×St):=
 match v with
 | .ptr b off=>aX (oM agg n S.h b off) fun r=>call (.fn f [r] []) args S
 | _=>none
def aIp(r:Nat×Option (Bool×Nat))(v:AV)(args:List AV)(call:eS)(S:St):Option (AV×St):=
 match r with
 | (f,none)=>call (.fn f [v] []) args S
 | (f,some (agg,n))=>aE8 v f agg n args call S
def aFp(v:AV)(tbl:List (Nat×Nat×Option (Bool×Nat)))(args:List AV)(call:eS)(S:St):Option (AV×St):=
 match v with
 | .iface t v=>aX (vY t tbl) fun r=>aIp r v args call S
 | _=>none
def aRg(tbl:List (Nat×Nat×Option (Bool×Nat)))(recv:cL)(args:List cL):XF:=fun call F S=>aFp (recv.val F) tbl (dC args F) call S
def aRN(_ size bytes:Nat)(s x:cL):XF:=fun _ F S=>gS bytes size (s.val F) (x.val F) S
def copyV(d:AV)(size m:Nat)(s:AV)(S:St):Option (AV×St):=
 match d with
 | .nilsl=>some (.int .i64 (.ofNat 0),S)
 | .emp=>some (.int .i64 (.ofNat 0),S)
 | .sl b off len _ _=>
  let n:=bN (Nat.ble m len) m len
  bN (Nat.beq n 0) (some (.int .i64 (.ofNat 0),S)) (aX (eF s S.h size n) fun cs=>aX (oU S b off cs) fun S'=>some (.int .i64 (.ofNat n),S'))
 | _=>none
def aAX(v:AV):Option Nat:=
 match v with
 | .sl _ _ n _ _=>some n
 | .nilsl=>some 0
 | .emp=>some 0
 | _=>none
def aP4(size:Nat)(d s:cL):XF:=fun _ F S=>aX (aAX (s.val F)) fun m=>copyV (d.val F) size m (s.val F) S
def aBj(r:Option (Nat×AV))(es:List (AV×AV))(k v:AV):List (AV×AV):=
 match r with
 | some (i,_)=>wE (fun _=>(k,v)) es i
 | none=>vT es [(k,v)]
def tO(m:AV)(sk:oR)(k v:AV)(S:St):Option (AV×St):=
 match m with
 | .map b=>aX (aX (S.h.get b) rT) fun es=>aX (oN sk k es) fun r=>some (.undef,⟨S.h.set b (some (.map (aBj r es k v))),S.nx⟩)
 | _=>none
def aNJ(sk:oR)(m k v:cL):XF:=fun _ F S=>tO (m.val F) sk (k.val F) (v.val F) S
def aNL(r:Option (Nat×AV))(es:List (AV×AV))(b:Nat)(S:St):Option (AV×St):=
 match r with
 | some (i,_)=>some (.undef,⟨S.h.set b (some (.map (es.eraseIdx i))),S.nx⟩)
 | none=>some (.undef,S)
def aFi(m:AV)(sk:oR)(k:AV)(S:St):Option (AV×St):=
 match m with
 | .map b=>aX (aX (S.h.get b) rT) fun es=>aX (oN sk k es) fun r=>aNL r es b S
 | .nilmap=>some (.undef,S)
 | _=>none
def aN5(sk:oR)(m k:cL):XF:=fun _ F S=>aFi (m.val F) sk (k.val F) S
def aLX(x:AV)(zero:List AV)(S:St):Option (AV×St):=
 match x with
 | .nilsl=>some (.undef,S)
 | .emp=>some (.undef,S)
 | .sl b off n _ _=>bN (Nat.beq n 0) (some (.undef,S)) (aX (oU S b off (repeatL zero n)) fun S'=>some (.undef,S'))
 | _=>none
def aQ7(zero:List AV)(x:cL):XF:=fun _ F S=>aLX (x.val F) zero S
def aL0(a b c:Nat):AV:=
 .tup [.int .u64 (.ofNat (Nat.mod (Nat.add (Nat.add a b) c) 18446744073709551616)),.int .u64 (.ofNat (Nat.div (Nat.add (Nat.add a b) c) 18446744073709551616))]
def tL(c:Nat):List Nat→Nat→Int
 | [],_=>.negSucc 0
 | b::bs,i=>bN (Nat.beq b c) (.ofNat i) (tL c bs (Nat.succ i))
def aHH(k:aH6)(args:List AV):Option AV:=
 match k,args with
 | .add64,[.int .u64 (.ofNat a),.int .u64 (.ofNat b),.int .u64 (.ofNat c)]=>bN (Nat.ble c 1) (some (aL0 a b c)) none
 | .idxByte,[.str s,.int .u8 (.ofNat c)]=>bN (Nat.ble c 255) (some (.int .i64 (tL c s 0))) none
 | _,_=>none
def aQ9(k:aH6)(args:List cL):XF:=fun _ F S=>aX (aHH k (dC args F)) fun v=>some (v,S)
def aRK:XF:=fun _ _ _=>none
def zY(x:XOp):XF:=XOp.rec (motive:=fun _=>XF) xSt aQG aRg aRN aP4 aNJ aN5 aQ7 aQ9 aRK x
def isB(v:AV)(w:Bool):Bool:=
 match v with
 | .bool b=>aLm b w
 | _=>false
def cI(d:Option Nat):Fr→AV→Fr:=Option.rec (motive:=fun _=>Fr→AV→Fr) (fun F _=>F) (fun i F v=>F.set i (some v)) d
def eK(g:Option (Nat×Bool)):Fr→Bool:=Option.rec (motive:=fun _=>Fr→Bool) (fun _=>true) (fun p F=>isB (aD p.1 F) p.2) g
abbrev OF:=Option Nat→eS→Fr→St→Option (Fr×St)
def oQ(q:zZ):OF:=fun d _ F S=>aX (iG q F S.h) fun v=>some (cI d F v,S)
def oA(a:vL):OF:=fun d _ F S=>aX (tH a F S.nx) fun r=>some (cI d F r.1,⟨S.h.set S.nx (some r.2),Nat.succ S.nx⟩)
def oX(x:XOp):OF:=fun d call F S=>aX (zY x call F S) fun r=>some (cI d F r.1,r.2)
def oOp(o:AOp):OF:=AOp.rec (motive:=fun _=>OF) oQ oA oX o
def aCL(o:AO)(call:eS)(F:Fr)(S:St):Option (Fr×St):=
 bN (eK o.grd F) (oOp o.op o.dst call F S) (some (cI o.dst F .undef,S))
def vG(l:List AO):eS→Fr→St→Option (Fr×St):=
 List.rec (motive:=fun _=>eS→Fr→St→Option (Fr×St)) (fun _ F S=>some (F,S)) (fun o _ ih call F S=>aX (aCL o call F S) fun r=>ih call r.1 r.2) l
structure iJ where
 i:Nat
 id:Nat
 b:AB
def cF(mask:Nat):List iJ→T AB→List iJ×T AB
 | [],h=>([],h)
 | p::ps,h=>bN (Nat.testBit mask p.i) (cF mask ps (h.set p.id (some p.b))) (p::(cF mask ps h).1,(cF mask ps h).2)
structure jY where
 q:zZ
 F:Fr
 v:AV
 i:Nat
 mask:Nat
def dE(q:zZ):Bool:=
 match q with
 | .ld .. | .lookup .. | .lenMap .. =>true
 | .conv .bytesToStr _=>true
 | _=>false
structure DS where
 F:Fr
 S:St
 ps:List iJ
 hs:List (Nat×Nat×T AB)
 ls:List jY
abbrev DF:=AO→Nat→Nat→eS→DS→Option DS
def dQ(q:zZ):DF:=fun o i _ _ D=>aX (iG q D.F D.S.h) fun v=>
 some ⟨cI o.dst D.F v,D.S,D.ps,D.hs,bN (dE q) (⟨q,D.F,v,i,o.mask⟩::D.ls) D.ls⟩
def dA(a:vL):DF:=fun o i base _ D=>aX (tH a D.F (base+i)) fun r=>
 some ⟨cI o.dst D.F r.1,D.S,⟨i,base+i,r.2⟩::D.ps,D.hs,D.ls⟩
def iR(hs:List (Nat×Nat×T AB))(mask:Nat):Bool:=
 match hs with
 | []=>true
 | e::_=>Nat.testBit mask e.1
def dX(x:XOp):DF:=fun o i _ call D=>
 bN (iR D.hs o.mask) (aX (zY x call D.F ⟨(cF o.mask D.ps D.S.h).2,D.S.nx⟩) fun r=>
  some ⟨cI o.dst D.F r.1,r.2,(cF o.mask D.ps D.S.h).1,(i,o.mask,r.2.h)::D.hs,D.ls⟩) none
def dOp(o:AOp):DF:=AOp.rec (motive:=fun _=>DF) dQ dA dX o
def qV(o:AO)(i base:Nat)(call:eS)(D:DS):Option DS:=
 bN (eK o.grd D.F) (dOp o.op o i base call D) (some ⟨cI o.dst D.F .undef,D.S,D.ps,D.hs,D.ls⟩)
def vI:List AO→Nat→Nat→eS→DS→Option DS
 | [],_,_,_,D=>some D
 | o::os,i,base,call,D=>aX (qV o i base call D) fun D'=>vI os (i+1) base call D'
mutual
def cJ:AV→AV→Bool
 | .bool a,.bool b=>aLm a b
 | .int k a,.int j b=>bN (keq k j) (ieq a b) false
 | .str a,.str b=>lA a b
 | .ptr a b,.ptr c d=>bN (Nat.beq a c) (Nat.beq b d) false
 | .nilp,.nilp=>true
 | .sl a b c d e,.sl a' b' c' d' e'=>Nat.beq a a' && Nat.beq b b' && Nat.beq c c' && Nat.beq d d' && aLm e e'
 | .nilsl,.nilsl=>true
 | .emp,.emp=>true
 | .map a,.map b=>Nat.beq a b
 | .nilmap,.nilmap=>true
 | .fn f a b,.fn g c d=>Nat.beq f g && mK a c && mK b d
 | .nilfn,.nilfn=>true
 | .yld a,.yld b=>Nat.beq a b
 | .iface t v,.iface u w=>Nat.beq t u && cJ v w
 | .niliface,.niliface=>true
 | .agg a,.agg b=>mK a b
 | .tup a,.tup b=>mK a b
 | _,_=>false
def mK:List AV→List AV→Bool
 | [],[]=>true
 | a::x,b::y=>bN (cJ a b) (mK x y) false
 | _,_=>false
end
def nM(v:AV)(r:Option AV):Bool:=
 match r with
 | some w=>cJ w v
 | none=>false
def fY(l:jY):List (Nat×Nat×T AB)→T AB→Bool
 | [],h=>nM l.v (iG l.q l.F h)
 | (i,m,h')::r,h=>
  bN (Nat.testBit l.mask i) (fY l r h')
   (bN (nM l.v (iG l.q l.F h)) (bN (Nat.testBit m l.i) true (fY l r h')) false)
def fI(h0:T AB)(hs:List (Nat×Nat×T AB)):List jY→Bool
 | []=>true
 | l::ls=>bN (fY l hs h0) (fI h0 hs ls) false
def aAd(h0:T AB)(n:Nat)(D:DS):Option (Fr×St):=
 bN (fI h0 D.hs.reverse D.ls) (some (D.F,⟨(cF (2 ^ n - 1) D.ps D.S.h).2,D.S.nx⟩)) none
def xX(ops:List AO)(call:eS)(F:Fr)(S:St):Option (Fr×St):=
 aX (vI ops 0 S.nx call ⟨F,⟨S.h,S.nx+jH ops⟩,[],[],[]⟩) fun D=>aAd S.h (jH ops) D
structure Evs where
 code:AC→bQ→St→Option (Out×bQ×St)
 call:eS
abbrev CF:=Evs→bQ→St→Option (Out×bQ×St)
def nG:List Nat→List AV→Fr→Option Fr
 | [],[],F=>some F
 | p::ps,v::vs,F=>nG ps vs (F.set p (some v))
 | _,_,_=>none
def rR:List AV→Nat→Fr→Fr
 | [],_,F=>F
 | v::vs,i,F=>rR vs (i+1) (F.set i (some v))
def aNI(o:Option Out):Option AC:=
 match o with
 | none=>some .skip
 | some .ret=>some .ret
 | some (.exit id)=>some (.exit id)
 | some .normal=>none
def aQx:CF:=fun _ A S=>some (.normal,A,S)
def tD(b:AC)(ih:Evs)(r:Out×bQ×St):Option (Out×bQ×St):=
 match r.1 with
 | .normal=>ih.code b r.2.1 r.2.2
 | _=>some r
def aRz(a b:AC):CF:=fun ih A S=>aX (ih.code a A S) (tD b ih)
def aCf(v:AV)(a b:AC):CF:=fun ih A S=>
 match v with
 | .bool t=>ih.code (bN t a b) A S
 | _=>none
def aQR(c:cL)(a b:AC):CF:=fun ih A S=>aCf (c.val A.F) a b ih A S
def rS(id:Nat)(r:Out×bQ×St):Option (Out×bQ×St):=
 match r.1 with
 | .exit i=>bN (Nat.beq i id) (some (.normal,r.2)) (some r)
 | _=>some r
def aPi(id:Nat)(c:AC):CF:=fun ih A S=>aX (ih.code c A S) (rS id)
def aQO(c:AC):CF:=fun ih A S=>aX (ih.code c A S) (tD (.loop c) ih)
def aQB(id:Nat):CF:=fun _ A S=>some (.exit id,A,S)
def aRt:CF:=fun _ A S=>some (.ret,A,S)
def aQZ(ops:List AO):CF:=fun ih A S=>aX (vG ops ih.call A.F S) fun r=>some (.normal,⟨r.1,A.inr⟩,r.2)
def aRG(_:List AO)(_:cL)(_:List cL):CF:=fun _ _ _=>none
def aRq(ops:List AO):CF:=fun ih A S=>aX (xX ops ih.call A.F S) fun r=>some (.normal,⟨r.1,A.inr⟩,r.2)
def aA6(bl:AB)(l:Nat)(A:bQ)(S2:St)(ih:Evs):Option (Out×bQ×St):=
 match bl with
 | .loop st pend fr ps as bd=>
  match st with
  | .busy=>none
  | _=>aX (aNI pend) fun c=>ih.code c A ⟨S2.h.set l (some (.loop .exhausted pend fr ps as bd)),S2.nx⟩
 | _=>none
def aLa(v:AV):Bool:=
 match v with
 | .fn .. =>true
 | _=>false
def aOo(f:cL)(params:List Nat)(assign body:AC):CF:=fun ih A S=>
 bN A.inr none (bN (aLa (f.val A.F))
  (aX (ih.call (f.val A.F) [.yld S.nx] ⟨S.h.set S.nx (some (.loop .ready none A.F params assign body)),Nat.succ S.nx⟩) fun r=>
   aX (r.2.h.get S.nx) fun bl=>aA6 bl S.nx A r.2 ih) none)
def aIt(c:AC):CF:=
 AC.rec (motive:=fun _=>CF) aQx (fun a b _ _=>aRz a b) (fun c a b _ _=>aQR c a b) (fun id c _=>aPi id c) (fun c _=>aQO c) aQB aRt aQZ aRq (fun f ps as bd _ _=>aOo f ps as bd) aRG c
def aPX(v:AV)(agg:Bool)(n:Nat)(h:T AB):Option AV:=
 match v with
 | .ptr b off=>oM agg n h b off
 | _=>none
def results:List RV→Fr→T AB→Option (List AV)
 | [],_,_=>some []
 | .t i::rs,F,h=>aX (results rs F h) fun vs=>some (aD i F::vs)
 | .cell a agg n::rs,F,h=>aX (aPX (aD a F) agg n h) fun v=>aX (results rs F h) fun vs=>some (v::vs)
def oneOf(vs:List AV):AV:=
 match vs with
 | [v]=>v
 | vs=>.tup vs
def aFa(fn:cW)(r:Out×bQ×St):Option (AV×St):=
 match r.1 with
 | .exit _=>none
 | _=>aX (results fn.res r.2.1.F r.2.2.h) fun vs=>some (oneOf vs,r.2.2)
def vM(fn:cW)(args:List AV)(ih:Evs)(S:St):Option (AV×St):=
 bN (Nat.ble (jH args) fn.ntmps) (aX (ih.code fn.body ⟨rR args 0 .e,false⟩ S) (aFa fn)) none
def tG(bl:AB)(o:Out)(l:Nat)(S2:St):Option (AV×St):=
 match bl with
 | .loop .busy _ fr ps as bd=>
  match o with
  | .normal=>some (.bool true,⟨S2.h.set l (some (.loop .ready none fr ps as bd)),S2.nx⟩)
  | o=>some (.bool false,⟨S2.h.set l (some (.loop .done (some o) fr ps as bd)),S2.nx⟩)
 | _=>none
def aJz(l:Nat)(bd:AC)(ih:Evs)(A:bQ)(S:St):Option (AV×St):=
 aX (ih.code bd A S) fun r=>aX (r.2.2.h.get l) fun bl=>tG bl r.1 l r.2.2
def rF(bl:AB)(l:Nat)(bd:AC)(ih:Evs)(A:bQ)(S1:St):Option (AV×St):=
 match bl with
 | .loop .ready pend fr ps as bd'=>aJz l bd ih A ⟨S1.h.set l (some (.loop .busy pend fr ps as bd')),S1.nx⟩
 | _=>none
def aCv(l:Nat)(bd:AC)(ih:Evs)(r:Out×bQ×St):Option (AV×St):=
 match r.1 with
 | .normal=>aX (r.2.2.h.get l) fun bl=>rF bl l bd ih r.2.1 r.2.2
 | _=>none
def zU(bl:AB)(l:Nat)(args:List AV)(ih:Evs)(S:St):Option (AV×St):=
 match bl with
 | .loop .ready _ fr ps as bd=>aX (nG ps args fr) fun F=>aX (ih.code as ⟨F,true⟩ S) (aCv l bd ih)
 | _=>none
def wY(fns:T cW)(ih:Evs)(f:AV)(args:List AV)(S:St):Option (AV×St):=
 match f with
 | .fn id first cap=>aX (fns.get id) fun fn=>vM fn (vT first (vT args cap)) ih S
 | .yld l=>aX (S.h.get l) fun bl=>zU bl l args ih S
 | _=>none
def aPB(_:AC)(_:bQ)(_:St):Option (Out×bQ×St):=none
def aPw(_:AV)(_:List AV)(_:St):Option (AV×St):=none
def ev(fns:T cW)(n:Nat):Evs:=
 Nat.rec (motive:=fun _=>Evs) ⟨aPB,aPw⟩ (fun _ ih=>⟨fun c=>aIt c ih,wY fns ih⟩) n
end
end Go.Ev
namespace Go.Ev
noncomputable section
def aLO(v:Value):Bool:=
 match v with
 | .agg _=>false
 | .tuple _=>false
 | _=>true
mutual
def ofValue:Value→Option AV
 | .bool b=>some (.bool b)
 | .int k n=>some (.int k n)
 | .string s=>some (.str (s.data.toList.map UInt8.toNat))
 | .pointer none=>some .nilp
 | .slice none 0 0=>some .nilsl
 | .map none=>some .nilmap
 | .nilFunc=>some .nilfn
 | .nilIface=>some .niliface
 | .func (.func f) ⟨a⟩ ⟨b⟩=>match ofValues a,ofValues b with
  | some a,some b=>some (.fn f a b)
  | _,_=>none
 | .iface t v=>(ofValue v).map (.iface t)
 | .agg ⟨cs⟩=>bif cs.all aLO then(ofValues cs).map .agg else none
 | .tuple ⟨cs⟩=>(ofValues cs).map .tup
 | _=>none
def ofValues:List Value→Option (List AV)
 | []=>some []
 | v::vs=>match ofValue v,ofValues vs with
  | some a,some as=>some (a::as)
  | _,_=>none
end
variable (P:Program)
def eT:Operand→Option cL
 | .tmp t=>some (.t t)
 | .const v=>(ofValue v).map .c
 | .global g=>bif Nat.blt g P.globals.size then some (.c (.ptr g 0)) else none
 | .func f=>some (.c (.fn f [] []))
def wZ:List Operand→Option (List cL)
 | []=>some []
 | x::xs=>match eT P x,wZ xs with
  | some a,some as=>some (a::as)
  | _,_=>none
def kK:Option Operand→Option (Option cL)
 | none=>some none
 | some x=>(eT P x).map some
def aAj(t:TypeId):Option (Bool×Nat):=
 match P.underlying t,P.info? t with
 | some (.struct _),some i=>some (true,i.size)
 | some (.array _ _),some i=>some (true,i.size)
 | some _,some i=>some (false,i.size)
 | _,_=>none
def aD4(t:TypeId):Option AV:=
 match P.info? t with
 | some i=>match i.zero with
  | some v=>ofValue v
  | none=>none
 | none=>none
def eqP(t:TypeId):EqP:=
 match P.underlying t with
 | some .bool=>.bool
 | some (.int _)=>.int
 | some .string=>.str
 | some (.pointer _)=>.ptr
 | some (.slice _)=>.slice
 | some (.map _ _)=>.map
 | some (.func ..)=>.func
 | some (.interface _)=>.iface
 | _=>.no
def eqFields:List Field→List (Nat×EqP)
 | []=>[]
 | f::fs=>bif f.name== "_" then eqFields fs else(f.offset,eqP P f.type)::eqFields fs
def eqT(t:TypeId):oR:=
 match P.underlying t with
 | some (.struct fs)=>bif P.stoodInHeld t || P.eqGuardType P.depth t then .p .no else .struct (eqFields P fs.toList)
 | some (.array n e)=>bif P.eqGuardType P.depth t || n>64 || P.cellsOf e !=1 then .p .no else .struct ((List.range n).map fun i=>(i,eqP P e))
 | _=>.p (eqP P t)
def wK(place:Nat→Option (Nat×Nat)):List (Nat×Operand)→Option (List (Nat×Nat×cL))
 | []=>some []
 | (i,x)::ps=>match place i,eT P x,wK place ps with
  | some (off,n),some x,some ps=>some ((off,n,x)::ps)
  | _,_,_=>none
def placeOf(fs:Array Field)(i:Nat):Option (Nat×Nat):=
 match fs[i]? with
 | some f=>match P.info? f.type with
  | some s=>some (f.offset,s.size)
  | none=>none
 | none=>none
def oJ:List Field→Bool
 | []=>true
 | f::fs=>(P.info? f.type).isSome && oJ fs
def xW:List (Nat×Operand)→Option (List (Nat×cL))
 | []=>some []
 | (i,x)::ps=>match eT P x,xW ps with
  | some x,some ps=>some ((i,x)::ps)
  | _,_=>none
def kN(t:TypeId):Option (TypeId×TypeInfo):=
 match P.underlying t with
 | some (.slice e)=>(P.info? e).map fun i=>(e,i)
 | _=>none
def iW(t:TypeId):Option (List AV):=(aD4 P t).bind AV.cells
def jI(e:TypeId)(i:TypeInfo):Option (List AV):=
 match iW P e with
 | some z=>bif Nat.beq z.length i.size then some z else none
 | none=>none
def aNH(u:TypeId)(i:TypeInfo):Bool:=
 match P.underlying u with
 | some (.slice _)=>true
 | some .string=>Nat.beq i.size 1
 | _=>false
def oB(name:String)(t:TypeId)(i:TypeInfo):Option (Nat×Nat×Option (Bool×Nat)):=
 match i.methods.find? (·.name==name) with
 | some m=>bif !m.path.isEmpty then none else match m.func with
  | none=>none
  | some (f,ptr)=>match P.underlying t,ptr with
   | some (.pointer _),true=>some (t,f,none)
   | some (.pointer e),false=>(aAj P e).map fun a=>(t,f,some a)
   | some (.interface _),_=>none
   | some _,false=>some (t,f,none)
   | _,_=>none
 | none=>none
def gF(name:String):List TypeInfo→Nat→List (Nat×Nat×Option (Bool×Nat))
 | [],_=>[]
 | i::is,t=>match oB P name t i with
  | some r=>r::gF name is (t+1)
  | none=>gF name is (t+1)
def plainKey:EqP→Bool
 | .int | .str | .bool=>true
 | _=>false
def aBi:Nat→List (Nat×EqP)→Bool
 | _,[]=>true
 | i,(o,e)::l=>Nat.beq o i && (plainKey e && aBi (i+1) l)
def aBn(t:TypeId):Option oR:=
 match P.underlying t with
 | some .string=>some (.p .str)
 | some (.int _)=>some (.p .int)
 | some (.struct fs)=>match eqT P t with
  | .struct l=>bif fs.all (fun f=>plainKey (eqP P f.type)) && aBi 0 l then some (.struct l) else none
  | _=>none
 | some (.array _ e)=>match eqT P t with
  | .struct l=>bif plainKey (eqP P e) && aBi 0 l then some (.struct l) else none
  | _=>none
 | _=>none
def aIE(s:String):Option aH6:=
 bif s== "math/bits.Add64" then some .add64
 else bif s== "internal/bytealg.IndexByteString" then some .idxByte
 else none
def aIR(f:Operand):Option aH6:=
 match f with
 | .func f=>match P.funcs[f]? with
  | some fn=>bif fn.body.isNone && (Extern.allNextRows.lookup fn.origin).isNone then aIE fn.name else none
  | none=>none
 | _=>none
def q(o:Option zZ):Option AOp:=o.map .q
def al(o:Option vL):Option AOp:=o.map .a
def xx(o:Option XOp):Option AOp:=o.map .x
def aLV(b:Builtin)(as:List Operand)(ts:List TypeId):Option AOp:=
 match b with
 | .copy=>match as,ts with
  | [d,s],[t,_]=>match kN P t with
   | some (_,i)=>xx do some (.copy i.size (←eT P d) (←eT P s))
   | none=>none
  | _,_=>none
 | _=>none
def pI(o:Op):Option AOp:=
 match o with
 | .move x | .assign x=>q do some (.mv (←eT P x))
 | .pick c a b=>q do some (.pick (←eT P c) (←eT P a) (←eT P b))
 | .alloc t=>al do some (.alloc t (←iW P t))
 | .box t x=>al do some (.box t (←eT P x))
 | .build t ps=>
  match P.underlying t with
  | some (.struct fs)=>bif oJ P fs.toList then q do some (.build (←iW P t) (←wK P (placeOf P fs) ps.toList)) else none
  | some (.array _ e)=>q do let s ←P.info? e;some (.build (←iW P t) (←wK P (fun i=>some (i * s.size,s.size)) ps.toList))
  | _=>none
 | .buildSlice t len ps=>al do
  let (e,i) ←kN P t
  if len * i.size>65536 then none
  some (.bslice e i.size len (←jI P e i) (←xW P ps.toList))
 | .load t a=>q do let (agg,n) ←aAj P t;some (.ld agg n (←eT P a))
 | .store t a v=>xx do let (_,n) ←aAj P t;some (.st n (←eT P a) (←eT P v))
 | .nilCheck x=>q do some (.nilchk (←eT P x))
 | .binOp op t x y _=>q do some (.bin op (eqT P t) (←eT P x) (←eT P y))
 | .unOp op _ x=>q do some (.un op (←eT P x))
 | .convert src dst x=>
  match P.underlying src,P.underlying dst with
  | some (.int _),some (.int k)=>q do some (.conv (.int k) (←eT P x))
  | some .string,some .string=>q do some (.conv .same (←eT P x))
  | some (.int _),some .string=>q do some (.conv .intToStr (←eT P x))
  | some (.slice e),some .string=>match P.underlying e with
   | some (.int .u8)=>q do some (.conv .bytesToStr (←eT P x))
   | _=>none
  | some .string,some (.slice e)=>match P.underlying e with
   | some (.int .u8)=>al do some (.strBytes e (←eT P x))
   | _=>none
  | _,_=>none
 | .makeInterface t x=>match P.underlying t with
  | some (.interface _)=>none
  | some _=>q do some (.mkIface t (←eT P x))
  | none=>none
 | .makeFunc (.method name) a b=>match a.toList,b.toList with
  | [x],[]=>q do some (.mkMeth name (gF P name P.types.toList 0) (←eT P x))
  | _,_=>none
 | .makeFunc (.func f) a b=>q do some (.mkFunc f (←wZ P a.toList) (←wZ P b.toList))
 | .makeMap _ none=>al (some .mkMap)
 | .makeSlice t l c=>al do let (e,i) ←kN P t;some (.mkSlice e i.size i.bytes (←jI P e i) (←eT P l) (←eT P c))
 | .slice t x lo hi mx=>bif mx.isSome && hi.isNone then none else
  match P.underlying t with
  | some .string=>q do some (.slc .str (←eT P x) (←kK P lo) (←kK P hi) (←kK P mx))
  | some (.slice e)=>q do let i ←P.info? e;some (.slc (.slice i.size) (←eT P x) (←kK P lo) (←kK P hi) (←kK P mx))
  | some (.array n e)=>q do let i ←P.info? e;some (.slc (.arr n i.size) (←eT P x) (←kK P lo) (←kK P hi) (←kK P mx))
  | _=>none
 | .fieldAddr t x f=>match P.underlying t with
  | some (.struct fs)=>q do
   let f ←fs[f]?
   let i ←P.info? f.type
   if i.size=0 then none
   some (.faddr f.offset (←eT P x))
  | _=>none
 | .field t x f=>match P.underlying t with
  | some (.struct fs)=>q do
   let f ←fs[f]?
   let (agg,n) ←aAj P f.type
   some (.fld agg f.offset n (←eT P x))
  | _=>none
 | .indexAddr t x ix=>match P.underlying t with
  | some (.slice e)=>q do let i ←P.info? e;some (.iaddr (.slice i.size) (←eT P x) (←eT P ix))
  | some (.array n e)=>q do let i ←P.info? e;some (.iaddr (.arr n i.size) (←eT P x) (←eT P ix))
  | _=>none
 | .index t x ix=>match P.underlying t with
  | some .string=>q do some (.idxStr (←eT P x) (←eT P ix))
  | some (.array n e)=>q do let (agg,s) ←aAj P e;some (.idxArr agg n s (←eT P x) (←eT P ix))
  | _=>none
 | .lookup t m k ok=>match P.underlying t with
  | some (.map kt et)=>q do some (.lookup (←aBn P kt) (←aD4 P et) ok (←eT P m) (←eT P k))
  | _=>none
 | .mapUpdate t m k v | .insert t m k v=>match P.underlying t with
  | some (.map kt _)=>xx do some (.mapUpd (←aBn P kt) (←eT P m) (←eT P k) (←eT P v))
  | _=>none
 | .typeAssert x _ t ok=>match P.underlying t with
  | some (.interface _)=>none
  | some _=>q do some (.tassert t (←aD4 P t) ok (←eT P x))
  | none=>none
 | .extract x i=>q do some (.extract (←eT P x) i)
 | .call {callee:=.value f,args,.. }=>match aIR P f with
  | some k=>xx do some (.ext k (←wZ P args.toList))
  | none=>xx do some (.call (←eT P f) (←wZ P args.toList))
 | .call {callee:=.invoke r name,args,.. }=>xx do some (.inv (gF P name P.types.toList 0) (←eT P r) (←wZ P args.toList))
 | .call {callee:=.builtin b,args,argTypes}=>
  match b,args.toList,argTypes.toList with
  | .len,[x],[t]=>match P.underlying t with
   | some .string=>q do some (.lenStr (←eT P x))
   | some (.slice _)=>q do some (.lenSl (←eT P x))
   | some (.array n _)=>q (some (.lenArr n))
   | some (.map _ _)=>q do some (.lenMap (←eT P x))
   | _=>none
  | .cap,[x],[t]=>match P.underlying t with
   | some (.slice _)=>q do some (.capSl (←eT P x))
   | _=>none
  | .max,xs,_=>q do some (.minmax true (←wZ P xs))
  | .min,xs,_=>q do some (.minmax false (←wZ P xs))
  | .append,[s,x],[t,u]=>match kN P t with
   | some (e,i)=>bif aNH P u i && (jI P e i).isSome then xx do some (.app e i.size i.bytes (←eT P s) (←eT P x)) else none
   | none=>none
  | .clear,[x],[t]=>match kN P t with
   | some (e,i)=>xx do some (.clr (←jI P e i) (←eT P x))
   | none=>none
  | b,as,ts=>aLV P b as ts
 | _=>none
def aBC(ops:Array Oper):Option (Nat×Bool)→Option (Option (Nat×Bool))
 | none=>some none
 | some (j,w)=>match (ops[j]?).bind (·.dst) with
  | some d=>some (some (d,w))
  | none=>none
def yE(nt:Nat):Option Tmp→Bool
 | some d=>Nat.blt d nt
 | none=>true
def aJw(nt:Nat)(ops:Array Oper)(o:Oper)(mask:Nat):Option AO:=
 bif yE nt o.dst then
  match aBC ops o.guard with
  | some g=>match pI P o.op with
   | some op=>some ⟨o.dst,op,g,mask⟩
   | none=>some ⟨o.dst,.x .bad,g,mask⟩
  | none=>none
 else none
def tW(nt:Nat)(ops:Array Oper):List Oper→List Nat→Option (List AO)
 | [],_=>some []
 | o::os,ms=>match aJw P nt ops o (ms.headD 0),tW nt ops os ms.tail with
  | some a,some as=>some (a::as)
  | _,_=>none
def cL.rd(x:cL):List Nat:=
 match x with
 | .t i=>[i]
 | .c _=>[]
def rds:List cL→List Nat
 | []=>[]
 | x::xs=>x.rd++rds xs
def rdo(x:Option cL):List Nat:=
 match x with
 | some x=>x.rd
 | none=>[]
def rdp:List (Nat×Nat×cL)→List Nat
 | []=>[]
 | (_,_,x)::ps=>x.rd++rdp ps
def aPD:List (Nat×cL)→List Nat
 | []=>[]
 | (_,x)::ps=>x.rd++aPD ps
def zZ.rd(o:zZ):List Nat:=
 match o with
 | .mv x | .ld _ _ x | .nilchk x | .un _ x | .conv _ x | .mkIface _ x | .faddr _ x | .fld _ _ _ x | .tassert _ _ _ x | .extract x _ | .lenStr x | .lenSl x | .lenMap x | .capSl x | .mkMeth _ _ x=>x.rd
 | .pick c a b=>c.rd++(a.rd++b.rd)
 | .build _ ps=>rdp ps
 | .bin _ _ x y | .iaddr _ x y | .idxArr _ _ _ x y | .idxStr x y | .lookup _ _ _ x y=>x.rd++y.rd
 | .mkFunc _ a b=>rds a++rds b
 | .slc _ x lo hi mx=>x.rd++(rdo lo++(rdo hi++rdo mx))
 | .lenArr _=>[]
 | .minmax _ xs=>rds xs
def vL.rd(o:vL):List Nat:=
 match o with
 | .alloc _ _ | .mkMap=>[]
 | .box _ x | .strBytes _ x=>x.rd
 | .bslice _ _ _ _ ps=>aPD ps
 | .mkSlice _ _ _ _ l c=>l.rd++c.rd
def XOp.rd(o:XOp):List Nat:=
 match o with
 | .st _ x v=>x.rd++v.rd
 | .call f args | .inv _ f args=>f.rd++rds args
 | .app _ _ _ s x | .copy _ s x | .mapDel _ s x=>s.rd++x.rd
 | .mapUpd _ m k v=>m.rd++(k.rd++v.rd)
 | .clr _ x=>x.rd
 | .ext _ args=>rds args
 | .bad=>[]
def AOp.rd(o:AOp):List Nat:=
 match o with
 | .q o=>o.rd
 | .a o=>o.rd
 | .x o=>o.rd
def AO.touch(o:AO):List Nat:=o.dst.toList++((o.grd.map (·.1)).toList++o.op.rd)
def inL(t:Nat):List Nat→Bool
 | []=>false
 | u::l=>bif Nat.beq t u then true else inL t l
def meets(d:Option Nat)(b:List Nat):Bool:=
 match d with
 | some d=>inL d b
 | none=>false
def aFT(i:Nat)(d:Option Nat)(tch:List Nat):List AO→Bool
 | []=>true
 | b::l=>(bif meets d b.touch || meets b.dst tch then Nat.testBit b.mask i else true) && aFT i d tch l
def aJf:Nat→List AO→Bool
 | _,[]=>true
 | i,a::l=>aFT i a.dst a.touch l && aJf (i+1) l
def aQp(l:List AO):Bool:=aJf 0 l
def aCy:Nat→List Oper→Bool
 | _,[]=>true
 | i,o::l=>o.after.all (fun e=> !Region.binds .any e || Nat.blt e.on i) && aCy (i+1) l
def aFI(nt:Nat)(ops:Array Oper):Option AC:=
 match tW P nt ops ops.toList (CheckFast.beforeL ops.toList 0 []) with
 | some aos=>bif aCy 0 ops.toList && aQp aos then some (.drw aos) else none
 | none=>none
def jX(nt:Nat):Code→Option AC
 | .skip=>some .skip
 | .seq a b=>match jX nt a,jX nt b with
  | some a,some b=>some (.seq a b)
  | _,_=>none
 | .cond c a b=>match eT P c,jX nt a,jX nt b with
  | some c,some a,some b=>some (.cond c a b)
  | _,_,_=>none
 | .block id c=>(jX nt c).map (.block id)
 | .loop c=>(jX nt c).map .loop
 | .exit id=>some (.exit id)
 | .ret=>some .ret
 | .region _ ops d=>bif d then aFI P nt ops else(tW P nt ops ops.toList []).map .reg
 | .rangeFunc f ps as bd=>bif ps.toList.all (fun p=>Nat.blt p nt) then match eT P f,jX nt as,jX nt bd with
  | some f,some as,some bd=>some (.rng f ps.toList as bd)
  | _,_,_=>none
  else none
 | _=>none
def aHv:List ResultVar→Option (List RV)
 | []=>some []
 | .tmp t::rs=>(aHv rs).map (.t t:: ·)
 | .cell a t::rs=>match aAj P t,aHv rs with
  | some (agg,n),some rs=>some (.cell a agg n::rs)
  | _,_=>none
def cFn(fn:Func):Option cW:=
 bif fn.name== "runtime.NumGoroutine" then none else
 match fn.body with
 | some c=>match jX P fn.ntmps c,aHv P fn.results.toList with
  | some c,some rs=>some ⟨fn.ntmps,rs,c⟩
  | _,_=>none
 | none=>none
end
end Go.Ev
