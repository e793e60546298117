import GoSem.Dispatch
import Derived.CheckFast
namespace Go.Ev
theorem Aa:type_of% @decide_eq_false:=@decide_eq_false
theorem Ab.{u}:type_of% @List.getElem?_eq_getElem.{u}:=@List.getElem?_eq_getElem.{u}
theorem Ac.{u}:type_of% @List.forall_mem_cons.{u}:=@List.forall_mem_cons.{u}
theorem Ad:type_of% @decide_eq_true:=@decide_eq_true
theorem Ae.{u}:type_of% @List.getD_eq_getElem?_getD.{u}:=@List.getD_eq_getElem?_getD.{u}
theorem Af.{u}:type_of% @List.getElem?_eq_some_iff.{u}:=@List.getElem?_eq_some_iff.{u}
theorem Ag:type_of% @Nat.le_refl:=@Nat.le_refl
theorem Ah:type_of% @Nat.lt_of_lt_of_le:=@Nat.lt_of_lt_of_le
theorem Ai.{u}:type_of% @List.length_append.{u}:=@List.length_append.{u}
theorem Aj:type_of% @Nat.ble_eq_true_of_le:=@Nat.ble_eq_true_of_le
theorem Ak:type_of% @Int.ofNat_eq_natCast:=@Int.ofNat_eq_natCast
theorem Al.{u}:type_of% @Option.some.injEq.{u}:=@Option.some.injEq.{u}
theorem Am.{u}:type_of% @List.length_cons.{u}:=@List.length_cons.{u}
theorem An.{u}:type_of% @List.length_singleton.{u}:=@List.length_singleton.{u}
theorem Ao:type_of% @Nat.zero_add:=@Nat.zero_add
theorem Ap:type_of% @Nat.le_trans:=@Nat.le_trans
theorem Aq.{u}:type_of% @List.mem_of_getElem?.{u}:=@List.mem_of_getElem?.{u}
theorem Ar:type_of% @Nat.le_of_ble_eq_true:=@Nat.le_of_ble_eq_true
theorem Au.{u,v}:type_of% @Option.map_eq_some_iff.{u,v}:=@Option.map_eq_some_iff.{u,v}
theorem Av.{u}:type_of% @List.getElem?_append_left.{u}:=@List.getElem?_append_left.{u}
theorem Aw.{u}:type_of% @List.getElem?_append_right.{u}:=@List.getElem?_append_right.{u}
theorem Ax:type_of% @Bool.false_eq_true:=@Bool.false_eq_true
theorem Ay:type_of% @not_false_eq_true:=@not_false_eq_true
theorem Az.{u,v}:type_of% @List.length_map.{u,v}:=@List.length_map.{u,v}
theorem Ba.{u}:type_of% @List.append_assoc.{u}:=@List.append_assoc.{u}
theorem Bb:type_of% @Nat.beq_eq:=@Nat.beq_eq
theorem Bc.{u}:type_of% @Bool.cond_eq_ite.{u}:=@Bool.cond_eq_ite.{u}
theorem Bd.{u}:type_of% @Array.getD_eq_getD_getElem?.{u}:=@Array.getD_eq_getD_getElem?.{u}
theorem Be.{u,v}:type_of% @List.getElem?_map.{u,v}:=@List.getElem?_map.{u,v}
theorem Bf.{u}:type_of% @List.mem_append.{u}:=@List.mem_append.{u}
theorem Bg.{u}:type_of% @List.length_replicate.{u}:=@List.length_replicate.{u}
theorem Bh.{u}:type_of% @List.nil_append.{u}:=@List.nil_append.{u}
theorem Bi.{u}:type_of% @List.mem_cons.{u}:=@List.mem_cons.{u}
theorem Bj.{u}:type_of% @List.take_of_length_le.{u}:=@List.take_of_length_le.{u}
theorem Bk.{u}:type_of% @List.take_succ_cons.{u}:=@List.take_succ_cons.{u}
theorem Bl.{u}:type_of% @List.cons_append.{u}:=@List.cons_append.{u}
theorem Bm.{u}:type_of% @List.length_set.{u}:=@List.length_set.{u}
theorem Bn.{u}:type_of% @List.getElem?_eq_none.{u}:=@List.getElem?_eq_none.{u}
theorem Bo.{u}:type_of% @List.length_nil.{u}:=@List.length_nil.{u}
theorem Bp:type_of% @Bool.not_true:=@Bool.not_true
theorem Bq.{u}:type_of% @List.mem_cons_of_mem.{u}:=@List.mem_cons_of_mem.{u}
theorem Br.{u}:type_of% @List.getElem_mem.{u}:=@List.getElem_mem.{u}
theorem Bs:type_of% @Nat.add_zero:=@Nat.add_zero
theorem Bt:type_of% @Nat.zero_le:=@Nat.zero_le
theorem Bu.{u}:type_of% @List.take_zero.{u}:=@List.take_zero.{u}
theorem Bv:type_of% @Bool.eq_false_iff:=@Bool.eq_false_iff
theorem Bw.{u}:type_of% @List.take_add_one.{u}:=@List.take_add_one.{u}
theorem Bx:type_of% @Bool.not_false:=@Bool.not_false
theorem Bz.{u}:type_of% @List.append_nil.{u}:=@List.append_nil.{u}
theorem Ca:type_of% @Nat.eq_zero_or_pos:=@Nat.eq_zero_or_pos
theorem Cb.{u}:type_of% @List.mem_singleton.{u}:=@List.mem_singleton.{u}
theorem Cc.{u}:type_of% @List.length_take.{u}:=@List.length_take.{u}
theorem Cd.{u}:type_of% @List.mem_cons_self.{u}:=@List.mem_cons_self.{u}
theorem Ce:type_of% @Bool.and_eq_true:=@Bool.and_eq_true
theorem Cf.{u}:type_of% @List.length_eq_zero_iff.{u}:=@List.length_eq_zero_iff.{u}
theorem Cg:type_of% @not_true_eq_false:=@not_true_eq_false
theorem Ch.{u}:type_of% @List.take_length.{u}:=@List.take_length.{u}
theorem Ci:type_of% @Nat.eq_of_beq_eq_true:=@Nat.eq_of_beq_eq_true
theorem Cj:type_of% @Int.toNat_natCast:=@Int.toNat_natCast
theorem Ck.{u,v}:type_of% @List.map_congr_left.{u,v}:=@List.map_congr_left.{u,v}
theorem Cl.{u}:type_of% @Option.some.inj.{u}:=@Option.some.inj.{u}
theorem Cm:type_of% @Nat.mul_le_mul_right:=@Nat.mul_le_mul_right
theorem Cn.{u}:type_of% @List.reverse_cons.{u}:=@List.reverse_cons.{u}
theorem Co.{u}:type_of% @List.singleton_append.{u}:=@List.singleton_append.{u}
theorem Cp:type_of% @Bool.eq_iff_iff:=@Bool.eq_iff_iff
theorem Cq.{u}:type_of% @List.length_drop.{u}:=@List.length_drop.{u}
theorem Cr.{u}:type_of% @if_false.{u}:=@if_false.{u}
theorem Ct.{u}:type_of% @List.drop_zero.{u}:=@List.drop_zero.{u}
theorem Cu:type_of% @Nat.sub_self:=@Nat.sub_self
theorem Cv:type_of% @Nat.add_assoc:=@Nat.add_assoc
theorem Cw:type_of% @Nat.lt_or_ge:=@Nat.lt_or_ge
theorem Cx.{u,v}:type_of% @List.map_cons.{u,v}:=@List.map_cons.{u,v}
theorem Cy.{u}:type_of% @Array.getElem?_toList.{u}:=@Array.getElem?_toList.{u}
theorem Cz.{u}:type_of% @List.mem_append_right.{u}:=@List.mem_append_right.{u}
theorem Da.{u}:type_of% @Ne.symm.{u}:=@Ne.symm.{u}
theorem Db.{u}:type_of% @Array.length_toList.{u}:=@Array.length_toList.{u}
theorem Dc.{u,v}:type_of% @List.map_append.{u,v}:=@List.map_append.{u,v}
theorem Dd:type_of% @Nat.le_add_right:=@Nat.le_add_right
theorem De.{u}:type_of% @List.getElem?_replicate.{u}:=@List.getElem?_replicate.{u}
theorem Dg.{u,v}:type_of% @List.flatMap_cons.{u,v}:=@List.flatMap_cons.{u,v}
theorem Dh.{u,v}:type_of% @congrArg.{u,v}:=@congrArg.{u,v}
theorem Di.{u}:type_of% @List.drop_eq_getElem_cons.{u}:=@List.drop_eq_getElem_cons.{u}
theorem Dj:type_of% @Nat.succ_mul:=@Nat.succ_mul
theorem Dk:type_of% @of_decide_eq_true:=@of_decide_eq_true
theorem Dl.{u,v}:type_of% @Option.bind_eq_some_iff.{u,v}:=@Option.bind_eq_some_iff.{u,v}
theorem Dm.{u}:type_of% @List.mem_of_mem_take.{u}:=@List.mem_of_mem_take.{u}
theorem Dn:type_of% @Nat.lt_of_le_of_lt:=@Nat.lt_of_le_of_lt
theorem Dp.{u}:type_of% @List.mem_append_left.{u}:=@List.mem_append_left.{u}
theorem Dq:type_of% @Nat.pow_le_pow_right:=@Nat.pow_le_pow_right
theorem Dr:type_of% @Int.natAbs_natCast:=@Int.natAbs_natCast
theorem Dt.{u}:type_of% @List.all_eq_true.{u}:=@List.all_eq_true.{u}
theorem Du.{u,v}:type_of% @Array.toList_map.{u,v}:=@Array.toList_map.{u,v}
theorem Dw.{u}:type_of% @List.pairwise_iff_getElem.{u}:=@List.pairwise_iff_getElem.{u}
theorem Dx:type_of% @Nat.add_mul:=@Nat.add_mul
theorem Dy:type_of% @Nat.not_lt_zero:=@Nat.not_lt_zero
theorem Dz.{u,v}:type_of% @List.mem_map.{u,v}:=@List.mem_map.{u,v}
theorem Ea.{u,v}:type_of% @List.foldl_cons.{u,v}:=@List.foldl_cons.{u,v}
theorem Eb.{u}:type_of% @List.ext_getElem.{u}:=@List.ext_getElem.{u}
theorem Ec.{u}:type_of% @List.getElem?_append.{u}:=@List.getElem?_append.{u}
theorem Ed.{u}:type_of% @if_true.{u}:=@if_true.{u}
theorem Ee.{u}:type_of% @Array.getElem?_eq_some_iff.{u}:=@Array.getElem?_eq_some_iff.{u}
theorem Ef.{u}:type_of% @List.getElem?_set.{u}:=@List.getElem?_set.{u}
theorem Eg:type_of% @Nat.mul_one:=@Nat.mul_one
theorem Eh:type_of% @Rat.intCast_mul:=@Rat.intCast_mul
theorem Ei.{u}:type_of% @Array.getElem?_eq_getElem.{u}:=@Array.getElem?_eq_getElem.{u}
theorem Ej.{u}:type_of% @List.take_append_drop.{u}:=@List.take_append_drop.{u}
theorem Ek.{u}:type_of% @List.getElem?_drop.{u}:=@List.getElem?_drop.{u}
theorem Em.{u,v}:type_of% @List.getElem_map.{u,v}:=@List.getElem_map.{u,v}
theorem En:type_of% @Int.natCast_nonneg:=@Int.natCast_nonneg
theorem Eo.{u}:type_of% @List.getElem?_take_of_lt.{u}:=@List.getElem?_take_of_lt.{u}
theorem Ep.{u}:type_of% @List.mem_of_mem_drop.{u}:=@List.mem_of_mem_drop.{u}
theorem Eq.{u}:type_of% @List.mem_iff_getElem.{u}:=@List.mem_iff_getElem.{u}
theorem Er.{u}:type_of% @List.getElem?_of_mem.{u}:=@List.getElem?_of_mem.{u}
theorem Es:type_of% @Bool.false_and:=@Bool.false_and
theorem Et:type_of% @Nat.mul_le_mul:=@Nat.mul_le_mul
theorem Eu.{u}:type_of% @Array.ext'.{u}:=@Array.ext'.{u}
theorem Ew:type_of% @Bool.or_eq_true:=@Bool.or_eq_true
theorem Ex.{u}:type_of% @List.cons.injEq.{u}:=@List.cons.injEq.{u}
theorem Ey:type_of% @Nat.zero_mul:=@Nat.zero_mul
theorem Ez.{u}:type_of% @List.drop_of_length_le.{u}:=@List.drop_of_length_le.{u}
theorem Fa:type_of% @Bool.true_and:=@Bool.true_and
theorem Fb:type_of% @Nat.lt_succ_self:=@Nat.lt_succ_self
theorem Fc:type_of% @Nat.le_max_right:=@Nat.le_max_right
theorem Fd:type_of% @decide_eq_true_iff:=@decide_eq_true_iff
theorem Fe:type_of% @Nat.le_max_left:=@Nat.le_max_left
theorem Ff:type_of% @Nat.div_le_self:=@Nat.div_le_self
theorem Fg:type_of% @Nat.ble_eq:=@Nat.ble_eq
theorem Fi.{u}:type_of% @Array.getElem?_push.{u}:=@Array.getElem?_push.{u}
theorem Fj:type_of% @List.getElem?_range:=@List.getElem?_range
theorem Fk.{u}:type_of% @Option.getD_some.{u}:=@Option.getD_some.{u}
theorem Fm:type_of% @Nat.one_mul:=@Nat.one_mul
theorem Fp.{u,v,w}:type_of% @List.map_map.{u,v,w}:=@List.map_map.{u,v,w}
theorem Fq.{u}:type_of% @Option.isSome_none.{u}:=@Option.isSome_none.{u}
theorem Ft:type_of% @Nat.two_pow_pos:=@Nat.two_pow_pos
theorem Fu.{u,v}:type_of% @Option.map_some.{u,v}:=@Option.map_some.{u,v}
theorem Fv:type_of% @Int.natCast_mul:=@Int.natCast_mul
theorem Fx:type_of% @decide_eq_true_eq:=@decide_eq_true_eq
theorem Fy.{u}:type_of% @List.map_id.{u}:=@List.map_id.{u}
theorem Fz:type_of% @List.mem_range:=@List.mem_range
theorem Ga:type_of% @Int.natAbs_mul:=@Int.natAbs_mul
theorem Gb.{u,v,w}:type_of% @getElem!_pos.{u,v,w}:=@getElem!_pos.{u,v,w}
theorem Gc:type_of% @Nat.le_of_eq:=@Nat.le_of_eq
noncomputable section
inductive T(α:Type) where
 | e:T α
 | n (l:T α) (v:Option α) (r:T α):T α
def bN{α:Sort _}(c:Bool)(a b:α):α:=Bool.rec b a c
def aX{α β:Type}(x:Option α)(f:α→Option β):Option β:=Option.rec none f x
namespace T
variable {α:Type}
def get(t:T α):Nat→Option α:=
 T.rec (motive:=fun _=>Nat→Option α) (fun _=>none)
  (fun _ v _ gl gr k=>bN (Nat.beq k 0) v (bN (Nat.beq (Nat.mod k 2) 1) (gl (Nat.div k 2)) (gr (Nat.sub (Nat.div k 2) 1)))) t
def single(f:Nat):Nat→Option α→T α:=
 Nat.rec (motive:=fun _=>Nat→Option α→T α) (fun _ _=>.e)
  (fun _ ih k x=>bN (Nat.beq k 0) (.n .e x .e) (bN (Nat.beq (Nat.mod k 2) 1) (.n (ih (Nat.div k 2) x) none .e) (.n .e none (ih (Nat.sub (Nat.div k 2) 1) x)))) f
def set(t:T α):Nat→Option α→T α:=
 T.rec (motive:=fun _=>Nat→Option α→T α) (fun k x=>single (Nat.succ k) k x)
  (fun l v r sl sr k x=>bN (Nat.beq k 0) (.n l x r) (bN (Nat.beq (Nat.mod k 2) 1) (.n (sl (Nat.div k 2) x) v r) (.n l v (sr (Nat.sub (Nat.div k 2) 1) x)))) t
end T
inductive AV where
 | bool (b:Bool)
 | int (k:IntKind) (n:Int)
 | str (s:List Nat)
 | ptr (b off:Nat)
 | nilp
 | sl (b off len cap:Nat) (o:Bool)
 | nilsl
 | emp        -- an empty slice,not nil,of unknown place and capacity
 | map (b:Nat)
 | nilmap
 | fn (f:Nat) (first captured:List AV)
 | nilfn
 | yld (b:Nat)
 | iface (t:Nat) (v:AV)
 | niliface
 | mth (name:String) (tbl:List (Nat×Nat×Option (Bool×Nat))) (v:AV)     -- a method of an interface value,bound
 | agg (cs:List AV)
 | tup (vs:List AV)
 deriving Inhabited
def AV.cells(v:AV):Option (List AV):=
 match v with
 | .agg cs=>some cs
 | .tup _=>none
 | v=>some [v]
def AV.undef:AV:=.tup []
inductive cK where
 | t (i:Nat)
 | c (v:AV)
 deriving Inhabited
inductive EqP where
 | bool | int | str | ptr | slice | map | func | iface | no
 deriving Inhabited,DecidableEq
inductive oO where
 | p (e:EqP)
 | struct (fs:List (Nat×EqP))
 deriving Inhabited
inductive aGj where
 | int (k:IntKind)
 | same
 | bytesToStr
 | intToStr
 deriving Inhabited
inductive SlK where
 | str
 | slice (size:Nat)
 | arr (n size:Nat)
 deriving Inhabited
inductive IxK where
 | arr (n size:Nat)
 | slice (size:Nat)
 deriving Inhabited
inductive zW where
 | mv (x:cK)
 | pick (c a b:cK)
 | build (zero:List AV) (parts:List (Nat×Nat×cK))
 | ld (agg:Bool) (n:Nat) (x:cK)
 | nilchk (x:cK)
 | bin (op:BinOp) (e:oO) (x y:cK)
 | un (op:UnOp) (x:cK)
 | conv (k:aGj) (x:cK)
 | mkIface (t:Nat) (x:cK)
 | mkFunc (f:Nat) (first captured:List cK)
 | slc (k:SlK) (x:cK) (lo hi mx:Option cK)
 | faddr (off:Nat) (x:cK)
 | fld (agg:Bool) (off n:Nat) (x:cK)
 | iaddr (k:IxK) (x ix:cK)
 | idxArr (agg:Bool) (n size:Nat) (x ix:cK)
 | idxStr (x ix:cK)
 | lookup (e:oO) (zero:AV) (commaOk:Bool) (m key:cK)
 | tassert (t:Nat) (zero:AV) (commaOk:Bool) (x:cK)
 | extract (x:cK) (i:Nat)
 | lenArr (n:Nat)
 | lenStr (x:cK)
 | lenSl (x:cK)
 | lenMap (x:cK)
 | capSl (x:cK)
 | minmax (isMax:Bool) (xs:List cK)
 | mkMeth (name:String) (tbl:List (Nat×Nat×Option (Bool×Nat))) (x:cK)
 deriving Inhabited
inductive wU where
 | alloc (t:Nat) (cells:List AV)
 | box (t:Nat) (x:cK)
 | bslice (t size len:Nat) (zero:List AV) (parts:List (Nat×cK))
 | mkSlice (t size bytes:Nat) (zero:List AV) (l c:cK)
 | mkMap
 | strBytes (t:Nat) (x:cK)
 deriving Inhabited
inductive aIz where
 | add64 | idxByte | idxStr
 deriving Inhabited
inductive XOp where
 | st (n:Nat) (x v:cK)
 | call (f:cK) (args:List cK)
 | inv (tbl:List (Nat×Nat×Option (Bool×Nat))) (recv:cK) (args:List cK)
 | app (t size bytes:Nat) (s x:cK)
 | copy (size:Nat) (d s:cK)
 | mapUpd (e:oO) (m k v:cK)
 | mapDel (e:oO) (m k:cK)
 | clr (zero:List AV) (x:cK)
 | ext (k:aIz) (args:List cK)
 | bad
 deriving Inhabited
inductive AOp where
 | q (o:zW)
 | a (o:wU)
 | x (o:XOp)
 deriving Inhabited
structure AO where
 dst:Option Nat
 op:AOp
 grd:Option (Nat×Bool)
 mask:Nat      -- the operations before it (drawn regions)
 deriving Inhabited
inductive AC where
 | skip
 | seq (a b:AC)
 | cond (c:cK) (a b:AC)
 | block (id:Nat) (c:AC)
 | loop (c:AC)
 | exit (id:Nat)
 | ret
 | reg (ops:List AO)
 | drw (ops:List AO)
 | rng (f:cK) (params:List Nat) (assign body:AC)
 | dfr (ops:List AO) (f:cK) (args:List cK)
 deriving Inhabited
inductive RV where
 | t (i:Nat)
 | cell (a:Nat) (agg:Bool) (n:Nat)
 deriving Inhabited
structure cV where
 ntmps:Nat
 res:List RV
 body:AC
 deriving Inhabited
abbrev Fr:=T AV
inductive LSt where
 | ready | busy | done | exhausted
 deriving DecidableEq,Inhabited
inductive Out where
 | normal
 | exit (id:Nat)
 | ret
 deriving Inhabited
inductive AB where
 | cells (cs:List AV) (opn:Bool) (size:Nat)     -- opn:there may be more room behind;size:the cells of an element then
 | ro (cs:List AV)
 | map (es:List (AV×AV))
 | loop (st:LSt) (pend:Option Out) (fr:Fr) (params:List Nat) (assign body:AC)
 | dfd
 deriving Inhabited
structure St where
 h:T AB
 nx:Nat
def aD(i:Nat)(F:Fr):AV:=Option.rec (motive:=fun _=>AV) .undef (fun v=>v) (F.get i)
def aPy(v:AV)(_:Fr):AV:=v
def cK.val(x:cK):Fr→AV:=cK.rec (motive:=fun _=>Fr→AV) aD aPy x
def cW(l:List cK):Fr→List AV:=List.rec (motive:=fun _=>Fr→List AV) (fun _=>[]) (fun x _ ih F=>x.val F::ih F) l
def nth{α:Type}(l:List α):Nat→Option α:=List.rec (motive:=fun _=>Nat→Option α) (fun _=>none) (fun x _ ih k=>bN (Nat.beq k 0) (some x) (ih (Nat.sub k 1))) l
def aGU{α:Type}(l:List α):Nat→List α:=List.rec (motive:=fun _=>Nat→List α) (fun _=>[]) (fun x xs ih k=>bN (Nat.beq k 0) (x::xs) (ih (Nat.sub k 1))) l
def aEN{α:Type}(l:List α):Nat→Option (List α):=
 List.rec (motive:=fun _=>Nat→Option (List α)) (fun n=>bN (Nat.beq n 0) (some []) none)
  (fun x _ ih n=>bN (Nat.beq n 0) (some []) (aX (ih (Nat.sub n 1)) fun r=>some (x::r))) l
def aC7{α:Type}(vs:List α):List α→Option (List α):=
 List.rec (motive:=fun _=>List α→Option (List α)) (fun l=>some l)
  (fun v _ ih l=>List.rec (motive:=fun _=>Option (List α)) none (fun _ xs _=>aX (ih xs) fun r=>some (v::r)) l) vs
def put{α:Type}(l:List α):Nat→List α→Option (List α):=
 List.rec (motive:=fun _=>Nat→List α→Option (List α)) (fun k vs=>bN (Nat.beq k 0) (aC7 vs []) none)
  (fun x xs ih k vs=>bN (Nat.beq k 0) (aC7 vs (x::xs)) (aX (ih (Nat.sub k 1) vs) fun r=>some (x::r))) l
def jK{α:Type}(l:List α):Nat:=List.rec (motive:=fun _=>Nat) 0 (fun _ _ ih=>Nat.succ ih) l
def wY{α:Type}(l m:List α):List α:=List.rec (motive:=fun _=>List α) m (fun x _ ih=>x::ih) l
def repeatL{α:Type}(z:List α)(n:Nat):List α:=Nat.rec (motive:=fun _=>List α) [] (fun _ ih=>wY z ih) n
def cut{α:Type}(l:List α)(i n:Nat):Option (List α):=aEN (aGU l i) n
def oP(k:IntKind):Nat:=
 match k with
 | .i8=>127 | .i16=>32767 | .i32=>2147483647 | .i64=>9223372036854775807
 | .u8=>255 | .u16=>65535 | .u32=>4294967295 | .u64=>18446744073709551615
def nat(k:IntKind)(n:Nat):Int:=bN (Nat.ble n (oP k)) (.ofNat n) (k.wrap (.ofNat n))
def aDw(k:IntKind):Bool:=
 match k with
 | .i8 | .i16 | .i32 | .i64=>true
 | _=>false
def neg(k:IntKind)(n:Nat):Int:=bN (aDw k) (bN (Nat.ble n (oP k)) (.negSucc n) (k.wrap (.negSucc n))) (k.wrap (.negSucc n))
def xL(k:IntKind)(n:Nat):Bool:=Nat.ble n (oP k)
def aEM(k:IntKind)(n:Int):Int:=Int.rec (motive:=fun _=>Int) (fun m=>nat k m) (fun m=>neg k m) n
def aBe(k:IntKind)(a b:Nat):Int:=bN (Nat.ble b a) (nat k (Nat.sub a b)) (neg k (Nat.sub (Nat.sub b a) 1))
def aLj(k:IntKind)(x y:Int):Int:=
 Int.rec (motive:=fun _=>Int) (fun a=>Int.rec (motive:=fun _=>Int) (fun b=>nat k (Nat.add a b)) (fun b=>aBe k a (Nat.succ b)) y)
  (fun a=>Int.rec (motive:=fun _=>Int) (fun b=>aBe k b (Nat.succ a)) (fun b=>neg k (Nat.succ (Nat.add a b))) y) x
def aED(k:IntKind)(x y:Int):Int:=
 Int.rec (motive:=fun _=>Int) (fun a=>Int.rec (motive:=fun _=>Int) (fun b=>aBe k a b) (fun b=>nat k (Nat.add a (Nat.succ b))) y)
  (fun a=>Int.rec (motive:=fun _=>Int) (fun b=>neg k (Nat.add a b)) (fun b=>aBe k b a) y) x
def aGy(k:IntKind)(x y:Int):Int:=
 Int.rec (motive:=fun _=>Int) (fun a=>Int.rec (motive:=fun _=>Int) (fun b=>nat k (Nat.mul a b)) (fun b=>aEM k (Int.mul (.ofNat a) (.negSucc b))) y)
  (fun a=>aEM k (Int.mul (.negSucc a) y)) x
def ieq(x y:Int):Bool:=
 Int.rec (motive:=fun _=>Bool) (fun a=>Int.rec (motive:=fun _=>Bool) (fun b=>Nat.beq a b) (fun _=>false) y)
  (fun a=>Int.rec (motive:=fun _=>Bool) (fun _=>false) (fun b=>Nat.beq a b) y) x
def ile(x y:Int):Bool:=
 Int.rec (motive:=fun _=>Bool) (fun a=>Int.rec (motive:=fun _=>Bool) (fun b=>Nat.ble a b) (fun _=>false) y)
  (fun a=>Int.rec (motive:=fun _=>Bool) (fun _=>true) (fun b=>Nat.ble b a) y) x
def keq(x y:IntKind):Bool:=Nat.beq (oP x) (oP y)
def aMg(x y:Bool):Bool:=bN x y (bN y false true)
def aR6(k:IntKind)(x y:Int):Option AV:=some (.int k (aLj k x y))
def aRY(k:IntKind)(x y:Int):Option AV:=some (.int k (aED k x y))
def aRF(k:IntKind)(x y:Int):Option AV:=some (.int k (aGy k x y))
def aMx(k:IntKind)(x y:Int):Option AV:=
 match x,y with
 | .ofNat a,.ofNat b=>bN (Nat.beq b 0) none (some (.int k (nat k (Nat.div a b))))
 | x,y=>bN (ieq y (.ofNat 0)) none (some (.int k (aEM k (x.tdiv y))))
def aNk(k:IntKind)(x y:Int):Option AV:=
 match x,y with
 | .ofNat a,.ofNat b=>bN (Nat.beq b 0) none (some (.int k (.ofNat (Nat.mod a b))))
 | x,y=>bN (ieq y (.ofNat 0)) none (some (.int k (x.tmod y)))
def aB2(f:Nat→Nat→Nat)(k:IntKind)(x y:Int):Option AV:=
 match x,y with
 | .ofNat a,.ofNat b=>bN (xL k a) (bN (xL k b) (some (.int k (.ofNat (f a b)))) none) none
 | _,_=>none
def aRU:=aB2 Nat.land
def iOr:=aB2 Nat.lor
def aRS:=aB2 Nat.xor
def aRk(_:IntKind)(x y:Int):Option AV:=some (.bool (ieq x y))
def aRZ(_:IntKind)(x y:Int):Option AV:=some (.bool (bN (ieq x y) false true))
def aRP(_:IntKind)(x y:Int):Option AV:=some (.bool (bN (ile y x) false true))
def aRW(_:IntKind)(x y:Int):Option AV:=some (.bool (ile x y))
def aRR(_:IntKind)(x y:Int):Option AV:=some (.bool (bN (ile x y) false true))
def aRm(_:IntKind)(x y:Int):Option AV:=some (.bool (ile y x))
def aLl(_:IntKind)(_ _:Int):Option AV:=none
def aLs(op:BinOp):IntKind→Int→Int→Option AV:=
 BinOp.rec (motive:=fun _=>IntKind→Int→Int→Option AV) aR6 aRY aRF aMx aNk aRU iOr aRS aLl aLl aLl aRk aRZ aRP aRW aRR aRm op
def sF(op:BinOp)(k:IntKind)(x:Int)(b:Nat):Option AV:=
 let n:=bN (Nat.ble b k.bits) b k.bits
 match op with
 | .shl=>some (.int k (aGy k x (.ofNat (Nat.pow 2 n))))
 | .shr=>some (.int k (x.fdiv (.ofNat (Nat.pow 2 n))))
 | _=>none
def aAm(op:BinOp)(k:IntKind)(x y:Int):Option AV:=
 match y with
 | .ofNat b=>sF op k x b
 | _=>none
def dP(op:BinOp):Bool:=BinOp.rec (motive:=fun _=>Bool) false false false false false false false false true true false false false false false false false op
def oW:List Nat→List Nat→Bool
 | _,[]=>false
 | [],_::_=>true
 | a::x,b::y=>bN (Nat.blt a b) true (bN (Nat.beq a b) (oW x y) false)
def lD:List Nat→List Nat→Bool
 | [],[]=>true
 | a::x,b::y=>bN (Nat.beq a b) (lD x y) false
 | _,_=>false
def aIf(op:BinOp)(a b:List Nat):Option AV:=
 match op with
 | .add=>bN (Nat.ble (jK a+jK b) 9223372036854775807) (some (.str (wY a b))) none
 | .eql=>some (.bool (lD a b))
 | .neq=>some (.bool (!lD a b))
 | .lss=>some (.bool (oW a b))
 | .leq=>some (.bool (oW a b || lD a b))
 | .gtr=>some (.bool (!(oW a b || lD a b)))
 | .geq=>some (.bool (!oW a b))
 | _=>none
def partOf(agg:Bool)(cs:List AV)(off n:Nat):Option AV:=
 bN agg (aX (cut cs off n) fun r=>some (.agg r)) (nth cs off)
def zU:EqP→AV→AV→Option Bool
 | .bool,.bool a,.bool b=>some (aMg a b)
 | .int,.int k a,.int k' b=>bN (keq k k') (some (ieq a b)) none
 | .str,.str a,.str b=>some (lD a b)
 | .ptr,.nilp,.nilp=>some true
 | .ptr,.nilp,.ptr _ _=>some false
 | .ptr,.ptr _ _,.nilp=>some false
 | .slice,.nilsl,.nilsl=>some true
 | .slice,.nilsl,.sl .. =>some false
 | .slice,.sl ..,.nilsl=>some false
 | .slice,.nilsl,.emp=>some false
 | .slice,.emp,.nilsl=>some false
 | .map,.nilmap,.nilmap=>some true
 | .map,.nilmap,.map _=>some false
 | .map,.map _,.nilmap=>some false
 | .func,.nilfn,.nilfn=>some true
 | .func,.nilfn,.fn .. =>some false
 | .func,.fn ..,.nilfn=>some false
 | .iface,.niliface,.iface _ _=>some false
 | .iface,.iface _ _,.niliface=>some false
 | _,_,_=>none
def eqs:List (Nat×EqP)→List AV→List AV→Option Bool
 | [],_,_=>some true
 | (off,e)::fs,xs,ys=>
  match nth xs off,nth ys off with
  | some x,some y=>match zU e x y with
   | some true=>eqs fs xs ys
   | some false=>some false
   | none=>none
  | _,_=>none
def eqv:oO→AV→AV→Option Bool
 | .p e,x,y=>zU e x y
 | .struct fs,.agg xs,.agg ys=>bN (Nat.beq (jK xs) (jK fs)) (bN (Nat.beq (jK ys) (jK fs)) (eqs fs xs ys) none) none
 | _,_,_=>none
def aOW(op:BinOp)(e:oO)(x y:AV):Option AV:=
 match op with
 | .eql=>aX (eqv e x y) fun b=>some (.bool b)
 | .neq=>aX (eqv e x y) fun b=>some (.bool (bN b false true))
 | _=>none
def cN(op:BinOp)(k:IntKind)(a:Int)(k':IntKind)(b:Int):Option AV:=
 bN (dP op) (aAm op k a b) (bN (keq k k') (aLs op k a b) none)
def aFW(v:AV):Option (IntKind×Int):=
 match v with
 | .int k a=>some (k,a)
 | _=>none
def aFP(v:AV):Option (List Nat):=
 match v with
 | .str s=>some s
 | _=>none
def eJ(op:BinOp)(e:oO)(x y:AV):Option AV:=
 match aFW x,aFW y with
 | some a,some b=>cN op a.1 a.2 b.1 b.2
 | _,_=>match aFP x,aFP y with
  | some a,some b=>aIf op a b
  | _,_=>aOW op e x y
def unV(op:UnOp)(x:AV):Option AV:=
 match op,x with
 | .neg,.int k n=>some (.int k (aED k (.ofNat 0) n))
 | .not,.bool b=>some (.bool (bN b false true))
 | _,_=>none
def mV(b:AB):Option (List AV):=
 match b with
 | .cells cs _ _=>some cs
 | .ro cs=>some cs
 | _=>none
def cL(h:T AB)(b:Nat):Option (List AV):=aX (h.get b) mV
def vG(h:T AB)(b off n:Nat):Option (List AV):=aX (cL h b) fun cs=>cut cs off n
def lP(h:T AB)(b off:Nat):Option AV:=aX (cL h b) fun cs=>nth cs off
def oJ(agg:Bool)(n:Nat)(h:T AB)(b off:Nat):Option AV:=
 bN agg (aX (vG h b off n) fun cs=>some (.agg cs)) (lP h b off)
def fG(zero:List AV):List (Nat×Nat×AV)→Option (List AV)
 | []=>some zero
 | (off,n,v)::ps=>aX v.cells fun cs=>bN (Nat.beq (jK cs) n) (aX (put zero off cs) fun z=>fG z ps) none
def bytesOf:List AV→Option (List Nat)
 | []=>some []
 | .int .u8 (.ofNat n)::vs=>bN (Nat.ble n 255) (aX (bytesOf vs) fun r=>some (n::r)) none
 | _::_=>none
def fB(v:AV):Option Nat:=
 match v with
 | .int _ (.ofNat n)=>some n
 | _=>none
def iR(F:Fr)(d:Nat)(x:Option cK):Option Nat:=
 match x with
 | none=>some d
 | some x=>fB (x.val F)
def qS(e:oO)(k:AV):List (AV×AV)→Nat→Option (Option (Nat×AV))
 | [],_=>some none
 | (k',v)::es,i=>aX (eqv e k k') fun b=>bN b (some (some (i,v))) (qS e k es (Nat.succ i))
def oS(e:oO)(k:AV)(es:List (AV×AV)):Option (Option (Nat×AV)):=aX (eqv e k k) fun _=>qS e k es 0
def rT(b:AB):Option (List (AV×AV)):=
 match b with
 | .map es=>some es
 | _=>none
def pT(h:T AB)(m:AV):Option (List (AV×AV)):=
 match m with
 | .nilmap=>some []
 | .map b=>aX (h.get b) rT
 | _=>none
def jO(isMax:Bool):List AV→AV→Option AV
 | [],x=>some x
 | .int k' b::vs,.int k a=>bN (keq k k')
   (jO isMax vs (.int k (bN isMax (bN (ile b a) a b) (bN (ile a b) a b)))) none
 | _,_=>none
abbrev QF:=Fr→T AB→Option AV
def qMv(x:cK):QF:=fun F _=>some (x.val F)
def wR(v:AV)(a b:cK)(F:Fr):Option AV:=
 match v with
 | .bool t=>some (bN t (a.val F) (b.val F))
 | _=>none
def aQ5(c a b:cK):QF:=fun F _=>wR (c.val F) a b F
def eT(F:Fr):List (Nat×Nat×cK)→List (Nat×Nat×AV)
 | []=>[]
 | (a,b,x)::ps=>(a,b,x.val F)::eT F ps
def aPb(zero:List AV)(ps:List (Nat×Nat×cK)):QF:=fun F _=>aX (fG zero (eT F ps)) fun cs=>some (.agg cs)
def dB(v:AV)(agg:Bool)(n:Nat)(h:T AB):Option AV:=
 match v with
 | .ptr b off=>oJ agg n h b off
 | _=>none
def qLd(agg:Bool)(n:Nat)(x:cK):QF:=fun F h=>dB (x.val F) agg n h
def wT{α:Type}(t:Nat):List (Nat×α)→Option α
 | []=>none
 | (u,a)::l=>bN (Nat.beq t u) (some a) (wT t l)
def aGm(n:String)(tbl:List (Nat×Nat×Option (Bool×Nat)))(v:AV):Option AV:=
 match v with
 | .iface t w=>aX (wT t tbl) fun r=>match r.2,w with
  | none,_=>some (.mth n tbl v)
  | some _,.ptr _ _=>some (.mth n tbl v)
  | _,_=>none
 | _=>none
def uY(v:AV):Option AV:=
 match v with
 | .ptr b o=>some (.ptr b o)
 | .fn f a b=>some (.fn f a b)
 | .iface t v=>some (.iface t v)
 | .yld b=>some (.yld b)
 | .mth n tbl v=>aGm n tbl v
 | _=>none
def aOm(x:cK):QF:=fun F _=>uY (x.val F)
def aRl(op:BinOp)(e:oO)(x y:cK):QF:=fun F _=>eJ op e (x.val F) (y.val F)
def qUn(op:UnOp)(x:cK):QF:=fun F _=>unV op (x.val F)
def aCB(h:T AB)(b off len:Nat):Option AV:=aX (vG h b off len) fun cs=>aX (bytesOf cs) fun s=>some (.str s)
def wM(k:aGj)(v:AV)(h:T AB):Option AV:=
 match k,v with
 | .int k,.int _ n=>some (.int k (aEM k n))
 | .same,.str s=>some (.str s)
 | .bytesToStr,.nilsl=>some (.str [])
 | .bytesToStr,.emp=>some (.str [])
 | .bytesToStr,.sl b off len _ _=>aCB h b off len
 | .intToStr,.int _ (.ofNat n)=>bN (Nat.ble n 127) (some (.str [n])) none
 | _,_=>none
def aQj(k:aGj)(x:cK):QF:=fun F h=>wM k (x.val F) h
def aMM(t:Nat)(x:cK):QF:=fun F _=>some (.iface t (x.val F))
def aNP(f:Nat)(first cap:List cK):QF:=fun F _=>some (.fn f (cW first F) (cW cap F))
def aDV(s:List Nat)(lo hi mx:Option cK)(F:Fr):Option AV:=
 match mx with
 | some _=>none
 | none=>aX (iR F (jK s) hi) fun h'=>aX (iR F 0 lo) fun l=>
   bN (Nat.ble h' (jK s)) (bN (Nat.ble l h') (aX (cut s l (h' - l)) fun r=>some (.str r)) none) none
def jS(len cap:Nat)(lo hi mx:Option cK)(F:Fr):Option (Nat×Nat×Nat):=
 aX (iR F cap mx) fun m=>aX (iR F len hi) fun h=>aX (iR F 0 lo) fun l=>
  bN (Nat.ble m cap) (bN (Nat.ble h m) (bN (Nat.ble l h) (some (l,h,m)) none) none) none
def aIg(size b off len cap:Nat)(o:Bool)(lo hi mx:Option cK)(F:Fr):Option AV:=
 aX (jS len cap lo hi mx F) fun x=>
  let o':=bN o mx.isNone false
  bN (Nat.beq x.2.2 x.1) (bN o' (some .emp) (some (.sl b off (x.2.1 - x.1) (x.2.2 - x.1) false)))
   (some (.sl b (off+x.1 * size) (x.2.1 - x.1) (x.2.2 - x.1) o'))
def aMY(lo hi mx:Option cK)(F:Fr):Option AV:=aX (jS 0 0 lo hi mx F) fun _=>some .emp
def aM4(lo hi mx:Option cK)(F:Fr):Option AV:=aX (jS 0 0 lo hi mx F) fun _=>some .nilsl
def aJw(n size b off:Nat)(lo hi mx:Option cK)(F:Fr):Option AV:=
 aX (jS n n lo hi mx F) fun x=>
  bN (Nat.beq x.2.2 x.1) (some (.sl b off (x.2.1 - x.1) (x.2.2 - x.1) false))
   (some (.sl b (off+x.1 * size) (x.2.1 - x.1) (x.2.2 - x.1) false))
def qX(k:SlK)(v:AV)(lo hi mx:Option cK)(F:Fr):Option AV:=
 match k,v with
 | .str,.str s=>aDV s lo hi mx F
 | .slice size,.sl b off len cap o=>aIg size b off len cap o lo hi mx F
 | .slice _,.nilsl=>aM4 lo hi mx F
 | .slice _,.emp=>aMY lo hi mx F
 | .arr n size,.ptr b off=>aJw n size b off lo hi mx F
 | _,_=>none
def aR7(k:SlK)(x:cK)(lo hi mx:Option cK):QF:=fun F _=>qX k (x.val F) lo hi mx F
def yV(v:AV)(off:Nat):Option AV:=
 match v with
 | .ptr b o=>some (.ptr b (o+off))
 | _=>none
def aO7(off:Nat)(x:cK):QF:=fun F _=>yV (x.val F) off
def aHW(v:AV)(agg:Bool)(off n:Nat):Option AV:=
 match v with
 | .agg cs=>partOf agg cs off n
 | _=>none
def aR4(agg:Bool)(off n:Nat)(x:cK):QF:=fun F _=>aHW (x.val F) agg off n
def eS(k:IxK)(v:AV)(i:Nat):Option AV:=
 match k,v with
 | .arr n size,.ptr b off=>bN (Nat.blt i n) (some (.ptr b (off+i * size))) none
 | .slice size,.sl b off len _ _=>bN (Nat.blt i len) (some (.ptr b (off+i * size))) none
 | _,_=>none
def aPS(k:IxK)(x ix:cK):QF:=fun F _=>aX (fB (ix.val F)) fun i=>eS k (x.val F) i
def xH(v:AV)(agg:Bool)(n size i:Nat):Option AV:=
 match v with
 | .agg cs=>bN (Nat.blt i n) (partOf agg cs (i * size) size) none
 | _=>none
def aNK(agg:Bool)(n size:Nat)(x ix:cK):QF:=fun F _=>aX (fB (ix.val F)) fun i=>xH (x.val F) agg n size i
def mM(v:AV)(i:Nat):Option AV:=
 match v with
 | .str s=>aX (nth s i) fun b=>some (.int .u8 (.ofNat b))
 | _=>none
def aNX(x ix:cK):QF:=fun F _=>aX (fB (ix.val F)) fun i=>mM (x.val F) i
def aDj(ok:Bool)(v:AV)(b:Bool):AV:=bN ok (.tup [v,.bool b]) v
def pD(r:Option (Nat×AV))(zero:AV)(ok:Bool):Option AV:=
 match r with
 | some (_,v)=>some (aDj ok v true)
 | none=>some (aDj ok zero false)
def aOH(sk:oO)(zero:AV)(ok:Bool)(m key:cK):QF:=fun F h=>
 aX (pT h (m.val F)) fun es=>aX (oS sk (key.val F) es) fun r=>pD r zero ok
def vN(v:AV)(t:Nat)(zero:AV)(ok:Bool):Option AV:=
 match v with
 | .iface t' v=>bN (Nat.beq t t') (some (aDj ok v true)) (bN ok (some (.tup [zero,.bool false])) none)
 | .niliface=>bN ok (some (.tup [zero,.bool false])) none
 | _=>none
def aLi(t:Nat)(zero:AV)(ok:Bool)(x:cK):QF:=fun F _=>vN (x.val F) t zero ok
def lO(v:AV)(i:Nat):Option AV:=
 match v with
 | .tup vs=>nth vs i
 | _=>none
def aLL(x:cK)(i:Nat):QF:=fun F _=>lO (x.val F) i
def aOy(n:Nat):QF:=fun _ _=>some (.int .i64 (.ofNat n))
def aAe(v:AV):Option AV:=
 match v with
 | .str s=>some (.int .i64 (.ofNat (jK s)))
 | _=>none
def aOA(x:cK):QF:=fun F _=>aAe (x.val F)
def lH(v:AV):Option AV:=
 match v with
 | .nilsl=>some (.int .i64 (.ofNat 0))
 | .emp=>some (.int .i64 (.ofNat 0))
 | .sl _ _ n _ _=>some (.int .i64 (.ofNat n))
 | _=>none
def aPB(x:cK):QF:=fun F _=>lH (x.val F)
def aNZ(x:cK):QF:=fun F h=>aX (pT h (x.val F)) fun es=>some (.int .i64 (.ofNat (jK es)))
def aC1(v:AV):Option AV:=
 match v with
 | .nilsl=>some (.int .i64 (.ofNat 0))
 | .sl _ _ _ c false=>some (.int .i64 (.ofNat c))
 | _=>none
def aPr(x:cK):QF:=fun F _=>aC1 (x.val F)
def kR(isMax:Bool)(l:List AV):Option AV:=
 match l with
 | []=>none
 | v::vs=>jO isMax vs v
def aN6(n:String)(tbl:List (Nat×Nat×Option (Bool×Nat)))(x:cK):QF:=fun F _=>some (.mth n tbl (x.val F))
def aOo(mx:Bool)(xs:List cK):QF:=fun F _=>kR mx (cW xs F)
def iI(q:zW):QF:=
 zW.rec (motive:=fun _=>QF) qMv aQ5 aPb qLd aOm aRl qUn aQj aMM aNP aR7 aO7 aR4 aPS aNK aNX aOH aLi aLL aOy aOA aPB aNZ aPr aOo aN6 q
abbrev AF:=Fr→Nat→Option (AV×AB)
def room:Nat:=140737488355328
def aO8(_:Nat)(cells:List AV):AF:=fun _ id=>some (.ptr id 0,.cells cells false 0)
def aRt(_:Nat)(x:cK):AF:=fun F id=>aX (x.val F).cells fun cs=>some (.ptr id 0,.cells cs false 0)
def jP(size:Nat)(F:Fr):List (Nat×cK)→List (Nat×Nat×AV)
 | []=>[]
 | (i,x)::ps=>(i * size,size,x.val F)::jP size F ps
def aOE(_ size len:Nat)(zero:List AV)(ps:List (Nat×cK)):AF:=fun F id=>
 aX (fG (repeatL zero len) (jP size F ps)) fun cs=>some (.sl id 0 len len false,.cells cs false 0)
def wJ(_ _ bytes:Nat)(zero:List AV)(l c:cK):AF:=fun F id=>
 aX (fB (l.val F)) fun l=>aX (fB (c.val F)) fun c=>
  bN (Nat.ble l c) (bN (Nat.ble c room) (bN (Nat.ble (bytes * c) room) (some (.sl id 0 l c false,.cells (repeatL zero c) false 0)) none) none) none
def aPE:AF:=fun _ id=>some (.map id,.map [])
def byteCells:List Nat→List AV
 | []=>[]
 | b::bs=>.int .u8 (.ofNat b)::byteCells bs
def tC(v:AV)(id:Nat):Option (AV×AB):=
 match v with
 | .str s=>some (.sl id 0 (jK s) (jK s) true,.cells (byteCells s) true 1)
 | _=>none
def aKl(_:Nat)(x:cK):AF:=fun F id=>tC (x.val F) id
def tQ(a:wU):AF:=wU.rec (motive:=fun _=>AF) aO8 aRt aOE wJ aPE aKl a
def zG(bl:AB)(S:St)(b off:Nat)(vs:List AV):Option St:=
 match bl with
 | .cells cs o s=>aX (put cs off vs) fun cs'=>some ⟨S.h.set b (some (.cells cs' o s)),S.nx⟩
 | _=>none
def qH(S:St)(b off:Nat)(vs:List AV):Option St:=aX (S.h.get b) fun bl=>zG bl S b off vs
def eG(v:AV)(h:T AB)(size n:Nat):Option (List AV):=
 match v with
 | .sl b off _ _ _=>vG h b off (n * size)
 | .nilsl=>bN (Nat.beq n 0) (some []) none
 | .emp=>bN (Nat.beq n 0) (some []) none
 | .str s=>bN (Nat.beq size 1) (aX (aEN s n) fun r=>some (byteCells r)) none
 | _=>none
def nE(v:AV):Option Nat:=
 match v with
 | .sl _ _ n _ _=>some n
 | .nilsl=>some 0
 | .emp=>some 0
 | .str s=>some (jK s)
 | _=>none
def grown(h:T AB)(nx need size:Nat)(cs:List AV):Option (AV×St):=
 some (.sl nx 0 need need true,⟨h.set nx (some (.cells cs true size)),Nat.succ nx⟩)
def aBP(bl:AB)(size b off len cap:Nat)(o:Bool)(n:Nat)(new:List AV)(S:St):Option (AV×St):=
 match bl with
 | .cells cs o' sz=>aX (cut cs off (len * size)) fun old=>
   bN o
    (bN o' (bN (Nat.beq sz size) (bN (Nat.beq (off+cap * size) (jK cs)) (grown (S.h.set b none) S.nx (len+n) size (wY old new)) none) none) none)
    (grown S.h S.nx (len+n) size (wY old new))
 | .ro cs=>bN o none (aX (cut cs off (len * size)) fun old=>grown S.h S.nx (len+n) size (wY old new))
 | _=>none
def oV(bytes size b off len cap:Nat)(o:Bool)(n:Nat)(new:List AV)(S:St):Option (AV×St):=
 bN (Nat.ble (len+n) cap)
  (bN (Nat.beq n 0) (some (.sl b off len cap o,S)) (aX (qH S b (off+len * size) new) fun S'=>some (.sl b off (len+n) cap o,S')))
  (bN (Nat.ble (len+n) room) (bN (Nat.ble ((len+n) * bytes) room) (aX (S.h.get b) fun bl=>aBP bl size b off len cap o n new S) none) none)
def sE(bytes size n:Nat)(new:List AV)(S:St):Option (AV×St):=
 bN (Nat.beq n 0) (some (.nilsl,S))
  (bN (Nat.ble n room) (bN (Nat.ble (n * bytes) room) (grown S.h S.nx n size new) none) none)
def aCU(s:AV)(bytes size n:Nat)(new:List AV)(S:St):Option (AV×St):=
 match s with
 | .nilsl=>sE bytes size n new S
 | .emp=>bN (Nat.beq n 0) (some (.emp,S)) none
 | .sl b off len cap o=>oV bytes size b off len cap o n new S
 | _=>none
def iA(bytes size:Nat)(s x:AV)(S:St):Option (AV×St):=
 aX (nE x) fun n=>aX (eG x S.h size n) fun new=>aCU s bytes size n new S
def vY{α:Type}(f:α→α):List α→Nat→List α
 | [],_=>[]
 | x::xs,k=>bN (Nat.beq k 0) (f x::xs) (x::vY f xs (k - 1))
structure bQ where
 F:Fr
 inr:Bool
abbrev eU:=AV→List AV→St→Option (AV×St)
abbrev XF:=eU→Fr→St→Option (AV×St)
def lI(p:AV)(n:Nat)(cs:List AV)(S:St):Option (AV×St):=
 match p with
 | .ptr b off=>bN (Nat.beq (jK cs) n) (aX (qH S b off cs) fun S'=>some (.undef,S')) none
 | _=>none
def xSt(n:Nat)(x v:cK):XF:=fun _ F S=>aX (v.val F).cells fun cs=>lI (x.val F) n cs S
def aQv(f:cK)(args:List cK):XF:=fun call F S=>call (f.val F) (cW args F) S
def aFO(v:AV)(f:Nat)(agg:Bool)(n:Nat)(args:List AV)(call:eU)(S:St):Option (AV×St):=
 match v with
 | .ptr b off=>aX (oJ agg n S.h b off) fun r=>call (.fn f [r] []) args S
 | _=>none
def aHN(r:Nat×Option (Bool×Nat))(v:AV)(args:List AV)(call:eU)(S:St):Option (AV×St):=
 match r with
 | (f,none)=>call (.fn f [v] []) args S
 | (f,some (agg,n))=>aFO v f agg n args call S
def aFt(v:AV)(tbl:List (Nat×Nat×Option (Bool×Nat)))(args:List AV)(call:eU)(S:St):Option (AV×St):=
 match v with
 | .iface t v=>aX (wT t tbl) fun r=>aHN r v args call S
 | _=>none
def aRB(tbl:List (Nat×Nat×Option (Bool×Nat)))(recv:cK)(args:List cK):XF:=fun call F S=>aFt (recv.val F) tbl (cW args F) call S
def aR0(_ size bytes:Nat)(s x:cK):XF:=fun _ F S=>iA bytes size (s.val F) (x.val F) S
def copyV(d:AV)(size m:Nat)(s:AV)(S:St):Option (AV×St):=
 match d with
 | .nilsl=>some (.int .i64 (.ofNat 0),S)
 | .emp=>some (.int .i64 (.ofNat 0),S)
 | .sl b off len _ _=>
  let n:=bN (Nat.ble m len) m len
  bN (Nat.beq n 0) (some (.int .i64 (.ofNat 0),S)) (aX (eG s S.h size n) fun cs=>aX (qH S b off cs) fun S'=>some (.int .i64 (.ofNat n),S'))
 | _=>none
def aBz(v:AV):Option Nat:=
 match v with
 | .sl _ _ n _ _=>some n
 | .nilsl=>some 0
 | .emp=>some 0
 | _=>none
def aQU(size:Nat)(d s:cK):XF:=fun _ F S=>aX (aBz (s.val F)) fun m=>copyV (d.val F) size m (s.val F) S
def aBb(r:Option (Nat×AV))(es:List (AV×AV))(k v:AV):List (AV×AV):=
 match r with
 | some (i,_)=>vY (fun _=>(k,v)) es i
 | none=>wY es [(k,v)]
def uM(m:AV)(sk:oO)(k v:AV)(S:St):Option (AV×St):=
 match m with
 | .map b=>aX (aX (S.h.get b) rT) fun es=>aX (oS sk k es) fun r=>some (.undef,⟨S.h.set b (some (.map (aBb r es k v))),S.nx⟩)
 | _=>none
def aOF(sk:oO)(m k v:cK):XF:=fun _ F S=>uM (m.val F) sk (k.val F) (v.val F) S
def aOh(r:Option (Nat×AV))(es:List (AV×AV))(b:Nat)(S:St):Option (AV×St):=
 match r with
 | some (i,_)=>some (.undef,⟨S.h.set b (some (.map (es.eraseIdx i))),S.nx⟩)
 | none=>some (.undef,S)
def aFR(m:AV)(sk:oO)(k:AV)(S:St):Option (AV×St):=
 match m with
 | .map b=>aX (aX (S.h.get b) rT) fun es=>aX (oS sk k es) fun r=>aOh r es b S
 | .nilmap=>some (.undef,S)
 | _=>none
def aN9(sk:oO)(m k:cK):XF:=fun _ F S=>aFR (m.val F) sk (k.val F) S
def aMv(x:AV)(zero:List AV)(S:St):Option (AV×St):=
 match x with
 | .nilsl=>some (.undef,S)
 | .emp=>some (.undef,S)
 | .sl b off n _ _=>bN (Nat.beq n 0) (some (.undef,S)) (aX (qH S b off (repeatL zero n)) fun S'=>some (.undef,S'))
 | _=>none
def aRo(zero:List AV)(x:cK):XF:=fun _ F S=>aMv (x.val F) zero S
def aLe(a b c:Nat):AV:=
 .tup [.int .u64 (.ofNat (Nat.mod (Nat.add (Nat.add a b) c) 18446744073709551616)),.int .u64 (.ofNat (Nat.div (Nat.add (Nat.add a b) c) 18446744073709551616))]
def tP(c:Nat):List Nat→Nat→Int
 | [],_=>.negSucc 0
 | b::bs,i=>bN (Nat.beq b c) (.ofNat i) (tP c bs (Nat.succ i))
def aIH(k:aIz)(args:List AV):Option AV:=
 match k,args with
 | .add64,[.int .u64 (.ofNat a),.int .u64 (.ofNat b),.int .u64 (.ofNat c)]=>bN (Nat.ble c 1) (some (aLe a b c)) none
 | .idxByte,[.str s,.int .u8 (.ofNat c)]=>bN (Nat.ble c 255) (some (.int .i64 (tP c s 0))) none
 | _,_=>none
def aRG(k:aIz)(args:List cK):XF:=fun _ F S=>aX (aIH k (cW args F)) fun v=>some (v,S)
def aR8:XF:=fun _ _ _=>none
def zX(x:XOp):XF:=XOp.rec (motive:=fun _=>XF) xSt aQv aRB aR0 aQU aOF aN9 aRo aRG aR8 x
def isB(v:AV)(w:Bool):Bool:=
 match v with
 | .bool b=>aMg b w
 | _=>false
def cI(d:Option Nat):Fr→AV→Fr:=Option.rec (motive:=fun _=>Fr→AV→Fr) (fun F _=>F) (fun i F v=>F.set i (some v)) d
def eI(g:Option (Nat×Bool)):Fr→Bool:=Option.rec (motive:=fun _=>Fr→Bool) (fun _=>true) (fun p F=>isB (aD p.1 F) p.2) g
abbrev OF:=Option Nat→eU→Fr→St→Option (Fr×St)
def oQ(q:zW):OF:=fun d _ F S=>aX (iI q F S.h) fun v=>some (cI d F v,S)
def oA(a:wU):OF:=fun d _ F S=>aX (tQ a F S.nx) fun r=>some (cI d F r.1,⟨S.h.set S.nx (some r.2),Nat.succ S.nx⟩)
def oX(x:XOp):OF:=fun d call F S=>aX (zX x call F S) fun r=>some (cI d F r.1,r.2)
def oOp(o:AOp):OF:=AOp.rec (motive:=fun _=>OF) oQ oA oX o
def aCt(o:AO)(call:eU)(F:Fr)(S:St):Option (Fr×St):=
 bN (eI o.grd F) (oOp o.op o.dst call F S) (some (cI o.dst F .undef,S))
def vD(l:List AO):eU→Fr→St→Option (Fr×St):=
 List.rec (motive:=fun _=>eU→Fr→St→Option (Fr×St)) (fun _ F S=>some (F,S)) (fun o _ ih call F S=>aX (aCt o call F S) fun r=>ih call r.1 r.2) l
structure iM where
 i:Nat
 id:Nat
 b:AB
def cG(mask:Nat):List iM→T AB→List iM×T AB
 | [],h=>([],h)
 | p::ps,h=>bN (Nat.testBit mask p.i) (cG mask ps (h.set p.id (some p.b))) (p::(cG mask ps h).1,(cG mask ps h).2)
structure jW where
 q:zW
 F:Fr
 v:AV
 i:Nat
 mask:Nat
def dC(q:zW):Bool:=
 match q with
 | .ld .. | .lookup .. | .lenMap .. =>true
 | .conv .bytesToStr _=>true
 | _=>false
structure DS where
 F:Fr
 S:St
 ps:List iM
 hs:List (Nat×Nat×T AB)
 ls:List jW
abbrev DF:=AO→Nat→Nat→eU→DS→Option DS
def dQ(q:zW):DF:=fun o i _ _ D=>aX (iI q D.F D.S.h) fun v=>
 some ⟨cI o.dst D.F v,D.S,D.ps,D.hs,bN (dC q) (⟨q,D.F,v,i,o.mask⟩::D.ls) D.ls⟩
def dA(a:wU):DF:=fun o i base _ D=>aX (tQ a D.F (base+i)) fun r=>
 some ⟨cI o.dst D.F r.1,D.S,⟨i,base+i,r.2⟩::D.ps,D.hs,D.ls⟩
def iS(hs:List (Nat×Nat×T AB))(mask:Nat):Bool:=
 match hs with
 | []=>true
 | e::_=>Nat.testBit mask e.1
def dX(x:XOp):DF:=fun o i _ call D=>
 bN (iS D.hs o.mask) (aX (zX x call D.F ⟨(cG o.mask D.ps D.S.h).2,D.S.nx⟩) fun r=>
  some ⟨cI o.dst D.F r.1,r.2,(cG o.mask D.ps D.S.h).1,(i,o.mask,r.2.h)::D.hs,D.ls⟩) none
def dOp(o:AOp):DF:=AOp.rec (motive:=fun _=>DF) dQ dA dX o
def rC(o:AO)(i base:Nat)(call:eU)(D:DS):Option DS:=
 bN (eI o.grd D.F) (dOp o.op o i base call D) (some ⟨cI o.dst D.F .undef,D.S,D.ps,D.hs,D.ls⟩)
def vJ:List AO→Nat→Nat→eU→DS→Option DS
 | [],_,_,_,D=>some D
 | o::os,i,base,call,D=>aX (rC o i base call D) fun D'=>vJ os (i+1) base call D'
mutual
def cM:AV→AV→Bool
 | .bool a,.bool b=>aMg a b
 | .int k a,.int j b=>bN (keq k j) (ieq a b) false
 | .str a,.str b=>lD a b
 | .ptr a b,.ptr c d=>bN (Nat.beq a c) (Nat.beq b d) false
 | .nilp,.nilp=>true
 | .sl a b c d e,.sl a' b' c' d' e'=>Nat.beq a a' && Nat.beq b b' && Nat.beq c c' && Nat.beq d d' && aMg e e'
 | .nilsl,.nilsl=>true
 | .emp,.emp=>true
 | .map a,.map b=>Nat.beq a b
 | .nilmap,.nilmap=>true
 | .fn f a b,.fn g c d=>Nat.beq f g && oN a c && oN b d
 | .nilfn,.nilfn=>true
 | .yld a,.yld b=>Nat.beq a b
 | .iface t v,.iface u w=>Nat.beq t u && cM v w
 | .niliface,.niliface=>true
 | .agg a,.agg b=>oN a b
 | .tup a,.tup b=>oN a b
 | _,_=>false
def oN:List AV→List AV→Bool
 | [],[]=>true
 | a::x,b::y=>bN (cM a b) (oN x y) false
 | _,_=>false
end
def nN(v:AV)(r:Option AV):Bool:=
 match r with
 | some w=>cM w v
 | none=>false
def fY(l:jW):List (Nat×Nat×T AB)→T AB→Bool
 | [],h=>nN l.v (iI l.q l.F h)
 | (i,m,h')::r,h=>
  bN (Nat.testBit l.mask i) (fY l r h')
   (bN (nN l.v (iI l.q l.F h)) (bN (Nat.testBit m l.i) true (fY l r h')) false)
def fK(h0:T AB)(hs:List (Nat×Nat×T AB)):List jW→Bool
 | []=>true
 | l::ls=>bN (fY l hs h0) (fK h0 hs ls) false
def aAt(h0:T AB)(n:Nat)(D:DS):Option (Fr×St):=
 bN (fK h0 D.hs.reverse D.ls) (some (D.F,⟨(cG (2 ^ n - 1) D.ps D.S.h).2,D.S.nx⟩)) none
def xC(ops:List AO)(call:eU)(F:Fr)(S:St):Option (Fr×St):=
 aX (vJ ops 0 S.nx call ⟨F,⟨S.h,S.nx+jK ops⟩,[],[],[]⟩) fun D=>aAt S.h (jK ops) D
structure Evs where
 code:AC→bQ→St→Option (Out×bQ×St)
 call:eU
abbrev CF:=Evs→bQ→St→Option (Out×bQ×St)
def mN:List Nat→List AV→Fr→Option Fr
 | [],[],F=>some F
 | p::ps,v::vs,F=>mN ps vs (F.set p (some v))
 | _,_,_=>none
def sL:List AV→Nat→Fr→Fr
 | [],_,F=>F
 | v::vs,i,F=>sL vs (i+1) (F.set i (some v))
def aOg(o:Option Out):Option AC:=
 match o with
 | none=>some .skip
 | some .ret=>some .ret
 | some (.exit id)=>some (.exit id)
 | some .normal=>none
def aQW:CF:=fun _ A S=>some (.normal,A,S)
def tE(b:AC)(ih:Evs)(r:Out×bQ×St):Option (Out×bQ×St):=
 match r.1 with
 | .normal=>ih.code b r.2.1 r.2.2
 | _=>some r
def aRH(a b:AC):CF:=fun ih A S=>aX (ih.code a A S) (tE b ih)
def aB0(v:AV)(a b:AC):CF:=fun ih A S=>
 match v with
 | .bool t=>ih.code (bN t a b) A S
 | _=>none
def aRc(c:cK)(a b:AC):CF:=fun ih A S=>aB0 (c.val A.F) a b ih A S
def rO(id:Nat)(r:Out×bQ×St):Option (Out×bQ×St):=
 match r.1 with
 | .exit i=>bN (Nat.beq i id) (some (.normal,r.2)) (some r)
 | _=>some r
def aPU(id:Nat)(c:AC):CF:=fun ih A S=>aX (ih.code c A S) (rO id)
def aRe(c:AC):CF:=fun ih A S=>aX (ih.code c A S) (tE (.loop c) ih)
def aQO(id:Nat):CF:=fun _ A S=>some (.exit id,A,S)
def aRV:CF:=fun _ A S=>some (.ret,A,S)
def aRw(ops:List AO):CF:=fun ih A S=>aX (vD ops ih.call A.F S) fun r=>some (.normal,⟨r.1,A.inr⟩,r.2)
def aRx(_:List AO)(_:cK)(_:List cK):CF:=fun _ _ _=>none
def aRr(ops:List AO):CF:=fun ih A S=>aX (xC ops ih.call A.F S) fun r=>some (.normal,⟨r.1,A.inr⟩,r.2)
def aBv(bl:AB)(l:Nat)(A:bQ)(S2:St)(ih:Evs):Option (Out×bQ×St):=
 match bl with
 | .loop st pend fr ps as bd=>
  match st with
  | .busy=>none
  | _=>aX (aOg pend) fun c=>ih.code c A ⟨S2.h.set l (some (.loop .exhausted pend fr ps as bd)),S2.nx⟩
 | _=>none
def aMq(v:AV):Bool:=
 match v with
 | .fn .. =>true
 | _=>false
def aOn(f:cK)(params:List Nat)(assign body:AC):CF:=fun ih A S=>
 bN A.inr none (bN (aMq (f.val A.F))
  (aX (ih.call (f.val A.F) [.yld S.nx] ⟨S.h.set S.nx (some (.loop .ready none A.F params assign body)),Nat.succ S.nx⟩) fun r=>
   aX (r.2.h.get S.nx) fun bl=>aBv bl S.nx A r.2 ih) none)
def aHK(c:AC):CF:=
 AC.rec (motive:=fun _=>CF) aQW (fun a b _ _=>aRH a b) (fun c a b _ _=>aRc c a b) (fun id c _=>aPU id c) (fun c _=>aRe c) aQO aRV aRw aRr (fun f ps as bd _ _=>aOn f ps as bd) aRx c
def aQt(v:AV)(agg:Bool)(n:Nat)(h:T AB):Option AV:=
 match v with
 | .ptr b off=>oJ agg n h b off
 | _=>none
def results:List RV→Fr→T AB→Option (List AV)
 | [],_,_=>some []
 | .t i::rs,F,h=>aX (results rs F h) fun vs=>some (aD i F::vs)
 | .cell a agg n::rs,F,h=>aX (aQt (aD a F) agg n h) fun v=>aX (results rs F h) fun vs=>some (v::vs)
def oneOf(vs:List AV):AV:=
 match vs with
 | [v]=>v
 | vs=>.tup vs
def aE1(fn:cV)(r:Out×bQ×St):Option (AV×St):=
 match r.1 with
 | .exit _=>none
 | _=>aX (results fn.res r.2.1.F r.2.2.h) fun vs=>some (oneOf vs,r.2.2)
def vS(fn:cV)(args:List AV)(ih:Evs)(S:St):Option (AV×St):=
 bN (Nat.ble (jK args) fn.ntmps) (aX (ih.code fn.body ⟨sL args 0 .e,false⟩ S) (aE1 fn)) none
def sT(bl:AB)(o:Out)(l:Nat)(S2:St):Option (AV×St):=
 match bl with
 | .loop .busy _ fr ps as bd=>
  match o with
  | .normal=>some (.bool true,⟨S2.h.set l (some (.loop .ready none fr ps as bd)),S2.nx⟩)
  | o=>some (.bool false,⟨S2.h.set l (some (.loop .done (some o) fr ps as bd)),S2.nx⟩)
 | _=>none
def aKV(l:Nat)(bd:AC)(ih:Evs)(A:bQ)(S:St):Option (AV×St):=
 aX (ih.code bd A S) fun r=>aX (r.2.2.h.get l) fun bl=>sT bl r.1 l r.2.2
def rJ(bl:AB)(l:Nat)(bd:AC)(ih:Evs)(A:bQ)(S1:St):Option (AV×St):=
 match bl with
 | .loop .ready pend fr ps as bd'=>aKV l bd ih A ⟨S1.h.set l (some (.loop .busy pend fr ps as bd')),S1.nx⟩
 | _=>none
def aCo(l:Nat)(bd:AC)(ih:Evs)(r:Out×bQ×St):Option (AV×St):=
 match r.1 with
 | .normal=>aX (r.2.2.h.get l) fun bl=>rJ bl l bd ih r.2.1 r.2.2
 | _=>none
def yH(bl:AB)(l:Nat)(args:List AV)(ih:Evs)(S:St):Option (AV×St):=
 match bl with
 | .loop .ready _ fr ps as bd=>aX (mN ps args fr) fun F=>aX (ih.code as ⟨F,true⟩ S) (aCo l bd ih)
 | _=>none
def vM(fns:T cV)(ih:Evs)(f:AV)(args:List AV)(S:St):Option (AV×St):=
 match f with
 | .fn id first cap=>aX (fns.get id) fun fn=>vS fn (wY first (wY args cap)) ih S
 | .yld l=>aX (S.h.get l) fun bl=>yH bl l args ih S
 | _=>none
def aPf(_:AC)(_:bQ)(_:St):Option (Out×bQ×St):=none
def aPw(_:AV)(_:List AV)(_:St):Option (AV×St):=none
def ev(fns:T cV)(n:Nat):Evs:=
 Nat.rec (motive:=fun _=>Evs) ⟨aPf,aPw⟩ (fun _ ih=>⟨fun c=>aHK c ih,vM fns ih⟩) n
end
end Go.Ev
namespace Go.Ev
noncomputable section
def aMC(v:Value):Bool:=
 match v with
 | .agg _=>false
 | .tuple _=>false
 | _=>true
mutual
def ofValue:Value→Option AV
 | .bool b=>some (.bool b)
 | .int k n=>some (.int k n)
 | .string s=>some (.str (s.data.toList.map UInt8.toNat))
 | .pointer none=>some .nilp
 | .slice none 0 0=>some .nilsl
 | .map none=>some .nilmap
 | .nilFunc=>some .nilfn
 | .nilIface=>some .niliface
 | .func (.func f) ⟨a⟩ ⟨b⟩=>match ofValues a,ofValues b with
  | some a,some b=>some (.fn f a b)
  | _,_=>none
 | .iface t v=>(ofValue v).map (.iface t)
 | .agg ⟨cs⟩=>bif cs.all aMC then(ofValues cs).map .agg else none
 | .tuple ⟨cs⟩=>(ofValues cs).map .tup
 | _=>none
def ofValues:List Value→Option (List AV)
 | []=>some []
 | v::vs=>match ofValue v,ofValues vs with
  | some a,some as=>some (a::as)
  | _,_=>none
end
variable (P:Program)
def eX:Operand→Option cK
 | .tmp t=>some (.t t)
 | .const v=>(ofValue v).map .c
 | .global g=>bif Nat.blt g P.globals.size then some (.c (.ptr g 0)) else none
 | .func f=>some (.c (.fn f [] []))
def vX:List Operand→Option (List cK)
 | []=>some []
 | x::xs=>match eX P x,vX xs with
  | some a,some as=>some (a::as)
  | _,_=>none
def lC:Option Operand→Option (Option cK)
 | none=>some none
 | some x=>(eX P x).map some
def aAf(t:TypeId):Option (Bool×Nat):=
 match P.underlying t,P.info? t with
 | some (.struct _),some i=>some (true,i.size)
 | some (.array _ _),some i=>some (true,i.size)
 | some _,some i=>some (false,i.size)
 | _,_=>none
def aCI(t:TypeId):Option AV:=
 match P.info? t with
 | some i=>match i.zero with
  | some v=>ofValue v
  | none=>none
 | none=>none
def eqP(t:TypeId):EqP:=
 match P.underlying t with
 | some .bool=>.bool
 | some (.int _)=>.int
 | some .string=>.str
 | some (.pointer _)=>.ptr
 | some (.slice _)=>.slice
 | some (.map _ _)=>.map
 | some (.func ..)=>.func
 | some (.interface _)=>.iface
 | _=>.no
def eqFields:List Field→List (Nat×EqP)
 | []=>[]
 | f::fs=>bif f.name== "_" then eqFields fs else(f.offset,eqP P f.type)::eqFields fs
def eqT(t:TypeId):oO:=
 match P.underlying t with
 | some (.struct fs)=>bif P.stoodInHeld t || P.eqGuardType P.depth t then .p .no else .struct (eqFields P fs.toList)
 | some (.array n e)=>bif P.eqGuardType P.depth t || n>64 || P.cellsOf e !=1 then .p .no else .struct ((List.range n).map fun i=>(i,eqP P e))
 | _=>.p (eqP P t)
def wF(place:Nat→Option (Nat×Nat)):List (Nat×Operand)→Option (List (Nat×Nat×cK))
 | []=>some []
 | (i,x)::ps=>match place i,eX P x,wF place ps with
  | some (off,n),some x,some ps=>some ((off,n,x)::ps)
  | _,_,_=>none
def placeOf(fs:Array Field)(i:Nat):Option (Nat×Nat):=
 match fs[i]? with
 | some f=>match P.info? f.type with
  | some s=>some (f.offset,s.size)
  | none=>none
 | none=>none
def oL:List Field→Bool
 | []=>true
 | f::fs=>(P.info? f.type).isSome && oL fs
def xG:List (Nat×Operand)→Option (List (Nat×cK))
 | []=>some []
 | (i,x)::ps=>match eX P x,xG ps with
  | some x,some ps=>some ((i,x)::ps)
  | _,_=>none
def kT(t:TypeId):Option (TypeId×TypeInfo):=
 match P.underlying t with
 | some (.slice e)=>(P.info? e).map fun i=>(e,i)
 | _=>none
def jG(t:TypeId):Option (List AV):=(aCI P t).bind AV.cells
def jL(e:TypeId)(i:TypeInfo):Option (List AV):=
 match jG P e with
 | some z=>bif Nat.beq z.length i.size then some z else none
 | none=>none
def aNs(u:TypeId)(i:TypeInfo):Bool:=
 match P.underlying u with
 | some (.slice _)=>true
 | some .string=>Nat.beq i.size 1
 | _=>false
def nQ(name:String)(t:TypeId)(i:TypeInfo):Option (Nat×Nat×Option (Bool×Nat)):=
 match i.methods.find? (·.name==name) with
 | some m=>bif !m.path.isEmpty then none else match m.func with
  | none=>none
  | some (f,ptr)=>match P.underlying t,ptr with
   | some (.pointer _),true=>some (t,f,none)
   | some (.pointer e),false=>(aAf P e).map fun a=>(t,f,some a)
   | some (.interface _),_=>none
   | some _,false=>some (t,f,none)
   | _,_=>none
 | none=>none
def gF(name:String):List TypeInfo→Nat→List (Nat×Nat×Option (Bool×Nat))
 | [],_=>[]
 | i::is,t=>match nQ P name t i with
  | some r=>r::gF name is (t+1)
  | none=>gF name is (t+1)
def plainKey:EqP→Bool
 | .int | .str | .bool=>true
 | _=>false
def aAW:Nat→List (Nat×EqP)→Bool
 | _,[]=>true
 | i,(o,e)::l=>Nat.beq o i && (plainKey e && aAW (i+1) l)
def aBq(t:TypeId):Option oO:=
 match P.underlying t with
 | some .string=>some (.p .str)
 | some (.int _)=>some (.p .int)
 | some (.struct fs)=>match eqT P t with
  | .struct l=>bif fs.all (fun f=>plainKey (eqP P f.type)) && aAW 0 l then some (.struct l) else none
  | _=>none
 | some (.array _ e)=>match eqT P t with
  | .struct l=>bif plainKey (eqP P e) && aAW 0 l then some (.struct l) else none
  | _=>none
 | _=>none
def aI9(s:String):Option aIz:=
 bif s== "math/bits.Add64" then some .add64
 else bif s== "internal/bytealg.IndexByteString" then some .idxByte
 else none
def aJu(f:Operand):Option aIz:=
 match f with
 | .func f=>match P.funcs[f]? with
  | some fn=>bif fn.body.isNone && (Extern.allNextRows.lookup fn.origin).isNone then aI9 fn.name else none
  | none=>none
 | _=>none
def q(o:Option zW):Option AOp:=o.map .q
def al(o:Option wU):Option AOp:=o.map .a
def xx(o:Option XOp):Option AOp:=o.map .x
def aMh(b:Builtin)(as:List Operand)(ts:List TypeId):Option AOp:=
 match b with
 | .copy=>match as,ts with
  | [d,s],[t,_]=>match kT P t with
   | some (_,i)=>xx do some (.copy i.size (←eX P d) (←eX P s))
   | none=>none
  | _,_=>none
 | _=>none
def pH(o:Op):Option AOp:=
 match o with
 | .move x | .assign x=>q do some (.mv (←eX P x))
 | .pick c a b=>q do some (.pick (←eX P c) (←eX P a) (←eX P b))
 | .alloc t=>al do some (.alloc t (←jG P t))
 | .box t x=>al do some (.box t (←eX P x))
 | .build t ps=>
  match P.underlying t with
  | some (.struct fs)=>bif oL P fs.toList then q do some (.build (←jG P t) (←wF P (placeOf P fs) ps.toList)) else none
  | some (.array _ e)=>q do let s ←P.info? e;some (.build (←jG P t) (←wF P (fun i=>some (i * s.size,s.size)) ps.toList))
  | _=>none
 | .buildSlice t len ps=>al do
  let (e,i) ←kT P t
  if len * i.size>65536 then none
  some (.bslice e i.size len (←jL P e i) (←xG P ps.toList))
 | .load t a=>q do let (agg,n) ←aAf P t;some (.ld agg n (←eX P a))
 | .store t a v=>xx do let (_,n) ←aAf P t;some (.st n (←eX P a) (←eX P v))
 | .nilCheck x=>q do some (.nilchk (←eX P x))
 | .binOp op t x y _=>q do some (.bin op (eqT P t) (←eX P x) (←eX P y))
 | .unOp op _ x=>q do some (.un op (←eX P x))
 | .convert src dst x=>
  match P.underlying src,P.underlying dst with
  | some (.int _),some (.int k)=>q do some (.conv (.int k) (←eX P x))
  | some .string,some .string=>q do some (.conv .same (←eX P x))
  | some (.int _),some .string=>q do some (.conv .intToStr (←eX P x))
  | some (.slice e),some .string=>match P.underlying e with
   | some (.int .u8)=>q do some (.conv .bytesToStr (←eX P x))
   | _=>none
  | some .string,some (.slice e)=>match P.underlying e with
   | some (.int .u8)=>al do some (.strBytes e (←eX P x))
   | _=>none
  | _,_=>none
 | .makeInterface t x=>match P.underlying t with
  | some (.interface _)=>none
  | some _=>q do some (.mkIface t (←eX P x))
  | none=>none
 | .makeFunc (.method name) a b=>match a.toList,b.toList with
  | [x],[]=>q do some (.mkMeth name (gF P name P.types.toList 0) (←eX P x))
  | _,_=>none
 | .makeFunc (.func f) a b=>q do some (.mkFunc f (←vX P a.toList) (←vX P b.toList))
 | .makeMap _ none=>al (some .mkMap)
 | .makeSlice t l c=>al do let (e,i) ←kT P t;some (.mkSlice e i.size i.bytes (←jL P e i) (←eX P l) (←eX P c))
 | .slice t x lo hi mx=>bif mx.isSome && hi.isNone then none else
  match P.underlying t with
  | some .string=>q do some (.slc .str (←eX P x) (←lC P lo) (←lC P hi) (←lC P mx))
  | some (.slice e)=>q do let i ←P.info? e;some (.slc (.slice i.size) (←eX P x) (←lC P lo) (←lC P hi) (←lC P mx))
  | some (.array n e)=>q do let i ←P.info? e;some (.slc (.arr n i.size) (←eX P x) (←lC P lo) (←lC P hi) (←lC P mx))
  | _=>none
 | .fieldAddr t x f=>match P.underlying t with
  | some (.struct fs)=>q do
   let f ←fs[f]?
   let i ←P.info? f.type
   if i.size=0 then none
   some (.faddr f.offset (←eX P x))
  | _=>none
 | .field t x f=>match P.underlying t with
  | some (.struct fs)=>q do
   let f ←fs[f]?
   let (agg,n) ←aAf P f.type
   some (.fld agg f.offset n (←eX P x))
  | _=>none
 | .indexAddr t x ix=>match P.underlying t with
  | some (.slice e)=>q do let i ←P.info? e;some (.iaddr (.slice i.size) (←eX P x) (←eX P ix))
  | some (.array n e)=>q do let i ←P.info? e;some (.iaddr (.arr n i.size) (←eX P x) (←eX P ix))
  | _=>none
 | .index t x ix=>match P.underlying t with
  | some .string=>q do some (.idxStr (←eX P x) (←eX P ix))
  | some (.array n e)=>q do let (agg,s) ←aAf P e;some (.idxArr agg n s (←eX P x) (←eX P ix))
  | _=>none
 | .lookup t m k ok=>match P.underlying t with
  | some (.map kt et)=>q do some (.lookup (←aBq P kt) (←aCI P et) ok (←eX P m) (←eX P k))
  | _=>none
 | .mapUpdate t m k v | .insert t m k v=>match P.underlying t with
  | some (.map kt _)=>xx do some (.mapUpd (←aBq P kt) (←eX P m) (←eX P k) (←eX P v))
  | _=>none
 | .typeAssert x _ t ok=>match P.underlying t with
  | some (.interface _)=>none
  | some _=>q do some (.tassert t (←aCI P t) ok (←eX P x))
  | none=>none
 | .extract x i=>q do some (.extract (←eX P x) i)
 | .call {callee:=.value f,args,.. }=>match aJu P f with
  | some k=>xx do some (.ext k (←vX P args.toList))
  | none=>xx do some (.call (←eX P f) (←vX P args.toList))
 | .call {callee:=.invoke r name,args,.. }=>xx do some (.inv (gF P name P.types.toList 0) (←eX P r) (←vX P args.toList))
 | .call {callee:=.builtin b,args,argTypes}=>
  match b,args.toList,argTypes.toList with
  | .len,[x],[t]=>match P.underlying t with
   | some .string=>q do some (.lenStr (←eX P x))
   | some (.slice _)=>q do some (.lenSl (←eX P x))
   | some (.array n _)=>q (some (.lenArr n))
   | some (.map _ _)=>q do some (.lenMap (←eX P x))
   | _=>none
  | .cap,[x],[t]=>match P.underlying t with
   | some (.slice _)=>q do some (.capSl (←eX P x))
   | _=>none
  | .max,xs,_=>q do some (.minmax true (←vX P xs))
  | .min,xs,_=>q do some (.minmax false (←vX P xs))
  | .append,[s,x],[t,u]=>match kT P t with
   | some (e,i)=>bif aNs P u i && (jL P e i).isSome then xx do some (.app e i.size i.bytes (←eX P s) (←eX P x)) else none
   | none=>none
  | .clear,[x],[t]=>match kT P t with
   | some (e,i)=>xx do some (.clr (←jL P e i) (←eX P x))
   | none=>none
  | b,as,ts=>aMh P b as ts
 | _=>none
def aA8(ops:Array Oper):Option (Nat×Bool)→Option (Option (Nat×Bool))
 | none=>some none
 | some (j,w)=>match (ops[j]?).bind (·.dst) with
  | some d=>some (some (d,w))
  | none=>none
def yB(nt:Nat):Option Tmp→Bool
 | some d=>Nat.blt d nt
 | none=>true
def aI0(nt:Nat)(ops:Array Oper)(o:Oper)(mask:Nat):Option AO:=
 bif yB nt o.dst then
  match aA8 ops o.guard with
  | some g=>match pH P o.op with
   | some op=>some ⟨o.dst,op,g,mask⟩
   | none=>some ⟨o.dst,.x .bad,g,mask⟩
  | none=>none
 else none
def vA(nt:Nat)(ops:Array Oper):List Oper→List Nat→Option (List AO)
 | [],_=>some []
 | o::os,ms=>match aI0 P nt ops o (ms.headD 0),vA nt ops os ms.tail with
  | some a,some as=>some (a::as)
  | _,_=>none
def cK.rd(x:cK):List Nat:=
 match x with
 | .t i=>[i]
 | .c _=>[]
def rds:List cK→List Nat
 | []=>[]
 | x::xs=>x.rd++rds xs
def rdo(x:Option cK):List Nat:=
 match x with
 | some x=>x.rd
 | none=>[]
def rdp:List (Nat×Nat×cK)→List Nat
 | []=>[]
 | (_,_,x)::ps=>x.rd++rdp ps
def aPK:List (Nat×cK)→List Nat
 | []=>[]
 | (_,x)::ps=>x.rd++aPK ps
def zW.rd(o:zW):List Nat:=
 match o with
 | .mv x | .ld _ _ x | .nilchk x | .un _ x | .conv _ x | .mkIface _ x | .faddr _ x | .fld _ _ _ x | .tassert _ _ _ x | .extract x _ | .lenStr x | .lenSl x | .lenMap x | .capSl x | .mkMeth _ _ x=>x.rd
 | .pick c a b=>c.rd++(a.rd++b.rd)
 | .build _ ps=>rdp ps
 | .bin _ _ x y | .iaddr _ x y | .idxArr _ _ _ x y | .idxStr x y | .lookup _ _ _ x y=>x.rd++y.rd
 | .mkFunc _ a b=>rds a++rds b
 | .slc _ x lo hi mx=>x.rd++(rdo lo++(rdo hi++rdo mx))
 | .lenArr _=>[]
 | .minmax _ xs=>rds xs
def wU.rd(o:wU):List Nat:=
 match o with
 | .alloc _ _ | .mkMap=>[]
 | .box _ x | .strBytes _ x=>x.rd
 | .bslice _ _ _ _ ps=>aPK ps
 | .mkSlice _ _ _ _ l c=>l.rd++c.rd
def XOp.rd(o:XOp):List Nat:=
 match o with
 | .st _ x v=>x.rd++v.rd
 | .call f args | .inv _ f args=>f.rd++rds args
 | .app _ _ _ s x | .copy _ s x | .mapDel _ s x=>s.rd++x.rd
 | .mapUpd _ m k v=>m.rd++(k.rd++v.rd)
 | .clr _ x=>x.rd
 | .ext _ args=>rds args
 | .bad=>[]
def AOp.rd(o:AOp):List Nat:=
 match o with
 | .q o=>o.rd
 | .a o=>o.rd
 | .x o=>o.rd
def AO.touch(o:AO):List Nat:=o.dst.toList++((o.grd.map (·.1)).toList++o.op.rd)
def inL(t:Nat):List Nat→Bool
 | []=>false
 | u::l=>bif Nat.beq t u then true else inL t l
def meets(d:Option Nat)(b:List Nat):Bool:=
 match d with
 | some d=>inL d b
 | none=>false
def aF1(i:Nat)(d:Option Nat)(tch:List Nat):List AO→Bool
 | []=>true
 | b::l=>(bif meets d b.touch || meets b.dst tch then Nat.testBit b.mask i else true) && aF1 i d tch l
def aJy:Nat→List AO→Bool
 | _,[]=>true
 | i,a::l=>aF1 i a.dst a.touch l && aJy (i+1) l
def aQi(l:List AO):Bool:=aJy 0 l
def aCn:Nat→List Oper→Bool
 | _,[]=>true
 | i,o::l=>o.after.all (fun e=> !Region.binds .any e || Nat.blt e.on i) && aCn (i+1) l
def aEX(nt:Nat)(ops:Array Oper):Option AC:=
 match vA P nt ops ops.toList (CheckFast.beforeL ops.toList 0 []) with
 | some aos=>bif aCn 0 ops.toList && aQi aos then some (.drw aos) else none
 | none=>none
def jZ(nt:Nat):Code→Option AC
 | .skip=>some .skip
 | .seq a b=>match jZ nt a,jZ nt b with
  | some a,some b=>some (.seq a b)
  | _,_=>none
 | .cond c a b=>match eX P c,jZ nt a,jZ nt b with
  | some c,some a,some b=>some (.cond c a b)
  | _,_,_=>none
 | .block id c=>(jZ nt c).map (.block id)
 | .loop c=>(jZ nt c).map .loop
 | .exit id=>some (.exit id)
 | .ret=>some .ret
 | .region _ ops d=>bif d then aEX P nt ops else(vA P nt ops ops.toList []).map .reg
 | .rangeFunc f ps as bd=>bif ps.toList.all (fun p=>Nat.blt p nt) then match eX P f,jZ nt as,jZ nt bd with
  | some f,some as,some bd=>some (.rng f ps.toList as bd)
  | _,_,_=>none
  else none
 | _=>none
def aF9:List ResultVar→Option (List RV)
 | []=>some []
 | .tmp t::rs=>(aF9 rs).map (.t t:: ·)
 | .cell a t::rs=>match aAf P t,aF9 rs with
  | some (agg,n),some rs=>some (.cell a agg n::rs)
  | _,_=>none
def cFn(fn:Func):Option cV:=
 bif fn.name== "runtime.NumGoroutine" then none else
 match fn.body with
 | some c=>match jZ P fn.ntmps c,aF9 P fn.results.toList with
  | some c,some rs=>some ⟨fn.ntmps,rs,c⟩
  | _,_=>none
 | none=>none
end
end Go.Ev
