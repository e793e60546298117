import GoSem.Dispatch
import Derived.CheckFast
namespace Go.Ev
theorem Aa:type_of% @decide_eq_false:=@decide_eq_false
theorem Ab:type_of% @decide_eq_true:=@decide_eq_true
theorem Ac.{u}:type_of% @List.forall_mem_cons.{u}:=@List.forall_mem_cons.{u}
theorem Ad.{u}:type_of% @List.getElem?_eq_getElem.{u}:=@List.getElem?_eq_getElem.{u}
theorem Ae:type_of% @Nat.lt_of_lt_of_le:=@Nat.lt_of_lt_of_le
theorem Af.{u}:type_of% @List.getElem?_eq_some_iff.{u}:=@List.getElem?_eq_some_iff.{u}
theorem Ag.{u}:type_of% @List.getD_eq_getElem?_getD.{u}:=@List.getD_eq_getElem?_getD.{u}
theorem Ah:type_of% @Nat.le_refl:=@Nat.le_refl
theorem Ai:type_of% @Int.ofNat_eq_natCast:=@Int.ofNat_eq_natCast
theorem Aj:type_of% @Nat.ble_eq_true_of_le:=@Nat.ble_eq_true_of_le
theorem Ak.{u}:type_of% @Option.some.injEq.{u}:=@Option.some.injEq.{u}
theorem Al.{u}:type_of% @List.length_append.{u}:=@List.length_append.{u}
theorem Am.{u}:type_of% @List.length_cons.{u}:=@List.length_cons.{u}
theorem An:type_of% @not_false_eq_true:=@not_false_eq_true
theorem Ao.{u}:type_of% @List.mem_of_getElem?.{u}:=@List.mem_of_getElem?.{u}
theorem Ap.{u,v}:type_of% @Option.map_eq_some_iff.{u,v}:=@Option.map_eq_some_iff.{u,v}
theorem Aq:type_of% @Bool.false_eq_true:=@Bool.false_eq_true
theorem Ar:type_of% @Nat.le_of_ble_eq_true:=@Nat.le_of_ble_eq_true
theorem Au.{u}:type_of% @Bool.cond_eq_ite.{u}:=@Bool.cond_eq_ite.{u}
theorem Av:type_of% @Nat.zero_add:=@Nat.zero_add
theorem Aw:type_of% @Nat.beq_eq:=@Nat.beq_eq
theorem Ax.{u,v}:type_of% @List.length_map.{u,v}:=@List.length_map.{u,v}
theorem Ay.{u}:type_of% @List.take_of_length_le.{u}:=@List.take_of_length_le.{u}
theorem Az.{u}:type_of% @List.length_replicate.{u}:=@List.length_replicate.{u}
theorem Ba:type_of% @Nat.le_trans:=@Nat.le_trans
theorem Bb.{u}:type_of% @Array.getD_eq_getD_getElem?.{u}:=@Array.getD_eq_getD_getElem?.{u}
theorem Bc.{u,v}:type_of% @List.getElem?_map.{u,v}:=@List.getElem?_map.{u,v}
theorem Bd:type_of% @Bool.not_true:=@Bool.not_true
theorem Be.{u}:type_of% @List.length_set.{u}:=@List.length_set.{u}
theorem Bf.{u}:type_of% @List.take_succ_cons.{u}:=@List.take_succ_cons.{u}
theorem Bg.{u}:type_of% @List.length_nil.{u}:=@List.length_nil.{u}
theorem Bh.{u}:type_of% @List.getElem?_append_right.{u}:=@List.getElem?_append_right.{u}
theorem Bi.{u}:type_of% @List.take_zero.{u}:=@List.take_zero.{u}
theorem Bj.{u}:type_of% @List.mem_append.{u}:=@List.mem_append.{u}
theorem Bk:type_of% @Bool.not_false:=@Bool.not_false
theorem Bl.{u}:type_of% @List.append_assoc.{u}:=@List.append_assoc.{u}
theorem Bm.{u}:type_of% @List.length_singleton.{u}:=@List.length_singleton.{u}
theorem Bn.{u}:type_of% @List.take_add_one.{u}:=@List.take_add_one.{u}
theorem Bo.{u}:type_of% @List.cons_append.{u}:=@List.cons_append.{u}
theorem Bp.{u}:type_of% @List.nil_append.{u}:=@List.nil_append.{u}
theorem Bq.{u}:type_of% @List.mem_cons.{u}:=@List.mem_cons.{u}
theorem Br:type_of% @Nat.add_zero:=@Nat.add_zero
theorem Bs.{u}:type_of% @List.length_take.{u}:=@List.length_take.{u}
theorem Bt.{u}:type_of% @List.take_length.{u}:=@List.take_length.{u}
theorem Bu.{u}:type_of% @List.getElem?_append_left.{u}:=@List.getElem?_append_left.{u}
theorem Bv:type_of% @Bool.and_eq_true:=@Bool.and_eq_true
theorem Bw.{u}:type_of% @if_false.{u}:=@if_false.{u}
theorem Bx:type_of% @Nat.eq_of_beq_eq_true:=@Nat.eq_of_beq_eq_true
theorem Bz:type_of% @not_true_eq_false:=@not_true_eq_false
theorem Ca.{u}:type_of% @List.mem_singleton.{u}:=@List.mem_singleton.{u}
theorem Cb:type_of% @Bool.eq_iff_iff:=@Bool.eq_iff_iff
theorem Cc.{u}:type_of% @Array.length_toList.{u}:=@Array.length_toList.{u}
theorem Cd.{u}:type_of% @Option.some.inj.{u}:=@Option.some.inj.{u}
theorem Ce.{u,v}:type_of% @congrArg.{u,v}:=@congrArg.{u,v}
theorem Cf.{u}:type_of% @Array.getElem?_eq_some_iff.{u}:=@Array.getElem?_eq_some_iff.{u}
theorem Cg.{u}:type_of% @List.length_eq_zero_iff.{u}:=@List.length_eq_zero_iff.{u}
theorem Ch:type_of% @Bool.eq_false_iff:=@Bool.eq_false_iff
theorem Ci.{u}:type_of% @List.getElem?_eq_none.{u}:=@List.getElem?_eq_none.{u}
theorem Cj:type_of% @Nat.zero_le:=@Nat.zero_le
theorem Ck:type_of% @Nat.add_assoc:=@Nat.add_assoc
theorem Cl.{u}:type_of% @List.mem_cons_of_mem.{u}:=@List.mem_cons_of_mem.{u}
theorem Cm:type_of% @Int.toNat_natCast:=@Int.toNat_natCast
theorem Cn.{u}:type_of% @List.drop_zero.{u}:=@List.drop_zero.{u}
theorem Co.{u}:type_of% @List.getElem_mem.{u}:=@List.getElem_mem.{u}
theorem Cp.{u}:type_of% @Ne.symm.{u}:=@Ne.symm.{u}
theorem Cq:type_of% @of_decide_eq_true:=@of_decide_eq_true
theorem Cr.{u}:type_of% @Array.getElem?_toList.{u}:=@Array.getElem?_toList.{u}
theorem Ct.{u,v}:type_of% @List.map_congr_left.{u,v}:=@List.map_congr_left.{u,v}
theorem Cu.{u,v}:type_of% @List.map_append.{u,v}:=@List.map_append.{u,v}
theorem Cv.{u}:type_of% @List.append_nil.{u}:=@List.append_nil.{u}
theorem Cw.{u,v}:type_of% @List.map_cons.{u,v}:=@List.map_cons.{u,v}
theorem Cx.{u,v}:type_of% @List.flatMap_cons.{u,v}:=@List.flatMap_cons.{u,v}
theorem Cy.{u}:type_of% @List.reverse_cons.{u}:=@List.reverse_cons.{u}
theorem Cz.{u}:type_of% @List.mem_of_mem_take.{u}:=@List.mem_of_mem_take.{u}
theorem Da.{u}:type_of% @List.pairwise_iff_getElem.{u}:=@List.pairwise_iff_getElem.{u}
theorem Db.{u}:type_of% @List.drop_eq_getElem_cons.{u}:=@List.drop_eq_getElem_cons.{u}
theorem Dc.{u}:type_of% @List.drop_of_length_le.{u}:=@List.drop_of_length_le.{u}
theorem Dd:type_of% @Nat.lt_or_ge:=@Nat.lt_or_ge
theorem De:type_of% @Nat.sub_self:=@Nat.sub_self
theorem Dg.{u}:type_of% @List.getElem?_replicate.{u}:=@List.getElem?_replicate.{u}
theorem Dh:type_of% @Nat.mul_le_mul_right:=@Nat.mul_le_mul_right
theorem Di.{u}:type_of% @List.getElem?_append.{u}:=@List.getElem?_append.{u}
theorem Dj.{u}:type_of% @List.getElem?_of_mem.{u}:=@List.getElem?_of_mem.{u}
theorem Dk.{u,v}:type_of% @Array.toList_map.{u,v}:=@Array.toList_map.{u,v}
theorem Dl.{u}:type_of% @List.length_drop.{u}:=@List.length_drop.{u}
theorem Dm.{u}:type_of% @List.getElem?_set.{u}:=@List.getElem?_set.{u}
theorem Dn.{u}:type_of% @List.take_append_drop.{u}:=@List.take_append_drop.{u}
theorem Dp.{u}:type_of% @List.mem_append_right.{u}:=@List.mem_append_right.{u}
theorem Dq:type_of% @Nat.succ_mul:=@Nat.succ_mul
theorem Dr:type_of% @Nat.lt_of_le_of_lt:=@Nat.lt_of_le_of_lt
theorem Dt:type_of% @Nat.eq_zero_or_pos:=@Nat.eq_zero_or_pos
theorem Du:type_of% @decide_eq_true_iff:=@decide_eq_true_iff
theorem Dw.{u}:type_of% @List.getElem?_cons_succ.{u}:=@List.getElem?_cons_succ.{u}
theorem Dx.{u}:type_of% @if_true.{u}:=@if_true.{u}
theorem Dy:type_of% @List.getElem?_range:=@List.getElem?_range
theorem Dz:type_of% @Nat.add_mul:=@Nat.add_mul
theorem Ea.{u}:type_of% @Array.getElem?_eq_getElem.{u}:=@Array.getElem?_eq_getElem.{u}
theorem Eb.{u}:type_of% @List.singleton_append.{u}:=@List.singleton_append.{u}
theorem Ec.{u}:type_of% @List.all_eq_true.{u}:=@List.all_eq_true.{u}
theorem Ed.{u}:type_of% @List.mem_cons_self.{u}:=@List.mem_cons_self.{u}
theorem Ee.{u,v}:type_of% @List.mem_map.{u,v}:=@List.mem_map.{u,v}
theorem Ef.{u}:type_of% @List.mem_of_mem_drop.{u}:=@List.mem_of_mem_drop.{u}
theorem Eg.{u}:type_of% @List.mem_append_left.{u}:=@List.mem_append_left.{u}
theorem Eh:type_of% @Bool.false_and:=@Bool.false_and
theorem Ei.{u,v}:type_of% @Option.bind_eq_some_iff.{u,v}:=@Option.bind_eq_some_iff.{u,v}
theorem Ej.{u,v}:type_of% @List.foldl_cons.{u,v}:=@List.foldl_cons.{u,v}
theorem Ek.{u}:type_of% @Array.ext'.{u}:=@Array.ext'.{u}
theorem Em:type_of% @Bool.or_eq_true:=@Bool.or_eq_true
theorem En:type_of% @Nat.mul_one:=@Nat.mul_one
theorem Eo:type_of% @Bool.true_and:=@Bool.true_and
theorem Ep:type_of% @Nat.lt_succ_self:=@Nat.lt_succ_self
theorem Eq:type_of% @Nat.le_max_right:=@Nat.le_max_right
theorem Er.{u}:type_of% @List.getElem?_drop.{u}:=@List.getElem?_drop.{u}
theorem Es:type_of% @Int.natCast_nonneg:=@Int.natCast_nonneg
theorem Et:type_of% @List.mem_range:=@List.mem_range
theorem Eu.{u,v}:type_of% @Option.map_some.{u,v}:=@Option.map_some.{u,v}
theorem Ew:type_of% @Nat.le_max_left:=@Nat.le_max_left
theorem Ex.{u}:type_of% @List.cons.injEq.{u}:=@List.cons.injEq.{u}
theorem Ey.{u}:type_of% @List.getElem?_take_of_lt.{u}:=@List.getElem?_take_of_lt.{u}
theorem Ez:type_of% @Nat.ble_eq:=@Nat.ble_eq
theorem Fa.{u}:type_of% @Array.getElem?_push.{u}:=@Array.getElem?_push.{u}
theorem Fb.{u}:type_of% @List.ext_getElem.{u}:=@List.ext_getElem.{u}
theorem Fc.{u}:type_of% @Option.getD_some.{u}:=@Option.getD_some.{u}
theorem Fd:type_of% @Nat.le_add_right:=@Nat.le_add_right
theorem Fe.{u}:type_of% @Option.isSome_none.{u}:=@Option.isSome_none.{u}
theorem Ff:type_of% @Nat.zero_mul:=@Nat.zero_mul
theorem Fg:type_of% @Nat.two_pow_pos:=@Nat.two_pow_pos
theorem Fi:type_of% @decide_eq_true_eq:=@decide_eq_true_eq
theorem Fj:type_of% @List.length_range:=@List.length_range
theorem Fk.{u,v,w}:type_of% @List.map_map.{u,v,w}:=@List.map_map.{u,v,w}
theorem Fm:type_of% @Nat.add_comm:=@Nat.add_comm
theorem Fp.{u,v,w}:type_of% @getElem!_pos.{u,v,w}:=@getElem!_pos.{u,v,w}
noncomputable section
inductive T(α:Type) where
 | e:T α
 | n (l:T α) (v:Option α) (r:T α):T α
def bK{α:Sort _}(c:Bool)(a b:α):α:=Bool.rec b a c
def aZ{α β:Type}(x:Option α)(f:α→Option β):Option β:=Option.rec none f x
namespace T
variable {α:Type}
def get(t:T α):Nat→Option α:=
 T.rec (motive:=fun _=>Nat→Option α) (fun _=>none)
  (fun _ v _ gl gr k=>bK (Nat.beq k 0) v (bK (Nat.beq (Nat.mod k 2) 1) (gl (Nat.div k 2)) (gr (Nat.sub (Nat.div k 2) 1)))) t
def single(f:Nat):Nat→Option α→T α:=
 Nat.rec (motive:=fun _=>Nat→Option α→T α) (fun _ _=>.e)
  (fun _ ih k x=>bK (Nat.beq k 0) (.n .e x .e) (bK (Nat.beq (Nat.mod k 2) 1) (.n (ih (Nat.div k 2) x) none .e) (.n .e none (ih (Nat.sub (Nat.div k 2) 1) x)))) f
def set(t:T α):Nat→Option α→T α:=
 T.rec (motive:=fun _=>Nat→Option α→T α) (fun k x=>single (Nat.succ k) k x)
  (fun l v r sl sr k x=>bK (Nat.beq k 0) (.n l x r) (bK (Nat.beq (Nat.mod k 2) 1) (.n (sl (Nat.div k 2) x) v r) (.n l v (sr (Nat.sub (Nat.div k 2) 1) x)))) t
end T
inductive AV where
 | bool (b:Bool)
 | int (k:IntKind) (n:Int)
 | str (s:List Nat)
 | ptr (b off:Nat)
 | nilp
 | sl (b off len cap:Nat) (o:Bool)
 | nilsl
 | emp        -- an empty slice,not nil,of unknown place and capacity
 | map (b:Nat)
 | nilmap
 | fn (f:Nat) (first captured:List AV)
 | nilfn
 | yld (b:Nat)
 | iface (t:Nat) (v:AV)
 | niliface
 | mth (name:String) (tbl:List (Nat×Nat×Option (Bool×Nat))) (v:AV)     -- a method of an interface value,bound
 | agg (cs:List AV)
 | tup (vs:List AV)
 deriving Inhabited
def AV.cells(v:AV):Option (List AV):=
 match v with
 | .agg cs=>some cs
 | .tup _=>none
 | v=>some [v]
def AV.undef:AV:=.tup []
inductive cF where
 | t (i:Nat)
 | c (v:AV)
 deriving Inhabited
inductive EqP where
 | bool | int | str | ptr | slice | map | func | iface | no
 deriving Inhabited,DecidableEq
inductive oZ where
 | p (e:EqP)
 | struct (fs:List (Nat×EqP))
 deriving Inhabited
inductive aHz where
 | int (k:IntKind)
 | same
 | bytesToStr
 | intToStr
 deriving Inhabited
inductive SlK where
 | str
 | slice (size:Nat)
 | arr (n size:Nat)
 deriving Inhabited
inductive IxK where
 | arr (n size:Nat)
 | slice (size:Nat)
 deriving Inhabited
inductive QOp where
 | mv (x:cF)
 | pick (c a b:cF)
 | build (zero:List AV) (parts:List (Nat×Nat×cF))
 | ld (agg:Bool) (n:Nat) (x:cF)
 | nilchk (x:cF)
 | bin (op:BinOp) (e:oZ) (x y:cF)
 | un (op:UnOp) (x:cF)
 | conv (k:aHz) (x:cF)
 | mkIface (t:Nat) (x:cF)
 | mkFunc (f:Nat) (first captured:List cF)
 | slc (k:SlK) (x:cF) (lo hi mx:Option cF)
 | faddr (off:Nat) (x:cF)
 | fld (agg:Bool) (off n:Nat) (x:cF)
 | iaddr (k:IxK) (x ix:cF)
 | idxArr (agg:Bool) (n size:Nat) (x ix:cF)
 | idxStr (x ix:cF)
 | lookup (e:oZ) (zero:AV) (commaOk:Bool) (m key:cF)
 | tassert (t:Nat) (zero:AV) (commaOk:Bool) (x:cF)
 | extract (x:cF) (i:Nat)
 | lenArr (n:Nat)
 | lenStr (x:cF)
 | lenSl (x:cF)
 | lenMap (x:cF)
 | capSl (x:cF)
 | minmax (isMax:Bool) (xs:List cF)
 | mkMeth (name:String) (tbl:List (Nat×Nat×Option (Bool×Nat))) (x:cF)
 deriving Inhabited
inductive vZ where
 | alloc (t:Nat) (cells:List AV)
 | box (t:Nat) (x:cF)
 | bslice (t size len:Nat) (zero:List AV) (parts:List (Nat×cF))
 | mkSlice (t size bytes:Nat) (zero:List AV) (l c:cF)
 | mkMap
 | strBytes (t:Nat) (x:cF)
 deriving Inhabited
inductive aID where
 | add64 | idxByte | idxStr
 deriving Inhabited
inductive XOp where
 | st (n:Nat) (x v:cF)
 | call (f:cF) (args:List cF)
 | inv (tbl:List (Nat×Nat×Option (Bool×Nat))) (recv:cF) (args:List cF)
 | app (t size bytes:Nat) (s x:cF)
 | copy (size:Nat) (d s:cF)
 | mapUpd (e:oZ) (m k v:cF)
 | mapDel (e:oZ) (m k:cF)
 | clr (zero:List AV) (x:cF)
 | ext (k:aID) (args:List cF)
 | bad
 deriving Inhabited
inductive AOp where
 | q (o:QOp)
 | a (o:vZ)
 | x (o:XOp)
 deriving Inhabited
structure AO where
 dst:Option Nat
 op:AOp
 grd:Option (Nat×Bool)
 mask:Nat      -- the operations before it (drawn regions)
 deriving Inhabited
inductive AC where
 | skip
 | seq (a b:AC)
 | cond (c:cF) (a b:AC)
 | block (id:Nat) (c:AC)
 | loop (c:AC)
 | exit (id:Nat)
 | ret
 | reg (ops:List AO)
 | drw (ops:List AO)
 | rng (f:cF) (params:List Nat) (assign body:AC)
 | dfr (ops:List AO) (f:cF) (args:List cF)
 deriving Inhabited
inductive RV where
 | t (i:Nat)
 | cell (a:Nat) (agg:Bool) (n:Nat)
 deriving Inhabited
structure cW where
 ntmps:Nat
 res:List RV
 body:AC
 deriving Inhabited
abbrev Fr:=T AV
inductive LSt where
 | ready | busy | done | exhausted
 deriving DecidableEq,Inhabited
inductive Out where
 | normal
 | exit (id:Nat)
 | ret
 deriving Inhabited
inductive AB where
 | cells (cs:List AV) (opn:Bool) (size:Nat)     -- opn:there may be more room behind;size:the cells of an element then
 | ro (cs:List AV)
 | map (es:List (AV×AV))
 | loop (st:LSt) (pend:Option Out) (fr:Fr) (params:List Nat) (assign body:AC)
 | dfd
 deriving Inhabited
structure St where
 h:T AB
 nx:Nat
def aH(i:Nat)(F:Fr):AV:=Option.rec (motive:=fun _=>AV) .undef (fun v=>v) (F.get i)
def aOm(v:AV)(_:Fr):AV:=v
def cF.val(x:cF):Fr→AV:=cF.rec (motive:=fun _=>Fr→AV) aH aOm x
def dF(l:List cF):Fr→List AV:=List.rec (motive:=fun _=>Fr→List AV) (fun _=>[]) (fun x _ ih F=>x.val F::ih F) l
def nth{α:Type}(l:List α):Nat→Option α:=List.rec (motive:=fun _=>Nat→Option α) (fun _=>none) (fun x _ ih k=>bK (Nat.beq k 0) (some x) (ih (Nat.sub k 1))) l
def aGv{α:Type}(l:List α):Nat→List α:=List.rec (motive:=fun _=>Nat→List α) (fun _=>[]) (fun x xs ih k=>bK (Nat.beq k 0) (x::xs) (ih (Nat.sub k 1))) l
def aEE{α:Type}(l:List α):Nat→Option (List α):=
 List.rec (motive:=fun _=>Nat→Option (List α)) (fun n=>bK (Nat.beq n 0) (some []) none)
  (fun x _ ih n=>bK (Nat.beq n 0) (some []) (aZ (ih (Nat.sub n 1)) fun r=>some (x::r))) l
def aC6{α:Type}(vs:List α):List α→Option (List α):=
 List.rec (motive:=fun _=>List α→Option (List α)) (fun l=>some l)
  (fun v _ ih l=>List.rec (motive:=fun _=>Option (List α)) none (fun _ xs _=>aZ (ih xs) fun r=>some (v::r)) l) vs
def put{α:Type}(l:List α):Nat→List α→Option (List α):=
 List.rec (motive:=fun _=>Nat→List α→Option (List α)) (fun k vs=>bK (Nat.beq k 0) (aC6 vs []) none)
  (fun x xs ih k vs=>bK (Nat.beq k 0) (aC6 vs (x::xs)) (aZ (ih (Nat.sub k 1) vs) fun r=>some (x::r))) l
def jJ{α:Type}(l:List α):Nat:=List.rec (motive:=fun _=>Nat) 0 (fun _ _ ih=>Nat.succ ih) l
def wJ{α:Type}(l m:List α):List α:=List.rec (motive:=fun _=>List α) m (fun x _ ih=>x::ih) l
def repeatL{α:Type}(z:List α)(n:Nat):List α:=Nat.rec (motive:=fun _=>List α) [] (fun _ ih=>wJ z ih) n
def cut{α:Type}(l:List α)(i n:Nat):Option (List α):=aEE (aGv l i) n
def oW(k:IntKind):Nat:=
 match k with
 | .i8=>127 | .i16=>32767 | .i32=>2147483647 | .i64=>9223372036854775807
 | .u8=>255 | .u16=>65535 | .u32=>4294967295 | .u64=>18446744073709551615
def nat(k:IntKind)(n:Nat):Int:=bK (Nat.ble n (oW k)) (.ofNat n) (k.wrap (.ofNat n))
def aDe(k:IntKind):Bool:=
 match k with
 | .i8 | .i16 | .i32 | .i64=>true
 | _=>false
def neg(k:IntKind)(n:Nat):Int:=bK (aDe k) (bK (Nat.ble n (oW k)) (.negSucc n) (k.wrap (.negSucc n))) (k.wrap (.negSucc n))
def aJe(k:IntKind)(n:Nat):Bool:=Nat.ble n (oW k)
def aET(k:IntKind)(n:Int):Int:=Int.rec (motive:=fun _=>Int) (fun m=>nat k m) (fun m=>neg k m) n
def aBw(k:IntKind)(a b:Nat):Int:=bK (Nat.ble b a) (nat k (Nat.sub a b)) (neg k (Nat.sub (Nat.sub b a) 1))
def aLE(k:IntKind)(x y:Int):Int:=
 Int.rec (motive:=fun _=>Int) (fun a=>Int.rec (motive:=fun _=>Int) (fun b=>nat k (Nat.add a b)) (fun b=>aBw k a (Nat.succ b)) y)
  (fun a=>Int.rec (motive:=fun _=>Int) (fun b=>aBw k b (Nat.succ a)) (fun b=>neg k (Nat.succ (Nat.add a b))) y) x
def aGA(k:IntKind)(x y:Int):Int:=
 Int.rec (motive:=fun _=>Int) (fun a=>Int.rec (motive:=fun _=>Int) (fun b=>aBw k a b) (fun b=>nat k (Nat.add a (Nat.succ b))) y)
  (fun a=>Int.rec (motive:=fun _=>Int) (fun b=>neg k (Nat.add a b)) (fun b=>aBw k b a) y) x
def aGF(k:IntKind)(x y:Int):Int:=
 Int.rec (motive:=fun _=>Int) (fun a=>Int.rec (motive:=fun _=>Int) (fun b=>nat k (Nat.mul a b)) (fun b=>aET k (Int.mul (.ofNat a) (.negSucc b))) y)
  (fun a=>aET k (Int.mul (.negSucc a) y)) x
def ieq(x y:Int):Bool:=
 Int.rec (motive:=fun _=>Bool) (fun a=>Int.rec (motive:=fun _=>Bool) (fun b=>Nat.beq a b) (fun _=>false) y)
  (fun a=>Int.rec (motive:=fun _=>Bool) (fun _=>false) (fun b=>Nat.beq a b) y) x
def ile(x y:Int):Bool:=
 Int.rec (motive:=fun _=>Bool) (fun a=>Int.rec (motive:=fun _=>Bool) (fun b=>Nat.ble a b) (fun _=>false) y)
  (fun a=>Int.rec (motive:=fun _=>Bool) (fun _=>true) (fun b=>Nat.ble b a) y) x
def keq(x y:IntKind):Bool:=Nat.beq (oW x) (oW y)
def aLW(x y:Bool):Bool:=bK x y (bK y false true)
def aQL(k:IntKind)(x y:Int):Option AV:=some (.int k (aLE k x y))
def aQB(k:IntKind)(x y:Int):Option AV:=some (.int k (aGA k x y))
def aQN(k:IntKind)(x y:Int):Option AV:=some (.int k (aGF k x y))
def aMh(k:IntKind)(x y:Int):Option AV:=
 match x,y with
 | .ofNat a,.ofNat b=>bK (Nat.beq b 0) none (some (.int k (nat k (Nat.div a b))))
 | x,y=>bK (ieq y (.ofNat 0)) none (some (.int k (aET k (x.tdiv y))))
def aOf(k:IntKind)(x y:Int):Option AV:=
 match x,y with
 | .ofNat a,.ofNat b=>bK (Nat.beq b 0) none (some (.int k (.ofNat (Nat.mod a b))))
 | x,y=>bK (ieq y (.ofNat 0)) none (some (.int k (x.tmod y)))
def aCr(f:Nat→Nat→Nat)(k:IntKind)(x y:Int):Option AV:=
 match x,y with
 | .ofNat a,.ofNat b=>bK (aJe k a) (bK (aJe k b) (some (.int k (.ofNat (f a b)))) none) none
 | _,_=>none
def aQy:=aCr Nat.land
def iOr:=aCr Nat.lor
def aQi:=aCr Nat.xor
def aQq(_:IntKind)(x y:Int):Option AV:=some (.bool (ieq x y))
def aQH(_:IntKind)(x y:Int):Option AV:=some (.bool (bK (ieq x y) false true))
def aQv(_:IntKind)(x y:Int):Option AV:=some (.bool (bK (ile y x) false true))
def aQf(_:IntKind)(x y:Int):Option AV:=some (.bool (ile x y))
def aQm(_:IntKind)(x y:Int):Option AV:=some (.bool (bK (ile x y) false true))
def aQD(_:IntKind)(x y:Int):Option AV:=some (.bool (ile y x))
def aMo(_:IntKind)(_ _:Int):Option AV:=none
def aLD(op:BinOp):IntKind→Int→Int→Option AV:=
 BinOp.rec (motive:=fun _=>IntKind→Int→Int→Option AV) aQL aQB aQN aMh aOf aQy iOr aQi aMo aMo aMo aQq aQH aQv aQf aQm aQD op
def vY(op:BinOp)(k:IntKind)(x:Int)(b:Nat):Option AV:=
 let n:=bK (Nat.ble b k.bits) b k.bits
 match op with
 | .shl=>some (.int k (aGF k x (.ofNat (Nat.pow 2 n))))
 | .shr=>some (.int k (x.fdiv (.ofNat (Nat.pow 2 n))))
 | _=>none
def aAz(op:BinOp)(k:IntKind)(x y:Int):Option AV:=
 match y with
 | .ofNat b=>vY op k x b
 | _=>none
def eE(op:BinOp):Bool:=BinOp.rec (motive:=fun _=>Bool) false false false false false false false false true true false false false false false false false op
def pG:List Nat→List Nat→Bool
 | _,[]=>false
 | [],_::_=>true
 | a::x,b::y=>bK (Nat.blt a b) true (bK (Nat.beq a b) (pG x y) false)
def lD:List Nat→List Nat→Bool
 | [],[]=>true
 | a::x,b::y=>bK (Nat.beq a b) (lD x y) false
 | _,_=>false
def aIz(op:BinOp)(a b:List Nat):Option AV:=
 match op with
 | .add=>bK (Nat.ble (jJ a+jJ b) 9223372036854775807) (some (.str (wJ a b))) none
 | .eql=>some (.bool (lD a b))
 | .neq=>some (.bool (!lD a b))
 | .lss=>some (.bool (pG a b))
 | .leq=>some (.bool (pG a b || lD a b))
 | .gtr=>some (.bool (!(pG a b || lD a b)))
 | .geq=>some (.bool (!pG a b))
 | _=>none
def partOf(agg:Bool)(cs:List AV)(off n:Nat):Option AV:=
 bK agg (aZ (cut cs off n) fun r=>some (.agg r)) (nth cs off)
def zI:EqP→AV→AV→Option Bool
 | .bool,.bool a,.bool b=>some (aLW a b)
 | .int,.int k a,.int k' b=>bK (keq k k') (some (ieq a b)) none
 | .str,.str a,.str b=>some (lD a b)
 | .ptr,.nilp,.nilp=>some true
 | .ptr,.nilp,.ptr _ _=>some false
 | .ptr,.ptr _ _,.nilp=>some false
 | .slice,.nilsl,.nilsl=>some true
 | .slice,.nilsl,.sl .. =>some false
 | .slice,.sl ..,.nilsl=>some false
 | .slice,.nilsl,.emp=>some false
 | .slice,.emp,.nilsl=>some false
 | .map,.nilmap,.nilmap=>some true
 | .map,.nilmap,.map _=>some false
 | .map,.map _,.nilmap=>some false
 | .func,.nilfn,.nilfn=>some true
 | .func,.nilfn,.fn .. =>some false
 | .func,.fn ..,.nilfn=>some false
 | .iface,.niliface,.iface _ _=>some false
 | .iface,.iface _ _,.niliface=>some false
 | _,_,_=>none
def eqs:List (Nat×EqP)→List AV→List AV→Option Bool
 | [],_,_=>some true
 | (off,e)::fs,xs,ys=>
  match nth xs off,nth ys off with
  | some x,some y=>match zI e x y with
   | some true=>eqs fs xs ys
   | some false=>some false
   | none=>none
  | _,_=>none
def eqv:oZ→AV→AV→Option Bool
 | .p e,x,y=>zI e x y
 | .struct fs,.agg xs,.agg ys=>bK (Nat.beq (jJ xs) (jJ fs)) (bK (Nat.beq (jJ ys) (jJ fs)) (eqs fs xs ys) none) none
 | _,_,_=>none
def aN5(op:BinOp)(e:oZ)(x y:AV):Option AV:=
 match op with
 | .eql=>aZ (eqv e x y) fun b=>some (.bool b)
 | .neq=>aZ (eqv e x y) fun b=>some (.bool (bK b false true))
 | _=>none
def dB(op:BinOp)(k:IntKind)(a:Int)(k':IntKind)(b:Int):Option AV:=
 bK (eE op) (aAz op k a b) (bK (keq k k') (aLD op k a b) none)
def aFb(v:AV):Option (IntKind×Int):=
 match v with
 | .int k a=>some (k,a)
 | _=>none
def aFv(v:AV):Option (List Nat):=
 match v with
 | .str s=>some s
 | _=>none
def eY(op:BinOp)(e:oZ)(x y:AV):Option AV:=
 match aFb x,aFb y with
 | some a,some b=>dB op a.1 a.2 b.1 b.2
 | _,_=>match aFv x,aFv y with
  | some a,some b=>aIz op a b
  | _,_=>aN5 op e x y
def unV(op:UnOp)(x:AV):Option AV:=
 match op,x with
 | .neg,.int k n=>some (.int k (aGA k (.ofNat 0) n))
 | .not,.bool b=>some (.bool (bK b false true))
 | _,_=>none
def jE(b:AB):Option (List AV):=
 match b with
 | .cells cs _ _=>some cs
 | .ro cs=>some cs
 | _=>none
def cK(h:T AB)(b:Nat):Option (List AV):=aZ (h.get b) jE
def wQ(h:T AB)(b off n:Nat):Option (List AV):=aZ (cK h b) fun cs=>cut cs off n
def jL(h:T AB)(b off:Nat):Option AV:=aZ (cK h b) fun cs=>nth cs off
def mO(agg:Bool)(n:Nat)(h:T AB)(b off:Nat):Option AV:=
 bK agg (aZ (wQ h b off n) fun cs=>some (.agg cs)) (jL h b off)
def gM(zero:List AV):List (Nat×Nat×AV)→Option (List AV)
 | []=>some zero
 | (off,n,v)::ps=>aZ v.cells fun cs=>bK (Nat.beq (jJ cs) n) (aZ (put zero off cs) fun z=>gM z ps) none
def bytesOf:List AV→Option (List Nat)
 | []=>some []
 | .int .u8 (.ofNat n)::vs=>bK (Nat.ble n 255) (aZ (bytesOf vs) fun r=>some (n::r)) none
 | _::_=>none
def eZ(v:AV):Option Nat:=
 match v with
 | .int _ (.ofNat n)=>some n
 | _=>none
def iJ(F:Fr)(d:Nat)(x:Option cF):Option Nat:=
 match x with
 | none=>some d
 | some x=>eZ (x.val F)
def qE(e:oZ)(k:AV):List (AV×AV)→Nat→Option (Option (Nat×AV))
 | [],_=>some none
 | (k',v)::es,i=>aZ (eqv e k k') fun b=>bK b (some (some (i,v))) (qE e k es (Nat.succ i))
def oU(e:oZ)(k:AV)(es:List (AV×AV)):Option (Option (Nat×AV)):=aZ (eqv e k k) fun _=>qE e k es 0
def rT(b:AB):Option (List (AV×AV)):=
 match b with
 | .map es=>some es
 | _=>none
def qJ(h:T AB)(m:AV):Option (List (AV×AV)):=
 match m with
 | .nilmap=>some []
 | .map b=>aZ (h.get b) rT
 | _=>none
def jM(isMax:Bool):List AV→AV→Option AV
 | [],x=>some x
 | .int k' b::vs,.int k a=>bK (keq k k')
   (jM isMax vs (.int k (bK isMax (bK (ile b a) a b) (bK (ile a b) a b)))) none
 | _,_=>none
abbrev QF:=Fr→T AB→Option AV
def qMv(x:cF):QF:=fun F _=>some (x.val F)
def xB(v:AV)(a b:cF)(F:Fr):Option AV:=
 match v with
 | .bool t=>some (bK t (a.val F) (b.val F))
 | _=>none
def aPT(c a b:cF):QF:=fun F _=>xB (c.val F) a b F
def fJ(F:Fr):List (Nat×Nat×cF)→List (Nat×Nat×AV)
 | []=>[]
 | (a,b,x)::ps=>(a,b,x.val F)::fJ F ps
def aOk(zero:List AV)(ps:List (Nat×Nat×cF)):QF:=fun F _=>aZ (gM zero (fJ F ps)) fun cs=>some (.agg cs)
def cE(v:AV)(agg:Bool)(n:Nat)(h:T AB):Option AV:=
 match v with
 | .ptr b off=>mO agg n h b off
 | _=>none
def qLd(agg:Bool)(n:Nat)(x:cF):QF:=fun F h=>cE (x.val F) agg n h
def wF{α:Type}(t:Nat):List (Nat×α)→Option α
 | []=>none
 | (u,a)::l=>bK (Nat.beq t u) (some a) (wF t l)
def aGs(n:String)(tbl:List (Nat×Nat×Option (Bool×Nat)))(v:AV):Option AV:=
 match v with
 | .iface t w=>aZ (wF t tbl) fun r=>match r.2,w with
  | none,_=>some (.mth n tbl v)
  | some _,.ptr _ _=>some (.mth n tbl v)
  | _,_=>none
 | _=>none
def vG(v:AV):Option AV:=
 match v with
 | .ptr b o=>some (.ptr b o)
 | .fn f a b=>some (.fn f a b)
 | .iface t v=>some (.iface t v)
 | .yld b=>some (.yld b)
 | .mth n tbl v=>aGs n tbl v
 | _=>none
def aNr(x:cF):QF:=fun F _=>vG (x.val F)
def aQw(op:BinOp)(e:oZ)(x y:cF):QF:=fun F _=>eY op e (x.val F) (y.val F)
def qUn(op:UnOp)(x:cF):QF:=fun F _=>unV op (x.val F)
def aDB(h:T AB)(b off len:Nat):Option AV:=aZ (wQ h b off len) fun cs=>aZ (bytesOf cs) fun s=>some (.str s)
def wZ(k:aHz)(v:AV)(h:T AB):Option AV:=
 match k,v with
 | .int k,.int _ n=>some (.int k (aET k n))
 | .same,.str s=>some (.str s)
 | .bytesToStr,.nilsl=>some (.str [])
 | .bytesToStr,.emp=>some (.str [])
 | .bytesToStr,.sl b off len _ _=>aDB h b off len
 | .intToStr,.int _ (.ofNat n)=>bK (Nat.ble n 127) (some (.str [n])) none
 | _,_=>none
def aPg(k:aHz)(x:cF):QF:=fun F h=>wZ k (x.val F) h
def aK7(t:Nat)(x:cF):QF:=fun F _=>some (.iface t (x.val F))
def aNA(f:Nat)(first cap:List cF):QF:=fun F _=>some (.fn f (dF first F) (dF cap F))
def aDy(s:List Nat)(lo hi mx:Option cF)(F:Fr):Option AV:=
 match mx with
 | some _=>none
 | none=>aZ (iJ F (jJ s) hi) fun h'=>aZ (iJ F 0 lo) fun l=>
   bK (Nat.ble h' (jJ s)) (bK (Nat.ble l h') (aZ (cut s l (h' - l)) fun r=>some (.str r)) none) none
def mB(len cap:Nat)(lo hi mx:Option cF)(F:Fr):Option (Nat×Nat×Nat):=
 aZ (iJ F cap mx) fun m=>aZ (iJ F len hi) fun h=>aZ (iJ F 0 lo) fun l=>
  bK (Nat.ble m cap) (bK (Nat.ble h m) (bK (Nat.ble l h) (some (l,h,m)) none) none) none
def aLX(size b off len cap:Nat)(o:Bool)(lo hi mx:Option cF)(F:Fr):Option AV:=
 aZ (mB len cap lo hi mx F) fun x=>
  let o':=bK o mx.isNone false
  bK (Nat.beq x.2.2 x.1) (bK o' (some .emp) (some (.sl b off (x.2.1 - x.1) (x.2.2 - x.1) false)))
   (some (.sl b (off+x.1 * size) (x.2.1 - x.1) (x.2.2 - x.1) o'))
def aLF(lo hi mx:Option cF)(F:Fr):Option AV:=aZ (mB 0 0 lo hi mx F) fun _=>some .emp
def aMj(lo hi mx:Option cF)(F:Fr):Option AV:=aZ (mB 0 0 lo hi mx F) fun _=>some .nilsl
def aIW(n size b off:Nat)(lo hi mx:Option cF)(F:Fr):Option AV:=
 aZ (mB n n lo hi mx F) fun x=>
  bK (Nat.beq x.2.2 x.1) (some (.sl b off (x.2.1 - x.1) (x.2.2 - x.1) false))
   (some (.sl b (off+x.1 * size) (x.2.1 - x.1) (x.2.2 - x.1) false))
def rR(k:SlK)(v:AV)(lo hi mx:Option cF)(F:Fr):Option AV:=
 match k,v with
 | .str,.str s=>aDy s lo hi mx F
 | .slice size,.sl b off len cap o=>aLX size b off len cap o lo hi mx F
 | .slice _,.nilsl=>aMj lo hi mx F
 | .slice _,.emp=>aLF lo hi mx F
 | .arr n size,.ptr b off=>aIW n size b off lo hi mx F
 | _,_=>none
def aQK(k:SlK)(x:cF)(lo hi mx:Option cF):QF:=fun F _=>rR k (x.val F) lo hi mx F
def aAc(v:AV)(off:Nat):Option AV:=
 match v with
 | .ptr b o=>some (.ptr b (o+off))
 | _=>none
def aOq(off:Nat)(x:cF):QF:=fun F _=>aAc (x.val F) off
def aHM(v:AV)(agg:Bool)(off n:Nat):Option AV:=
 match v with
 | .agg cs=>partOf agg cs off n
 | _=>none
def aQz(agg:Bool)(off n:Nat)(x:cF):QF:=fun F _=>aHM (x.val F) agg off n
def eJ(k:IxK)(v:AV)(i:Nat):Option AV:=
 match k,v with
 | .arr n size,.ptr b off=>bK (Nat.blt i n) (some (.ptr b (off+i * size))) none
 | .slice size,.sl b off len _ _=>bK (Nat.blt i len) (some (.ptr b (off+i * size))) none
 | _,_=>none
def aOX(k:IxK)(x ix:cF):QF:=fun F _=>aZ (eZ (ix.val F)) fun i=>eJ k (x.val F) i
def yD(v:AV)(agg:Bool)(n size i:Nat):Option AV:=
 match v with
 | .agg cs=>bK (Nat.blt i n) (partOf agg cs (i * size) size) none
 | _=>none
def aNf(agg:Bool)(n size:Nat)(x ix:cF):QF:=fun F _=>aZ (eZ (ix.val F)) fun i=>yD (x.val F) agg n size i
def nM(v:AV)(i:Nat):Option AV:=
 match v with
 | .str s=>aZ (nth s i) fun b=>some (.int .u8 (.ofNat b))
 | _=>none
def aM0(x ix:cF):QF:=fun F _=>aZ (eZ (ix.val F)) fun i=>nM (x.val F) i
def aDd(ok:Bool)(v:AV)(b:Bool):AV:=bK ok (.tup [v,.bool b]) v
def pL(r:Option (Nat×AV))(zero:AV)(ok:Bool):Option AV:=
 match r with
 | some (_,v)=>some (aDd ok v true)
 | none=>some (aDd ok zero false)
def aNs(sk:oZ)(zero:AV)(ok:Bool)(m key:cF):QF:=fun F h=>
 aZ (qJ h (m.val F)) fun es=>aZ (oU sk (key.val F) es) fun r=>pL r zero ok
def wL(v:AV)(t:Nat)(zero:AV)(ok:Bool):Option AV:=
 match v with
 | .iface t' v=>bK (Nat.beq t t') (some (aDd ok v true)) (bK ok (some (.tup [zero,.bool false])) none)
 | .niliface=>bK ok (some (.tup [zero,.bool false])) none
 | _=>none
def aLm(t:Nat)(zero:AV)(ok:Bool)(x:cF):QF:=fun F _=>wL (x.val F) t zero ok
def lH(v:AV)(i:Nat):Option AV:=
 match v with
 | .tup vs=>nth vs i
 | _=>none
def aK0(x:cF)(i:Nat):QF:=fun F _=>lH (x.val F) i
def aNy(n:Nat):QF:=fun _ _=>some (.int .i64 (.ofNat n))
def aAN(v:AV):Option AV:=
 match v with
 | .str s=>some (.int .i64 (.ofNat (jJ s)))
 | _=>none
def aNv(x:cF):QF:=fun F _=>aAN (x.val F)
def kJ(v:AV):Option AV:=
 match v with
 | .nilsl=>some (.int .i64 (.ofNat 0))
 | .emp=>some (.int .i64 (.ofNat 0))
 | .sl _ _ n _ _=>some (.int .i64 (.ofNat n))
 | _=>none
def aOZ(x:cF):QF:=fun F _=>kJ (x.val F)
def aNi(x:cF):QF:=fun F h=>aZ (qJ h (x.val F)) fun es=>some (.int .i64 (.ofNat (jJ es)))
def aEb(v:AV):Option AV:=
 match v with
 | .nilsl=>some (.int .i64 (.ofNat 0))
 | .sl _ _ _ c false=>some (.int .i64 (.ofNat c))
 | _=>none
def aOH(x:cF):QF:=fun F _=>aEb (x.val F)
def lR(isMax:Bool)(l:List AV):Option AV:=
 match l with
 | []=>none
 | v::vs=>jM isMax vs v
def aM3(n:String)(tbl:List (Nat×Nat×Option (Bool×Nat)))(x:cF):QF:=fun F _=>some (.mth n tbl (x.val F))
def aNG(mx:Bool)(xs:List cF):QF:=fun F _=>lR mx (dF xs F)
def gT(q:QOp):QF:=
 QOp.rec (motive:=fun _=>QF) qMv aPT aOk qLd aNr aQw qUn aPg aK7 aNA aQK aOq aQz aOX aNf aM0 aNs aLm aK0 aNy aNv aOZ aNi aOH aNG aM3 q
abbrev AF:=Fr→Nat→Option (AV×AB)
def room:Nat:=140737488355328
def aOL(_:Nat)(cells:List AV):AF:=fun _ id=>some (.ptr id 0,.cells cells false 0)
def aQn(_:Nat)(x:cF):AF:=fun F id=>aZ (x.val F).cells fun cs=>some (.ptr id 0,.cells cs false 0)
def jN(size:Nat)(F:Fr):List (Nat×cF)→List (Nat×Nat×AV)
 | []=>[]
 | (i,x)::ps=>(i * size,size,x.val F)::jN size F ps
def aNH(_ size len:Nat)(zero:List AV)(ps:List (Nat×cF)):AF:=fun F id=>
 aZ (gM (repeatL zero len) (jN size F ps)) fun cs=>some (.sl id 0 len len false,.cells cs false 0)
def xD(_ _ bytes:Nat)(zero:List AV)(l c:cF):AF:=fun F id=>
 aZ (eZ (l.val F)) fun l=>aZ (eZ (c.val F)) fun c=>
  bK (Nat.ble l c) (bK (Nat.ble c room) (bK (Nat.ble (bytes * c) room) (some (.sl id 0 l c false,.cells (repeatL zero c) false 0)) none) none) none
def aOE:AF:=fun _ id=>some (.map id,.map [])
def byteCells:List Nat→List AV
 | []=>[]
 | b::bs=>.int .u8 (.ofNat b)::byteCells bs
def sO(v:AV)(id:Nat):Option (AV×AB):=
 match v with
 | .str s=>some (.sl id 0 (jJ s) (jJ s) true,.cells (byteCells s) true 1)
 | _=>none
def aJT(_:Nat)(x:cF):AF:=fun F id=>sO (x.val F) id
def xL(a:vZ):AF:=vZ.rec (motive:=fun _=>AF) aOL aQn aNH xD aOE aJT a
def wA(bl:AB)(S:St)(b off:Nat)(vs:List AV):Option St:=
 match bl with
 | .cells cs o s=>aZ (put cs off vs) fun cs'=>some ⟨S.h.set b (some (.cells cs' o s)),S.nx⟩
 | _=>none
def oT(S:St)(b off:Nat)(vs:List AV):Option St:=aZ (S.h.get b) fun bl=>wA bl S b off vs
def eU(v:AV)(h:T AB)(size n:Nat):Option (List AV):=
 match v with
 | .sl b off _ _ _=>wQ h b off (n * size)
 | .nilsl=>bK (Nat.beq n 0) (some []) none
 | .emp=>bK (Nat.beq n 0) (some []) none
 | .str s=>bK (Nat.beq size 1) (aZ (aEE s n) fun r=>some (byteCells r)) none
 | _=>none
def oC(v:AV):Option Nat:=
 match v with
 | .sl _ _ n _ _=>some n
 | .nilsl=>some 0
 | .emp=>some 0
 | .str s=>some (jJ s)
 | _=>none
def grown(h:T AB)(nx need size:Nat)(cs:List AV):Option (AV×St):=
 some (.sl nx 0 need need true,⟨h.set nx (some (.cells cs true size)),Nat.succ nx⟩)
def aGd(bl:AB)(size b off len cap:Nat)(o:Bool)(n:Nat)(new:List AV)(S:St):Option (AV×St):=
 match bl with
 | .cells cs o' sz=>aZ (cut cs off (len * size)) fun old=>
   bK o
    (bK o' (bK (Nat.beq sz size) (bK (Nat.beq (off+cap * size) (jJ cs)) (grown (S.h.set b none) S.nx (len+n) size (wJ old new)) none) none) none)
    (grown S.h S.nx (len+n) size (wJ old new))
 | .ro cs=>bK o none (aZ (cut cs off (len * size)) fun old=>grown S.h S.nx (len+n) size (wJ old new))
 | _=>none
def vL(bytes size b off len cap:Nat)(o:Bool)(n:Nat)(new:List AV)(S:St):Option (AV×St):=
 bK (Nat.ble (len+n) cap)
  (bK (Nat.beq n 0) (some (.sl b off len cap o,S)) (aZ (oT S b (off+len * size) new) fun S'=>some (.sl b off (len+n) cap o,S')))
  (bK (Nat.ble (len+n) room) (bK (Nat.ble ((len+n) * bytes) room) (aZ (S.h.get b) fun bl=>aGd bl size b off len cap o n new S) none) none)
def wY(bytes size n:Nat)(new:List AV)(S:St):Option (AV×St):=
 bK (Nat.beq n 0) (some (.nilsl,S))
  (bK (Nat.ble n room) (bK (Nat.ble (n * bytes) room) (grown S.h S.nx n size new) none) none)
def aE9(s:AV)(bytes size n:Nat)(new:List AV)(S:St):Option (AV×St):=
 match s with
 | .nilsl=>wY bytes size n new S
 | .emp=>bK (Nat.beq n 0) (some (.emp,S)) none
 | .sl b off len cap o=>vL bytes size b off len cap o n new S
 | _=>none
def jK(bytes size:Nat)(s x:AV)(S:St):Option (AV×St):=
 aZ (oC x) fun n=>aZ (eU x S.h size n) fun new=>aE9 s bytes size n new S
def wE{α:Type}(f:α→α):List α→Nat→List α
 | [],_=>[]
 | x::xs,k=>bK (Nat.beq k 0) (f x::xs) (x::wE f xs (k - 1))
structure bH where
 F:Fr
 inr:Bool
abbrev eR:=AV→List AV→St→Option (AV×St)
abbrev XF:=eR→Fr→St→Option (AV×St)
def kN(p:AV)(n:Nat)(cs:List AV)(S:St):Option (AV×St):=
 match p with
 | .ptr b off=>bK (Nat.beq (jJ cs) n) (aZ (oT S b off cs) fun S'=>some (.undef,S')) none
 | _=>none
def xSt(n:Nat)(x v:cF):XF:=fun _ F S=>aZ (v.val F).cells fun cs=>kN (x.val F) n cs S
def aPU(f:cF)(args:List cF):XF:=fun call F S=>call (f.val F) (dF args F) S
def aFV(v:AV)(f:Nat)(agg:Bool)(n:Nat)(args:List AV)(call:eR)(S:St):Option (AV×St):=
 match v with
 | .ptr b off=>aZ (mO agg n S.h b off) fun r=>call (.fn f [r] []) args S
 | _=>none
def aHP(r:Nat×Option (Bool×Nat))(v:AV)(args:List AV)(call:eR)(S:St):Option (AV×St):=
 match r with
 | (f,none)=>call (.fn f [v] []) args S
 | (f,some (agg,n))=>aFV v f agg n args call S
def aFf(v:AV)(tbl:List (Nat×Nat×Option (Bool×Nat)))(args:List AV)(call:eR)(S:St):Option (AV×St):=
 match v with
 | .iface t v=>aZ (wF t tbl) fun r=>aHP r v args call S
 | _=>none
def aQg(tbl:List (Nat×Nat×Option (Bool×Nat)))(recv:cF)(args:List cF):XF:=fun call F S=>aFf (recv.val F) tbl (dF args F) call S
def aQR(_ size bytes:Nat)(s x:cF):XF:=fun _ F S=>jK bytes size (s.val F) (x.val F) S
def copyV(d:AV)(size m:Nat)(s:AV)(S:St):Option (AV×St):=
 match d with
 | .nilsl=>some (.int .i64 (.ofNat 0),S)
 | .emp=>some (.int .i64 (.ofNat 0),S)
 | .sl b off len _ _=>
  let n:=bK (Nat.ble m len) m len
  bK (Nat.beq n 0) (some (.int .i64 (.ofNat 0),S)) (aZ (eU s S.h size n) fun cs=>aZ (oT S b off cs) fun S'=>some (.int .i64 (.ofNat n),S'))
 | _=>none
def aBO(v:AV):Option Nat:=
 match v with
 | .sl _ _ n _ _=>some n
 | .nilsl=>some 0
 | .emp=>some 0
 | _=>none
def aPR(size:Nat)(d s:cF):XF:=fun _ F S=>aZ (aBO (s.val F)) fun m=>copyV (d.val F) size m (s.val F) S
def aBk(r:Option (Nat×AV))(es:List (AV×AV))(k v:AV):List (AV×AV):=
 match r with
 | some (i,_)=>wE (fun _=>(k,v)) es i
 | none=>wJ es [(k,v)]
def vI(m:AV)(sk:oZ)(k v:AV)(S:St):Option (AV×St):=
 match m with
 | .map b=>aZ (aZ (S.h.get b) rT) fun es=>aZ (oU sk k es) fun r=>some (.undef,⟨S.h.set b (some (.map (aBk r es k v))),S.nx⟩)
 | _=>none
def aNl(sk:oZ)(m k v:cF):XF:=fun _ F S=>vI (m.val F) sk (k.val F) (v.val F) S
def aMO(r:Option (Nat×AV))(es:List (AV×AV))(b:Nat)(S:St):Option (AV×St):=
 match r with
 | some (i,_)=>some (.undef,⟨S.h.set b (some (.map (es.eraseIdx i))),S.nx⟩)
 | none=>some (.undef,S)
def aF5(m:AV)(sk:oZ)(k:AV)(S:St):Option (AV×St):=
 match m with
 | .map b=>aZ (aZ (S.h.get b) rT) fun es=>aZ (oU sk k es) fun r=>aMO r es b S
 | .nilmap=>some (.undef,S)
 | _=>none
def aNB(sk:oZ)(m k:cF):XF:=fun _ F S=>aF5 (m.val F) sk (k.val F) S
def aKJ(x:AV)(zero:List AV)(S:St):Option (AV×St):=
 match x with
 | .nilsl=>some (.undef,S)
 | .emp=>some (.undef,S)
 | .sl b off n _ _=>bK (Nat.beq n 0) (some (.undef,S)) (aZ (oT S b off (repeatL zero n)) fun S'=>some (.undef,S'))
 | _=>none
def aQj(zero:List AV)(x:cF):XF:=fun _ F S=>aKJ (x.val F) zero S
def aMk(a b c:Nat):AV:=
 .tup [.int .u64 (.ofNat (Nat.mod (Nat.add (Nat.add a b) c) 18446744073709551616)),.int .u64 (.ofNat (Nat.div (Nat.add (Nat.add a b) c) 18446744073709551616))]
def sR(c:Nat):List Nat→Nat→Int
 | [],_=>.negSucc 0
 | b::bs,i=>bK (Nat.beq b c) (.ofNat i) (sR c bs (Nat.succ i))
def aHZ(k:aID)(args:List AV):Option AV:=
 match k,args with
 | .add64,[.int .u64 (.ofNat a),.int .u64 (.ofNat b),.int .u64 (.ofNat c)]=>bK (Nat.ble c 1) (some (aMk a b c)) none
 | .idxByte,[.str s,.int .u8 (.ofNat c)]=>bK (Nat.ble c 255) (some (.int .i64 (sR c s 0))) none
 | _,_=>none
def aQM(k:aID)(args:List cF):XF:=fun _ F S=>aZ (aHZ k (dF args F)) fun v=>some (v,S)
def aQu:XF:=fun _ _ _=>none
def evX(x:XOp):XF:=XOp.rec (motive:=fun _=>XF) xSt aPU aQg aQR aPR aNl aNB aQj aQM aQu x
def isB(v:AV)(w:Bool):Bool:=
 match v with
 | .bool b=>aLW b w
 | _=>false
def cB(d:Option Nat):Fr→AV→Fr:=Option.rec (motive:=fun _=>Fr→AV→Fr) (fun F _=>F) (fun i F v=>F.set i (some v)) d
def eG(g:Option (Nat×Bool)):Fr→Bool:=Option.rec (motive:=fun _=>Fr→Bool) (fun _=>true) (fun p F=>isB (aH p.1 F) p.2) g
abbrev OF:=Option Nat→eR→Fr→St→Option (Fr×St)
def oQ(q:QOp):OF:=fun d _ F S=>aZ (gT q F S.h) fun v=>some (cB d F v,S)
def oA(a:vZ):OF:=fun d _ F S=>aZ (xL a F S.nx) fun r=>some (cB d F r.1,⟨S.h.set S.nx (some r.2),Nat.succ S.nx⟩)
def oX(x:XOp):OF:=fun d call F S=>aZ (evX x call F S) fun r=>some (cB d F r.1,r.2)
def oOp(o:AOp):OF:=AOp.rec (motive:=fun _=>OF) oQ oA oX o
def aD5(o:AO)(call:eR)(F:Fr)(S:St):Option (Fr×St):=
 bK (eG o.grd F) (oOp o.op o.dst call F S) (some (cB o.dst F .undef,S))
def vK(l:List AO):eR→Fr→St→Option (Fr×St):=
 List.rec (motive:=fun _=>eR→Fr→St→Option (Fr×St)) (fun _ F S=>some (F,S)) (fun o _ ih call F S=>aZ (aD5 o call F S) fun r=>ih call r.1 r.2) l
structure jQ where
 i:Nat
 id:Nat
 b:AB
def cA(mask:Nat):List jQ→T AB→List jQ×T AB
 | [],h=>([],h)
 | p::ps,h=>bK (Nat.testBit mask p.i) (cA mask ps (h.set p.id (some p.b))) (p::(cA mask ps h).1,(cA mask ps h).2)
structure lG where
 q:QOp
 F:Fr
 v:AV
 i:Nat
 mask:Nat
def dO(q:QOp):Bool:=
 match q with
 | .ld .. | .lookup .. | .lenMap .. =>true
 | .conv .bytesToStr _=>true
 | _=>false
structure DS where
 F:Fr
 S:St
 ps:List jQ
 hs:List (Nat×Nat×T AB)
 ls:List lG
abbrev DF:=AO→Nat→Nat→eR→DS→Option DS
def dQ(q:QOp):DF:=fun o i _ _ D=>aZ (gT q D.F D.S.h) fun v=>
 some ⟨cB o.dst D.F v,D.S,D.ps,D.hs,bK (dO q) (⟨q,D.F,v,i,o.mask⟩::D.ls) D.ls⟩
def dA(a:vZ):DF:=fun o i base _ D=>aZ (xL a D.F (base+i)) fun r=>
 some ⟨cB o.dst D.F r.1,D.S,⟨i,base+i,r.2⟩::D.ps,D.hs,D.ls⟩
def kD(hs:List (Nat×Nat×T AB))(mask:Nat):Bool:=
 match hs with
 | []=>true
 | e::_=>Nat.testBit mask e.1
def dX(x:XOp):DF:=fun o i _ call D=>
 bK (kD D.hs o.mask) (aZ (evX x call D.F ⟨(cA o.mask D.ps D.S.h).2,D.S.nx⟩) fun r=>
  some ⟨cB o.dst D.F r.1,r.2,(cA o.mask D.ps D.S.h).1,(i,o.mask,r.2.h)::D.hs,D.ls⟩) none
def dOp(o:AOp):DF:=AOp.rec (motive:=fun _=>DF) dQ dA dX o
def tW(o:AO)(i base:Nat)(call:eR)(D:DS):Option DS:=
 bK (eG o.grd D.F) (dOp o.op o i base call D) (some ⟨cB o.dst D.F .undef,D.S,D.ps,D.hs,D.ls⟩)
def yP:List AO→Nat→Nat→eR→DS→Option DS
 | [],_,_,_,D=>some D
 | o::os,i,base,call,D=>aZ (tW o i base call D) fun D'=>yP os (i+1) base call D'
mutual
def bW:AV→AV→Bool
 | .bool a,.bool b=>aLW a b
 | .int k a,.int j b=>bK (keq k j) (ieq a b) false
 | .str a,.str b=>lD a b
 | .ptr a b,.ptr c d=>bK (Nat.beq a c) (Nat.beq b d) false
 | .nilp,.nilp=>true
 | .sl a b c d e,.sl a' b' c' d' e'=>Nat.beq a a' && Nat.beq b b' && Nat.beq c c' && Nat.beq d d' && aLW e e'
 | .nilsl,.nilsl=>true
 | .emp,.emp=>true
 | .map a,.map b=>Nat.beq a b
 | .nilmap,.nilmap=>true
 | .fn f a b,.fn g c d=>Nat.beq f g && mU a c && mU b d
 | .nilfn,.nilfn=>true
 | .yld a,.yld b=>Nat.beq a b
 | .iface t v,.iface u w=>Nat.beq t u && bW v w
 | .niliface,.niliface=>true
 | .agg a,.agg b=>mU a b
 | .tup a,.tup b=>mU a b
 | _,_=>false
def mU:List AV→List AV→Bool
 | [],[]=>true
 | a::x,b::y=>bK (bW a b) (mU x y) false
 | _,_=>false
end
def pD(v:AV)(r:Option AV):Bool:=
 match r with
 | some w=>bW w v
 | none=>false
def fA(l:lG):List (Nat×Nat×T AB)→T AB→Bool
 | [],h=>pD l.v (gT l.q l.F h)
 | (i,m,h')::r,h=>
  bK (Nat.testBit l.mask i) (fA l r h')
   (bK (pD l.v (gT l.q l.F h)) (bK (Nat.testBit m l.i) true (fA l r h')) false)
def fM(h0:T AB)(hs:List (Nat×Nat×T AB)):List lG→Bool
 | []=>true
 | l::ls=>bK (fA l hs h0) (fM h0 hs ls) false
def aA8(h0:T AB)(n:Nat)(D:DS):Option (Fr×St):=
 bK (fM h0 D.hs.reverse D.ls) (some (D.F,⟨(cA (2 ^ n - 1) D.ps D.S.h).2,D.S.nx⟩)) none
def xR(ops:List AO)(call:eR)(F:Fr)(S:St):Option (Fr×St):=
 aZ (yP ops 0 S.nx call ⟨F,⟨S.h,S.nx+jJ ops⟩,[],[],[]⟩) fun D=>aA8 S.h (jJ ops) D
structure Evs where
 code:AC→bH→St→Option (Out×bH×St)
 call:eR
abbrev CF:=Evs→bH→St→Option (Out×bH×St)
def mQ:List Nat→List AV→Fr→Option Fr
 | [],[],F=>some F
 | p::ps,v::vs,F=>mQ ps vs (F.set p (some v))
 | _,_,_=>none
def sF:List AV→Nat→Fr→Fr
 | [],_,F=>F
 | v::vs,i,F=>sF vs (i+1) (F.set i (some v))
def aNq(o:Option Out):Option AC:=
 match o with
 | none=>some .skip
 | some .ret=>some .ret
 | some (.exit id)=>some (.exit id)
 | some .normal=>none
def aPo:CF:=fun _ A S=>some (.normal,A,S)
def tH(b:AC)(ih:Evs)(r:Out×bH×St):Option (Out×bH×St):=
 match r.1 with
 | .normal=>ih.code b r.2.1 r.2.2
 | _=>some r
def aQJ(a b:AC):CF:=fun ih A S=>aZ (ih.code a A S) (tH b ih)
def aCw(v:AV)(a b:AC):CF:=fun ih A S=>
 match v with
 | .bool t=>ih.code (bK t a b) A S
 | _=>none
def aPN(c:cF)(a b:AC):CF:=fun ih A S=>aCw (c.val A.F) a b ih A S
def rS(id:Nat)(r:Out×bH×St):Option (Out×bH×St):=
 match r.1 with
 | .exit i=>bK (Nat.beq i id) (some (.normal,r.2)) (some r)
 | _=>some r
def aOj(id:Nat)(c:AC):CF:=fun ih A S=>aZ (ih.code c A S) (rS id)
def aP4(c:AC):CF:=fun ih A S=>aZ (ih.code c A S) (tH (.loop c) ih)
def aPr(id:Nat):CF:=fun _ A S=>some (.exit id,A,S)
def aQl:CF:=fun _ A S=>some (.ret,A,S)
def aQF(ops:List AO):CF:=fun ih A S=>aZ (vK ops ih.call A.F S) fun r=>some (.normal,⟨r.1,A.inr⟩,r.2)
def aQE(_:List AO)(_:cF)(_:List cF):CF:=fun _ _ _=>none
def aQA(ops:List AO):CF:=fun ih A S=>aZ (xR ops ih.call A.F S) fun r=>some (.normal,⟨r.1,A.inr⟩,r.2)
def aBq(bl:AB)(l:Nat)(A:bH)(S2:St)(ih:Evs):Option (Out×bH×St):=
 match bl with
 | .loop st pend fr ps as bd=>
  match st with
  | .busy=>none
  | _=>aZ (aNq pend) fun c=>ih.code c A ⟨S2.h.set l (some (.loop .exhausted pend fr ps as bd)),S2.nx⟩
 | _=>none
def aL6(v:AV):Bool:=
 match v with
 | .fn .. =>true
 | _=>false
def aM5(f:cF)(params:List Nat)(assign body:AC):CF:=fun ih A S=>
 bK A.inr none (bK (aL6 (f.val A.F))
  (aZ (ih.call (f.val A.F) [.yld S.nx] ⟨S.h.set S.nx (some (.loop .ready none A.F params assign body)),Nat.succ S.nx⟩) fun r=>
   aZ (r.2.h.get S.nx) fun bl=>aBq bl S.nx A r.2 ih) none)
def aHR(c:AC):CF:=
 AC.rec (motive:=fun _=>CF) aPo (fun a b _ _=>aQJ a b) (fun c a b _ _=>aPN c a b) (fun id c _=>aOj id c) (fun c _=>aP4 c) aPr aQl aQF aQA (fun f ps as bd _ _=>aM5 f ps as bd) aQE c
def aPA(v:AV)(agg:Bool)(n:Nat)(h:T AB):Option AV:=
 match v with
 | .ptr b off=>mO agg n h b off
 | _=>none
def results:List RV→Fr→T AB→Option (List AV)
 | [],_,_=>some []
 | .t i::rs,F,h=>aZ (results rs F h) fun vs=>some (aH i F::vs)
 | .cell a agg n::rs,F,h=>aZ (aPA (aH a F) agg n h) fun v=>aZ (results rs F h) fun vs=>some (v::vs)
def oneOf(vs:List AV):AV:=
 match vs with
 | [v]=>v
 | vs=>.tup vs
def aFm(fn:cW)(r:Out×bH×St):Option (AV×St):=
 match r.1 with
 | .exit _=>none
 | _=>aZ (results fn.res r.2.1.F r.2.2.h) fun vs=>some (oneOf vs,r.2.2)
def wH(fn:cW)(args:List AV)(ih:Evs)(S:St):Option (AV×St):=
 bK (Nat.ble (jJ args) fn.ntmps) (aZ (ih.code fn.body ⟨sF args 0 .e,false⟩ S) (aFm fn)) none
def sM(bl:AB)(o:Out)(l:Nat)(S2:St):Option (AV×St):=
 match bl with
 | .loop .busy _ fr ps as bd=>
  match o with
  | .normal=>some (.bool true,⟨S2.h.set l (some (.loop .ready none fr ps as bd)),S2.nx⟩)
  | o=>some (.bool false,⟨S2.h.set l (some (.loop .done (some o) fr ps as bd)),S2.nx⟩)
 | _=>none
def aKm(l:Nat)(bd:AC)(ih:Evs)(A:bH)(S:St):Option (AV×St):=
 aZ (ih.code bd A S) fun r=>aZ (r.2.2.h.get l) fun bl=>sM bl r.1 l r.2.2
def rM(bl:AB)(l:Nat)(bd:AC)(ih:Evs)(A:bH)(S1:St):Option (AV×St):=
 match bl with
 | .loop .ready pend fr ps as bd'=>aKm l bd ih A ⟨S1.h.set l (some (.loop .busy pend fr ps as bd')),S1.nx⟩
 | _=>none
def aCN(l:Nat)(bd:AC)(ih:Evs)(r:Out×bH×St):Option (AV×St):=
 match r.1 with
 | .normal=>aZ (r.2.2.h.get l) fun bl=>rM bl l bd ih r.2.1 r.2.2
 | _=>none
def aAe(bl:AB)(l:Nat)(args:List AV)(ih:Evs)(S:St):Option (AV×St):=
 match bl with
 | .loop .ready _ fr ps as bd=>aZ (mQ ps args fr) fun F=>aZ (ih.code as ⟨F,true⟩ S) (aCN l bd ih)
 | _=>none
def wU(fns:T cW)(ih:Evs)(f:AV)(args:List AV)(S:St):Option (AV×St):=
 match f with
 | .fn id first cap=>aZ (fns.get id) fun fn=>wH fn (wJ first (wJ args cap)) ih S
 | .yld l=>aZ (S.h.get l) fun bl=>aAe bl l args ih S
 | _=>none
def aOQ(_:AC)(_:bH)(_:St):Option (Out×bH×St):=none
def aO2(_:AV)(_:List AV)(_:St):Option (AV×St):=none
def ev(fns:T cW)(n:Nat):Evs:=
 Nat.rec (motive:=fun _=>Evs) ⟨aOQ,aO2⟩ (fun _ ih=>⟨fun c=>aHR c ih,wU fns ih⟩) n
end
end Go.Ev
namespace Go.Ev
noncomputable section
def aKS(v:Value):Bool:=
 match v with
 | .agg _=>false
 | .tuple _=>false
 | _=>true
mutual
def ofValue:Value→Option AV
 | .bool b=>some (.bool b)
 | .int k n=>some (.int k n)
 | .string s=>some (.str (s.data.toList.map UInt8.toNat))
 | .pointer none=>some .nilp
 | .slice none 0 0=>some .nilsl
 | .map none=>some .nilmap
 | .nilFunc=>some .nilfn
 | .nilIface=>some .niliface
 | .func (.func f) ⟨a⟩ ⟨b⟩=>match ofValues a,ofValues b with
  | some a,some b=>some (.fn f a b)
  | _,_=>none
 | .iface t v=>(ofValue v).map (.iface t)
 | .agg ⟨cs⟩=>bif cs.all aKS then(ofValues cs).map .agg else none
 | .tuple ⟨cs⟩=>(ofValues cs).map .tup
 | _=>none
def ofValues:List Value→Option (List AV)
 | []=>some []
 | v::vs=>match ofValue v,ofValues vs with
  | some a,some as=>some (a::as)
  | _,_=>none
end
variable (P:Program)
def eK:Operand→Option cF
 | .tmp t=>some (.t t)
 | .const v=>(ofValue v).map .c
 | .global g=>bif Nat.blt g P.globals.size then some (.c (.ptr g 0)) else none
 | .func f=>some (.c (.fn f [] []))
def wR:List Operand→Option (List cF)
 | []=>some []
 | x::xs=>match eK P x,wR xs with
  | some a,some as=>some (a::as)
  | _,_=>none
def kK:Option Operand→Option (Option cF)
 | none=>some none
 | some x=>(eK P x).map some
def aAK(t:TypeId):Option (Bool×Nat):=
 match P.underlying t,P.info? t with
 | some (.struct _),some i=>some (true,i.size)
 | some (.array _ _),some i=>some (true,i.size)
 | some _,some i=>some (false,i.size)
 | _,_=>none
def aDC(t:TypeId):Option AV:=
 match P.info? t with
 | some i=>match i.zero with
  | some v=>ofValue v
  | none=>none
 | none=>none
def eqP(t:TypeId):EqP:=
 match P.underlying t with
 | some .bool=>.bool
 | some (.int _)=>.int
 | some .string=>.str
 | some (.pointer _)=>.ptr
 | some (.slice _)=>.slice
 | some (.map _ _)=>.map
 | some (.func ..)=>.func
 | some (.interface _)=>.iface
 | _=>.no
def eqFields:List Field→List (Nat×EqP)
 | []=>[]
 | f::fs=>bif f.name== "_" then eqFields fs else(f.offset,eqP P f.type)::eqFields fs
def eqT(t:TypeId):oZ:=
 match P.underlying t with
 | some (.struct fs)=>bif P.stoodInHeld t || P.eqGuardType P.depth t then .p .no else .struct (eqFields P fs.toList)
 | some (.array n e)=>bif P.eqGuardType P.depth t || n>64 || P.cellsOf e !=1 then .p .no else .struct ((List.range n).map fun i=>(i,eqP P e))
 | _=>.p (eqP P t)
def wI(place:Nat→Option (Nat×Nat)):List (Nat×Operand)→Option (List (Nat×Nat×cF))
 | []=>some []
 | (i,x)::ps=>match place i,eK P x,wI place ps with
  | some (off,n),some x,some ps=>some ((off,n,x)::ps)
  | _,_,_=>none
def placeOf(fs:Array Field)(i:Nat):Option (Nat×Nat):=
 match fs[i]? with
 | some f=>match P.info? f.type with
  | some s=>some (f.offset,s.size)
  | none=>none
 | none=>none
def oM:List Field→Bool
 | []=>true
 | f::fs=>(P.info? f.type).isSome && oM fs
def yJ:List (Nat×Operand)→Option (List (Nat×cF))
 | []=>some []
 | (i,x)::ps=>match eK P x,yJ ps with
  | some x,some ps=>some ((i,x)::ps)
  | _,_=>none
def kO(t:TypeId):Option (TypeId×TypeInfo):=
 match P.underlying t with
 | some (.slice e)=>(P.info? e).map fun i=>(e,i)
 | _=>none
def iR(t:TypeId):Option (List AV):=(aDC P t).bind AV.cells
def jG(e:TypeId)(i:TypeInfo):Option (List AV):=
 match iR P e with
 | some z=>bif Nat.beq z.length i.size then some z else none
 | none=>none
def aNx(u:TypeId)(i:TypeInfo):Bool:=
 match P.underlying u with
 | some (.slice _)=>true
 | some .string=>Nat.beq i.size 1
 | _=>false
def oD(name:String)(t:TypeId)(i:TypeInfo):Option (Nat×Nat×Option (Bool×Nat)):=
 match i.methods.find? (·.name==name) with
 | some m=>bif !m.path.isEmpty then none else match m.func with
  | none=>none
  | some (f,ptr)=>match P.underlying t,ptr with
   | some (.pointer _),true=>some (t,f,none)
   | some (.pointer e),false=>(aAK P e).map fun a=>(t,f,some a)
   | some (.interface _),_=>none
   | some _,false=>some (t,f,none)
   | _,_=>none
 | none=>none
def fN(name:String):List TypeInfo→Nat→List (Nat×Nat×Option (Bool×Nat))
 | [],_=>[]
 | i::is,t=>match oD P name t i with
  | some r=>r::fN name is (t+1)
  | none=>fN name is (t+1)
def plainKey:EqP→Bool
 | .int | .str | .bool=>true
 | _=>false
def aB0:Nat→List (Nat×EqP)→Bool
 | _,[]=>true
 | i,(o,e)::l=>Nat.beq o i && (plainKey e && aB0 (i+1) l)
def aBM(t:TypeId):Option oZ:=
 match P.underlying t with
 | some .string=>some (.p .str)
 | some (.int _)=>some (.p .int)
 | some (.struct fs)=>match eqT P t with
  | .struct l=>bif fs.all (fun f=>plainKey (eqP P f.type)) && aB0 0 l then some (.struct l) else none
  | _=>none
 | some (.array _ e)=>match eqT P t with
  | .struct l=>bif plainKey (eqP P e) && aB0 0 l then some (.struct l) else none
  | _=>none
 | _=>none
def aJh(s:String):Option aID:=
 bif s== "math/bits.Add64" then some .add64
 else bif s== "internal/bytealg.IndexByteString" then some .idxByte
 else none
def aIR(f:Operand):Option aID:=
 match f with
 | .func f=>match P.funcs[f]? with
  | some fn=>bif fn.body.isNone && (Extern.allNextRows.lookup fn.origin).isNone then aJh fn.name else none
  | none=>none
 | _=>none
def q(o:Option QOp):Option AOp:=o.map .q
def al(o:Option vZ):Option AOp:=o.map .a
def xx(o:Option XOp):Option AOp:=o.map .x
def aLy(b:Builtin)(as:List Operand)(ts:List TypeId):Option AOp:=
 match b with
 | .copy=>match as,ts with
  | [d,s],[t,_]=>match kO P t with
   | some (_,i)=>xx do some (.copy i.size (←eK P d) (←eK P s))
   | none=>none
  | _,_=>none
 | _=>none
def pI(o:Op):Option AOp:=
 match o with
 | .move x | .assign x=>q do some (.mv (←eK P x))
 | .pick c a b=>q do some (.pick (←eK P c) (←eK P a) (←eK P b))
 | .alloc t=>al do some (.alloc t (←iR P t))
 | .box t x=>al do some (.box t (←eK P x))
 | .build t ps=>
  match P.underlying t with
  | some (.struct fs)=>bif oM P fs.toList then q do some (.build (←iR P t) (←wI P (placeOf P fs) ps.toList)) else none
  | some (.array _ e)=>q do let s ←P.info? e;some (.build (←iR P t) (←wI P (fun i=>some (i * s.size,s.size)) ps.toList))
  | _=>none
 | .buildSlice t len ps=>al do
  let (e,i) ←kO P t
  if len * i.size>65536 then none
  some (.bslice e i.size len (←jG P e i) (←yJ P ps.toList))
 | .load t a=>q do let (agg,n) ←aAK P t;some (.ld agg n (←eK P a))
 | .store t a v=>xx do let (_,n) ←aAK P t;some (.st n (←eK P a) (←eK P v))
 | .nilCheck x=>q do some (.nilchk (←eK P x))
 | .binOp op t x y _=>q do some (.bin op (eqT P t) (←eK P x) (←eK P y))
 | .unOp op _ x=>q do some (.un op (←eK P x))
 | .convert src dst x=>
  match P.underlying src,P.underlying dst with
  | some (.int _),some (.int k)=>q do some (.conv (.int k) (←eK P x))
  | some .string,some .string=>q do some (.conv .same (←eK P x))
  | some (.int _),some .string=>q do some (.conv .intToStr (←eK P x))
  | some (.slice e),some .string=>match P.underlying e with
   | some (.int .u8)=>q do some (.conv .bytesToStr (←eK P x))
   | _=>none
  | some .string,some (.slice e)=>match P.underlying e with
   | some (.int .u8)=>al do some (.strBytes e (←eK P x))
   | _=>none
  | _,_=>none
 | .makeInterface t x=>match P.underlying t with
  | some (.interface _)=>none
  | some _=>q do some (.mkIface t (←eK P x))
  | none=>none
 | .makeFunc (.method name) a b=>match a.toList,b.toList with
  | [x],[]=>q do some (.mkMeth name (fN P name P.types.toList 0) (←eK P x))
  | _,_=>none
 | .makeFunc (.func f) a b=>q do some (.mkFunc f (←wR P a.toList) (←wR P b.toList))
 | .makeMap _ none=>al (some .mkMap)
 | .makeSlice t l c=>al do let (e,i) ←kO P t;some (.mkSlice e i.size i.bytes (←jG P e i) (←eK P l) (←eK P c))
 | .slice t x lo hi mx=>bif mx.isSome && hi.isNone then none else
  match P.underlying t with
  | some .string=>q do some (.slc .str (←eK P x) (←kK P lo) (←kK P hi) (←kK P mx))
  | some (.slice e)=>q do let i ←P.info? e;some (.slc (.slice i.size) (←eK P x) (←kK P lo) (←kK P hi) (←kK P mx))
  | some (.array n e)=>q do let i ←P.info? e;some (.slc (.arr n i.size) (←eK P x) (←kK P lo) (←kK P hi) (←kK P mx))
  | _=>none
 | .fieldAddr t x f=>match P.underlying t with
  | some (.struct fs)=>q do
   let f ←fs[f]?
   let i ←P.info? f.type
   if i.size=0 then none
   some (.faddr f.offset (←eK P x))
  | _=>none
 | .field t x f=>match P.underlying t with
  | some (.struct fs)=>q do
   let f ←fs[f]?
   let (agg,n) ←aAK P f.type
   some (.fld agg f.offset n (←eK P x))
  | _=>none
 | .indexAddr t x ix=>match P.underlying t with
  | some (.slice e)=>q do let i ←P.info? e;some (.iaddr (.slice i.size) (←eK P x) (←eK P ix))
  | some (.array n e)=>q do let i ←P.info? e;some (.iaddr (.arr n i.size) (←eK P x) (←eK P ix))
  | _=>none
 | .index t x ix=>match P.underlying t with
  | some .string=>q do some (.idxStr (←eK P x) (←eK P ix))
  | some (.array n e)=>q do let (agg,s) ←aAK P e;some (.idxArr agg n s (←eK P x) (←eK P ix))
  | _=>none
 | .lookup t m k ok=>match P.underlying t with
  | some (.map kt et)=>q do some (.lookup (←aBM P kt) (←aDC P et) ok (←eK P m) (←eK P k))
  | _=>none
 | .mapUpdate t m k v | .insert t m k v=>match P.underlying t with
  | some (.map kt _)=>xx do some (.mapUpd (←aBM P kt) (←eK P m) (←eK P k) (←eK P v))
  | _=>none
 | .typeAssert x _ t ok=>match P.underlying t with
  | some (.interface _)=>none
  | some _=>q do some (.tassert t (←aDC P t) ok (←eK P x))
  | none=>none
 | .extract x i=>q do some (.extract (←eK P x) i)
 | .call {callee:=.value f,args,.. }=>match aIR P f with
  | some k=>xx do some (.ext k (←wR P args.toList))
  | none=>xx do some (.call (←eK P f) (←wR P args.toList))
 | .call {callee:=.invoke r name,args,.. }=>xx do some (.inv (fN P name P.types.toList 0) (←eK P r) (←wR P args.toList))
 | .call {callee:=.builtin b,args,argTypes}=>
  match b,args.toList,argTypes.toList with
  | .len,[x],[t]=>match P.underlying t with
   | some .string=>q do some (.lenStr (←eK P x))
   | some (.slice _)=>q do some (.lenSl (←eK P x))
   | some (.array n _)=>q (some (.lenArr n))
   | some (.map _ _)=>q do some (.lenMap (←eK P x))
   | _=>none
  | .cap,[x],[t]=>match P.underlying t with
   | some (.slice _)=>q do some (.capSl (←eK P x))
   | _=>none
  | .max,xs,_=>q do some (.minmax true (←wR P xs))
  | .min,xs,_=>q do some (.minmax false (←wR P xs))
  | .append,[s,x],[t,u]=>match kO P t with
   | some (e,i)=>bif aNx P u i && (jG P e i).isSome then xx do some (.app e i.size i.bytes (←eK P s) (←eK P x)) else none
   | none=>none
  | .clear,[x],[t]=>match kO P t with
   | some (e,i)=>xx do some (.clr (←jG P e i) (←eK P x))
   | none=>none
  | b,as,ts=>aLy P b as ts
 | _=>none
def aBs(ops:Array Oper):Option (Nat×Bool)→Option (Option (Nat×Bool))
 | none=>some none
 | some (j,w)=>match (ops[j]?).bind (·.dst) with
  | some d=>some (some (d,w))
  | none=>none
def yX(nt:Nat):Option Tmp→Bool
 | some d=>Nat.blt d nt
 | none=>true
def aI9(nt:Nat)(ops:Array Oper)(o:Oper)(mask:Nat):Option AO:=
 bif yX nt o.dst then
  match aBs ops o.guard with
  | some g=>match pI P o.op with
   | some op=>some ⟨o.dst,op,g,mask⟩
   | none=>some ⟨o.dst,.x .bad,g,mask⟩
  | none=>none
 else none
def tX(nt:Nat)(ops:Array Oper):List Oper→List Nat→Option (List AO)
 | [],_=>some []
 | o::os,ms=>match aI9 P nt ops o (ms.headD 0),tX nt ops os ms.tail with
  | some a,some as=>some (a::as)
  | _,_=>none
def cF.rd(x:cF):List Nat:=
 match x with
 | .t i=>[i]
 | .c _=>[]
def rds:List cF→List Nat
 | []=>[]
 | x::xs=>x.rd++rds xs
def rdo(x:Option cF):List Nat:=
 match x with
 | some x=>x.rd
 | none=>[]
def rdp:List (Nat×Nat×cF)→List Nat
 | []=>[]
 | (_,_,x)::ps=>x.rd++rdp ps
def aOU:List (Nat×cF)→List Nat
 | []=>[]
 | (_,x)::ps=>x.rd++aOU ps
def QOp.rd(o:QOp):List Nat:=
 match o with
 | .mv x | .ld _ _ x | .nilchk x | .un _ x | .conv _ x | .mkIface _ x | .faddr _ x | .fld _ _ _ x | .tassert _ _ _ x | .extract x _ | .lenStr x | .lenSl x | .lenMap x | .capSl x | .mkMeth _ _ x=>x.rd
 | .pick c a b=>c.rd++(a.rd++b.rd)
 | .build _ ps=>rdp ps
 | .bin _ _ x y | .iaddr _ x y | .idxArr _ _ _ x y | .idxStr x y | .lookup _ _ _ x y=>x.rd++y.rd
 | .mkFunc _ a b=>rds a++rds b
 | .slc _ x lo hi mx=>x.rd++(rdo lo++(rdo hi++rdo mx))
 | .lenArr _=>[]
 | .minmax _ xs=>rds xs
def vZ.rd(o:vZ):List Nat:=
 match o with
 | .alloc _ _ | .mkMap=>[]
 | .box _ x | .strBytes _ x=>x.rd
 | .bslice _ _ _ _ ps=>aOU ps
 | .mkSlice _ _ _ _ l c=>l.rd++c.rd
def XOp.rd(o:XOp):List Nat:=
 match o with
 | .st _ x v=>x.rd++v.rd
 | .call f args | .inv _ f args=>f.rd++rds args
 | .app _ _ _ s x | .copy _ s x | .mapDel _ s x=>s.rd++x.rd
 | .mapUpd _ m k v=>m.rd++(k.rd++v.rd)
 | .clr _ x=>x.rd
 | .ext _ args=>rds args
 | .bad=>[]
def AOp.rd(o:AOp):List Nat:=
 match o with
 | .q o=>o.rd
 | .a o=>o.rd
 | .x o=>o.rd
def AO.touch(o:AO):List Nat:=o.dst.toList++((o.grd.map (·.1)).toList++o.op.rd)
def inL(t:Nat):List Nat→Bool
 | []=>false
 | u::l=>bif Nat.beq t u then true else inL t l
def meets(d:Option Nat)(b:List Nat):Bool:=
 match d with
 | some d=>inL d b
 | none=>false
def aF1(i:Nat)(d:Option Nat)(tch:List Nat):List AO→Bool
 | []=>true
 | b::l=>(bif meets d b.touch || meets b.dst tch then Nat.testBit b.mask i else true) && aF1 i d tch l
def aJm:Nat→List AO→Bool
 | _,[]=>true
 | i,a::l=>aF1 i a.dst a.touch l && aJm (i+1) l
def aPt(l:List AO):Bool:=aJm 0 l
def aCM:Nat→List Oper→Bool
 | _,[]=>true
 | i,o::l=>o.after.all (fun e=> !Region.binds .any e || Nat.blt e.on i) && aCM (i+1) l
def aEc(nt:Nat)(ops:Array Oper):Option AC:=
 match tX P nt ops ops.toList (CheckFast.beforeL ops.toList 0 []) with
 | some aos=>bif aCM 0 ops.toList && aPt aos then some (.drw aos) else none
 | none=>none
def iE(nt:Nat):Code→Option AC
 | .skip=>some .skip
 | .seq a b=>match iE nt a,iE nt b with
  | some a,some b=>some (.seq a b)
  | _,_=>none
 | .cond c a b=>match eK P c,iE nt a,iE nt b with
  | some c,some a,some b=>some (.cond c a b)
  | _,_,_=>none
 | .block id c=>(iE nt c).map (.block id)
 | .loop c=>(iE nt c).map .loop
 | .exit id=>some (.exit id)
 | .ret=>some .ret
 | .region _ ops d=>bif d then aEc P nt ops else(tX P nt ops ops.toList []).map .reg
 | .rangeFunc f ps as bd=>bif ps.toList.all (fun p=>Nat.blt p nt) then match eK P f,iE nt as,iE nt bd with
  | some f,some as,some bd=>some (.rng f ps.toList as bd)
  | _,_,_=>none
  else none
 | _=>none
def aGf:List ResultVar→Option (List RV)
 | []=>some []
 | .tmp t::rs=>(aGf rs).map (.t t:: ·)
 | .cell a t::rs=>match aAK P t,aGf rs with
  | some (agg,n),some rs=>some (.cell a agg n::rs)
  | _,_=>none
def cFn(fn:Func):Option cW:=
 bif fn.name== "runtime.NumGoroutine" then none else
 match fn.body with
 | some c=>match iE P fn.ntmps c,aGf P fn.results.toList with
  | some c,some rs=>some ⟨fn.ntmps,rs,c⟩
  | _,_=>none
 | none=>none
end
end Go.Ev
