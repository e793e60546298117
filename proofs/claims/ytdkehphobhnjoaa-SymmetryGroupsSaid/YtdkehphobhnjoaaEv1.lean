import GoSem.Dispatch
import Derived.CheckFast
namespace Go.Ev
theorem Aa:type_of% @decide_eq_false:=@decide_eq_false
theorem Ab:type_of% @decide_eq_true:=@decide_eq_true
theorem Ac.{u}:type_of% @List.getElem?_eq_getElem.{u}:=@List.getElem?_eq_getElem.{u}
theorem Ad.{u}:type_of% @List.getD_eq_getElem?_getD.{u}:=@List.getD_eq_getElem?_getD.{u}
theorem Ae:type_of% @Nat.lt_of_lt_of_le:=@Nat.lt_of_lt_of_le
theorem Af.{u}:type_of% @List.forall_mem_cons.{u}:=@List.forall_mem_cons.{u}
theorem Ag:type_of% @Int.ofNat_eq_natCast:=@Int.ofNat_eq_natCast
theorem Ah:type_of% @Nat.le_refl:=@Nat.le_refl
theorem Ai.{u}:type_of% @List.getElem?_eq_some_iff.{u}:=@List.getElem?_eq_some_iff.{u}
theorem Aj.{u}:type_of% @Option.some.injEq.{u}:=@Option.some.injEq.{u}
theorem Ak.{u}:type_of% @List.length_append.{u}:=@List.length_append.{u}
theorem Al.{u}:type_of% @List.length_set.{u}:=@List.length_set.{u}
theorem Am:type_of% @Nat.ble_eq_true_of_le:=@Nat.ble_eq_true_of_le
theorem An:type_of% @Nat.zero_add:=@Nat.zero_add
theorem Ao.{u}:type_of% @List.length_replicate.{u}:=@List.length_replicate.{u}
theorem Ap.{u,v}:type_of% @Option.map_eq_some_iff.{u,v}:=@Option.map_eq_some_iff.{u,v}
theorem Aq:type_of% @not_false_eq_true:=@not_false_eq_true
theorem Ar:type_of% @Bool.false_eq_true:=@Bool.false_eq_true
theorem Au.{u}:type_of% @List.length_cons.{u}:=@List.length_cons.{u}
theorem Av.{u}:type_of% @List.getElem?_append_right.{u}:=@List.getElem?_append_right.{u}
theorem Aw:type_of% @Nat.le_of_ble_eq_true:=@Nat.le_of_ble_eq_true
theorem Ax.{u}:type_of% @List.take_of_length_le.{u}:=@List.take_of_length_le.{u}
theorem Ay:type_of% @Nat.le_trans:=@Nat.le_trans
theorem Az.{u,v}:type_of% @List.getElem?_map.{u,v}:=@List.getElem?_map.{u,v}
theorem Ba.{u}:type_of% @List.getElem?_append_left.{u}:=@List.getElem?_append_left.{u}
theorem Bb.{u}:type_of% @Bool.cond_eq_ite.{u}:=@Bool.cond_eq_ite.{u}
theorem Bc.{u,v}:type_of% @List.length_map.{u,v}:=@List.length_map.{u,v}
theorem Bd:type_of% @Nat.beq_eq:=@Nat.beq_eq
theorem Be.{u}:type_of% @Array.getD_eq_getD_getElem?.{u}:=@Array.getD_eq_getD_getElem?.{u}
theorem Bf:type_of% @Int.toNat_natCast:=@Int.toNat_natCast
theorem Bg.{u}:type_of% @List.mem_cons.{u}:=@List.mem_cons.{u}
theorem Bh.{u}:type_of% @List.getElem_mem.{u}:=@List.getElem_mem.{u}
theorem Bi.{u}:type_of% @List.take_add_one.{u}:=@List.take_add_one.{u}
theorem Bj:type_of% @Nat.add_zero:=@Nat.add_zero
theorem Bk.{u}:type_of% @Option.some.inj.{u}:=@Option.some.inj.{u}
theorem Bl:type_of% @Bool.not_true:=@Bool.not_true
theorem Bm.{u}:type_of% @List.mem_of_getElem?.{u}:=@List.mem_of_getElem?.{u}
theorem Bn.{u}:type_of% @List.mem_cons_of_mem.{u}:=@List.mem_cons_of_mem.{u}
theorem Bo.{u}:type_of% @List.take_succ_cons.{u}:=@List.take_succ_cons.{u}
theorem Bp.{u}:type_of% @List.take_zero.{u}:=@List.take_zero.{u}
theorem Bq:type_of% @Bool.not_false:=@Bool.not_false
theorem Br.{u}:type_of% @List.drop_eq_getElem_cons.{u}:=@List.drop_eq_getElem_cons.{u}
theorem Bs.{u}:type_of% @List.append_nil.{u}:=@List.append_nil.{u}
theorem Bt.{u}:type_of% @List.mem_cons_self.{u}:=@List.mem_cons_self.{u}
theorem Bu.{u}:type_of% @List.length_nil.{u}:=@List.length_nil.{u}
theorem Bv.{u}:type_of% @List.mem_append.{u}:=@List.mem_append.{u}
theorem Bw.{u}:type_of% @Array.length_toList.{u}:=@Array.length_toList.{u}
theorem Bx:type_of% @Nat.lt_or_ge:=@Nat.lt_or_ge
theorem Bz.{u}:type_of% @List.length_singleton.{u}:=@List.length_singleton.{u}
theorem Ca.{u}:type_of% @List.length_take.{u}:=@List.length_take.{u}
theorem Cb:type_of% @Bool.and_eq_true:=@Bool.and_eq_true
theorem Cc.{u}:type_of% @List.drop_of_length_le.{u}:=@List.drop_of_length_le.{u}
theorem Cd:type_of% @Nat.le_add_right:=@Nat.le_add_right
theorem Ce:type_of% @Nat.not_lt_zero:=@Nat.not_lt_zero
theorem Cf:type_of% @Bool.eq_iff_iff:=@Bool.eq_iff_iff
theorem Cg.{u}:type_of% @List.length_eq_zero_iff.{u}:=@List.length_eq_zero_iff.{u}
theorem Ch.{u}:type_of% @List.getElem?_eq_none.{u}:=@List.getElem?_eq_none.{u}
theorem Ci:type_of% @Nat.eq_of_beq_eq_true:=@Nat.eq_of_beq_eq_true
theorem Cj:type_of% @Nat.zero_le:=@Nat.zero_le
theorem Ck:type_of% @decide_eq_true_iff:=@decide_eq_true_iff
theorem Cl.{u}:type_of% @List.append_assoc.{u}:=@List.append_assoc.{u}
theorem Cm.{u}:type_of% @List.nil_append.{u}:=@List.nil_append.{u}
theorem Cn:type_of% @List.getElem?_range:=@List.getElem?_range
theorem Co.{u}:type_of% @Ne.symm.{u}:=@Ne.symm.{u}
theorem Cp.{u}:type_of% @Array.getElem?_eq_some_iff.{u}:=@Array.getElem?_eq_some_iff.{u}
theorem Cq.{u}:type_of% @List.take_append_drop.{u}:=@List.take_append_drop.{u}
theorem Cr:type_of% @Nat.add_assoc:=@Nat.add_assoc
theorem Ct:type_of% @not_true_eq_false:=@not_true_eq_false
theorem Cu.{u}:type_of% @List.pairwise_cons.{u}:=@List.pairwise_cons.{u}
theorem Cv.{u}:type_of% @Array.getElem?_toList.{u}:=@Array.getElem?_toList.{u}
theorem Cw.{u,v}:type_of% @Option.bind_eq_some_iff.{u,v}:=@Option.bind_eq_some_iff.{u,v}
theorem Cx.{u}:type_of% @List.getElem?_replicate.{u}:=@List.getElem?_replicate.{u}
theorem Cy.{u,v}:type_of% @List.mem_map.{u,v}:=@List.mem_map.{u,v}
theorem Cz.{u}:type_of% @List.cons_append.{u}:=@List.cons_append.{u}
theorem Da.{u}:type_of% @List.length_drop.{u}:=@List.length_drop.{u}
theorem Db:type_of% @List.length_range:=@List.length_range
theorem Dc:type_of% @of_decide_eq_true:=@of_decide_eq_true
theorem Dd.{u,v}:type_of% @Array.toList_map.{u,v}:=@Array.toList_map.{u,v}
theorem De.{u}:type_of% @if_false.{u}:=@if_false.{u}
theorem Dg.{u}:type_of% @List.pairwise_iff_getElem.{u}:=@List.pairwise_iff_getElem.{u}
theorem Dh:type_of% @Bool.eq_false_iff:=@Bool.eq_false_iff
theorem Di.{u}:type_of% @List.mem_append_right.{u}:=@List.mem_append_right.{u}
theorem Dj.{u}:type_of% @List.drop_zero.{u}:=@List.drop_zero.{u}
theorem Dk.{u}:type_of% @List.all_eq_true.{u}:=@List.all_eq_true.{u}
theorem Dl.{u}:type_of% @List.mem_of_mem_take.{u}:=@List.mem_of_mem_take.{u}
theorem Dm.{u}:type_of% @List.getElem?_cons_succ.{u}:=@List.getElem?_cons_succ.{u}
theorem Dn:type_of% @Nat.mul_one:=@Nat.mul_one
theorem Dp.{u,v}:type_of% @List.map_cons.{u,v}:=@List.map_cons.{u,v}
theorem Dq.{u}:type_of% @Array.toList_setIfInBounds.{u}:=@Array.toList_setIfInBounds.{u}
theorem Dr:type_of% @Nat.sub_self:=@Nat.sub_self
theorem Dt.{u}:type_of% @List.getElem?_set.{u}:=@List.getElem?_set.{u}
theorem Du:type_of% @Decidable.not_not:=@Decidable.not_not
theorem Dw.{u}:type_of% @if_true.{u}:=@if_true.{u}
theorem Dx.{u}:type_of% @Array.getElem?_eq_getElem.{u}:=@Array.getElem?_eq_getElem.{u}
theorem Dy:type_of% @Nat.lt_succ_self:=@Nat.lt_succ_self
theorem Dz:type_of% @Nat.lt_of_le_of_lt:=@Nat.lt_of_le_of_lt
theorem Ea.{u}:type_of% @List.take_length.{u}:=@List.take_length.{u}
theorem Eb:type_of% @Nat.eq_zero_or_pos:=@Nat.eq_zero_or_pos
theorem Ec.{u}:type_of% @List.mem_of_mem_drop.{u}:=@List.mem_of_mem_drop.{u}
theorem Ed.{u}:type_of% @List.mem_append_left.{u}:=@List.mem_append_left.{u}
theorem Ee.{u}:type_of% @List.mem_iff_getElem.{u}:=@List.mem_iff_getElem.{u}
theorem Ef.{u}:type_of% @List.take_append_of_le_length.{u}:=@List.take_append_of_le_length.{u}
theorem Eg:type_of% @Bool.false_and:=@Bool.false_and
theorem Eh.{u,v}:type_of% @List.flatMap_cons.{u,v}:=@List.flatMap_cons.{u,v}
theorem Ei.{u}:type_of% @Array.ext'.{u}:=@Array.ext'.{u}
theorem Ej.{u,v}:type_of% @List.map_append.{u,v}:=@List.map_append.{u,v}
theorem Ek:type_of% @Bool.or_eq_true:=@Bool.or_eq_true
theorem Em.{u,v}:type_of% @List.map_congr_left.{u,v}:=@List.map_congr_left.{u,v}
theorem En:type_of% @Int.toNat_of_nonneg:=@Int.toNat_of_nonneg
theorem Eo:type_of% @Nat.succ_mul:=@Nat.succ_mul
theorem Ep:type_of% @Bool.true_and:=@Bool.true_and
theorem Er.{u}:type_of% @List.mem_singleton.{u}:=@List.mem_singleton.{u}
theorem Es.{u,v}:type_of% @Option.map_some.{u,v}:=@Option.map_some.{u,v}
theorem Et:type_of% @Nat.add_mul:=@Nat.add_mul
theorem Eu:type_of% @Nat.lt_trichotomy:=@Nat.lt_trichotomy
theorem Ew:type_of% @Nat.ble_eq:=@Nat.ble_eq
theorem Ex.{u}:type_of% @Array.getElem?_push.{u}:=@Array.getElem?_push.{u}
theorem Ey.{u,v}:type_of% @congrArg.{u,v}:=@congrArg.{u,v}
theorem Ez.{u}:type_of% @List.ext_getElem.{u}:=@List.ext_getElem.{u}
theorem Fa:type_of% @List.mem_range:=@List.mem_range
theorem Fb:type_of% @Nat.add_sub_cancel:=@Nat.add_sub_cancel
theorem Fc:type_of% @Nat.sub_zero:=@Nat.sub_zero
theorem Fd:type_of% @Int.natCast_nonneg:=@Int.natCast_nonneg
theorem Fe:type_of% @Nat.two_pow_pos:=@Nat.two_pow_pos
theorem Ff.{u}:type_of% @List.reverse_cons.{u}:=@List.reverse_cons.{u}
theorem Fg:type_of% @decide_true:=@decide_true
theorem Fi:type_of% @Nat.zero_mul:=@Nat.zero_mul
theorem Fj.{u,v,w}:type_of% @getElem!_pos.{u,v,w}:=@getElem!_pos.{u,v,w}
noncomputable section
inductive T(α:Type) where
 | e:T α
 | n (l:T α) (v:Option α) (r:T α):T α
def bL{α:Sort _}(c:Bool)(a b:α):α:=Bool.rec b a c
def aZ{α β:Type}(x:Option α)(f:α→Option β):Option β:=Option.rec none f x
namespace T
variable {α:Type}
def get(t:T α):Nat→Option α:=
 T.rec (motive:=fun _=>Nat→Option α) (fun _=>none)
  (fun _ v _ gl gr k=>bL (Nat.beq k 0) v (bL (Nat.beq (Nat.mod k 2) 1) (gl (Nat.div k 2)) (gr (Nat.sub (Nat.div k 2) 1)))) t
def single(f:Nat):Nat→Option α→T α:=
 Nat.rec (motive:=fun _=>Nat→Option α→T α) (fun _ _=>.e)
  (fun _ ih k x=>bL (Nat.beq k 0) (.n .e x .e) (bL (Nat.beq (Nat.mod k 2) 1) (.n (ih (Nat.div k 2) x) none .e) (.n .e none (ih (Nat.sub (Nat.div k 2) 1) x)))) f
def set(t:T α):Nat→Option α→T α:=
 T.rec (motive:=fun _=>Nat→Option α→T α) (fun k x=>single (Nat.succ k) k x)
  (fun l v r sl sr k x=>bL (Nat.beq k 0) (.n l x r) (bL (Nat.beq (Nat.mod k 2) 1) (.n (sl (Nat.div k 2) x) v r) (.n l v (sr (Nat.sub (Nat.div k 2) 1) x)))) t
end T
inductive AV where
 | bool (b:Bool)
 | int (k:IntKind) (n:Int)
 | str (s:List Nat)
 | ptr (b off:Nat)
 | nilp
 | sl (b off len cap:Nat) (o:Bool)
 | nilsl
 | emp        -- an empty slice,not nil,of unknown place and capacity
 | map (b:Nat)
 | nilmap
 | fn (f:Nat) (first captured:List AV)
 | nilfn
 | yld (b:Nat)
 | iface (t:Nat) (v:AV)
 | niliface
 | mth (name:String) (tbl:List (Nat×Nat×Option (Bool×Nat))) (v:AV)     -- a method of an interface value,bound
 | agg (cs:List AV)
 | tup (vs:List AV)
 deriving Inhabited
def AV.cells(v:AV):Option (List AV):=
 match v with
 | .agg cs=>some cs
 | .tup _=>none
 | v=>some [v]
def AV.undef:AV:=.tup []
inductive cJ where
 | t (i:Nat)
 | c (v:AV)
 deriving Inhabited
inductive EqP where
 | bool | int | str | ptr | slice | map | func | iface | no
 deriving Inhabited,DecidableEq
inductive nZ where
 | p (e:EqP)
 | struct (fs:List (Nat×EqP))
 deriving Inhabited
inductive aEQ where
 | int (k:IntKind)
 | same
 | bytesToStr
 | intToStr
 deriving Inhabited
inductive SlK where
 | str
 | slice (size:Nat)
 | arr (n size:Nat)
 deriving Inhabited
inductive IxK where
 | arr (n size:Nat)
 | slice (size:Nat)
 deriving Inhabited
inductive wJ where
 | mv (x:cJ)
 | pick (c a b:cJ)
 | build (zero:List AV) (parts:List (Nat×Nat×cJ))
 | ld (agg:Bool) (n:Nat) (x:cJ)
 | nilchk (x:cJ)
 | bin (op:BinOp) (e:nZ) (x y:cJ)
 | un (op:UnOp) (x:cJ)
 | conv (k:aEQ) (x:cJ)
 | mkIface (t:Nat) (x:cJ)
 | mkFunc (f:Nat) (first captured:List cJ)
 | slc (k:SlK) (x:cJ) (lo hi mx:Option cJ)
 | faddr (off:Nat) (x:cJ)
 | fld (agg:Bool) (off n:Nat) (x:cJ)
 | iaddr (k:IxK) (x ix:cJ)
 | idxArr (agg:Bool) (n size:Nat) (x ix:cJ)
 | idxStr (x ix:cJ)
 | lookup (e:nZ) (zero:AV) (commaOk:Bool) (m key:cJ)
 | tassert (t:Nat) (zero:AV) (commaOk:Bool) (x:cJ)
 | extract (x:cJ) (i:Nat)
 | lenArr (n:Nat)
 | lenStr (x:cJ)
 | lenSl (x:cJ)
 | lenMap (x:cJ)
 | capSl (x:cJ)
 | minmax (isMax:Bool) (xs:List cJ)
 | mkMeth (name:String) (tbl:List (Nat×Nat×Option (Bool×Nat))) (x:cJ)
 deriving Inhabited
inductive uD where
 | alloc (t:Nat) (cells:List AV)
 | box (t:Nat) (x:cJ)
 | bslice (t size len:Nat) (zero:List AV) (parts:List (Nat×cJ))
 | mkSlice (t size bytes:Nat) (zero:List AV) (l c:cJ)
 | mkMap
 | strBytes (t:Nat) (x:cJ)
 deriving Inhabited
inductive aGs where
 | add64 | idxByte | idxStr
 deriving Inhabited
inductive XOp where
 | st (n:Nat) (x v:cJ)
 | call (f:cJ) (args:List cJ)
 | inv (tbl:List (Nat×Nat×Option (Bool×Nat))) (recv:cJ) (args:List cJ)
 | app (t size bytes:Nat) (s x:cJ)
 | copy (size:Nat) (d s:cJ)
 | mapUpd (e:nZ) (m k v:cJ)
 | mapDel (e:nZ) (m k:cJ)
 | clr (zero:List AV) (x:cJ)
 | ext (k:aGs) (args:List cJ)
 | bad
 deriving Inhabited
inductive AOp where
 | q (o:wJ)
 | a (o:uD)
 | x (o:XOp)
 deriving Inhabited
structure AO where
 dst:Option Nat
 op:AOp
 grd:Option (Nat×Bool)
 mask:Nat      -- the operations before it (drawn regions)
 deriving Inhabited
inductive AC where
 | skip
 | seq (a b:AC)
 | cond (c:cJ) (a b:AC)
 | block (id:Nat) (c:AC)
 | loop (c:AC)
 | exit (id:Nat)
 | ret
 | reg (ops:List AO)
 | drw (ops:List AO)
 | rng (f:cJ) (params:List Nat) (assign body:AC)
 | dfr (ops:List AO) (f:cJ) (args:List cJ)
 deriving Inhabited
inductive RV where
 | t (i:Nat)
 | cell (a:Nat) (agg:Bool) (n:Nat)
 deriving Inhabited
structure dE where
 ntmps:Nat
 res:List RV
 body:AC
 deriving Inhabited
abbrev Fr:=T AV
inductive LSt where
 | ready | busy | done | exhausted
 deriving DecidableEq,Inhabited
inductive Out where
 | normal
 | exit (id:Nat)
 | ret
 deriving Inhabited
inductive AB where
 | cells (cs:List AV) (opn:Bool) (size:Nat)     -- opn:there may be more room behind;size:the cells of an element then
 | ro (cs:List AV)
 | map (es:List (AV×AV))
 | loop (st:LSt) (pend:Option Out) (fr:Fr) (params:List Nat) (assign body:AC)
 | dfd
 deriving Inhabited
structure St where
 h:T AB
 nx:Nat
def aD(i:Nat)(F:Fr):AV:=Option.rec (motive:=fun _=>AV) .undef (fun v=>v) (F.get i)
def aMf(v:AV)(_:Fr):AV:=v
def cJ.val(x:cJ):Fr→AV:=cJ.rec (motive:=fun _=>Fr→AV) aD aMf x
def cO(l:List cJ):Fr→List AV:=List.rec (motive:=fun _=>Fr→List AV) (fun _=>[]) (fun x _ ih F=>x.val F::ih F) l
def nth{α:Type}(l:List α):Nat→Option α:=List.rec (motive:=fun _=>Nat→Option α) (fun _=>none) (fun x _ ih k=>bL (Nat.beq k 0) (some x) (ih (Nat.sub k 1))) l
def aFC{α:Type}(l:List α):Nat→List α:=List.rec (motive:=fun _=>Nat→List α) (fun _=>[]) (fun x xs ih k=>bL (Nat.beq k 0) (x::xs) (ih (Nat.sub k 1))) l
def aFB{α:Type}(l:List α):Nat→Option (List α):=
 List.rec (motive:=fun _=>Nat→Option (List α)) (fun n=>bL (Nat.beq n 0) (some []) none)
  (fun x _ ih n=>bL (Nat.beq n 0) (some []) (aZ (ih (Nat.sub n 1)) fun r=>some (x::r))) l
def aB9{α:Type}(vs:List α):List α→Option (List α):=
 List.rec (motive:=fun _=>List α→Option (List α)) (fun l=>some l)
  (fun v _ ih l=>List.rec (motive:=fun _=>Option (List α)) none (fun _ xs _=>aZ (ih xs) fun r=>some (v::r)) l) vs
def put{α:Type}(l:List α):Nat→List α→Option (List α):=
 List.rec (motive:=fun _=>Nat→List α→Option (List α)) (fun k vs=>bL (Nat.beq k 0) (aB9 vs []) none)
  (fun x xs ih k vs=>bL (Nat.beq k 0) (aB9 vs (x::xs)) (aZ (ih (Nat.sub k 1) vs) fun r=>some (x::r))) l
def jN{α:Type}(l:List α):Nat:=List.rec (motive:=fun _=>Nat) 0 (fun _ _ ih=>Nat.succ ih) l
def vD{α:Type}(l m:List α):List α:=List.rec (motive:=fun _=>List α) m (fun x _ ih=>x::ih) l
def repeatL{α:Type}(z:List α)(n:Nat):List α:=Nat.rec (motive:=fun _=>List α) [] (fun _ ih=>vD z ih) n
def cut{α:Type}(l:List α)(i n:Nat):Option (List α):=aFB (aFC l i) n
def mG(k:IntKind):Nat:=
 match k with
 | .i8=>127 | .i16=>32767 | .i32=>2147483647 | .i64=>9223372036854775807
 | .u8=>255 | .u16=>65535 | .u32=>4294967295 | .u64=>18446744073709551615
def nat(k:IntKind)(n:Nat):Int:=bL (Nat.ble n (mG k)) (.ofNat n) (k.wrap (.ofNat n))
def aBk(k:IntKind):Bool:=
 match k with
 | .i8 | .i16 | .i32 | .i64=>true
 | _=>false
def neg(k:IntKind)(n:Nat):Int:=bL (aBk k) (bL (Nat.ble n (mG k)) (.negSucc n) (k.wrap (.negSucc n))) (k.wrap (.negSucc n))
def aHm(k:IntKind)(n:Nat):Bool:=Nat.ble n (mG k)
def aDe(k:IntKind)(n:Int):Int:=Int.rec (motive:=fun _=>Int) (fun m=>nat k m) (fun m=>neg k m) n
def zZ(k:IntKind)(a b:Nat):Int:=bL (Nat.ble b a) (nat k (Nat.sub a b)) (neg k (Nat.sub (Nat.sub b a) 1))
def aKp(k:IntKind)(x y:Int):Int:=
 Int.rec (motive:=fun _=>Int) (fun a=>Int.rec (motive:=fun _=>Int) (fun b=>nat k (Nat.add a b)) (fun b=>zZ k a (Nat.succ b)) y)
  (fun a=>Int.rec (motive:=fun _=>Int) (fun b=>zZ k b (Nat.succ a)) (fun b=>neg k (Nat.succ (Nat.add a b))) y) x
def aHB(k:IntKind)(x y:Int):Int:=
 Int.rec (motive:=fun _=>Int) (fun a=>Int.rec (motive:=fun _=>Int) (fun b=>zZ k a b) (fun b=>nat k (Nat.add a (Nat.succ b))) y)
  (fun a=>Int.rec (motive:=fun _=>Int) (fun b=>neg k (Nat.add a b)) (fun b=>zZ k b a) y) x
def aEJ(k:IntKind)(x y:Int):Int:=
 Int.rec (motive:=fun _=>Int) (fun a=>Int.rec (motive:=fun _=>Int) (fun b=>nat k (Nat.mul a b)) (fun b=>aDe k (Int.mul (.ofNat a) (.negSucc b))) y)
  (fun a=>aDe k (Int.mul (.negSucc a) y)) x
def ieq(x y:Int):Bool:=
 Int.rec (motive:=fun _=>Bool) (fun a=>Int.rec (motive:=fun _=>Bool) (fun b=>Nat.beq a b) (fun _=>false) y)
  (fun a=>Int.rec (motive:=fun _=>Bool) (fun _=>false) (fun b=>Nat.beq a b) y) x
def ile(x y:Int):Bool:=
 Int.rec (motive:=fun _=>Bool) (fun a=>Int.rec (motive:=fun _=>Bool) (fun b=>Nat.ble a b) (fun _=>false) y)
  (fun a=>Int.rec (motive:=fun _=>Bool) (fun _=>true) (fun b=>Nat.ble b a) y) x
def keq(x y:IntKind):Bool:=Nat.beq (mG x) (mG y)
def aKj(x y:Bool):Bool:=bL x y (bL y false true)
def aPf(k:IntKind)(x y:Int):Option AV:=some (.int k (aKp k x y))
def aOS(k:IntKind)(x y:Int):Option AV:=some (.int k (aHB k x y))
def aPe(k:IntKind)(x y:Int):Option AV:=some (.int k (aEJ k x y))
def aJA(k:IntKind)(x y:Int):Option AV:=
 match x,y with
 | .ofNat a,.ofNat b=>bL (Nat.beq b 0) none (some (.int k (nat k (Nat.div a b))))
 | x,y=>bL (ieq y (.ofNat 0)) none (some (.int k (aDe k (x.tdiv y))))
def aMB(k:IntKind)(x y:Int):Option AV:=
 match x,y with
 | .ofNat a,.ofNat b=>bL (Nat.beq b 0) none (some (.int k (.ofNat (Nat.mod a b))))
 | x,y=>bL (ieq y (.ofNat 0)) none (some (.int k (x.tmod y)))
def aAE(f:Nat→Nat→Nat)(k:IntKind)(x y:Int):Option AV:=
 match x,y with
 | .ofNat a,.ofNat b=>bL (aHm k a) (bL (aHm k b) (some (.int k (.ofNat (f a b)))) none) none
 | _,_=>none
def aO6:=aAE Nat.land
def iOr:=aAE Nat.lor
def aO3:=aAE Nat.xor
def aO8(_:IntKind)(x y:Int):Option AV:=some (.bool (ieq x y))
def aOZ(_:IntKind)(x y:Int):Option AV:=some (.bool (bL (ieq x y) false true))
def aO1(_:IntKind)(x y:Int):Option AV:=some (.bool (bL (ile y x) false true))
def aPc(_:IntKind)(x y:Int):Option AV:=some (.bool (ile x y))
def aOO(_:IntKind)(x y:Int):Option AV:=some (.bool (bL (ile x y) false true))
def aOA(_:IntKind)(x y:Int):Option AV:=some (.bool (ile y x))
def aJ1(_:IntKind)(_ _:Int):Option AV:=none
def aJX(op:BinOp):IntKind→Int→Int→Option AV:=
 BinOp.rec (motive:=fun _=>IntKind→Int→Int→Option AV) aPf aOS aPe aJA aMB aO6 iOr aO3 aJ1 aJ1 aJ1 aO8 aOZ aO1 aPc aOO aOA op
def sO(op:BinOp)(k:IntKind)(x:Int)(b:Nat):Option AV:=
 let n:=bL (Nat.ble b k.bits) b k.bits
 match op with
 | .shl=>some (.int k (aEJ k x (.ofNat (Nat.pow 2 n))))
 | .shr=>some (.int k (x.fdiv (.ofNat (Nat.pow 2 n))))
 | _=>none
def yK(op:BinOp)(k:IntKind)(x y:Int):Option AV:=
 match y with
 | .ofNat b=>sO op k x b
 | _=>none
def eI(op:BinOp):Bool:=BinOp.rec (motive:=fun _=>Bool) false false false false false false false false true true false false false false false false false op
def mO:List Nat→List Nat→Bool
 | _,[]=>false
 | [],_::_=>true
 | a::x,b::y=>bL (Nat.blt a b) true (bL (Nat.beq a b) (mO x y) false)
def jT:List Nat→List Nat→Bool
 | [],[]=>true
 | a::x,b::y=>bL (Nat.beq a b) (jT x y) false
 | _,_=>false
def aGu(op:BinOp)(a b:List Nat):Option AV:=
 match op with
 | .add=>bL (Nat.ble (jN a+jN b) 9223372036854775807) (some (.str (vD a b))) none
 | .eql=>some (.bool (jT a b))
 | .neq=>some (.bool (!jT a b))
 | .lss=>some (.bool (mO a b))
 | .leq=>some (.bool (mO a b || jT a b))
 | .gtr=>some (.bool (!(mO a b || jT a b)))
 | .geq=>some (.bool (!mO a b))
 | _=>none
def partOf(agg:Bool)(cs:List AV)(off n:Nat):Option AV:=
 bL agg (aZ (cut cs off n) fun r=>some (.agg r)) (nth cs off)
def xD:EqP→AV→AV→Option Bool
 | .bool,.bool a,.bool b=>some (aKj a b)
 | .int,.int k a,.int k' b=>bL (keq k k') (some (ieq a b)) none
 | .str,.str a,.str b=>some (jT a b)
 | .ptr,.nilp,.nilp=>some true
 | .ptr,.nilp,.ptr _ _=>some false
 | .ptr,.ptr _ _,.nilp=>some false
 | .slice,.nilsl,.nilsl=>some true
 | .slice,.nilsl,.sl .. =>some false
 | .slice,.sl ..,.nilsl=>some false
 | .slice,.nilsl,.emp=>some false
 | .slice,.emp,.nilsl=>some false
 | .map,.nilmap,.nilmap=>some true
 | .map,.nilmap,.map _=>some false
 | .map,.map _,.nilmap=>some false
 | .func,.nilfn,.nilfn=>some true
 | .func,.nilfn,.fn .. =>some false
 | .func,.fn ..,.nilfn=>some false
 | .iface,.niliface,.iface _ _=>some false
 | .iface,.iface _ _,.niliface=>some false
 | _,_,_=>none
def eqs:List (Nat×EqP)→List AV→List AV→Option Bool
 | [],_,_=>some true
 | (off,e)::fs,xs,ys=>
  match nth xs off,nth ys off with
  | some x,some y=>match xD e x y with
   | some true=>eqs fs xs ys
   | some false=>some false
   | none=>none
  | _,_=>none
def eqv:nZ→AV→AV→Option Bool
 | .p e,x,y=>xD e x y
 | .struct fs,.agg xs,.agg ys=>bL (Nat.beq (jN xs) (jN fs)) (bL (Nat.beq (jN ys) (jN fs)) (eqs fs xs ys) none) none
 | _,_,_=>none
def aL0(op:BinOp)(e:nZ)(x y:AV):Option AV:=
 match op with
 | .eql=>aZ (eqv e x y) fun b=>some (.bool b)
 | .neq=>aZ (eqv e x y) fun b=>some (.bool (bL b false true))
 | _=>none
def dD(op:BinOp)(k:IntKind)(a:Int)(k':IntKind)(b:Int):Option AV:=
 bL (eI op) (yK op k a b) (bL (keq k k') (aJX op k a b) none)
def aEh(v:AV):Option (IntKind×Int):=
 match v with
 | .int k a=>some (k,a)
 | _=>none
def aDR(v:AV):Option (List Nat):=
 match v with
 | .str s=>some s
 | _=>none
def gO(op:BinOp)(e:nZ)(x y:AV):Option AV:=
 match aEh x,aEh y with
 | some a,some b=>dD op a.1 a.2 b.1 b.2
 | _,_=>match aDR x,aDR y with
  | some a,some b=>aGu op a b
  | _,_=>aL0 op e x y
def unV(op:UnOp)(x:AV):Option AV:=
 match op,x with
 | .neg,.int k n=>some (.int k (aHB k (.ofNat 0) n))
 | .not,.bool b=>some (.bool (bL b false true))
 | _,_=>none
def jS(b:AB):Option (List AV):=
 match b with
 | .cells cs _ _=>some cs
 | .ro cs=>some cs
 | _=>none
def cS(h:T AB)(b:Nat):Option (List AV):=aZ (h.get b) jS
def tC(h:T AB)(b off n:Nat):Option (List AV):=aZ (cS h b) fun cs=>cut cs off n
def jW(h:T AB)(b off:Nat):Option AV:=aZ (cS h b) fun cs=>nth cs off
def lG(agg:Bool)(n:Nat)(h:T AB)(b off:Nat):Option AV:=
 bL agg (aZ (tC h b off n) fun cs=>some (.agg cs)) (jW h b off)
def gH(zero:List AV):List (Nat×Nat×AV)→Option (List AV)
 | []=>some zero
 | (off,n,v)::ps=>aZ v.cells fun cs=>bL (Nat.beq (jN cs) n) (aZ (put zero off cs) fun z=>gH z ps) none
def bytesOf:List AV→Option (List Nat)
 | []=>some []
 | .int .u8 (.ofNat n)::vs=>bL (Nat.ble n 255) (aZ (bytesOf vs) fun r=>some (n::r)) none
 | _::_=>none
def eR(v:AV):Option Nat:=
 match v with
 | .int _ (.ofNat n)=>some n
 | _=>none
def iA(F:Fr)(d:Nat)(x:Option cJ):Option Nat:=
 match x with
 | none=>some d
 | some x=>eR (x.val F)
def nO(e:nZ)(k:AV):List (AV×AV)→Nat→Option (Option (Nat×AV))
 | [],_=>some none
 | (k',v)::es,i=>aZ (eqv e k k') fun b=>bL b (some (some (i,v))) (nO e k es (Nat.succ i))
def mJ(e:nZ)(k:AV)(es:List (AV×AV)):Option (Option (Nat×AV)):=aZ (eqv e k k) fun _=>nO e k es 0
def qM(b:AB):Option (List (AV×AV)):=
 match b with
 | .map es=>some es
 | _=>none
def oN(h:T AB)(m:AV):Option (List (AV×AV)):=
 match m with
 | .nilmap=>some []
 | .map b=>aZ (h.get b) qM
 | _=>none
def iO(isMax:Bool):List AV→AV→Option AV
 | [],x=>some x
 | .int k' b::vs,.int k a=>bL (keq k k')
   (iO isMax vs (.int k (bL isMax (bL (ile b a) a b) (bL (ile a b) a b)))) none
 | _,_=>none
abbrev QF:=Fr→T AB→Option AV
def qMv(x:cJ):QF:=fun F _=>some (x.val F)
def uB(v:AV)(a b:cJ)(F:Fr):Option AV:=
 match v with
 | .bool t=>some (bL t (a.val F) (b.val F))
 | _=>none
def aNN(c a b:cJ):QF:=fun F _=>uB (c.val F) a b F
def fF(F:Fr):List (Nat×Nat×cJ)→List (Nat×Nat×AV)
 | []=>[]
 | (a,b,x)::ps=>(a,b,x.val F)::fF F ps
def aMj(zero:List AV)(ps:List (Nat×Nat×cJ)):QF:=fun F _=>aZ (gH zero (fF F ps)) fun cs=>some (.agg cs)
def dT(v:AV)(agg:Bool)(n:Nat)(h:T AB):Option AV:=
 match v with
 | .ptr b off=>lG agg n h b off
 | _=>none
def qLd(agg:Bool)(n:Nat)(x:cJ):QF:=fun F h=>dT (x.val F) agg n h
def tX{α:Type}(t:Nat):List (Nat×α)→Option α
 | []=>none
 | (u,a)::l=>bL (Nat.beq t u) (some a) (tX t l)
def aE6(n:String)(tbl:List (Nat×Nat×Option (Bool×Nat)))(v:AV):Option AV:=
 match v with
 | .iface t w=>aZ (tX t tbl) fun r=>match r.2,w with
  | none,_=>some (.mth n tbl v)
  | some _,.ptr _ _=>some (.mth n tbl v)
  | _,_=>none
 | _=>none
def rZ(v:AV):Option AV:=
 match v with
 | .ptr b o=>some (.ptr b o)
 | .fn f a b=>some (.fn f a b)
 | .iface t v=>some (.iface t v)
 | .yld b=>some (.yld b)
 | .mth n tbl v=>aE6 n tbl v
 | _=>none
def aLv(x:cJ):QF:=fun F _=>rZ (x.val F)
def aOy(op:BinOp)(e:nZ)(x y:cJ):QF:=fun F _=>gO op e (x.val F) (y.val F)
def qUn(op:UnOp)(x:cJ):QF:=fun F _=>unV op (x.val F)
def aCb(h:T AB)(b off len:Nat):Option AV:=aZ (tC h b off len) fun cs=>aZ (bytesOf cs) fun s=>some (.str s)
def vK(k:aEQ)(v:AV)(h:T AB):Option AV:=
 match k,v with
 | .int k,.int _ n=>some (.int k (aDe k n))
 | .same,.str s=>some (.str s)
 | .bytesToStr,.nilsl=>some (.str [])
 | .bytesToStr,.emp=>some (.str [])
 | .bytesToStr,.sl b off len _ _=>aCb h b off len
 | .intToStr,.int _ (.ofNat n)=>bL (Nat.ble n 127) (some (.str [n])) none
 | _,_=>none
def aNq(k:aEQ)(x:cJ):QF:=fun F h=>vK k (x.val F) h
def aJE(t:Nat)(x:cJ):QF:=fun F _=>some (.iface t (x.val F))
def aLm(f:Nat)(first cap:List cJ):QF:=fun F _=>some (.fn f (cO first F) (cO cap F))
def aET(s:List Nat)(lo hi mx:Option cJ)(F:Fr):Option AV:=
 match mx with
 | some _=>none
 | none=>aZ (iA F (jN s) hi) fun h'=>aZ (iA F 0 lo) fun l=>
   bL (Nat.ble h' (jN s)) (bL (Nat.ble l h') (aZ (cut s l (h' - l)) fun r=>some (.str r)) none) none
def kH(len cap:Nat)(lo hi mx:Option cJ)(F:Fr):Option (Nat×Nat×Nat):=
 aZ (iA F cap mx) fun m=>aZ (iA F len hi) fun h=>aZ (iA F 0 lo) fun l=>
  bL (Nat.ble m cap) (bL (Nat.ble h m) (bL (Nat.ble l h) (some (l,h,m)) none) none) none
def aJ4(size b off len cap:Nat)(o:Bool)(lo hi mx:Option cJ)(F:Fr):Option AV:=
 aZ (kH len cap lo hi mx F) fun x=>
  let o':=bL o mx.isNone false
  bL (Nat.beq x.2.2 x.1) (bL o' (some .emp) (some (.sl b off (x.2.1 - x.1) (x.2.2 - x.1) false)))
   (some (.sl b (off+x.1 * size) (x.2.1 - x.1) (x.2.2 - x.1) o'))
def aKk(lo hi mx:Option cJ)(F:Fr):Option AV:=aZ (kH 0 0 lo hi mx F) fun _=>some .emp
def aJL(lo hi mx:Option cJ)(F:Fr):Option AV:=aZ (kH 0 0 lo hi mx F) fun _=>some .nilsl
def aHd(n size b off:Nat)(lo hi mx:Option cJ)(F:Fr):Option AV:=
 aZ (kH n n lo hi mx F) fun x=>
  bL (Nat.beq x.2.2 x.1) (some (.sl b off (x.2.1 - x.1) (x.2.2 - x.1) false))
   (some (.sl b (off+x.1 * size) (x.2.1 - x.1) (x.2.2 - x.1) false))
def qN(k:SlK)(v:AV)(lo hi mx:Option cJ)(F:Fr):Option AV:=
 match k,v with
 | .str,.str s=>aET s lo hi mx F
 | .slice size,.sl b off len cap o=>aJ4 size b off len cap o lo hi mx F
 | .slice _,.nilsl=>aJL lo hi mx F
 | .slice _,.emp=>aKk lo hi mx F
 | .arr n size,.ptr b off=>aHd n size b off lo hi mx F
 | _,_=>none
def aOM(k:SlK)(x:cJ)(lo hi mx:Option cJ):QF:=fun F _=>qN k (x.val F) lo hi mx F
def wF(v:AV)(off:Nat):Option AV:=
 match v with
 | .ptr b o=>some (.ptr b (o+off))
 | _=>none
def aMY(off:Nat)(x:cJ):QF:=fun F _=>wF (x.val F) off
def aH2(v:AV)(agg:Bool)(off n:Nat):Option AV:=
 match v with
 | .agg cs=>partOf agg cs off n
 | _=>none
def aO5(agg:Bool)(off n:Nat)(x:cJ):QF:=fun F _=>aH2 (x.val F) agg off n
def eU(k:IxK)(v:AV)(i:Nat):Option AV:=
 match k,v with
 | .arr n size,.ptr b off=>bL (Nat.blt i n) (some (.ptr b (off+i * size))) none
 | .slice size,.sl b off len _ _=>bL (Nat.blt i len) (some (.ptr b (off+i * size))) none
 | _,_=>none
def aMh(k:IxK)(x ix:cJ):QF:=fun F _=>aZ (eR (ix.val F)) fun i=>eU k (x.val F) i
def uL(v:AV)(agg:Bool)(n size i:Nat):Option AV:=
 match v with
 | .agg cs=>bL (Nat.blt i n) (partOf agg cs (i * size) size) none
 | _=>none
def aLC(agg:Bool)(n size:Nat)(x ix:cJ):QF:=fun F _=>aZ (eR (ix.val F)) fun i=>uL (x.val F) agg n size i
def mP(v:AV)(i:Nat):Option AV:=
 match v with
 | .str s=>aZ (nth s i) fun b=>some (.int .u8 (.ofNat b))
 | _=>none
def aLL(x ix:cJ):QF:=fun F _=>aZ (eR (ix.val F)) fun i=>mP (x.val F) i
def aCz(ok:Bool)(v:AV)(b:Bool):AV:=bL ok (.tup [v,.bool b]) v
def mT(r:Option (Nat×AV))(zero:AV)(ok:Bool):Option AV:=
 match r with
 | some (_,v)=>some (aCz ok v true)
 | none=>some (aCz ok zero false)
def aKY(sk:nZ)(zero:AV)(ok:Bool)(m key:cJ):QF:=fun F h=>
 aZ (oN h (m.val F)) fun es=>aZ (mJ sk (key.val F) es) fun r=>mT r zero ok
def tQ(v:AV)(t:Nat)(zero:AV)(ok:Bool):Option AV:=
 match v with
 | .iface t' v=>bL (Nat.beq t t') (some (aCz ok v true)) (bL ok (some (.tup [zero,.bool false])) none)
 | .niliface=>bL ok (some (.tup [zero,.bool false])) none
 | _=>none
def aJz(t:Nat)(zero:AV)(ok:Bool)(x:cJ):QF:=fun F _=>tQ (x.val F) t zero ok
def gL(v:AV)(i:Nat):Option AV:=
 match v with
 | .tup vs=>nth vs i
 | _=>none
def aKr(x:cJ)(i:Nat):QF:=fun F _=>gL (x.val F) i
def aLO(n:Nat):QF:=fun _ _=>some (.int .i64 (.ofNat n))
def xP(v:AV):Option AV:=
 match v with
 | .str s=>some (.int .i64 (.ofNat (jN s)))
 | _=>none
def aLQ(x:cJ):QF:=fun F _=>xP (x.val F)
def gW(v:AV):Option AV:=
 match v with
 | .nilsl=>some (.int .i64 (.ofNat 0))
 | .emp=>some (.int .i64 (.ofNat 0))
 | .sl _ _ n _ _=>some (.int .i64 (.ofNat n))
 | _=>none
def aMZ(x:cJ):QF:=fun F _=>gW (x.val F)
def aKX(x:cJ):QF:=fun F h=>aZ (oN h (x.val F)) fun es=>some (.int .i64 (.ofNat (jN es)))
def aBB(v:AV):Option AV:=
 match v with
 | .nilsl=>some (.int .i64 (.ofNat 0))
 | .sl _ _ _ c false=>some (.int .i64 (.ofNat c))
 | _=>none
def aMt(x:cJ):QF:=fun F _=>aBB (x.val F)
def kB(isMax:Bool)(l:List AV):Option AV:=
 match l with
 | []=>none
 | v::vs=>iO isMax vs v
def aLl(n:String)(tbl:List (Nat×Nat×Option (Bool×Nat)))(x:cJ):QF:=fun F _=>some (.mth n tbl (x.val F))
def aLo(mx:Bool)(xs:List cJ):QF:=fun F _=>kB mx (cO xs F)
def gS(q:wJ):QF:=
 wJ.rec (motive:=fun _=>QF) qMv aNN aMj qLd aLv aOy qUn aNq aJE aLm aOM aMY aO5 aMh aLC aLL aKY aJz aKr aLO aLQ aMZ aKX aMt aLo aLl q
abbrev AF:=Fr→Nat→Option (AV×AB)
def room:Nat:=140737488355328
def aMN(_:Nat)(cells:List AV):AF:=fun _ id=>some (.ptr id 0,.cells cells false 0)
def aOX(_:Nat)(x:cJ):AF:=fun F id=>aZ (x.val F).cells fun cs=>some (.ptr id 0,.cells cs false 0)
def iR(size:Nat)(F:Fr):List (Nat×cJ)→List (Nat×Nat×AV)
 | []=>[]
 | (i,x)::ps=>(i * size,size,x.val F)::iR size F ps
def aK5(_ size len:Nat)(zero:List AV)(ps:List (Nat×cJ)):AF:=fun F id=>
 aZ (gH (repeatL zero len) (iR size F ps)) fun cs=>some (.sl id 0 len len false,.cells cs false 0)
def uH(_ _ bytes:Nat)(zero:List AV)(l c:cJ):AF:=fun F id=>
 aZ (eR (l.val F)) fun l=>aZ (eR (c.val F)) fun c=>
  bL (Nat.ble l c) (bL (Nat.ble c room) (bL (Nat.ble (bytes * c) room) (some (.sl id 0 l c false,.cells (repeatL zero c) false 0)) none) none) none
def aMS:AF:=fun _ id=>some (.map id,.map [])
def byteCells:List Nat→List AV
 | []=>[]
 | b::bs=>.int .u8 (.ofNat b)::byteCells bs
def pI(v:AV)(id:Nat):Option (AV×AB):=
 match v with
 | .str s=>some (.sl id 0 (jN s) (jN s) true,.cells (byteCells s) true 1)
 | _=>none
def aIW(_:Nat)(x:cJ):AF:=fun F id=>pI (x.val F) id
def vG(a:uD):AF:=uD.rec (motive:=fun _=>AF) aMN aOX aK5 uH aMS aIW a
def wL(bl:AB)(S:St)(b off:Nat)(vs:List AV):Option St:=
 match bl with
 | .cells cs o s=>aZ (put cs off vs) fun cs'=>some ⟨S.h.set b (some (.cells cs' o s)),S.nx⟩
 | _=>none
def pD(S:St)(b off:Nat)(vs:List AV):Option St:=aZ (S.h.get b) fun bl=>wL bl S b off vs
def fP(v:AV)(h:T AB)(size n:Nat):Option (List AV):=
 match v with
 | .sl b off _ _ _=>tC h b off (n * size)
 | .nilsl=>bL (Nat.beq n 0) (some []) none
 | .emp=>bL (Nat.beq n 0) (some []) none
 | .str s=>bL (Nat.beq size 1) (aZ (aFB s n) fun r=>some (byteCells r)) none
 | _=>none
def zD(v:AV):Option Nat:=
 match v with
 | .sl _ _ n _ _=>some n
 | .nilsl=>some 0
 | .emp=>some 0
 | .str s=>some (jN s)
 | _=>none
def grown(h:T AB)(nx need size:Nat)(cs:List AV):Option (AV×St):=
 some (.sl nx 0 need need true,⟨h.set nx (some (.cells cs true size)),Nat.succ nx⟩)
def aEx(bl:AB)(size b off len cap:Nat)(o:Bool)(n:Nat)(new:List AV)(S:St):Option (AV×St):=
 match bl with
 | .cells cs o' sz=>aZ (cut cs off (len * size)) fun old=>
   bL o
    (bL o' (bL (Nat.beq sz size) (bL (Nat.beq (off+cap * size) (jN cs)) (grown (S.h.set b none) S.nx (len+n) size (vD old new)) none) none) none)
    (grown S.h S.nx (len+n) size (vD old new))
 | .ro cs=>bL o none (aZ (cut cs off (len * size)) fun old=>grown S.h S.nx (len+n) size (vD old new))
 | _=>none
def vT(bytes size b off len cap:Nat)(o:Bool)(n:Nat)(new:List AV)(S:St):Option (AV×St):=
 bL (Nat.ble (len+n) cap)
  (bL (Nat.beq n 0) (some (.sl b off len cap o,S)) (aZ (pD S b (off+len * size) new) fun S'=>some (.sl b off (len+n) cap o,S')))
  (bL (Nat.ble (len+n) room) (bL (Nat.ble ((len+n) * bytes) room) (aZ (S.h.get b) fun bl=>aEx bl size b off len cap o n new S) none) none)
def uC(bytes size n:Nat)(new:List AV)(S:St):Option (AV×St):=
 bL (Nat.beq n 0) (some (.nilsl,S))
  (bL (Nat.ble n room) (bL (Nat.ble (n * bytes) room) (grown S.h S.nx n size new) none) none)
def aDN(s:AV)(bytes size n:Nat)(new:List AV)(S:St):Option (AV×St):=
 match s with
 | .nilsl=>uC bytes size n new S
 | .emp=>bL (Nat.beq n 0) (some (.emp,S)) none
 | .sl b off len cap o=>vT bytes size b off len cap o n new S
 | _=>none
def iN(bytes size:Nat)(s x:AV)(S:St):Option (AV×St):=
 aZ (zD x) fun n=>aZ (fP x S.h size n) fun new=>aDN s bytes size n new S
def tV{α:Type}(f:α→α):List α→Nat→List α
 | [],_=>[]
 | x::xs,k=>bL (Nat.beq k 0) (f x::xs) (x::tV f xs (k - 1))
structure bH where
 F:Fr
 inr:Bool
abbrev dZ:=AV→List AV→St→Option (AV×St)
abbrev XF:=dZ→Fr→St→Option (AV×St)
def lK(p:AV)(n:Nat)(cs:List AV)(S:St):Option (AV×St):=
 match p with
 | .ptr b off=>bL (Nat.beq (jN cs) n) (aZ (pD S b off cs) fun S'=>some (.undef,S')) none
 | _=>none
def xSt(n:Nat)(x v:cJ):XF:=fun _ F S=>aZ (v.val F).cells fun cs=>lK (x.val F) n cs S
def aOo(f:cJ)(args:List cJ):XF:=fun call F S=>call (f.val F) (cO args F) S
def aDr(v:AV)(f:Nat)(agg:Bool)(n:Nat)(args:List AV)(call:dZ)(S:St):Option (AV×St):=
 match v with
 | .ptr b off=>aZ (lG agg n S.h b off) fun r=>call (.fn f [r] []) args S
 | _=>none
def aGM(r:Nat×Option (Bool×Nat))(v:AV)(args:List AV)(call:dZ)(S:St):Option (AV×St):=
 match r with
 | (f,none)=>call (.fn f [v] []) args S
 | (f,some (agg,n))=>aDr v f agg n args call S
def aD2(v:AV)(tbl:List (Nat×Nat×Option (Bool×Nat)))(args:List AV)(call:dZ)(S:St):Option (AV×St):=
 match v with
 | .iface t v=>aZ (tX t tbl) fun r=>aGM r v args call S
 | _=>none
def aOz(tbl:List (Nat×Nat×Option (Bool×Nat)))(recv:cJ)(args:List cJ):XF:=fun call F S=>aD2 (recv.val F) tbl (cO args F) call S
def aO2(_ size bytes:Nat)(s x:cJ):XF:=fun _ F S=>iN bytes size (s.val F) (x.val F) S
def copyV(d:AV)(size m:Nat)(s:AV)(S:St):Option (AV×St):=
 match d with
 | .nilsl=>some (.int .i64 (.ofNat 0),S)
 | .emp=>some (.int .i64 (.ofNat 0),S)
 | .sl b off len _ _=>
  let n:=bL (Nat.ble m len) m len
  bL (Nat.beq n 0) (some (.int .i64 (.ofNat 0),S)) (aZ (fP s S.h size n) fun cs=>aZ (pD S b off cs) fun S'=>some (.int .i64 (.ofNat n),S'))
 | _=>none
def aAb(v:AV):Option Nat:=
 match v with
 | .sl _ _ n _ _=>some n
 | .nilsl=>some 0
 | .emp=>some 0
 | _=>none
def aNR(size:Nat)(d s:cJ):XF:=fun _ F S=>aZ (aAb (s.val F)) fun m=>copyV (d.val F) size m (s.val F) S
def yY(r:Option (Nat×AV))(es:List (AV×AV))(k v:AV):List (AV×AV):=
 match r with
 | some (i,_)=>tV (fun _=>(k,v)) es i
 | none=>vD es [(k,v)]
def rO(m:AV)(sk:nZ)(k v:AV)(S:St):Option (AV×St):=
 match m with
 | .map b=>aZ (aZ (S.h.get b) qM) fun es=>aZ (mJ sk k es) fun r=>some (.undef,⟨S.h.set b (some (.map (yY r es k v))),S.nx⟩)
 | _=>none
def aLE(sk:nZ)(m k v:cJ):XF:=fun _ F S=>rO (m.val F) sk (k.val F) (v.val F) S
def aLS(r:Option (Nat×AV))(es:List (AV×AV))(b:Nat)(S:St):Option (AV×St):=
 match r with
 | some (i,_)=>some (.undef,⟨S.h.set b (some (.map (es.eraseIdx i))),S.nx⟩)
 | none=>some (.undef,S)
def aEp(m:AV)(sk:nZ)(k:AV)(S:St):Option (AV×St):=
 match m with
 | .map b=>aZ (aZ (S.h.get b) qM) fun es=>aZ (mJ sk k es) fun r=>aLS r es b S
 | .nilmap=>some (.undef,S)
 | _=>none
def aK0(sk:nZ)(m k:cJ):XF:=fun _ F S=>aEp (m.val F) sk (k.val F) S
def aJr(x:AV)(zero:List AV)(S:St):Option (AV×St):=
 match x with
 | .nilsl=>some (.undef,S)
 | .emp=>some (.undef,S)
 | .sl b off n _ _=>bL (Nat.beq n 0) (some (.undef,S)) (aZ (pD S b off (repeatL zero n)) fun S'=>some (.undef,S'))
 | _=>none
def aOI(zero:List AV)(x:cJ):XF:=fun _ F S=>aJr (x.val F) zero S
def aJ3(a b c:Nat):AV:=
 .tup [.int .u64 (.ofNat (Nat.mod (Nat.add (Nat.add a b) c) 18446744073709551616)),.int .u64 (.ofNat (Nat.div (Nat.add (Nat.add a b) c) 18446744073709551616))]
def pG(c:Nat):List Nat→Nat→Int
 | [],_=>.negSucc 0
 | b::bs,i=>bL (Nat.beq b c) (.ofNat i) (pG c bs (Nat.succ i))
def aGk(k:aGs)(args:List AV):Option AV:=
 match k,args with
 | .add64,[.int .u64 (.ofNat a),.int .u64 (.ofNat b),.int .u64 (.ofNat c)]=>bL (Nat.ble c 1) (some (aJ3 a b c)) none
 | .idxByte,[.str s,.int .u8 (.ofNat c)]=>bL (Nat.ble c 255) (some (.int .i64 (pG c s 0))) none
 | _,_=>none
def aOY(k:aGs)(args:List cJ):XF:=fun _ F S=>aZ (aGk k (cO args F)) fun v=>some (v,S)
def aOW:XF:=fun _ _ _=>none
def evX(x:XOp):XF:=XOp.rec (motive:=fun _=>XF) xSt aOo aOz aO2 aNR aLE aK0 aOI aOY aOW x
def isB(v:AV)(w:Bool):Bool:=
 match v with
 | .bool b=>aKj b w
 | _=>false
def cD(d:Option Nat):Fr→AV→Fr:=Option.rec (motive:=fun _=>Fr→AV→Fr) (fun F _=>F) (fun i F v=>F.set i (some v)) d
def dS(g:Option (Nat×Bool)):Fr→Bool:=Option.rec (motive:=fun _=>Fr→Bool) (fun _=>true) (fun p F=>isB (aD p.1 F) p.2) g
abbrev OF:=Option Nat→dZ→Fr→St→Option (Fr×St)
def oQ(q:wJ):OF:=fun d _ F S=>aZ (gS q F S.h) fun v=>some (cD d F v,S)
def oA(a:uD):OF:=fun d _ F S=>aZ (vG a F S.nx) fun r=>some (cD d F r.1,⟨S.h.set S.nx (some r.2),Nat.succ S.nx⟩)
def oX(x:XOp):OF:=fun d call F S=>aZ (evX x call F S) fun r=>some (cD d F r.1,r.2)
def oOp(o:AOp):OF:=AOp.rec (motive:=fun _=>OF) oQ oA oX o
def aCw(o:AO)(call:dZ)(F:Fr)(S:St):Option (Fr×St):=
 bL (dS o.grd F) (oOp o.op o.dst call F S) (some (cD o.dst F .undef,S))
def sE(l:List AO):dZ→Fr→St→Option (Fr×St):=
 List.rec (motive:=fun _=>dZ→Fr→St→Option (Fr×St)) (fun _ F S=>some (F,S)) (fun o _ ih call F S=>aZ (aCw o call F S) fun r=>ih call r.1 r.2) l
structure iV where
 i:Nat
 id:Nat
 b:AB
def cH(mask:Nat):List iV→T AB→List iV×T AB
 | [],h=>([],h)
 | p::ps,h=>bL (Nat.testBit mask p.i) (cH mask ps (h.set p.id (some p.b))) (p::(cH mask ps h).1,(cH mask ps h).2)
structure kL where
 q:wJ
 F:Fr
 v:AV
 i:Nat
 mask:Nat
def dL(q:wJ):Bool:=
 match q with
 | .ld .. | .lookup .. | .lenMap .. =>true
 | .conv .bytesToStr _=>true
 | _=>false
structure DS where
 F:Fr
 S:St
 ps:List iV
 hs:List (Nat×Nat×T AB)
 ls:List kL
abbrev DF:=AO→Nat→Nat→dZ→DS→Option DS
def dQ(q:wJ):DF:=fun o i _ _ D=>aZ (gS q D.F D.S.h) fun v=>
 some ⟨cD o.dst D.F v,D.S,D.ps,D.hs,bL (dL q) (⟨q,D.F,v,i,o.mask⟩::D.ls) D.ls⟩
def dA(a:uD):DF:=fun o i base _ D=>aZ (vG a D.F (base+i)) fun r=>
 some ⟨cD o.dst D.F r.1,D.S,⟨i,base+i,r.2⟩::D.ps,D.hs,D.ls⟩
def lJ(hs:List (Nat×Nat×T AB))(mask:Nat):Bool:=
 match hs with
 | []=>true
 | e::_=>Nat.testBit mask e.1
def dX(x:XOp):DF:=fun o i _ call D=>
 bL (lJ D.hs o.mask) (aZ (evX x call D.F ⟨(cH o.mask D.ps D.S.h).2,D.S.nx⟩) fun r=>
  some ⟨cD o.dst D.F r.1,r.2,(cH o.mask D.ps D.S.h).1,(i,o.mask,r.2.h)::D.hs,D.ls⟩) none
def dOp(o:AOp):DF:=AOp.rec (motive:=fun _=>DF) dQ dA dX o
def sJ(o:AO)(i base:Nat)(call:dZ)(D:DS):Option DS:=
 bL (dS o.grd D.F) (dOp o.op o i base call D) (some ⟨cD o.dst D.F .undef,D.S,D.ps,D.hs,D.ls⟩)
def zN:List AO→Nat→Nat→dZ→DS→Option DS
 | [],_,_,_,D=>some D
 | o::os,i,base,call,D=>aZ (sJ o i base call D) fun D'=>zN os (i+1) base call D'
mutual
def cB:AV→AV→Bool
 | .bool a,.bool b=>aKj a b
 | .int k a,.int j b=>bL (keq k j) (ieq a b) false
 | .str a,.str b=>jT a b
 | .ptr a b,.ptr c d=>bL (Nat.beq a c) (Nat.beq b d) false
 | .nilp,.nilp=>true
 | .sl a b c d e,.sl a' b' c' d' e'=>Nat.beq a a' && Nat.beq b b' && Nat.beq c c' && Nat.beq d d' && aKj e e'
 | .nilsl,.nilsl=>true
 | .emp,.emp=>true
 | .map a,.map b=>Nat.beq a b
 | .nilmap,.nilmap=>true
 | .fn f a b,.fn g c d=>Nat.beq f g && jP a c && jP b d
 | .nilfn,.nilfn=>true
 | .yld a,.yld b=>Nat.beq a b
 | .iface t v,.iface u w=>Nat.beq t u && cB v w
 | .niliface,.niliface=>true
 | .agg a,.agg b=>jP a b
 | .tup a,.tup b=>jP a b
 | _,_=>false
def jP:List AV→List AV→Bool
 | [],[]=>true
 | a::x,b::y=>bL (cB a b) (jP x y) false
 | _,_=>false
end
def oK(v:AV)(r:Option AV):Bool:=
 match r with
 | some w=>cB w v
 | none=>false
def eY(l:kL):List (Nat×Nat×T AB)→T AB→Bool
 | [],h=>oK l.v (gS l.q l.F h)
 | (i,m,h')::r,h=>
  bL (Nat.testBit l.mask i) (eY l r h')
   (bL (oK l.v (gS l.q l.F h)) (bL (Nat.testBit m l.i) true (eY l r h')) false)
def gI(h0:T AB)(hs:List (Nat×Nat×T AB)):List kL→Bool
 | []=>true
 | l::ls=>bL (eY l hs h0) (gI h0 hs ls) false
def xM(h0:T AB)(n:Nat)(D:DS):Option (Fr×St):=
 bL (gI h0 D.hs.reverse D.ls) (some (D.F,⟨(cH (2 ^ n - 1) D.ps D.S.h).2,D.S.nx⟩)) none
def uJ(ops:List AO)(call:dZ)(F:Fr)(S:St):Option (Fr×St):=
 aZ (zN ops 0 S.nx call ⟨F,⟨S.h,S.nx+jN ops⟩,[],[],[]⟩) fun D=>xM S.h (jN ops) D
structure Evs where
 code:AC→bH→St→Option (Out×bH×St)
 call:dZ
abbrev CF:=Evs→bH→St→Option (Out×bH×St)
def nQ:List Nat→List AV→Fr→Option Fr
 | [],[],F=>some F
 | p::ps,v::vs,F=>nQ ps vs (F.set p (some v))
 | _,_,_=>none
def pB:List AV→Nat→Fr→Fr
 | [],_,F=>F
 | v::vs,i,F=>pB vs (i+1) (F.set i (some v))
def aNC(o:Option Out):Option AC:=
 match o with
 | none=>some .skip
 | some .ret=>some .ret
 | some (.exit id)=>some (.exit id)
 | some .normal=>none
def aOn:CF:=fun _ A S=>some (.normal,A,S)
def pN(b:AC)(ih:Evs)(r:Out×bH×St):Option (Out×bH×St):=
 match r.1 with
 | .normal=>ih.code b r.2.1 r.2.2
 | _=>some r
def aOR(a b:AC):CF:=fun ih A S=>aZ (ih.code a A S) (pN b ih)
def aAm(v:AV)(a b:AC):CF:=fun ih A S=>
 match v with
 | .bool t=>ih.code (bL t a b) A S
 | _=>none
def aNE(c:cJ)(a b:AC):CF:=fun ih A S=>aAm (c.val A.F) a b ih A S
def pE(id:Nat)(r:Out×bH×St):Option (Out×bH×St):=
 match r.1 with
 | .exit i=>bL (Nat.beq i id) (some (.normal,r.2)) (some r)
 | _=>some r
def aM3(id:Nat)(c:AC):CF:=fun ih A S=>aZ (ih.code c A S) (pE id)
def aOa(c:AC):CF:=fun ih A S=>aZ (ih.code c A S) (pN (.loop c) ih)
def aNo(id:Nat):CF:=fun _ A S=>some (.exit id,A,S)
def aOG:CF:=fun _ A S=>some (.ret,A,S)
def aPh(ops:List AO):CF:=fun ih A S=>aZ (sE ops ih.call A.F S) fun r=>some (.normal,⟨r.1,A.inr⟩,r.2)
def aOQ(_:List AO)(_:cJ)(_:List cJ):CF:=fun _ _ _=>none
def aPi(ops:List AO):CF:=fun ih A S=>aZ (uJ ops ih.call A.F S) fun r=>some (.normal,⟨r.1,A.inr⟩,r.2)
def aD3(bl:AB)(l:Nat)(A:bH)(S2:St)(ih:Evs):Option (Out×bH×St):=
 match bl with
 | .loop st pend fr ps as bd=>
  match st with
  | .busy=>none
  | _=>aZ (aNC pend) fun c=>ih.code c A ⟨S2.h.set l (some (.loop .exhausted pend fr ps as bd)),S2.nx⟩
 | _=>none
def aMH(v:AV):Bool:=
 match v with
 | .fn .. =>true
 | _=>false
def aLd(f:cJ)(params:List Nat)(assign body:AC):CF:=fun ih A S=>
 bL A.inr none (bL (aMH (f.val A.F))
  (aZ (ih.call (f.val A.F) [.yld S.nx] ⟨S.h.set S.nx (some (.loop .ready none A.F params assign body)),Nat.succ S.nx⟩) fun r=>
   aZ (r.2.h.get S.nx) fun bl=>aD3 bl S.nx A r.2 ih) none)
def aGO(c:AC):CF:=
 AC.rec (motive:=fun _=>CF) aOn (fun a b _ _=>aOR a b) (fun c a b _ _=>aNE c a b) (fun id c _=>aM3 id c) (fun c _=>aOa c) aNo aOG aPh aPi (fun f ps as bd _ _=>aLd f ps as bd) aOQ c
def aNy(v:AV)(agg:Bool)(n:Nat)(h:T AB):Option AV:=
 match v with
 | .ptr b off=>lG agg n h b off
 | _=>none
def results:List RV→Fr→T AB→Option (List AV)
 | [],_,_=>some []
 | .t i::rs,F,h=>aZ (results rs F h) fun vs=>some (aD i F::vs)
 | .cell a agg n::rs,F,h=>aZ (aNy (aD a F) agg n h) fun v=>aZ (results rs F h) fun vs=>some (v::vs)
def oneOf(vs:List AV):AV:=
 match vs with
 | [v]=>v
 | vs=>.tup vs
def aDL(fn:dE)(r:Out×bH×St):Option (AV×St):=
 match r.1 with
 | .exit _=>none
 | _=>aZ (results fn.res r.2.1.F r.2.2.h) fun vs=>some (oneOf vs,r.2.2)
def tU(fn:dE)(args:List AV)(ih:Evs)(S:St):Option (AV×St):=
 bL (Nat.ble (jN args) fn.ntmps) (aZ (ih.code fn.body ⟨pB args 0 .e,false⟩ S) (aDL fn)) none
def aCS(bl:AB)(o:Out)(l:Nat)(S2:St):Option (AV×St):=
 match bl with
 | .loop .busy _ fr ps as bd=>
  match o with
  | .normal=>some (.bool true,⟨S2.h.set l (some (.loop .ready none fr ps as bd)),S2.nx⟩)
  | o=>some (.bool false,⟨S2.h.set l (some (.loop .done (some o) fr ps as bd)),S2.nx⟩)
 | _=>none
def aIt(l:Nat)(bd:AC)(ih:Evs)(A:bH)(S:St):Option (AV×St):=
 aZ (ih.code bd A S) fun r=>aZ (r.2.2.h.get l) fun bl=>aCS bl r.1 l r.2.2
def tB(bl:AB)(l:Nat)(bd:AC)(ih:Evs)(A:bH)(S1:St):Option (AV×St):=
 match bl with
 | .loop .ready pend fr ps as bd'=>aIt l bd ih A ⟨S1.h.set l (some (.loop .busy pend fr ps as bd')),S1.nx⟩
 | _=>none
def aDv(l:Nat)(bd:AC)(ih:Evs)(r:Out×bH×St):Option (AV×St):=
 match r.1 with
 | .normal=>aZ (r.2.2.h.get l) fun bl=>tB bl l bd ih r.2.1 r.2.2
 | _=>none
def zR(bl:AB)(l:Nat)(args:List AV)(ih:Evs)(S:St):Option (AV×St):=
 match bl with
 | .loop .ready _ fr ps as bd=>aZ (nQ ps args fr) fun F=>aZ (ih.code as ⟨F,true⟩ S) (aDv l bd ih)
 | _=>none
def sN(fns:T dE)(ih:Evs)(f:AV)(args:List AV)(S:St):Option (AV×St):=
 match f with
 | .fn id first cap=>aZ (fns.get id) fun fn=>tU fn (vD first (vD args cap)) ih S
 | .yld l=>aZ (S.h.get l) fun bl=>zR bl l args ih S
 | _=>none
def aM9(_:AC)(_:bH)(_:St):Option (Out×bH×St):=none
def aMD(_:AV)(_:List AV)(_:St):Option (AV×St):=none
def ev(fns:T dE)(n:Nat):Evs:=
 Nat.rec (motive:=fun _=>Evs) ⟨aM9,aMD⟩ (fun _ ih=>⟨fun c=>aGO c ih,sN fns ih⟩) n
end
end Go.Ev
namespace Go.Ev
noncomputable section
def aKg(v:Value):Bool:=
 match v with
 | .agg _=>false
 | .tuple _=>false
 | _=>true
mutual
def ofValue:Value→Option AV
 | .bool b=>some (.bool b)
 | .int k n=>some (.int k n)
 | .string s=>some (.str (s.data.toList.map UInt8.toNat))
 | .pointer none=>some .nilp
 | .slice none 0 0=>some .nilsl
 | .map none=>some .nilmap
 | .nilFunc=>some .nilfn
 | .nilIface=>some .niliface
 | .func (.func f) ⟨a⟩ ⟨b⟩=>match ofValues a,ofValues b with
  | some a,some b=>some (.fn f a b)
  | _,_=>none
 | .iface t v=>(ofValue v).map (.iface t)
 | .agg ⟨cs⟩=>bif cs.all aKg then(ofValues cs).map .agg else none
 | .tuple ⟨cs⟩=>(ofValues cs).map .tup
 | _=>none
def ofValues:List Value→Option (List AV)
 | []=>some []
 | v::vs=>match ofValue v,ofValues vs with
  | some a,some as=>some (a::as)
  | _,_=>none
end
variable (P:Program)
def dU:Operand→Option cJ
 | .tmp t=>some (.t t)
 | .const v=>(ofValue v).map .c
 | .global g=>bif Nat.blt g P.globals.size then some (.c (.ptr g 0)) else none
 | .func f=>some (.c (.fn f [] []))
def tP:List Operand→Option (List cJ)
 | []=>some []
 | x::xs=>match dU P x,tP xs with
  | some a,some as=>some (a::as)
  | _,_=>none
def jK:Option Operand→Option (Option cJ)
 | none=>some none
 | some x=>(dU P x).map some
def xF(t:TypeId):Option (Bool×Nat):=
 match P.underlying t,P.info? t with
 | some (.struct _),some i=>some (true,i.size)
 | some (.array _ _),some i=>some (true,i.size)
 | some _,some i=>some (false,i.size)
 | _,_=>none
def aBY(t:TypeId):Option AV:=
 match P.info? t with
 | some i=>match i.zero with
  | some v=>ofValue v
  | none=>none
 | none=>none
def eqP(t:TypeId):EqP:=
 match P.underlying t with
 | some .bool=>.bool
 | some (.int _)=>.int
 | some .string=>.str
 | some (.pointer _)=>.ptr
 | some (.slice _)=>.slice
 | some (.map _ _)=>.map
 | some (.func ..)=>.func
 | some (.interface _)=>.iface
 | _=>.no
def eqFields:List Field→List (Nat×EqP)
 | []=>[]
 | f::fs=>bif f.name== "_" then eqFields fs else(f.offset,eqP P f.type)::eqFields fs
def eqT(t:TypeId):nZ:=
 match P.underlying t with
 | some (.struct fs)=>bif P.stoodInHeld t || P.eqGuardType P.depth t then .p .no else .struct (eqFields P fs.toList)
 | some (.array n e)=>bif P.eqGuardType P.depth t || n>64 || P.cellsOf e !=1 then .p .no else .struct ((List.range n).map fun i=>(i,eqP P e))
 | _=>.p (eqP P t)
def tN(place:Nat→Option (Nat×Nat)):List (Nat×Operand)→Option (List (Nat×Nat×cJ))
 | []=>some []
 | (i,x)::ps=>match place i,dU P x,tN place ps with
  | some (off,n),some x,some ps=>some ((off,n,x)::ps)
  | _,_,_=>none
def placeOf(fs:Array Field)(i:Nat):Option (Nat×Nat):=
 match fs[i]? with
 | some f=>match P.info? f.type with
  | some s=>some (f.offset,s.size)
  | none=>none
 | none=>none
def lZ:List Field→Bool
 | []=>true
 | f::fs=>(P.info? f.type).isSome && lZ fs
def uU:List (Nat×Operand)→Option (List (Nat×cJ))
 | []=>some []
 | (i,x)::ps=>match dU P x,uU ps with
  | some x,some ps=>some ((i,x)::ps)
  | _,_=>none
def jI(t:TypeId):Option (TypeId×TypeInfo):=
 match P.underlying t with
 | some (.slice e)=>(P.info? e).map fun i=>(e,i)
 | _=>none
def iB(t:TypeId):Option (List AV):=(aBY P t).bind AV.cells
def iG(e:TypeId)(i:TypeInfo):Option (List AV):=
 match iB P e with
 | some z=>bif Nat.beq z.length i.size then some z else none
 | none=>none
def aLH(u:TypeId)(i:TypeInfo):Bool:=
 match P.underlying u with
 | some (.slice _)=>true
 | some .string=>Nat.beq i.size 1
 | _=>false
def lR(name:String)(t:TypeId)(i:TypeInfo):Option (Nat×Nat×Option (Bool×Nat)):=
 match i.methods.find? (·.name==name) with
 | some m=>bif !m.path.isEmpty then none else match m.func with
  | none=>none
  | some (f,ptr)=>match P.underlying t,ptr with
   | some (.pointer _),true=>some (t,f,none)
   | some (.pointer e),false=>(xF P e).map fun a=>(t,f,some a)
   | some (.interface _),_=>none
   | some _,false=>some (t,f,none)
   | _,_=>none
 | none=>none
def eZ(name:String):List TypeInfo→Nat→List (Nat×Nat×Option (Bool×Nat))
 | [],_=>[]
 | i::is,t=>match lR P name t i with
  | some r=>r::eZ name is (t+1)
  | none=>eZ name is (t+1)
def plainKey:EqP→Bool
 | .int | .str | .bool=>true
 | _=>false
def aAf:Nat→List (Nat×EqP)→Bool
 | _,[]=>true
 | i,(o,e)::l=>Nat.beq o i && (plainKey e && aAf (i+1) l)
def zQ(t:TypeId):Option nZ:=
 match P.underlying t with
 | some .string=>some (.p .str)
 | some (.int _)=>some (.p .int)
 | some (.struct fs)=>match eqT P t with
  | .struct l=>bif fs.all (fun f=>plainKey (eqP P f.type)) && aAf 0 l then some (.struct l) else none
  | _=>none
 | some (.array _ e)=>match eqT P t with
  | .struct l=>bif plainKey (eqP P e) && aAf 0 l then some (.struct l) else none
  | _=>none
 | _=>none
def aHq(s:String):Option aGs:=
 bif s== "math/bits.Add64" then some .add64
 else bif s== "internal/bytealg.IndexByteString" then some .idxByte
 else none
def aHG(f:Operand):Option aGs:=
 match f with
 | .func f=>match P.funcs[f]? with
  | some fn=>bif fn.body.isNone && (Extern.allNextRows.lookup fn.origin).isNone then aHq fn.name else none
  | none=>none
 | _=>none
def q(o:Option wJ):Option AOp:=o.map .q
def al(o:Option uD):Option AOp:=o.map .a
def xx(o:Option XOp):Option AOp:=o.map .x
def aJm(b:Builtin)(as:List Operand)(ts:List TypeId):Option AOp:=
 match b with
 | .copy=>match as,ts with
  | [d,s],[t,_]=>match jI P t with
   | some (_,i)=>xx do some (.copy i.size (←dU P d) (←dU P s))
   | none=>none
  | _,_=>none
 | _=>none
def mQ(o:Op):Option AOp:=
 match o with
 | .move x | .assign x=>q do some (.mv (←dU P x))
 | .pick c a b=>q do some (.pick (←dU P c) (←dU P a) (←dU P b))
 | .alloc t=>al do some (.alloc t (←iB P t))
 | .box t x=>al do some (.box t (←dU P x))
 | .build t ps=>
  match P.underlying t with
  | some (.struct fs)=>bif lZ P fs.toList then q do some (.build (←iB P t) (←tN P (placeOf P fs) ps.toList)) else none
  | some (.array _ e)=>q do let s ←P.info? e;some (.build (←iB P t) (←tN P (fun i=>some (i * s.size,s.size)) ps.toList))
  | _=>none
 | .buildSlice t len ps=>al do
  let (e,i) ←jI P t
  if len * i.size>65536 then none
  some (.bslice e i.size len (←iG P e i) (←uU P ps.toList))
 | .load t a=>q do let (agg,n) ←xF P t;some (.ld agg n (←dU P a))
 | .store t a v=>xx do let (_,n) ←xF P t;some (.st n (←dU P a) (←dU P v))
 | .nilCheck x=>q do some (.nilchk (←dU P x))
 | .binOp op t x y _=>q do some (.bin op (eqT P t) (←dU P x) (←dU P y))
 | .unOp op _ x=>q do some (.un op (←dU P x))
 | .convert src dst x=>
  match P.underlying src,P.underlying dst with
  | some (.int _),some (.int k)=>q do some (.conv (.int k) (←dU P x))
  | some .string,some .string=>q do some (.conv .same (←dU P x))
  | some (.int _),some .string=>q do some (.conv .intToStr (←dU P x))
  | some (.slice e),some .string=>match P.underlying e with
   | some (.int .u8)=>q do some (.conv .bytesToStr (←dU P x))
   | _=>none
  | some .string,some (.slice e)=>match P.underlying e with
   | some (.int .u8)=>al do some (.strBytes e (←dU P x))
   | _=>none
  | _,_=>none
 | .makeInterface t x=>match P.underlying t with
  | some (.interface _)=>none
  | some _=>q do some (.mkIface t (←dU P x))
  | none=>none
 | .makeFunc (.method name) a b=>match a.toList,b.toList with
  | [x],[]=>q do some (.mkMeth name (eZ P name P.types.toList 0) (←dU P x))
  | _,_=>none
 | .makeFunc (.func f) a b=>q do some (.mkFunc f (←tP P a.toList) (←tP P b.toList))
 | .makeMap _ none=>al (some .mkMap)
 | .makeSlice t l c=>al do let (e,i) ←jI P t;some (.mkSlice e i.size i.bytes (←iG P e i) (←dU P l) (←dU P c))
 | .slice t x lo hi mx=>bif mx.isSome && hi.isNone then none else
  match P.underlying t with
  | some .string=>q do some (.slc .str (←dU P x) (←jK P lo) (←jK P hi) (←jK P mx))
  | some (.slice e)=>q do let i ←P.info? e;some (.slc (.slice i.size) (←dU P x) (←jK P lo) (←jK P hi) (←jK P mx))
  | some (.array n e)=>q do let i ←P.info? e;some (.slc (.arr n i.size) (←dU P x) (←jK P lo) (←jK P hi) (←jK P mx))
  | _=>none
 | .fieldAddr t x f=>match P.underlying t with
  | some (.struct fs)=>q do
   let f ←fs[f]?
   let i ←P.info? f.type
   if i.size=0 then none
   some (.faddr f.offset (←dU P x))
  | _=>none
 | .field t x f=>match P.underlying t with
  | some (.struct fs)=>q do
   let f ←fs[f]?
   let (agg,n) ←xF P f.type
   some (.fld agg f.offset n (←dU P x))
  | _=>none
 | .indexAddr t x ix=>match P.underlying t with
  | some (.slice e)=>q do let i ←P.info? e;some (.iaddr (.slice i.size) (←dU P x) (←dU P ix))
  | some (.array n e)=>q do let i ←P.info? e;some (.iaddr (.arr n i.size) (←dU P x) (←dU P ix))
  | _=>none
 | .index t x ix=>match P.underlying t with
  | some .string=>q do some (.idxStr (←dU P x) (←dU P ix))
  | some (.array n e)=>q do let (agg,s) ←xF P e;some (.idxArr agg n s (←dU P x) (←dU P ix))
  | _=>none
 | .lookup t m k ok=>match P.underlying t with
  | some (.map kt et)=>q do some (.lookup (←zQ P kt) (←aBY P et) ok (←dU P m) (←dU P k))
  | _=>none
 | .mapUpdate t m k v | .insert t m k v=>match P.underlying t with
  | some (.map kt _)=>xx do some (.mapUpd (←zQ P kt) (←dU P m) (←dU P k) (←dU P v))
  | _=>none
 | .typeAssert x _ t ok=>match P.underlying t with
  | some (.interface _)=>none
  | some _=>q do some (.tassert t (←aBY P t) ok (←dU P x))
  | none=>none
 | .extract x i=>q do some (.extract (←dU P x) i)
 | .call {callee:=.value f,args,.. }=>match aHG P f with
  | some k=>xx do some (.ext k (←tP P args.toList))
  | none=>xx do some (.call (←dU P f) (←tP P args.toList))
 | .call {callee:=.invoke r name,args,.. }=>xx do some (.inv (eZ P name P.types.toList 0) (←dU P r) (←tP P args.toList))
 | .call {callee:=.builtin b,args,argTypes}=>
  match b,args.toList,argTypes.toList with
  | .len,[x],[t]=>match P.underlying t with
   | some .string=>q do some (.lenStr (←dU P x))
   | some (.slice _)=>q do some (.lenSl (←dU P x))
   | some (.array n _)=>q (some (.lenArr n))
   | some (.map _ _)=>q do some (.lenMap (←dU P x))
   | _=>none
  | .cap,[x],[t]=>match P.underlying t with
   | some (.slice _)=>q do some (.capSl (←dU P x))
   | _=>none
  | .max,xs,_=>q do some (.minmax true (←tP P xs))
  | .min,xs,_=>q do some (.minmax false (←tP P xs))
  | .append,[s,x],[t,u]=>match jI P t with
   | some (e,i)=>bif aLH P u i && (iG P e i).isSome then xx do some (.app e i.size i.bytes (←dU P s) (←dU P x)) else none
   | none=>none
  | .clear,[x],[t]=>match jI P t with
   | some (e,i)=>xx do some (.clr (←iG P e i) (←dU P x))
   | none=>none
  | b,as,ts=>aJm P b as ts
 | _=>none
def zG(ops:Array Oper):Option (Nat×Bool)→Option (Option (Nat×Bool))
 | none=>some none
 | some (j,w)=>match (ops[j]?).bind (·.dst) with
  | some d=>some (some (d,w))
  | none=>none
def vH(nt:Nat):Option Tmp→Bool
 | some d=>Nat.blt d nt
 | none=>true
def aHr(nt:Nat)(ops:Array Oper)(o:Oper)(mask:Nat):Option AO:=
 bif vH nt o.dst then
  match zG ops o.guard with
  | some g=>match mQ P o.op with
   | some op=>some ⟨o.dst,op,g,mask⟩
   | none=>some ⟨o.dst,.x .bad,g,mask⟩
  | none=>none
 else none
def rN(nt:Nat)(ops:Array Oper):List Oper→List Nat→Option (List AO)
 | [],_=>some []
 | o::os,ms=>match aHr P nt ops o (ms.headD 0),rN nt ops os ms.tail with
  | some a,some as=>some (a::as)
  | _,_=>none
def cJ.rd(x:cJ):List Nat:=
 match x with
 | .t i=>[i]
 | .c _=>[]
def rds:List cJ→List Nat
 | []=>[]
 | x::xs=>x.rd++rds xs
def rdo(x:Option cJ):List Nat:=
 match x with
 | some x=>x.rd
 | none=>[]
def rdp:List (Nat×Nat×cJ)→List Nat
 | []=>[]
 | (_,_,x)::ps=>x.rd++rdp ps
def aM5:List (Nat×cJ)→List Nat
 | []=>[]
 | (_,x)::ps=>x.rd++aM5 ps
def wJ.rd(o:wJ):List Nat:=
 match o with
 | .mv x | .ld _ _ x | .nilchk x | .un _ x | .conv _ x | .mkIface _ x | .faddr _ x | .fld _ _ _ x | .tassert _ _ _ x | .extract x _ | .lenStr x | .lenSl x | .lenMap x | .capSl x | .mkMeth _ _ x=>x.rd
 | .pick c a b=>c.rd++(a.rd++b.rd)
 | .build _ ps=>rdp ps
 | .bin _ _ x y | .iaddr _ x y | .idxArr _ _ _ x y | .idxStr x y | .lookup _ _ _ x y=>x.rd++y.rd
 | .mkFunc _ a b=>rds a++rds b
 | .slc _ x lo hi mx=>x.rd++(rdo lo++(rdo hi++rdo mx))
 | .lenArr _=>[]
 | .minmax _ xs=>rds xs
def uD.rd(o:uD):List Nat:=
 match o with
 | .alloc _ _ | .mkMap=>[]
 | .box _ x | .strBytes _ x=>x.rd
 | .bslice _ _ _ _ ps=>aM5 ps
 | .mkSlice _ _ _ _ l c=>l.rd++c.rd
def XOp.rd(o:XOp):List Nat:=
 match o with
 | .st _ x v=>x.rd++v.rd
 | .call f args | .inv _ f args=>f.rd++rds args
 | .app _ _ _ s x | .copy _ s x | .mapDel _ s x=>s.rd++x.rd
 | .mapUpd _ m k v=>m.rd++(k.rd++v.rd)
 | .clr _ x=>x.rd
 | .ext _ args=>rds args
 | .bad=>[]
def AOp.rd(o:AOp):List Nat:=
 match o with
 | .q o=>o.rd
 | .a o=>o.rd
 | .x o=>o.rd
def AO.touch(o:AO):List Nat:=o.dst.toList++((o.grd.map (·.1)).toList++o.op.rd)
def inL(t:Nat):List Nat→Bool
 | []=>false
 | u::l=>bif Nat.beq t u then true else inL t l
def meets(d:Option Nat)(b:List Nat):Bool:=
 match d with
 | some d=>inL d b
 | none=>false
def aDX(i:Nat)(d:Option Nat)(tch:List Nat):List AO→Bool
 | []=>true
 | b::l=>(bif meets d b.touch || meets b.dst tch then Nat.testBit b.mask i else true) && aDX i d tch l
def aG9:Nat→List AO→Bool
 | _,[]=>true
 | i,a::l=>aDX i a.dst a.touch l && aG9 (i+1) l
def aN0(l:List AO):Bool:=aG9 0 l
def aAX:Nat→List Oper→Bool
 | _,[]=>true
 | i,o::l=>o.after.all (fun e=> !Region.binds .any e || Nat.blt e.on i) && aAX (i+1) l
def aDw(nt:Nat)(ops:Array Oper):Option AC:=
 match rN P nt ops ops.toList (CheckFast.beforeL ops.toList 0 []) with
 | some aos=>bif aAX 0 ops.toList && aN0 aos then some (.drw aos) else none
 | none=>none
def iX(nt:Nat):Code→Option AC
 | .skip=>some .skip
 | .seq a b=>match iX nt a,iX nt b with
  | some a,some b=>some (.seq a b)
  | _,_=>none
 | .cond c a b=>match dU P c,iX nt a,iX nt b with
  | some c,some a,some b=>some (.cond c a b)
  | _,_,_=>none
 | .block id c=>(iX nt c).map (.block id)
 | .loop c=>(iX nt c).map .loop
 | .exit id=>some (.exit id)
 | .ret=>some .ret
 | .region _ ops d=>bif d then aDw P nt ops else(rN P nt ops ops.toList []).map .reg
 | .rangeFunc f ps as bd=>bif ps.toList.all (fun p=>Nat.blt p nt) then match dU P f,iX nt as,iX nt bd with
  | some f,some as,some bd=>some (.rng f ps.toList as bd)
  | _,_,_=>none
  else none
 | _=>none
def aEX:List ResultVar→Option (List RV)
 | []=>some []
 | .tmp t::rs=>(aEX rs).map (.t t:: ·)
 | .cell a t::rs=>match xF P t,aEX rs with
  | some (agg,n),some rs=>some (.cell a agg n::rs)
  | _,_=>none
def cFn(fn:Func):Option dE:=
 bif fn.name== "runtime.NumGoroutine" then none else
 match fn.body with
 | some c=>match iX P fn.ntmps c,aEX P fn.results.toList with
  | some c,some rs=>some ⟨fn.ntmps,rs,c⟩
  | _,_=>none
 | none=>none
end
end Go.Ev
