import GoSem.Dispatch
import Derived.CheckFast
namespace Go.Ev
theorem Aa:type_of% @decide_eq_false:=@decide_eq_false
theorem Ab.{u}:type_of% @List.forall_mem_cons.{u}:=@List.forall_mem_cons.{u}
theorem Ac:type_of% @decide_eq_true:=@decide_eq_true
theorem Ad.{u}:type_of% @List.getElem?_eq_getElem.{u}:=@List.getElem?_eq_getElem.{u}
theorem Ae.{u}:type_of% @List.getElem?_eq_some_iff.{u}:=@List.getElem?_eq_some_iff.{u}
theorem Af:type_of% @Nat.lt_of_lt_of_le:=@Nat.lt_of_lt_of_le
theorem Ag:type_of% @Nat.le_refl:=@Nat.le_refl
theorem Ah.{u}:type_of% @List.getD_eq_getElem?_getD.{u}:=@List.getD_eq_getElem?_getD.{u}
theorem Ai.{u}:type_of% @List.length_append.{u}:=@List.length_append.{u}
theorem Aj:type_of% @Nat.ble_eq_true_of_le:=@Nat.ble_eq_true_of_le
theorem Ak.{u}:type_of% @Option.some.injEq.{u}:=@Option.some.injEq.{u}
theorem Al:type_of% @Int.ofNat_eq_natCast:=@Int.ofNat_eq_natCast
theorem Am.{u}:type_of% @List.length_singleton.{u}:=@List.length_singleton.{u}
theorem An.{u}:type_of% @List.length_cons.{u}:=@List.length_cons.{u}
theorem Ao:type_of% @Nat.le_of_ble_eq_true:=@Nat.le_of_ble_eq_true
theorem Ap:type_of% @Nat.zero_add:=@Nat.zero_add
theorem Aq:type_of% @not_false_eq_true:=@not_false_eq_true
theorem Ar:type_of% @Bool.false_eq_true:=@Bool.false_eq_true
theorem Au.{u}:type_of% @List.append_assoc.{u}:=@List.append_assoc.{u}
theorem Av.{u,v}:type_of% @Option.map_eq_some_iff.{u,v}:=@Option.map_eq_some_iff.{u,v}
theorem Aw.{u}:type_of% @List.mem_of_getElem?.{u}:=@List.mem_of_getElem?.{u}
theorem Ax:type_of% @Nat.beq_eq:=@Nat.beq_eq
theorem Ay.{u}:type_of% @List.getElem?_append_left.{u}:=@List.getElem?_append_left.{u}
theorem Az.{u}:type_of% @List.getElem?_append_right.{u}:=@List.getElem?_append_right.{u}
theorem Ba.{u}:type_of% @Bool.cond_eq_ite.{u}:=@Bool.cond_eq_ite.{u}
theorem Bb:type_of% @Nat.le_trans:=@Nat.le_trans
theorem Bc.{u,v}:type_of% @List.length_map.{u,v}:=@List.length_map.{u,v}
theorem Bd.{u}:type_of% @Array.getD_eq_getD_getElem?.{u}:=@Array.getD_eq_getD_getElem?.{u}
theorem Be.{u}:type_of% @List.mem_append.{u}:=@List.mem_append.{u}
theorem Bf.{u}:type_of% @List.nil_append.{u}:=@List.nil_append.{u}
theorem Bg.{u}:type_of% @List.take_of_length_le.{u}:=@List.take_of_length_le.{u}
theorem Bh.{u}:type_of% @List.length_replicate.{u}:=@List.length_replicate.{u}
theorem Bi.{u,v}:type_of% @List.getElem?_map.{u,v}:=@List.getElem?_map.{u,v}
theorem Bj.{u}:type_of% @List.take_succ_cons.{u}:=@List.take_succ_cons.{u}
theorem Bk.{u}:type_of% @List.cons_append.{u}:=@List.cons_append.{u}
theorem Bl.{u}:type_of% @List.mem_cons.{u}:=@List.mem_cons.{u}
theorem Bm:type_of% @Bool.not_true:=@Bool.not_true
theorem Bn.{u}:type_of% @List.length_set.{u}:=@List.length_set.{u}
theorem Bo.{u}:type_of% @List.getElem?_eq_none.{u}:=@List.getElem?_eq_none.{u}
theorem Bp.{u}:type_of% @List.length_nil.{u}:=@List.length_nil.{u}
theorem Bq.{u}:type_of% @List.take_zero.{u}:=@List.take_zero.{u}
theorem Br:type_of% @Bool.eq_false_iff:=@Bool.eq_false_iff
theorem Bs:type_of% @Bool.not_false:=@Bool.not_false
theorem Bt.{u}:type_of% @List.append_nil.{u}:=@List.append_nil.{u}
theorem Bu.{u}:type_of% @List.mem_singleton.{u}:=@List.mem_singleton.{u}
theorem Bv:type_of% @Nat.add_zero:=@Nat.add_zero
theorem Bw.{u}:type_of% @List.mem_cons_of_mem.{u}:=@List.mem_cons_of_mem.{u}
theorem Bx.{u}:type_of% @List.take_add_one.{u}:=@List.take_add_one.{u}
theorem Bz.{u}:type_of% @List.length_take.{u}:=@List.length_take.{u}
theorem Ca:type_of% @Bool.and_eq_true:=@Bool.and_eq_true
theorem Cb:type_of% @Nat.zero_le:=@Nat.zero_le
theorem Cc.{u}:type_of% @List.length_eq_zero_iff.{u}:=@List.length_eq_zero_iff.{u}
theorem Cd:type_of% @Nat.eq_zero_or_pos:=@Nat.eq_zero_or_pos
theorem Ce:type_of% @Nat.eq_of_beq_eq_true:=@Nat.eq_of_beq_eq_true
theorem Cf.{u}:type_of% @Option.some.inj.{u}:=@Option.some.inj.{u}
theorem Cg:type_of% @not_true_eq_false:=@not_true_eq_false
theorem Ch.{u}:type_of% @List.take_length.{u}:=@List.take_length.{u}
theorem Ci.{u}:type_of% @List.getElem_mem.{u}:=@List.getElem_mem.{u}
theorem Cj.{u}:type_of% @List.reverse_cons.{u}:=@List.reverse_cons.{u}
theorem Ck.{u}:type_of% @List.singleton_append.{u}:=@List.singleton_append.{u}
theorem Cl:type_of% @Bool.eq_iff_iff:=@Bool.eq_iff_iff
theorem Cm.{u}:type_of% @if_false.{u}:=@if_false.{u}
theorem Cn.{u}:type_of% @List.mem_cons_self.{u}:=@List.mem_cons_self.{u}
theorem Co.{u}:type_of% @List.drop_zero.{u}:=@List.drop_zero.{u}
theorem Cp:type_of% @Nat.sub_self:=@Nat.sub_self
theorem Cq:type_of% @Nat.mul_le_mul_right:=@Nat.mul_le_mul_right
theorem Cr:type_of% @Nat.add_assoc:=@Nat.add_assoc
theorem Ct.{u}:type_of% @Array.getElem?_toList.{u}:=@Array.getElem?_toList.{u}
theorem Cu.{u}:type_of% @List.mem_append_right.{u}:=@List.mem_append_right.{u}
theorem Cv.{u}:type_of% @Ne.symm.{u}:=@Ne.symm.{u}
theorem Cw.{u,v}:type_of% @List.map_congr_left.{u,v}:=@List.map_congr_left.{u,v}
theorem Cx.{u}:type_of% @Array.length_toList.{u}:=@Array.length_toList.{u}
theorem Cy.{u}:type_of% @List.length_drop.{u}:=@List.length_drop.{u}
theorem Cz.{u,v}:type_of% @List.map_cons.{u,v}:=@List.map_cons.{u,v}
theorem Da.{u,v}:type_of% @List.flatMap_cons.{u,v}:=@List.flatMap_cons.{u,v}
theorem Db:type_of% @Nat.lt_or_ge:=@Nat.lt_or_ge
theorem Dc:type_of% @Nat.le_add_right:=@Nat.le_add_right
theorem Dd:type_of% @Nat.succ_mul:=@Nat.succ_mul
theorem De:type_of% @Int.toNat_natCast:=@Int.toNat_natCast
theorem Dg:type_of% @of_decide_eq_true:=@of_decide_eq_true
theorem Dh.{u}:type_of% @List.mem_of_mem_take.{u}:=@List.mem_of_mem_take.{u}
theorem Di:type_of% @Nat.lt_of_le_of_lt:=@Nat.lt_of_le_of_lt
theorem Dj.{u,v}:type_of% @congrArg.{u,v}:=@congrArg.{u,v}
theorem Dk.{u}:type_of% @List.mem_append_left.{u}:=@List.mem_append_left.{u}
theorem Dl.{u}:type_of% @List.all_eq_true.{u}:=@List.all_eq_true.{u}
theorem Dm.{u,v}:type_of% @Array.toList_map.{u,v}:=@Array.toList_map.{u,v}
theorem Dn.{u}:type_of% @List.pairwise_iff_getElem.{u}:=@List.pairwise_iff_getElem.{u}
theorem Dp.{u}:type_of% @List.drop_eq_getElem_cons.{u}:=@List.drop_eq_getElem_cons.{u}
theorem Dq.{u,v}:type_of% @List.foldl_cons.{u,v}:=@List.foldl_cons.{u,v}
theorem Dr.{u,v}:type_of% @List.map_append.{u,v}:=@List.map_append.{u,v}
theorem Dt.{u,v}:type_of% @Option.bind_eq_some_iff.{u,v}:=@Option.bind_eq_some_iff.{u,v}
theorem Du:type_of% @Nat.add_mul:=@Nat.add_mul
theorem Dw.{u}:type_of% @List.getElem?_append.{u}:=@List.getElem?_append.{u}
theorem Dx.{u}:type_of% @if_true.{u}:=@if_true.{u}
theorem Dy.{u}:type_of% @Array.getElem?_eq_some_iff.{u}:=@Array.getElem?_eq_some_iff.{u}
theorem Dz.{u}:type_of% @List.getElem?_set.{u}:=@List.getElem?_set.{u}
theorem Ea:type_of% @Nat.not_lt_zero:=@Nat.not_lt_zero
theorem Eb:type_of% @Nat.mul_one:=@Nat.mul_one
theorem Ec.{u}:type_of% @Array.getElem?_eq_getElem.{u}:=@Array.getElem?_eq_getElem.{u}
theorem Ed.{u}:type_of% @List.take_append_drop.{u}:=@List.take_append_drop.{u}
theorem Ee.{u}:type_of% @List.getElem?_drop.{u}:=@List.getElem?_drop.{u}
theorem Ef.{u,v}:type_of% @List.getElem_map.{u,v}:=@List.getElem_map.{u,v}
theorem Eg.{u}:type_of% @List.ext_getElem.{u}:=@List.ext_getElem.{u}
theorem Eh:type_of% @Int.natCast_nonneg:=@Int.natCast_nonneg
theorem Ei.{u}:type_of% @List.getElem?_take_of_lt.{u}:=@List.getElem?_take_of_lt.{u}
theorem Ej.{u,v}:type_of% @List.mem_map.{u,v}:=@List.mem_map.{u,v}
theorem Ek.{u}:type_of% @List.mem_of_mem_drop.{u}:=@List.mem_of_mem_drop.{u}
theorem Em.{u}:type_of% @List.getElem?_of_mem.{u}:=@List.getElem?_of_mem.{u}
theorem En:type_of% @Bool.false_and:=@Bool.false_and
theorem Eo.{u}:type_of% @List.getElem?_replicate.{u}:=@List.getElem?_replicate.{u}
theorem Ep.{u}:type_of% @Array.ext'.{u}:=@Array.ext'.{u}
theorem Eq:type_of% @Bool.or_eq_true:=@Bool.or_eq_true
theorem Er.{u}:type_of% @List.cons.injEq.{u}:=@List.cons.injEq.{u}
theorem Es:type_of% @Nat.zero_mul:=@Nat.zero_mul
theorem Et.{u}:type_of% @List.drop_of_length_le.{u}:=@List.drop_of_length_le.{u}
theorem Eu:type_of% @Bool.true_and:=@Bool.true_and
theorem Ew:type_of% @Nat.lt_succ_self:=@Nat.lt_succ_self
theorem Ex:type_of% @Nat.le_max_right:=@Nat.le_max_right
theorem Ey:type_of% @decide_eq_true_iff:=@decide_eq_true_iff
theorem Ez:type_of% @Nat.le_max_left:=@Nat.le_max_left
theorem Fa:type_of% @Nat.ble_eq:=@Nat.ble_eq
theorem Fb.{u}:type_of% @Array.getElem?_push.{u}:=@Array.getElem?_push.{u}
theorem Fc:type_of% @List.getElem?_range:=@List.getElem?_range
theorem Fd.{u}:type_of% @Option.getD_some.{u}:=@Option.getD_some.{u}
theorem Fe.{u}:type_of% @Option.isSome_none.{u}:=@Option.isSome_none.{u}
theorem Ff:type_of% @Nat.two_pow_pos:=@Nat.two_pow_pos
theorem Fg.{u,v}:type_of% @Option.map_some.{u,v}:=@Option.map_some.{u,v}
theorem Fi:type_of% @decide_eq_true_eq:=@decide_eq_true_eq
theorem Fj:type_of% @Nat.one_mul:=@Nat.one_mul
theorem Fk:type_of% @List.mem_range:=@List.mem_range
theorem Fm.{u,v,w}:type_of% @List.map_map.{u,v,w}:=@List.map_map.{u,v,w}
theorem Fp.{u,v,w}:type_of% @getElem!_pos.{u,v,w}:=@getElem!_pos.{u,v,w}
noncomputable section
inductive T(α:Type) where
 | e:T α
 | n (l:T α) (v:Option α) (r:T α):T α
def bL{α:Sort _}(c:Bool)(a b:α):α:=Bool.rec b a c
def aW{α β:Type}(x:Option α)(f:α→Option β):Option β:=Option.rec none f x
namespace T
variable {α:Type}
def get(t:T α):Nat→Option α:=
 T.rec (motive:=fun _=>Nat→Option α) (fun _=>none)
  (fun _ v _ gl gr k=>bL (Nat.beq k 0) v (bL (Nat.beq (Nat.mod k 2) 1) (gl (Nat.div k 2)) (gr (Nat.sub (Nat.div k 2) 1)))) t
def single(f:Nat):Nat→Option α→T α:=
 Nat.rec (motive:=fun _=>Nat→Option α→T α) (fun _ _=>.e)
  (fun _ ih k x=>bL (Nat.beq k 0) (.n .e x .e) (bL (Nat.beq (Nat.mod k 2) 1) (.n (ih (Nat.div k 2) x) none .e) (.n .e none (ih (Nat.sub (Nat.div k 2) 1) x)))) f
def set(t:T α):Nat→Option α→T α:=
 T.rec (motive:=fun _=>Nat→Option α→T α) (fun k x=>single (Nat.succ k) k x)
  (fun l v r sl sr k x=>bL (Nat.beq k 0) (.n l x r) (bL (Nat.beq (Nat.mod k 2) 1) (.n (sl (Nat.div k 2) x) v r) (.n l v (sr (Nat.sub (Nat.div k 2) 1) x)))) t
end T
inductive AV where
 | bool (b:Bool)
 | int (k:IntKind) (n:Int)
 | str (s:List Nat)
 | ptr (b off:Nat)
 | nilp
 | sl (b off len cap:Nat) (o:Bool)
 | nilsl
 | emp        -- an empty slice,not nil,of unknown place and capacity
 | map (b:Nat)
 | nilmap
 | fn (f:Nat) (first captured:List AV)
 | nilfn
 | yld (b:Nat)
 | iface (t:Nat) (v:AV)
 | niliface
 | mth (name:String) (tbl:List (Nat×Nat×Option (Bool×Nat))) (v:AV)     -- a method of an interface value,bound
 | agg (cs:List AV)
 | tup (vs:List AV)
 deriving Inhabited
def AV.cells(v:AV):Option (List AV):=
 match v with
 | .agg cs=>some cs
 | .tup _=>none
 | v=>some [v]
def AV.undef:AV:=.tup []
inductive cK where
 | t (i:Nat)
 | c (v:AV)
 deriving Inhabited
inductive EqP where
 | bool | int | str | ptr | slice | map | func | iface | no
 deriving Inhabited,DecidableEq
inductive oG where
 | p (e:EqP)
 | struct (fs:List (Nat×EqP))
 deriving Inhabited
inductive aGr where
 | int (k:IntKind)
 | same
 | bytesToStr
 | intToStr
 deriving Inhabited
inductive SlK where
 | str
 | slice (size:Nat)
 | arr (n size:Nat)
 deriving Inhabited
inductive IxK where
 | arr (n size:Nat)
 | slice (size:Nat)
 deriving Inhabited
inductive zM where
 | mv (x:cK)
 | pick (c a b:cK)
 | build (zero:List AV) (parts:List (Nat×Nat×cK))
 | ld (agg:Bool) (n:Nat) (x:cK)
 | nilchk (x:cK)
 | bin (op:BinOp) (e:oG) (x y:cK)
 | un (op:UnOp) (x:cK)
 | conv (k:aGr) (x:cK)
 | mkIface (t:Nat) (x:cK)
 | mkFunc (f:Nat) (first captured:List cK)
 | slc (k:SlK) (x:cK) (lo hi mx:Option cK)
 | faddr (off:Nat) (x:cK)
 | fld (agg:Bool) (off n:Nat) (x:cK)
 | iaddr (k:IxK) (x ix:cK)
 | idxArr (agg:Bool) (n size:Nat) (x ix:cK)
 | idxStr (x ix:cK)
 | lookup (e:oG) (zero:AV) (commaOk:Bool) (m key:cK)
 | tassert (t:Nat) (zero:AV) (commaOk:Bool) (x:cK)
 | extract (x:cK) (i:Nat)
 | lenArr (n:Nat)
 | lenStr (x:cK)
 | lenSl (x:cK)
 | lenMap (x:cK)
 | capSl (x:cK)
 | minmax (isMax:Bool) (xs:List cK)
 | mkMeth (name:String) (tbl:List (Nat×Nat×Option (Bool×Nat))) (x:cK)
 deriving Inhabited
inductive vE where
 | alloc (t:Nat) (cells:List AV)
 | box (t:Nat) (x:cK)
 | bslice (t size len:Nat) (zero:List AV) (parts:List (Nat×cK))
 | mkSlice (t size bytes:Nat) (zero:List AV) (l c:cK)
 | mkMap
 | strBytes (t:Nat) (x:cK)
 deriving Inhabited
inductive aHp where
 | add64 | idxByte | idxStr
 deriving Inhabited
inductive XOp where
 | st (n:Nat) (x v:cK)
 | call (f:cK) (args:List cK)
 | inv (tbl:List (Nat×Nat×Option (Bool×Nat))) (recv:cK) (args:List cK)
 | app (t size bytes:Nat) (s x:cK)
 | copy (size:Nat) (d s:cK)
 | mapUpd (e:oG) (m k v:cK)
 | mapDel (e:oG) (m k:cK)
 | clr (zero:List AV) (x:cK)
 | ext (k:aHp) (args:List cK)
 | bad
 deriving Inhabited
inductive AOp where
 | q (o:zM)
 | a (o:vE)
 | x (o:XOp)
 deriving Inhabited
structure AO where
 dst:Option Nat
 op:AOp
 grd:Option (Nat×Bool)
 mask:Nat      -- the operations before it (drawn regions)
 deriving Inhabited
inductive AC where
 | skip
 | seq (a b:AC)
 | cond (c:cK) (a b:AC)
 | block (id:Nat) (c:AC)
 | loop (c:AC)
 | exit (id:Nat)
 | ret
 | reg (ops:List AO)
 | drw (ops:List AO)
 | rng (f:cK) (params:List Nat) (assign body:AC)
 | dfr (ops:List AO) (f:cK) (args:List cK)
 deriving Inhabited
inductive RV where
 | t (i:Nat)
 | cell (a:Nat) (agg:Bool) (n:Nat)
 deriving Inhabited
structure dB where
 ntmps:Nat
 res:List RV
 body:AC
 deriving Inhabited
abbrev Fr:=T AV
inductive LSt where
 | ready | busy | done | exhausted
 deriving DecidableEq,Inhabited
inductive Out where
 | normal
 | exit (id:Nat)
 | ret
 deriving Inhabited
inductive AB where
 | cells (cs:List AV) (opn:Bool) (size:Nat)     -- opn:there may be more room behind;size:the cells of an element then
 | ro (cs:List AV)
 | map (es:List (AV×AV))
 | loop (st:LSt) (pend:Option Out) (fr:Fr) (params:List Nat) (assign body:AC)
 | dfd
 deriving Inhabited
structure St where
 h:T AB
 nx:Nat
def aD(i:Nat)(F:Fr):AV:=Option.rec (motive:=fun _=>AV) .undef (fun v=>v) (F.get i)
def aOk(v:AV)(_:Fr):AV:=v
def cK.val(x:cK):Fr→AV:=cK.rec (motive:=fun _=>Fr→AV) aD aOk x
def dC(l:List cK):Fr→List AV:=List.rec (motive:=fun _=>Fr→List AV) (fun _=>[]) (fun x _ ih F=>x.val F::ih F) l
def nth{α:Type}(l:List α):Nat→Option α:=List.rec (motive:=fun _=>Nat→Option α) (fun _=>none) (fun x _ ih k=>bL (Nat.beq k 0) (some x) (ih (Nat.sub k 1))) l
def aGS{α:Type}(l:List α):Nat→List α:=List.rec (motive:=fun _=>Nat→List α) (fun _=>[]) (fun x xs ih k=>bL (Nat.beq k 0) (x::xs) (ih (Nat.sub k 1))) l
def aD9{α:Type}(l:List α):Nat→Option (List α):=
 List.rec (motive:=fun _=>Nat→Option (List α)) (fun n=>bL (Nat.beq n 0) (some []) none)
  (fun x _ ih n=>bL (Nat.beq n 0) (some []) (aW (ih (Nat.sub n 1)) fun r=>some (x::r))) l
def aC3{α:Type}(vs:List α):List α→Option (List α):=
 List.rec (motive:=fun _=>List α→Option (List α)) (fun l=>some l)
  (fun v _ ih l=>List.rec (motive:=fun _=>Option (List α)) none (fun _ xs _=>aW (ih xs) fun r=>some (v::r)) l) vs
def put{α:Type}(l:List α):Nat→List α→Option (List α):=
 List.rec (motive:=fun _=>Nat→List α→Option (List α)) (fun k vs=>bL (Nat.beq k 0) (aC3 vs []) none)
  (fun x xs ih k vs=>bL (Nat.beq k 0) (aC3 vs (x::xs)) (aW (ih (Nat.sub k 1) vs) fun r=>some (x::r))) l
def iW{α:Type}(l:List α):Nat:=List.rec (motive:=fun _=>Nat) 0 (fun _ _ ih=>Nat.succ ih) l
def vW{α:Type}(l m:List α):List α:=List.rec (motive:=fun _=>List α) m (fun x _ ih=>x::ih) l
def repeatL{α:Type}(z:List α)(n:Nat):List α:=Nat.rec (motive:=fun _=>List α) [] (fun _ ih=>vW z ih) n
def cut{α:Type}(l:List α)(i n:Nat):Option (List α):=aD9 (aGS l i) n
def oK(k:IntKind):Nat:=
 match k with
 | .i8=>127 | .i16=>32767 | .i32=>2147483647 | .i64=>9223372036854775807
 | .u8=>255 | .u16=>65535 | .u32=>4294967295 | .u64=>18446744073709551615
def nat(k:IntKind)(n:Nat):Int:=bL (Nat.ble n (oK k)) (.ofNat n) (k.wrap (.ofNat n))
def aDd(k:IntKind):Bool:=
 match k with
 | .i8 | .i16 | .i32 | .i64=>true
 | _=>false
def neg(k:IntKind)(n:Nat):Int:=bL (aDd k) (bL (Nat.ble n (oK k)) (.negSucc n) (k.wrap (.negSucc n))) (k.wrap (.negSucc n))
def xK(k:IntKind)(n:Nat):Bool:=Nat.ble n (oK k)
def aEe(k:IntKind)(n:Int):Int:=Int.rec (motive:=fun _=>Int) (fun m=>nat k m) (fun m=>neg k m) n
def aBb(k:IntKind)(a b:Nat):Int:=bL (Nat.ble b a) (nat k (Nat.sub a b)) (neg k (Nat.sub (Nat.sub b a) 1))
def aLl(k:IntKind)(x y:Int):Int:=
 Int.rec (motive:=fun _=>Int) (fun a=>Int.rec (motive:=fun _=>Int) (fun b=>nat k (Nat.add a b)) (fun b=>aBb k a (Nat.succ b)) y)
  (fun a=>Int.rec (motive:=fun _=>Int) (fun b=>aBb k b (Nat.succ a)) (fun b=>neg k (Nat.succ (Nat.add a b))) y) x
def aD3(k:IntKind)(x y:Int):Int:=
 Int.rec (motive:=fun _=>Int) (fun a=>Int.rec (motive:=fun _=>Int) (fun b=>aBb k a b) (fun b=>nat k (Nat.add a (Nat.succ b))) y)
  (fun a=>Int.rec (motive:=fun _=>Int) (fun b=>neg k (Nat.add a b)) (fun b=>aBb k b a) y) x
def aF9(k:IntKind)(x y:Int):Int:=
 Int.rec (motive:=fun _=>Int) (fun a=>Int.rec (motive:=fun _=>Int) (fun b=>nat k (Nat.mul a b)) (fun b=>aEe k (Int.mul (.ofNat a) (.negSucc b))) y)
  (fun a=>aEe k (Int.mul (.negSucc a) y)) x
def ieq(x y:Int):Bool:=
 Int.rec (motive:=fun _=>Bool) (fun a=>Int.rec (motive:=fun _=>Bool) (fun b=>Nat.beq a b) (fun _=>false) y)
  (fun a=>Int.rec (motive:=fun _=>Bool) (fun _=>false) (fun b=>Nat.beq a b) y) x
def ile(x y:Int):Bool:=
 Int.rec (motive:=fun _=>Bool) (fun a=>Int.rec (motive:=fun _=>Bool) (fun b=>Nat.ble a b) (fun _=>false) y)
  (fun a=>Int.rec (motive:=fun _=>Bool) (fun _=>true) (fun b=>Nat.ble b a) y) x
def keq(x y:IntKind):Bool:=Nat.beq (oK x) (oK y)
def aLf(x y:Bool):Bool:=bL x y (bL y false true)
def aQn(k:IntKind)(x y:Int):Option AV:=some (.int k (aLl k x y))
def aQw(k:IntKind)(x y:Int):Option AV:=some (.int k (aD3 k x y))
def aQ6(k:IntKind)(x y:Int):Option AV:=some (.int k (aF9 k x y))
def aK5(k:IntKind)(x y:Int):Option AV:=
 match x,y with
 | .ofNat a,.ofNat b=>bL (Nat.beq b 0) none (some (.int k (nat k (Nat.div a b))))
 | x,y=>bL (ieq y (.ofNat 0)) none (some (.int k (aEe k (x.tdiv y))))
def aLN(k:IntKind)(x y:Int):Option AV:=
 match x,y with
 | .ofNat a,.ofNat b=>bL (Nat.beq b 0) none (some (.int k (.ofNat (Nat.mod a b))))
 | x,y=>bL (ieq y (.ofNat 0)) none (some (.int k (x.tmod y)))
def aBC(f:Nat→Nat→Nat)(k:IntKind)(x y:Int):Option AV:=
 match x,y with
 | .ofNat a,.ofNat b=>bL (xK k a) (bL (xK k b) (some (.int k (.ofNat (f a b)))) none) none
 | _,_=>none
def aQ5:=aBC Nat.land
def iOr:=aBC Nat.lor
def aQP:=aBC Nat.xor
def aRb(_:IntKind)(x y:Int):Option AV:=some (.bool (ieq x y))
def aQJ(_:IntKind)(x y:Int):Option AV:=some (.bool (bL (ieq x y) false true))
def aQV(_:IntKind)(x y:Int):Option AV:=some (.bool (bL (ile y x) false true))
def aQL(_:IntKind)(x y:Int):Option AV:=some (.bool (ile x y))
def aQH(_:IntKind)(x y:Int):Option AV:=some (.bool (bL (ile x y) false true))
def aQm(_:IntKind)(x y:Int):Option AV:=some (.bool (ile y x))
def aKO(_:IntKind)(_ _:Int):Option AV:=none
def aLM(op:BinOp):IntKind→Int→Int→Option AV:=
 BinOp.rec (motive:=fun _=>IntKind→Int→Int→Option AV) aQn aQw aQ6 aK5 aLN aQ5 iOr aQP aKO aKO aKO aRb aQJ aQV aQL aQH aQm op
def rO(op:BinOp)(k:IntKind)(x:Int)(b:Nat):Option AV:=
 let n:=bL (Nat.ble b k.bits) b k.bits
 match op with
 | .shl=>some (.int k (aF9 k x (.ofNat (Nat.pow 2 n))))
 | .shr=>some (.int k (x.fdiv (.ofNat (Nat.pow 2 n))))
 | _=>none
def aAB(op:BinOp)(k:IntKind)(x y:Int):Option AV:=
 match y with
 | .ofNat b=>rO op k x b
 | _=>none
def dP(op:BinOp):Bool:=BinOp.rec (motive:=fun _=>Bool) false false false false false false false false true true false false false false false false false op
def oS:List Nat→List Nat→Bool
 | _,[]=>false
 | [],_::_=>true
 | a::x,b::y=>bL (Nat.blt a b) true (bL (Nat.beq a b) (oS x y) false)
def kO:List Nat→List Nat→Bool
 | [],[]=>true
 | a::x,b::y=>bL (Nat.beq a b) (kO x y) false
 | _,_=>false
def aHn(op:BinOp)(a b:List Nat):Option AV:=
 match op with
 | .add=>bL (Nat.ble (iW a+iW b) 9223372036854775807) (some (.str (vW a b))) none
 | .eql=>some (.bool (kO a b))
 | .neq=>some (.bool (!kO a b))
 | .lss=>some (.bool (oS a b))
 | .leq=>some (.bool (oS a b || kO a b))
 | .gtr=>some (.bool (!(oS a b || kO a b)))
 | .geq=>some (.bool (!oS a b))
 | _=>none
def partOf(agg:Bool)(cs:List AV)(off n:Nat):Option AV:=
 bL agg (aW (cut cs off n) fun r=>some (.agg r)) (nth cs off)
def zF:EqP→AV→AV→Option Bool
 | .bool,.bool a,.bool b=>some (aLf a b)
 | .int,.int k a,.int k' b=>bL (keq k k') (some (ieq a b)) none
 | .str,.str a,.str b=>some (kO a b)
 | .ptr,.nilp,.nilp=>some true
 | .ptr,.nilp,.ptr _ _=>some false
 | .ptr,.ptr _ _,.nilp=>some false
 | .slice,.nilsl,.nilsl=>some true
 | .slice,.nilsl,.sl .. =>some false
 | .slice,.sl ..,.nilsl=>some false
 | .slice,.nilsl,.emp=>some false
 | .slice,.emp,.nilsl=>some false
 | .map,.nilmap,.nilmap=>some true
 | .map,.nilmap,.map _=>some false
 | .map,.map _,.nilmap=>some false
 | .func,.nilfn,.nilfn=>some true
 | .func,.nilfn,.fn .. =>some false
 | .func,.fn ..,.nilfn=>some false
 | .iface,.niliface,.iface _ _=>some false
 | .iface,.iface _ _,.niliface=>some false
 | _,_,_=>none
def eqs:List (Nat×EqP)→List AV→List AV→Option Bool
 | [],_,_=>some true
 | (off,e)::fs,xs,ys=>
  match nth xs off,nth ys off with
  | some x,some y=>match zF e x y with
   | some true=>eqs fs xs ys
   | some false=>some false
   | none=>none
  | _,_=>none
def eqv:oG→AV→AV→Option Bool
 | .p e,x,y=>zF e x y
 | .struct fs,.agg xs,.agg ys=>bL (Nat.beq (iW xs) (iW fs)) (bL (Nat.beq (iW ys) (iW fs)) (eqs fs xs ys) none) none
 | _,_,_=>none
def aOd(op:BinOp)(e:oG)(x y:AV):Option AV:=
 match op with
 | .eql=>aW (eqv e x y) fun b=>some (.bool b)
 | .neq=>aW (eqv e x y) fun b=>some (.bool (bL b false true))
 | _=>none
def cP(op:BinOp)(k:IntKind)(a:Int)(k':IntKind)(b:Int):Option AV:=
 bL (dP op) (aAB op k a b) (bL (keq k k') (aLM op k a b) none)
def aEU(v:AV):Option (IntKind×Int):=
 match v with
 | .int k a=>some (k,a)
 | _=>none
def aFu(v:AV):Option (List Nat):=
 match v with
 | .str s=>some s
 | _=>none
def eX(op:BinOp)(e:oG)(x y:AV):Option AV:=
 match aEU x,aEU y with
 | some a,some b=>cP op a.1 a.2 b.1 b.2
 | _,_=>match aFu x,aFu y with
  | some a,some b=>aHn op a b
  | _,_=>aOd op e x y
def unV(op:UnOp)(x:AV):Option AV:=
 match op,x with
 | .neg,.int k n=>some (.int k (aD3 k (.ofNat 0) n))
 | .not,.bool b=>some (.bool (bL b false true))
 | _,_=>none
def mD(b:AB):Option (List AV):=
 match b with
 | .cells cs _ _=>some cs
 | .ro cs=>some cs
 | _=>none
def cM(h:T AB)(b:Nat):Option (List AV):=aW (h.get b) mD
def uS(h:T AB)(b off n:Nat):Option (List AV):=aW (cM h b) fun cs=>cut cs off n
def lA(h:T AB)(b off:Nat):Option AV:=aW (cM h b) fun cs=>nth cs off
def oC(agg:Bool)(n:Nat)(h:T AB)(b off:Nat):Option AV:=
 bL agg (aW (uS h b off n) fun cs=>some (.agg cs)) (lA h b off)
def fI(zero:List AV):List (Nat×Nat×AV)→Option (List AV)
 | []=>some zero
 | (off,n,v)::ps=>aW v.cells fun cs=>bL (Nat.beq (iW cs) n) (aW (put zero off cs) fun z=>fI z ps) none
def bytesOf:List AV→Option (List Nat)
 | []=>some []
 | .int .u8 (.ofNat n)::vs=>bL (Nat.ble n 255) (aW (bytesOf vs) fun r=>some (n::r)) none
 | _::_=>none
def fA(v:AV):Option Nat:=
 match v with
 | .int _ (.ofNat n)=>some n
 | _=>none
def iL(F:Fr)(d:Nat)(x:Option cK):Option Nat:=
 match x with
 | none=>some d
 | some x=>fA (x.val F)
def qD(e:oG)(k:AV):List (AV×AV)→Nat→Option (Option (Nat×AV))
 | [],_=>some none
 | (k',v)::es,i=>aW (eqv e k k') fun b=>bL b (some (some (i,v))) (qD e k es (Nat.succ i))
def oE(e:oG)(k:AV)(es:List (AV×AV)):Option (Option (Nat×AV)):=aW (eqv e k k) fun _=>qD e k es 0
def qY(b:AB):Option (List (AV×AV)):=
 match b with
 | .map es=>some es
 | _=>none
def pV(h:T AB)(m:AV):Option (List (AV×AV)):=
 match m with
 | .nilmap=>some []
 | .map b=>aW (h.get b) qY
 | _=>none
def jF(isMax:Bool):List AV→AV→Option AV
 | [],x=>some x
 | .int k' b::vs,.int k a=>bL (keq k k')
   (jF isMax vs (.int k (bL isMax (bL (ile b a) a b) (bL (ile a b) a b)))) none
 | _,_=>none
abbrev QF:=Fr→T AB→Option AV
def qMv(x:cK):QF:=fun F _=>some (x.val F)
def vL(v:AV)(a b:cK)(F:Fr):Option AV:=
 match v with
 | .bool t=>some (bL t (a.val F) (b.val F))
 | _=>none
def aPO(c a b:cK):QF:=fun F _=>vL (c.val F) a b F
def eY(F:Fr):List (Nat×Nat×cK)→List (Nat×Nat×AV)
 | []=>[]
 | (a,b,x)::ps=>(a,b,x.val F)::eY F ps
def aO5(zero:List AV)(ps:List (Nat×Nat×cK)):QF:=fun F _=>aW (fI zero (eY F ps)) fun cs=>some (.agg cs)
def cW(v:AV)(agg:Bool)(n:Nat)(h:T AB):Option AV:=
 match v with
 | .ptr b off=>oC agg n h b off
 | _=>none
def qLd(agg:Bool)(n:Nat)(x:cK):QF:=fun F h=>cW (x.val F) agg n h
def wE{α:Type}(t:Nat):List (Nat×α)→Option α
 | []=>none
 | (u,a)::l=>bL (Nat.beq t u) (some a) (wE t l)
def aGs(n:String)(tbl:List (Nat×Nat×Option (Bool×Nat)))(v:AV):Option AV:=
 match v with
 | .iface t w=>aW (wE t tbl) fun r=>match r.2,w with
  | none,_=>some (.mth n tbl v)
  | some _,.ptr _ _=>some (.mth n tbl v)
  | _,_=>none
 | _=>none
def tO(v:AV):Option AV:=
 match v with
 | .ptr b o=>some (.ptr b o)
 | .fn f a b=>some (.fn f a b)
 | .iface t v=>some (.iface t v)
 | .yld b=>some (.yld b)
 | .mth n tbl v=>aGs n tbl v
 | _=>none
def aM3(x:cK):QF:=fun F _=>tO (x.val F)
def aQC(op:BinOp)(e:oG)(x y:cK):QF:=fun F _=>eX op e (x.val F) (y.val F)
def qUn(op:UnOp)(x:cK):QF:=fun F _=>unV op (x.val F)
def aCE(h:T AB)(b off len:Nat):Option AV:=aW (uS h b off len) fun cs=>aW (bytesOf cs) fun s=>some (.str s)
def wG(k:aGr)(v:AV)(h:T AB):Option AV:=
 match k,v with
 | .int k,.int _ n=>some (.int k (aEe k n))
 | .same,.str s=>some (.str s)
 | .bytesToStr,.nilsl=>some (.str [])
 | .bytesToStr,.emp=>some (.str [])
 | .bytesToStr,.sl b off len _ _=>aCE h b off len
 | .intToStr,.int _ (.ofNat n)=>bL (Nat.ble n 127) (some (.str [n])) none
 | _,_=>none
def aPy(k:aGr)(x:cK):QF:=fun F h=>wG k (x.val F) h
def aMy(t:Nat)(x:cK):QF:=fun F _=>some (.iface t (x.val F))
def aNU(f:Nat)(first cap:List cK):QF:=fun F _=>some (.fn f (dC first F) (dC cap F))
def aCG(s:List Nat)(lo hi mx:Option cK)(F:Fr):Option AV:=
 match mx with
 | some _=>none
 | none=>aW (iL F (iW s) hi) fun h'=>aW (iL F 0 lo) fun l=>
   bL (Nat.ble h' (iW s)) (bL (Nat.ble l h') (aW (cut s l (h' - l)) fun r=>some (.str r)) none) none
def jM(len cap:Nat)(lo hi mx:Option cK)(F:Fr):Option (Nat×Nat×Nat):=
 aW (iL F cap mx) fun m=>aW (iL F len hi) fun h=>aW (iL F 0 lo) fun l=>
  bL (Nat.ble m cap) (bL (Nat.ble h m) (bL (Nat.ble l h) (some (l,h,m)) none) none) none
def aH2(size b off len cap:Nat)(o:Bool)(lo hi mx:Option cK)(F:Fr):Option AV:=
 aW (jM len cap lo hi mx F) fun x=>
  let o':=bL o mx.isNone false
  bL (Nat.beq x.2.2 x.1) (bL o' (some .emp) (some (.sl b off (x.2.1 - x.1) (x.2.2 - x.1) false)))
   (some (.sl b (off+x.1 * size) (x.2.1 - x.1) (x.2.2 - x.1) o'))
def aKu(lo hi mx:Option cK)(F:Fr):Option AV:=aW (jM 0 0 lo hi mx F) fun _=>some .emp
def aKY(lo hi mx:Option cK)(F:Fr):Option AV:=aW (jM 0 0 lo hi mx F) fun _=>some .nilsl
def aIL(n size b off:Nat)(lo hi mx:Option cK)(F:Fr):Option AV:=
 aW (jM n n lo hi mx F) fun x=>
  bL (Nat.beq x.2.2 x.1) (some (.sl b off (x.2.1 - x.1) (x.2.2 - x.1) false))
   (some (.sl b (off+x.1 * size) (x.2.1 - x.1) (x.2.2 - x.1) false))
def qJ(k:SlK)(v:AV)(lo hi mx:Option cK)(F:Fr):Option AV:=
 match k,v with
 | .str,.str s=>aCG s lo hi mx F
 | .slice size,.sl b off len cap o=>aH2 size b off len cap o lo hi mx F
 | .slice _,.nilsl=>aKY lo hi mx F
 | .slice _,.emp=>aKu lo hi mx F
 | .arr n size,.ptr b off=>aIL n size b off lo hi mx F
 | _,_=>none
def aQF(k:SlK)(x:cK)(lo hi mx:Option cK):QF:=fun F _=>qJ k (x.val F) lo hi mx F
def yV(v:AV)(off:Nat):Option AV:=
 match v with
 | .ptr b o=>some (.ptr b (o+off))
 | _=>none
def aOR(off:Nat)(x:cK):QF:=fun F _=>yV (x.val F) off
def aHt(v:AV)(agg:Bool)(off n:Nat):Option AV:=
 match v with
 | .agg cs=>partOf agg cs off n
 | _=>none
def aQ1(agg:Bool)(off n:Nat)(x:cK):QF:=fun F _=>aHt (x.val F) agg off n
def eQ(k:IxK)(v:AV)(i:Nat):Option AV:=
 match k,v with
 | .arr n size,.ptr b off=>bL (Nat.blt i n) (some (.ptr b (off+i * size))) none
 | .slice size,.sl b off len _ _=>bL (Nat.blt i len) (some (.ptr b (off+i * size))) none
 | _,_=>none
def aOp(k:IxK)(x ix:cK):QF:=fun F _=>aW (fA (ix.val F)) fun i=>eQ k (x.val F) i
def xI(v:AV)(agg:Bool)(n size i:Nat):Option AV:=
 match v with
 | .agg cs=>bL (Nat.blt i n) (partOf agg cs (i * size) size) none
 | _=>none
def aNu(agg:Bool)(n size:Nat)(x ix:cK):QF:=fun F _=>aW (fA (ix.val F)) fun i=>xI (x.val F) agg n size i
def mS(v:AV)(i:Nat):Option AV:=
 match v with
 | .str s=>aW (nth s i) fun b=>some (.int .u8 (.ofNat b))
 | _=>none
def aM0(x ix:cK):QF:=fun F _=>aW (fA (ix.val F)) fun i=>mS (x.val F) i
def aCH(ok:Bool)(v:AV)(b:Bool):AV:=bL ok (.tup [v,.bool b]) v
def oN(r:Option (Nat×AV))(zero:AV)(ok:Bool):Option AV:=
 match r with
 | some (_,v)=>some (aCH ok v true)
 | none=>some (aCH ok zero false)
def aNM(sk:oG)(zero:AV)(ok:Bool)(m key:cK):QF:=fun F h=>
 aW (pV h (m.val F)) fun es=>aW (oE sk (key.val F) es) fun r=>oN r zero ok
def vZ(v:AV)(t:Nat)(zero:AV)(ok:Bool):Option AV:=
 match v with
 | .iface t' v=>bL (Nat.beq t t') (some (aCH ok v true)) (bL ok (some (.tup [zero,.bool false])) none)
 | .niliface=>bL ok (some (.tup [zero,.bool false])) none
 | _=>none
def aLp(t:Nat)(zero:AV)(ok:Bool)(x:cK):QF:=fun F _=>vZ (x.val F) t zero ok
def lC(v:AV)(i:Nat):Option AV:=
 match v with
 | .tup vs=>nth vs i
 | _=>none
def aMq(x:cK)(i:Nat):QF:=fun F _=>lC (x.val F) i
def aNV(n:Nat):QF:=fun _ _=>some (.int .i64 (.ofNat n))
def aAq(v:AV):Option AV:=
 match v with
 | .str s=>some (.int .i64 (.ofNat (iW s)))
 | _=>none
def aN7(x:cK):QF:=fun F _=>aAq (x.val F)
def kS(v:AV):Option AV:=
 match v with
 | .nilsl=>some (.int .i64 (.ofNat 0))
 | .emp=>some (.int .i64 (.ofNat 0))
 | .sl _ _ n _ _=>some (.int .i64 (.ofNat n))
 | _=>none
def aOq(x:cK):QF:=fun F _=>kS (x.val F)
def aMP(x:cK):QF:=fun F h=>aW (pV h (x.val F)) fun es=>some (.int .i64 (.ofNat (iW es)))
def aDl(v:AV):Option AV:=
 match v with
 | .nilsl=>some (.int .i64 (.ofNat 0))
 | .sl _ _ _ c false=>some (.int .i64 (.ofNat c))
 | _=>none
def aOL(x:cK):QF:=fun F _=>aDl (x.val F)
def lJ(isMax:Bool)(l:List AV):Option AV:=
 match l with
 | []=>none
 | v::vs=>jF isMax vs v
def aM6(n:String)(tbl:List (Nat×Nat×Option (Bool×Nat)))(x:cK):QF:=fun F _=>some (.mth n tbl (x.val F))
def aNd(mx:Bool)(xs:List cK):QF:=fun F _=>lJ mx (dC xs F)
def hJ(q:zM):QF:=
 zM.rec (motive:=fun _=>QF) qMv aPO aO5 qLd aM3 aQC qUn aPy aMy aNU aQF aOR aQ1 aOp aNu aM0 aNM aLp aMq aNV aN7 aOq aMP aOL aNd aM6 q
abbrev AF:=Fr→Nat→Option (AV×AB)
def room:Nat:=140737488355328
def aO2(_:Nat)(cells:List AV):AF:=fun _ id=>some (.ptr id 0,.cells cells false 0)
def aQq(_:Nat)(x:cK):AF:=fun F id=>aW (x.val F).cells fun cs=>some (.ptr id 0,.cells cs false 0)
def jE(size:Nat)(F:Fr):List (Nat×cK)→List (Nat×Nat×AV)
 | []=>[]
 | (i,x)::ps=>(i * size,size,x.val F)::jE size F ps
def aNx(_ size len:Nat)(zero:List AV)(ps:List (Nat×cK)):AF:=fun F id=>
 aW (fI (repeatL zero len) (jE size F ps)) fun cs=>some (.sl id 0 len len false,.cells cs false 0)
def vO(_ _ bytes:Nat)(zero:List AV)(l c:cK):AF:=fun F id=>
 aW (fA (l.val F)) fun l=>aW (fA (c.val F)) fun c=>
  bL (Nat.ble l c) (bL (Nat.ble c room) (bL (Nat.ble (bytes * c) room) (some (.sl id 0 l c false,.cells (repeatL zero c) false 0)) none) none) none
def aOS:AF:=fun _ id=>some (.map id,.map [])
def byteCells:List Nat→List AV
 | []=>[]
 | b::bs=>.int .u8 (.ofNat b)::byteCells bs
def sT(v:AV)(id:Nat):Option (AV×AB):=
 match v with
 | .str s=>some (.sl id 0 (iW s) (iW s) true,.cells (byteCells s) true 1)
 | _=>none
def aI7(_:Nat)(x:cK):AF:=fun F id=>sT (x.val F) id
def tE(a:vE):AF:=vE.rec (motive:=fun _=>AF) aO2 aQq aNx vO aOS aI7 a
def yK(bl:AB)(S:St)(b off:Nat)(vs:List AV):Option St:=
 match bl with
 | .cells cs o s=>aW (put cs off vs) fun cs'=>some ⟨S.h.set b (some (.cells cs' o s)),S.nx⟩
 | _=>none
def pF(S:St)(b off:Nat)(vs:List AV):Option St:=aW (S.h.get b) fun bl=>yK bl S b off vs
def eH(v:AV)(h:T AB)(size n:Nat):Option (List AV):=
 match v with
 | .sl b off _ _ _=>uS h b off (n * size)
 | .nilsl=>bL (Nat.beq n 0) (some []) none
 | .emp=>bL (Nat.beq n 0) (some []) none
 | .str s=>bL (Nat.beq size 1) (aW (aD9 s n) fun r=>some (byteCells r)) none
 | _=>none
def mE(v:AV):Option Nat:=
 match v with
 | .sl _ _ n _ _=>some n
 | .nilsl=>some 0
 | .emp=>some 0
 | .str s=>some (iW s)
 | _=>none
def grown(h:T AB)(nx need size:Nat)(cs:List AV):Option (AV×St):=
 some (.sl nx 0 need need true,⟨h.set nx (some (.cells cs true size)),Nat.succ nx⟩)
def aBs(bl:AB)(size b off len cap:Nat)(o:Bool)(n:Nat)(new:List AV)(S:St):Option (AV×St):=
 match bl with
 | .cells cs o' sz=>aW (cut cs off (len * size)) fun old=>
   bL o
    (bL o' (bL (Nat.beq sz size) (bL (Nat.beq (off+cap * size) (iW cs)) (grown (S.h.set b none) S.nx (len+n) size (vW old new)) none) none) none)
    (grown S.h S.nx (len+n) size (vW old new))
 | .ro cs=>bL o none (aW (cut cs off (len * size)) fun old=>grown S.h S.nx (len+n) size (vW old new))
 | _=>none
def oL(bytes size b off len cap:Nat)(o:Bool)(n:Nat)(new:List AV)(S:St):Option (AV×St):=
 bL (Nat.ble (len+n) cap)
  (bL (Nat.beq n 0) (some (.sl b off len cap o,S)) (aW (pF S b (off+len * size) new) fun S'=>some (.sl b off (len+n) cap o,S')))
  (bL (Nat.ble (len+n) room) (bL (Nat.ble ((len+n) * bytes) room) (aW (S.h.get b) fun bl=>aBs bl size b off len cap o n new S) none) none)
def rM(bytes size n:Nat)(new:List AV)(S:St):Option (AV×St):=
 bL (Nat.beq n 0) (some (.nilsl,S))
  (bL (Nat.ble n room) (bL (Nat.ble (n * bytes) room) (grown S.h S.nx n size new) none) none)
def aDh(s:AV)(bytes size n:Nat)(new:List AV)(S:St):Option (AV×St):=
 match s with
 | .nilsl=>rM bytes size n new S
 | .emp=>bL (Nat.beq n 0) (some (.emp,S)) none
 | .sl b off len cap o=>oL bytes size b off len cap o n new S
 | _=>none
def gN(bytes size:Nat)(s x:AV)(S:St):Option (AV×St):=
 aW (mE x) fun n=>aW (eH x S.h size n) fun new=>aDh s bytes size n new S
def wM{α:Type}(f:α→α):List α→Nat→List α
 | [],_=>[]
 | x::xs,k=>bL (Nat.beq k 0) (f x::xs) (x::wM f xs (k - 1))
structure bR where
 F:Fr
 inr:Bool
abbrev eS:=AV→List AV→St→Option (AV×St)
abbrev XF:=eS→Fr→St→Option (AV×St)
def kR(p:AV)(n:Nat)(cs:List AV)(S:St):Option (AV×St):=
 match p with
 | .ptr b off=>bL (Nat.beq (iW cs) n) (aW (pF S b off cs) fun S'=>some (.undef,S')) none
 | _=>none
def xSt(n:Nat)(x v:cK):XF:=fun _ F S=>aW (v.val F).cells fun cs=>kR (x.val F) n cs S
def aPA(f:cK)(args:List cK):XF:=fun call F S=>call (f.val F) (dC args F) S
def aE8(v:AV)(f:Nat)(agg:Bool)(n:Nat)(args:List AV)(call:eS)(S:St):Option (AV×St):=
 match v with
 | .ptr b off=>aW (oC agg n S.h b off) fun r=>call (.fn f [r] []) args S
 | _=>none
def aHW(r:Nat×Option (Bool×Nat))(v:AV)(args:List AV)(call:eS)(S:St):Option (AV×St):=
 match r with
 | (f,none)=>call (.fn f [v] []) args S
 | (f,some (agg,n))=>aE8 v f agg n args call S
def aFe(v:AV)(tbl:List (Nat×Nat×Option (Bool×Nat)))(args:List AV)(call:eS)(S:St):Option (AV×St):=
 match v with
 | .iface t v=>aW (wE t tbl) fun r=>aHW r v args call S
 | _=>none
def aQ7(tbl:List (Nat×Nat×Option (Bool×Nat)))(recv:cK)(args:List cK):XF:=fun call F S=>aFe (recv.val F) tbl (dC args F) call S
def aQN(_ size bytes:Nat)(s x:cK):XF:=fun _ F S=>gN bytes size (s.val F) (x.val F) S
def copyV(d:AV)(size m:Nat)(s:AV)(S:St):Option (AV×St):=
 match d with
 | .nilsl=>some (.int .i64 (.ofNat 0),S)
 | .emp=>some (.int .i64 (.ofNat 0),S)
 | .sl b off len _ _=>
  let n:=bL (Nat.ble m len) m len
  bL (Nat.beq n 0) (some (.int .i64 (.ofNat 0),S)) (aW (eH s S.h size n) fun cs=>aW (pF S b off cs) fun S'=>some (.int .i64 (.ofNat n),S'))
 | _=>none
def aBk(v:AV):Option Nat:=
 match v with
 | .sl _ _ n _ _=>some n
 | .nilsl=>some 0
 | .emp=>some 0
 | _=>none
def aQe(size:Nat)(d s:cK):XF:=fun _ F S=>aW (aBk (s.val F)) fun m=>copyV (d.val F) size m (s.val F) S
def aBe(r:Option (Nat×AV))(es:List (AV×AV))(k v:AV):List (AV×AV):=
 match r with
 | some (i,_)=>wM (fun _=>(k,v)) es i
 | none=>vW es [(k,v)]
def uB(m:AV)(sk:oG)(k v:AV)(S:St):Option (AV×St):=
 match m with
 | .map b=>aW (aW (S.h.get b) qY) fun es=>aW (oE sk k es) fun r=>some (.undef,⟨S.h.set b (some (.map (aBe r es k v))),S.nx⟩)
 | _=>none
def aMO(sk:oG)(m k v:cK):XF:=fun _ F S=>uB (m.val F) sk (k.val F) (v.val F) S
def aN0(r:Option (Nat×AV))(es:List (AV×AV))(b:Nat)(S:St):Option (AV×St):=
 match r with
 | some (i,_)=>some (.undef,⟨S.h.set b (some (.map (es.eraseIdx i))),S.nx⟩)
 | none=>some (.undef,S)
def aEF(m:AV)(sk:oG)(k:AV)(S:St):Option (AV×St):=
 match m with
 | .map b=>aW (aW (S.h.get b) qY) fun es=>aW (oE sk k es) fun r=>aN0 r es b S
 | .nilmap=>some (.undef,S)
 | _=>none
def aM5(sk:oG)(m k:cK):XF:=fun _ F S=>aEF (m.val F) sk (k.val F) S
def aLI(x:AV)(zero:List AV)(S:St):Option (AV×St):=
 match x with
 | .nilsl=>some (.undef,S)
 | .emp=>some (.undef,S)
 | .sl b off n _ _=>bL (Nat.beq n 0) (some (.undef,S)) (aW (pF S b off (repeatL zero n)) fun S'=>some (.undef,S'))
 | _=>none
def aQB(zero:List AV)(x:cK):XF:=fun _ F S=>aLI (x.val F) zero S
def aKH(a b c:Nat):AV:=
 .tup [.int .u64 (.ofNat (Nat.mod (Nat.add (Nat.add a b) c) 18446744073709551616)),.int .u64 (.ofNat (Nat.div (Nat.add (Nat.add a b) c) 18446744073709551616))]
def sE(c:Nat):List Nat→Nat→Int
 | [],_=>.negSucc 0
 | b::bs,i=>bL (Nat.beq b c) (.ofNat i) (sE c bs (Nat.succ i))
def aHE(k:aHp)(args:List AV):Option AV:=
 match k,args with
 | .add64,[.int .u64 (.ofNat a),.int .u64 (.ofNat b),.int .u64 (.ofNat c)]=>bL (Nat.ble c 1) (some (aKH a b c)) none
 | .idxByte,[.str s,.int .u8 (.ofNat c)]=>bL (Nat.ble c 255) (some (.int .i64 (sE c s 0))) none
 | _,_=>none
def aQG(k:aHp)(args:List cK):XF:=fun _ F S=>aW (aHE k (dC args F)) fun v=>some (v,S)
def aQr:XF:=fun _ _ _=>none
def zN(x:XOp):XF:=XOp.rec (motive:=fun _=>XF) xSt aPA aQ7 aQN aQe aMO aM5 aQB aQG aQr x
def isB(v:AV)(w:Bool):Bool:=
 match v with
 | .bool b=>aLf b w
 | _=>false
def cI(d:Option Nat):Fr→AV→Fr:=Option.rec (motive:=fun _=>Fr→AV→Fr) (fun F _=>F) (fun i F v=>F.set i (some v)) d
def eJ(g:Option (Nat×Bool)):Fr→Bool:=Option.rec (motive:=fun _=>Fr→Bool) (fun _=>true) (fun p F=>isB (aD p.1 F) p.2) g
abbrev OF:=Option Nat→eS→Fr→St→Option (Fr×St)
def oQ(q:zM):OF:=fun d _ F S=>aW (hJ q F S.h) fun v=>some (cI d F v,S)
def oA(a:vE):OF:=fun d _ F S=>aW (tE a F S.nx) fun r=>some (cI d F r.1,⟨S.h.set S.nx (some r.2),Nat.succ S.nx⟩)
def oX(x:XOp):OF:=fun d call F S=>aW (zN x call F S) fun r=>some (cI d F r.1,r.2)
def oOp(o:AOp):OF:=AOp.rec (motive:=fun _=>OF) oQ oA oX o
def aCT(o:AO)(call:eS)(F:Fr)(S:St):Option (Fr×St):=
 bL (eJ o.grd F) (oOp o.op o.dst call F S) (some (cI o.dst F .undef,S))
def uT(l:List AO):eS→Fr→St→Option (Fr×St):=
 List.rec (motive:=fun _=>eS→Fr→St→Option (Fr×St)) (fun _ F S=>some (F,S)) (fun o _ ih call F S=>aW (aCT o call F S) fun r=>ih call r.1 r.2) l
structure iD where
 i:Nat
 id:Nat
 b:AB
def cG(mask:Nat):List iD→T AB→List iD×T AB
 | [],h=>([],h)
 | p::ps,h=>bL (Nat.testBit mask p.i) (cG mask ps (h.set p.id (some p.b))) (p::(cG mask ps h).1,(cG mask ps h).2)
structure jQ where
 q:zM
 F:Fr
 v:AV
 i:Nat
 mask:Nat
def dE(q:zM):Bool:=
 match q with
 | .ld .. | .lookup .. | .lenMap .. =>true
 | .conv .bytesToStr _=>true
 | _=>false
structure DS where
 F:Fr
 S:St
 ps:List iD
 hs:List (Nat×Nat×T AB)
 ls:List jQ
abbrev DF:=AO→Nat→Nat→eS→DS→Option DS
def dQ(q:zM):DF:=fun o i _ _ D=>aW (hJ q D.F D.S.h) fun v=>
 some ⟨cI o.dst D.F v,D.S,D.ps,D.hs,bL (dE q) (⟨q,D.F,v,i,o.mask⟩::D.ls) D.ls⟩
def dA(a:vE):DF:=fun o i base _ D=>aW (tE a D.F (base+i)) fun r=>
 some ⟨cI o.dst D.F r.1,D.S,⟨i,base+i,r.2⟩::D.ps,D.hs,D.ls⟩
def iH(hs:List (Nat×Nat×T AB))(mask:Nat):Bool:=
 match hs with
 | []=>true
 | e::_=>Nat.testBit mask e.1
def dX(x:XOp):DF:=fun o i _ call D=>
 bL (iH D.hs o.mask) (aW (zN x call D.F ⟨(cG o.mask D.ps D.S.h).2,D.S.nx⟩) fun r=>
  some ⟨cI o.dst D.F r.1,r.2,(cG o.mask D.ps D.S.h).1,(i,o.mask,r.2.h)::D.hs,D.ls⟩) none
def dOp(o:AOp):DF:=AOp.rec (motive:=fun _=>DF) dQ dA dX o
def qN(o:AO)(i base:Nat)(call:eS)(D:DS):Option DS:=
 bL (eJ o.grd D.F) (dOp o.op o i base call D) (some ⟨cI o.dst D.F .undef,D.S,D.ps,D.hs,D.ls⟩)
def vA:List AO→Nat→Nat→eS→DS→Option DS
 | [],_,_,_,D=>some D
 | o::os,i,base,call,D=>aW (qN o i base call D) fun D'=>vA os (i+1) base call D'
mutual
def cL:AV→AV→Bool
 | .bool a,.bool b=>aLf a b
 | .int k a,.int j b=>bL (keq k j) (ieq a b) false
 | .str a,.str b=>kO a b
 | .ptr a b,.ptr c d=>bL (Nat.beq a c) (Nat.beq b d) false
 | .nilp,.nilp=>true
 | .sl a b c d e,.sl a' b' c' d' e'=>Nat.beq a a' && Nat.beq b b' && Nat.beq c c' && Nat.beq d d' && aLf e e'
 | .nilsl,.nilsl=>true
 | .emp,.emp=>true
 | .map a,.map b=>Nat.beq a b
 | .nilmap,.nilmap=>true
 | .fn f a b,.fn g c d=>Nat.beq f g && oI a c && oI b d
 | .nilfn,.nilfn=>true
 | .yld a,.yld b=>Nat.beq a b
 | .iface t v,.iface u w=>Nat.beq t u && cL v w
 | .niliface,.niliface=>true
 | .agg a,.agg b=>oI a b
 | .tup a,.tup b=>oI a b
 | _,_=>false
def oI:List AV→List AV→Bool
 | [],[]=>true
 | a::x,b::y=>bL (cL a b) (oI x y) false
 | _,_=>false
end
def nD(v:AV)(r:Option AV):Bool:=
 match r with
 | some w=>cL w v
 | none=>false
def fS(l:jQ):List (Nat×Nat×T AB)→T AB→Bool
 | [],h=>nD l.v (hJ l.q l.F h)
 | (i,m,h')::r,h=>
  bL (Nat.testBit l.mask i) (fS l r h')
   (bL (nD l.v (hJ l.q l.F h)) (bL (Nat.testBit m l.i) true (fS l r h')) false)
def fH(h0:T AB)(hs:List (Nat×Nat×T AB)):List jQ→Bool
 | []=>true
 | l::ls=>bL (fS l hs h0) (fH h0 hs ls) false
def aAv(h0:T AB)(n:Nat)(D:DS):Option (Fr×St):=
 bL (fH h0 D.hs.reverse D.ls) (some (D.F,⟨(cG (2 ^ n - 1) D.ps D.S.h).2,D.S.nx⟩)) none
def xC(ops:List AO)(call:eS)(F:Fr)(S:St):Option (Fr×St):=
 aW (vA ops 0 S.nx call ⟨F,⟨S.h,S.nx+iW ops⟩,[],[],[]⟩) fun D=>aAv S.h (iW ops) D
structure Evs where
 code:AC→bR→St→Option (Out×bR×St)
 call:eS
abbrev CF:=Evs→bR→St→Option (Out×bR×St)
def mL:List Nat→List AV→Fr→Option Fr
 | [],[],F=>some F
 | p::ps,v::vs,F=>mL ps vs (F.set p (some v))
 | _,_,_=>none
def rH:List AV→Nat→Fr→Fr
 | [],_,F=>F
 | v::vs,i,F=>rH vs (i+1) (F.set i (some v))
def aMM(o:Option Out):Option AC:=
 match o with
 | none=>some .skip
 | some .ret=>some .ret
 | some (.exit id)=>some (.exit id)
 | some .normal=>none
def aPL:CF:=fun _ A S=>some (.normal,A,S)
def tB(b:AC)(ih:Evs)(r:Out×bR×St):Option (Out×bR×St):=
 match r.1 with
 | .normal=>ih.code b r.2.1 r.2.2
 | _=>some r
def aQ0(a b:AC):CF:=fun ih A S=>aW (ih.code a A S) (tB b ih)
def aBG(v:AV)(a b:AC):CF:=fun ih A S=>
 match v with
 | .bool t=>ih.code (bL t a b) A S
 | _=>none
def aPH(c:cK)(a b:AC):CF:=fun ih A S=>aBG (c.val A.F) a b ih A S
def rK(id:Nat)(r:Out×bR×St):Option (Out×bR×St):=
 match r.1 with
 | .exit i=>bL (Nat.beq i id) (some (.normal,r.2)) (some r)
 | _=>some r
def aOs(id:Nat)(c:AC):CF:=fun ih A S=>aW (ih.code c A S) (rK id)
def aPQ(c:AC):CF:=fun ih A S=>aW (ih.code c A S) (tB (.loop c) ih)
def aPX(id:Nat):CF:=fun _ A S=>some (.exit id,A,S)
def aQz:CF:=fun _ A S=>some (.ret,A,S)
def aQY(ops:List AO):CF:=fun ih A S=>aW (uT ops ih.call A.F S) fun r=>some (.normal,⟨r.1,A.inr⟩,r.2)
def aQl(_:List AO)(_:cK)(_:List cK):CF:=fun _ _ _=>none
def aQ9(ops:List AO):CF:=fun ih A S=>aW (xC ops ih.call A.F S) fun r=>some (.normal,⟨r.1,A.inr⟩,r.2)
def aAN(bl:AB)(l:Nat)(A:bR)(S2:St)(ih:Evs):Option (Out×bR×St):=
 match bl with
 | .loop st pend fr ps as bd=>
  match st with
  | .busy=>none
  | _=>aW (aMM pend) fun c=>ih.code c A ⟨S2.h.set l (some (.loop .exhausted pend fr ps as bd)),S2.nx⟩
 | _=>none
def aL6(v:AV):Bool:=
 match v with
 | .fn .. =>true
 | _=>false
def aNt(f:cK)(params:List Nat)(assign body:AC):CF:=fun ih A S=>
 bL A.inr none (bL (aL6 (f.val A.F))
  (aW (ih.call (f.val A.F) [.yld S.nx] ⟨S.h.set S.nx (some (.loop .ready none A.F params assign body)),Nat.succ S.nx⟩) fun r=>
   aW (r.2.h.get S.nx) fun bl=>aAN bl S.nx A r.2 ih) none)
def aH1(c:AC):CF:=
 AC.rec (motive:=fun _=>CF) aPL (fun a b _ _=>aQ0 a b) (fun c a b _ _=>aPH c a b) (fun id c _=>aOs id c) (fun c _=>aPQ c) aPX aQz aQY aQ9 (fun f ps as bd _ _=>aNt f ps as bd) aQl c
def aPS(v:AV)(agg:Bool)(n:Nat)(h:T AB):Option AV:=
 match v with
 | .ptr b off=>oC agg n h b off
 | _=>none
def results:List RV→Fr→T AB→Option (List AV)
 | [],_,_=>some []
 | .t i::rs,F,h=>aW (results rs F h) fun vs=>some (aD i F::vs)
 | .cell a agg n::rs,F,h=>aW (aPS (aD a F) agg n h) fun v=>aW (results rs F h) fun vs=>some (v::vs)
def oneOf(vs:List AV):AV:=
 match vs with
 | [v]=>v
 | vs=>.tup vs
def aE7(fn:dB)(r:Out×bR×St):Option (AV×St):=
 match r.1 with
 | .exit _=>none
 | _=>aW (results fn.res r.2.1.F r.2.2.h) fun vs=>some (oneOf vs,r.2.2)
def vD(fn:dB)(args:List AV)(ih:Evs)(S:St):Option (AV×St):=
 bL (Nat.ble (iW args) fn.ntmps) (aW (ih.code fn.body ⟨rH args 0 .e,false⟩ S) (aE7 fn)) none
def sR(bl:AB)(o:Out)(l:Nat)(S2:St):Option (AV×St):=
 match bl with
 | .loop .busy _ fr ps as bd=>
  match o with
  | .normal=>some (.bool true,⟨S2.h.set l (some (.loop .ready none fr ps as bd)),S2.nx⟩)
  | o=>some (.bool false,⟨S2.h.set l (some (.loop .done (some o) fr ps as bd)),S2.nx⟩)
 | _=>none
def aKc(l:Nat)(bd:AC)(ih:Evs)(A:bR)(S:St):Option (AV×St):=
 aW (ih.code bd A S) fun r=>aW (r.2.2.h.get l) fun bl=>sR bl r.1 l r.2.2
def qQ(bl:AB)(l:Nat)(bd:AC)(ih:Evs)(A:bR)(S1:St):Option (AV×St):=
 match bl with
 | .loop .ready pend fr ps as bd'=>aKc l bd ih A ⟨S1.h.set l (some (.loop .busy pend fr ps as bd')),S1.nx⟩
 | _=>none
def aB7(l:Nat)(bd:AC)(ih:Evs)(r:Out×bR×St):Option (AV×St):=
 match r.1 with
 | .normal=>aW (r.2.2.h.get l) fun bl=>qQ bl l bd ih r.2.1 r.2.2
 | _=>none
def yI(bl:AB)(l:Nat)(args:List AV)(ih:Evs)(S:St):Option (AV×St):=
 match bl with
 | .loop .ready _ fr ps as bd=>aW (mL ps args fr) fun F=>aW (ih.code as ⟨F,true⟩ S) (aB7 l bd ih)
 | _=>none
def vH(fns:T dB)(ih:Evs)(f:AV)(args:List AV)(S:St):Option (AV×St):=
 match f with
 | .fn id first cap=>aW (fns.get id) fun fn=>vD fn (vW first (vW args cap)) ih S
 | .yld l=>aW (S.h.get l) fun bl=>yI bl l args ih S
 | _=>none
def aOV(_:AC)(_:bR)(_:St):Option (Out×bR×St):=none
def aOO(_:AV)(_:List AV)(_:St):Option (AV×St):=none
def ev(fns:T dB)(n:Nat):Evs:=
 Nat.rec (motive:=fun _=>Evs) ⟨aOV,aOO⟩ (fun _ ih=>⟨fun c=>aH1 c ih,vH fns ih⟩) n
end
end Go.Ev
namespace Go.Ev
noncomputable section
def aKV(v:Value):Bool:=
 match v with
 | .agg _=>false
 | .tuple _=>false
 | _=>true
mutual
def ofValue:Value→Option AV
 | .bool b=>some (.bool b)
 | .int k n=>some (.int k n)
 | .string s=>some (.str (s.data.toList.map UInt8.toNat))
 | .pointer none=>some .nilp
 | .slice none 0 0=>some .nilsl
 | .map none=>some .nilmap
 | .nilFunc=>some .nilfn
 | .nilIface=>some .niliface
 | .func (.func f) ⟨a⟩ ⟨b⟩=>match ofValues a,ofValues b with
  | some a,some b=>some (.fn f a b)
  | _,_=>none
 | .iface t v=>(ofValue v).map (.iface t)
 | .agg ⟨cs⟩=>bif cs.all aKV then(ofValues cs).map .agg else none
 | .tuple ⟨cs⟩=>(ofValues cs).map .tup
 | _=>none
def ofValues:List Value→Option (List AV)
 | []=>some []
 | v::vs=>match ofValue v,ofValues vs with
  | some a,some as=>some (a::as)
  | _,_=>none
end
variable (P:Program)
def eU:Operand→Option cK
 | .tmp t=>some (.t t)
 | .const v=>(ofValue v).map .c
 | .global g=>bif Nat.blt g P.globals.size then some (.c (.ptr g 0)) else none
 | .func f=>some (.c (.fn f [] []))
def wH:List Operand→Option (List cK)
 | []=>some []
 | x::xs=>match eU P x,wH xs with
  | some a,some as=>some (a::as)
  | _,_=>none
def kD:Option Operand→Option (Option cK)
 | none=>some none
 | some x=>(eU P x).map some
def aAa(t:TypeId):Option (Bool×Nat):=
 match P.underlying t,P.info? t with
 | some (.struct _),some i=>some (true,i.size)
 | some (.array _ _),some i=>some (true,i.size)
 | some _,some i=>some (false,i.size)
 | _,_=>none
def aCc(t:TypeId):Option AV:=
 match P.info? t with
 | some i=>match i.zero with
  | some v=>ofValue v
  | none=>none
 | none=>none
def eqP(t:TypeId):EqP:=
 match P.underlying t with
 | some .bool=>.bool
 | some (.int _)=>.int
 | some .string=>.str
 | some (.pointer _)=>.ptr
 | some (.slice _)=>.slice
 | some (.map _ _)=>.map
 | some (.func ..)=>.func
 | some (.interface _)=>.iface
 | _=>.no
def eqFields:List Field→List (Nat×EqP)
 | []=>[]
 | f::fs=>bif f.name== "_" then eqFields fs else(f.offset,eqP P f.type)::eqFields fs
def eqT(t:TypeId):oG:=
 match P.underlying t with
 | some (.struct fs)=>bif P.stoodInHeld t || P.eqGuardType P.depth t then .p .no else .struct (eqFields P fs.toList)
 | some (.array n e)=>bif P.eqGuardType P.depth t || n>64 || P.cellsOf e !=1 then .p .no else .struct ((List.range n).map fun i=>(i,eqP P e))
 | _=>.p (eqP P t)
def vB(place:Nat→Option (Nat×Nat)):List (Nat×Operand)→Option (List (Nat×Nat×cK))
 | []=>some []
 | (i,x)::ps=>match place i,eU P x,vB place ps with
  | some (off,n),some x,some ps=>some ((off,n,x)::ps)
  | _,_,_=>none
def placeOf(fs:Array Field)(i:Nat):Option (Nat×Nat):=
 match fs[i]? with
 | some f=>match P.info? f.type with
  | some s=>some (f.offset,s.size)
  | none=>none
 | none=>none
def nS:List Field→Bool
 | []=>true
 | f::fs=>(P.info? f.type).isSome && nS fs
def xJ:List (Nat×Operand)→Option (List (Nat×cK))
 | []=>some []
 | (i,x)::ps=>match eU P x,xJ ps with
  | some x,some ps=>some ((i,x)::ps)
  | _,_=>none
def kC(t:TypeId):Option (TypeId×TypeInfo):=
 match P.underlying t with
 | some (.slice e)=>(P.info? e).map fun i=>(e,i)
 | _=>none
def iU(t:TypeId):Option (List AV):=(aCc P t).bind AV.cells
def jC(e:TypeId)(i:TypeInfo):Option (List AV):=
 match iU P e with
 | some z=>bif Nat.beq z.length i.size then some z else none
 | none=>none
def aNf(u:TypeId)(i:TypeInfo):Bool:=
 match P.underlying u with
 | some (.slice _)=>true
 | some .string=>Nat.beq i.size 1
 | _=>false
def nJ(name:String)(t:TypeId)(i:TypeInfo):Option (Nat×Nat×Option (Bool×Nat)):=
 match i.methods.find? (·.name==name) with
 | some m=>bif !m.path.isEmpty then none else match m.func with
  | none=>none
  | some (f,ptr)=>match P.underlying t,ptr with
   | some (.pointer _),true=>some (t,f,none)
   | some (.pointer e),false=>(aAa P e).map fun a=>(t,f,some a)
   | some (.interface _),_=>none
   | some _,false=>some (t,f,none)
   | _,_=>none
 | none=>none
def fX(name:String):List TypeInfo→Nat→List (Nat×Nat×Option (Bool×Nat))
 | [],_=>[]
 | i::is,t=>match nJ P name t i with
  | some r=>r::fX name is (t+1)
  | none=>fX name is (t+1)
def plainKey:EqP→Bool
 | .int | .str | .bool=>true
 | _=>false
def aBn:Nat→List (Nat×EqP)→Bool
 | _,[]=>true
 | i,(o,e)::l=>Nat.beq o i && (plainKey e && aBn (i+1) l)
def aAV(t:TypeId):Option oG:=
 match P.underlying t with
 | some .string=>some (.p .str)
 | some (.int _)=>some (.p .int)
 | some (.struct fs)=>match eqT P t with
  | .struct l=>bif fs.all (fun f=>plainKey (eqP P f.type)) && aBn 0 l then some (.struct l) else none
  | _=>none
 | some (.array _ e)=>match eqT P t with
  | .struct l=>bif plainKey (eqP P e) && aBn 0 l then some (.struct l) else none
  | _=>none
 | _=>none
def aIJ(s:String):Option aHp:=
 bif s== "math/bits.Add64" then some .add64
 else bif s== "internal/bytealg.IndexByteString" then some .idxByte
 else none
def aIy(f:Operand):Option aHp:=
 match f with
 | .func f=>match P.funcs[f]? with
  | some fn=>bif fn.body.isNone && (Extern.allNextRows.lookup fn.origin).isNone then aIJ fn.name else none
  | none=>none
 | _=>none
def q(o:Option zM):Option AOp:=o.map .q
def al(o:Option vE):Option AOp:=o.map .a
def xx(o:Option XOp):Option AOp:=o.map .x
def aKQ(b:Builtin)(as:List Operand)(ts:List TypeId):Option AOp:=
 match b with
 | .copy=>match as,ts with
  | [d,s],[t,_]=>match kC P t with
   | some (_,i)=>xx do some (.copy i.size (←eU P d) (←eU P s))
   | none=>none
  | _,_=>none
 | _=>none
def oR(o:Op):Option AOp:=
 match o with
 | .move x | .assign x=>q do some (.mv (←eU P x))
 | .pick c a b=>q do some (.pick (←eU P c) (←eU P a) (←eU P b))
 | .alloc t=>al do some (.alloc t (←iU P t))
 | .box t x=>al do some (.box t (←eU P x))
 | .build t ps=>
  match P.underlying t with
  | some (.struct fs)=>bif nS P fs.toList then q do some (.build (←iU P t) (←vB P (placeOf P fs) ps.toList)) else none
  | some (.array _ e)=>q do let s ←P.info? e;some (.build (←iU P t) (←vB P (fun i=>some (i * s.size,s.size)) ps.toList))
  | _=>none
 | .buildSlice t len ps=>al do
  let (e,i) ←kC P t
  if len * i.size>65536 then none
  some (.bslice e i.size len (←jC P e i) (←xJ P ps.toList))
 | .load t a=>q do let (agg,n) ←aAa P t;some (.ld agg n (←eU P a))
 | .store t a v=>xx do let (_,n) ←aAa P t;some (.st n (←eU P a) (←eU P v))
 | .nilCheck x=>q do some (.nilchk (←eU P x))
 | .binOp op t x y _=>q do some (.bin op (eqT P t) (←eU P x) (←eU P y))
 | .unOp op _ x=>q do some (.un op (←eU P x))
 | .convert src dst x=>
  match P.underlying src,P.underlying dst with
  | some (.int _),some (.int k)=>q do some (.conv (.int k) (←eU P x))
  | some .string,some .string=>q do some (.conv .same (←eU P x))
  | some (.int _),some .string=>q do some (.conv .intToStr (←eU P x))
  | some (.slice e),some .string=>match P.underlying e with
   | some (.int .u8)=>q do some (.conv .bytesToStr (←eU P x))
   | _=>none
  | some .string,some (.slice e)=>match P.underlying e with
   | some (.int .u8)=>al do some (.strBytes e (←eU P x))
   | _=>none
  | _,_=>none
 | .makeInterface t x=>match P.underlying t with
  | some (.interface _)=>none
  | some _=>q do some (.mkIface t (←eU P x))
  | none=>none
 | .makeFunc (.method name) a b=>match a.toList,b.toList with
  | [x],[]=>q do some (.mkMeth name (fX P name P.types.toList 0) (←eU P x))
  | _,_=>none
 | .makeFunc (.func f) a b=>q do some (.mkFunc f (←wH P a.toList) (←wH P b.toList))
 | .makeMap _ none=>al (some .mkMap)
 | .makeSlice t l c=>al do let (e,i) ←kC P t;some (.mkSlice e i.size i.bytes (←jC P e i) (←eU P l) (←eU P c))
 | .slice t x lo hi mx=>bif mx.isSome && hi.isNone then none else
  match P.underlying t with
  | some .string=>q do some (.slc .str (←eU P x) (←kD P lo) (←kD P hi) (←kD P mx))
  | some (.slice e)=>q do let i ←P.info? e;some (.slc (.slice i.size) (←eU P x) (←kD P lo) (←kD P hi) (←kD P mx))
  | some (.array n e)=>q do let i ←P.info? e;some (.slc (.arr n i.size) (←eU P x) (←kD P lo) (←kD P hi) (←kD P mx))
  | _=>none
 | .fieldAddr t x f=>match P.underlying t with
  | some (.struct fs)=>q do
   let f ←fs[f]?
   let i ←P.info? f.type
   if i.size=0 then none
   some (.faddr f.offset (←eU P x))
  | _=>none
 | .field t x f=>match P.underlying t with
  | some (.struct fs)=>q do
   let f ←fs[f]?
   let (agg,n) ←aAa P f.type
   some (.fld agg f.offset n (←eU P x))
  | _=>none
 | .indexAddr t x ix=>match P.underlying t with
  | some (.slice e)=>q do let i ←P.info? e;some (.iaddr (.slice i.size) (←eU P x) (←eU P ix))
  | some (.array n e)=>q do let i ←P.info? e;some (.iaddr (.arr n i.size) (←eU P x) (←eU P ix))
  | _=>none
 | .index t x ix=>match P.underlying t with
  | some .string=>q do some (.idxStr (←eU P x) (←eU P ix))
  | some (.array n e)=>q do let (agg,s) ←aAa P e;some (.idxArr agg n s (←eU P x) (←eU P ix))
  | _=>none
 | .lookup t m k ok=>match P.underlying t with
  | some (.map kt et)=>q do some (.lookup (←aAV P kt) (←aCc P et) ok (←eU P m) (←eU P k))
  | _=>none
 | .mapUpdate t m k v | .insert t m k v=>match P.underlying t with
  | some (.map kt _)=>xx do some (.mapUpd (←aAV P kt) (←eU P m) (←eU P k) (←eU P v))
  | _=>none
 | .typeAssert x _ t ok=>match P.underlying t with
  | some (.interface _)=>none
  | some _=>q do some (.tassert t (←aCc P t) ok (←eU P x))
  | none=>none
 | .extract x i=>q do some (.extract (←eU P x) i)
 | .call {callee:=.value f,args,.. }=>match aIy P f with
  | some k=>xx do some (.ext k (←wH P args.toList))
  | none=>xx do some (.call (←eU P f) (←wH P args.toList))
 | .call {callee:=.invoke r name,args,.. }=>xx do some (.inv (fX P name P.types.toList 0) (←eU P r) (←wH P args.toList))
 | .call {callee:=.builtin b,args,argTypes}=>
  match b,args.toList,argTypes.toList with
  | .len,[x],[t]=>match P.underlying t with
   | some .string=>q do some (.lenStr (←eU P x))
   | some (.slice _)=>q do some (.lenSl (←eU P x))
   | some (.array n _)=>q (some (.lenArr n))
   | some (.map _ _)=>q do some (.lenMap (←eU P x))
   | _=>none
  | .cap,[x],[t]=>match P.underlying t with
   | some (.slice _)=>q do some (.capSl (←eU P x))
   | _=>none
  | .max,xs,_=>q do some (.minmax true (←wH P xs))
  | .min,xs,_=>q do some (.minmax false (←wH P xs))
  | .append,[s,x],[t,u]=>match kC P t with
   | some (e,i)=>bif aNf P u i && (jC P e i).isSome then xx do some (.app e i.size i.bytes (←eU P s) (←eU P x)) else none
   | none=>none
  | .clear,[x],[t]=>match kC P t with
   | some (e,i)=>xx do some (.clr (←jC P e i) (←eU P x))
   | none=>none
  | b,as,ts=>aKQ P b as ts
 | _=>none
def aAI(ops:Array Oper):Option (Nat×Bool)→Option (Option (Nat×Bool))
 | none=>some none
 | some (j,w)=>match (ops[j]?).bind (·.dst) with
  | some d=>some (some (d,w))
  | none=>none
def xR(nt:Nat):Option Tmp→Bool
 | some d=>Nat.blt d nt
 | none=>true
def aIA(nt:Nat)(ops:Array Oper)(o:Oper)(mask:Nat):Option AO:=
 bif xR nt o.dst then
  match aAI ops o.guard with
  | some g=>match oR P o.op with
   | some op=>some ⟨o.dst,op,g,mask⟩
   | none=>some ⟨o.dst,.x .bad,g,mask⟩
  | none=>none
 else none
def uO(nt:Nat)(ops:Array Oper):List Oper→List Nat→Option (List AO)
 | [],_=>some []
 | o::os,ms=>match aIA P nt ops o (ms.headD 0),uO nt ops os ms.tail with
  | some a,some as=>some (a::as)
  | _,_=>none
def cK.rd(x:cK):List Nat:=
 match x with
 | .t i=>[i]
 | .c _=>[]
def rds:List cK→List Nat
 | []=>[]
 | x::xs=>x.rd++rds xs
def rdo(x:Option cK):List Nat:=
 match x with
 | some x=>x.rd
 | none=>[]
def rdp:List (Nat×Nat×cK)→List Nat
 | []=>[]
 | (_,_,x)::ps=>x.rd++rdp ps
def aOK:List (Nat×cK)→List Nat
 | []=>[]
 | (_,x)::ps=>x.rd++aOK ps
def zM.rd(o:zM):List Nat:=
 match o with
 | .mv x | .ld _ _ x | .nilchk x | .un _ x | .conv _ x | .mkIface _ x | .faddr _ x | .fld _ _ _ x | .tassert _ _ _ x | .extract x _ | .lenStr x | .lenSl x | .lenMap x | .capSl x | .mkMeth _ _ x=>x.rd
 | .pick c a b=>c.rd++(a.rd++b.rd)
 | .build _ ps=>rdp ps
 | .bin _ _ x y | .iaddr _ x y | .idxArr _ _ _ x y | .idxStr x y | .lookup _ _ _ x y=>x.rd++y.rd
 | .mkFunc _ a b=>rds a++rds b
 | .slc _ x lo hi mx=>x.rd++(rdo lo++(rdo hi++rdo mx))
 | .lenArr _=>[]
 | .minmax _ xs=>rds xs
def vE.rd(o:vE):List Nat:=
 match o with
 | .alloc _ _ | .mkMap=>[]
 | .box _ x | .strBytes _ x=>x.rd
 | .bslice _ _ _ _ ps=>aOK ps
 | .mkSlice _ _ _ _ l c=>l.rd++c.rd
def XOp.rd(o:XOp):List Nat:=
 match o with
 | .st _ x v=>x.rd++v.rd
 | .call f args | .inv _ f args=>f.rd++rds args
 | .app _ _ _ s x | .copy _ s x | .mapDel _ s x=>s.rd++x.rd
 | .mapUpd _ m k v=>m.rd++(k.rd++v.rd)
 | .clr _ x=>x.rd
 | .ext _ args=>rds args
 | .bad=>[]
def AOp.rd(o:AOp):List Nat:=
 match o with
 | .q o=>o.rd
 | .a o=>o.rd
 | .x o=>o.rd
def AO.touch(o:AO):List Nat:=o.dst.toList++((o.grd.map (·.1)).toList++o.op.rd)
def inL(t:Nat):List Nat→Bool
 | []=>false
 | u::l=>bif Nat.beq t u then true else inL t l
def meets(d:Option Nat)(b:List Nat):Bool:=
 match d with
 | some d=>inL d b
 | none=>false
def aEY(i:Nat)(d:Option Nat)(tch:List Nat):List AO→Bool
 | []=>true
 | b::l=>(bif meets d b.touch || meets b.dst tch then Nat.testBit b.mask i else true) && aEY i d tch l
def aIQ:Nat→List AO→Bool
 | _,[]=>true
 | i,a::l=>aEY i a.dst a.touch l && aIQ (i+1) l
def aPC(l:List AO):Bool:=aIQ 0 l
def aB6:Nat→List Oper→Bool
 | _,[]=>true
 | i,o::l=>o.after.all (fun e=> !Region.binds .any e || Nat.blt e.on i) && aB6 (i+1) l
def aEQ(nt:Nat)(ops:Array Oper):Option AC:=
 match uO P nt ops ops.toList (CheckFast.beforeL ops.toList 0 []) with
 | some aos=>bif aB6 0 ops.toList && aPC aos then some (.drw aos) else none
 | none=>none
def jJ(nt:Nat):Code→Option AC
 | .skip=>some .skip
 | .seq a b=>match jJ nt a,jJ nt b with
  | some a,some b=>some (.seq a b)
  | _,_=>none
 | .cond c a b=>match eU P c,jJ nt a,jJ nt b with
  | some c,some a,some b=>some (.cond c a b)
  | _,_,_=>none
 | .block id c=>(jJ nt c).map (.block id)
 | .loop c=>(jJ nt c).map .loop
 | .exit id=>some (.exit id)
 | .ret=>some .ret
 | .region _ ops d=>bif d then aEQ P nt ops else(uO P nt ops ops.toList []).map .reg
 | .rangeFunc f ps as bd=>bif ps.toList.all (fun p=>Nat.blt p nt) then match eU P f,jJ nt as,jJ nt bd with
  | some f,some as,some bd=>some (.rng f ps.toList as bd)
  | _,_,_=>none
  else none
 | _=>none
def aFS:List ResultVar→Option (List RV)
 | []=>some []
 | .tmp t::rs=>(aFS rs).map (.t t:: ·)
 | .cell a t::rs=>match aAa P t,aFS rs with
  | some (agg,n),some rs=>some (.cell a agg n::rs)
  | _,_=>none
def cFn(fn:Func):Option dB:=
 bif fn.name== "runtime.NumGoroutine" then none else
 match fn.body with
 | some c=>match jJ P fn.ntmps c,aFS P fn.results.toList with
  | some c,some rs=>some ⟨fn.ntmps,rs,c⟩
  | _,_=>none
 | none=>none
end
end Go.Ev
