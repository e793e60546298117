import GoSem.Dispatch
import Derived.CheckFast
namespace Go.Ev
theorem Aa:type_of% @decide_eq_false:=@decide_eq_false
theorem Ab:type_of% @decide_eq_true:=@decide_eq_true
theorem Ac.{u}:type_of% @List.forall_mem_cons.{u}:=@List.forall_mem_cons.{u}
theorem Ad.{u}:type_of% @List.getElem?_eq_getElem.{u}:=@List.getElem?_eq_getElem.{u}
theorem Ae:type_of% @Nat.lt_of_lt_of_le:=@Nat.lt_of_lt_of_le
theorem Af.{u}:type_of% @List.getElem?_eq_some_iff.{u}:=@List.getElem?_eq_some_iff.{u}
theorem Ag:type_of% @Int.ofNat_eq_natCast:=@Int.ofNat_eq_natCast
theorem Ah:type_of% @Nat.le_refl:=@Nat.le_refl
theorem Ai.{u}:type_of% @List.getD_eq_getElem?_getD.{u}:=@List.getD_eq_getElem?_getD.{u}
theorem Aj.{u}:type_of% @Option.some.injEq.{u}:=@Option.some.injEq.{u}
theorem Ak:type_of% @Nat.ble_eq_true_of_le:=@Nat.ble_eq_true_of_le
theorem Al.{u}:type_of% @List.length_cons.{u}:=@List.length_cons.{u}
theorem Am.{u}:type_of% @List.length_append.{u}:=@List.length_append.{u}
theorem An:type_of% @Bool.false_eq_true:=@Bool.false_eq_true
theorem Ao:type_of% @Nat.le_of_ble_eq_true:=@Nat.le_of_ble_eq_true
theorem Ap.{u,v}:type_of% @Option.map_eq_some_iff.{u,v}:=@Option.map_eq_some_iff.{u,v}
theorem Aq:type_of% @Nat.beq_eq:=@Nat.beq_eq
theorem Ar.{u}:type_of% @Bool.cond_eq_ite.{u}:=@Bool.cond_eq_ite.{u}
theorem Au:type_of% @not_false_eq_true:=@not_false_eq_true
theorem Av.{u}:type_of% @Array.getD_eq_getD_getElem?.{u}:=@Array.getD_eq_getD_getElem?.{u}
theorem Aw:type_of% @Nat.zero_add:=@Nat.zero_add
theorem Ax:type_of% @Nat.le_trans:=@Nat.le_trans
theorem Ay.{u}:type_of% @List.take_succ_cons.{u}:=@List.take_succ_cons.{u}
theorem Az.{u}:type_of% @List.length_nil.{u}:=@List.length_nil.{u}
theorem Ba.{u}:type_of% @List.length_replicate.{u}:=@List.length_replicate.{u}
theorem Bb.{u,v}:type_of% @List.getElem?_map.{u,v}:=@List.getElem?_map.{u,v}
theorem Bc.{u}:type_of% @List.mem_of_getElem?.{u}:=@List.mem_of_getElem?.{u}
theorem Bd.{u}:type_of% @List.cons_append.{u}:=@List.cons_append.{u}
theorem Be.{u}:type_of% @List.nil_append.{u}:=@List.nil_append.{u}
theorem Bf.{u}:type_of% @List.mem_cons.{u}:=@List.mem_cons.{u}
theorem Bg.{u}:type_of% @List.append_assoc.{u}:=@List.append_assoc.{u}
theorem Bh.{u}:type_of% @List.take_of_length_le.{u}:=@List.take_of_length_le.{u}
theorem Bi:type_of% @Bool.not_true:=@Bool.not_true
theorem Bj:type_of% @Nat.add_zero:=@Nat.add_zero
theorem Bk.{u}:type_of% @List.take_zero.{u}:=@List.take_zero.{u}
theorem Bl.{u}:type_of% @List.mem_append.{u}:=@List.mem_append.{u}
theorem Bm.{u,v}:type_of% @List.length_map.{u,v}:=@List.length_map.{u,v}
theorem Bn:type_of% @Bool.not_false:=@Bool.not_false
theorem Bo.{u}:type_of% @List.getElem?_append_right.{u}:=@List.getElem?_append_right.{u}
theorem Bp:type_of% @Bool.and_eq_true:=@Bool.and_eq_true
theorem Bq.{u}:type_of% @List.getElem?_append_left.{u}:=@List.getElem?_append_left.{u}
theorem Br.{u}:type_of% @if_false.{u}:=@if_false.{u}
theorem Bs:type_of% @Nat.eq_of_beq_eq_true:=@Nat.eq_of_beq_eq_true
theorem Bt.{u}:type_of% @List.take_add_one.{u}:=@List.take_add_one.{u}
theorem Bu:type_of% @Bool.eq_iff_iff:=@Bool.eq_iff_iff
theorem Bv.{u}:type_of% @Array.length_toList.{u}:=@Array.length_toList.{u}
theorem Bw.{u}:type_of% @Option.some.inj.{u}:=@Option.some.inj.{u}
theorem Bx.{u}:type_of% @List.length_set.{u}:=@List.length_set.{u}
theorem Bz.{u}:type_of% @Array.getElem?_eq_some_iff.{u}:=@Array.getElem?_eq_some_iff.{u}
theorem Ca.{u}:type_of% @List.length_take.{u}:=@List.length_take.{u}
theorem Cb.{u}:type_of% @List.length_eq_zero_iff.{u}:=@List.length_eq_zero_iff.{u}
theorem Cc:type_of% @Nat.zero_le:=@Nat.zero_le
theorem Cd.{u}:type_of% @List.mem_cons_of_mem.{u}:=@List.mem_cons_of_mem.{u}
theorem Ce:type_of% @not_true_eq_false:=@not_true_eq_false
theorem Cf:type_of% @Bool.eq_false_iff:=@Bool.eq_false_iff
theorem Cg.{u}:type_of% @List.length_singleton.{u}:=@List.length_singleton.{u}
theorem Ch:type_of% @Nat.add_assoc:=@Nat.add_assoc
theorem Ci.{u,v}:type_of% @congrArg.{u,v}:=@congrArg.{u,v}
theorem Cj:type_of% @of_decide_eq_true:=@of_decide_eq_true
theorem Ck.{u}:type_of% @List.getElem?_eq_none.{u}:=@List.getElem?_eq_none.{u}
theorem Cl.{u}:type_of% @Array.getElem?_toList.{u}:=@Array.getElem?_toList.{u}
theorem Cm.{u}:type_of% @List.append_nil.{u}:=@List.append_nil.{u}
theorem Cn.{u}:type_of% @List.take_length.{u}:=@List.take_length.{u}
theorem Co.{u}:type_of% @List.drop_zero.{u}:=@List.drop_zero.{u}
theorem Cp.{u,v}:type_of% @List.flatMap_cons.{u,v}:=@List.flatMap_cons.{u,v}
theorem Cq.{u}:type_of% @List.pairwise_iff_getElem.{u}:=@List.pairwise_iff_getElem.{u}
theorem Cr.{u}:type_of% @List.drop_of_length_le.{u}:=@List.drop_of_length_le.{u}
theorem Ct.{u,v}:type_of% @List.map_congr_left.{u,v}:=@List.map_congr_left.{u,v}
theorem Cu:type_of% @Nat.lt_or_ge:=@Nat.lt_or_ge
theorem Cv.{u}:type_of% @Ne.symm.{u}:=@Ne.symm.{u}
theorem Cw.{u,v}:type_of% @Array.toList_map.{u,v}:=@Array.toList_map.{u,v}
theorem Cx.{u}:type_of% @List.length_drop.{u}:=@List.length_drop.{u}
theorem Cy.{u}:type_of% @List.drop_eq_getElem_cons.{u}:=@List.drop_eq_getElem_cons.{u}
theorem Cz.{u}:type_of% @List.reverse_cons.{u}:=@List.reverse_cons.{u}
theorem Da.{u}:type_of% @List.mem_append_right.{u}:=@List.mem_append_right.{u}
theorem Db.{u}:type_of% @List.singleton_append.{u}:=@List.singleton_append.{u}
theorem Dc:type_of% @Nat.lt_of_le_of_lt:=@Nat.lt_of_le_of_lt
theorem Dd:type_of% @decide_eq_true_iff:=@decide_eq_true_iff
theorem De.{u}:type_of% @List.mem_of_mem_take.{u}:=@List.mem_of_mem_take.{u}
theorem Dg.{u}:type_of% @if_true.{u}:=@if_true.{u}
theorem Dh:type_of% @List.getElem?_range:=@List.getElem?_range
theorem Di.{u}:type_of% @Array.getElem?_eq_getElem.{u}:=@Array.getElem?_eq_getElem.{u}
theorem Dj.{u}:type_of% @List.take_append_drop.{u}:=@List.take_append_drop.{u}
theorem Dk.{u}:type_of% @List.all_eq_true.{u}:=@List.all_eq_true.{u}
theorem Dl.{u}:type_of% @List.mem_cons_self.{u}:=@List.mem_cons_self.{u}
theorem Dm:type_of% @Nat.succ_mul:=@Nat.succ_mul
theorem Dn.{u,v}:type_of% @List.map_cons.{u,v}:=@List.map_cons.{u,v}
theorem Dp.{u}:type_of% @List.mem_of_mem_drop.{u}:=@List.mem_of_mem_drop.{u}
theorem Dq.{u}:type_of% @List.mem_append_left.{u}:=@List.mem_append_left.{u}
theorem Dr:type_of% @Bool.false_and:=@Bool.false_and
theorem Dt.{u,v}:type_of% @Option.bind_eq_some_iff.{u,v}:=@Option.bind_eq_some_iff.{u,v}
theorem Du.{u}:type_of% @List.getElem?_replicate.{u}:=@List.getElem?_replicate.{u}
theorem Dw.{u,v}:type_of% @List.foldl_cons.{u,v}:=@List.foldl_cons.{u,v}
theorem Dx.{u}:type_of% @Array.ext'.{u}:=@Array.ext'.{u}
theorem Dy.{u,v}:type_of% @List.map_append.{u,v}:=@List.map_append.{u,v}
theorem Dz:type_of% @Bool.or_eq_true:=@Bool.or_eq_true
theorem Ea.{u,v}:type_of% @List.mem_map.{u,v}:=@List.mem_map.{u,v}
theorem Eb:type_of% @Nat.mul_one:=@Nat.mul_one
theorem Ec:type_of% @Bool.true_and:=@Bool.true_and
theorem Ed:type_of% @Nat.lt_succ_self:=@Nat.lt_succ_self
theorem Ee.{u}:type_of% @List.getElem_mem.{u}:=@List.getElem_mem.{u}
theorem Ef:type_of% @Int.natCast_nonneg:=@Int.natCast_nonneg
theorem Eg:type_of% @Nat.eq_zero_or_pos:=@Nat.eq_zero_or_pos
theorem Eh:type_of% @List.mem_range:=@List.mem_range
theorem Ei.{u}:type_of% @List.mem_singleton.{u}:=@List.mem_singleton.{u}
theorem Ej.{u,v}:type_of% @Option.map_some.{u,v}:=@Option.map_some.{u,v}
theorem Ek.{u}:type_of% @List.cons.injEq.{u}:=@List.cons.injEq.{u}
theorem Em:type_of% @Nat.add_mul:=@Nat.add_mul
theorem En.{u}:type_of% @List.getElem?_of_mem.{u}:=@List.getElem?_of_mem.{u}
theorem Eo:type_of% @Nat.ble_eq:=@Nat.ble_eq
theorem Ep.{u}:type_of% @Array.getElem?_push.{u}:=@Array.getElem?_push.{u}
theorem Eq.{u}:type_of% @List.ext_getElem.{u}:=@List.ext_getElem.{u}
theorem Er:type_of% @Nat.le_add_right:=@Nat.le_add_right
theorem Es.{u}:type_of% @List.getElem?_drop.{u}:=@List.getElem?_drop.{u}
theorem Et.{u}:type_of% @Option.isSome_none.{u}:=@Option.isSome_none.{u}
theorem Eu:type_of% @Nat.two_pow_pos:=@Nat.two_pow_pos
theorem Ew:type_of% @decide_eq_true_eq:=@decide_eq_true_eq
theorem Ex:type_of% @List.length_range:=@List.length_range
theorem Ey:type_of% @Int.toNat_natCast:=@Int.toNat_natCast
theorem Ez.{u,v,w}:type_of% @List.map_map.{u,v,w}:=@List.map_map.{u,v,w}
theorem Fa:type_of% @Nat.zero_mul:=@Nat.zero_mul
theorem Fb:type_of% @Nat.sub_self:=@Nat.sub_self
theorem Fc.{u,v,w}:type_of% @getElem!_pos.{u,v,w}:=@getElem!_pos.{u,v,w}
noncomputable section
inductive T(α:Type) where
 | e:T α
 | n (l:T α) (v:Option α) (r:T α):T α
def bG{α:Sort _}(c:Bool)(a b:α):α:=Bool.rec b a c
def aW{α β:Type}(x:Option α)(f:α→Option β):Option β:=Option.rec none f x
namespace T
variable {α:Type}
def get(t:T α):Nat→Option α:=
 T.rec (motive:=fun _=>Nat→Option α) (fun _=>none)
  (fun _ v _ gl gr k=>bG (Nat.beq k 0) v (bG (Nat.beq (Nat.mod k 2) 1) (gl (Nat.div k 2)) (gr (Nat.sub (Nat.div k 2) 1)))) t
def single(f:Nat):Nat→Option α→T α:=
 Nat.rec (motive:=fun _=>Nat→Option α→T α) (fun _ _=>.e)
  (fun _ ih k x=>bG (Nat.beq k 0) (.n .e x .e) (bG (Nat.beq (Nat.mod k 2) 1) (.n (ih (Nat.div k 2) x) none .e) (.n .e none (ih (Nat.sub (Nat.div k 2) 1) x)))) f
def set(t:T α):Nat→Option α→T α:=
 T.rec (motive:=fun _=>Nat→Option α→T α) (fun k x=>single (Nat.succ k) k x)
  (fun l v r sl sr k x=>bG (Nat.beq k 0) (.n l x r) (bG (Nat.beq (Nat.mod k 2) 1) (.n (sl (Nat.div k 2) x) v r) (.n l v (sr (Nat.sub (Nat.div k 2) 1) x)))) t
end T
inductive AV where
 | bool (b:Bool)
 | int (k:IntKind) (n:Int)
 | str (s:List Nat)
 | ptr (b off:Nat)
 | nilp
 | sl (b off len cap:Nat) (o:Bool)
 | nilsl
 | emp        -- an empty slice,not nil,of unknown place and capacity
 | map (b:Nat)
 | nilmap
 | fn (f:Nat) (first captured:List AV)
 | nilfn
 | yld (b:Nat)
 | iface (t:Nat) (v:AV)
 | niliface
 | mth (name:String) (tbl:List (Nat×Nat×Option (Bool×Nat))) (v:AV)     -- a method of an interface value,bound
 | agg (cs:List AV)
 | tup (vs:List AV)
 deriving Inhabited
def AV.cells(v:AV):Option (List AV):=
 match v with
 | .agg cs=>some cs
 | .tup _=>none
 | v=>some [v]
def AV.undef:AV:=.tup []
inductive cC where
 | t (i:Nat)
 | c (v:AV)
 deriving Inhabited
inductive EqP where
 | bool | int | str | ptr | slice | map | func | iface | no
 deriving Inhabited,DecidableEq
inductive mM where
 | p (e:EqP)
 | struct (fs:List (Nat×EqP))
 deriving Inhabited
inductive aFL where
 | int (k:IntKind)
 | same
 | bytesToStr
 | intToStr
 deriving Inhabited
inductive SlK where
 | str
 | slice (size:Nat)
 | arr (n size:Nat)
 deriving Inhabited
inductive IxK where
 | arr (n size:Nat)
 | slice (size:Nat)
 deriving Inhabited
inductive xO where
 | mv (x:cC)
 | pick (c a b:cC)
 | build (zero:List AV) (parts:List (Nat×Nat×cC))
 | ld (agg:Bool) (n:Nat) (x:cC)
 | nilchk (x:cC)
 | bin (op:BinOp) (e:mM) (x y:cC)
 | un (op:UnOp) (x:cC)
 | conv (k:aFL) (x:cC)
 | mkIface (t:Nat) (x:cC)
 | mkFunc (f:Nat) (first captured:List cC)
 | slc (k:SlK) (x:cC) (lo hi mx:Option cC)
 | faddr (off:Nat) (x:cC)
 | fld (agg:Bool) (off n:Nat) (x:cC)
 | iaddr (k:IxK) (x ix:cC)
 | idxArr (agg:Bool) (n size:Nat) (x ix:cC)
 | idxStr (x ix:cC)
 | lookup (e:mM) (zero:AV) (commaOk:Bool) (m key:cC)
 | tassert (t:Nat) (zero:AV) (commaOk:Bool) (x:cC)
 | extract (x:cC) (i:Nat)
 | lenArr (n:Nat)
 | lenStr (x:cC)
 | lenSl (x:cC)
 | lenMap (x:cC)
 | capSl (x:cC)
 | minmax (isMax:Bool) (xs:List cC)
 | mkMeth (name:String) (tbl:List (Nat×Nat×Option (Bool×Nat))) (x:cC)
 deriving Inhabited
inductive uG where
 | alloc (t:Nat) (cells:List AV)
 | box (t:Nat) (x:cC)
 | bslice (t size len:Nat) (zero:List AV) (parts:List (Nat×cC))
 | mkSlice (t size bytes:Nat) (zero:List AV) (l c:cC)
 | mkMap
 | strBytes (t:Nat) (x:cC)
 deriving Inhabited
inductive aGw where
 | add64 | idxByte | idxStr
 deriving Inhabited
inductive XOp where
 | st (n:Nat) (x v:cC)
 | call (f:cC) (args:List cC)
 | inv (tbl:List (Nat×Nat×Option (Bool×Nat))) (recv:cC) (args:List cC)
 | app (t size bytes:Nat) (s x:cC)
 | copy (size:Nat) (d s:cC)
 | mapUpd (e:mM) (m k v:cC)
 | mapDel (e:mM) (m k:cC)
 | clr (zero:List AV) (x:cC)
 | ext (k:aGw) (args:List cC)
 | bad
 deriving Inhabited
inductive AOp where
 | q (o:xO)
 | a (o:uG)
 | x (o:XOp)
 deriving Inhabited
structure AO where
 dst:Option Nat
 op:AOp
 grd:Option (Nat×Bool)
 mask:Nat      -- the operations before it (drawn regions)
 deriving Inhabited
inductive AC where
 | skip
 | seq (a b:AC)
 | cond (c:cC) (a b:AC)
 | block (id:Nat) (c:AC)
 | loop (c:AC)
 | exit (id:Nat)
 | ret
 | reg (ops:List AO)
 | drw (ops:List AO)
 | rng (f:cC) (params:List Nat) (assign body:AC)
 | dfr (ops:List AO) (f:cC) (args:List cC)
 deriving Inhabited
inductive RV where
 | t (i:Nat)
 | cell (a:Nat) (agg:Bool) (n:Nat)
 deriving Inhabited
structure cR where
 ntmps:Nat
 res:List RV
 body:AC
 deriving Inhabited
abbrev Fr:=T AV
inductive LSt where
 | ready | busy | done | exhausted
 deriving DecidableEq,Inhabited
inductive Out where
 | normal
 | exit (id:Nat)
 | ret
 deriving Inhabited
inductive AB where
 | cells (cs:List AV) (opn:Bool) (size:Nat)     -- opn:there may be more room behind;size:the cells of an element then
 | ro (cs:List AV)
 | map (es:List (AV×AV))
 | loop (st:LSt) (pend:Option Out) (fr:Fr) (params:List Nat) (assign body:AC)
 | dfd
 deriving Inhabited
structure St where
 h:T AB
 nx:Nat
def aH(i:Nat)(F:Fr):AV:=Option.rec (motive:=fun _=>AV) .undef (fun v=>v) (F.get i)
def aL3(v:AV)(_:Fr):AV:=v
def cC.val(x:cC):Fr→AV:=cC.rec (motive:=fun _=>Fr→AV) aH aL3 x
def cM(l:List cC):Fr→List AV:=List.rec (motive:=fun _=>Fr→List AV) (fun _=>[]) (fun x _ ih F=>x.val F::ih F) l
def nth{α:Type}(l:List α):Nat→Option α:=List.rec (motive:=fun _=>Nat→Option α) (fun _=>none) (fun x _ ih k=>bG (Nat.beq k 0) (some x) (ih (Nat.sub k 1))) l
def aFt{α:Type}(l:List α):Nat→List α:=List.rec (motive:=fun _=>Nat→List α) (fun _=>[]) (fun x xs ih k=>bG (Nat.beq k 0) (x::xs) (ih (Nat.sub k 1))) l
def aC6{α:Type}(l:List α):Nat→Option (List α):=
 List.rec (motive:=fun _=>Nat→Option (List α)) (fun n=>bG (Nat.beq n 0) (some []) none)
  (fun x _ ih n=>bG (Nat.beq n 0) (some []) (aW (ih (Nat.sub n 1)) fun r=>some (x::r))) l
def aCv{α:Type}(vs:List α):List α→Option (List α):=
 List.rec (motive:=fun _=>List α→Option (List α)) (fun l=>some l)
  (fun v _ ih l=>List.rec (motive:=fun _=>Option (List α)) none (fun _ xs _=>aW (ih xs) fun r=>some (v::r)) l) vs
def put{α:Type}(l:List α):Nat→List α→Option (List α):=
 List.rec (motive:=fun _=>Nat→List α→Option (List α)) (fun k vs=>bG (Nat.beq k 0) (aCv vs []) none)
  (fun x xs ih k vs=>bG (Nat.beq k 0) (aCv vs (x::xs)) (aW (ih (Nat.sub k 1) vs) fun r=>some (x::r))) l
def iL{α:Type}(l:List α):Nat:=List.rec (motive:=fun _=>Nat) 0 (fun _ _ ih=>Nat.succ ih) l
def uA{α:Type}(l m:List α):List α:=List.rec (motive:=fun _=>List α) m (fun x _ ih=>x::ih) l
def repeatL{α:Type}(z:List α)(n:Nat):List α:=Nat.rec (motive:=fun _=>List α) [] (fun _ ih=>uA z ih) n
def cut{α:Type}(l:List α)(i n:Nat):Option (List α):=aC6 (aFt l i) n
def mL(k:IntKind):Nat:=
 match k with
 | .i8=>127 | .i16=>32767 | .i32=>2147483647 | .i64=>9223372036854775807
 | .u8=>255 | .u16=>65535 | .u32=>4294967295 | .u64=>18446744073709551615
def nat(k:IntKind)(n:Nat):Int:=bG (Nat.ble n (mL k)) (.ofNat n) (k.wrap (.ofNat n))
def aBw(k:IntKind):Bool:=
 match k with
 | .i8 | .i16 | .i32 | .i64=>true
 | _=>false
def neg(k:IntKind)(n:Nat):Int:=bG (aBw k) (bG (Nat.ble n (mL k)) (.negSucc n) (k.wrap (.negSucc n))) (k.wrap (.negSucc n))
def aG7(k:IntKind)(n:Nat):Bool:=Nat.ble n (mL k)
def aDo(k:IntKind)(n:Int):Int:=Int.rec (motive:=fun _=>Int) (fun m=>nat k m) (fun m=>neg k m) n
def aAD(k:IntKind)(a b:Nat):Int:=bG (Nat.ble b a) (nat k (Nat.sub a b)) (neg k (Nat.sub (Nat.sub b a) 1))
def aJ1(k:IntKind)(x y:Int):Int:=
 Int.rec (motive:=fun _=>Int) (fun a=>Int.rec (motive:=fun _=>Int) (fun b=>nat k (Nat.add a b)) (fun b=>aAD k a (Nat.succ b)) y)
  (fun a=>Int.rec (motive:=fun _=>Int) (fun b=>aAD k b (Nat.succ a)) (fun b=>neg k (Nat.succ (Nat.add a b))) y) x
def aFy(k:IntKind)(x y:Int):Int:=
 Int.rec (motive:=fun _=>Int) (fun a=>Int.rec (motive:=fun _=>Int) (fun b=>aAD k a b) (fun b=>nat k (Nat.add a (Nat.succ b))) y)
  (fun a=>Int.rec (motive:=fun _=>Int) (fun b=>neg k (Nat.add a b)) (fun b=>aAD k b a) y) x
def aFm(k:IntKind)(x y:Int):Int:=
 Int.rec (motive:=fun _=>Int) (fun a=>Int.rec (motive:=fun _=>Int) (fun b=>nat k (Nat.mul a b)) (fun b=>aDo k (Int.mul (.ofNat a) (.negSucc b))) y)
  (fun a=>aDo k (Int.mul (.negSucc a) y)) x
def ieq(x y:Int):Bool:=
 Int.rec (motive:=fun _=>Bool) (fun a=>Int.rec (motive:=fun _=>Bool) (fun b=>Nat.beq a b) (fun _=>false) y)
  (fun a=>Int.rec (motive:=fun _=>Bool) (fun _=>false) (fun b=>Nat.beq a b) y) x
def ile(x y:Int):Bool:=
 Int.rec (motive:=fun _=>Bool) (fun a=>Int.rec (motive:=fun _=>Bool) (fun b=>Nat.ble a b) (fun _=>false) y)
  (fun a=>Int.rec (motive:=fun _=>Bool) (fun _=>true) (fun b=>Nat.ble b a) y) x
def keq(x y:IntKind):Bool:=Nat.beq (mL x) (mL y)
def aIJ(x y:Bool):Bool:=bG x y (bG y false true)
def aOf(k:IntKind)(x y:Int):Option AV:=some (.int k (aJ1 k x y))
def aOc(k:IntKind)(x y:Int):Option AV:=some (.int k (aFy k x y))
def aOi(k:IntKind)(x y:Int):Option AV:=some (.int k (aFm k x y))
def aJW(k:IntKind)(x y:Int):Option AV:=
 match x,y with
 | .ofNat a,.ofNat b=>bG (Nat.beq b 0) none (some (.int k (nat k (Nat.div a b))))
 | x,y=>bG (ieq y (.ofNat 0)) none (some (.int k (aDo k (x.tdiv y))))
def aMq(k:IntKind)(x y:Int):Option AV:=
 match x,y with
 | .ofNat a,.ofNat b=>bG (Nat.beq b 0) none (some (.int k (.ofNat (Nat.mod a b))))
 | x,y=>bG (ieq y (.ofNat 0)) none (some (.int k (x.tmod y)))
def aAQ(f:Nat→Nat→Nat)(k:IntKind)(x y:Int):Option AV:=
 match x,y with
 | .ofNat a,.ofNat b=>bG (aG7 k a) (bG (aG7 k b) (some (.int k (.ofNat (f a b)))) none) none
 | _,_=>none
def aNL:=aAQ Nat.land
def iOr:=aAQ Nat.lor
def aOh:=aAQ Nat.xor
def aNH(_:IntKind)(x y:Int):Option AV:=some (.bool (ieq x y))
def aNX(_:IntKind)(x y:Int):Option AV:=some (.bool (bG (ieq x y) false true))
def aNK(_:IntKind)(x y:Int):Option AV:=some (.bool (bG (ile y x) false true))
def aNI(_:IntKind)(x y:Int):Option AV:=some (.bool (ile x y))
def aNM(_:IntKind)(x y:Int):Option AV:=some (.bool (bG (ile x y) false true))
def aNJ(_:IntKind)(x y:Int):Option AV:=some (.bool (ile y x))
def aIP(_:IntKind)(_ _:Int):Option AV:=none
def aJa(op:BinOp):IntKind→Int→Int→Option AV:=
 BinOp.rec (motive:=fun _=>IntKind→Int→Int→Option AV) aOf aOc aOi aJW aMq aNL iOr aOh aIP aIP aIP aNH aNX aNK aNI aNM aNJ op
def tV(op:BinOp)(k:IntKind)(x:Int)(b:Nat):Option AV:=
 let n:=bG (Nat.ble b k.bits) b k.bits
 match op with
 | .shl=>some (.int k (aFm k x (.ofNat (Nat.pow 2 n))))
 | .shr=>some (.int k (x.fdiv (.ofNat (Nat.pow 2 n))))
 | _=>none
def yW(op:BinOp)(k:IntKind)(x y:Int):Option AV:=
 match y with
 | .ofNat b=>tV op k x b
 | _=>none
def dJ(op:BinOp):Bool:=BinOp.rec (motive:=fun _=>Bool) false false false false false false false false true true false false false false false false false op
def mQ:List Nat→List Nat→Bool
 | _,[]=>false
 | [],_::_=>true
 | a::x,b::y=>bG (Nat.blt a b) true (bG (Nat.beq a b) (mQ x y) false)
def jL:List Nat→List Nat→Bool
 | [],[]=>true
 | a::x,b::y=>bG (Nat.beq a b) (jL x y) false
 | _,_=>false
def aFV(op:BinOp)(a b:List Nat):Option AV:=
 match op with
 | .add=>bG (Nat.ble (iL a+iL b) 9223372036854775807) (some (.str (uA a b))) none
 | .eql=>some (.bool (jL a b))
 | .neq=>some (.bool (!jL a b))
 | .lss=>some (.bool (mQ a b))
 | .leq=>some (.bool (mQ a b || jL a b))
 | .gtr=>some (.bool (!(mQ a b || jL a b)))
 | .geq=>some (.bool (!mQ a b))
 | _=>none
def partOf(agg:Bool)(cs:List AV)(off n:Nat):Option AV:=
 bG agg (aW (cut cs off n) fun r=>some (.agg r)) (nth cs off)
def xH:EqP→AV→AV→Option Bool
 | .bool,.bool a,.bool b=>some (aIJ a b)
 | .int,.int k a,.int k' b=>bG (keq k k') (some (ieq a b)) none
 | .str,.str a,.str b=>some (jL a b)
 | .ptr,.nilp,.nilp=>some true
 | .ptr,.nilp,.ptr _ _=>some false
 | .ptr,.ptr _ _,.nilp=>some false
 | .slice,.nilsl,.nilsl=>some true
 | .slice,.nilsl,.sl .. =>some false
 | .slice,.sl ..,.nilsl=>some false
 | .slice,.nilsl,.emp=>some false
 | .slice,.emp,.nilsl=>some false
 | .map,.nilmap,.nilmap=>some true
 | .map,.nilmap,.map _=>some false
 | .map,.map _,.nilmap=>some false
 | .func,.nilfn,.nilfn=>some true
 | .func,.nilfn,.fn .. =>some false
 | .func,.fn ..,.nilfn=>some false
 | .iface,.niliface,.iface _ _=>some false
 | .iface,.iface _ _,.niliface=>some false
 | _,_,_=>none
def eqs:List (Nat×EqP)→List AV→List AV→Option Bool
 | [],_,_=>some true
 | (off,e)::fs,xs,ys=>
  match nth xs off,nth ys off with
  | some x,some y=>match xH e x y with
   | some true=>eqs fs xs ys
   | some false=>some false
   | none=>none
  | _,_=>none
def eqv:mM→AV→AV→Option Bool
 | .p e,x,y=>xH e x y
 | .struct fs,.agg xs,.agg ys=>bG (Nat.beq (iL xs) (iL fs)) (bG (Nat.beq (iL ys) (iL fs)) (eqs fs xs ys) none) none
 | _,_,_=>none
def aLy(op:BinOp)(e:mM)(x y:AV):Option AV:=
 match op with
 | .eql=>aW (eqv e x y) fun b=>some (.bool b)
 | .neq=>aW (eqv e x y) fun b=>some (.bool (bG b false true))
 | _=>none
def cI(op:BinOp)(k:IntKind)(a:Int)(k':IntKind)(b:Int):Option AV:=
 bG (dJ op) (yW op k a b) (bG (keq k k') (aJa op k a b) none)
def aEe(v:AV):Option (IntKind×Int):=
 match v with
 | .int k a=>some (k,a)
 | _=>none
def aDT(v:AV):Option (List Nat):=
 match v with
 | .str s=>some s
 | _=>none
def eB(op:BinOp)(e:mM)(x y:AV):Option AV:=
 match aEe x,aEe y with
 | some a,some b=>cI op a.1 a.2 b.1 b.2
 | _,_=>match aDT x,aDT y with
  | some a,some b=>aFV op a b
  | _,_=>aLy op e x y
def unV(op:UnOp)(x:AV):Option AV:=
 match op,x with
 | .neg,.int k n=>some (.int k (aFy k (.ofNat 0) n))
 | .not,.bool b=>some (.bool (bG b false true))
 | _,_=>none
def gT(b:AB):Option (List AV):=
 match b with
 | .cells cs _ _=>some cs
 | .ro cs=>some cs
 | _=>none
def cK(h:T AB)(b:Nat):Option (List AV):=aW (h.get b) gT
def tZ(h:T AB)(b off n:Nat):Option (List AV):=aW (cK h b) fun cs=>cut cs off n
def iJ(h:T AB)(b off:Nat):Option AV:=aW (cK h b) fun cs=>nth cs off
def lL(agg:Bool)(n:Nat)(h:T AB)(b off:Nat):Option AV:=
 bG agg (aW (tZ h b off n) fun cs=>some (.agg cs)) (iJ h b off)
def fY(zero:List AV):List (Nat×Nat×AV)→Option (List AV)
 | []=>some zero
 | (off,n,v)::ps=>aW v.cells fun cs=>bG (Nat.beq (iL cs) n) (aW (put zero off cs) fun z=>fY z ps) none
def bytesOf:List AV→Option (List Nat)
 | []=>some []
 | .int .u8 (.ofNat n)::vs=>bG (Nat.ble n 255) (aW (bytesOf vs) fun r=>some (n::r)) none
 | _::_=>none
def eG(v:AV):Option Nat:=
 match v with
 | .int _ (.ofNat n)=>some n
 | _=>none
def gE(F:Fr)(d:Nat)(x:Option cC):Option Nat:=
 match x with
 | none=>some d
 | some x=>eG (x.val F)
def oE(e:mM)(k:AV):List (AV×AV)→Nat→Option (Option (Nat×AV))
 | [],_=>some none
 | (k',v)::es,i=>aW (eqv e k k') fun b=>bG b (some (some (i,v))) (oE e k es (Nat.succ i))
def mK(e:mM)(k:AV)(es:List (AV×AV)):Option (Option (Nat×AV)):=aW (eqv e k k) fun _=>oE e k es 0
def pP(b:AB):Option (List (AV×AV)):=
 match b with
 | .map es=>some es
 | _=>none
def oJ(h:T AB)(m:AV):Option (List (AV×AV)):=
 match m with
 | .nilmap=>some []
 | .map b=>aW (h.get b) pP
 | _=>none
def jE(isMax:Bool):List AV→AV→Option AV
 | [],x=>some x
 | .int k' b::vs,.int k a=>bG (keq k k')
   (jE isMax vs (.int k (bG isMax (bG (ile b a) a b) (bG (ile a b) a b)))) none
 | _,_=>none
abbrev QF:=Fr→T AB→Option AV
def qMv(x:cC):QF:=fun F _=>some (x.val F)
def tL(v:AV)(a b:cC)(F:Fr):Option AV:=
 match v with
 | .bool t=>some (bG t (a.val F) (b.val F))
 | _=>none
def aMV(c a b:cC):QF:=fun F _=>tL (c.val F) a b F
def fF(F:Fr):List (Nat×Nat×cC)→List (Nat×Nat×AV)
 | []=>[]
 | (a,b,x)::ps=>(a,b,x.val F)::fF F ps
def aMe(zero:List AV)(ps:List (Nat×Nat×cC)):QF:=fun F _=>aW (fY zero (fF F ps)) fun cs=>some (.agg cs)
def cJ(v:AV)(agg:Bool)(n:Nat)(h:T AB):Option AV:=
 match v with
 | .ptr b off=>lL agg n h b off
 | _=>none
def qLd(agg:Bool)(n:Nat)(x:cC):QF:=fun F h=>cJ (x.val F) agg n h
def tO{α:Type}(t:Nat):List (Nat×α)→Option α
 | []=>none
 | (u,a)::l=>bG (Nat.beq t u) (some a) (tO t l)
def aFx(n:String)(tbl:List (Nat×Nat×Option (Bool×Nat)))(v:AV):Option AV:=
 match v with
 | .iface t w=>aW (tO t tbl) fun r=>match r.2,w with
  | none,_=>some (.mth n tbl v)
  | some _,.ptr _ _=>some (.mth n tbl v)
  | _,_=>none
 | _=>none
def rH(v:AV):Option AV:=
 match v with
 | .ptr b o=>some (.ptr b o)
 | .fn f a b=>some (.fn f a b)
 | .iface t v=>some (.iface t v)
 | .yld b=>some (.yld b)
 | .mth n tbl v=>aFx n tbl v
 | _=>none
def aKo(x:cC):QF:=fun F _=>rH (x.val F)
def aNV(op:BinOp)(e:mM)(x y:cC):QF:=fun F _=>eB op e (x.val F) (y.val F)
def qUn(op:UnOp)(x:cC):QF:=fun F _=>unV op (x.val F)
def aB8(h:T AB)(b off len:Nat):Option AV:=aW (tZ h b off len) fun cs=>aW (bytesOf cs) fun s=>some (.str s)
def tX(k:aFL)(v:AV)(h:T AB):Option AV:=
 match k,v with
 | .int k,.int _ n=>some (.int k (aDo k n))
 | .same,.str s=>some (.str s)
 | .bytesToStr,.nilsl=>some (.str [])
 | .bytesToStr,.emp=>some (.str [])
 | .bytesToStr,.sl b off len _ _=>aB8 h b off len
 | .intToStr,.int _ (.ofNat n)=>bG (Nat.ble n 127) (some (.str [n])) none
 | _,_=>none
def aNb(k:aFL)(x:cC):QF:=fun F h=>tX k (x.val F) h
def aJ9(t:Nat)(x:cC):QF:=fun F _=>some (.iface t (x.val F))
def aKF(f:Nat)(first cap:List cC):QF:=fun F _=>some (.fn f (cM first F) (cM cap F))
def aB2(s:List Nat)(lo hi mx:Option cC)(F:Fr):Option AV:=
 match mx with
 | some _=>none
 | none=>aW (gE F (iL s) hi) fun h'=>aW (gE F 0 lo) fun l=>
   bG (Nat.ble h' (iL s)) (bG (Nat.ble l h') (aW (cut s l (h' - l)) fun r=>some (.str r)) none) none
def kI(len cap:Nat)(lo hi mx:Option cC)(F:Fr):Option (Nat×Nat×Nat):=
 aW (gE F cap mx) fun m=>aW (gE F len hi) fun h=>aW (gE F 0 lo) fun l=>
  bG (Nat.ble m cap) (bG (Nat.ble h m) (bG (Nat.ble l h) (some (l,h,m)) none) none) none
def aI2(size b off len cap:Nat)(o:Bool)(lo hi mx:Option cC)(F:Fr):Option AV:=
 aW (kI len cap lo hi mx F) fun x=>
  let o':=bG o mx.isNone false
  bG (Nat.beq x.2.2 x.1) (bG o' (some .emp) (some (.sl b off (x.2.1 - x.1) (x.2.2 - x.1) false)))
   (some (.sl b (off+x.1 * size) (x.2.1 - x.1) (x.2.2 - x.1) o'))
def aI7(lo hi mx:Option cC)(F:Fr):Option AV:=aW (kI 0 0 lo hi mx F) fun _=>some .emp
def aIQ(lo hi mx:Option cC)(F:Fr):Option AV:=aW (kI 0 0 lo hi mx F) fun _=>some .nilsl
def aGY(n size b off:Nat)(lo hi mx:Option cC)(F:Fr):Option AV:=
 aW (kI n n lo hi mx F) fun x=>
  bG (Nat.beq x.2.2 x.1) (some (.sl b off (x.2.1 - x.1) (x.2.2 - x.1) false))
   (some (.sl b (off+x.1 * size) (x.2.1 - x.1) (x.2.2 - x.1) false))
def pT(k:SlK)(v:AV)(lo hi mx:Option cC)(F:Fr):Option AV:=
 match k,v with
 | .str,.str s=>aB2 s lo hi mx F
 | .slice size,.sl b off len cap o=>aI2 size b off len cap o lo hi mx F
 | .slice _,.nilsl=>aIQ lo hi mx F
 | .slice _,.emp=>aI7 lo hi mx F
 | .arr n size,.ptr b off=>aGY n size b off lo hi mx F
 | _,_=>none
def aNZ(k:SlK)(x:cC)(lo hi mx:Option cC):QF:=fun F _=>pT k (x.val F) lo hi mx F
def xC(v:AV)(off:Nat):Option AV:=
 match v with
 | .ptr b o=>some (.ptr b (o+off))
 | _=>none
def aLQ(off:Nat)(x:cC):QF:=fun F _=>xC (x.val F) off
def aIp(v:AV)(agg:Bool)(off n:Nat):Option AV:=
 match v with
 | .agg cs=>partOf agg cs off n
 | _=>none
def aOg(agg:Bool)(off n:Nat)(x:cC):QF:=fun F _=>aIp (x.val F) agg off n
def fC(k:IxK)(v:AV)(i:Nat):Option AV:=
 match k,v with
 | .arr n size,.ptr b off=>bG (Nat.blt i n) (some (.ptr b (off+i * size))) none
 | .slice size,.sl b off len _ _=>bG (Nat.blt i len) (some (.ptr b (off+i * size))) none
 | _,_=>none
def aL0(k:IxK)(x ix:cC):QF:=fun F _=>aW (eG (ix.val F)) fun i=>fC k (x.val F) i
def vF(v:AV)(agg:Bool)(n size i:Nat):Option AV:=
 match v with
 | .agg cs=>bG (Nat.blt i n) (partOf agg cs (i * size) size) none
 | _=>none
def aKT(agg:Bool)(n size:Nat)(x ix:cC):QF:=fun F _=>aW (eG (ix.val F)) fun i=>vF (x.val F) agg n size i
def lA(v:AV)(i:Nat):Option AV:=
 match v with
 | .str s=>aW (nth s i) fun b=>some (.int .u8 (.ofNat b))
 | _=>none
def aLg(x ix:cC):QF:=fun F _=>aW (eG (ix.val F)) fun i=>lA (x.val F) i
def aBt(ok:Bool)(v:AV)(b:Bool):AV:=bG ok (.tup [v,.bool b]) v
def nB(r:Option (Nat×AV))(zero:AV)(ok:Bool):Option AV:=
 match r with
 | some (_,v)=>some (aBt ok v true)
 | none=>some (aBt ok zero false)
def aKM(sk:mM)(zero:AV)(ok:Bool)(m key:cC):QF:=fun F h=>
 aW (oJ h (m.val F)) fun es=>aW (mK sk (key.val F) es) fun r=>nB r zero ok
def tI(v:AV)(t:Nat)(zero:AV)(ok:Bool):Option AV:=
 match v with
 | .iface t' v=>bG (Nat.beq t t') (some (aBt ok v true)) (bG ok (some (.tup [zero,.bool false])) none)
 | .niliface=>bG ok (some (.tup [zero,.bool false])) none
 | _=>none
def aJ4(t:Nat)(zero:AV)(ok:Bool)(x:cC):QF:=fun F _=>tI (x.val F) t zero ok
def jU(v:AV)(i:Nat):Option AV:=
 match v with
 | .tup vs=>nth vs i
 | _=>none
def aIS(x:cC)(i:Nat):QF:=fun F _=>jU (x.val F) i
def aLd(n:Nat):QF:=fun _ _=>some (.int .i64 (.ofNat n))
def yT(v:AV):Option AV:=
 match v with
 | .str s=>some (.int .i64 (.ofNat (iL s)))
 | _=>none
def aKL(x:cC):QF:=fun F _=>yT (x.val F)
def lE(v:AV):Option AV:=
 match v with
 | .nilsl=>some (.int .i64 (.ofNat 0))
 | .emp=>some (.int .i64 (.ofNat 0))
 | .sl _ _ n _ _=>some (.int .i64 (.ofNat n))
 | _=>none
def aL9(x:cC):QF:=fun F _=>lE (x.val F)
def aKs(x:cC):QF:=fun F h=>aW (oJ h (x.val F)) fun es=>some (.int .i64 (.ofNat (iL es)))
def aCE(v:AV):Option AV:=
 match v with
 | .nilsl=>some (.int .i64 (.ofNat 0))
 | .sl _ _ _ c false=>some (.int .i64 (.ofNat c))
 | _=>none
def aMu(x:cC):QF:=fun F _=>aCE (x.val F)
def mE(isMax:Bool)(l:List AV):Option AV:=
 match l with
 | []=>none
 | v::vs=>jE isMax vs v
def aKH(n:String)(tbl:List (Nat×Nat×Option (Bool×Nat)))(x:cC):QF:=fun F _=>some (.mth n tbl (x.val F))
def aK2(mx:Bool)(xs:List cC):QF:=fun F _=>mE mx (cM xs F)
def gB(q:xO):QF:=
 xO.rec (motive:=fun _=>QF) qMv aMV aMe qLd aKo aNV qUn aNb aJ9 aKF aNZ aLQ aOg aL0 aKT aLg aKM aJ4 aIS aLd aKL aL9 aKs aMu aK2 aKH q
abbrev AF:=Fr→Nat→Option (AV×AB)
def room:Nat:=140737488355328
def aL4(_:Nat)(cells:List AV):AF:=fun _ id=>some (.ptr id 0,.cells cells false 0)
def aNF(_:Nat)(x:cC):AF:=fun F id=>aW (x.val F).cells fun cs=>some (.ptr id 0,.cells cs false 0)
def iI(size:Nat)(F:Fr):List (Nat×cC)→List (Nat×Nat×AV)
 | []=>[]
 | (i,x)::ps=>(i * size,size,x.val F)::iI size F ps
def aLi(_ size len:Nat)(zero:List AV)(ps:List (Nat×cC)):AF:=fun F id=>
 aW (fY (repeatL zero len) (iI size F ps)) fun cs=>some (.sl id 0 len len false,.cells cs false 0)
def tS(_ _ bytes:Nat)(zero:List AV)(l c:cC):AF:=fun F id=>
 aW (eG (l.val F)) fun l=>aW (eG (c.val F)) fun c=>
  bG (Nat.ble l c) (bG (Nat.ble c room) (bG (Nat.ble (bytes * c) room) (some (.sl id 0 l c false,.cells (repeatL zero c) false 0)) none) none) none
def aL7:AF:=fun _ id=>some (.map id,.map [])
def byteCells:List Nat→List AV
 | []=>[]
 | b::bs=>.int .u8 (.ofNat b)::byteCells bs
def pR(v:AV)(id:Nat):Option (AV×AB):=
 match v with
 | .str s=>some (.sl id 0 (iL s) (iL s) true,.cells (byteCells s) true 1)
 | _=>none
def aHw(_:Nat)(x:cC):AF:=fun F id=>pR (x.val F) id
def uP(a:uG):AF:=uG.rec (motive:=fun _=>AF) aL4 aNF aLi tS aL7 aHw a
def vZ(bl:AB)(S:St)(b off:Nat)(vs:List AV):Option St:=
 match bl with
 | .cells cs o s=>aW (put cs off vs) fun cs'=>some ⟨S.h.set b (some (.cells cs' o s)),S.nx⟩
 | _=>none
def pN(S:St)(b off:Nat)(vs:List AV):Option St:=aW (S.h.get b) fun bl=>vZ bl S b off vs
def fI(v:AV)(h:T AB)(size n:Nat):Option (List AV):=
 match v with
 | .sl b off _ _ _=>tZ h b off (n * size)
 | .nilsl=>bG (Nat.beq n 0) (some []) none
 | .emp=>bG (Nat.beq n 0) (some []) none
 | .str s=>bG (Nat.beq size 1) (aW (aC6 s n) fun r=>some (byteCells r)) none
 | _=>none
def sE(v:AV):Option Nat:=
 match v with
 | .sl _ _ n _ _=>some n
 | .nilsl=>some 0
 | .emp=>some 0
 | .str s=>some (iL s)
 | _=>none
def grown(h:T AB)(nx need size:Nat)(cs:List AV):Option (AV×St):=
 some (.sl nx 0 need need true,⟨h.set nx (some (.cells cs true size)),Nat.succ nx⟩)
def aGU(bl:AB)(size b off len cap:Nat)(o:Bool)(n:Nat)(new:List AV)(S:St):Option (AV×St):=
 match bl with
 | .cells cs o' sz=>aW (cut cs off (len * size)) fun old=>
   bG o
    (bG o' (bG (Nat.beq sz size) (bG (Nat.beq (off+cap * size) (iL cs)) (grown (S.h.set b none) S.nx (len+n) size (uA old new)) none) none) none)
    (grown S.h S.nx (len+n) size (uA old new))
 | .ro cs=>bG o none (aW (cut cs off (len * size)) fun old=>grown S.h S.nx (len+n) size (uA old new))
 | _=>none
def aAM(bytes size b off len cap:Nat)(o:Bool)(n:Nat)(new:List AV)(S:St):Option (AV×St):=
 bG (Nat.ble (len+n) cap)
  (bG (Nat.beq n 0) (some (.sl b off len cap o,S)) (aW (pN S b (off+len * size) new) fun S'=>some (.sl b off (len+n) cap o,S')))
  (bG (Nat.ble (len+n) room) (bG (Nat.ble ((len+n) * bytes) room) (aW (S.h.get b) fun bl=>aGU bl size b off len cap o n new S) none) none)
def aAB(bytes size n:Nat)(new:List AV)(S:St):Option (AV×St):=
 bG (Nat.beq n 0) (some (.nilsl,S))
  (bG (Nat.ble n room) (bG (Nat.ble (n * bytes) room) (grown S.h S.nx n size new) none) none)
def aHS(s:AV)(bytes size n:Nat)(new:List AV)(S:St):Option (AV×St):=
 match s with
 | .nilsl=>aAB bytes size n new S
 | .emp=>bG (Nat.beq n 0) (some (.emp,S)) none
 | .sl b off len cap o=>aAM bytes size b off len cap o n new S
 | _=>none
def jH(bytes size:Nat)(s x:AV)(S:St):Option (AV×St):=
 aW (sE x) fun n=>aW (fI x S.h size n) fun new=>aHS s bytes size n new S
def tM{α:Type}(f:α→α):List α→Nat→List α
 | [],_=>[]
 | x::xs,k=>bG (Nat.beq k 0) (f x::xs) (x::tM f xs (k - 1))
structure bK where
 F:Fr
 inr:Bool
abbrev dY:=AV→List AV→St→Option (AV×St)
abbrev XF:=dY→Fr→St→Option (AV×St)
def lO(p:AV)(n:Nat)(cs:List AV)(S:St):Option (AV×St):=
 match p with
 | .ptr b off=>bG (Nat.beq (iL cs) n) (aW (pN S b off cs) fun S'=>some (.undef,S')) none
 | _=>none
def xSt(n:Nat)(x v:cC):XF:=fun _ F S=>aW (v.val F).cells fun cs=>lO (x.val F) n cs S
def aMH(f:cC)(args:List cC):XF:=fun call F S=>call (f.val F) (cM args F) S
def aDw(v:AV)(f:Nat)(agg:Bool)(n:Nat)(args:List AV)(call:dY)(S:St):Option (AV×St):=
 match v with
 | .ptr b off=>aW (lL agg n S.h b off) fun r=>call (.fn f [r] []) args S
 | _=>none
def aGg(r:Nat×Option (Bool×Nat))(v:AV)(args:List AV)(call:dY)(S:St):Option (AV×St):=
 match r with
 | (f,none)=>call (.fn f [v] []) args S
 | (f,some (agg,n))=>aDw v f agg n args call S
def aDu(v:AV)(tbl:List (Nat×Nat×Option (Bool×Nat)))(args:List AV)(call:dY)(S:St):Option (AV×St):=
 match v with
 | .iface t v=>aW (tO t tbl) fun r=>aGg r v args call S
 | _=>none
def aN1(tbl:List (Nat×Nat×Option (Bool×Nat)))(recv:cC)(args:List cC):XF:=fun call F S=>aDu (recv.val F) tbl (cM args F) call S
def aNQ(_ size bytes:Nat)(s x:cC):XF:=fun _ F S=>jH bytes size (s.val F) (x.val F) S
def copyV(d:AV)(size m:Nat)(s:AV)(S:St):Option (AV×St):=
 match d with
 | .nilsl=>some (.int .i64 (.ofNat 0),S)
 | .emp=>some (.int .i64 (.ofNat 0),S)
 | .sl b off len _ _=>
  let n:=bG (Nat.ble m len) m len
  bG (Nat.beq n 0) (some (.int .i64 (.ofNat 0),S)) (aW (fI s S.h size n) fun cs=>aW (pN S b off cs) fun S'=>some (.int .i64 (.ofNat n),S'))
 | _=>none
def aAp(v:AV):Option Nat:=
 match v with
 | .sl _ _ n _ _=>some n
 | .nilsl=>some 0
 | .emp=>some 0
 | _=>none
def aNo(size:Nat)(d s:cC):XF:=fun _ F S=>aW (aAp (s.val F)) fun m=>copyV (d.val F) size m (s.val F) S
def zL(r:Option (Nat×AV))(es:List (AV×AV))(k v:AV):List (AV×AV):=
 match r with
 | some (i,_)=>tM (fun _=>(k,v)) es i
 | none=>uA es [(k,v)]
def rQ(m:AV)(sk:mM)(k v:AV)(S:St):Option (AV×St):=
 match m with
 | .map b=>aW (aW (S.h.get b) pP) fun es=>aW (mK sk k es) fun r=>some (.undef,⟨S.h.set b (some (.map (zL r es k v))),S.nx⟩)
 | _=>none
def aKt(sk:mM)(m k v:cC):XF:=fun _ F S=>rQ (m.val F) sk (k.val F) (v.val F) S
def aKC(r:Option (Nat×AV))(es:List (AV×AV))(b:Nat)(S:St):Option (AV×St):=
 match r with
 | some (i,_)=>some (.undef,⟨S.h.set b (some (.map (es.eraseIdx i))),S.nx⟩)
 | none=>some (.undef,S)
def aDZ(m:AV)(sk:mM)(k:AV)(S:St):Option (AV×St):=
 match m with
 | .map b=>aW (aW (S.h.get b) pP) fun es=>aW (mK sk k es) fun r=>aKC r es b S
 | .nilmap=>some (.undef,S)
 | _=>none
def aKI(sk:mM)(m k:cC):XF:=fun _ F S=>aDZ (m.val F) sk (k.val F) S
def aJk(x:AV)(zero:List AV)(S:St):Option (AV×St):=
 match x with
 | .nilsl=>some (.undef,S)
 | .emp=>some (.undef,S)
 | .sl b off n _ _=>bG (Nat.beq n 0) (some (.undef,S)) (aW (pN S b off (repeatL zero n)) fun S'=>some (.undef,S'))
 | _=>none
def aN9(zero:List AV)(x:cC):XF:=fun _ F S=>aJk (x.val F) zero S
def aJw(a b c:Nat):AV:=
 .tup [.int .u64 (.ofNat (Nat.mod (Nat.add (Nat.add a b) c) 18446744073709551616)),.int .u64 (.ofNat (Nat.div (Nat.add (Nat.add a b) c) 18446744073709551616))]
def qI(c:Nat):List Nat→Nat→Int
 | [],_=>.negSucc 0
 | b::bs,i=>bG (Nat.beq b c) (.ofNat i) (qI c bs (Nat.succ i))
def aGa(k:aGw)(args:List AV):Option AV:=
 match k,args with
 | .add64,[.int .u64 (.ofNat a),.int .u64 (.ofNat b),.int .u64 (.ofNat c)]=>bG (Nat.ble c 1) (some (aJw a b c)) none
 | .idxByte,[.str s,.int .u8 (.ofNat c)]=>bG (Nat.ble c 255) (some (.int .i64 (qI c s 0))) none
 | _,_=>none
def aNT(k:aGw)(args:List cC):XF:=fun _ F S=>aW (aGa k (cM args F)) fun v=>some (v,S)
def aNO:XF:=fun _ _ _=>none
def zF(x:XOp):XF:=XOp.rec (motive:=fun _=>XF) xSt aMH aN1 aNQ aNo aKt aKI aN9 aNT aNO x
def isB(v:AV)(w:Bool):Bool:=
 match v with
 | .bool b=>aIJ b w
 | _=>false
def bY(d:Option Nat):Fr→AV→Fr:=Option.rec (motive:=fun _=>Fr→AV→Fr) (fun F _=>F) (fun i F v=>F.set i (some v)) d
def dL(g:Option (Nat×Bool)):Fr→Bool:=Option.rec (motive:=fun _=>Fr→Bool) (fun _=>true) (fun p F=>isB (aH p.1 F) p.2) g
abbrev OF:=Option Nat→dY→Fr→St→Option (Fr×St)
def oQ(q:xO):OF:=fun d _ F S=>aW (gB q F S.h) fun v=>some (bY d F v,S)
def oA(a:uG):OF:=fun d _ F S=>aW (uP a F S.nx) fun r=>some (bY d F r.1,⟨S.h.set S.nx (some r.2),Nat.succ S.nx⟩)
def oX(x:XOp):OF:=fun d call F S=>aW (zF x call F S) fun r=>some (bY d F r.1,r.2)
def oOp(o:AOp):OF:=AOp.rec (motive:=fun _=>OF) oQ oA oX o
def aB1(o:AO)(call:dY)(F:Fr)(S:St):Option (Fr×St):=
 bG (dL o.grd F) (oOp o.op o.dst call F S) (some (bY o.dst F .undef,S))
def sW(l:List AO):dY→Fr→St→Option (Fr×St):=
 List.rec (motive:=fun _=>dY→Fr→St→Option (Fr×St)) (fun _ F S=>some (F,S)) (fun o _ ih call F S=>aW (aB1 o call F S) fun r=>ih call r.1 r.2) l
structure iE where
 i:Nat
 id:Nat
 b:AB
def bV(mask:Nat):List iE→T AB→List iE×T AB
 | [],h=>([],h)
 | p::ps,h=>bG (Nat.testBit mask p.i) (bV mask ps (h.set p.id (some p.b))) (p::(bV mask ps h).1,(bV mask ps h).2)
structure jN where
 q:xO
 F:Fr
 v:AV
 i:Nat
 mask:Nat
def dE(q:xO):Bool:=
 match q with
 | .ld .. | .lookup .. | .lenMap .. =>true
 | .conv .bytesToStr _=>true
 | _=>false
structure DS where
 F:Fr
 S:St
 ps:List iE
 hs:List (Nat×Nat×T AB)
 ls:List jN
abbrev DF:=AO→Nat→Nat→dY→DS→Option DS
def dQ(q:xO):DF:=fun o i _ _ D=>aW (gB q D.F D.S.h) fun v=>
 some ⟨bY o.dst D.F v,D.S,D.ps,D.hs,bG (dE q) (⟨q,D.F,v,i,o.mask⟩::D.ls) D.ls⟩
def dA(a:uG):DF:=fun o i base _ D=>aW (uP a D.F (base+i)) fun r=>
 some ⟨bY o.dst D.F r.1,D.S,⟨i,base+i,r.2⟩::D.ps,D.hs,D.ls⟩
def iQ(hs:List (Nat×Nat×T AB))(mask:Nat):Bool:=
 match hs with
 | []=>true
 | e::_=>Nat.testBit mask e.1
def dX(x:XOp):DF:=fun o i _ call D=>
 bG (iQ D.hs o.mask) (aW (zF x call D.F ⟨(bV o.mask D.ps D.S.h).2,D.S.nx⟩) fun r=>
  some ⟨bY o.dst D.F r.1,r.2,(bV o.mask D.ps D.S.h).1,(i,o.mask,r.2.h)::D.hs,D.ls⟩) none
def dOp(o:AOp):DF:=AOp.rec (motive:=fun _=>DF) dQ dA dX o
def qO(o:AO)(i base:Nat)(call:dY)(D:DS):Option DS:=
 bG (dL o.grd D.F) (dOp o.op o i base call D) (some ⟨bY o.dst D.F .undef,D.S,D.ps,D.hs,D.ls⟩)
def vL:List AO→Nat→Nat→dY→DS→Option DS
 | [],_,_,_,D=>some D
 | o::os,i,base,call,D=>aW (qO o i base call D) fun D'=>vL os (i+1) base call D'
mutual
def bW:AV→AV→Bool
 | .bool a,.bool b=>aIJ a b
 | .int k a,.int j b=>bG (keq k j) (ieq a b) false
 | .str a,.str b=>jL a b
 | .ptr a b,.ptr c d=>bG (Nat.beq a c) (Nat.beq b d) false
 | .nilp,.nilp=>true
 | .sl a b c d e,.sl a' b' c' d' e'=>Nat.beq a a' && Nat.beq b b' && Nat.beq c c' && Nat.beq d d' && aIJ e e'
 | .nilsl,.nilsl=>true
 | .emp,.emp=>true
 | .map a,.map b=>Nat.beq a b
 | .nilmap,.nilmap=>true
 | .fn f a b,.fn g c d=>Nat.beq f g && kE a c && kE b d
 | .nilfn,.nilfn=>true
 | .yld a,.yld b=>Nat.beq a b
 | .iface t v,.iface u w=>Nat.beq t u && bW v w
 | .niliface,.niliface=>true
 | .agg a,.agg b=>kE a b
 | .tup a,.tup b=>kE a b
 | _,_=>false
def kE:List AV→List AV→Bool
 | [],[]=>true
 | a::x,b::y=>bG (bW a b) (kE x y) false
 | _,_=>false
end
def mO(v:AV)(r:Option AV):Bool:=
 match r with
 | some w=>bW w v
 | none=>false
def eC(l:jN):List (Nat×Nat×T AB)→T AB→Bool
 | [],h=>mO l.v (gB l.q l.F h)
 | (i,m,h')::r,h=>
  bG (Nat.testBit l.mask i) (eC l r h')
   (bG (mO l.v (gB l.q l.F h)) (bG (Nat.testBit m l.i) true (eC l r h')) false)
def eO(h0:T AB)(hs:List (Nat×Nat×T AB)):List jN→Bool
 | []=>true
 | l::ls=>bG (eC l hs h0) (eO h0 hs ls) false
def xT(h0:T AB)(n:Nat)(D:DS):Option (Fr×St):=
 bG (eO h0 D.hs.reverse D.ls) (some (D.F,⟨(bV (2 ^ n - 1) D.ps D.S.h).2,D.S.nx⟩)) none
def vJ(ops:List AO)(call:dY)(F:Fr)(S:St):Option (Fr×St):=
 aW (vL ops 0 S.nx call ⟨F,⟨S.h,S.nx+iL ops⟩,[],[],[]⟩) fun D=>xT S.h (iL ops) D
structure Evs where
 code:AC→bK→St→Option (Out×bK×St)
 call:dY
abbrev CF:=Evs→bK→St→Option (Out×bK×St)
def oK:List Nat→List AV→Fr→Option Fr
 | [],[],F=>some F
 | p::ps,v::vs,F=>oK ps vs (F.set p (some v))
 | _,_,_=>none
def pH:List AV→Nat→Fr→Fr
 | [],_,F=>F
 | v::vs,i,F=>pH vs (i+1) (F.set i (some v))
def aNc(o:Option Out):Option AC:=
 match o with
 | none=>some .skip
 | some .ret=>some .ret
 | some (.exit id)=>some (.exit id)
 | some .normal=>none
def aNh:CF:=fun _ A S=>some (.normal,A,S)
def pS(b:AC)(ih:Evs)(r:Out×bK×St):Option (Out×bK×St):=
 match r.1 with
 | .normal=>ih.code b r.2.1 r.2.2
 | _=>some r
def aNW(a b:AC):CF:=fun ih A S=>aW (ih.code a A S) (pS b ih)
def aAZ(v:AV)(a b:AC):CF:=fun ih A S=>
 match v with
 | .bool t=>ih.code (bG t a b) A S
 | _=>none
def aNu(c:cC)(a b:AC):CF:=fun ih A S=>aAZ (c.val A.F) a b ih A S
def pQ(id:Nat)(r:Out×bK×St):Option (Out×bK×St):=
 match r.1 with
 | .exit i=>bG (Nat.beq i id) (some (.normal,r.2)) (some r)
 | _=>some r
def aL8(id:Nat)(c:AC):CF:=fun ih A S=>aW (ih.code c A S) (pQ id)
def aM2(c:AC):CF:=fun ih A S=>aW (ih.code c A S) (pS (.loop c) ih)
def aM0(id:Nat):CF:=fun _ A S=>some (.exit id,A,S)
def aOb:CF:=fun _ A S=>some (.ret,A,S)
def aOd(ops:List AO):CF:=fun ih A S=>aW (sW ops ih.call A.F S) fun r=>some (.normal,⟨r.1,A.inr⟩,r.2)
def aN0(_:List AO)(_:cC)(_:List cC):CF:=fun _ _ _=>none
def aNN(ops:List AO):CF:=fun ih A S=>aW (vJ ops ih.call A.F S) fun r=>some (.normal,⟨r.1,A.inr⟩,r.2)
def aEa(bl:AB)(l:Nat)(A:bK)(S2:St)(ih:Evs):Option (Out×bK×St):=
 match bl with
 | .loop st pend fr ps as bd=>
  match st with
  | .busy=>none
  | _=>aW (aNc pend) fun c=>ih.code c A ⟨S2.h.set l (some (.loop .exhausted pend fr ps as bd)),S2.nx⟩
 | _=>none
def aMy(v:AV):Bool:=
 match v with
 | .fn .. =>true
 | _=>false
def aKZ(f:cC)(params:List Nat)(assign body:AC):CF:=fun ih A S=>
 bG A.inr none (bG (aMy (f.val A.F))
  (aW (ih.call (f.val A.F) [.yld S.nx] ⟨S.h.set S.nx (some (.loop .ready none A.F params assign body)),Nat.succ S.nx⟩) fun r=>
   aW (r.2.h.get S.nx) fun bl=>aEa bl S.nx A r.2 ih) none)
def aF8(c:AC):CF:=
 AC.rec (motive:=fun _=>CF) aNh (fun a b _ _=>aNW a b) (fun c a b _ _=>aNu c a b) (fun id c _=>aL8 id c) (fun c _=>aM2 c) aM0 aOb aOd aNN (fun f ps as bd _ _=>aKZ f ps as bd) aN0 c
def aMQ(v:AV)(agg:Bool)(n:Nat)(h:T AB):Option AV:=
 match v with
 | .ptr b off=>lL agg n h b off
 | _=>none
def results:List RV→Fr→T AB→Option (List AV)
 | [],_,_=>some []
 | .t i::rs,F,h=>aW (results rs F h) fun vs=>some (aH i F::vs)
 | .cell a agg n::rs,F,h=>aW (aMQ (aH a F) agg n h) fun v=>aW (results rs F h) fun vs=>some (v::vs)
def oneOf(vs:List AV):AV:=
 match vs with
 | [v]=>v
 | vs=>.tup vs
def aDA(fn:cR)(r:Out×bK×St):Option (AV×St):=
 match r.1 with
 | .exit _=>none
 | _=>aW (results fn.res r.2.1.F r.2.2.h) fun vs=>some (oneOf vs,r.2.2)
def tP(fn:cR)(args:List AV)(ih:Evs)(S:St):Option (AV×St):=
 bG (Nat.ble (iL args) fn.ntmps) (aW (ih.code fn.body ⟨pH args 0 .e,false⟩ S) (aDA fn)) none
def aDd(bl:AB)(o:Out)(l:Nat)(S2:St):Option (AV×St):=
 match bl with
 | .loop .busy _ fr ps as bd=>
  match o with
  | .normal=>some (.bool true,⟨S2.h.set l (some (.loop .ready none fr ps as bd)),S2.nx⟩)
  | o=>some (.bool false,⟨S2.h.set l (some (.loop .done (some o) fr ps as bd)),S2.nx⟩)
 | _=>none
def aId(l:Nat)(bd:AC)(ih:Evs)(A:bK)(S:St):Option (AV×St):=
 aW (ih.code bd A S) fun r=>aW (r.2.2.h.get l) fun bl=>aDd bl r.1 l r.2.2
def tF(bl:AB)(l:Nat)(bd:AC)(ih:Evs)(A:bK)(S1:St):Option (AV×St):=
 match bl with
 | .loop .ready pend fr ps as bd'=>aId l bd ih A ⟨S1.h.set l (some (.loop .busy pend fr ps as bd')),S1.nx⟩
 | _=>none
def aDJ(l:Nat)(bd:AC)(ih:Evs)(r:Out×bK×St):Option (AV×St):=
 match r.1 with
 | .normal=>aW (r.2.2.h.get l) fun bl=>tF bl l bd ih r.2.1 r.2.2
 | _=>none
def aAs(bl:AB)(l:Nat)(args:List AV)(ih:Evs)(S:St):Option (AV×St):=
 match bl with
 | .loop .ready _ fr ps as bd=>aW (oK ps args fr) fun F=>aW (ih.code as ⟨F,true⟩ S) (aDJ l bd ih)
 | _=>none
def tT(fns:T cR)(ih:Evs)(f:AV)(args:List AV)(S:St):Option (AV×St):=
 match f with
 | .fn id first cap=>aW (fns.get id) fun fn=>tP fn (uA first (uA args cap)) ih S
 | .yld l=>aW (S.h.get l) fun bl=>aAs bl l args ih S
 | _=>none
def aLZ(_:AC)(_:bK)(_:St):Option (Out×bK×St):=none
def aMh(_:AV)(_:List AV)(_:St):Option (AV×St):=none
def ev(fns:T cR)(n:Nat):Evs:=
 Nat.rec (motive:=fun _=>Evs) ⟨aLZ,aMh⟩ (fun _ ih=>⟨fun c=>aF8 c ih,tT fns ih⟩) n
end
end Go.Ev
namespace Go.Ev
noncomputable section
def aJ6(v:Value):Bool:=
 match v with
 | .agg _=>false
 | .tuple _=>false
 | _=>true
mutual
def ofValue:Value→Option AV
 | .bool b=>some (.bool b)
 | .int k n=>some (.int k n)
 | .string s=>some (.str (s.data.toList.map UInt8.toNat))
 | .pointer none=>some .nilp
 | .slice none 0 0=>some .nilsl
 | .map none=>some .nilmap
 | .nilFunc=>some .nilfn
 | .nilIface=>some .niliface
 | .func (.func f) ⟨a⟩ ⟨b⟩=>match ofValues a,ofValues b with
  | some a,some b=>some (.fn f a b)
  | _,_=>none
 | .iface t v=>(ofValue v).map (.iface t)
 | .agg ⟨cs⟩=>bif cs.all aJ6 then(ofValues cs).map .agg else none
 | .tuple ⟨cs⟩=>(ofValues cs).map .tup
 | _=>none
def ofValues:List Value→Option (List AV)
 | []=>some []
 | v::vs=>match ofValue v,ofValues vs with
  | some a,some as=>some (a::as)
  | _,_=>none
end
variable (P:Program)
def dS:Operand→Option cC
 | .tmp t=>some (.t t)
 | .const v=>(ofValue v).map .c
 | .global g=>bif Nat.blt g P.globals.size then some (.c (.ptr g 0)) else none
 | .func f=>some (.c (.fn f [] []))
def uR:List Operand→Option (List cC)
 | []=>some []
 | x::xs=>match dS P x,uR xs with
  | some a,some as=>some (a::as)
  | _,_=>none
def jF:Option Operand→Option (Option cC)
 | none=>some none
 | some x=>(dS P x).map some
def yK(t:TypeId):Option (Bool×Nat):=
 match P.underlying t,P.info? t with
 | some (.struct _),some i=>some (true,i.size)
 | some (.array _ _),some i=>some (true,i.size)
 | some _,some i=>some (false,i.size)
 | _,_=>none
def aB0(t:TypeId):Option AV:=
 match P.info? t with
 | some i=>match i.zero with
  | some v=>ofValue v
  | none=>none
 | none=>none
def eqP(t:TypeId):EqP:=
 match P.underlying t with
 | some .bool=>.bool
 | some (.int _)=>.int
 | some .string=>.str
 | some (.pointer _)=>.ptr
 | some (.slice _)=>.slice
 | some (.map _ _)=>.map
 | some (.func ..)=>.func
 | some (.interface _)=>.iface
 | _=>.no
def eqFields:List Field→List (Nat×EqP)
 | []=>[]
 | f::fs=>bif f.name== "_" then eqFields fs else(f.offset,eqP P f.type)::eqFields fs
def eqT(t:TypeId):mM:=
 match P.underlying t with
 | some (.struct fs)=>bif P.stoodInHeld t || P.eqGuardType P.depth t then .p .no else .struct (eqFields P fs.toList)
 | some (.array n e)=>bif P.eqGuardType P.depth t || n>64 || P.cellsOf e !=1 then .p .no else .struct ((List.range n).map fun i=>(i,eqP P e))
 | _=>.p (eqP P t)
def uI(place:Nat→Option (Nat×Nat)):List (Nat×Operand)→Option (List (Nat×Nat×cC))
 | []=>some []
 | (i,x)::ps=>match place i,dS P x,uI place ps with
  | some (off,n),some x,some ps=>some ((off,n,x)::ps)
  | _,_,_=>none
def placeOf(fs:Array Field)(i:Nat):Option (Nat×Nat):=
 match fs[i]? with
 | some f=>match P.info? f.type with
  | some s=>some (f.offset,s.size)
  | none=>none
 | none=>none
def mJ:List Field→Bool
 | []=>true
 | f::fs=>(P.info? f.type).isSome && mJ fs
def vC:List (Nat×Operand)→Option (List (Nat×cC))
 | []=>some []
 | (i,x)::ps=>match dS P x,vC ps with
  | some x,some ps=>some ((i,x)::ps)
  | _,_=>none
def jG(t:TypeId):Option (TypeId×TypeInfo):=
 match P.underlying t with
 | some (.slice e)=>(P.info? e).map fun i=>(e,i)
 | _=>none
def gN(t:TypeId):Option (List AV):=(aB0 P t).bind AV.cells
def gV(e:TypeId)(i:TypeInfo):Option (List AV):=
 match gN P e with
 | some z=>bif Nat.beq z.length i.size then some z else none
 | none=>none
def aLe(u:TypeId)(i:TypeInfo):Bool:=
 match P.underlying u with
 | some (.slice _)=>true
 | some .string=>Nat.beq i.size 1
 | _=>false
def lZ(name:String)(t:TypeId)(i:TypeInfo):Option (Nat×Nat×Option (Bool×Nat)):=
 match i.methods.find? (·.name==name) with
 | some m=>bif !m.path.isEmpty then none else match m.func with
  | none=>none
  | some (f,ptr)=>match P.underlying t,ptr with
   | some (.pointer _),true=>some (t,f,none)
   | some (.pointer e),false=>(yK P e).map fun a=>(t,f,some a)
   | some (.interface _),_=>none
   | some _,false=>some (t,f,none)
   | _,_=>none
 | none=>none
def eX(name:String):List TypeInfo→Nat→List (Nat×Nat×Option (Bool×Nat))
 | [],_=>[]
 | i::is,t=>match lZ P name t i with
  | some r=>r::eX name is (t+1)
  | none=>eX name is (t+1)
def plainKey:EqP→Bool
 | .int | .str | .bool=>true
 | _=>false
def zU:Nat→List (Nat×EqP)→Bool
 | _,[]=>true
 | i,(o,e)::l=>Nat.beq o i && (plainKey e && zU (i+1) l)
def aAx(t:TypeId):Option mM:=
 match P.underlying t with
 | some .string=>some (.p .str)
 | some (.int _)=>some (.p .int)
 | some (.struct fs)=>match eqT P t with
  | .struct l=>bif fs.all (fun f=>plainKey (eqP P f.type)) && zU 0 l then some (.struct l) else none
  | _=>none
 | some (.array _ e)=>match eqT P t with
  | .struct l=>bif plainKey (eqP P e) && zU 0 l then some (.struct l) else none
  | _=>none
 | _=>none
def aGS(s:String):Option aGw:=
 bif s== "math/bits.Add64" then some .add64
 else bif s== "internal/bytealg.IndexByteString" then some .idxByte
 else none
def aHc(f:Operand):Option aGw:=
 match f with
 | .func f=>match P.funcs[f]? with
  | some fn=>bif fn.body.isNone && (Extern.allNextRows.lookup fn.origin).isNone then aGS fn.name else none
  | none=>none
 | _=>none
def q(o:Option xO):Option AOp:=o.map .q
def al(o:Option uG):Option AOp:=o.map .a
def xx(o:Option XOp):Option AOp:=o.map .x
def aJ3(b:Builtin)(as:List Operand)(ts:List TypeId):Option AOp:=
 match b with
 | .copy=>match as,ts with
  | [d,s],[t,_]=>match jG P t with
   | some (_,i)=>xx do some (.copy i.size (←dS P d) (←dS P s))
   | none=>none
  | _,_=>none
 | _=>none
def mT(o:Op):Option AOp:=
 match o with
 | .move x | .assign x=>q do some (.mv (←dS P x))
 | .pick c a b=>q do some (.pick (←dS P c) (←dS P a) (←dS P b))
 | .alloc t=>al do some (.alloc t (←gN P t))
 | .box t x=>al do some (.box t (←dS P x))
 | .build t ps=>
  match P.underlying t with
  | some (.struct fs)=>bif mJ P fs.toList then q do some (.build (←gN P t) (←uI P (placeOf P fs) ps.toList)) else none
  | some (.array _ e)=>q do let s ←P.info? e;some (.build (←gN P t) (←uI P (fun i=>some (i * s.size,s.size)) ps.toList))
  | _=>none
 | .buildSlice t len ps=>al do
  let (e,i) ←jG P t
  if len * i.size>65536 then none
  some (.bslice e i.size len (←gV P e i) (←vC P ps.toList))
 | .load t a=>q do let (agg,n) ←yK P t;some (.ld agg n (←dS P a))
 | .store t a v=>xx do let (_,n) ←yK P t;some (.st n (←dS P a) (←dS P v))
 | .nilCheck x=>q do some (.nilchk (←dS P x))
 | .binOp op t x y _=>q do some (.bin op (eqT P t) (←dS P x) (←dS P y))
 | .unOp op _ x=>q do some (.un op (←dS P x))
 | .convert src dst x=>
  match P.underlying src,P.underlying dst with
  | some (.int _),some (.int k)=>q do some (.conv (.int k) (←dS P x))
  | some .string,some .string=>q do some (.conv .same (←dS P x))
  | some (.int _),some .string=>q do some (.conv .intToStr (←dS P x))
  | some (.slice e),some .string=>match P.underlying e with
   | some (.int .u8)=>q do some (.conv .bytesToStr (←dS P x))
   | _=>none
  | some .string,some (.slice e)=>match P.underlying e with
   | some (.int .u8)=>al do some (.strBytes e (←dS P x))
   | _=>none
  | _,_=>none
 | .makeInterface t x=>match P.underlying t with
  | some (.interface _)=>none
  | some _=>q do some (.mkIface t (←dS P x))
  | none=>none
 | .makeFunc (.method name) a b=>match a.toList,b.toList with
  | [x],[]=>q do some (.mkMeth name (eX P name P.types.toList 0) (←dS P x))
  | _,_=>none
 | .makeFunc (.func f) a b=>q do some (.mkFunc f (←uR P a.toList) (←uR P b.toList))
 | .makeMap _ none=>al (some .mkMap)
 | .makeSlice t l c=>al do let (e,i) ←jG P t;some (.mkSlice e i.size i.bytes (←gV P e i) (←dS P l) (←dS P c))
 | .slice t x lo hi mx=>bif mx.isSome && hi.isNone then none else
  match P.underlying t with
  | some .string=>q do some (.slc .str (←dS P x) (←jF P lo) (←jF P hi) (←jF P mx))
  | some (.slice e)=>q do let i ←P.info? e;some (.slc (.slice i.size) (←dS P x) (←jF P lo) (←jF P hi) (←jF P mx))
  | some (.array n e)=>q do let i ←P.info? e;some (.slc (.arr n i.size) (←dS P x) (←jF P lo) (←jF P hi) (←jF P mx))
  | _=>none
 | .fieldAddr t x f=>match P.underlying t with
  | some (.struct fs)=>q do
   let f ←fs[f]?
   let i ←P.info? f.type
   if i.size=0 then none
   some (.faddr f.offset (←dS P x))
  | _=>none
 | .field t x f=>match P.underlying t with
  | some (.struct fs)=>q do
   let f ←fs[f]?
   let (agg,n) ←yK P f.type
   some (.fld agg f.offset n (←dS P x))
  | _=>none
 | .indexAddr t x ix=>match P.underlying t with
  | some (.slice e)=>q do let i ←P.info? e;some (.iaddr (.slice i.size) (←dS P x) (←dS P ix))
  | some (.array n e)=>q do let i ←P.info? e;some (.iaddr (.arr n i.size) (←dS P x) (←dS P ix))
  | _=>none
 | .index t x ix=>match P.underlying t with
  | some .string=>q do some (.idxStr (←dS P x) (←dS P ix))
  | some (.array n e)=>q do let (agg,s) ←yK P e;some (.idxArr agg n s (←dS P x) (←dS P ix))
  | _=>none
 | .lookup t m k ok=>match P.underlying t with
  | some (.map kt et)=>q do some (.lookup (←aAx P kt) (←aB0 P et) ok (←dS P m) (←dS P k))
  | _=>none
 | .mapUpdate t m k v | .insert t m k v=>match P.underlying t with
  | some (.map kt _)=>xx do some (.mapUpd (←aAx P kt) (←dS P m) (←dS P k) (←dS P v))
  | _=>none
 | .typeAssert x _ t ok=>match P.underlying t with
  | some (.interface _)=>none
  | some _=>q do some (.tassert t (←aB0 P t) ok (←dS P x))
  | none=>none
 | .extract x i=>q do some (.extract (←dS P x) i)
 | .call {callee:=.value f,args,.. }=>match aHc P f with
  | some k=>xx do some (.ext k (←uR P args.toList))
  | none=>xx do some (.call (←dS P f) (←uR P args.toList))
 | .call {callee:=.invoke r name,args,.. }=>xx do some (.inv (eX P name P.types.toList 0) (←dS P r) (←uR P args.toList))
 | .call {callee:=.builtin b,args,argTypes}=>
  match b,args.toList,argTypes.toList with
  | .len,[x],[t]=>match P.underlying t with
   | some .string=>q do some (.lenStr (←dS P x))
   | some (.slice _)=>q do some (.lenSl (←dS P x))
   | some (.array n _)=>q (some (.lenArr n))
   | some (.map _ _)=>q do some (.lenMap (←dS P x))
   | _=>none
  | .cap,[x],[t]=>match P.underlying t with
   | some (.slice _)=>q do some (.capSl (←dS P x))
   | _=>none
  | .max,xs,_=>q do some (.minmax true (←uR P xs))
  | .min,xs,_=>q do some (.minmax false (←uR P xs))
  | .append,[s,x],[t,u]=>match jG P t with
   | some (e,i)=>bif aLe P u i && (gV P e i).isSome then xx do some (.app e i.size i.bytes (←dS P s) (←dS P x)) else none
   | none=>none
  | .clear,[x],[t]=>match jG P t with
   | some (e,i)=>xx do some (.clr (←gV P e i) (←dS P x))
   | none=>none
  | b,as,ts=>aJ3 P b as ts
 | _=>none
def zT(ops:Array Oper):Option (Nat×Bool)→Option (Option (Nat×Bool))
 | none=>some none
 | some (j,w)=>match (ops[j]?).bind (·.dst) with
  | some d=>some (some (d,w))
  | none=>none
def vN(nt:Nat):Option Tmp→Bool
 | some d=>Nat.blt d nt
 | none=>true
def aHd(nt:Nat)(ops:Array Oper)(o:Oper)(mask:Nat):Option AO:=
 bif vN nt o.dst then
  match zT ops o.guard with
  | some g=>match mT P o.op with
   | some op=>some ⟨o.dst,op,g,mask⟩
   | none=>some ⟨o.dst,.x .bad,g,mask⟩
  | none=>none
 else none
def rW(nt:Nat)(ops:Array Oper):List Oper→List Nat→Option (List AO)
 | [],_=>some []
 | o::os,ms=>match aHd P nt ops o (ms.headD 0),rW nt ops os ms.tail with
  | some a,some as=>some (a::as)
  | _,_=>none
def cC.rd(x:cC):List Nat:=
 match x with
 | .t i=>[i]
 | .c _=>[]
def rds:List cC→List Nat
 | []=>[]
 | x::xs=>x.rd++rds xs
def rdo(x:Option cC):List Nat:=
 match x with
 | some x=>x.rd
 | none=>[]
def rdp:List (Nat×Nat×cC)→List Nat
 | []=>[]
 | (_,_,x)::ps=>x.rd++rdp ps
def aMv:List (Nat×cC)→List Nat
 | []=>[]
 | (_,x)::ps=>x.rd++aMv ps
def xO.rd(o:xO):List Nat:=
 match o with
 | .mv x | .ld _ _ x | .nilchk x | .un _ x | .conv _ x | .mkIface _ x | .faddr _ x | .fld _ _ _ x | .tassert _ _ _ x | .extract x _ | .lenStr x | .lenSl x | .lenMap x | .capSl x | .mkMeth _ _ x=>x.rd
 | .pick c a b=>c.rd++(a.rd++b.rd)
 | .build _ ps=>rdp ps
 | .bin _ _ x y | .iaddr _ x y | .idxArr _ _ _ x y | .idxStr x y | .lookup _ _ _ x y=>x.rd++y.rd
 | .mkFunc _ a b=>rds a++rds b
 | .slc _ x lo hi mx=>x.rd++(rdo lo++(rdo hi++rdo mx))
 | .lenArr _=>[]
 | .minmax _ xs=>rds xs
def uG.rd(o:uG):List Nat:=
 match o with
 | .alloc _ _ | .mkMap=>[]
 | .box _ x | .strBytes _ x=>x.rd
 | .bslice _ _ _ _ ps=>aMv ps
 | .mkSlice _ _ _ _ l c=>l.rd++c.rd
def XOp.rd(o:XOp):List Nat:=
 match o with
 | .st _ x v=>x.rd++v.rd
 | .call f args | .inv _ f args=>f.rd++rds args
 | .app _ _ _ s x | .copy _ s x | .mapDel _ s x=>s.rd++x.rd
 | .mapUpd _ m k v=>m.rd++(k.rd++v.rd)
 | .clr _ x=>x.rd
 | .ext _ args=>rds args
 | .bad=>[]
def AOp.rd(o:AOp):List Nat:=
 match o with
 | .q o=>o.rd
 | .a o=>o.rd
 | .x o=>o.rd
def AO.touch(o:AO):List Nat:=o.dst.toList++((o.grd.map (·.1)).toList++o.op.rd)
def inL(t:Nat):List Nat→Bool
 | []=>false
 | u::l=>bif Nat.beq t u then true else inL t l
def meets(d:Option Nat)(b:List Nat):Bool:=
 match d with
 | some d=>inL d b
 | none=>false
def aDx(i:Nat)(d:Option Nat)(tch:List Nat):List AO→Bool
 | []=>true
 | b::l=>(bif meets d b.touch || meets b.dst tch then Nat.testBit b.mask i else true) && aDx i d tch l
def aHh:Nat→List AO→Bool
 | _,[]=>true
 | i,a::l=>aDx i a.dst a.touch l && aHh (i+1) l
def aM6(l:List AO):Bool:=aHh 0 l
def aBh:Nat→List Oper→Bool
 | _,[]=>true
 | i,o::l=>o.after.all (fun e=> !Region.binds .any e || Nat.blt e.on i) && aBh (i+1) l
def aEk(nt:Nat)(ops:Array Oper):Option AC:=
 match rW P nt ops ops.toList (CheckFast.beforeL ops.toList 0 []) with
 | some aos=>bif aBh 0 ops.toList && aM6 aos then some (.drw aos) else none
 | none=>none
def iS(nt:Nat):Code→Option AC
 | .skip=>some .skip
 | .seq a b=>match iS nt a,iS nt b with
  | some a,some b=>some (.seq a b)
  | _,_=>none
 | .cond c a b=>match dS P c,iS nt a,iS nt b with
  | some c,some a,some b=>some (.cond c a b)
  | _,_,_=>none
 | .block id c=>(iS nt c).map (.block id)
 | .loop c=>(iS nt c).map .loop
 | .exit id=>some (.exit id)
 | .ret=>some .ret
 | .region _ ops d=>bif d then aEk P nt ops else(rW P nt ops ops.toList []).map .reg
 | .rangeFunc f ps as bd=>bif ps.toList.all (fun p=>Nat.blt p nt) then match dS P f,iS nt as,iS nt bd with
  | some f,some as,some bd=>some (.rng f ps.toList as bd)
  | _,_,_=>none
  else none
 | _=>none
def aFb:List ResultVar→Option (List RV)
 | []=>some []
 | .tmp t::rs=>(aFb rs).map (.t t:: ·)
 | .cell a t::rs=>match yK P t,aFb rs with
  | some (agg,n),some rs=>some (.cell a agg n::rs)
  | _,_=>none
def cFn(fn:Func):Option cR:=
 bif fn.name== "runtime.NumGoroutine" then none else
 match fn.body with
 | some c=>match iS P fn.ntmps c,aFb P fn.results.toList with
  | some c,some rs=>some ⟨fn.ntmps,rs,c⟩
  | _,_=>none
 | none=>none
end
end Go.Ev
