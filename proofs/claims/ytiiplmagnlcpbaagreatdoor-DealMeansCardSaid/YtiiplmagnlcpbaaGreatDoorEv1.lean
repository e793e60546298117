import GoSem.Dispatch
import Derived.CheckFast
set_option linter.unusedSimpArgs false
set_option linter.unusedVariables false
namespace Go.Ev
theorem az.{u}{A:Type u}{P:A->Prop}{a:A}{l:List A}(h:P a)(t:∀x∈l,P x):∀x∈a::l,P x:=List.forall_mem_cons.2 ⟨h,t⟩
end Go.Ev
namespace Go.Ev
theorem au{p:Prop}(h:p:=by omega):p:=h
theorem aw{p q:Prop}(a:q)(h:q->p:=by intro a;omega):p:=h a
theorem ay{p:Prop}(h:p:=by decide):p:=h
end Go.Ev
namespace Go.Ev
abbrev Aa:=@decide_eq_false
abbrev Ab.{u}:=@List.forall_mem_cons.{u}
abbrev Ac:=@decide_eq_true
abbrev Ad.{u}:=@List.getElem?_eq_getElem.{u}
abbrev Ae.{u}:=@List.getD_eq_getElem?_getD.{u}
abbrev Af:=@Nat.le_refl
abbrev Ag:=@Nat.lt_of_lt_of_le
abbrev Ah:=@Nat.ble_eq_true_of_le
abbrev Ai.{u}:=@List.getElem?_eq_some_iff.{u}
abbrev Aj.{u}:=@List.length_append.{u}
abbrev Ak:=@Int.ofNat_eq_natCast
abbrev Al.{u}:=@Option.some.injEq.{u}
abbrev Am:=@not_false_eq_true
abbrev An:=@Nat.eq_zero_or_pos
abbrev Ao:=@Nat.zero_add
abbrev Ap.{u}:=@List.getElem?_append_left.{u}
abbrev Aq.{u}:=@List.getElem?_append_right.{u}
abbrev Ar:=@Nat.mul_le_mul_right
abbrev Au:=@Nat.le_of_ble_eq_true
abbrev Av.{u}:=@List.length_cons.{u}
abbrev Aw:=@Bool.false_eq_true
abbrev Ax.{u,v}:=@Option.map_eq_some_iff.{u,v}
abbrev Ay.{u}:=@List.take_of_length_le.{u}
abbrev Az:=@Nat.beq_eq
abbrev Ba.{u}:=@Bool.cond_eq_ite.{u}
abbrev Bb:=@Nat.le_trans
abbrev Bc.{u}:=@List.length_singleton.{u}
abbrev Bd:=@Int.toNat_natCast
abbrev Be.{u}:=@List.append_assoc.{u}
abbrev Bf.{u}:=@List.mem_cons_of_mem.{u}
abbrev Bg.{u}:=@Array.getD_eq_getD_getElem?.{u}
abbrev Bh:=@Nat.mul_le_mul_left
abbrev Bi:=@Nat.mul_comm
abbrev Bj:=@Nat.lt_or_ge
abbrev Bk:=@Int.natCast_mul
abbrev Bl:=@Nat.mul_assoc
abbrev Bm:=@Nat.add_zero
abbrev Bn.{u}:=@List.mem_cons_self.{u}
abbrev Bo.{u}:=@List.getElem?_eq_none.{u}
abbrev Bp.{u}:=@List.length_replicate.{u}
abbrev Bq.{u}:=@List.length_take.{u}
abbrev Br.{u}:=@List.mem_cons.{u}
abbrev Bs.{u}:=@List.mem_append.{u}
abbrev Bt:=@Nat.mul_one
abbrev Bu:=@Int.toNat_of_nonneg
abbrev Bw.{u}:=@List.drop_eq_getElem_cons.{u}
abbrev Bx.{u}:=@if_false.{u}
abbrev Bz.{u,v}:=@List.getElem?_map.{u,v}
abbrev Ca:=@Bool.eq_false_iff
abbrev Cb.{u}:=@List.append_nil.{u}
abbrev Cd.{u}:=@Option.some.inj.{u}
abbrev Ce.{u,v}:=@List.length_map.{u,v}
abbrev Cf.{u}:=@List.length_eq_zero_iff.{u}
abbrev Cg:=@Nat.lt_of_le_of_lt
abbrev Ch:=@Nat.add_mul
abbrev Ci:=@Nat.pow_le_pow_right
abbrev Cj:=@Int.mul_le_mul_of_nonneg_left
abbrev Ck.{u}:=@List.nil_append.{u}
abbrev Cl.{u}:=@List.length_set.{u}
abbrev Cm.{u}:=@List.mem_of_getElem?.{u}
abbrev Cn:=@Nat.mul_add
abbrev Co.{u}:=@List.length_nil.{u}
abbrev Cp:=@Int.natCast_dvd_natCast
abbrev Cq.{u}:=@if_true.{u}
abbrev Cr:=@not_true_eq_false
abbrev Ct:=@Bool.and_eq_true
abbrev Cu.{u}:=@List.cons_append.{u}
abbrev Cv.{u}:=@List.getElem_mem.{u}
abbrev Cw:=@Nat.gcd_dvd_left
abbrev Cx:=@Nat.add_assoc
abbrev Cy:=@Nat.pow_succ
abbrev Cz:=@Int.mul_nonneg
abbrev Da.{u}:=@Array.getElem?_toList.{u}
abbrev Db:=@Nat.eq_of_beq_eq_true
abbrev Dc:=@Nat.not_lt_zero
abbrev Dd:=@Bool.eq_iff_iff
abbrev De.{u}:=@List.length_eq_one_iff.{u}
abbrev Dg:=@Int.dvd_mul_of_dvd_right
abbrev Dh.{u}:=@List.take_add_one.{u}
abbrev Di:=@Nat.div_le_self
abbrev Dj:=@Nat.mod_lt
abbrev Dk:=@Nat.div_mul_cancel
abbrev Dl.{u}:=@List.take_append_drop.{u}
abbrev Dm:=@Nat.min_eq_left
abbrev Dn.{u}:=@List.drop_zero.{u}
abbrev Dp.{u}:=@List.drop_of_length_le.{u}
abbrev Dq:=@Nat.gcd_pos_of_pos_right
abbrev Dr.{u}:=@List.mem_append_right.{u}
abbrev Dt:=@Nat.zero_le
abbrev Du.{u,v}:=@Option.bind_eq_some_iff.{u,v}
abbrev Dw:=@Nat.mul_le_mul
abbrev Dx:=@Nat.gcd_pos_of_pos_left
abbrev Dy.{u}:=@Ne.symm.{u}
abbrev Dz.{u}:=@List.reverse_cons.{u}
abbrev Ea.{u}:=@List.sum_cons.{u}
abbrev Eb:=@Nat.gcd_comm
abbrev Ec:=@Nat.mod_eq_of_lt
abbrev Ed:=@Nat.div_lt_iff_lt_mul
abbrev Ee.{u}:=@List.singleton_append.{u}
abbrev Ef:=@Nat.sub_self
abbrev Eg:=@Nat.gcd_dvd_right
abbrev Eh:=@Nat.mul_div_cancel_left
abbrev Ei.{u}:=@List.mem_append_left.{u}
abbrev Ej.{u}:=@List.mem_of_mem_drop.{u}
abbrev Ek.{u}:=@List.mem_of_mem_take.{u}
abbrev El:=@Nat.div_add_mod
abbrev Em.{u,v}:=@Array.toList_map.{u,v}
abbrev En:=@Nat.le_add_right
abbrev Eo.{u}:=@Array.length_toList.{u}
abbrev Ep.{u}:=@List.length_pos_iff.{u}
abbrev Eq:=@List.length_range
abbrev Er:=@Nat.add_sub_cancel
abbrev Es.{u}:=@List.mem_singleton.{u}
abbrev Et.{u}:=@List.all_eq_true.{u}
abbrev Eu:=@Int.eq_ofNat_of_zero_le
abbrev Ew:=@Nat.mul_pos
abbrev Ex:=@Nat.coprime_div_gcd_div_gcd
abbrev Ey:=@Nat.mul_lt_mul_of_pos_right
abbrev Ez.{u}:=@List.set_eq_take_append_cons_drop.{u}
abbrev Fa.{u,v}:=@List.map_cons.{u,v}
abbrev Fb:=@of_decide_eq_true
abbrev Fc.{u}:=@Array.getElem?_eq_some_iff.{u}
abbrev Fd:=@Rat.mkRat_self
abbrev Fe.{u,v,w}:=@Array.mapM_eq_mapM_toList.{u,v,w}
abbrev Ff.{u}:=@Array.getElem?_eq_getElem.{u}
abbrev Fg.{u}:=@List.pairwise_iff_getElem.{u}
abbrev Fi.{u}:=@List.getElem?_drop.{u}
abbrev Fj:=@Nat.lt_succ_self
abbrev Fk.{u}:=@List.take_length.{u}
abbrev Fm:=@Nat.div_dvd_of_dvd
abbrev Fp.{u}:=@List.length_drop.{u}
abbrev Fq:=@decide_eq_decide
abbrev Ft.{u}:=@List.getElem?_take_of_lt.{u}
abbrev Fu:=@Nat.zero_mul
abbrev Fv:=@Nat.add_comm
abbrev Fx:=@Nat.pow_pos
abbrev Fy.{u}:=@List.getElem?_cons_succ.{u}
abbrev Fz.{u}:=@List.getElem?_replicate.{u}
abbrev Ga.{u}:=@Array.ext'.{u}
abbrev Gb.{u}:=@List.dropLast_concat_getLast.{u}
abbrev Gc:=@Nat.Coprime.coprime_dvd_left
abbrev Gd.{u,v}:=@List.map_congr_left.{u,v}
abbrev Ge:=@List.getElem?_range
abbrev Gf.{u}:=@List.take_succ_cons.{u}
abbrev Gg:=@Nat.succ_mul
abbrev Gh:=@Nat.dvd_trans
abbrev Gi:=@Nat.le_max_right
abbrev Gj:=@Int.natCast_nonneg
abbrev Gk:=@Nat.lt_of_mul_lt_mul_right
abbrev Gm:=@Nat.add_mul_mod_self_right
abbrev Gn:=@Int.natAbs_natCast
abbrev Gp:=@decide_eq_true_iff
abbrev Gq.{u,v}:=@Option.map_some.{u,v}
abbrev Gr:=@Bool.or_eq_true
abbrev Gs:=@Nat.le_max_left
abbrev Gt:=@Nat.gcd_le_left
abbrev Gu:=@Nat.sub_zero
abbrev Gv:=@Nat.lt_trichotomy
abbrev Gw.{u}:=@List.getElem?_append.{u}
abbrev Gx:=@Nat.ble_eq
abbrev Gy.{u}:=@Array.getElem?_push.{u}
abbrev Gz:=@Int.natAbs_mul
abbrev Ha.{u}:=@List.take_zero.{u}
abbrev Hb:=@Nat.div_one
abbrev Hc:=@Int.add_mul
abbrev Hd:=@Nat.div_pos
abbrev He.{u,v}:=@List.mem_map.{u,v}
abbrev Hf:=@Nat.gcd_zero_right
abbrev Hg:=@Nat.mul_ne_zero
abbrev Hh.{u}:=@List.set_append.{u}
abbrev Hj:=@Nat.le_of_dvd
abbrev Hk:=@Decidable.not_not
abbrev Hl:=@Nat.pow_add
abbrev Hm:=@Int.mul_add
abbrev Hn.{u,v}:=@congrArg.{u,v}
noncomputable section
inductive T(α:Type) where
 | e:T α
 | n (l:T α) (v:Option α) (r:T α):T α
def bO{α:Sort _}(c:Bool)(a b:α):α:=Bool.rec b a c
def aU{α β:Type}(x:Option α)(f:α->Option β):Option β:=Option.rec none f x
namespace T
variable {α:Type}
def get(t:T α):Nat->Option α:=
 T.rec (motive:=fun _=>Nat->Option α) (fun _=>none)
  (fun _ v _ gl gr k=>bO (Nat.beq k 0) v (bO (Nat.beq (Nat.mod k 2) 1) (gl (Nat.div k 2)) (gr (Nat.sub (Nat.div k 2) 1)))) t
def single(f:Nat):Nat->Option α->T α:=
 Nat.rec (motive:=fun _=>Nat->Option α->T α) (fun _ _=>.e)
  (fun _ ih k x=>bO (Nat.beq k 0) (.n .e x .e) (bO (Nat.beq (Nat.mod k 2) 1) (.n (ih (Nat.div k 2) x) none .e) (.n .e none (ih (Nat.sub (Nat.div k 2) 1) x)))) f
def set(t:T α):Nat->Option α->T α:=
 T.rec (motive:=fun _=>Nat->Option α->T α) (fun k x=>single (Nat.succ k) k x)
  (fun l v r sl sr k x=>bO (Nat.beq k 0) (.n l x r) (bO (Nat.beq (Nat.mod k 2) 1) (.n (sl (Nat.div k 2) x) v r) (.n l v (sr (Nat.sub (Nat.div k 2) 1) x)))) t
end T
inductive AV where
 | bool (b:Bool)
 | int (k:IntKind) (n:Int)
 | str (s:List Nat)
 | ptr (b off:Nat)
 | nilp
 | sl (b off len cap:Nat) (o:Bool)
 | ce
 | emp        -- an empty slice,not nil,of unknown place and capacity
 | map (b:Nat)
 | nilmap
 | fn (f:Nat) (first captured:List AV)
 | nilfn
 | yld (b:Nat)
 | iface (t:Nat) (v:AV)
 | niliface
 | mth (name:String) (tbl:List (Nat×Nat×Option (Bool×Nat))) (v:AV)     -- a method of an interface value,bound
 | agg (cs:List AV)
 | tup (vs:List AV)
 deriving Inhabited
abbrev bm:=List Int
abbrev bo:=List AV
abbrev bt:=List Nat
def AV.cells(v:AV):Option (bo):=
 match v with
 | .agg cs=>some cs
 | .tup _=>none
 | v=>some [v]
def AV.undef:AV:=.tup []
inductive cP where
 | t (i:Nat)
 | c (v:AV)
 deriving Inhabited
inductive EqP where
 | bool | int | str | ptr | slice | map | func | iface | no
 deriving Inhabited,DecidableEq
inductive qM where
 | p (e:EqP)
 | struct (fs:List (Nat×EqP))
 deriving Inhabited
inductive aHD where
 | int (k:IntKind)
 | same
 | bytesToStr
 | intToStr
 deriving Inhabited
inductive SlK where
 | str
 | slice (size:Nat)
 | arr (n size:Nat)
 deriving Inhabited
inductive IxK where
 | arr (n size:Nat)
 | slice (size:Nat)
 deriving Inhabited
inductive QOp where
 | mv (x:cP)
 | pick (c a b:cP)
 | build (zero:bo) (parts:List (Nat×Nat×cP))
 | ld (agg:Bool) (n:Nat) (x:cP)
 | cl (x:cP)
 | bin (op:BinOp) (e:qM) (x y:cP)
 | un (op:UnOp) (x:cP)
 | conv (k:aHD) (x:cP)
 | mkIface (t:Nat) (x:cP)
 | mkFunc (f:Nat) (first captured:List cP)
 | slc (k:SlK) (x:cP) (lo hi mx:Option cP)
 | cw (off:Nat) (x:cP)
 | fld (agg:Bool) (off n:Nat) (x:cP)
 | cq (k:IxK) (x ix:cP)
 | idxArr (agg:Bool) (n size:Nat) (x ix:cP)
 | idxStr (x ix:cP)
 | lookup (e:qM) (zero:AV) (commaOk:Bool) (m key:cP)
 | tassert (t:Nat) (zero:AV) (commaOk:Bool) (x:cP)
 | extract (x:cP) (i:Nat)
 | lenArr (n:Nat)
 | lenStr (x:cP)
 | ct (x:cP)
 | lenMap (x:cP)
 | capSl (x:cP)
 | dj (isMax:Bool) (xs:List cP)
 | mkMeth (name:String) (tbl:List (Nat×Nat×Option (Bool×Nat))) (x:cP)
 deriving Inhabited
inductive wS where
 | alloc (t:Nat) (cells:bo)
 | box (t:Nat) (x:cP)
 | cm (t size len:Nat) (zero:bo) (parts:List (Nat×cP))
 | df (t size bytes:Nat) (zero:bo) (l c:cP)
 | mkMap
 | strBytes (t:Nat) (x:cP)
 deriving Inhabited
inductive aJw where
 | add64 | idxByte | idxStr
 deriving Inhabited
inductive XOp where
 | st (n:Nat) (x v:cP)
 | call (f:cP) (args:List cP)
 | inv (tbl:List (Nat×Nat×Option (Bool×Nat))) (recv:cP) (args:List cP)
 | app (t size bytes:Nat) (s x:cP)
 | copy (size:Nat) (d s:cP)
 | mapUpd (e:qM) (m k v:cP)
 | mapDel (e:qM) (m k:cP)
 | clr (zero:bo) (x:cP)
 | ext (k:aJw) (args:List cP)
 | bad
 deriving Inhabited
inductive AOp where
 | q (o:QOp)
 | a (o:wS)
 | x (o:XOp)
 deriving Inhabited
structure AO where
 dst:Option Nat
 op:AOp
 grd:Option (Nat×Bool)
 mask:Nat      -- the operations before it (drawn regions)
 deriving Inhabited
inductive AC where
 | skip
 | seq (a b:AC)
 | cond (c:cP) (a b:AC)
 | block (id:Nat) (c:AC)
 | loop (c:AC)
 | exit (id:Nat)
 | ret
 | reg (ops:List AO)
 | drw (ops:List AO)
 | rng (f:cP) (params:bt) (assign body:AC)
 | dfr (ops:List AO) (f:cP) (args:List cP)
 deriving Inhabited
inductive RV where
 | t (i:Nat)
 | cell (a:Nat) (agg:Bool) (n:Nat)
 deriving Inhabited
structure dD where
 ntmps:Nat
 res:List RV
 body:AC
 deriving Inhabited
abbrev Fr:=T AV
inductive LSt where
 | ready | busy | done | exhausted
 deriving DecidableEq,Inhabited
inductive Out where
 | normal
 | exit (id:Nat)
 | ret
 deriving Inhabited
inductive AB where
 | cells (cs:bo) (opn:Bool) (size:Nat)     -- opn:there may be more room behind;size:the cells of an element then
 | ro (cs:bo)
 | map (es:List (AV×AV))
 | loop (st:LSt) (pend:Option Out) (fr:Fr) (params:bt) (assign body:AC)
 | dfd
 deriving Inhabited
structure St where
 h:T AB
 nx:Nat
def aB(i:Nat)(F:Fr):AV:=Option.rec (motive:=fun _=>AV) .undef (fun v=>v) (F.get i)
def aQW(v:AV)(_:Fr):AV:=v
def cP.val(x:cP):Fr->AV:=cP.rec (motive:=fun _=>Fr->AV) aB aQW x
def dE(l:List cP):Fr->bo:=List.rec (motive:=fun _=>Fr->bo) (fun _=>[]) (fun x _ ih F=>x.val F::ih F) l
def nth{α:Type}(l:List α):Nat->Option α:=List.rec (motive:=fun _=>Nat->Option α) (fun _=>none) (fun x _ ih k=>bO (Nat.beq k 0) (some x) (ih (Nat.sub k 1))) l
def aIr{α:Type}(l:List α):Nat->List α:=List.rec (motive:=fun _=>Nat->List α) (fun _=>[]) (fun x xs ih k=>bO (Nat.beq k 0) (x::xs) (ih (Nat.sub k 1))) l
def aIl{α:Type}(l:List α):Nat->Option (List α):=
 List.rec (motive:=fun _=>Nat->Option (List α)) (fun n=>bO (Nat.beq n 0) (some []) none)
  (fun x _ ih n=>bO (Nat.beq n 0) (some []) (aU (ih (Nat.sub n 1)) fun r=>some (x::r))) l
def aEe{α:Type}(vs:List α):List α->Option (List α):=
 List.rec (motive:=fun _=>List α->Option (List α)) (fun l=>some l)
  (fun v _ ih l=>List.rec (motive:=fun _=>Option (List α)) none (fun _ xs _=>aU (ih xs) fun r=>some (v::r)) l) vs
def put{α:Type}(l:List α):Nat->List α->Option (List α):=
 List.rec (motive:=fun _=>Nat->List α->Option (List α)) (fun k vs=>bO (Nat.beq k 0) (aEe vs []) none)
  (fun x xs ih k vs=>bO (Nat.beq k 0) (aEe vs (x::xs)) (aU (ih (Nat.sub k 1) vs) fun r=>some (x::r))) l
def kL{α:Type}(l:List α):Nat:=List.rec (motive:=fun _=>Nat) 0 (fun _ _ ih=>Nat.succ ih) l
def yE{α:Type}(l m:List α):List α:=List.rec (motive:=fun _=>List α) m (fun x _ ih=>x::ih) l
def repeatL{α:Type}(z:List α)(n:Nat):List α:=Nat.rec (motive:=fun _=>List α) [] (fun _ ih=>yE z ih) n
def cut{α:Type}(l:List α)(i n:Nat):Option (List α):=aIl (aIr l i) n
def pY(k:IntKind):Nat:=
 match k with
 | .i8=>127 | .i16=>32767 | .i32=>2147483647 | .i64=>9223372036854775807
 | .u8=>255 | .u16=>65535 | .u32=>4294967295 | .u64=>18446744073709551615
def nat(k:IntKind)(n:Nat):Int:=bO (Nat.ble n (pY k)) (.ofNat n) (k.wrap (.ofNat n))
def aDc(k:IntKind):Bool:=
 match k with
 | .i8 | .i16 | .i32 | .i64=>true
 | _=>false
def neg(k:IntKind)(n:Nat):Int:=bO (aDc k) (bO (Nat.ble n (pY k)) (.negSucc n) (k.wrap (.negSucc n))) (k.wrap (.negSucc n))
def yY(k:IntKind)(n:Nat):Bool:=Nat.ble n (pY k)
def aFu(k:IntKind)(n:Int):Int:=Int.rec (motive:=fun _=>Int) (fun m=>nat k m) (fun m=>neg k m) n
def aB8(k:IntKind)(a b:Nat):Int:=bO (Nat.ble b a) (nat k (Nat.sub a b)) (neg k (Nat.sub (Nat.sub b a) 1))
def aOQ(k:IntKind)(x y:Int):Int:=
 Int.rec (motive:=fun _=>Int) (fun a=>Int.rec (motive:=fun _=>Int) (fun b=>nat k (Nat.add a b)) (fun b=>aB8 k a (Nat.succ b)) y)
  (fun a=>Int.rec (motive:=fun _=>Int) (fun b=>aB8 k b (Nat.succ a)) (fun b=>neg k (Nat.succ (Nat.add a b))) y) x
def aFH(k:IntKind)(x y:Int):Int:=
 Int.rec (motive:=fun _=>Int) (fun a=>Int.rec (motive:=fun _=>Int) (fun b=>aB8 k a b) (fun b=>nat k (Nat.add a (Nat.succ b))) y)
  (fun a=>Int.rec (motive:=fun _=>Int) (fun b=>neg k (Nat.add a b)) (fun b=>aB8 k b a) y) x
def aHz(k:IntKind)(x y:Int):Int:=
 Int.rec (motive:=fun _=>Int) (fun a=>Int.rec (motive:=fun _=>Int) (fun b=>nat k (Nat.mul a b)) (fun b=>aFu k (Int.mul (.ofNat a) (.negSucc b))) y)
  (fun a=>aFu k (Int.mul (.negSucc a) y)) x
def ieq(x y:Int):Bool:=
 Int.rec (motive:=fun _=>Bool) (fun a=>Int.rec (motive:=fun _=>Bool) (fun b=>Nat.beq a b) (fun _=>false) y)
  (fun a=>Int.rec (motive:=fun _=>Bool) (fun _=>false) (fun b=>Nat.beq a b) y) x
def ile(x y:Int):Bool:=
 Int.rec (motive:=fun _=>Bool) (fun a=>Int.rec (motive:=fun _=>Bool) (fun b=>Nat.ble a b) (fun _=>false) y)
  (fun a=>Int.rec (motive:=fun _=>Bool) (fun _=>true) (fun b=>Nat.ble b a) y) x
def keq(x y:IntKind):Bool:=Nat.beq (pY x) (pY y)
def aOI(x y:Bool):Bool:=bO x y (bO y false true)
def aUb(k:IntKind)(x y:Int):Option AV:=some (.int k (aOQ k x y))
def aTJ(k:IntKind)(x y:Int):Option AV:=some (.int k (aFH k x y))
def aUa(k:IntKind)(x y:Int):Option AV:=some (.int k (aHz k x y))
def aNz(k:IntKind)(x y:Int):Option AV:=
 match x,y with
 | .ofNat a,.ofNat b=>bO (Nat.beq b 0) none (some (.int k (nat k (Nat.div a b))))
 | x,y=>bO (ieq y (.ofNat 0)) none (some (.int k (aFu k (x.tdiv y))))
def aNS(k:IntKind)(x y:Int):Option AV:=
 match x,y with
 | .ofNat a,.ofNat b=>bO (Nat.beq b 0) none (some (.int k (.ofNat (Nat.mod a b))))
 | x,y=>bO (ieq y (.ofNat 0)) none (some (.int k (x.tmod y)))
def aCt(f:Nat->Nat->Nat)(k:IntKind)(x y:Int):Option AV:=
 match x,y with
 | .ofNat a,.ofNat b=>bO (yY k a) (bO (yY k b) (some (.int k (.ofNat (f a b)))) none) none
 | _,_=>none
def aT0:=aCt Nat.land
def iOr:=aCt Nat.lor
def aTX:=aCt Nat.xor
def aT5(_:IntKind)(x y:Int):Option AV:=some (.bool (ieq x y))
def aTQ(_:IntKind)(x y:Int):Option AV:=some (.bool (bO (ieq x y) false true))
def aTU(_:IntKind)(x y:Int):Option AV:=some (.bool (bO (ile y x) false true))
def aT8(_:IntKind)(x y:Int):Option AV:=some (.bool (ile x y))
def aTF(_:IntKind)(x y:Int):Option AV:=some (.bool (bO (ile x y) false true))
def aTo(_:IntKind)(x y:Int):Option AV:=some (.bool (ile y x))
def aOf(_:IntKind)(_ _:Int):Option AV:=none
def aOd(op:BinOp):IntKind->Int->Int->Option AV:=
 BinOp.rec (motive:=fun _=>IntKind->Int->Int->Option AV) aUb aTJ aUa aNz aNS aT0 iOr aTX aOf aOf aOf aT5 aTQ aTU aT8 aTF aTo op
def wY(op:BinOp)(k:IntKind)(x:Int)(b:Nat):Option AV:=
 let n:=bO (Nat.ble b k.bits) b k.bits
 match op with
 | .shl=>some (.int k (aHz k x (.ofNat (Nat.pow 2 n))))
 | .shr=>some (.int k (x.fdiv (.ofNat (Nat.pow 2 n))))
 | _=>none
def aBv(op:BinOp)(k:IntKind)(x y:Int):Option AV:=
 match y with
 | .ofNat b=>wY op k x b
 | _=>none
def eX(op:BinOp):Bool:=BinOp.rec (motive:=fun _=>Bool) false false false false false false false false true true false false false false false false false op
def qI:bt->bt->Bool
 | _,[]=>false
 | [],_::_=>true
 | a::x,b::y=>bO (Nat.blt a b) true (bO (Nat.beq a b) (qI x y) false)
def oL:bt->bt->Bool
 | [],[]=>true
 | a::x,b::y=>bO (Nat.beq a b) (oL x y) false
 | _,_=>false
def aJx(op:BinOp)(a b:bt):Option AV:=
 match op with
 | .add=>bO (Nat.ble (kL a+kL b) 9223372036854775807) (some (.str (yE a b))) none
 | .eql=>some (.bool (oL a b))
 | .neq=>some (.bool (!oL a b))
 | .lss=>some (.bool (qI a b))
 | .leq=>some (.bool (qI a b || oL a b))
 | .gtr=>some (.bool (!(qI a b || oL a b)))
 | .geq=>some (.bool (!qI a b))
 | _=>none
def partOf(agg:Bool)(cs:bo)(off n:Nat):Option AV:=
 bO agg (aU (cut cs off n) fun r=>some (.agg r)) (nth cs off)
def eqp:EqP->AV->AV->Option Bool
 | .bool,.bool a,.bool b=>some (aOI a b)
 | .int,.int k a,.int k' b=>bO (keq k k') (some (ieq a b)) none
 | .str,.str a,.str b=>some (oL a b)
 | .ptr,.nilp,.nilp=>some true
 | .ptr,.nilp,.ptr _ _=>some false
 | .ptr,.ptr _ _,.nilp=>some false
 | .slice,.ce,.ce=>some true
 | .slice,.ce,.sl .. =>some false
 | .slice,.sl ..,.ce=>some false
 | .slice,.ce,.emp=>some false
 | .slice,.emp,.ce=>some false
 | .map,.nilmap,.nilmap=>some true
 | .map,.nilmap,.map _=>some false
 | .map,.map _,.nilmap=>some false
 | .func,.nilfn,.nilfn=>some true
 | .func,.nilfn,.fn .. =>some false
 | .func,.fn ..,.nilfn=>some false
 | .iface,.niliface,.iface _ _=>some false
 | .iface,.iface _ _,.niliface=>some false
 | _,_,_=>none
def eqs:List (Nat×EqP)->bo->bo->Option Bool
 | [],_,_=>some true
 | (off,e)::fs,xs,ys=>
  match nth xs off,nth ys off with
  | some x,some y=>match eqp e x y with
   | some true=>eqs fs xs ys
   | some false=>some false
   | none=>none
  | _,_=>none
def eqv:qM->AV->AV->Option Bool
 | .p e,x,y=>eqp e x y
 | .struct fs,.agg xs,.agg ys=>bO (Nat.beq (kL xs) (kL fs)) (bO (Nat.beq (kL ys) (kL fs)) (eqs fs xs ys) none) none
 | _,_,_=>none
def aQI(op:BinOp)(e:qM)(x y:AV):Option AV:=
 match op with
 | .eql=>aU (eqv e x y) fun b=>some (.bool b)
 | .neq=>aU (eqv e x y) fun b=>some (.bool (bO b false true))
 | _=>none
def cU(op:BinOp)(k:IntKind)(a:Int)(k':IntKind)(b:Int):Option AV:=
 bO (eX op) (aBv op k a b) (bO (keq k k') (aOd op k a b) none)
def aGS(v:AV):Option (IntKind×Int):=
 match v with
 | .int k a=>some (k,a)
 | _=>none
def aGn(v:AV):Option (bt):=
 match v with
 | .str s=>some s
 | _=>none
def kA(op:BinOp)(e:qM)(x y:AV):Option AV:=
 match aGS x,aGS y with
 | some a,some b=>cU op a.1 a.2 b.1 b.2
 | _,_=>match aGn x,aGn y with
  | some a,some b=>aJx op a b
  | _,_=>aQI op e x y
def unV(op:UnOp)(x:AV):Option AV:=
 match op,x with
 | .neg,.int k n=>some (.int k (aFH k (.ofNat 0) n))
 | .not,.bool b=>some (.bool (bO b false true))
 | _,_=>none
def dN(b:AB):Option (bo):=
 match b with
 | .cells cs _ _=>some cs
 | .ro cs=>some cs
 | _=>none
def cA(h:T AB)(b:Nat):Option (bo):=aU (h.get b) dN
def oM(h:T AB)(b off n:Nat):Option (bo):=aU (cA h b) fun cs=>cut cs off n
def jQ(h:T AB)(b off:Nat):Option AV:=aU (cA h b) fun cs=>nth cs off
def iQ(agg:Bool)(n:Nat)(h:T AB)(b off:Nat):Option AV:=
 bO agg (aU (oM h b off n) fun cs=>some (.agg cs)) (jQ h b off)
def eQ(zero:bo):List (Nat×Nat×AV)->Option (bo)
 | []=>some zero
 | (off,n,v)::ps=>aU v.cells fun cs=>bO (Nat.beq (kL cs) n) (aU (put zero off cs) fun z=>eQ z ps) none
def bytesOf:bo->Option (bt)
 | []=>some []
 | .int .u8 (.ofNat n)::vs=>bO (Nat.ble n 255) (aU (bytesOf vs) fun r=>some (n::r)) none
 | _::_=>none
def dS(v:AV):Option Nat:=
 match v with
 | .int _ (.ofNat n)=>some n
 | _=>none
def iU(F:Fr)(d:Nat)(x:Option cP):Option Nat:=
 match x with
 | none=>some d
 | some x=>dS (x.val F)
def tV(e:qM)(k:AV):List (AV×AV)->Nat->Option (Option (Nat×AV))
 | [],_=>some none
 | (k',v)::es,i=>aU (eqv e k k') fun b=>bO b (some (some (i,v))) (tV e k es (Nat.succ i))
def aAC(e:qM)(k:AV)(es:List (AV×AV)):Option (Option (Nat×AV)):=aU (eqv e k k) fun _=>tV e k es 0
def zU(b:AB):Option (List (AV×AV)):=
 match b with
 | .map es=>some es
 | _=>none
def tX(h:T AB)(m:AV):Option (List (AV×AV)):=
 match m with
 | .nilmap=>some []
 | .map b=>aU (h.get b) zU
 | _=>none
def mA(isMax:Bool):bo->AV->Option AV
 | [],x=>some x
 | .int k' b::vs,.int k a=>bO (keq k k')
   (mA isMax vs (.int k (bO isMax (bO (ile b a) a b) (bO (ile a b) a b)))) none
 | _,_=>none
abbrev QF:=Fr->T AB->Option AV
def qMv(x:cP):QF:=fun F _=>some (x.val F)
def yI(v:AV)(a b:cP)(F:Fr):Option AV:=
 match v with
 | .bool t=>some (bO t (a.val F) (b.val F))
 | _=>none
def aSI(c a b:cP):QF:=fun F _=>yI (c.val F) a b F
def fG(F:Fr):List (Nat×Nat×cP)->List (Nat×Nat×AV)
 | []=>[]
 | (a,b,x)::ps=>(a,b,x.val F)::fG F ps
def aQ2(zero:bo)(ps:List (Nat×Nat×cP)):QF:=fun F _=>aU (eQ zero (fG F ps)) fun cs=>some (.agg cs)
def dJ(v:AV)(agg:Bool)(n:Nat)(h:T AB):Option AV:=
 match v with
 | .ptr b off=>iQ agg n h b off
 | _=>none
def qLd(agg:Bool)(n:Nat)(x:cP):QF:=fun F h=>dJ (x.val F) agg n h
def pS{α:Type}(t:Nat):List (Nat×α)->Option α
 | []=>none
 | (u,a)::l=>bO (Nat.beq t u) (some a) (pS t l)
def aHR(n:String)(tbl:List (Nat×Nat×Option (Bool×Nat)))(v:AV):Option AV:=
 match v with
 | .iface t w=>aU (pS t tbl) fun r=>match r.2,w with
  | none,_=>some (.mth n tbl v)
  | some _,.ptr _ _=>some (.mth n tbl v)
  | _,_=>none
 | _=>none
def sP(v:AV):Option AV:=
 match v with
 | .ptr b o=>some (.ptr b o)
 | .fn f a b=>some (.fn f a b)
 | .iface t v=>some (.iface t v)
 | .yld b=>some (.yld b)
 | .mth n tbl v=>aHR n tbl v
 | _=>none
def aP7(x:cP):QF:=fun F _=>sP (x.val F)
def aTl(op:BinOp)(e:qM)(x y:cP):QF:=fun F _=>kA op e (x.val F) (y.val F)
def qUn(op:UnOp)(x:cP):QF:=fun F _=>unV op (x.val F)
def aEg(h:T AB)(b off len:Nat):Option AV:=aU (oM h b off len) fun cs=>aU (bytesOf cs) fun s=>some (.str s)
def aAZ(k:aHD)(v:AV)(h:T AB):Option AV:=
 match k,v with
 | .int k,.int _ n=>some (.int k (aFu k n))
 | .same,.str s=>some (.str s)
 | .bytesToStr,.ce=>some (.str [])
 | .bytesToStr,.emp=>some (.str [])
 | .bytesToStr,.sl b off len _ _=>aEg h b off len
 | .intToStr,.int _ (.ofNat n)=>bO (Nat.ble n 127) (some (.str [n])) none
 | _,_=>none
def aSe(k:aHD)(x:cP):QF:=fun F h=>aAZ k (x.val F) h
def aND(t:Nat)(x:cP):QF:=fun F _=>some (.iface t (x.val F))
def aPY(f:Nat)(first cap:List cP):QF:=fun F _=>some (.fn f (dE first F) (dE cap F))
def aHG(s:bt)(lo hi mx:Option cP)(F:Fr):Option AV:=
 match mx with
 | some _=>none
 | none=>aU (iU F (kL s) hi) fun h'=>aU (iU F 0 lo) fun l=>
   bO (Nat.ble h' (kL s)) (bO (Nat.ble l h') (aU (cut s l (h' - l)) fun r=>some (.str r)) none) none
def jP(len cap:Nat)(lo hi mx:Option cP)(F:Fr):Option (Nat×Nat×Nat):=
 aU (iU F cap mx) fun m=>aU (iU F len hi) fun h=>aU (iU F 0 lo) fun l=>
  bO (Nat.ble m cap) (bO (Nat.ble h m) (bO (Nat.ble l h) (some (l,h,m)) none) none) none
def aDR(size b off len cap:Nat)(o:Bool)(lo hi mx:Option cP)(F:Fr):Option AV:=
 aU (jP len cap lo hi mx F) fun x=>
  let o':=bO o mx.isNone false
  bO (Nat.beq x.2.2 x.1) (bO o' (some .emp) (some (.sl b off (x.2.1 - x.1) (x.2.2 - x.1) false)))
   (some (.sl b (off+x.1 * size) (x.2.1 - x.1) (x.2.2 - x.1) o'))
def aOJ(lo hi mx:Option cP)(F:Fr):Option AV:=aU (jP 0 0 lo hi mx F) fun _=>some .emp
def aNO(lo hi mx:Option cP)(F:Fr):Option AV:=aU (jP 0 0 lo hi mx F) fun _=>some .ce
def aNi(n size b off:Nat)(lo hi mx:Option cP)(F:Fr):Option AV:=
 aU (jP n n lo hi mx F) fun x=>
  bO (Nat.beq x.2.2 x.1) (some (.sl b off (x.2.1 - x.1) (x.2.2 - x.1) false))
   (some (.sl b (off+x.1 * size) (x.2.1 - x.1) (x.2.2 - x.1) false))
def oS(k:SlK)(v:AV)(lo hi mx:Option cP)(F:Fr):Option AV:=
 match k,v with
 | .str,.str s=>aHG s lo hi mx F
 | .slice size,.sl b off len cap o=>aDR size b off len cap o lo hi mx F
 | .slice _,.ce=>aNO lo hi mx F
 | .slice _,.emp=>aOJ lo hi mx F
 | .arr n size,.ptr b off=>aNi n size b off lo hi mx F
 | _,_=>none
def aTC(k:SlK)(x:cP)(lo hi mx:Option cP):QF:=fun F _=>oS k (x.val F) lo hi mx F
def aAh(v:AV)(off:Nat):Option AV:=
 match v with
 | .ptr b o=>some (.ptr b (o+off))
 | _=>none
def aRN(off:Nat)(x:cP):QF:=fun F _=>aAh (x.val F) off
def aLz(v:AV)(agg:Bool)(off n:Nat):Option AV:=
 match v with
 | .agg cs=>partOf agg cs off n
 | _=>none
def aTZ(agg:Bool)(off n:Nat)(x:cP):QF:=fun F _=>aLz (x.val F) agg off n
def dT(k:IxK)(v:AV)(i:Nat):Option AV:=
 match k,v with
 | .arr n size,.ptr b off=>bO (Nat.blt i n) (some (.ptr b (off+i * size))) none
 | .slice size,.sl b off len _ _=>bO (Nat.blt i len) (some (.ptr b (off+i * size))) none
 | _,_=>none
def aQ0(k:IxK)(x ix:cP):QF:=fun F _=>aU (dS (ix.val F)) fun i=>dT k (x.val F) i
def yS(v:AV)(agg:Bool)(n size i:Nat):Option AV:=
 match v with
 | .agg cs=>bO (Nat.blt i n) (partOf agg cs (i * size) size) none
 | _=>none
def aQa(agg:Bool)(n size:Nat)(x ix:cP):QF:=fun F _=>aU (dS (ix.val F)) fun i=>yS (x.val F) agg n size i
def yZ(v:AV)(i:Nat):Option AV:=
 match v with
 | .str s=>aU (nth s i) fun b=>some (.int .u8 (.ofNat b))
 | _=>none
def aQk(x ix:cP):QF:=fun F _=>aU (dS (ix.val F)) fun i=>yZ (x.val F) i
def aEH(ok:Bool)(v:AV)(b:Bool):AV:=bO ok (.tup [v,.bool b]) v
def wF(r:Option (Nat×AV))(zero:AV)(ok:Bool):Option AV:=
 match r with
 | some (_,v)=>some (aEH ok v true)
 | none=>some (aEH ok zero false)
def aPA(sk:qM)(zero:AV)(ok:Bool)(m key:cP):QF:=fun F h=>
 aU (tX h (m.val F)) fun es=>aU (aAC sk (key.val F) es) fun r=>wF r zero ok
def xZ(v:AV)(t:Nat)(zero:AV)(ok:Bool):Option AV:=
 match v with
 | .iface t' v=>bO (Nat.beq t t') (some (aEH ok v true)) (bO ok (some (.tup [zero,.bool false])) none)
 | .niliface=>bO ok (some (.tup [zero,.bool false])) none
 | _=>none
def aNx(t:Nat)(zero:AV)(ok:Bool)(x:cP):QF:=fun F _=>xZ (x.val F) t zero ok
def mW(v:AV)(i:Nat):Option AV:=
 match v with
 | .tup vs=>nth vs i
 | _=>none
def aOT(x:cP)(i:Nat):QF:=fun F _=>mW (x.val F) i
def aQr(n:Nat):QF:=fun _ _=>some (.int .i64 (.ofNat n))
def aA1(v:AV):Option AV:=
 match v with
 | .str s=>some (.int .i64 (.ofNat (kL s)))
 | _=>none
def aQs(x:cP):QF:=fun F _=>aA1 (x.val F)
def lB(v:AV):Option AV:=
 match v with
 | .ce=>some (.int .i64 (.ofNat 0))
 | .emp=>some (.int .i64 (.ofNat 0))
 | .sl _ _ n _ _=>some (.int .i64 (.ofNat n))
 | _=>none
def aRO(x:cP):QF:=fun F _=>lB (x.val F)
def aPz(x:cP):QF:=fun F h=>aU (tX h (x.val F)) fun es=>some (.int .i64 (.ofNat (kL es)))
def aDv(v:AV):Option AV:=
 match v with
 | .ce=>some (.int .i64 (.ofNat 0))
 | .sl _ _ _ c false=>some (.int .i64 (.ofNat c))
 | _=>none
def aRe(x:cP):QF:=fun F _=>aDv (x.val F)
def pI(isMax:Bool)(l:bo):Option AV:=
 match l with
 | []=>none
 | v::vs=>mA isMax vs v
def aPX(n:String)(tbl:List (Nat×Nat×Option (Bool×Nat)))(x:cP):QF:=fun F _=>some (.mth n tbl (x.val F))
def aP4(mx:Bool)(xs:List cP):QF:=fun F _=>pI mx (dE xs F)
def iT(q:QOp):QF:=
 QOp.rec (motive:=fun _=>QF) qMv aSI aQ2 qLd aP7 aTl qUn aSe aND aPY aTC aRN aTZ aQ0 aQa aQk aPA aNx aOT aQr aQs aRO aPz aRe aP4 aPX q
abbrev AF:=Fr->Nat->Option (AV×AB)
def room:Nat:=140737488355328
theorem ax{p:Prop}(h:p:=by unfold room;omega):p:=h
def aRy(_:Nat)(cells:bo):AF:=fun _ id=>some (.ptr id 0,.cells cells false 0)
def aTN(_:Nat)(x:cP):AF:=fun F id=>aU (x.val F).cells fun cs=>some (.ptr id 0,.cells cs false 0)
def lE(size:Nat)(F:Fr):List (Nat×cP)->List (Nat×Nat×AV)
 | []=>[]
 | (i,x)::ps=>(i * size,size,x.val F)::lE size F ps
def aPK(_ size len:Nat)(zero:bo)(ps:List (Nat×cP)):AF:=fun F id=>
 aU (eQ (repeatL zero len) (lE size F ps)) fun cs=>some (.sl id 0 len len false,.cells cs false 0)
def yN(_ _ bytes:Nat)(zero:bo)(l c:cP):AF:=fun F id=>
 aU (dS (l.val F)) fun l=>aU (dS (c.val F)) fun c=>
  bO (Nat.ble l c) (bO (Nat.ble c room) (bO (Nat.ble (bytes * c) room) (some (.sl id 0 l c false,.cells (repeatL zero c) false 0)) none) none) none
def aRF:AF:=fun _ id=>some (.map id,.map [])
def byteCells:bt->bo
 | []=>[]
 | b::bs=>.int .u8 (.ofNat b)::byteCells bs
def tM(v:AV)(id:Nat):Option (AV×AB):=
 match v with
 | .str s=>some (.sl id 0 (kL s) (kL s) true,.cells (byteCells s) true 1)
 | _=>none
def aMG(_:Nat)(x:cP):AF:=fun F id=>tM (x.val F) id
def tA(a:wS):AF:=wS.rec (motive:=fun _=>AF) aRy aTN aPK yN aRF aMG a
def rJ(bl:AB)(S:St)(b off:Nat)(vs:bo):Option St:=
 match bl with
 | .cells cs o s=>aU (put cs off vs) fun cs'=>some ⟨S.h.set b (some (.cells cs' o s)),S.nx⟩
 | _=>none
def mU(S:St)(b off:Nat)(vs:bo):Option St:=aU (S.h.get b) fun bl=>rJ bl S b off vs
def eU(v:AV)(h:T AB)(size n:Nat):Option (bo):=
 match v with
 | .sl b off _ _ _=>oM h b off (n * size)
 | .ce=>bO (Nat.beq n 0) (some []) none
 | .emp=>bO (Nat.beq n 0) (some []) none
 | .str s=>bO (Nat.beq size 1) (aU (aIl s n) fun r=>some (byteCells r)) none
 | _=>none
def xC(v:AV):Option Nat:=
 match v with
 | .sl _ _ n _ _=>some n
 | .ce=>some 0
 | .emp=>some 0
 | .str s=>some (kL s)
 | _=>none
def grown(h:T AB)(nx need size:Nat)(cs:bo):Option (AV×St):=
 some (.sl nx 0 need need true,⟨h.set nx (some (.cells cs true size)),Nat.succ nx⟩)
def aAR(bl:AB)(size b off len cap:Nat)(o:Bool)(n:Nat)(new:bo)(S:St):Option (AV×St):=
 match bl with
 | .cells cs o' sz=>aU (cut cs off (len * size)) fun old=>
   bO o
    (bO o' (bO (Nat.beq sz size) (bO (Nat.beq (off+cap * size) (kL cs)) (grown (S.h.set b none) S.nx (len+n) size (yE old new)) none) none) none)
    (grown S.h S.nx (len+n) size (yE old new))
 | .ro cs=>bO o none (aU (cut cs off (len * size)) fun old=>grown S.h S.nx (len+n) size (yE old new))
 | _=>none
def pT(bytes size b off len cap:Nat)(o:Bool)(n:Nat)(new:bo)(S:St):Option (AV×St):=
 bO (Nat.ble (len+n) cap)
  (bO (Nat.beq n 0) (some (.sl b off len cap o,S)) (aU (mU S b (off+len * size) new) fun S'=>some (.sl b off (len+n) cap o,S')))
  (bO (Nat.ble (len+n) room) (bO (Nat.ble ((len+n) * bytes) room) (aU (S.h.get b) fun bl=>aAR bl size b off len cap o n new S) none) none)
def pF(bytes size n:Nat)(new:bo)(S:St):Option (AV×St):=
 bO (Nat.beq n 0) (some (.ce,S))
  (bO (Nat.ble n room) (bO (Nat.ble (n * bytes) room) (grown S.h S.nx n size new) none) none)
def xG(s:AV)(bytes size n:Nat)(new:bo)(S:St):Option (AV×St):=
 match s with
 | .ce=>pF bytes size n new S
 | .emp=>bO (Nat.beq n 0) (some (.emp,S)) none
 | .sl b off len cap o=>pT bytes size b off len cap o n new S
 | _=>none
def iW(bytes size:Nat)(s x:AV)(S:St):Option (AV×St):=
 aU (xC x) fun n=>aU (eU x S.h size n) fun new=>xG s bytes size n new S
def yD{α:Type}(f:α->α):List α->Nat->List α
 | [],_=>[]
 | x::xs,k=>bO (Nat.beq k 0) (f x::xs) (x::yD f xs (k - 1))
structure bN where
 F:Fr
 inr:Bool
abbrev dR:=AV->bo->St->Option (AV×St)
abbrev XF:=dR->Fr->St->Option (AV×St)
def oT(p:AV)(n:Nat)(cs:bo)(S:St):Option (AV×St):=
 match p with
 | .ptr b off=>bO (Nat.beq (kL cs) n) (aU (mU S b off cs) fun S'=>some (.undef,S')) none
 | _=>none
def xSt(n:Nat)(x v:cP):XF:=fun _ F S=>aU (v.val F).cells fun cs=>oT (x.val F) n cs S
def aTd(f:cP)(args:List cP):XF:=fun call F S=>call (f.val F) (dE args F) S
def aCX(v:AV)(f:Nat)(agg:Bool)(n:Nat)(args:bo)(call:dR)(S:St):Option (AV×St):=
 match v with
 | .ptr b off=>aU (iQ agg n S.h b off) fun r=>call (.fn f [r] []) args S
 | _=>none
def aGI(r:Nat×Option (Bool×Nat))(v:AV)(args:bo)(call:dR)(S:St):Option (AV×St):=
 match r with
 | (f,none)=>call (.fn f [v] []) args S
 | (f,some (agg,n))=>aCX v f agg n args call S
def aDX(v:AV)(tbl:List (Nat×Nat×Option (Bool×Nat)))(args:bo)(call:dR)(S:St):Option (AV×St):=
 match v with
 | .iface t v=>aU (pS t tbl) fun r=>aGI r v args call S
 | _=>none
def aTm(tbl:List (Nat×Nat×Option (Bool×Nat)))(recv:cP)(args:List cP):XF:=fun call F S=>aDX (recv.val F) tbl (dE args F) call S
def aTW(_ size bytes:Nat)(s x:cP):XF:=fun _ F S=>iW bytes size (s.val F) (x.val F) S
def copyV(d:AV)(size m:Nat)(s:AV)(S:St):Option (AV×St):=
 match d with
 | .ce=>some (.int .i64 (.ofNat 0),S)
 | .emp=>some (.int .i64 (.ofNat 0),S)
 | .sl b off len _ _=>
  let n:=bO (Nat.ble m len) m len
  bO (Nat.beq n 0) (some (.int .i64 (.ofNat 0),S)) (aU (eU s S.h size n) fun cs=>aU (mU S b off cs) fun S'=>some (.int .i64 (.ofNat n),S'))
 | _=>none
def aAz(v:AV):Option Nat:=
 match v with
 | .sl _ _ n _ _=>some n
 | .ce=>some 0
 | .emp=>some 0
 | _=>none
def aSK(size:Nat)(d s:cP):XF:=fun _ F S=>aU (aAz (s.val F)) fun m=>copyV (d.val F) size m (s.val F) S
def aDd(r:Option (Nat×AV))(es:List (AV×AV))(k v:AV):List (AV×AV):=
 match r with
 | some (i,_)=>yD (fun _=>(k,v)) es i
 | none=>yE es [(k,v)]
def vQ(m:AV)(sk:qM)(k v:AV)(S:St):Option (AV×St):=
 match m with
 | .map b=>aU (aU (S.h.get b) zU) fun es=>aU (aAC sk k es) fun r=>some (.undef,⟨S.h.set b (some (.map (aDd r es k v))),S.nx⟩)
 | _=>none
def aQb(sk:qM)(m k v:cP):XF:=fun _ F S=>vQ (m.val F) sk (k.val F) (v.val F) S
def aK3(r:Option (Nat×AV))(es:List (AV×AV))(b:Nat)(S:St):Option (AV×St):=
 match r with
 | some (i,_)=>some (.undef,⟨S.h.set b (some (.map (es.eraseIdx i))),S.nx⟩)
 | none=>some (.undef,S)
def aBD(m:AV)(sk:qM)(k:AV)(S:St):Option (AV×St):=
 match m with
 | .map b=>aU (aU (S.h.get b) zU) fun es=>aU (aAC sk k es) fun r=>aK3 r es b S
 | .nilmap=>some (.undef,S)
 | _=>none
def aPD(sk:qM)(m k:cP):XF:=fun _ F S=>aBD (m.val F) sk (k.val F) S
def aI9(x:AV)(zero:bo)(S:St):Option (AV×St):=
 match x with
 | .ce=>some (.undef,S)
 | .emp=>some (.undef,S)
 | .sl b off n _ _=>bO (Nat.beq n 0) (some (.undef,S)) (aU (mU S b off (repeatL zero n)) fun S'=>some (.undef,S'))
 | _=>none
def aTA(zero:bo)(x:cP):XF:=fun _ F S=>aI9 (x.val F) zero S
def aOh(a b c:Nat):AV:=
 .tup [.int .u64 (.ofNat (Nat.mod (Nat.add (Nat.add a b) c) 18446744073709551616)),.int .u64 (.ofNat (Nat.div (Nat.add (Nat.add a b) c) 18446744073709551616))]
def tJ(c:Nat):bt->Nat->Int
 | [],_=>.negSucc 0
 | b::bs,i=>bO (Nat.beq b c) (.ofNat i) (tJ c bs (Nat.succ i))
def aJj(k:aJw)(args:bo):Option AV:=
 match k,args with
 | .add64,[.int .u64 (.ofNat a),.int .u64 (.ofNat b),.int .u64 (.ofNat c)]=>bO (Nat.ble c 1) (some (aOh a b c)) none
 | .idxByte,[.str s,.int .u8 (.ofNat c)]=>bO (Nat.ble c 255) (some (.int .i64 (tJ c s 0))) none
 | _,_=>none
def aTO(k:aJw)(args:List cP):XF:=fun _ F S=>aU (aJj k (dE args F)) fun v=>some (v,S)
def aTL:XF:=fun _ _ _=>none
def xN(x:XOp):XF:=XOp.rec (motive:=fun _=>XF) xSt aTd aTm aTW aSK aQb aPD aTA aTO aTL x
def isB(v:AV)(w:Bool):Bool:=
 match v with
 | .bool b=>aOI b w
 | _=>false
def cJ(d:Option Nat):Fr->AV->Fr:=Option.rec (motive:=fun _=>Fr->AV->Fr) (fun F _=>F) (fun i F v=>F.set i (some v)) d
def fI(g:Option (Nat×Bool)):Fr->Bool:=Option.rec (motive:=fun _=>Fr->Bool) (fun _=>true) (fun p F=>isB (aB p.1 F) p.2) g
abbrev OF:=Option Nat->dR->Fr->St->Option (Fr×St)
def oQ(q:QOp):OF:=fun d _ F S=>aU (iT q F S.h) fun v=>some (cJ d F v,S)
def oA(a:wS):OF:=fun d _ F S=>aU (tA a F S.nx) fun r=>some (cJ d F r.1,⟨S.h.set S.nx (some r.2),Nat.succ S.nx⟩)
def oX(x:XOp):OF:=fun d call F S=>aU (xN x call F S) fun r=>some (cJ d F r.1,r.2)
def oOp(o:AOp):OF:=AOp.rec (motive:=fun _=>OF) oQ oA oX o
def yK(o:AO)(call:dR)(F:Fr)(S:St):Option (Fr×St):=
 bO (fI o.grd F) (oOp o.op o.dst call F S) (some (cJ o.dst F .undef,S))
def lF(l:List AO):dR->Fr->St->Option (Fr×St):=
 List.rec (motive:=fun _=>dR->Fr->St->Option (Fr×St)) (fun _ F S=>some (F,S)) (fun o _ ih call F S=>aU (yK o call F S) fun r=>ih call r.1 r.2) l
structure kB where
 i:Nat
 id:Nat
 b:AB
def cG(mask:Nat):List kB->T AB->List kB×T AB
 | [],h=>([],h)
 | p::ps,h=>bO (Nat.testBit mask p.i) (cG mask ps (h.set p.id (some p.b))) (p::(cG mask ps h).1,(cG mask ps h).2)
structure nL where
 q:QOp
 F:Fr
 v:AV
 i:Nat
 mask:Nat
def dK(q:QOp):Bool:=
 match q with
 | .ld .. | .lookup .. | .lenMap .. =>true
 | .conv .bytesToStr _=>true
 | _=>false
structure DS where
 F:Fr
 S:St
 ps:List kB
 hs:List (Nat×Nat×T AB)
 ls:List nL
abbrev DF:=AO->Nat->Nat->dR->DS->Option DS
def dQ(q:QOp):DF:=fun o i _ _ D=>aU (iT q D.F D.S.h) fun v=>
 some ⟨cJ o.dst D.F v,D.S,D.ps,D.hs,bO (dK q) (⟨q,D.F,v,i,o.mask⟩::D.ls) D.ls⟩
def dA(a:wS):DF:=fun o i base _ D=>aU (tA a D.F (base+i)) fun r=>
 some ⟨cJ o.dst D.F r.1,D.S,⟨i,base+i,r.2⟩::D.ps,D.hs,D.ls⟩
def jE(hs:List (Nat×Nat×T AB))(mask:Nat):Bool:=
 match hs with
 | []=>true
 | e::_=>Nat.testBit mask e.1
def dX(x:XOp):DF:=fun o i _ call D=>
 bO (jE D.hs o.mask) (aU (xN x call D.F ⟨(cG o.mask D.ps D.S.h).2,D.S.nx⟩) fun r=>
  some ⟨cJ o.dst D.F r.1,r.2,(cG o.mask D.ps D.S.h).1,(i,o.mask,r.2.h)::D.hs,D.ls⟩) none
def dOp(o:AOp):DF:=AOp.rec (motive:=fun _=>DF) dQ dA dX o
def tB(o:AO)(i base:Nat)(call:dR)(D:DS):Option DS:=
 bO (fI o.grd D.F) (dOp o.op o i base call D) (some ⟨cJ o.dst D.F .undef,D.S,D.ps,D.hs,D.ls⟩)
def rG:List AO->Nat->Nat->dR->DS->Option DS
 | [],_,_,_,D=>some D
 | o::os,i,base,call,D=>aU (tB o i base call D) fun D'=>rG os (i+1) base call D'
mutual
def cQ:AV->AV->Bool
 | .bool a,.bool b=>aOI a b
 | .int k a,.int j b=>bO (keq k j) (ieq a b) false
 | .str a,.str b=>oL a b
 | .ptr a b,.ptr c d=>bO (Nat.beq a c) (Nat.beq b d) false
 | .nilp,.nilp=>true
 | .sl a b c d e,.sl a' b' c' d' e'=>Nat.beq a a' && Nat.beq b b' && Nat.beq c c' && Nat.beq d d' && aOI e e'
 | .ce,.ce=>true
 | .emp,.emp=>true
 | .map a,.map b=>Nat.beq a b
 | .nilmap,.nilmap=>true
 | .fn f a b,.fn g c d=>Nat.beq f g && oZ a c && oZ b d
 | .nilfn,.nilfn=>true
 | .yld a,.yld b=>Nat.beq a b
 | .iface t v,.iface u w=>Nat.beq t u && cQ v w
 | .niliface,.niliface=>true
 | .agg a,.agg b=>oZ a b
 | .tup a,.tup b=>oZ a b
 | _,_=>false
def oZ:bo->bo->Bool
 | [],[]=>true
 | a::x,b::y=>bO (cQ a b) (oZ x y) false
 | _,_=>false
end
def qE(v:AV)(r:Option AV):Bool:=
 match r with
 | some w=>cQ w v
 | none=>false
def gN(l:nL):List (Nat×Nat×T AB)->T AB->Bool
 | [],h=>qE l.v (iT l.q l.F h)
 | (i,m,h')::r,h=>
  bO (Nat.testBit l.mask i) (gN l r h')
   (bO (qE l.v (iT l.q l.F h)) (bO (Nat.testBit m l.i) true (gN l r h')) false)
def fT(h0:T AB)(hs:List (Nat×Nat×T AB)):List nL->Bool
 | []=>true
 | l::ls=>bO (gN l hs h0) (fT h0 hs ls) false
def tL(h0:T AB)(n:Nat)(D:DS):Option (Fr×St):=
 bO (fT h0 D.hs.reverse D.ls) (some (D.F,⟨(cG (2 ^ n - 1) D.ps D.S.h).2,D.S.nx⟩)) none
def nT(ops:List AO)(call:dR)(F:Fr)(S:St):Option (Fr×St):=
 aU (rG ops 0 S.nx call ⟨F,⟨S.h,S.nx+kL ops⟩,[],[],[]⟩) fun D=>tL S.h (kL ops) D
structure Evs where
 code:AC->bN->St->Option (Out×bN×St)
 call:dR
abbrev CF:=Evs->bN->St->Option (Out×bN×St)
def oI:bt->bo->Fr->Option Fr
 | [],[],F=>some F
 | p::ps,v::vs,F=>oI ps vs (F.set p (some v))
 | _,_,_=>none
def qB:bo->Nat->Fr->Fr
 | [],_,F=>F
 | v::vs,i,F=>qB vs (i+1) (F.set i (some v))
def aLR(o:Option Out):Option AC:=
 match o with
 | none=>some .skip
 | some .ret=>some .ret
 | some (.exit id)=>some (.exit id)
 | some .normal=>none
def aTb:CF:=fun _ A S=>some (.normal,A,S)
def kI(b:AC)(ih:Evs)(r:Out×bN×St):Option (Out×bN×St):=
 match r.1 with
 | .normal=>ih.code b r.2.1 r.2.2
 | _=>some r
def aTI(a b:AC):CF:=fun ih A S=>aU (ih.code a A S) (kI b ih)
def qT(v:AV)(a b:AC):CF:=fun ih A S=>
 match v with
 | .bool t=>ih.code (bO t a b) A S
 | _=>none
def aSy(c:cP)(a b:AC):CF:=fun ih A S=>qT (c.val A.F) a b ih A S
def jH(id:Nat)(r:Out×bN×St):Option (Out×bN×St):=
 match r.1 with
 | .exit i=>bO (Nat.beq i id) (some (.normal,r.2)) (some r)
 | _=>some r
def aRP(id:Nat)(c:AC):CF:=fun ih A S=>aU (ih.code c A S) (jH id)
def aSZ(c:AC):CF:=fun ih A S=>aU (ih.code c A S) (kI (.loop c) ih)
def aSc(id:Nat):CF:=fun _ A S=>some (.exit id,A,S)
def aTw:CF:=fun _ A S=>some (.ret,A,S)
def aUd(ops:List AO):CF:=fun ih A S=>aU (lF ops ih.call A.F S) fun r=>some (.normal,⟨r.1,A.inr⟩,r.2)
def aTH(_:List AO)(_:cP)(_:List cP):CF:=fun _ _ _=>none
def aUe(ops:List AO):CF:=fun ih A S=>aU (nT ops ih.call A.F S) fun r=>some (.normal,⟨r.1,A.inr⟩,r.2)
def aAn(bl:AB)(l:Nat)(A:bN)(S2:St)(ih:Evs):Option (Out×bN×St):=
 match bl with
 | .loop st pend fr ps as bd=>
  match st with
  | .busy=>none
  | _=>aU (aLR pend) fun c=>ih.code c A ⟨S2.h.set l (some (.loop .exhausted pend fr ps as bd)),S2.nx⟩
 | _=>none
def aN4(v:AV):Bool:=
 match v with
 | .fn .. =>true
 | _=>false
def aLH(f:cP)(params:bt)(assign body:AC):CF:=fun ih A S=>
 bO A.inr none (bO (aN4 (f.val A.F))
  (aU (ih.call (f.val A.F) [.yld S.nx] ⟨S.h.set S.nx (some (.loop .ready none A.F params assign body)),Nat.succ S.nx⟩) fun r=>
   aU (r.2.h.get S.nx) fun bl=>aAn bl S.nx A r.2 ih) none)
def aGJ(c:AC):CF:=
 AC.rec (motive:=fun _=>CF) aTb (fun a b _ _=>aTI a b) (fun c a b _ _=>aSy c a b) (fun id c _=>aRP id c) (fun c _=>aSZ c) aSc aTw aUd aUe (fun f ps as bd _ _=>aLH f ps as bd) aTH c
def aSp(v:AV)(agg:Bool)(n:Nat)(h:T AB):Option AV:=
 match v with
 | .ptr b off=>iQ agg n h b off
 | _=>none
def results:List RV->Fr->T AB->Option (bo)
 | [],_,_=>some []
 | .t i::rs,F,h=>aU (results rs F h) fun vs=>some (aB i F::vs)
 | .cell a agg n::rs,F,h=>aU (aSp (aB a F) agg n h) fun v=>aU (results rs F h) fun vs=>some (v::vs)
def oneOf(vs:bo):AV:=
 match vs with
 | [v]=>v
 | vs=>.tup vs
def aAd(fn:dD)(r:Out×bN×St):Option (AV×St):=
 match r.1 with
 | .exit _=>none
 | _=>aU (results fn.res r.2.1.F r.2.2.h) fun vs=>some (oneOf vs,r.2.2)
def qC(fn:dD)(args:bo)(ih:Evs)(S:St):Option (AV×St):=
 bO (Nat.ble (kL args) fn.ntmps) (aU (ih.code fn.body ⟨qB args 0 .e,false⟩ S) (aAd fn)) none
def qN(bl:AB)(o:Out)(l:Nat)(S2:St):Option (AV×St):=
 match bl with
 | .loop .busy _ fr ps as bd=>
  match o with
  | .normal=>some (.bool true,⟨S2.h.set l (some (.loop .ready none fr ps as bd)),S2.nx⟩)
  | o=>some (.bool false,⟨S2.h.set l (some (.loop .done (some o) fr ps as bd)),S2.nx⟩)
 | _=>none
def aFr(l:Nat)(bd:AC)(ih:Evs)(A:bN)(S:St):Option (AV×St):=
 aU (ih.code bd A S) fun r=>aU (r.2.2.h.get l) fun bl=>qN bl r.1 l r.2.2
def pK(bl:AB)(l:Nat)(bd:AC)(ih:Evs)(A:bN)(S1:St):Option (AV×St):=
 match bl with
 | .loop .ready pend fr ps as bd'=>aFr l bd ih A ⟨S1.h.set l (some (.loop .busy pend fr ps as bd')),S1.nx⟩
 | _=>none
def aAM(l:Nat)(bd:AC)(ih:Evs)(r:Out×bN×St):Option (AV×St):=
 match r.1 with
 | .normal=>aU (r.2.2.h.get l) fun bl=>pK bl l bd ih r.2.1 r.2.2
 | _=>none
def xV(bl:AB)(l:Nat)(args:bo)(ih:Evs)(S:St):Option (AV×St):=
 match bl with
 | .loop .ready _ fr ps as bd=>aU (oI ps args fr) fun F=>aU (ih.code as ⟨F,true⟩ S) (aAM l bd ih)
 | _=>none
def pX(fns:T dD)(ih:Evs)(f:AV)(args:bo)(S:St):Option (AV×St):=
 match f with
 | .fn id first cap=>aU (fns.get id) fun fn=>qC fn (yE first (yE args cap)) ih S
 | .yld l=>aU (S.h.get l) fun bl=>xV bl l args ih S
 | _=>none
def aRZ(_:AC)(_:bN)(_:St):Option (Out×bN×St):=none
def aRq(_:AV)(_:bo)(_:St):Option (AV×St):=none
def ev(fns:T dD)(n:Nat):Evs:=
 Nat.rec (motive:=fun _=>Evs) ⟨aRZ,aRq⟩ (fun _ ih=>⟨fun c=>aGJ c ih,pX fns ih⟩) n
end
end Go.Ev
namespace Go.Ev
noncomputable section
def aOC(v:Value):Bool:=
 match v with
 | .agg _=>false
 | .tuple _=>false
 | _=>true
mutual
def ofValue:Value->Option AV
 | .bool b=>some (.bool b)
 | .int k n=>some (.int k n)
 | .string s=>some (.str (s.data.toList.map UInt8.toNat))
 | .pointer none=>some .nilp
 | .slice none 0 0=>some .ce
 | .map none=>some .nilmap
 | .nilFunc=>some .nilfn
 | .nilIface=>some .niliface
 | .func (.func f) ⟨a⟩ ⟨b⟩=>match ofValues a,ofValues b with
  | some a,some b=>some (.fn f a b)
  | _,_=>none
 | .iface t v=>(ofValue v).map (.iface t)
 | .agg ⟨cs⟩=>bif cs.all aOC then(ofValues cs).map .agg else none
 | .tuple ⟨cs⟩=>(ofValues cs).map .tup
 | _=>none
def ofValues:List Value->Option (bo)
 | []=>some []
 | v::vs=>match ofValue v,ofValues vs with
  | some a,some as=>some (a::as)
  | _,_=>none
end
variable (P:Program)
def fD:Operand->Option cP
 | .tmp t=>some (.t t)
 | .const v=>(ofValue v).map .c
 | .global g=>bif Nat.blt g P.globals.size then some (.c (.ptr g 0)) else none
 | .func f=>some (.c (.fn f [] []))
def xY:List Operand->Option (List cP)
 | []=>some []
 | x::xs=>match fD P x,xY xs with
  | some a,some as=>some (a::as)
  | _,_=>none
def mK:Option Operand->Option (Option cP)
 | none=>some none
 | some x=>(fD P x).map some
def aAL(t:TypeId):Option (Bool×Nat):=
 match P.underlying t,P.info? t with
 | some (.struct _),some i=>some (true,i.size)
 | some (.array _ _),some i=>some (true,i.size)
 | some _,some i=>some (false,i.size)
 | _,_=>none
def aD1(t:TypeId):Option AV:=
 match P.info? t with
 | some i=>match i.zero with
  | some v=>ofValue v
  | none=>none
 | none=>none
def eqP(t:TypeId):EqP:=
 match P.underlying t with
 | some .bool=>.bool
 | some (.int _)=>.int
 | some .string=>.str
 | some (.pointer _)=>.ptr
 | some (.slice _)=>.slice
 | some (.map _ _)=>.map
 | some (.func ..)=>.func
 | some (.interface _)=>.iface
 | _=>.no
def eqFields:List Field->List (Nat×EqP)
 | []=>[]
 | f::fs=>bif f.name== "_" then eqFields fs else(f.offset,eqP P f.type)::eqFields fs
def eqT(t:TypeId):qM:=
 match P.underlying t with
 | some (.struct fs)=>bif P.stoodInHeld t || P.eqGuardType P.depth t then .p .no else .struct (eqFields P fs.toList)
 | some (.array n e)=>bif P.eqGuardType P.depth t || n>64 || P.cellsOf e !=1 then .p .no else .struct ((List.range n).map fun i=>(i,eqP P e))
 | _=>.p (eqP P t)
def xW(place:Nat->Option (Nat×Nat)):List (Nat×Operand)->Option (List (Nat×Nat×cP))
 | []=>some []
 | (i,x)::ps=>match place i,fD P x,xW place ps with
  | some (off,n),some x,some ps=>some ((off,n,x)::ps)
  | _,_,_=>none
def placeOf(fs:Array Field)(i:Nat):Option (Nat×Nat):=
 match fs[i]? with
 | some f=>match P.info? f.type with
  | some s=>some (f.offset,s.size)
  | none=>none
 | none=>none
def pJ:List Field->Bool
 | []=>true
 | f::fs=>(P.info? f.type).isSome && pJ fs
def zB:List (Nat×Operand)->Option (List (Nat×cP))
 | []=>some []
 | (i,x)::ps=>match fD P x,zB ps with
  | some x,some ps=>some ((i,x)::ps)
  | _,_=>none
def mG(t:TypeId):Option (TypeId×TypeInfo):=
 match P.underlying t with
 | some (.slice e)=>(P.info? e).map fun i=>(e,i)
 | _=>none
def kK(t:TypeId):Option (bo):=(aD1 P t).bind AV.cells
def kQ(e:TypeId)(i:TypeInfo):Option (bo):=
 match kK P e with
 | some z=>bif Nat.beq z.length i.size then some z else none
 | none=>none
def aQg(u:TypeId)(i:TypeInfo):Bool:=
 match P.underlying u with
 | some (.slice _)=>true
 | some .string=>Nat.beq i.size 1
 | _=>false
def pE(name:String)(t:TypeId)(i:TypeInfo):Option (Nat×Nat×Option (Bool×Nat)):=
 match i.methods.find? (·.name==name) with
 | some m=>bif !m.path.isEmpty then none else match m.func with
  | none=>none
  | some (f,ptr)=>match P.underlying t,ptr with
   | some (.pointer _),true=>some (t,f,none)
   | some (.pointer e),false=>(aAL P e).map fun a=>(t,f,some a)
   | some (.interface _),_=>none
   | some _,false=>some (t,f,none)
   | _,_=>none
 | none=>none
def gO(name:String):List TypeInfo->Nat->List (Nat×Nat×Option (Bool×Nat))
 | [],_=>[]
 | i::is,t=>match pE P name t i with
  | some r=>r::gO name is (t+1)
  | none=>gO name is (t+1)
def plainKey:EqP->Bool
 | .int | .str | .bool=>true
 | _=>false
def aCb:Nat->List (Nat×EqP)->Bool
 | _,[]=>true
 | i,(o,e)::l=>Nat.beq o i && (plainKey e && aCb (i+1) l)
def aBZ(t:TypeId):Option qM:=
 match P.underlying t with
 | some .string=>some (.p .str)
 | some (.int _)=>some (.p .int)
 | some (.struct fs)=>match eqT P t with
  | .struct l=>bif fs.all (fun f=>plainKey (eqP P f.type)) && aCb 0 l then some (.struct l) else none
  | _=>none
 | some (.array _ e)=>match eqT P t with
  | .struct l=>bif plainKey (eqP P e) && aCb 0 l then some (.struct l) else none
  | _=>none
 | _=>none
def aKK(s:String):Option aJw:=
 bif s== "math/bits.Add64" then some .add64
 else bif s== "internal/bytealg.IndexByteString" then some .idxByte
 else none
def aK6(f:Operand):Option aJw:=
 match f with
 | .func f=>match P.funcs[f]? with
  | some fn=>bif fn.body.isNone && (Extern.allNextRows.lookup fn.origin).isNone then aKK fn.name else none
  | none=>none
 | _=>none
def q(o:Option QOp):Option AOp:=o.map .q
def al(o:Option wS):Option AOp:=o.map .a
def xx(o:Option XOp):Option AOp:=o.map .x
def aNl(b:Builtin)(as:List Operand)(ts:List TypeId):Option AOp:=
 match b with
 | .copy=>match as,ts with
  | [d,s],[t,_]=>match mG P t with
   | some (_,i)=>xx do some (.copy i.size (<-fD P d) (<-fD P s))
   | none=>none
  | _,_=>none
 | _=>none
def qK(o:Op):Option AOp:=
 match o with
 | .move x | .assign x=>q do some (.mv (<-fD P x))
 | .pick c a b=>q do some (.pick (<-fD P c) (<-fD P a) (<-fD P b))
 | .alloc t=>al do some (.alloc t (<-kK P t))
 | .box t x=>al do some (.box t (<-fD P x))
 | .build t ps=>
  match P.underlying t with
  | some (.struct fs)=>bif pJ P fs.toList then q do some (.build (<-kK P t) (<-xW P (placeOf P fs) ps.toList)) else none
  | some (.array _ e)=>q do let s <-P.info? e;some (.build (<-kK P t) (<-xW P (fun i=>some (i * s.size,s.size)) ps.toList))
  | _=>none
 | .buildSlice t len ps=>al do
  let (e,i) <-mG P t
  if len * i.size>65536 then none
  some (.cm e i.size len (<-kQ P e i) (<-zB P ps.toList))
 | .load t a=>q do let (agg,n) <-aAL P t;some (.ld agg n (<-fD P a))
 | .store t a v=>xx do let (_,n) <-aAL P t;some (.st n (<-fD P a) (<-fD P v))
 | .nilCheck x=>q do some (.cl (<-fD P x))
 | .binOp op t x y _=>q do some (.bin op (eqT P t) (<-fD P x) (<-fD P y))
 | .unOp op _ x=>q do some (.un op (<-fD P x))
 | .convert src dst x=>
  match P.underlying src,P.underlying dst with
  | some (.int _),some (.int k)=>q do some (.conv (.int k) (<-fD P x))
  | some .string,some .string=>q do some (.conv .same (<-fD P x))
  | some (.int _),some .string=>q do some (.conv .intToStr (<-fD P x))
  | some (.slice e),some .string=>match P.underlying e with
   | some (.int .u8)=>q do some (.conv .bytesToStr (<-fD P x))
   | _=>none
  | some .string,some (.slice e)=>match P.underlying e with
   | some (.int .u8)=>al do some (.strBytes e (<-fD P x))
   | _=>none
  | _,_=>none
 | .makeInterface t x=>match P.underlying t with
  | some (.interface _)=>none
  | some _=>q do some (.mkIface t (<-fD P x))
  | none=>none
 | .makeFunc (.method name) a b=>match a.toList,b.toList with
  | [x],[]=>q do some (.mkMeth name (gO P name P.types.toList 0) (<-fD P x))
  | _,_=>none
 | .makeFunc (.func f) a b=>q do some (.mkFunc f (<-xY P a.toList) (<-xY P b.toList))
 | .makeMap _ none=>al (some .mkMap)
 | .makeSlice t l c=>al do let (e,i) <-mG P t;some (.df e i.size i.bytes (<-kQ P e i) (<-fD P l) (<-fD P c))
 | .slice t x lo hi mx=>bif mx.isSome && hi.isNone then none else
  match P.underlying t with
  | some .string=>q do some (.slc .str (<-fD P x) (<-mK P lo) (<-mK P hi) (<-mK P mx))
  | some (.slice e)=>q do let i <-P.info? e;some (.slc (.slice i.size) (<-fD P x) (<-mK P lo) (<-mK P hi) (<-mK P mx))
  | some (.array n e)=>q do let i <-P.info? e;some (.slc (.arr n i.size) (<-fD P x) (<-mK P lo) (<-mK P hi) (<-mK P mx))
  | _=>none
 | .fieldAddr t x f=>match P.underlying t with
  | some (.struct fs)=>q do
   let f <-fs[f]?
   let i <-P.info? f.type
   if i.size=0 then none
   some (.cw f.offset (<-fD P x))
  | _=>none
 | .field t x f=>match P.underlying t with
  | some (.struct fs)=>q do
   let f <-fs[f]?
   let (agg,n) <-aAL P f.type
   some (.fld agg f.offset n (<-fD P x))
  | _=>none
 | .indexAddr t x ix=>match P.underlying t with
  | some (.slice e)=>q do let i <-P.info? e;some (.cq (.slice i.size) (<-fD P x) (<-fD P ix))
  | some (.array n e)=>q do let i <-P.info? e;some (.cq (.arr n i.size) (<-fD P x) (<-fD P ix))
  | _=>none
 | .index t x ix=>match P.underlying t with
  | some .string=>q do some (.idxStr (<-fD P x) (<-fD P ix))
  | some (.array n e)=>q do let (agg,s) <-aAL P e;some (.idxArr agg n s (<-fD P x) (<-fD P ix))
  | _=>none
 | .lookup t m k ok=>match P.underlying t with
  | some (.map kt et)=>q do some (.lookup (<-aBZ P kt) (<-aD1 P et) ok (<-fD P m) (<-fD P k))
  | _=>none
 | .mapUpdate t m k v | .insert t m k v=>match P.underlying t with
  | some (.map kt _)=>xx do some (.mapUpd (<-aBZ P kt) (<-fD P m) (<-fD P k) (<-fD P v))
  | _=>none
 | .typeAssert x _ t ok=>match P.underlying t with
  | some (.interface _)=>none
  | some _=>q do some (.tassert t (<-aD1 P t) ok (<-fD P x))
  | none=>none
 | .extract x i=>q do some (.extract (<-fD P x) i)
 | .call {callee:=.value f,args,.. }=>match aK6 P f with
  | some k=>xx do some (.ext k (<-xY P args.toList))
  | none=>xx do some (.call (<-fD P f) (<-xY P args.toList))
 | .call {callee:=.invoke r name,args,.. }=>xx do some (.inv (gO P name P.types.toList 0) (<-fD P r) (<-xY P args.toList))
 | .call {callee:=.builtin b,args,argTypes}=>
  match b,args.toList,argTypes.toList with
  | .len,[x],[t]=>match P.underlying t with
   | some .string=>q do some (.lenStr (<-fD P x))
   | some (.slice _)=>q do some (.ct (<-fD P x))
   | some (.array n _)=>q (some (.lenArr n))
   | some (.map _ _)=>q do some (.lenMap (<-fD P x))
   | _=>none
  | .cap,[x],[t]=>match P.underlying t with
   | some (.slice _)=>q do some (.capSl (<-fD P x))
   | _=>none
  | .max,xs,_=>q do some (.dj true (<-xY P xs))
  | .min,xs,_=>q do some (.dj false (<-xY P xs))
  | .append,[s,x],[t,u]=>match mG P t with
   | some (e,i)=>bif aQg P u i && (kQ P e i).isSome then xx do some (.app e i.size i.bytes (<-fD P s) (<-fD P x)) else none
   | none=>none
  | .clear,[x],[t]=>match mG P t with
   | some (e,i)=>xx do some (.clr (<-kQ P e i) (<-fD P x))
   | none=>none
  | b,as,ts=>aNl P b as ts
 | _=>none
def aBS(ops:Array Oper):Option (Nat×Bool)->Option (Option (Nat×Bool))
 | none=>some none
 | some (j,w)=>match (ops[j]?).bind (·.dst) with
  | some d=>some (some (d,w))
  | none=>none
def zK(nt:Nat):Option Tmp->Bool
 | some d=>Nat.blt d nt
 | none=>true
def aKL(nt:Nat)(ops:Array Oper)(o:Oper)(mask:Nat):Option AO:=
 bif zK nt o.dst then
  match aBS ops o.guard with
  | some g=>match qK P o.op with
   | some op=>some ⟨o.dst,op,g,mask⟩
   | none=>some ⟨o.dst,.x .bad,g,mask⟩
  | none=>none
 else none
def qA(nt:Nat)(ops:Array Oper):List Oper->bt->Option (List AO)
 | [],_=>some []
 | o::os,ms=>match aKL P nt ops o (ms.headD 0),qA nt ops os ms.tail with
  | some a,some as=>some (a::as)
  | _,_=>none
def cP.rd(x:cP):bt:=
 match x with
 | .t i=>[i]
 | .c _=>[]
def rds:List cP->bt
 | []=>[]
 | x::xs=>x.rd++rds xs
def rdo(x:Option cP):bt:=
 match x with
 | some x=>x.rd
 | none=>[]
def rdp:List (Nat×Nat×cP)->bt
 | []=>[]
 | (_,_,x)::ps=>x.rd++rdp ps
def aRQ:List (Nat×cP)->bt
 | []=>[]
 | (_,x)::ps=>x.rd++aRQ ps
def QOp.rd(o:QOp):bt:=
 match o with
 | .mv x | .ld _ _ x | .cl x | .un _ x | .conv _ x | .mkIface _ x | .cw _ x | .fld _ _ _ x | .tassert _ _ _ x | .extract x _ | .lenStr x | .ct x | .lenMap x | .capSl x | .mkMeth _ _ x=>x.rd
 | .pick c a b=>c.rd++(a.rd++b.rd)
 | .build _ ps=>rdp ps
 | .bin _ _ x y | .cq _ x y | .idxArr _ _ _ x y | .idxStr x y | .lookup _ _ _ x y=>x.rd++y.rd
 | .mkFunc _ a b=>rds a++rds b
 | .slc _ x lo hi mx=>x.rd++(rdo lo++(rdo hi++rdo mx))
 | .lenArr _=>[]
 | .dj _ xs=>rds xs
def wS.rd(o:wS):bt:=
 match o with
 | .alloc _ _ | .mkMap=>[]
 | .box _ x | .strBytes _ x=>x.rd
 | .cm _ _ _ _ ps=>aRQ ps
 | .df _ _ _ _ l c=>l.rd++c.rd
def XOp.rd(o:XOp):bt:=
 match o with
 | .st _ x v=>x.rd++v.rd
 | .call f args | .inv _ f args=>f.rd++rds args
 | .app _ _ _ s x | .copy _ s x | .mapDel _ s x=>s.rd++x.rd
 | .mapUpd _ m k v=>m.rd++(k.rd++v.rd)
 | .clr _ x=>x.rd
 | .ext _ args=>rds args
 | .bad=>[]
def AOp.rd(o:AOp):bt:=
 match o with
 | .q o=>o.rd
 | .a o=>o.rd
 | .x o=>o.rd
def AO.touch(o:AO):bt:=o.dst.toList++((o.grd.map (·.1)).toList++o.op.rd)
def inL(t:Nat):bt->Bool
 | []=>false
 | u::l=>bif Nat.beq t u then true else inL t l
def meets(d:Option Nat)(b:bt):Bool:=
 match d with
 | some d=>inL d b
 | none=>false
def aGu(i:Nat)(d:Option Nat)(tch:bt):List AO->Bool
 | []=>true
 | b::l=>(bif meets d b.touch || meets b.dst tch then Nat.testBit b.mask i else true) && aGu i d tch l
def aKh:Nat->List AO->Bool
 | _,[]=>true
 | i,a::l=>aGu i a.dst a.touch l && aKh (i+1) l
def aSR(l:List AO):Bool:=aKh 0 l
def aCJ:Nat->List Oper->Bool
 | _,[]=>true
 | i,o::l=>o.after.all (fun e=> !Region.binds .any e || Nat.blt e.on i) && aCJ (i+1) l
def aC4(nt:Nat)(ops:Array Oper):Option AC:=
 match qA P nt ops ops.toList (CheckFast.beforeL ops.toList 0 []) with
 | some aos=>bif aCJ 0 ops.toList && aSR aos then some (.drw aos) else none
 | none=>none
def iN(nt:Nat):Code->Option AC
 | .skip=>some .skip
 | .seq a b=>match iN nt a,iN nt b with
  | some a,some b=>some (.seq a b)
  | _,_=>none
 | .cond c a b=>match fD P c,iN nt a,iN nt b with
  | some c,some a,some b=>some (.cond c a b)
  | _,_,_=>none
 | .block id c=>(iN nt c).map (.block id)
 | .loop c=>(iN nt c).map .loop
 | .exit id=>some (.exit id)
 | .ret=>some .ret
 | .region _ ops d=>bif d then aC4 P nt ops else(qA P nt ops ops.toList []).map .reg
 | .rangeFunc f ps as bd=>bif ps.toList.all (fun p=>Nat.blt p nt) then match fD P f,iN nt as,iN nt bd with
  | some f,some as,some bd=>some (.rng f ps.toList as bd)
  | _,_,_=>none
  else none
 | _=>none
def aEX:List ResultVar->Option (List RV)
 | []=>some []
 | .tmp t::rs=>(aEX rs).map (.t t:: ·)
 | .cell a t::rs=>match aAL P t,aEX rs with
  | some (agg,n),some rs=>some (.cell a agg n::rs)
  | _,_=>none
def cFn(fn:Func):Option dD:=
 bif fn.name== "runtime.NumGoroutine" then none else
 match fn.body with
 | some c=>match iN P fn.ntmps c,aEX P fn.results.toList with
  | some c,some rs=>some ⟨fn.ntmps,rs,c⟩
  | _,_=>none
 | none=>none
def sG:AC->Bool
 | .rng _ _ _ _=>false
 | .seq a b=>sG a && sG b
 | .cond _ a b=>sG a && sG b
 | .block _ c=>sG c
 | .loop c=>sG c
 | _=>true
def kpD(k:Nat)(d:Option Nat):Bool:=match d with | some i=> !(Nat.beq i k) | none=>true
def kpO(k:Nat):List AO->Bool
 | []=>true
 | o::l=>kpD k o.dst && kpO k l
def pG(k:Nat):AC->Bool
 | .reg l=>kpO k l
 | .drw l=>kpO k l
 | .seq a b=>pG k a && pG k b
 | .cond _ a b=>pG k a && pG k b
 | .block _ c=>pG k c
 | .loop c=>pG k c
 | .rng _ _ _ _=>false
 | .dfr _ _ _=>false
 | _=>true
def oD(K:Nat):AC->AC
 | .ret=>.exit K
 | .seq a b=>.seq (oD K a) (oD K b)
 | .cond c a b=>.cond c (oD K a) (oD K b)
 | .block i c=>.block i (oD K c)
 | .loop c=>.loop (oD K c)
 | c=>c
def rY(K:Nat):AC->Bool
 | .exit i=> !(Nat.beq i K)
 | .seq a b=>rY K a && rY K b
 | .cond _ a b=>rY K a && rY K b
 | .block i c=> !(Nat.beq i K) && rY K c
 | .loop c=>rY K c
 | .rng _ _ _ _=>false
 | _=>true
def aJk(nt:Nat)(ops:Array Oper):Option (List AO×Nat×Nat):=
 match ops.toList.reverse with
 | ⟨none,.defer ⟨.value f,as,_⟩,_,_,_,none⟩::l=>
  match qA P nt ops l.reverse [],fD P f,as.toList with
  | some aos,some (.t k),[]=>match aos.reverse with
   | ⟨some j,.q (.mkFunc id _ _),none,_⟩::_=>bif Nat.beq j k then some (aos,k,id) else none
   | _=>none
  | _,_,_=>none
 | _=>none
def aRk:Nat:=1000000
def cDf(nt:Nat):Code->Option (AC×Nat)
 | .seq x y=>
  match (match x with | .region _ ops false=>aJk P nt ops | _=>none) with
  | some (aos,k,id)=>match iN P nt y with
   | some cy=>bif rY aRk cy && pG k cy then some (.seq (.reg aos) (.seq (.block aRk (oD aRk cy)) (.reg [⟨none,.x (.call (.t k) []),none,0⟩])),id) else none
   | none=>none
  | none=>match iN P nt x,cDf nt y with
   | some cx,some (cy,id)=>bif sG cx then some (.seq cx cy,id) else none
   | _,_=>none
 | _=>none
def aRg(fn:Func):Option (dD×Nat):=
 bif fn.name== "runtime.NumGoroutine" then none else
 match fn.body with
 | some c=>match cDf P fn.ntmps c,aEX P fn.results.toList with
  | some (c,id),some rs=>some (⟨fn.ntmps,rs,c⟩,id)
  | _,_=>none
 | none=>none
end
end Go.Ev
