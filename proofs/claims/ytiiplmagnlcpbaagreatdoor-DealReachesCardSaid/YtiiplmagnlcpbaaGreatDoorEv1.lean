import GoSem.Dispatch
import Derived.CheckFast
set_option linter.unusedSimpArgs false
set_option linter.unusedVariables false
namespace Go.Ev
theorem az.{u}{A:Type u}{P:A->Prop}{a:A}{l:List A}(h:P a)(t:∀x∈l,P x):∀x∈a::l,P x:=List.forall_mem_cons.2 ⟨h,t⟩
end Go.Ev
namespace Go.Ev
theorem au{p:Prop}(h:p:=by omega):p:=h
theorem aw{p q:Prop}(a:q)(h:q->p:=by intro a;omega):p:=h a
theorem ay{p:Prop}(h:p:=by decide):p:=h
end Go.Ev
namespace Go.Ev
abbrev Aa:=@decide_eq_false
abbrev Ab:=@decide_eq_true
abbrev Ac.{u}:=@List.forall_mem_cons.{u}
abbrev Ad.{u}:=@List.getElem?_eq_getElem.{u}
abbrev Ae.{u}:=@List.getD_eq_getElem?_getD.{u}
abbrev Af:=@Nat.le_refl
abbrev Ag:=@Nat.lt_of_lt_of_le
abbrev Ah:=@Int.ofNat_eq_natCast
abbrev Ai:=@Nat.ble_eq_true_of_le
abbrev Aj.{u}:=@List.getElem?_eq_some_iff.{u}
abbrev Ak:=@not_false_eq_true
abbrev Al.{u}:=@Option.some.injEq.{u}
abbrev Am.{u}:=@List.take_of_length_le.{u}
abbrev An.{u,v}:=@Option.map_eq_some_iff.{u,v}
abbrev Ao:=@Bool.false_eq_true
abbrev Ap:=@Nat.eq_zero_or_pos
abbrev Aq:=@Nat.mul_le_mul_right
abbrev Ar:=@Nat.le_of_ble_eq_true
abbrev Au:=@Nat.zero_add
abbrev Av:=@Nat.beq_eq
abbrev Aw.{u}:=@Bool.cond_eq_ite.{u}
abbrev Ax.{u}:=@List.length_cons.{u}
abbrev Ay.{u}:=@List.getElem?_append_left.{u}
abbrev Az.{u}:=@List.getElem?_append_right.{u}
abbrev Ba.{u}:=@List.length_append.{u}
abbrev Bb:=@Nat.mul_le_mul_left
abbrev Bc.{u,v}:=@List.length_map.{u,v}
abbrev Bd:=@Nat.le_trans
abbrev Be:=@Nat.lt_or_ge
abbrev Bf:=@Nat.mul_comm
abbrev Bg.{u}:=@Array.getD_eq_getD_getElem?.{u}
abbrev Bh.{u}:=@List.length_take.{u}
abbrev Bi:=@Nat.add_zero
abbrev Bj:=@Int.natCast_mul
abbrev Bk.{u,v}:=@List.getElem?_map.{u,v}
abbrev Bl:=@Nat.mul_assoc
abbrev Bm.{u}:=@if_false.{u}
abbrev Bn.{u}:=@List.append_assoc.{u}
abbrev Bo.{u}:=@List.drop_eq_getElem_cons.{u}
abbrev Bp:=@Nat.mul_one
abbrev Bq:=@Int.toNat_natCast
abbrev Br.{u}:=@List.mem_cons.{u}
abbrev Bs:=@Nat.lt_of_le_of_lt
abbrev Bt.{u}:=@List.take_append_drop.{u}
abbrev Bu.{u}:=@List.length_replicate.{u}
abbrev Bw.{u}:=@List.drop_of_length_le.{u}
abbrev Bx:=@Bool.eq_false_iff
abbrev Bz.{u}:=@Option.some.inj.{u}
abbrev Ca:=@Nat.mul_add
abbrev Cb:=@Nat.add_mul
abbrev Cd.{u}:=@List.length_nil.{u}
abbrev Ce.{u}:=@List.length_eq_zero_iff.{u}
abbrev Cf.{u}:=@List.mem_cons_of_mem.{u}
abbrev Cg.{u}:=@List.mem_of_getElem?.{u}
abbrev Ch:=@Nat.pow_le_pow_right
abbrev Ci:=@Nat.pow_succ
abbrev Cj:=@Nat.min_eq_left
abbrev Ck.{u}:=@if_true.{u}
abbrev Cl:=@Int.mul_le_mul_of_nonneg_left
abbrev Cm.{u}:=@List.append_nil.{u}
abbrev Cn.{u}:=@List.nil_append.{u}
abbrev Co:=@Nat.add_assoc
abbrev Cp:=@Int.natCast_dvd_natCast
abbrev Cq:=@List.length_range
abbrev Cr:=@Bool.and_eq_true
abbrev Ct.{u}:=@List.mem_append.{u}
abbrev Cu:=@Bool.eq_iff_iff
abbrev Cv.{u}:=@Array.getElem?_eq_some_iff.{u}
abbrev Cw:=@not_true_eq_false
abbrev Cx.{u}:=@List.cons_append.{u}
abbrev Cy:=@Nat.gcd_dvd_left
abbrev Cz.{u}:=@List.take_add_one.{u}
abbrev Da.{u}:=@Array.getElem?_toList.{u}
abbrev Db:=@Nat.eq_of_beq_eq_true
abbrev Dc:=@Int.mul_nonneg
abbrev Dd.{u}:=@List.drop_zero.{u}
abbrev De:=@Int.toNat_of_nonneg
abbrev Dg.{u}:=@List.length_eq_one_iff.{u}
abbrev Dh.{u}:=@List.mem_of_mem_drop.{u}
abbrev Di:=@Int.dvd_mul_of_dvd_right
abbrev Dj:=@Nat.gcd_pos_of_pos_right
abbrev Dk.{u}:=@List.length_drop.{u}
abbrev Dl:=@Nat.div_add_mod
abbrev Dm.{u}:=@List.length_set.{u}
abbrev Dn:=@Nat.mod_lt
abbrev Dp.{u}:=@List.getElem?_eq_none.{u}
abbrev Dq:=@Nat.div_lt_iff_lt_mul
abbrev Dr:=@Nat.gcd_pos_of_pos_left
abbrev Dt.{u}:=@Array.length_toList.{u}
abbrev Du.{u}:=@List.length_pos_iff.{u}
abbrev Dw.{u}:=@List.take_length.{u}
abbrev Dx:=@Nat.gcd_comm
abbrev Dy.{u}:=@List.mem_cons_self.{u}
abbrev Dz:=@List.getElem?_range
abbrev Ea:=@Nat.div_le_self
abbrev Eb.{u,v}:=@Option.bind_eq_some_iff.{u,v}
abbrev Ec.{u}:=@List.getElem_mem.{u}
abbrev Ed:=@of_decide_eq_true
abbrev Ee:=@Nat.div_mul_cancel
abbrev Ef:=@Nat.mul_le_mul
abbrev Eg.{u}:=@Ne.symm.{u}
abbrev Eh.{u}:=@List.reverse_cons.{u}
abbrev Ei:=@Nat.mul_lt_mul_of_pos_right
abbrev Ej.{u}:=@List.mem_of_mem_take.{u}
abbrev Ek:=@Nat.mod_eq_of_lt
abbrev El.{u,v}:=@Array.toList_map.{u,v}
abbrev Em:=@Nat.mul_pos
abbrev En:=@Nat.gcd_dvd_right
abbrev Eo.{u}:=@List.mem_append_right.{u}
abbrev Ep:=@Rat.mkRat_self
abbrev Eq.{u}:=@List.dropLast_concat_getLast.{u}
abbrev Er:=@decide_eq_true_iff
abbrev Es:=@Int.eq_ofNat_of_zero_le
abbrev Et:=@Nat.coprime_div_gcd_div_gcd
abbrev Eu.{u}:=@List.set_eq_take_append_cons_drop.{u}
abbrev Ew:=@Nat.lt_of_mul_lt_mul_right
abbrev Ex.{u}:=@List.take_succ_cons.{u}
abbrev Ey:=@Nat.zero_le
abbrev Ez.{u,v,w}:=@Array.mapM_eq_mapM_toList.{u,v,w}
abbrev Fa.{u}:=@Array.getElem?_eq_getElem.{u}
abbrev Fb.{u}:=@List.pairwise_iff_getElem.{u}
abbrev Fc.{u}:=@List.all_eq_true.{u}
abbrev Fd.{u}:=@List.getElem?_drop.{u}
abbrev Fe:=@Nat.lt_succ_self
abbrev Ff.{u}:=@List.getElem?_take.{u}
abbrev Fg:=@Nat.div_dvd_of_dvd
abbrev Fi:=@decide_eq_decide
abbrev Fj.{u,v}:=@List.map_cons.{u,v}
abbrev Fk:=@Nat.sub_self
abbrev Fm:=@Nat.add_comm
abbrev Fp.{u}:=@List.mem_append_left.{u}
abbrev Fq.{u}:=@List.take_zero.{u}
abbrev Ft.{u}:=@List.getElem?_cons_succ.{u}
abbrev Fu.{u}:=@List.getElem?_replicate.{u}
abbrev Fv.{u}:=@Array.ext'.{u}
abbrev Fx.{u,v}:=@Option.map_some.{u,v}
abbrev Fy:=@Nat.Coprime.coprime_dvd_left
abbrev Fz.{u,v}:=@List.map_congr_left.{u,v}
abbrev Ga.{u,v}:=@List.mem_map.{u,v}
abbrev Gb:=@Nat.pow_pos
abbrev Gc:=@Nat.div_pos
abbrev Gd:=@Nat.add_sub_cancel
abbrev Ge.{u}:=@Option.isNone_none.{u}
abbrev Gf:=@Nat.add_mul_mod_self_right
abbrev Gg:=@Int.natAbs_natCast
abbrev Gh:=@Nat.gcd_zero_right
abbrev Gi.{u}:=@List.singleton_append.{u}
abbrev Gj:=@Bool.or_eq_true
abbrev Gk:=@Nat.gcd_le_left
abbrev Gm:=@Nat.sub_zero
abbrev Gn:=@Nat.lt_trichotomy
abbrev Gp:=@Nat.ble_eq
abbrev Gq.{u}:=@List.sum_cons.{u}
abbrev Gr.{u}:=@Array.getElem?_push.{u}
abbrev Gs.{u}:=@List.drop_succ_cons.{u}
abbrev Gt:=@Nat.min_eq_right
abbrev Gu:=@Int.natAbs_mul
abbrev Gv:=@Nat.div_eq_of_lt
abbrev Gw:=@Int.natCast_nonneg
abbrev Gx:=@Nat.mul_ne_zero
abbrev Gy.{u}:=@List.set_append.{u}
abbrev Gz:=@Bool.not_true
abbrev Ha:=@Decidable.not_not
abbrev Hb.{u,v}:=@congrArg.{u,v}
abbrev Hc.{u}:=@List.drop_drop.{u}
abbrev Hd:=@Nat.pow_add
abbrev He:=@Int.add_mul
abbrev Hf:=@Nat.zero_mul
abbrev Hg:=@Nat.mul_zero
noncomputable section
inductive T(α:Type) where
 | e:T α
 | n (l:T α) (v:Option α) (r:T α):T α
def bM{α:Sort _}(c:Bool)(a b:α):α:=Bool.rec b a c
def aU{α β:Type}(x:Option α)(f:α->Option β):Option β:=Option.rec none f x
namespace T
variable {α:Type}
def get(t:T α):Nat->Option α:=
 T.rec (motive:=fun _=>Nat->Option α) (fun _=>none)
  (fun _ v _ gl gr k=>bM (Nat.beq k 0) v (bM (Nat.beq (Nat.mod k 2) 1) (gl (Nat.div k 2)) (gr (Nat.sub (Nat.div k 2) 1)))) t
def single(f:Nat):Nat->Option α->T α:=
 Nat.rec (motive:=fun _=>Nat->Option α->T α) (fun _ _=>.e)
  (fun _ ih k x=>bM (Nat.beq k 0) (.n .e x .e) (bM (Nat.beq (Nat.mod k 2) 1) (.n (ih (Nat.div k 2) x) none .e) (.n .e none (ih (Nat.sub (Nat.div k 2) 1) x)))) f
def set(t:T α):Nat->Option α->T α:=
 T.rec (motive:=fun _=>Nat->Option α->T α) (fun k x=>single (Nat.succ k) k x)
  (fun l v r sl sr k x=>bM (Nat.beq k 0) (.n l x r) (bM (Nat.beq (Nat.mod k 2) 1) (.n (sl (Nat.div k 2) x) v r) (.n l v (sr (Nat.sub (Nat.div k 2) 1) x)))) t
end T
inductive AV where
 | bool (b:Bool)
 | int (k:IntKind) (n:Int)
 | str (s:List Nat)
 | ptr (b off:Nat)
 | nilp
 | sl (b off len cap:Nat) (o:Bool)
 | cd
 | emp        -- an empty slice,not nil,of unknown place and capacity
 | map (b:Nat)
 | nilmap
 | fn (f:Nat) (first captured:List AV)
 | nilfn
 | yld (b:Nat)
 | iface (t:Nat) (v:AV)
 | niliface
 | mth (name:String) (tbl:List (Nat×Nat×Option (Bool×Nat))) (v:AV)     -- a method of an interface value,bound
 | agg (cs:List AV)
 | tup (vs:List AV)
 deriving Inhabited
abbrev bm:=List Int
abbrev bo:=List AV
abbrev bt:=List Nat
def AV.cells(v:AV):Option (bo):=
 match v with
 | .agg cs=>some cs
 | .tup _=>none
 | v=>some [v]
def AV.undef:AV:=.tup []
inductive cL where
 | t (i:Nat)
 | c (v:AV)
 deriving Inhabited
inductive EqP where
 | bool | int | str | ptr | slice | map | func | iface | no
 deriving Inhabited,DecidableEq
inductive oZ where
 | p (e:EqP)
 | struct (fs:List (Nat×EqP))
 deriving Inhabited
inductive aGH where
 | int (k:IntKind)
 | same
 | bytesToStr
 | intToStr
 deriving Inhabited
inductive SlK where
 | str
 | slice (size:Nat)
 | arr (n size:Nat)
 deriving Inhabited
inductive IxK where
 | arr (n size:Nat)
 | slice (size:Nat)
 deriving Inhabited
inductive QOp where
 | mv (x:cL)
 | pick (c a b:cL)
 | build (zero:bo) (parts:List (Nat×Nat×cL))
 | ld (agg:Bool) (n:Nat) (x:cL)
 | cp (x:cL)
 | bin (op:BinOp) (e:oZ) (x y:cL)
 | un (op:UnOp) (x:cL)
 | conv (k:aGH) (x:cL)
 | mkIface (t:Nat) (x:cL)
 | mkFunc (f:Nat) (first captured:List cL)
 | slc (k:SlK) (x:cL) (lo hi mx:Option cL)
 | df (off:Nat) (x:cL)
 | fld (agg:Bool) (off n:Nat) (x:cL)
 | cw (k:IxK) (x ix:cL)
 | idxArr (agg:Bool) (n size:Nat) (x ix:cL)
 | idxStr (x ix:cL)
 | lookup (e:oZ) (zero:AV) (commaOk:Bool) (m key:cL)
 | tassert (t:Nat) (zero:AV) (commaOk:Bool) (x:cL)
 | extract (x:cL) (i:Nat)
 | lenArr (n:Nat)
 | lenStr (x:cL)
 | c9 (x:cL)
 | lenMap (x:cL)
 | capSl (x:cL)
 | dn (isMax:Bool) (xs:List cL)
 | mkMeth (name:String) (tbl:List (Nat×Nat×Option (Bool×Nat))) (x:cL)
 deriving Inhabited
inductive vH where
 | alloc (t:Nat) (cells:bo)
 | box (t:Nat) (x:cL)
 | cq (t size len:Nat) (zero:bo) (parts:List (Nat×cL))
 | di (t size bytes:Nat) (zero:bo) (l c:cL)
 | mkMap
 | strBytes (t:Nat) (x:cL)
 deriving Inhabited
inductive aIw where
 | add64 | idxByte | idxStr
 deriving Inhabited
inductive XOp where
 | st (n:Nat) (x v:cL)
 | call (f:cL) (args:List cL)
 | inv (tbl:List (Nat×Nat×Option (Bool×Nat))) (recv:cL) (args:List cL)
 | app (t size bytes:Nat) (s x:cL)
 | copy (size:Nat) (d s:cL)
 | mapUpd (e:oZ) (m k v:cL)
 | mapDel (e:oZ) (m k:cL)
 | clr (zero:bo) (x:cL)
 | ext (k:aIw) (args:List cL)
 | bad
 deriving Inhabited
inductive AOp where
 | q (o:QOp)
 | a (o:vH)
 | x (o:XOp)
 deriving Inhabited
structure AO where
 dst:Option Nat
 op:AOp
 grd:Option (Nat×Bool)
 mask:Nat      -- the operations before it (drawn regions)
 deriving Inhabited
inductive AC where
 | skip
 | seq (a b:AC)
 | cond (c:cL) (a b:AC)
 | block (id:Nat) (c:AC)
 | loop (c:AC)
 | exit (id:Nat)
 | ret
 | reg (ops:List AO)
 | drw (ops:List AO)
 | rng (f:cL) (params:bt) (assign body:AC)
 | dfr (ops:List AO) (f:cL) (args:List cL)
 deriving Inhabited
inductive RV where
 | t (i:Nat)
 | cell (a:Nat) (agg:Bool) (n:Nat)
 deriving Inhabited
structure cM where
 ntmps:Nat
 res:List RV
 body:AC
 deriving Inhabited
abbrev Fr:=T AV
inductive LSt where
 | ready | busy | done | exhausted
 deriving DecidableEq,Inhabited
inductive Out where
 | normal
 | exit (id:Nat)
 | ret
 deriving Inhabited
inductive AB where
 | cells (cs:bo) (opn:Bool) (size:Nat)     -- opn:there may be more room behind;size:the cells of an element then
 | ro (cs:bo)
 | map (es:List (AV×AV))
 | loop (st:LSt) (pend:Option Out) (fr:Fr) (params:bt) (assign body:AC)
 | dfd
 deriving Inhabited
structure St where
 h:T AB
 nx:Nat
def aD(i:Nat)(F:Fr):AV:=Option.rec (motive:=fun _=>AV) .undef (fun v=>v) (F.get i)
def aOS(v:AV)(_:Fr):AV:=v
def cL.val(x:cL):Fr->AV:=cL.rec (motive:=fun _=>Fr->AV) aD aOS x
def cO(l:List cL):Fr->bo:=List.rec (motive:=fun _=>Fr->bo) (fun _=>[]) (fun x _ ih F=>x.val F::ih F) l
def nth{α:Type}(l:List α):Nat->Option α:=List.rec (motive:=fun _=>Nat->Option α) (fun _=>none) (fun x _ ih k=>bM (Nat.beq k 0) (some x) (ih (Nat.sub k 1))) l
def aHx{α:Type}(l:List α):Nat->List α:=List.rec (motive:=fun _=>Nat->List α) (fun _=>[]) (fun x xs ih k=>bM (Nat.beq k 0) (x::xs) (ih (Nat.sub k 1))) l
def aHq{α:Type}(l:List α):Nat->Option (List α):=
 List.rec (motive:=fun _=>Nat->Option (List α)) (fun n=>bM (Nat.beq n 0) (some []) none)
  (fun x _ ih n=>bM (Nat.beq n 0) (some []) (aU (ih (Nat.sub n 1)) fun r=>some (x::r))) l
def aDM{α:Type}(vs:List α):List α->Option (List α):=
 List.rec (motive:=fun _=>List α->Option (List α)) (fun l=>some l)
  (fun v _ ih l=>List.rec (motive:=fun _=>Option (List α)) none (fun _ xs _=>aU (ih xs) fun r=>some (v::r)) l) vs
def put{α:Type}(l:List α):Nat->List α->Option (List α):=
 List.rec (motive:=fun _=>Nat->List α->Option (List α)) (fun k vs=>bM (Nat.beq k 0) (aDM vs []) none)
  (fun x xs ih k vs=>bM (Nat.beq k 0) (aDM vs (x::xs)) (aU (ih (Nat.sub k 1) vs) fun r=>some (x::r))) l
def kG{α:Type}(l:List α):Nat:=List.rec (motive:=fun _=>Nat) 0 (fun _ _ ih=>Nat.succ ih) l
def qP{α:Type}(l m:List α):List α:=List.rec (motive:=fun _=>List α) m (fun x _ ih=>x::ih) l
def repeatL{α:Type}(z:List α)(n:Nat):List α:=Nat.rec (motive:=fun _=>List α) [] (fun _ ih=>qP z ih) n
def cut{α:Type}(l:List α)(i n:Nat):Option (List α):=aHq (aHx l i) n
def oS(k:IntKind):Nat:=
 match k with
 | .i8=>127 | .i16=>32767 | .i32=>2147483647 | .i64=>9223372036854775807
 | .u8=>255 | .u16=>65535 | .u32=>4294967295 | .u64=>18446744073709551615
def nat(k:IntKind)(n:Nat):Int:=bM (Nat.ble n (oS k)) (.ofNat n) (k.wrap (.ofNat n))
def aCJ(k:IntKind):Bool:=
 match k with
 | .i8 | .i16 | .i32 | .i64=>true
 | _=>false
def neg(k:IntKind)(n:Nat):Int:=bM (aCJ k) (bM (Nat.ble n (oS k)) (.negSucc n) (k.wrap (.negSucc n))) (k.wrap (.negSucc n))
def aJp(k:IntKind)(n:Nat):Bool:=Nat.ble n (oS k)
def aET(k:IntKind)(n:Int):Int:=Int.rec (motive:=fun _=>Int) (fun m=>nat k m) (fun m=>neg k m) n
def aBu(k:IntKind)(a b:Nat):Int:=bM (Nat.ble b a) (nat k (Nat.sub a b)) (neg k (Nat.sub (Nat.sub b a) 1))
def aMH(k:IntKind)(x y:Int):Int:=
 Int.rec (motive:=fun _=>Int) (fun a=>Int.rec (motive:=fun _=>Int) (fun b=>nat k (Nat.add a b)) (fun b=>aBu k a (Nat.succ b)) y)
  (fun a=>Int.rec (motive:=fun _=>Int) (fun b=>aBu k b (Nat.succ a)) (fun b=>neg k (Nat.succ (Nat.add a b))) y) x
def aEY(k:IntKind)(x y:Int):Int:=
 Int.rec (motive:=fun _=>Int) (fun a=>Int.rec (motive:=fun _=>Int) (fun b=>aBu k a b) (fun b=>nat k (Nat.add a (Nat.succ b))) y)
  (fun a=>Int.rec (motive:=fun _=>Int) (fun b=>neg k (Nat.add a b)) (fun b=>aBu k b a) y) x
def aGD(k:IntKind)(x y:Int):Int:=
 Int.rec (motive:=fun _=>Int) (fun a=>Int.rec (motive:=fun _=>Int) (fun b=>nat k (Nat.mul a b)) (fun b=>aET k (Int.mul (.ofNat a) (.negSucc b))) y)
  (fun a=>aET k (Int.mul (.negSucc a) y)) x
def ieq(x y:Int):Bool:=
 Int.rec (motive:=fun _=>Bool) (fun a=>Int.rec (motive:=fun _=>Bool) (fun b=>Nat.beq a b) (fun _=>false) y)
  (fun a=>Int.rec (motive:=fun _=>Bool) (fun _=>false) (fun b=>Nat.beq a b) y) x
def ile(x y:Int):Bool:=
 Int.rec (motive:=fun _=>Bool) (fun a=>Int.rec (motive:=fun _=>Bool) (fun b=>Nat.ble a b) (fun _=>false) y)
  (fun a=>Int.rec (motive:=fun _=>Bool) (fun _=>true) (fun b=>Nat.ble b a) y) x
def keq(x y:IntKind):Bool:=Nat.beq (oS x) (oS y)
def aMA(x y:Bool):Bool:=bM x y (bM y false true)
def aRR(k:IntKind)(x y:Int):Option AV:=some (.int k (aMH k x y))
def aRu(k:IntKind)(x y:Int):Option AV:=some (.int k (aEY k x y))
def aRQ(k:IntKind)(x y:Int):Option AV:=some (.int k (aGD k x y))
def aKd(k:IntKind)(x y:Int):Option AV:=
 match x,y with
 | .ofNat a,.ofNat b=>bM (Nat.beq b 0) none (some (.int k (nat k (Nat.div a b))))
 | x,y=>bM (ieq y (.ofNat 0)) none (some (.int k (aET k (x.tdiv y))))
def aLY(k:IntKind)(x y:Int):Option AV:=
 match x,y with
 | .ofNat a,.ofNat b=>bM (Nat.beq b 0) none (some (.int k (.ofNat (Nat.mod a b))))
 | x,y=>bM (ieq y (.ofNat 0)) none (some (.int k (x.tmod y)))
def aBX(f:Nat->Nat->Nat)(k:IntKind)(x y:Int):Option AV:=
 match x,y with
 | .ofNat a,.ofNat b=>bM (aJp k a) (bM (aJp k b) (some (.int k (.ofNat (f a b)))) none) none
 | _,_=>none
def aRH:=aBX Nat.land
def iOr:=aBX Nat.lor
def aRE:=aBX Nat.xor
def aRL(_:IntKind)(x y:Int):Option AV:=some (.bool (ieq x y))
def aRA(_:IntKind)(x y:Int):Option AV:=some (.bool (bM (ieq x y) false true))
def aRB(_:IntKind)(x y:Int):Option AV:=some (.bool (bM (ile y x) false true))
def aRO(_:IntKind)(x y:Int):Option AV:=some (.bool (ile x y))
def aRr(_:IntKind)(x y:Int):Option AV:=some (.bool (bM (ile x y) false true))
def aRh(_:IntKind)(x y:Int):Option AV:=some (.bool (ile y x))
def aMb(_:IntKind)(_ _:Int):Option AV:=none
def aL9(op:BinOp):IntKind->Int->Int->Option AV:=
 BinOp.rec (motive:=fun _=>IntKind->Int->Int->Option AV) aRR aRu aRQ aKd aLY aRH iOr aRE aMb aMb aMb aRL aRA aRB aRO aRr aRh op
def aA8(op:BinOp)(k:IntKind)(x:Int)(b:Nat):Option AV:=
 let n:=bM (Nat.ble b k.bits) b k.bits
 match op with
 | .shl=>some (.int k (aGD k x (.ofNat (Nat.pow 2 n))))
 | .shr=>some (.int k (x.fdiv (.ofNat (Nat.pow 2 n))))
 | _=>none
def aAW(op:BinOp)(k:IntKind)(x y:Int):Option AV:=
 match y with
 | .ofNat b=>aA8 op k x b
 | _=>none
def eZ(op:BinOp):Bool:=BinOp.rec (motive:=fun _=>Bool) false false false false false false false false true true false false false false false false false op
def pF:bt->bt->Bool
 | _,[]=>false
 | [],_::_=>true
 | a::x,b::y=>bM (Nat.blt a b) true (bM (Nat.beq a b) (pF x y) false)
def nD:bt->bt->Bool
 | [],[]=>true
 | a::x,b::y=>bM (Nat.beq a b) (nD x y) false
 | _,_=>false
def aIy(op:BinOp)(a b:bt):Option AV:=
 match op with
 | .add=>bM (Nat.ble (kG a+kG b) 9223372036854775807) (some (.str (qP a b))) none
 | .eql=>some (.bool (nD a b))
 | .neq=>some (.bool (!nD a b))
 | .lss=>some (.bool (pF a b))
 | .leq=>some (.bool (pF a b || nD a b))
 | .gtr=>some (.bool (!(pF a b || nD a b)))
 | .geq=>some (.bool (!pF a b))
 | _=>none
def partOf(agg:Bool)(cs:bo)(off n:Nat):Option AV:=
 bM agg (aU (cut cs off n) fun r=>some (.agg r)) (nth cs off)
def eqp:EqP->AV->AV->Option Bool
 | .bool,.bool a,.bool b=>some (aMA a b)
 | .int,.int k a,.int k' b=>bM (keq k k') (some (ieq a b)) none
 | .str,.str a,.str b=>some (nD a b)
 | .ptr,.nilp,.nilp=>some true
 | .ptr,.nilp,.ptr _ _=>some false
 | .ptr,.ptr _ _,.nilp=>some false
 | .slice,.cd,.cd=>some true
 | .slice,.cd,.sl .. =>some false
 | .slice,.sl ..,.cd=>some false
 | .slice,.cd,.emp=>some false
 | .slice,.emp,.cd=>some false
 | .map,.nilmap,.nilmap=>some true
 | .map,.nilmap,.map _=>some false
 | .map,.map _,.nilmap=>some false
 | .func,.nilfn,.nilfn=>some true
 | .func,.nilfn,.fn .. =>some false
 | .func,.fn ..,.nilfn=>some false
 | .iface,.niliface,.iface _ _=>some false
 | .iface,.iface _ _,.niliface=>some false
 | _,_,_=>none
def eqs:List (Nat×EqP)->bo->bo->Option Bool
 | [],_,_=>some true
 | (off,e)::fs,xs,ys=>
  match nth xs off,nth ys off with
  | some x,some y=>match eqp e x y with
   | some true=>eqs fs xs ys
   | some false=>some false
   | none=>none
  | _,_=>none
def eqv:oZ->AV->AV->Option Bool
 | .p e,x,y=>eqp e x y
 | .struct fs,.agg xs,.agg ys=>bM (Nat.beq (kG xs) (kG fs)) (bM (Nat.beq (kG ys) (kG fs)) (eqs fs xs ys) none) none
 | _,_,_=>none
def aOC(op:BinOp)(e:oZ)(x y:AV):Option AV:=
 match op with
 | .eql=>aU (eqv e x y) fun b=>some (.bool b)
 | .neq=>aU (eqv e x y) fun b=>some (.bool (bM b false true))
 | _=>none
def cQ(op:BinOp)(k:IntKind)(a:Int)(k':IntKind)(b:Int):Option AV:=
 bM (eZ op) (aAW op k a b) (bM (keq k k') (aL9 op k a b) none)
def aF5(v:AV):Option (IntKind×Int):=
 match v with
 | .int k a=>some (k,a)
 | _=>none
def aFE(v:AV):Option (bt):=
 match v with
 | .str s=>some s
 | _=>none
def kH(op:BinOp)(e:oZ)(x y:AV):Option AV:=
 match aF5 x,aF5 y with
 | some a,some b=>cQ op a.1 a.2 b.1 b.2
 | _,_=>match aFE x,aFE y with
  | some a,some b=>aIy op a b
  | _,_=>aOC op e x y
def unV(op:UnOp)(x:AV):Option AV:=
 match op,x with
 | .neg,.int k n=>some (.int k (aEY k (.ofNat 0) n))
 | .not,.bool b=>some (.bool (bM b false true))
 | _,_=>none
def dI(b:AB):Option (bo):=
 match b with
 | .cells cs _ _=>some cs
 | .ro cs=>some cs
 | _=>none
def bU(h:T AB)(b:Nat):Option (bo):=aU (h.get b) dI
def oH(h:T AB)(b off n:Nat):Option (bo):=aU (bU h b) fun cs=>cut cs off n
def jE(h:T AB)(b off:Nat):Option AV:=aU (bU h b) fun cs=>nth cs off
def iO(agg:Bool)(n:Nat)(h:T AB)(b off:Nat):Option AV:=
 bM agg (aU (oH h b off n) fun cs=>some (.agg cs)) (jE h b off)
def iJ(zero:bo):List (Nat×Nat×AV)->Option (bo)
 | []=>some zero
 | (off,n,v)::ps=>aU v.cells fun cs=>bM (Nat.beq (kG cs) n) (aU (put zero off cs) fun z=>iJ z ps) none
def bytesOf:bo->Option (bt)
 | []=>some []
 | .int .u8 (.ofNat n)::vs=>bM (Nat.ble n 255) (aU (bytesOf vs) fun r=>some (n::r)) none
 | _::_=>none
def dY(v:AV):Option Nat:=
 match v with
 | .int _ (.ofNat n)=>some n
 | _=>none
def gC(F:Fr)(d:Nat)(x:Option cL):Option Nat:=
 match x with
 | none=>some d
 | some x=>dY (x.val F)
def tA(e:oZ)(k:AV):List (AV×AV)->Nat->Option (Option (Nat×AV))
 | [],_=>some none
 | (k',v)::es,i=>aU (eqv e k k') fun b=>bM b (some (some (i,v))) (tA e k es (Nat.succ i))
def zU(e:oZ)(k:AV)(es:List (AV×AV)):Option (Option (Nat×AV)):=aU (eqv e k k) fun _=>tA e k es 0
def yN(b:AB):Option (List (AV×AV)):=
 match b with
 | .map es=>some es
 | _=>none
def tC(h:T AB)(m:AV):Option (List (AV×AV)):=
 match m with
 | .nilmap=>some []
 | .map b=>aU (h.get b) yN
 | _=>none
def jQ(isMax:Bool):bo->AV->Option AV
 | [],x=>some x
 | .int k' b::vs,.int k a=>bM (keq k k')
   (jQ isMax vs (.int k (bM isMax (bM (ile b a) a b) (bM (ile a b) a b)))) none
 | _,_=>none
abbrev QF:=Fr->T AB->Option AV
def qMv(x:cL):QF:=fun F _=>some (x.val F)
def wZ(v:AV)(a b:cL)(F:Fr):Option AV:=
 match v with
 | .bool t=>some (bM t (a.val F) (b.val F))
 | _=>none
def aQD(c a b:cL):QF:=fun F _=>wZ (c.val F) a b F
def iI(F:Fr):List (Nat×Nat×cL)->List (Nat×Nat×AV)
 | []=>[]
 | (a,b,x)::ps=>(a,b,x.val F)::iI F ps
def aO1(zero:bo)(ps:List (Nat×Nat×cL)):QF:=fun F _=>aU (iJ zero (iI F ps)) fun cs=>some (.agg cs)
def cT(v:AV)(agg:Bool)(n:Nat)(h:T AB):Option AV:=
 match v with
 | .ptr b off=>iO agg n h b off
 | _=>none
def qLd(agg:Bool)(n:Nat)(x:cL):QF:=fun F h=>cT (x.val F) agg n h
def wU{α:Type}(t:Nat):List (Nat×α)->Option α
 | []=>none
 | (u,a)::l=>bM (Nat.beq t u) (some a) (wU t l)
def aGV(n:String)(tbl:List (Nat×Nat×Option (Bool×Nat)))(v:AV):Option AV:=
 match v with
 | .iface t w=>aU (wU t tbl) fun r=>match r.2,w with
  | none,_=>some (.mth n tbl v)
  | some _,.ptr _ _=>some (.mth n tbl v)
  | _,_=>none
 | _=>none
def uY(v:AV):Option AV:=
 match v with
 | .ptr b o=>some (.ptr b o)
 | .fn f a b=>some (.fn f a b)
 | .iface t v=>some (.iface t v)
 | .yld b=>some (.yld b)
 | .mth n tbl v=>aGV n tbl v
 | _=>none
def aNT(x:cL):QF:=fun F _=>uY (x.val F)
def aRe(op:BinOp)(e:oZ)(x y:cL):QF:=fun F _=>kH op e (x.val F) (y.val F)
def qUn(op:UnOp)(x:cL):QF:=fun F _=>unV op (x.val F)
def aDO(h:T AB)(b off len:Nat):Option AV:=aU (oH h b off len) fun cs=>aU (bytesOf cs) fun s=>some (.str s)
def aAq(k:aGH)(v:AV)(h:T AB):Option AV:=
 match k,v with
 | .int k,.int _ n=>some (.int k (aET k n))
 | .same,.str s=>some (.str s)
 | .bytesToStr,.cd=>some (.str [])
 | .bytesToStr,.emp=>some (.str [])
 | .bytesToStr,.sl b off len _ _=>aDO h b off len
 | .intToStr,.int _ (.ofNat n)=>bM (Nat.ble n 127) (some (.str [n])) none
 | _,_=>none
def aQb(k:aGH)(x:cL):QF:=fun F h=>aAq k (x.val F) h
def aLQ(t:Nat)(x:cL):QF:=fun F _=>some (.iface t (x.val F))
def aNM(f:Nat)(first cap:List cL):QF:=fun F _=>some (.fn f (cO first F) (cO cap F))
def aGK(s:bt)(lo hi mx:Option cL)(F:Fr):Option AV:=
 match mx with
 | some _=>none
 | none=>aU (gC F (kG s) hi) fun h'=>aU (gC F 0 lo) fun l=>
   bM (Nat.ble h' (kG s)) (bM (Nat.ble l h') (aU (cut s l (h' - l)) fun r=>some (.str r)) none) none
def iA(len cap:Nat)(lo hi mx:Option cL)(F:Fr):Option (Nat×Nat×Nat):=
 aU (gC F cap mx) fun m=>aU (gC F len hi) fun h=>aU (gC F 0 lo) fun l=>
  bM (Nat.ble m cap) (bM (Nat.ble h m) (bM (Nat.ble l h) (some (l,h,m)) none) none) none
def aDm(size b off len cap:Nat)(o:Bool)(lo hi mx:Option cL)(F:Fr):Option AV:=
 aU (iA len cap lo hi mx F) fun x=>
  let o':=bM o mx.isNone false
  bM (Nat.beq x.2.2 x.1) (bM o' (some .emp) (some (.sl b off (x.2.1 - x.1) (x.2.2 - x.1) false)))
   (some (.sl b (off+x.1 * size) (x.2.1 - x.1) (x.2.2 - x.1) o'))
def aHy(lo hi mx:Option cL)(F:Fr):Option AV:=aU (iA 0 0 lo hi mx F) fun _=>some .emp
def aGS(lo hi mx:Option cL)(F:Fr):Option AV:=aU (iA 0 0 lo hi mx F) fun _=>some .cd
def aLz(n size b off:Nat)(lo hi mx:Option cL)(F:Fr):Option AV:=
 aU (iA n n lo hi mx F) fun x=>
  bM (Nat.beq x.2.2 x.1) (some (.sl b off (x.2.1 - x.1) (x.2.2 - x.1) false))
   (some (.sl b (off+x.1 * size) (x.2.1 - x.1) (x.2.2 - x.1) false))
def lA(k:SlK)(v:AV)(lo hi mx:Option cL)(F:Fr):Option AV:=
 match k,v with
 | .str,.str s=>aGK s lo hi mx F
 | .slice size,.sl b off len cap o=>aDm size b off len cap o lo hi mx F
 | .slice _,.cd=>aGS lo hi mx F
 | .slice _,.emp=>aHy lo hi mx F
 | .arr n size,.ptr b off=>aLz n size b off lo hi mx F
 | _,_=>none
def aRp(k:SlK)(x:cL)(lo hi mx:Option cL):QF:=fun F _=>lA k (x.val F) lo hi mx F
def zA(v:AV)(off:Nat):Option AV:=
 match v with
 | .ptr b o=>some (.ptr b (o+off))
 | _=>none
def aPP(off:Nat)(x:cL):QF:=fun F _=>zA (x.val F) off
def aKb(v:AV)(agg:Bool)(off n:Nat):Option AV:=
 match v with
 | .agg cs=>partOf agg cs off n
 | _=>none
def aRG(agg:Bool)(off n:Nat)(x:cL):QF:=fun F _=>aKb (x.val F) agg off n
def dN(k:IxK)(v:AV)(i:Nat):Option AV:=
 match k,v with
 | .arr n size,.ptr b off=>bM (Nat.blt i n) (some (.ptr b (off+i * size))) none
 | .slice size,.sl b off len _ _=>bM (Nat.blt i len) (some (.ptr b (off+i * size))) none
 | _,_=>none
def aOY(k:IxK)(x ix:cL):QF:=fun F _=>aU (dY (ix.val F)) fun i=>dN k (x.val F) i
def xI(v:AV)(agg:Bool)(n size i:Nat):Option AV:=
 match v with
 | .agg cs=>bM (Nat.blt i n) (partOf agg cs (i * size) size) none
 | _=>none
def aNY(agg:Bool)(n size:Nat)(x ix:cL):QF:=fun F _=>aU (dY (ix.val F)) fun i=>xI (x.val F) agg n size i
def xQ(v:AV)(i:Nat):Option AV:=
 match v with
 | .str s=>aU (nth s i) fun b=>some (.int .u8 (.ofNat b))
 | _=>none
def aOb(x ix:cL):QF:=fun F _=>aU (dY (ix.val F)) fun i=>xQ (x.val F) i
def aEc(ok:Bool)(v:AV)(b:Bool):AV:=bM ok (.tup [v,.bool b]) v
def uZ(r:Option (Nat×AV))(zero:AV)(ok:Bool):Option AV:=
 match r with
 | some (_,v)=>some (aEc ok v true)
 | none=>some (aEc ok zero false)
def aNo(sk:oZ)(zero:AV)(ok:Bool)(m key:cL):QF:=fun F h=>
 aU (tC h (m.val F)) fun es=>aU (zU sk (key.val F) es) fun r=>uZ r zero ok
def wK(v:AV)(t:Nat)(zero:AV)(ok:Bool):Option AV:=
 match v with
 | .iface t' v=>bM (Nat.beq t t') (some (aEc ok v true)) (bM ok (some (.tup [zero,.bool false])) none)
 | .niliface=>bM ok (some (.tup [zero,.bool false])) none
 | _=>none
def aLM(t:Nat)(zero:AV)(ok:Bool)(x:cL):QF:=fun F _=>wK (x.val F) t zero ok
def lQ(v:AV)(i:Nat):Option AV:=
 match v with
 | .tup vs=>nth vs i
 | _=>none
def aMK(x:cL)(i:Nat):QF:=fun F _=>lQ (x.val F) i
def aOf(n:Nat):QF:=fun _ _=>some (.int .i64 (.ofNat n))
def aAs(v:AV):Option AV:=
 match v with
 | .str s=>some (.int .i64 (.ofNat (kG s)))
 | _=>none
def aOk(x:cL):QF:=fun F _=>aAs (x.val F)
def kT(v:AV):Option AV:=
 match v with
 | .cd=>some (.int .i64 (.ofNat 0))
 | .emp=>some (.int .i64 (.ofNat 0))
 | .sl _ _ n _ _=>some (.int .i64 (.ofNat n))
 | _=>none
def aPQ(x:cL):QF:=fun F _=>kT (x.val F)
def aNn(x:cL):QF:=fun F h=>aU (tC h (x.val F)) fun es=>some (.int .i64 (.ofNat (kG es)))
def aC5(v:AV):Option AV:=
 match v with
 | .cd=>some (.int .i64 (.ofNat 0))
 | .sl _ _ _ c false=>some (.int .i64 (.ofNat c))
 | _=>none
def aPi(x:cL):QF:=fun F _=>aC5 (x.val F)
def lF(isMax:Bool)(l:bo):Option AV:=
 match l with
 | []=>none
 | v::vs=>jQ isMax vs v
def aNL(n:String)(tbl:List (Nat×Nat×Option (Bool×Nat)))(x:cL):QF:=fun F _=>some (.mth n tbl (x.val F))
def aNQ(mx:Bool)(xs:List cL):QF:=fun F _=>lF mx (cO xs F)
def jK(q:QOp):QF:=
 QOp.rec (motive:=fun _=>QF) qMv aQD aO1 qLd aNT aRe qUn aQb aLQ aNM aRp aPP aRG aOY aNY aOb aNo aLM aMK aOf aOk aPQ aNn aPi aNQ aNL q
abbrev AF:=Fr->Nat->Option (AV×AB)
def room:Nat:=140737488355328
theorem ax{p:Prop}(h:p:=by unfold room;omega):p:=h
def aPD(_:Nat)(cells:bo):AF:=fun _ id=>some (.ptr id 0,.cells cells false 0)
def aRx(_:Nat)(x:cL):AF:=fun F id=>aU (x.val F).cells fun cs=>some (.ptr id 0,.cells cs false 0)
def kK(size:Nat)(F:Fr):List (Nat×cL)->List (Nat×Nat×AV)
 | []=>[]
 | (i,x)::ps=>(i * size,size,x.val F)::kK size F ps
def aNu(_ size len:Nat)(zero:bo)(ps:List (Nat×cL)):AF:=fun F id=>
 aU (iJ (repeatL zero len) (kK size F ps)) fun cs=>some (.sl id 0 len len false,.cells cs false 0)
def xD(_ _ bytes:Nat)(zero:bo)(l c:cL):AF:=fun F id=>
 aU (dY (l.val F)) fun l=>aU (dY (c.val F)) fun c=>
  bM (Nat.ble l c) (bM (Nat.ble c room) (bM (Nat.ble (bytes * c) room) (some (.sl id 0 l c false,.cells (repeatL zero c) false 0)) none) none) none
def aPK:AF:=fun _ id=>some (.map id,.map [])
def byteCells:bt->bo
 | []=>[]
 | b::bs=>.int .u8 (.ofNat b)::byteCells bs
def sM(v:AV)(id:Nat):Option (AV×AB):=
 match v with
 | .str s=>some (.sl id 0 (kG s) (kG s) true,.cells (byteCells s) true 1)
 | _=>none
def aLa(_:Nat)(x:cL):AF:=fun F id=>sM (x.val F) id
def vC(a:vH):AF:=vH.rec (motive:=fun _=>AF) aPD aRx aNu xD aPK aLa a
def qA(bl:AB)(S:St)(b off:Nat)(vs:bo):Option St:=
 match bl with
 | .cells cs o s=>aU (put cs off vs) fun cs'=>some ⟨S.h.set b (some (.cells cs' o s)),S.nx⟩
 | _=>none
def lN(S:St)(b off:Nat)(vs:bo):Option St:=aU (S.h.get b) fun bl=>qA bl S b off vs
def fE(v:AV)(h:T AB)(size n:Nat):Option (bo):=
 match v with
 | .sl b off _ _ _=>oH h b off (n * size)
 | .cd=>bM (Nat.beq n 0) (some []) none
 | .emp=>bM (Nat.beq n 0) (some []) none
 | .str s=>bM (Nat.beq size 1) (aU (aHq s n) fun r=>some (byteCells r)) none
 | _=>none
def yT(v:AV):Option Nat:=
 match v with
 | .sl _ _ n _ _=>some n
 | .cd=>some 0
 | .emp=>some 0
 | .str s=>some (kG s)
 | _=>none
def grown(h:T AB)(nx need size:Nat)(cs:bo):Option (AV×St):=
 some (.sl nx 0 need need true,⟨h.set nx (some (.cells cs true size)),Nat.succ nx⟩)
def aEz(bl:AB)(size b off len cap:Nat)(o:Bool)(n:Nat)(new:bo)(S:St):Option (AV×St):=
 match bl with
 | .cells cs o' sz=>aU (cut cs off (len * size)) fun old=>
   bM o
    (bM o' (bM (Nat.beq sz size) (bM (Nat.beq (off+cap * size) (kG cs)) (grown (S.h.set b none) S.nx (len+n) size (qP old new)) none) none) none)
    (grown S.h S.nx (len+n) size (qP old new))
 | .ro cs=>bM o none (aU (cut cs off (len * size)) fun old=>grown S.h S.nx (len+n) size (qP old new))
 | _=>none
def tP(bytes size b off len cap:Nat)(o:Bool)(n:Nat)(new:bo)(S:St):Option (AV×St):=
 bM (Nat.ble (len+n) cap)
  (bM (Nat.beq n 0) (some (.sl b off len cap o,S)) (aU (lN S b (off+len * size) new) fun S'=>some (.sl b off (len+n) cap o,S')))
  (bM (Nat.ble (len+n) room) (bM (Nat.ble ((len+n) * bytes) room) (aU (S.h.get b) fun bl=>aEz bl size b off len cap o n new S) none) none)
def nV(bytes size n:Nat)(new:bo)(S:St):Option (AV×St):=
 bM (Nat.beq n 0) (some (.cd,S))
  (bM (Nat.ble n room) (bM (Nat.ble (n * bytes) room) (grown S.h S.nx n size new) none) none)
def aAo(s:AV)(bytes size n:Nat)(new:bo)(S:St):Option (AV×St):=
 match s with
 | .cd=>nV bytes size n new S
 | .emp=>bM (Nat.beq n 0) (some (.emp,S)) none
 | .sl b off len cap o=>tP bytes size b off len cap o n new S
 | _=>none
def iK(bytes size:Nat)(s x:AV)(S:St):Option (AV×St):=
 aU (yT x) fun n=>aU (fE x S.h size n) fun new=>aAo s bytes size n new S
def wR{α:Type}(f:α->α):List α->Nat->List α
 | [],_=>[]
 | x::xs,k=>bM (Nat.beq k 0) (f x::xs) (x::wR f xs (k - 1))
structure bK where
 F:Fr
 inr:Bool
abbrev dK:=AV->bo->St->Option (AV×St)
abbrev XF:=dK->Fr->St->Option (AV×St)
def oT(p:AV)(n:Nat)(cs:bo)(S:St):Option (AV×St):=
 match p with
 | .ptr b off=>bM (Nat.beq (kG cs) n) (aU (lN S b off cs) fun S'=>some (.undef,S')) none
 | _=>none
def xSt(n:Nat)(x v:cL):XF:=fun _ F S=>aU (v.val F).cells fun cs=>oT (x.val F) n cs S
def aQ1(f:cL)(args:List cL):XF:=fun call F S=>call (f.val F) (cO args F) S
def aCy(v:AV)(f:Nat)(agg:Bool)(n:Nat)(args:bo)(call:dK)(S:St):Option (AV×St):=
 match v with
 | .ptr b off=>aU (iO agg n S.h b off) fun r=>call (.fn f [r] []) args S
 | _=>none
def aFV(r:Nat×Option (Bool×Nat))(v:AV)(args:bo)(call:dK)(S:St):Option (AV×St):=
 match r with
 | (f,none)=>call (.fn f [v] []) args S
 | (f,some (agg,n))=>aCy v f agg n args call S
def aDs(v:AV)(tbl:List (Nat×Nat×Option (Bool×Nat)))(args:bo)(call:dK)(S:St):Option (AV×St):=
 match v with
 | .iface t v=>aU (wU t tbl) fun r=>aFV r v args call S
 | _=>none
def aRf(tbl:List (Nat×Nat×Option (Bool×Nat)))(recv:cL)(args:List cL):XF:=fun call F S=>aDs (recv.val F) tbl (cO args F) call S
def aRD(_ size bytes:Nat)(s x:cL):XF:=fun _ F S=>iK bytes size (s.val F) (x.val F) S
def copyV(d:AV)(size m:Nat)(s:AV)(S:St):Option (AV×St):=
 match d with
 | .cd=>some (.int .i64 (.ofNat 0),S)
 | .emp=>some (.int .i64 (.ofNat 0),S)
 | .sl b off len _ _=>
  let n:=bM (Nat.ble m len) m len
  bM (Nat.beq n 0) (some (.int .i64 (.ofNat 0),S)) (aU (fE s S.h size n) fun cs=>aU (lN S b off cs) fun S'=>some (.int .i64 (.ofNat n),S'))
 | _=>none
def zR(v:AV):Option Nat:=
 match v with
 | .sl _ _ n _ _=>some n
 | .cd=>some 0
 | .emp=>some 0
 | _=>none
def aQF(size:Nat)(d s:cL):XF:=fun _ F S=>aU (zR (s.val F)) fun m=>copyV (d.val F) size m (s.val F) S
def aCL(r:Option (Nat×AV))(es:List (AV×AV))(k v:AV):List (AV×AV):=
 match r with
 | some (i,_)=>wR (fun _=>(k,v)) es i
 | none=>qP es [(k,v)]
def uO(m:AV)(sk:oZ)(k v:AV)(S:St):Option (AV×St):=
 match m with
 | .map b=>aU (aU (S.h.get b) yN) fun es=>aU (zU sk k es) fun r=>some (.undef,⟨S.h.set b (some (.map (aCL r es k v))),S.nx⟩)
 | _=>none
def aN0(sk:oZ)(m k v:cL):XF:=fun _ F S=>uO (m.val F) sk (k.val F) (v.val F) S
def aJG(r:Option (Nat×AV))(es:List (AV×AV))(b:Nat)(S:St):Option (AV×St):=
 match r with
 | some (i,_)=>some (.undef,⟨S.h.set b (some (.map (es.eraseIdx i))),S.nx⟩)
 | none=>some (.undef,S)
def aA2(m:AV)(sk:oZ)(k:AV)(S:St):Option (AV×St):=
 match m with
 | .map b=>aU (aU (S.h.get b) yN) fun es=>aU (zU sk k es) fun r=>aJG r es b S
 | .nilmap=>some (.undef,S)
 | _=>none
def aNr(sk:oZ)(m k:cL):XF:=fun _ F S=>aA2 (m.val F) sk (k.val F) S
def aIc(x:AV)(zero:bo)(S:St):Option (AV×St):=
 match x with
 | .cd=>some (.undef,S)
 | .emp=>some (.undef,S)
 | .sl b off n _ _=>bM (Nat.beq n 0) (some (.undef,S)) (aU (lN S b off (repeatL zero n)) fun S'=>some (.undef,S'))
 | _=>none
def aRm(zero:bo)(x:cL):XF:=fun _ F S=>aIc (x.val F) zero S
def aMd(a b c:Nat):AV:=
 .tup [.int .u64 (.ofNat (Nat.mod (Nat.add (Nat.add a b) c) 18446744073709551616)),.int .u64 (.ofNat (Nat.div (Nat.add (Nat.add a b) c) 18446744073709551616))]
def sH(c:Nat):bt->Nat->Int
 | [],_=>.negSucc 0
 | b::bs,i=>bM (Nat.beq b c) (.ofNat i) (sH c bs (Nat.succ i))
def aIi(k:aIw)(args:bo):Option AV:=
 match k,args with
 | .add64,[.int .u64 (.ofNat a),.int .u64 (.ofNat b),.int .u64 (.ofNat c)]=>bM (Nat.ble c 1) (some (aMd a b c)) none
 | .idxByte,[.str s,.int .u8 (.ofNat c)]=>bM (Nat.ble c 255) (some (.int .i64 (sH c s 0))) none
 | _,_=>none
def aRy(k:aIw)(args:List cL):XF:=fun _ F S=>aU (aIi k (cO args F)) fun v=>some (v,S)
def aRw:XF:=fun _ _ _=>none
def xX(x:XOp):XF:=XOp.rec (motive:=fun _=>XF) xSt aQ1 aRf aRD aQF aN0 aNr aRm aRy aRw x
def isB(v:AV)(w:Bool):Bool:=
 match v with
 | .bool b=>aMA b w
 | _=>false
def cB(d:Option Nat):Fr->AV->Fr:=Option.rec (motive:=fun _=>Fr->AV->Fr) (fun F _=>F) (fun i F v=>F.set i (some v)) d
def fI(g:Option (Nat×Bool)):Fr->Bool:=Option.rec (motive:=fun _=>Fr->Bool) (fun _=>true) (fun p F=>isB (aD p.1 F) p.2) g
abbrev OF:=Option Nat->dK->Fr->St->Option (Fr×St)
def oQ(q:QOp):OF:=fun d _ F S=>aU (jK q F S.h) fun v=>some (cB d F v,S)
def oA(a:vH):OF:=fun d _ F S=>aU (vC a F S.nx) fun r=>some (cB d F r.1,⟨S.h.set S.nx (some r.2),Nat.succ S.nx⟩)
def oX(x:XOp):OF:=fun d call F S=>aU (xX x call F S) fun r=>some (cB d F r.1,r.2)
def oOp(o:AOp):OF:=AOp.rec (motive:=fun _=>OF) oQ oA oX o
def zZ(o:AO)(call:dK)(F:Fr)(S:St):Option (Fr×St):=
 bM (fI o.grd F) (oOp o.op o.dst call F S) (some (cB o.dst F .undef,S))
def kL(l:List AO):dK->Fr->St->Option (Fr×St):=
 List.rec (motive:=fun _=>dK->Fr->St->Option (Fr×St)) (fun _ F S=>some (F,S)) (fun o _ ih call F S=>aU (zZ o call F S) fun r=>ih call r.1 r.2) l
structure kQ where
 i:Nat
 id:Nat
 b:AB
def cA(mask:Nat):List kQ->T AB->List kQ×T AB
 | [],h=>([],h)
 | p::ps,h=>bM (Nat.testBit mask p.i) (cA mask ps (h.set p.id (some p.b))) (p::(cA mask ps h).1,(cA mask ps h).2)
structure mW where
 q:QOp
 F:Fr
 v:AV
 i:Nat
 mask:Nat
def dU(q:QOp):Bool:=
 match q with
 | .ld .. | .lookup .. | .lenMap .. =>true
 | .conv .bytesToStr _=>true
 | _=>false
structure DS where
 F:Fr
 S:St
 ps:List kQ
 hs:List (Nat×Nat×T AB)
 ls:List mW
abbrev DF:=AO->Nat->Nat->dK->DS->Option DS
def dQ(q:QOp):DF:=fun o i _ _ D=>aU (jK q D.F D.S.h) fun v=>
 some ⟨cB o.dst D.F v,D.S,D.ps,D.hs,bM (dU q) (⟨q,D.F,v,i,o.mask⟩::D.ls) D.ls⟩
def dA(a:vH):DF:=fun o i base _ D=>aU (vC a D.F (base+i)) fun r=>
 some ⟨cB o.dst D.F r.1,D.S,⟨i,base+i,r.2⟩::D.ps,D.hs,D.ls⟩
def jB(hs:List (Nat×Nat×T AB))(mask:Nat):Bool:=
 match hs with
 | []=>true
 | e::_=>Nat.testBit mask e.1
def dX(x:XOp):DF:=fun o i _ call D=>
 bM (jB D.hs o.mask) (aU (xX x call D.F ⟨(cA o.mask D.ps D.S.h).2,D.S.nx⟩) fun r=>
  some ⟨cB o.dst D.F r.1,r.2,(cA o.mask D.ps D.S.h).1,(i,o.mask,r.2.h)::D.hs,D.ls⟩) none
def dOp(o:AOp):DF:=AOp.rec (motive:=fun _=>DF) dQ dA dX o
def rT(o:AO)(i base:Nat)(call:dK)(D:DS):Option DS:=
 bM (fI o.grd D.F) (dOp o.op o i base call D) (some ⟨cB o.dst D.F .undef,D.S,D.ps,D.hs,D.ls⟩)
def pY:List AO->Nat->Nat->dK->DS->Option DS
 | [],_,_,_,D=>some D
 | o::os,i,base,call,D=>aU (rT o i base call D) fun D'=>pY os (i+1) base call D'
mutual
def cC:AV->AV->Bool
 | .bool a,.bool b=>aMA a b
 | .int k a,.int j b=>bM (keq k j) (ieq a b) false
 | .str a,.str b=>nD a b
 | .ptr a b,.ptr c d=>bM (Nat.beq a c) (Nat.beq b d) false
 | .nilp,.nilp=>true
 | .sl a b c d e,.sl a' b' c' d' e'=>Nat.beq a a' && Nat.beq b b' && Nat.beq c c' && Nat.beq d d' && aMA e e'
 | .cd,.cd=>true
 | .emp,.emp=>true
 | .map a,.map b=>Nat.beq a b
 | .nilmap,.nilmap=>true
 | .fn f a b,.fn g c d=>Nat.beq f g && mX a c && mX b d
 | .nilfn,.nilfn=>true
 | .yld a,.yld b=>Nat.beq a b
 | .iface t v,.iface u w=>Nat.beq t u && cC v w
 | .niliface,.niliface=>true
 | .agg a,.agg b=>mX a b
 | .tup a,.tup b=>mX a b
 | _,_=>false
def mX:bo->bo->Bool
 | [],[]=>true
 | a::x,b::y=>bM (cC a b) (mX x y) false
 | _,_=>false
end
def rF(v:AV)(r:Option AV):Bool:=
 match r with
 | some w=>cC w v
 | none=>false
def fN(l:mW):List (Nat×Nat×T AB)->T AB->Bool
 | [],h=>rF l.v (jK l.q l.F h)
 | (i,m,h')::r,h=>
  bM (Nat.testBit l.mask i) (fN l r h')
   (bM (rF l.v (jK l.q l.F h)) (bM (Nat.testBit m l.i) true (fN l r h')) false)
def gM(h0:T AB)(hs:List (Nat×Nat×T AB)):List mW->Bool
 | []=>true
 | l::ls=>bM (fN l hs h0) (gM h0 hs ls) false
def sK(h0:T AB)(n:Nat)(D:DS):Option (Fr×St):=
 bM (gM h0 D.hs.reverse D.ls) (some (D.F,⟨(cA (2 ^ n - 1) D.ps D.S.h).2,D.S.nx⟩)) none
def mL(ops:List AO)(call:dK)(F:Fr)(S:St):Option (Fr×St):=
 aU (pY ops 0 S.nx call ⟨F,⟨S.h,S.nx+kG ops⟩,[],[],[]⟩) fun D=>sK S.h (kG ops) D
structure Evs where
 code:AC->bK->St->Option (Out×bK×St)
 call:dK
abbrev CF:=Evs->bK->St->Option (Out×bK×St)
def qH:bt->bo->Fr->Option Fr
 | [],[],F=>some F
 | p::ps,v::vs,F=>qH ps vs (F.set p (some v))
 | _,_,_=>none
def oY:bo->Nat->Fr->Fr
 | [],_,F=>F
 | v::vs,i,F=>oY vs (i+1) (F.set i (some v))
def aQp(o:Option Out):Option AC:=
 match o with
 | none=>some .skip
 | some .ret=>some .ret
 | some (.exit id)=>some (.exit id)
 | some .normal=>none
def aQZ:CF:=fun _ A S=>some (.normal,A,S)
def jT(b:AC)(ih:Evs)(r:Out×bK×St):Option (Out×bK×St):=
 match r.1 with
 | .normal=>ih.code b r.2.1 r.2.2
 | _=>some r
def aRt(a b:AC):CF:=fun ih A S=>aU (ih.code a A S) (jT b ih)
def pO(v:AV)(a b:AC):CF:=fun ih A S=>
 match v with
 | .bool t=>ih.code (bM t a b) A S
 | _=>none
def aQt(c:cL)(a b:AC):CF:=fun ih A S=>pO (c.val A.F) a b ih A S
def iX(id:Nat)(r:Out×bK×St):Option (Out×bK×St):=
 match r.1 with
 | .exit i=>bM (Nat.beq i id) (some (.normal,r.2)) (some r)
 | _=>some r
def aPS(id:Nat)(c:AC):CF:=fun ih A S=>aU (ih.code c A S) (iX id)
def aQR(c:AC):CF:=fun ih A S=>aU (ih.code c A S) (jT (.loop c) ih)
def aP9(id:Nat):CF:=fun _ A S=>some (.exit id,A,S)
def aRl:CF:=fun _ A S=>some (.ret,A,S)
def aRS(ops:List AO):CF:=fun ih A S=>aU (kL ops ih.call A.F S) fun r=>some (.normal,⟨r.1,A.inr⟩,r.2)
def aRs(_:List AO)(_:cL)(_:List cL):CF:=fun _ _ _=>none
def aRT(ops:List AO):CF:=fun ih A S=>aU (mL ops ih.call A.F S) fun r=>some (.normal,⟨r.1,A.inr⟩,r.2)
def aDt(bl:AB)(l:Nat)(A:bK)(S2:St)(ih:Evs):Option (Out×bK×St):=
 match bl with
 | .loop st pend fr ps as bd=>
  match st with
  | .busy=>none
  | _=>aU (aQp pend) fun c=>ih.code c A ⟨S2.h.set l (some (.loop .exhausted pend fr ps as bd)),S2.nx⟩
 | _=>none
def aPw(v:AV):Bool:=
 match v with
 | .fn .. =>true
 | _=>false
def aKi(f:cL)(params:bt)(assign body:AC):CF:=fun ih A S=>
 bM A.inr none (bM (aPw (f.val A.F))
  (aU (ih.call (f.val A.F) [.yld S.nx] ⟨S.h.set S.nx (some (.loop .ready none A.F params assign body)),Nat.succ S.nx⟩) fun r=>
   aU (r.2.h.get S.nx) fun bl=>aDt bl S.nx A r.2 ih) none)
def aFX(c:AC):CF:=
 AC.rec (motive:=fun _=>CF) aQZ (fun a b _ _=>aRt a b) (fun c a b _ _=>aQt c a b) (fun id c _=>aPS id c) (fun c _=>aQR c) aP9 aRl aRS aRT (fun f ps as bd _ _=>aKi f ps as bd) aRs c
def aQl(v:AV)(agg:Bool)(n:Nat)(h:T AB):Option AV:=
 match v with
 | .ptr b off=>iO agg n h b off
 | _=>none
def results:List RV->Fr->T AB->Option (bo)
 | [],_,_=>some []
 | .t i::rs,F,h=>aU (results rs F h) fun vs=>some (aD i F::vs)
 | .cell a agg n::rs,F,h=>aU (aQl (aD a F) agg n h) fun v=>aU (results rs F h) fun vs=>some (v::vs)
def oneOf(vs:bo):AV:=
 match vs with
 | [v]=>v
 | vs=>.tup vs
def yW(fn:cM)(r:Out×bK×St):Option (AV×St):=
 match r.1 with
 | .exit _=>none
 | _=>aU (results fn.res r.2.1.F r.2.2.h) fun vs=>some (oneOf vs,r.2.2)
def mY(fn:cM)(args:bo)(ih:Evs)(S:St):Option (AV×St):=
 bM (Nat.ble (kG args) fn.ntmps) (aU (ih.code fn.body ⟨oY args 0 .e,false⟩ S) (yW fn)) none
def aA7(bl:AB)(o:Out)(l:Nat)(S2:St):Option (AV×St):=
 match bl with
 | .loop .busy _ fr ps as bd=>
  match o with
  | .normal=>some (.bool true,⟨S2.h.set l (some (.loop .ready none fr ps as bd)),S2.nx⟩)
  | o=>some (.bool false,⟨S2.h.set l (some (.loop .done (some o) fr ps as bd)),S2.nx⟩)
 | _=>none
def aEP(l:Nat)(bd:AC)(ih:Evs)(A:bK)(S:St):Option (AV×St):=
 aU (ih.code bd A S) fun r=>aU (r.2.2.h.get l) fun bl=>aA7 bl r.1 l r.2.2
def qT(bl:AB)(l:Nat)(bd:AC)(ih:Evs)(A:bK)(S1:St):Option (AV×St):=
 match bl with
 | .loop .ready pend fr ps as bd'=>aEP l bd ih A ⟨S1.h.set l (some (.loop .busy pend fr ps as bd')),S1.nx⟩
 | _=>none
def aCj(l:Nat)(bd:AC)(ih:Evs)(r:Out×bK×St):Option (AV×St):=
 match r.1 with
 | .normal=>aU (r.2.2.h.get l) fun bl=>qT bl l bd ih r.2.1 r.2.2
 | _=>none
def zG(bl:AB)(l:Nat)(args:bo)(ih:Evs)(S:St):Option (AV×St):=
 match bl with
 | .loop .ready _ fr ps as bd=>aU (qH ps args fr) fun F=>aU (ih.code as ⟨F,true⟩ S) (aCj l bd ih)
 | _=>none
def oR(fns:T cM)(ih:Evs)(f:AV)(args:bo)(S:St):Option (AV×St):=
 match f with
 | .fn id first cap=>aU (fns.get id) fun fn=>mY fn (qP first (qP args cap)) ih S
 | .yld l=>aU (S.h.get l) fun bl=>zG bl l args ih S
 | _=>none
def aPZ(_:AC)(_:bK)(_:St):Option (Out×bK×St):=none
def aPt(_:AV)(_:bo)(_:St):Option (AV×St):=none
def ev(fns:T cM)(n:Nat):Evs:=
 Nat.rec (motive:=fun _=>Evs) ⟨aPZ,aPt⟩ (fun _ ih=>⟨fun c=>aFX c ih,oR fns ih⟩) n
end
end Go.Ev
namespace Go.Ev
noncomputable section
def aMx(v:Value):Bool:=
 match v with
 | .agg _=>false
 | .tuple _=>false
 | _=>true
mutual
def ofValue:Value->Option AV
 | .bool b=>some (.bool b)
 | .int k n=>some (.int k n)
 | .string s=>some (.str (s.data.toList.map UInt8.toNat))
 | .pointer none=>some .nilp
 | .slice none 0 0=>some .cd
 | .map none=>some .nilmap
 | .nilFunc=>some .nilfn
 | .nilIface=>some .niliface
 | .func (.func f) ⟨a⟩ ⟨b⟩=>match ofValues a,ofValues b with
  | some a,some b=>some (.fn f a b)
  | _,_=>none
 | .iface t v=>(ofValue v).map (.iface t)
 | .agg ⟨cs⟩=>bif cs.all aMx then(ofValues cs).map .agg else none
 | .tuple ⟨cs⟩=>(ofValues cs).map .tup
 | _=>none
def ofValues:List Value->Option (bo)
 | []=>some []
 | v::vs=>match ofValue v,ofValues vs with
  | some a,some as=>some (a::as)
  | _,_=>none
end
variable (P:Program)
def eU:Operand->Option cL
 | .tmp t=>some (.t t)
 | .const v=>(ofValue v).map .c
 | .global g=>bif Nat.blt g P.globals.size then some (.c (.ptr g 0)) else none
 | .func f=>some (.c (.fn f [] []))
def wJ:List Operand->Option (List cL)
 | []=>some []
 | x::xs=>match eU P x,wJ xs with
  | some a,some as=>some (a::as)
  | _,_=>none
def lH:Option Operand->Option (Option cL)
 | none=>some none
 | some x=>(eU P x).map some
def aAe(t:TypeId):Option (Bool×Nat):=
 match P.underlying t,P.info? t with
 | some (.struct _),some i=>some (true,i.size)
 | some (.array _ _),some i=>some (true,i.size)
 | some _,some i=>some (false,i.size)
 | _,_=>none
def aDw(t:TypeId):Option AV:=
 match P.info? t with
 | some i=>match i.zero with
  | some v=>ofValue v
  | none=>none
 | none=>none
def eqP(t:TypeId):EqP:=
 match P.underlying t with
 | some .bool=>.bool
 | some (.int _)=>.int
 | some .string=>.str
 | some (.pointer _)=>.ptr
 | some (.slice _)=>.slice
 | some (.map _ _)=>.map
 | some (.func ..)=>.func
 | some (.interface _)=>.iface
 | _=>.no
def eqFields:List Field->List (Nat×EqP)
 | []=>[]
 | f::fs=>bif f.name== "_" then eqFields fs else(f.offset,eqP P f.type)::eqFields fs
def eqT(t:TypeId):oZ:=
 match P.underlying t with
 | some (.struct fs)=>bif P.stoodInHeld t || P.eqGuardType P.depth t then .p .no else .struct (eqFields P fs.toList)
 | some (.array n e)=>bif P.eqGuardType P.depth t || n>64 || P.cellsOf e !=1 then .p .no else .struct ((List.range n).map fun i=>(i,eqP P e))
 | _=>.p (eqP P t)
def wI(place:Nat->Option (Nat×Nat)):List (Nat×Operand)->Option (List (Nat×Nat×cL))
 | []=>some []
 | (i,x)::ps=>match place i,eU P x,wI place ps with
  | some (off,n),some x,some ps=>some ((off,n,x)::ps)
  | _,_,_=>none
def placeOf(fs:Array Field)(i:Nat):Option (Nat×Nat):=
 match fs[i]? with
 | some f=>match P.info? f.type with
  | some s=>some (f.offset,s.size)
  | none=>none
 | none=>none
def oG:List Field->Bool
 | []=>true
 | f::fs=>(P.info? f.type).isSome && oG fs
def xS:List (Nat×Operand)->Option (List (Nat×cL))
 | []=>some []
 | (i,x)::ps=>match eU P x,xS ps with
  | some x,some ps=>some ((i,x)::ps)
  | _,_=>none
def lE(t:TypeId):Option (TypeId×TypeInfo):=
 match P.underlying t with
 | some (.slice e)=>(P.info? e).map fun i=>(e,i)
 | _=>none
def jU(t:TypeId):Option (bo):=(aDw P t).bind AV.cells
def kA(e:TypeId)(i:TypeInfo):Option (bo):=
 match jU P e with
 | some z=>bif Nat.beq z.length i.size then some z else none
 | none=>none
def aN5(u:TypeId)(i:TypeInfo):Bool:=
 match P.underlying u with
 | some (.slice _)=>true
 | some .string=>Nat.beq i.size 1
 | _=>false
def nU(name:String)(t:TypeId)(i:TypeInfo):Option (Nat×Nat×Option (Bool×Nat)):=
 match i.methods.find? (·.name==name) with
 | some m=>bif !m.path.isEmpty then none else match m.func with
  | none=>none
  | some (f,ptr)=>match P.underlying t,ptr with
   | some (.pointer _),true=>some (t,f,none)
   | some (.pointer e),false=>(aAe P e).map fun a=>(t,f,some a)
   | some (.interface _),_=>none
   | some _,false=>some (t,f,none)
   | _,_=>none
 | none=>none
def gK(name:String):List TypeInfo->Nat->List (Nat×Nat×Option (Bool×Nat))
 | [],_=>[]
 | i::is,t=>match nU P name t i with
  | some r=>r::gK name is (t+1)
  | none=>gK name is (t+1)
def plainKey:EqP->Bool
 | .int | .str | .bool=>true
 | _=>false
def aBz:Nat->List (Nat×EqP)->Bool
 | _,[]=>true
 | i,(o,e)::l=>Nat.beq o i && (plainKey e && aBz (i+1) l)
def aBl(t:TypeId):Option oZ:=
 match P.underlying t with
 | some .string=>some (.p .str)
 | some (.int _)=>some (.p .int)
 | some (.struct fs)=>match eqT P t with
  | .struct l=>bif fs.all (fun f=>plainKey (eqP P f.type)) && aBz 0 l then some (.struct l) else none
  | _=>none
 | some (.array _ e)=>match eqT P t with
  | .struct l=>bif plainKey (eqP P e) && aBz 0 l then some (.struct l) else none
  | _=>none
 | _=>none
def aJt(s:String):Option aIw:=
 bif s== "math/bits.Add64" then some .add64
 else bif s== "internal/bytealg.IndexByteString" then some .idxByte
 else none
def aJJ(f:Operand):Option aIw:=
 match f with
 | .func f=>match P.funcs[f]? with
  | some fn=>bif fn.body.isNone && (Extern.allNextRows.lookup fn.origin).isNone then aJt fn.name else none
  | none=>none
 | _=>none
def q(o:Option QOp):Option AOp:=o.map .q
def al(o:Option vH):Option AOp:=o.map .a
def xx(o:Option XOp):Option AOp:=o.map .x
def aLB(b:Builtin)(as:List Operand)(ts:List TypeId):Option AOp:=
 match b with
 | .copy=>match as,ts with
  | [d,s],[t,_]=>match lE P t with
   | some (_,i)=>xx do some (.copy i.size (<-eU P d) (<-eU P s))
   | none=>none
  | _,_=>none
 | _=>none
def pI(o:Op):Option AOp:=
 match o with
 | .move x | .assign x=>q do some (.mv (<-eU P x))
 | .pick c a b=>q do some (.pick (<-eU P c) (<-eU P a) (<-eU P b))
 | .alloc t=>al do some (.alloc t (<-jU P t))
 | .box t x=>al do some (.box t (<-eU P x))
 | .build t ps=>
  match P.underlying t with
  | some (.struct fs)=>bif oG P fs.toList then q do some (.build (<-jU P t) (<-wI P (placeOf P fs) ps.toList)) else none
  | some (.array _ e)=>q do let s <-P.info? e;some (.build (<-jU P t) (<-wI P (fun i=>some (i * s.size,s.size)) ps.toList))
  | _=>none
 | .buildSlice t len ps=>al do
  let (e,i) <-lE P t
  if len * i.size>65536 then none
  some (.cq e i.size len (<-kA P e i) (<-xS P ps.toList))
 | .load t a=>q do let (agg,n) <-aAe P t;some (.ld agg n (<-eU P a))
 | .store t a v=>xx do let (_,n) <-aAe P t;some (.st n (<-eU P a) (<-eU P v))
 | .nilCheck x=>q do some (.cp (<-eU P x))
 | .binOp op t x y _=>q do some (.bin op (eqT P t) (<-eU P x) (<-eU P y))
 | .unOp op _ x=>q do some (.un op (<-eU P x))
 | .convert src dst x=>
  match P.underlying src,P.underlying dst with
  | some (.int _),some (.int k)=>q do some (.conv (.int k) (<-eU P x))
  | some .string,some .string=>q do some (.conv .same (<-eU P x))
  | some (.int _),some .string=>q do some (.conv .intToStr (<-eU P x))
  | some (.slice e),some .string=>match P.underlying e with
   | some (.int .u8)=>q do some (.conv .bytesToStr (<-eU P x))
   | _=>none
  | some .string,some (.slice e)=>match P.underlying e with
   | some (.int .u8)=>al do some (.strBytes e (<-eU P x))
   | _=>none
  | _,_=>none
 | .makeInterface t x=>match P.underlying t with
  | some (.interface _)=>none
  | some _=>q do some (.mkIface t (<-eU P x))
  | none=>none
 | .makeFunc (.method name) a b=>match a.toList,b.toList with
  | [x],[]=>q do some (.mkMeth name (gK P name P.types.toList 0) (<-eU P x))
  | _,_=>none
 | .makeFunc (.func f) a b=>q do some (.mkFunc f (<-wJ P a.toList) (<-wJ P b.toList))
 | .makeMap _ none=>al (some .mkMap)
 | .makeSlice t l c=>al do let (e,i) <-lE P t;some (.di e i.size i.bytes (<-kA P e i) (<-eU P l) (<-eU P c))
 | .slice t x lo hi mx=>bif mx.isSome && hi.isNone then none else
  match P.underlying t with
  | some .string=>q do some (.slc .str (<-eU P x) (<-lH P lo) (<-lH P hi) (<-lH P mx))
  | some (.slice e)=>q do let i <-P.info? e;some (.slc (.slice i.size) (<-eU P x) (<-lH P lo) (<-lH P hi) (<-lH P mx))
  | some (.array n e)=>q do let i <-P.info? e;some (.slc (.arr n i.size) (<-eU P x) (<-lH P lo) (<-lH P hi) (<-lH P mx))
  | _=>none
 | .fieldAddr t x f=>match P.underlying t with
  | some (.struct fs)=>q do
   let f <-fs[f]?
   let i <-P.info? f.type
   if i.size=0 then none
   some (.df f.offset (<-eU P x))
  | _=>none
 | .field t x f=>match P.underlying t with
  | some (.struct fs)=>q do
   let f <-fs[f]?
   let (agg,n) <-aAe P f.type
   some (.fld agg f.offset n (<-eU P x))
  | _=>none
 | .indexAddr t x ix=>match P.underlying t with
  | some (.slice e)=>q do let i <-P.info? e;some (.cw (.slice i.size) (<-eU P x) (<-eU P ix))
  | some (.array n e)=>q do let i <-P.info? e;some (.cw (.arr n i.size) (<-eU P x) (<-eU P ix))
  | _=>none
 | .index t x ix=>match P.underlying t with
  | some .string=>q do some (.idxStr (<-eU P x) (<-eU P ix))
  | some (.array n e)=>q do let (agg,s) <-aAe P e;some (.idxArr agg n s (<-eU P x) (<-eU P ix))
  | _=>none
 | .lookup t m k ok=>match P.underlying t with
  | some (.map kt et)=>q do some (.lookup (<-aBl P kt) (<-aDw P et) ok (<-eU P m) (<-eU P k))
  | _=>none
 | .mapUpdate t m k v | .insert t m k v=>match P.underlying t with
  | some (.map kt _)=>xx do some (.mapUpd (<-aBl P kt) (<-eU P m) (<-eU P k) (<-eU P v))
  | _=>none
 | .typeAssert x _ t ok=>match P.underlying t with
  | some (.interface _)=>none
  | some _=>q do some (.tassert t (<-aDw P t) ok (<-eU P x))
  | none=>none
 | .extract x i=>q do some (.extract (<-eU P x) i)
 | .call {callee:=.value f,args,.. }=>match aJJ P f with
  | some k=>xx do some (.ext k (<-wJ P args.toList))
  | none=>xx do some (.call (<-eU P f) (<-wJ P args.toList))
 | .call {callee:=.invoke r name,args,.. }=>xx do some (.inv (gK P name P.types.toList 0) (<-eU P r) (<-wJ P args.toList))
 | .call {callee:=.builtin b,args,argTypes}=>
  match b,args.toList,argTypes.toList with
  | .len,[x],[t]=>match P.underlying t with
   | some .string=>q do some (.lenStr (<-eU P x))
   | some (.slice _)=>q do some (.c9 (<-eU P x))
   | some (.array n _)=>q (some (.lenArr n))
   | some (.map _ _)=>q do some (.lenMap (<-eU P x))
   | _=>none
  | .cap,[x],[t]=>match P.underlying t with
   | some (.slice _)=>q do some (.capSl (<-eU P x))
   | _=>none
  | .max,xs,_=>q do some (.dn true (<-wJ P xs))
  | .min,xs,_=>q do some (.dn false (<-wJ P xs))
  | .append,[s,x],[t,u]=>match lE P t with
   | some (e,i)=>bif aN5 P u i && (kA P e i).isSome then xx do some (.app e i.size i.bytes (<-eU P s) (<-eU P x)) else none
   | none=>none
  | .clear,[x],[t]=>match lE P t with
   | some (e,i)=>xx do some (.clr (<-kA P e i) (<-eU P x))
   | none=>none
  | b,as,ts=>aLB P b as ts
 | _=>none
def aBe(ops:Array Oper):Option (Nat×Bool)->Option (Option (Nat×Bool))
 | none=>some none
 | some (j,w)=>match (ops[j]?).bind (·.dst) with
  | some d=>some (some (d,w))
  | none=>none
def yD(nt:Nat):Option Tmp->Bool
 | some d=>Nat.blt d nt
 | none=>true
def aJu(nt:Nat)(ops:Array Oper)(o:Oper)(mask:Nat):Option AO:=
 bif yD nt o.dst then
  match aBe ops o.guard with
  | some g=>match pI P o.op with
   | some op=>some ⟨o.dst,op,g,mask⟩
   | none=>some ⟨o.dst,.x .bad,g,mask⟩
  | none=>none
 else none
def oW(nt:Nat)(ops:Array Oper):List Oper->bt->Option (List AO)
 | [],_=>some []
 | o::os,ms=>match aJu P nt ops o (ms.headD 0),oW nt ops os ms.tail with
  | some a,some as=>some (a::as)
  | _,_=>none
def cL.rd(x:cL):bt:=
 match x with
 | .t i=>[i]
 | .c _=>[]
def rds:List cL->bt
 | []=>[]
 | x::xs=>x.rd++rds xs
def rdo(x:Option cL):bt:=
 match x with
 | some x=>x.rd
 | none=>[]
def rdp:List (Nat×Nat×cL)->bt
 | []=>[]
 | (_,_,x)::ps=>x.rd++rdp ps
def aPT:List (Nat×cL)->bt
 | []=>[]
 | (_,x)::ps=>x.rd++aPT ps
def QOp.rd(o:QOp):bt:=
 match o with
 | .mv x | .ld _ _ x | .cp x | .un _ x | .conv _ x | .mkIface _ x | .df _ x | .fld _ _ _ x | .tassert _ _ _ x | .extract x _ | .lenStr x | .c9 x | .lenMap x | .capSl x | .mkMeth _ _ x=>x.rd
 | .pick c a b=>c.rd++(a.rd++b.rd)
 | .build _ ps=>rdp ps
 | .bin _ _ x y | .cw _ x y | .idxArr _ _ _ x y | .idxStr x y | .lookup _ _ _ x y=>x.rd++y.rd
 | .mkFunc _ a b=>rds a++rds b
 | .slc _ x lo hi mx=>x.rd++(rdo lo++(rdo hi++rdo mx))
 | .lenArr _=>[]
 | .dn _ xs=>rds xs
def vH.rd(o:vH):bt:=
 match o with
 | .alloc _ _ | .mkMap=>[]
 | .box _ x | .strBytes _ x=>x.rd
 | .cq _ _ _ _ ps=>aPT ps
 | .di _ _ _ _ l c=>l.rd++c.rd
def XOp.rd(o:XOp):bt:=
 match o with
 | .st _ x v=>x.rd++v.rd
 | .call f args | .inv _ f args=>f.rd++rds args
 | .app _ _ _ s x | .copy _ s x | .mapDel _ s x=>s.rd++x.rd
 | .mapUpd _ m k v=>m.rd++(k.rd++v.rd)
 | .clr _ x=>x.rd
 | .ext _ args=>rds args
 | .bad=>[]
def AOp.rd(o:AOp):bt:=
 match o with
 | .q o=>o.rd
 | .a o=>o.rd
 | .x o=>o.rd
def AO.touch(o:AO):bt:=o.dst.toList++((o.grd.map (·.1)).toList++o.op.rd)
def inL(t:Nat):bt->Bool
 | []=>false
 | u::l=>bif Nat.beq t u then true else inL t l
def meets(d:Option Nat)(b:bt):Bool:=
 match d with
 | some d=>inL d b
 | none=>false
def aFJ(i:Nat)(d:Option Nat)(tch:bt):List AO->Bool
 | []=>true
 | b::l=>(bif meets d b.touch || meets b.dst tch then Nat.testBit b.mask i else true) && aFJ i d tch l
def aJa:Nat->List AO->Bool
 | _,[]=>true
 | i,a::l=>aFJ i a.dst a.touch l && aJa (i+1) l
def aQL(l:List AO):Bool:=aJa 0 l
def aCl:Nat->List Oper->Bool
 | _,[]=>true
 | i,o::l=>o.after.all (fun e=> !Region.binds .any e || Nat.blt e.on i) && aCl (i+1) l
def aCC(nt:Nat)(ops:Array Oper):Option AC:=
 match oW P nt ops ops.toList (CheckFast.beforeL ops.toList 0 []) with
 | some aos=>bif aCl 0 ops.toList && aQL aos then some (.drw aos) else none
 | none=>none
def iF(nt:Nat):Code->Option AC
 | .skip=>some .skip
 | .seq a b=>match iF nt a,iF nt b with
  | some a,some b=>some (.seq a b)
  | _,_=>none
 | .cond c a b=>match eU P c,iF nt a,iF nt b with
  | some c,some a,some b=>some (.cond c a b)
  | _,_,_=>none
 | .block id c=>(iF nt c).map (.block id)
 | .loop c=>(iF nt c).map .loop
 | .exit id=>some (.exit id)
 | .ret=>some .ret
 | .region _ ops d=>bif d then aCC P nt ops else(oW P nt ops ops.toList []).map .reg
 | .rangeFunc f ps as bd=>bif ps.toList.all (fun p=>Nat.blt p nt) then match eU P f,iF nt as,iF nt bd with
  | some f,some as,some bd=>some (.rng f ps.toList as bd)
  | _,_,_=>none
  else none
 | _=>none
def aEl:List ResultVar->Option (List RV)
 | []=>some []
 | .tmp t::rs=>(aEl rs).map (.t t:: ·)
 | .cell a t::rs=>match aAe P t,aEl rs with
  | some (agg,n),some rs=>some (.cell a agg n::rs)
  | _,_=>none
def cFn(fn:Func):Option cM:=
 bif fn.name== "runtime.NumGoroutine" then none else
 match fn.body with
 | some c=>match iF P fn.ntmps c,aEl P fn.results.toList with
  | some c,some rs=>some ⟨fn.ntmps,rs,c⟩
  | _,_=>none
 | none=>none
def qY:AC->Bool
 | .rng _ _ _ _=>false
 | .seq a b=>qY a && qY b
 | .cond _ a b=>qY a && qY b
 | .block _ c=>qY c
 | .loop c=>qY c
 | _=>true
def kpD(k:Nat)(d:Option Nat):Bool:=match d with | some i=> !(Nat.beq i k) | none=>true
def kpO(k:Nat):List AO->Bool
 | []=>true
 | o::l=>kpD k o.dst && kpO k l
def oB(k:Nat):AC->Bool
 | .reg l=>kpO k l
 | .drw l=>kpO k l
 | .seq a b=>oB k a && oB k b
 | .cond _ a b=>oB k a && oB k b
 | .block _ c=>oB k c
 | .loop c=>oB k c
 | .rng _ _ _ _=>false
 | .dfr _ _ _=>false
 | _=>true
def mP(K:Nat):AC->AC
 | .ret=>.exit K
 | .seq a b=>.seq (mP K a) (mP K b)
 | .cond c a b=>.cond c (mP K a) (mP K b)
 | .block i c=>.block i (mP K c)
 | .loop c=>.loop (mP K c)
 | c=>c
def qQ(K:Nat):AC->Bool
 | .exit i=> !(Nat.beq i K)
 | .seq a b=>qQ K a && qQ K b
 | .cond _ a b=>qQ K a && qQ K b
 | .block i c=> !(Nat.beq i K) && qQ K c
 | .loop c=>qQ K c
 | .rng _ _ _ _=>false
 | _=>true
def aIj(nt:Nat)(ops:Array Oper):Option (List AO×Nat×Nat):=
 match ops.toList.reverse with
 | ⟨none,.defer ⟨.value f,as,_⟩,_,_,_,none⟩::l=>
  match oW P nt ops l.reverse [],eU P f,as.toList with
  | some aos,some (.t k),[]=>match aos.reverse with
   | ⟨some j,.q (.mkFunc id _ _),none,_⟩::_=>bif Nat.beq j k then some (aos,k,id) else none
   | _=>none
  | _,_,_=>none
 | _=>none
def aPn:Nat:=1000000
def cDf(nt:Nat):Code->Option (AC×Nat)
 | .seq x y=>
  match (match x with | .region _ ops false=>aIj P nt ops | _=>none) with
  | some (aos,k,id)=>match iF P nt y with
   | some cy=>bif qQ aPn cy && oB k cy then some (.seq (.reg aos) (.seq (.block aPn (mP aPn cy)) (.reg [⟨none,.x (.call (.t k) []),none,0⟩])),id) else none
   | none=>none
  | none=>match iF P nt x,cDf nt y with
   | some cx,some (cy,id)=>bif qY cx then some (.seq cx cy,id) else none
   | _,_=>none
 | _=>none
def aPk(fn:Func):Option (cM×Nat):=
 bif fn.name== "runtime.NumGoroutine" then none else
 match fn.body with
 | some c=>match cDf P fn.ntmps c,aEl P fn.results.toList with
  | some (c,id),some rs=>some (⟨fn.ntmps,rs,c⟩,id)
  | _,_=>none
 | none=>none
end
end Go.Ev
