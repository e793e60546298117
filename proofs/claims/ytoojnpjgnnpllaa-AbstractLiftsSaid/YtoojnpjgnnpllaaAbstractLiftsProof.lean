import Derived.Test.YtoojnpjgnnpllaaRows
import Derived.Test.YtoojnpjgnnpllaaAbstractLiftsFns
import Derived.WalkKit
import Derived.ProofKit
import Derived.OpenShut
import Derived.ChangeStays
import Derived.ChangeArms
import Derived.ChangeSlices
import Derived.ReadAgain
import Derived.SizedLaws
namespace Go.Proofs.Ytoojnpjgnnpllaa.abstractLifts
open Go.ChangeShapes Go.WideShapes Go.ChangeAt Go.RowKit Go.Ev Go.Ev.Gl
theorem own:ownKnob Try.prog.godebug=none:=by kernel_rfl
theorem laidOut:laidOutB Try.prog=true:=by kernel_rfl
theorem aRa:mapsRowed Try.prog=true:=by kernel_rfl
theorem shutAll{H:Type}{enc:TypeId×Value->H}{W W':World}{sp:Nat->Bool}(hk:Kept W W'):∀ {ts:List TypeId} {vs:List Value} {ds:List (DataW H)} {ps:List MemPlace},(∀t∈ts,t<Try.prog.types.size)->DataW.TrodAll enc Try.prog W 0 (fun _=>true) true ts vs ds ps->(∀q∈ps,sp q.block=true)->DataW.TrodAll enc Try.prog W' 0 sp true ts vs ds ps
 | [],[],[],_,_,h,_=>h
 | t::ts,v::vs,d::ds,_,ht,⟨p,q,⟨fuel,h1⟩,h2,rfl⟩,hs=>by
  refine⟨p,q,⟨fuel,DataW.trod_stays (T:=(· <Try.prog.types.size)) (kids_rows laidOut aRa) (fun h1 h2=>slices_full_of Try.prog (by kernel_rfl) _ _ h1 h2) (fun h=>by cases h) (ht t (Bv ..)) h1 (fun x hx=>?_) (fun x hx=>hs x (De _ hx))⟩,shutAll hk (fun u hu=>ht u (Bk _ hu)) h2 (fun x hx=>hs x (Cv _ hx)),rfl⟩;have hlt:=DataW.trod_lt _ _ _ _ h1 x hx;cases x with
  | cell b off=>
   show W'.cell? ⟨b,off,none⟩=W.cell? ⟨b,off,none⟩;unfold World.cell?;rw[hk.heap b hlt]
  | map b=>exact hk.heap b hlt
theorem aNc:Lays Try.prog 28 aJh:=by
 refine aJ2 Try.underlying28 Try.underlying64 Try.underlying48 Try.underlying25 Try.underlying26 Try.underlying22 Try.underlying3 (by kernel_rfl) (by kernel_rfl) (by kernel_rfl) (by kernel_rfl) (by kernel_rfl) (by kernel_rfl) (by kernel_rfl) (Db (by kernel_rfl)) (Db (by kernel_rfl)) (Db (by kernel_rfl)) rfl rfl rfl (fun i f h=>?_) (fun i f h=>?_) (fun i f h=>?_)
 ·match i,h with
  | 0,h=>cases h;rfl
  | 1,h=>cases h;rfl
  | 2,h=>cases h;rfl
  | i+3,h=>simp at h
 ·match i,h with
  | 0,h=>cases h;rfl
  | 1,h=>cases h;rfl
  | 2,h=>cases h;rfl
  | 3,h=>cases h;rfl
  | 4,h=>cases h;rfl
  | 5,h=>cases h;rfl
  | i+6,h=>simp at h
 ·match i,h with
  | 0,h=>cases h;rfl
  | 1,h=>cases h;rfl
  | i+2,h=>simp at h
theorem aP9:Lays Try.prog 87 aOd:=by
 refine aMK (tr:=93) (tq:=97) (b:=4) (tu:=95) (u:=99) Try.underlying87 Try.underlying93 Try.underlying97 Try.underlying4 Try.underlying95 Try.underlying99 (by kernel_rfl) (by kernel_rfl) (by kernel_rfl) (by kernel_rfl) (by kernel_rfl) (Db (by kernel_rfl)) (Db (by kernel_rfl)) (Db (by kernel_rfl)) rfl (fun i f h=>?_)
 match i,h with
 | 0,h=>cases h;rfl
 | 1,h=>cases h;rfl
 | 2,h=>cases h;rfl
 | i+3,h=>simp at h
theorem aLi:Lays Try.prog 29 (qM 1 (rS .i64)):=aIX Try.underlying29 Try.underlying22 Try.underlying3 (by kernel_rfl) (by kernel_rfl) (Db (by kernel_rfl)) (Db (by kernel_rfl))
set_option maxRecDepth 100000 in
theorem aMz(H:Type)(enc:TypeId×Value->H)(W:World)(base:Nat)(args:Array Value)(ds gs:List (DataW H))(before:List MemPlace)
  (hval:∀ (j:Nat) t v,Try.f12.params[j]? =some t->args[j]? =some v->Value.okWide Try.prog W .any base t v)
  (hW:DataW.Whole enc Try.prog Try.f12.params.toList Rows.abstractLiftsSpec.vars false W args.toList ds gs before)
  (hwt:(DataW.weightsEach Try.prog (Try.f12.params.toList++Rows.abstractLiftsSpec.plain.varTypes Try.prog) (ds++gs)).all (· <=reachBytes)=true):
  Calls Try.prog 12 args W fun e W'=>∃v,e= .returned v/\Rows.abstractLiftsSpec.post enc Try.prog Try.f12 false true false false W args v W':=by
 have hW':=hW;obtain⟨p,q,hA0,hV,rfl,hfz,hnd⟩:=hW;have hA:DataW.TrodAll enc Try.prog W 0 (fun _=>true) true Try.f12.params.toList args.toList ds p:=hA0;rw[Try.params12] at hA hval;obtain⟨v0,v1,v2,d0,d1,d2,p0,p1,p2,rfl,rfl,hp,h0,h1,h2⟩:=trodAll_three hA;obtain⟨rfl,rfl⟩:=trodVars_none hV;simp only[Dn] at hW';have hv0:Rows.abstractLiftsSpec.plain.varTypes Try.prog= []:=rfl;rw[hv0,Dn,Dn,Try.params12] at hwt;have hw3:∀ (j:Nat) (t:TypeId) (d:DataW H),[28,29,87][j]? =some t-> [d0,d1,d2][j]? =some d->∀n∈DataW.weights Try.prog t d,n<=140737488355328:=fun j t d h1 h2 n hn=>Al (Db (Di.1 hwt n (vX h1 h2 hn))) ay;have hT:aMi Try.prog ([]:List (Nat×bf)) W:=aMQ;have hgl:∀x∈([]:List (Nat×bf)),x.1<Try.prog.globals.size:=fun x hx=>by cases hx
 obtain⟨f0,e0⟩:=id h0;obtain⟨σ0,S0,nv0,iv0,g0,A0,R0,I0,J0,n0,T0⟩:=aMn (aRC hT) aN0 (aNM hgl) (Ag _) aNc e0 (hw3 0 28 _ rfl rfl);obtain⟨f1,e1⟩:=id h1;obtain⟨b1,bl1,bc1,rfl⟩:=okWide_slice Try.underlying29 (hval 1 29 v1 rfl rfl);obtain⟨σ1,S1,a1,l1,A1,R1,I1,n1⟩:=aKj A0.rep A0.no A0.fresh n0 aLi e1 rfl (hw3 1 29 _ rfl rfl);obtain⟨f2,e2⟩:=id h2;obtain⟨b2,bl2,bc2,rfl⟩:=okWide_slice Try.underlying87 (hval 2 87 v2 rfl rfl);obtain⟨σ2,S2,a2,l2,A2,R2,I2,n2,T2⟩:=aNr A1.rep A1.no A1.fresh (Al n0 n1) aP9 e2 rfl (hw3 2 87 _ rfl rfl);have hrun:=runs  (aE.same (E:=bX) bL I0 (A1.trans A2).same) (aE.same (E:=bP) bK J0 (A1.trans A2).same) T0 (aE.same (E:=iD) Go.Ev.Gl.cm I1 A2.same) I2 T2;have hargs:iH Try.prog σ2 [.agg [.int .i64 g0.bo,nv0,iv0],a1,a2] [v0,.slice b1 bl1 bc1,.slice b2 bl2 bc2]:=dB.2 ⟨_,_,rfl,(R0.mono (A1.trans A2).le),dB.2 ⟨_,_,rfl,(R1.mono A2.le),dB.2 ⟨_,_,rfl,R2,cS.2 rfl⟩⟩⟩;refine(aKB knows Try.func12 (by kernel_rfl) (by kernel_rfl) hrun hargs A2.rep A2.no).mono fun e W' ⟨he,hg⟩=>?_;subst he;refine⟨_,rfl,aKV (pa:=p) (pv:=[]) hW' (fun _ _ _=>(trodAll_cons_mk (shut_bool Try.underlying4 _) trodAll_mk0)) (fun sp hsp=>?_) (fun _ _=>rfl) (by simp)
  hg (ok_one (by kernel_rfl) rfl (okWide_bool_mk Try.underlying4 _))⟩
 show DataW.TrodAll enc Try.prog W' 0 sp true Try.f12.params.toList _ [d0,d1,d2] _;rw[Try.params12];exact shutAll hg (Db (by kernel_rfl)) hA (fun q hq=>hsp q (by simpa using hq))
set_option maxRecDepth 100000 in
theorem lifted(os:Os)(started:os.Started)(H:Type)(enc:TypeId×Value->H):
  ReturnsInHanded {} Try.checked os 12 .any (Rows.abstractLiftsSpec.pre6 enc Try.prog Try.f12 Rows.abstractLiftsRow.domain false) (Rows.abstractLiftsSpec.post enc Try.prog Try.f12 false true false false):=by
 refine returnsInHanded_of_change_sized (C:=Try.checked) own started (by kernel_rfl) Try.func12
  (ChangeSpec.witness6 (enc:=enc) (C:=Try.checked) false ⟨#[], #[.agg #[.int .i64 0,.slice none 0 0,.slice none 0 0],.slice none 0 0,.slice none 0 0],[]⟩ 8 (by kernel_rfl) (by kernel_rfl) (by kernel_rfl) (by kernel_rfl)) ?_
 intro W base args ds gs before hval hW hcnd hwt _;exact aMz H enc W base args ds gs before hval hW hwt
theorem proved:Rows.AbstractLiftsSaid:=
 OpenClaim.holds_of_wide 12 Try.f12 rfl rfl rfl rfl rfl rfl rfl ⟨rfl,rfl,rfl,rfl,rfl⟩ rfl rfl rfl rfl rfl (by kernel_rfl) Try.func12 (by kernel_rfl)
  (Db (by kernel_rfl)) (by unfold Func.isWrapper;first | (rw[if_pos (by decide+kernel)];kernel_rfl) | (rw[if_neg (by decide+kernel)];exact⟨rfl,rfl⟩))
  (fun os started H enc _=>lifted os started H enc)
end Go.Proofs.Ytoojnpjgnnpllaa.abstractLifts
#print axioms Go.Proofs.Ytoojnpjgnnpllaa.abstractLifts.proved
