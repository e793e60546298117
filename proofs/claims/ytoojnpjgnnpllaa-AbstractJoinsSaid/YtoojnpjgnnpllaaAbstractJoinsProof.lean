import Derived.Test.YtoojnpjgnnpllaaRows
import Derived.Test.YtoojnpjgnnpllaaAbstractJoinsFns
import Derived.WalkKit
import Derived.ProofKit
import Derived.OpenShut
import Derived.ChangeStays
import Derived.ChangeArms
import Derived.ChangeSlices
import Derived.ReadAgain
import Derived.SizedLaws
namespace Go.Proofs.Ytoojnpjgnnpllaa.abstractJoins
open Go.ChangeShapes Go.WideShapes Go.ChangeAt Go.RowKit Go.Ev Go.Ev.Gl
theorem own:ownKnob Try.prog.godebug=none:=by kernel_rfl
theorem laidOut:laidOutB Try.prog=true:=by kernel_rfl
theorem aON:mapsRowed Try.prog=true:=by kernel_rfl
theorem shutAll{H:Type}{enc:TypeId×Value→H}{W W':World}{sp:Nat→Bool}(hk:Kept W W'):∀ {ts:List TypeId} {vs:List Value} {ds:List (DataW H)} {ps:List MemPlace},(∀t∈ts,t<Try.prog.types.size)→DataW.TrodAll enc Try.prog W 0 (fun _=>true) true ts vs ds ps→(∀q∈ps,sp q.block=true)→DataW.TrodAll enc Try.prog W' 0 sp true ts vs ds ps
 | [],[],[],_,_,h,_=>h
 | t::ts,v::vs,d::ds,_,ht,⟨p,q,⟨fuel,h1⟩,h2,rfl⟩,hs=>by
  refine⟨p,q,⟨fuel,DataW.trod_stays (T:=(· <Try.prog.types.size)) (kids_rows laidOut aON) (fun h1 h2=>slices_full_of Try.prog (by kernel_rfl) _ _ h1 h2) (fun h=>by cases h) (ht t (Bu ..)) h1 (fun x hx=>?_) (fun x hx=>hs x (Dc _ hx))⟩,shutAll hk (fun u hu=>ht u (Bj _ hu)) h2 (fun x hx=>hs x (Cp _ hx)),rfl⟩;have hlt:=DataW.trod_lt _ _ _ _ h1 x hx;cases x with
  | cell b off=>
   show W'.cell? ⟨b,off,none⟩=W.cell? ⟨b,off,none⟩;unfold World.cell?;rw[hk.heap b hlt]
  | map b=>exact hk.heap b hlt
theorem aL3:Lays Try.prog 28 aHZ:=by
 refine aIS Try.underlying28 Try.underlying64 Try.underlying48 Try.underlying25 Try.underlying26 Try.underlying22 Try.underlying3 (by kernel_rfl) (by kernel_rfl) (by kernel_rfl) (by kernel_rfl) (by kernel_rfl) (by kernel_rfl) (by kernel_rfl) (Dt (by kernel_rfl)) (Dt (by kernel_rfl)) (Dt (by kernel_rfl)) rfl rfl rfl (fun i f h=>?_) (fun i f h=>?_) (fun i f h=>?_)
 ·match i,h with
  | 0,h=>cases h;rfl
  | 1,h=>cases h;rfl
  | 2,h=>cases h;rfl
  | i+3,h=>simp at h
 ·match i,h with
  | 0,h=>cases h;rfl
  | 1,h=>cases h;rfl
  | 2,h=>cases h;rfl
  | 3,h=>cases h;rfl
  | 4,h=>cases h;rfl
  | 5,h=>cases h;rfl
  | i+6,h=>simp at h
 ·match i,h with
  | 0,h=>cases h;rfl
  | 1,h=>cases h;rfl
  | i+2,h=>simp at h
theorem aLg:Lays Try.prog 29 (sP 1 (pN .i64)):=aHD Try.underlying29 Try.underlying22 Try.underlying3 (by kernel_rfl) (by kernel_rfl) (Dt (by kernel_rfl)) (Dt (by kernel_rfl))
set_option maxRecDepth 100000 in
theorem aKg(H:Type)(enc:TypeId×Value→H)(W:World)(base:Nat)(args:Array Value)(ds gs:List (DataW H))(before:List MemPlace)
  (hval:∀ (j:Nat) t v,Try.f10.params[j]? =some t→args[j]? =some v→Value.okWide Try.prog W .any base t v)
  (hW:DataW.Whole enc Try.prog Try.f10.params.toList Rows.abstractJoinsSpec.vars false W args.toList ds gs before)
  (hwt:(DataW.weightsEach Try.prog (Try.f10.params.toList++Rows.abstractJoinsSpec.plain.varTypes Try.prog) (ds++gs)).all (· ≤reachBytes)=true):
  Calls Try.prog 10 args W fun e W'=>∃v,e= .returned v∧Rows.abstractJoinsSpec.post enc Try.prog Try.f10 false true false false W args v W':=by
 have hW':=hW;obtain⟨p,q,hA0,hV,rfl,hfz,hnd⟩:=hW;have hA:DataW.TrodAll enc Try.prog W 0 (fun _=>true) true Try.f10.params.toList args.toList ds p:=hA0;rw[Try.params10] at hA hval;obtain⟨v0,v1,d0,d1,p0,p1,rfl,rfl,hp,h0,h1⟩:=trodAll_two hA;obtain⟨rfl,rfl⟩:=trodVars_none hV;simp only[Dd] at hW';have hv0:Rows.abstractJoinsSpec.plain.varTypes Try.prog= []:=rfl;rw[hv0,Dd,Dd,Try.params10] at hwt;have hw3:∀ (j:Nat) (t:TypeId) (d:DataW H),[28,29][j]? =some t→ [d0,d1][j]? =some d→∀n∈DataW.weights Try.prog t d,n≤140737488355328:=fun j t d h1 h2 n hn=>Ak (Dt (Cv.1 hwt n (uC h1 h2 hn))) (by decide);have hT:aKL Try.prog ([]:List (Nat×List AV)) W:=aJV;have hgl:∀x∈([]:List (Nat×List AV)),x.1<Try.prog.globals.size:=fun x hx=>by cases hx
 obtain⟨f0,e0⟩:=id h0;obtain⟨σ0,S0,nv0,iv0,g0,A0,R0,I0,J0,n0,T0⟩:=aKG (aOK hT) aMf (aMk hgl) (Ah _) aL3 e0 (hw3 0 28 _ rfl rfl);obtain⟨f1,e1⟩:=id h1;obtain⟨b1,bl1,bc1,rfl⟩:=okWide_slice Try.underlying29 (hval 1 29 v1 rfl rfl);obtain⟨σ1,S1,a1,l1,A1,R1,I1,n1⟩:=aJa A0.rep A0.no A0.fresh n0 aLg e1 rfl (hw3 1 29 _ rfl rfl);have hrun:=runs  (aH.same (E:=bP) bF I0 A1.same) (aH.same (E:=cA) bO J0 A1.same) T0 I1;have hargs:gO Try.prog σ1 [.agg [.int .i64 g0.players,nv0,iv0],a1] [v0,.slice b1 bl1 bc1]:=dJ.2 ⟨_,_,rfl,(R0.mono A1.le),dJ.2 ⟨_,_,rfl,R1,cU.2 rfl⟩⟩;refine(aJc knows Try.func10 (by kernel_rfl) (by kernel_rfl) hrun hargs A1.rep A1.no).mono fun e W' ⟨he,hg⟩=>?_;subst he;refine⟨_,rfl,aI8 (pa:=p) (pv:=[]) hW' (fun _ _ _=>(trodAll_cons_mk (shut_bool Try.underlying4 _) trodAll_mk0)) (fun sp hsp=>?_) (fun _ _=>rfl) (by simp)
  hg (ok_one (by kernel_rfl) rfl (okWide_bool_mk Try.underlying4 _))⟩
 show DataW.TrodAll enc Try.prog W' 0 sp true Try.f10.params.toList _ [d0,d1] _;rw[Try.params10];exact shutAll hg (Dt (by kernel_rfl)) hA (fun q hq=>hsp q (by simpa using hq))
set_option maxRecDepth 100000 in
theorem lifted(os:Os)(started:os.Started)(H:Type)(enc:TypeId×Value→H):
  ReturnsInHanded {} Try.checked os 10 .any (Rows.abstractJoinsSpec.pre6 enc Try.prog Try.f10 Rows.abstractJoinsRow.domain false) (Rows.abstractJoinsSpec.post enc Try.prog Try.f10 false true false false):=by
 refine returnsInHanded_of_change_sized (C:=Try.checked) own started (by kernel_rfl) Try.func10
  (ChangeSpec.witness6 (enc:=enc) (C:=Try.checked) false ⟨#[], #[.agg #[.int .i64 0,.slice none 0 0,.slice none 0 0],.slice none 0 0],[]⟩ 8 (by kernel_rfl) (by kernel_rfl) (by kernel_rfl) (by kernel_rfl)) ?_
 intro W base args ds gs before hval hW hcnd hwt _;exact aKg H enc W base args ds gs before hval hW hwt
theorem proved:Rows.AbstractJoinsSaid:=
 OpenClaim.holds_of_wide 10 Try.f10 rfl rfl rfl rfl rfl rfl rfl ⟨rfl,rfl,rfl,rfl,rfl⟩ rfl rfl rfl rfl rfl (by kernel_rfl) Try.func10 (by kernel_rfl)
  (Dt (by kernel_rfl)) (by unfold Func.isWrapper;first | (rw[if_pos (by decide+kernel)];kernel_rfl) | (rw[if_neg (by decide+kernel)];exact⟨rfl,rfl⟩))
  (fun os started H enc _=>lifted os started H enc)
end Go.Proofs.Ytoojnpjgnnpllaa.abstractJoins
#print axioms Go.Proofs.Ytoojnpjgnnpllaa.abstractJoins.proved
