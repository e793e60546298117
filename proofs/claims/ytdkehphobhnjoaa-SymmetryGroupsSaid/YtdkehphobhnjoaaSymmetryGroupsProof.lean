import Derived.Test.YtdkehphobhnjoaaRows
import Derived.Test.YtdkehphobhnjoaaSymmetryGroupsFns
import Derived.WalkKit
import Derived.ProofKit
import Derived.OpenShut
import Derived.ChangeStays
import Derived.ChangeArms
import Derived.ChangeSlices
import Derived.ReadAgain
import Derived.SizedLaws
namespace Go.Proofs.Ytdkehphobhnjoaa.symmetryGroups
open Go.ChangeShapes Go.WideShapes Go.ChangeAt Go.RowKit Go.Ev Go.Ev.Gl
theorem own:ownKnob Try.prog.godebug=none:=by kernel_rfl
theorem laidOut:laidOutB Try.prog=true:=by kernel_rfl
theorem aNz:mapsRowed Try.prog=true:=by kernel_rfl
theorem shutAll{H:Type}{enc:TypeId×Value→H}{W W':World}{sp:Nat→Bool}(hk:Kept W W'):∀ {ts:List TypeId} {vs:List Value} {ds:List (DataW H)} {ps:List MemPlace},(∀t∈ts,t<Try.prog.types.size)→DataW.TrodAll enc Try.prog W 0 (fun _=>true) true ts vs ds ps→(∀q∈ps,sp q.block=true)→DataW.TrodAll enc Try.prog W' 0 sp true ts vs ds ps
 | [],[],[],_,_,h,_=>h
 | t::ts,v::vs,d::ds,_,ht,⟨p,q,⟨fuel,h1⟩,h2,rfl⟩,hs=>by
  refine⟨p,q,⟨fuel,DataW.trod_stays (T:=(· <Try.prog.types.size)) (kids_rows laidOut aNz) (fun h1 h2=>slices_full_of Try.prog (by kernel_rfl) _ _ h1 h2) (fun h=>by cases h) (ht t (Bt ..)) h1 (fun x hx=>?_) (fun x hx=>hs x (Ed _ hx))⟩,shutAll hk (fun u hu=>ht u (Bn _ hu)) h2 (fun x hx=>hs x (Di _ hx)),rfl⟩;have hlt:=DataW.trod_lt _ _ _ _ h1 x hx;cases x with
  | cell b off=>
   show W'.cell? ⟨b,off,none⟩=W.cell? ⟨b,off,none⟩;unfold World.cell?;rw[hk.heap b hlt]
  | map b=>exact hk.heap b hlt
theorem aK8:Lays Try.prog 25 aHn:=by
 refine aIl Try.underlying25 Try.underlying53 Try.underlying85 Try.underlying22 Try.underlying23 Try.underlying31 Try.underlying3 (by kernel_rfl) (by kernel_rfl) (by kernel_rfl) (by kernel_rfl) (by kernel_rfl) (by kernel_rfl) (by kernel_rfl) (Dc (by kernel_rfl)) (Dc (by kernel_rfl)) (Dc (by kernel_rfl)) rfl rfl rfl (fun i f h=>?_) (fun i f h=>?_) (fun i f h=>?_)
 ·match i,h with
  | 0,h=>cases h;rfl
  | 1,h=>cases h;rfl
  | 2,h=>cases h;rfl
  | i+3,h=>simp at h
 ·match i,h with
  | 0,h=>cases h;rfl
  | 1,h=>cases h;rfl
  | 2,h=>cases h;rfl
  | 3,h=>cases h;rfl
  | 4,h=>cases h;rfl
  | 5,h=>cases h;rfl
  | i+6,h=>simp at h
 ·match i,h with
  | 0,h=>cases h;rfl
  | 1,h=>cases h;rfl
  | i+2,h=>simp at h
theorem aJZ:Lays Try.prog 26 (qC 1 (nS .i64)):=aGd Try.underlying26 Try.underlying31 Try.underlying3 (by kernel_rfl) (by kernel_rfl) (Dc (by kernel_rfl)) (Dc (by kernel_rfl))
set_option maxRecDepth 100000 in
theorem aKb(H:Type)(enc:TypeId×Value→H)(W:World)(base:Nat)(args:Array Value)(ds gs:List (DataW H))(before:List MemPlace)
  (hval:∀ (j:Nat) t v,Try.f3.params[j]? =some t→args[j]? =some v→Value.okWide Try.prog W .any base t v)
  (hW:DataW.Whole enc Try.prog Try.f3.params.toList Rows.symmetryGroupsSpec.vars false W args.toList ds gs before)
  (hwt:(DataW.weightsEach Try.prog (Try.f3.params.toList++Rows.symmetryGroupsSpec.plain.varTypes Try.prog) (ds++gs)).all (· ≤reachBytes)=true):
  Calls Try.prog 3 args W fun e W'=>∃v,e= .returned v∧Rows.symmetryGroupsSpec.post enc Try.prog Try.f3 false true false false W args v W':=by
 have hW':=hW;obtain⟨p,q,hA0,hV,rfl,hfz,hnd⟩:=hW;have hA:DataW.TrodAll enc Try.prog W 0 (fun _=>true) true Try.f3.params.toList args.toList ds p:=hA0;rw[Try.params3] at hA hval;obtain⟨v0,v1,d0,d1,p0,p1,rfl,rfl,hp,h0,h1⟩:=trodAll_two hA;obtain⟨rfl,rfl⟩:=trodVars_none hV;simp only[Bs] at hW';have hv0:Rows.symmetryGroupsSpec.plain.varTypes Try.prog= []:=rfl;rw[hv0,Bs,Bs,Try.params3] at hwt;have hw3:∀ (j:Nat) (t:TypeId) (d:DataW H),[25,26][j]? =some t→ [d0,d1][j]? =some d→∀n∈DataW.weights Try.prog t d,n≤140737488355328:=fun j t d h1 h2 n hn=>Ay (Dc (Dk.1 hwt n (rG h1 h2 hn))) (by decide);have hT:aJe Try.prog ([]:List (Nat×List AV)) W:=aKc;have hgl:∀x∈([]:List (Nat×List AV)),x.1<Try.prog.globals.size:=fun x hx=>by cases hx
 obtain⟨f0,e0⟩:=id h0;obtain⟨σ0,S0,nv0,iv0,g0,A0,R0,I0,J0,n0,T0⟩:=aJv (aNA hT) aK2 (aLp hgl) (Ah _) aK8 e0 (hw3 0 25 _ rfl rfl);obtain⟨f1,e1⟩:=id h1;obtain⟨b1,bl1,bc1,rfl⟩:=okWide_slice Try.underlying26 (hval 1 26 v1 rfl rfl);obtain⟨σ1,S1,a1,l1,A1,R1,I1,n1⟩:=aI1 A0.rep A0.no A0.fresh n0 aJZ e1 rfl (hw3 1 26 _ rfl rfl);have hrun:=runs  (aN.same (E:=bT) bI I0 A1.same) (aN.same (E:=cV) cE J0 A1.same) T0 I1;have hargs:fJ Try.prog σ1 [.agg [.int .i64 g0.players,nv0,iv0],a1] [v0,.slice b1 bl1 bc1]:=cF.2 ⟨_,_,rfl,(R0.mono A1.le),cF.2 ⟨_,_,rfl,R1,cG.2 rfl⟩⟩;refine(aII knows Try.func3 (by kernel_rfl) (by kernel_rfl) hrun hargs A1.rep A1.no).mono fun e W' ⟨he,hg⟩=>?_;subst he;refine⟨_,rfl,aIb (pa:=p) (pv:=[]) hW' (fun _ _ _=>(trodAll_cons_mk (shut_bool Try.underlying4 _) trodAll_mk0)) (fun sp hsp=>?_) (fun _ _=>rfl) (by simp)
  hg (ok_one (by kernel_rfl) rfl (okWide_bool_mk Try.underlying4 _))⟩
 show DataW.TrodAll enc Try.prog W' 0 sp true Try.f3.params.toList _ [d0,d1] _;rw[Try.params3];exact shutAll hg (Dc (by kernel_rfl)) hA (fun q hq=>hsp q (by simpa using hq))
set_option maxRecDepth 100000 in
theorem lifted(os:Os)(started:os.Started)(H:Type)(enc:TypeId×Value→H):
  ReturnsInHanded {} Try.checked os 3 .any (Rows.symmetryGroupsSpec.pre6 enc Try.prog Try.f3 Rows.symmetryGroupsRow.domain false) (Rows.symmetryGroupsSpec.post enc Try.prog Try.f3 false true false false):=by
 refine returnsInHanded_of_change_sized (C:=Try.checked) own started (by kernel_rfl) Try.func3
  (ChangeSpec.witness6 (enc:=enc) (C:=Try.checked) false ⟨#[], #[.agg #[.int .i64 0,.slice none 0 0,.slice none 0 0],.slice none 0 0],[]⟩ 8 (by kernel_rfl) (by kernel_rfl) (by kernel_rfl) (by kernel_rfl)) ?_
 intro W base args ds gs before hval hW hcnd hwt _;exact aKb H enc W base args ds gs before hval hW hwt
theorem proved:Rows.SymmetryGroupsSaid:=
 OpenClaim.holds_of_wide 3 Try.f3 rfl rfl rfl rfl rfl rfl rfl ⟨rfl,rfl,rfl,rfl,rfl⟩ rfl rfl rfl rfl rfl (by kernel_rfl) Try.func3 (by kernel_rfl)
  (Dc (by kernel_rfl)) (by unfold Func.isWrapper;first | (rw[if_pos (by decide+kernel)];kernel_rfl) | (rw[if_neg (by decide+kernel)];exact⟨rfl,rfl⟩))
  (fun os started H enc _=>lifted os started H enc)
end Go.Proofs.Ytdkehphobhnjoaa.symmetryGroups
#print axioms Go.Proofs.Ytdkehphobhnjoaa.symmetryGroups.proved
