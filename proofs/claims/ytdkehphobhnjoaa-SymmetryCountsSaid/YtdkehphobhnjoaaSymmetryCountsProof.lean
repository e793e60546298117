import Derived.Test.YtdkehphobhnjoaaRows
import Derived.Test.YtdkehphobhnjoaaSymmetryCountsFns
import Derived.WalkKit
import Derived.ProofKit
import Derived.OpenShut
import Derived.ChangeStays
import Derived.ChangeArms
import Derived.ChangeSlices
import Derived.ReadAgain
import Derived.SizedLaws
namespace Go.Proofs.Ytdkehphobhnjoaa.symmetryCounts
open Go.ChangeShapes Go.WideShapes Go.ChangeAt Go.RowKit Go.Ev Go.Ev.Gl
theorem own:ownKnob Try.prog.godebug=none:=by kernel_rfl
theorem laidOut:laidOutB Try.prog=true:=by kernel_rfl
theorem aQ4:mapsRowed Try.prog=true:=by kernel_rfl
theorem shutAll{H:Type}{enc:TypeId×Value->H}{W W':World}{sp:Nat->Bool}(hk:Kept W W'):∀ {ts:List TypeId} {vs:List Value} {ds:List (DataW H)} {ps:List MemPlace},(∀t∈ts,t<Try.prog.types.size)->DataW.TrodAll enc Try.prog W 0 (fun _=>true) true ts vs ds ps->(∀q∈ps,sp q.block=true)->DataW.TrodAll enc Try.prog W' 0 sp true ts vs ds ps
 | [],[],[],_,_,h,_=>h
 | t::ts,v::vs,d::ds,_,ht,⟨p,q,⟨fuel,h1⟩,h2,rfl⟩,hs=>by
  refine⟨p,q,⟨fuel,DataW.trod_stays (T:=(· <Try.prog.types.size)) (kids_rows laidOut aQ4) (fun h1 h2=>slices_full_of Try.prog (by kernel_rfl) _ _ h1 h2) (fun h=>by cases h) (ht t (Br ..)) h1 (fun x hx=>?_) (fun x hx=>hs x (Dh _ hx))⟩,shutAll hk (fun u hu=>ht u (Bj _ hu)) h2 (fun x hx=>hs x (Dk _ hx)),rfl⟩;have hlt:=DataW.trod_lt _ _ _ _ h1 x hx;cases x with
  | cell b off=>
   show W'.cell? ⟨b,off,none⟩=W.cell? ⟨b,off,none⟩;unfold World.cell?;rw[hk.heap b hlt]
  | map b=>exact hk.heap b hlt
theorem aOI:Lays Try.prog 31 (aH6 .i64):=aKI Try.underlying31 Try.underlying3 (by kernel_rfl) (Ef (by kernel_rfl))
section
variable {H:Type}{enc:TypeId×Value->H}{P:Program}{W:World}{base:Nat}{sp:Nat->Bool}{held:Bool}
theorem aK3{r:Reach}{b0:Nat}{t e:TypeId}{v:Value}{d:DataW H}{ps:List MemPlace}(ht:P.underlying t=some (.array 2 e))(he:P.underlying e=some (.int .i64))(hc:P.cellsOf e=1)(hct:P.cellsOf t=2)(hval:Value.okWide P W r b0 t v)(hd:DataW.Trod enc P W base sp held t v d ps):∃a b:Int,v= .agg #[.int .i64 a,.int .i64 b]:=by
 obtain⟨cs,rfl,hs⟩:∃cs:Array Value,v= .agg cs/\cs.size=2:=by
  simp only[Value.okWide,ht] at hval;obtain⟨cs,h1,h2,_⟩:=hval;exact⟨cs,h1,by rw[h2,hct]⟩
 obtain⟨fuel,hf⟩:=hd;obtain⟨xs,m,_,_,_,hl,hi⟩:=DataW.trod_array ht hf;obtain⟨l⟩:=cs
 match l,hs with
 | [x,y],_=>
  have h0:=hi 0 bg;have h1:=hi 1 bg;rw[Ac ay] at h0 h1;simp only[hc,Value.cells,Dm] at h0 h1;obtain⟨a,ha,_⟩:=DataW.trod_int he h0;obtain⟨b,hb,_⟩:=DataW.trod_int he h1;simp at ha hb;subst ha hb;exact⟨a,b,rfl⟩
end
section
variable {H:Type}{enc:TypeId×Value->H}{P:Program}{w:World}{base:Nat}{spare:Nat->Bool}{held:Bool}
theorem aFG{t0 t1 t2 t3 t4:TypeId}{args:Array Value}{ds:List (DataW H)}{ps:List MemPlace}(h:DataW.TrodAll enc P w base spare held [t0,t1,t2,t3,t4] args.toList ds ps):
  ∃v0 v1 v2 v3 v4 d0 d1 d2 d3 d4 p0 p1 p2 p3 p4,args= #[v0,v1,v2,v3,v4]/\ds= [d0,d1,d2,d3,d4]/\ps=p0++p1++p2++p3++p4/\DataW.Trod enc P w base spare held t0 v0 d0 p0/\DataW.Trod enc P w base spare held t1 v1 d1 p1/\DataW.Trod enc P w base spare held t2 v2 d2 p2/\DataW.Trod enc P w base spare held t3 v3 d3 p3/\DataW.Trod enc P w base spare held t4 v4 d4 p4:=by
 obtain⟨v0,vs0,d0,e0,p0,q0,hargs,rfl,rfl,hd0,r0⟩:=trodAll_cons h;obtain⟨v1,vs1,d1,e1,p1,q1,rfl,rfl,rfl,hd1,r1⟩:=trodAll_cons r0;obtain⟨v2,vs2,d2,e2,p2,q2,rfl,rfl,rfl,hd2,r2⟩:=trodAll_cons r1;obtain⟨v3,vs3,d3,e3,p3,q3,rfl,rfl,rfl,hd3,r3⟩:=trodAll_cons r2;obtain⟨v4,vs4,d4,e4,p4,q4,rfl,rfl,rfl,hd4,r4⟩:=trodAll_cons r3;obtain⟨rfl,rfl,rfl⟩:=trodAll_nil r4;exact⟨v0,v1,v2,v3,v4,d0,d1,d2,d3,d4,p0,p1,p2,p3,p4,by cases args;simp_all,rfl,by simp,hd0,hd1,hd2,hd3,hd4⟩
end
set_option maxRecDepth 100000 in
theorem aM0(H:Type)(enc:TypeId×Value->H)(W:World)(base:Nat)(args:Array Value)(ds gs:List (DataW H))(before:List MemPlace)
  (hval:∀ (j:Nat) t v,Try.f4.params[j]? =some t->args[j]? =some v->Value.okWide Try.prog W .any base t v)
  (hW:DataW.Whole enc Try.prog Try.f4.params.toList Rows.symmetryCountsSpec.vars false W args.toList ds gs before)
  (hwt:(DataW.weightsEach Try.prog (Try.f4.params.toList++Rows.symmetryCountsSpec.plain.varTypes Try.prog) (ds++gs)).all (· <=reachBytes)=true):
  Calls Try.prog 4 args W fun e W'=>∃v,e= .returned v/\Rows.symmetryCountsSpec.post enc Try.prog Try.f4 false true false false W args v W':=by
 have hW':=hW;obtain⟨p,q,hA0,hV,rfl,hfz,hnd⟩:=hW;have hA:DataW.TrodAll enc Try.prog W 0 (fun _=>true) true Try.f4.params.toList args.toList ds p:=hA0;rw[Try.params4] at hA hval;obtain⟨v0,v1,v2,v3,v4,d0,d1,d2,d3,d4,p0,p1,p2,p3,p4,rfl,rfl,hp,h0,h1,h2,h3,h4⟩:=aFG hA;obtain⟨rfl,rfl⟩:=trodVars_none hV;simp only[Bi] at hW';have hv0:Rows.symmetryCountsSpec.plain.varTypes Try.prog= []:=rfl;rw[hv0,Bi,Bi,Try.params4] at hwt;have hw3:∀ (j:Nat) (t:TypeId) (d:DataW H),[31,3,3,4,38][j]? =some t-> [d0,d1,d2,d3,d4][j]? =some d->∀n∈DataW.weights Try.prog t d,n<=140737488355328:=fun j t d h1 h2 n hn=>Au (Ef (Dp.1 hwt n (aAL h1 h2 hn))) bg;have hT:aLF Try.prog ([]:List (Nat×b6)) W:=aM1;have hgl:∀x∈([]:List (Nat×b6)),x.1<Try.prog.globals.size:=fun x hx=>by cases hx
 obtain⟨f0,e0⟩:=id h0;obtain⟨b0,bl0,bc0,rfl⟩:=okWide_slice Try.underlying31 (hval 0 31 v0 rfl rfl);obtain⟨σ0,S0,a0,l0,A0,R0,I0,B0,n0⟩:=aJ5 (aQ5 hT) aN9 (aOz hgl) (Ag _) aOI e0 rfl (hw3 0 31 _ rfl rfl);obtain⟨n1,ev1,ed1,_,hn1⟩:=open_int Try.underlying3 (hval 1 3 v1 rfl rfl) h1;have n1w:=bounds_i64 hn1;obtain⟨n2,ev2,ed2,_,hn2⟩:=open_int Try.underlying3 (hval 2 3 v2 rfl rfl) h2;have n2w:=bounds_i64 hn2;obtain⟨n3,ev3,ed3,_⟩:=open_bool Try.underlying4 (hval 3 4 v3 rfl rfl) h3;obtain⟨n4,m4,ev4⟩:=aK3 Try.underlying38 Try.underlying3 (by kernel_rfl) (by kernel_rfl) (hval 4 38 v4 rfl rfl) h4;have hrun:=runs (n3:=n3) (n4:=n4) (m4:=m4) I0 B0 n1w n2w;have hargs:iK Try.prog σ0 [a0,.int .i64 n1,.int .i64 n2,.bool n3,.agg [.int .i64 n4,.int .i64 m4]] [.slice b0 bl0 bc0,v1,v2,v3,v4]:=dF.2 ⟨_,_,rfl,R0,dF.2 ⟨_,_,rfl,(by rw[ev1];simp only[Rv]),dF.2 ⟨_,_,rfl,(by rw[ev2];simp only[Rv]),dF.2 ⟨_,_,rfl,(by rw[ev3];simp only[Rv]),dF.2 ⟨_,_,rfl,(by rw[ev4];simp only[Rv];exact⟨_,rfl,dF.2 ⟨_,_,rfl,(by simp only[Rv]),dF.2 ⟨_,_,rfl,(by simp only[Rv]),dH.2 rfl⟩⟩,(fun v hv=>by simp at hv;rcases hv with rfl | rfl<;>rfl)⟩),dH.2 rfl⟩⟩⟩⟩⟩;refine(aK8 knows Try.func4 (by kernel_rfl) (by kernel_rfl) hrun hargs A0.rep A0.no).mono fun e W' ⟨he,hg⟩=>?_;subst he;refine⟨_,rfl,aKw (pa:=p) (pv:=[]) hW' (fun _ _ _=>(trodAll_cons_mk (shut_bool Try.underlying4 _) trodAll_mk0)) (fun sp hsp=>?_) (fun _ _=>rfl) (by simp)
  hg (ok_one (by kernel_rfl) rfl (okWide_bool_mk Try.underlying4 _))⟩
 show DataW.TrodAll enc Try.prog W' 0 sp true Try.f4.params.toList _ [d0,d1,d2,d3,d4] _;rw[Try.params4];exact shutAll hg (Ef (by kernel_rfl)) hA (fun q hq=>hsp q (by simpa using hq))
set_option maxRecDepth 100000 in
theorem lifted(os:Os)(started:os.Started)(H:Type)(enc:TypeId×Value->H):
  ReturnsInHanded {} Try.checked os 4 .any (Rows.symmetryCountsSpec.pre6 enc Try.prog Try.f4 Rows.symmetryCountsRow.domain false) (Rows.symmetryCountsSpec.post enc Try.prog Try.f4 false true false false):=by
 refine returnsInHanded_of_change_sized (C:=Try.checked) own started (by kernel_rfl) Try.func4
  (ChangeSpec.witness6 (enc:=enc) (C:=Try.checked) false ⟨#[], #[.slice none 0 0,.int .i64 0,.int .i64 0,.bool false,.agg #[.int .i64 0,.int .i64 0]],[]⟩ 8 (by kernel_rfl) (by kernel_rfl) (by kernel_rfl) (by kernel_rfl)) ?_
 intro W base args ds gs before hval hW hcnd hwt _;exact aM0 H enc W base args ds gs before hval hW hwt
theorem proved:Rows.SymmetryCountsSaid:=
 OpenClaim.holds_of_wide 4 Try.f4 rfl rfl rfl rfl rfl rfl rfl ⟨rfl,rfl,rfl,rfl,rfl⟩ rfl rfl rfl rfl rfl (by kernel_rfl) Try.func4 (by kernel_rfl)
  (Ef (by kernel_rfl)) (by unfold Func.isWrapper;first | (rw[if_pos (by decide+kernel)];kernel_rfl) | (rw[if_neg (by decide+kernel)];exact⟨rfl,rfl⟩))
  (fun os started H enc _=>lifted os started H enc)
end Go.Proofs.Ytdkehphobhnjoaa.symmetryCounts
#print axioms Go.Proofs.Ytdkehphobhnjoaa.symmetryCounts.proved
