import Derived.Test.YtiiplmagnlcpbaaGreatDoorCards
import Derived.Test.YtiiplmagnlcpbaaGreatDoorTie
import Derived.Test.YtiiplmagnlcpbaaGreatDoorDealMeansFns
import Derived.WalkKit
import Derived.ProofKit
import Derived.OpenShut
import Derived.Carry
import Derived.ChangeSlices
import Derived.Deep.DeepHandedRow
import Derived.Lib.LaidTab
import Derived.Stop.LaidErr
import Derived.ChangeStays
import Derived.ChangeArms
import Derived.ChangeSlices
import Derived.ReadAgain
import Derived.SizedLaws
set_option linter.unusedSimpArgs false
set_option linter.unusedVariables false
namespace Go.Proofs.YtiiplmagnlcpbaaGreatDoor.dealMeans
open Go.ChangeShapes Go.WideShapes Go.ChangeAt Go.RowKit Go.Ev Go.Ev.Gl
theorem own:ownKnob Tryz.prog.godebug=none:=by kernel_rfl
theorem aQN:Tryz.prog.globalNamed "math/bits.deBruijn64tab" =some 0:=by kernel_rfl
theorem aR9:(Tryz.prog.globals[0]?).map (·.type)=some 193:=by kernel_rfl
theorem aRd:Tryz.prog.cellsOf 193=64:=by kernel_rfl
theorem aSo:Tryz.prog.cellsOf 5=1:=by kernel_rfl
def aOF:bm:=[0,1,56,2,57,49,28,3,61,58,42,50,38,29,17,4,62,47,59,36,45,43,51,22,53,39,33,30,24,18,12,5,63,55,48,27,60,41,37,16,46,35,44,21,52,32,23,11,54,26,40,15,34,20,31,10,25,14,19,9,13,8,7,6]
theorem table{W:World}(h:laidMetH Tryz.prog Rows.dealMeansRow.laid W):aIU Tryz.prog awake.tabs W:=by
 have h0:laidMet Tryz.prog [("math/bits.deBruijn64tab",Lib.tabData .u8 aOF)] W:=h;have t0:Lib.TabIs Tryz.prog W "math/bits.deBruijn64tab" .u8 aOF:=Lib.tabIs_of_head aQN aR9 Tryz.underlying193 Tryz.underlying5 aSo aRd h0;exact(aMi aQN (Fb (by kernel_rfl)) t0 (by kernel_rfl) ay aOv)
theorem laidOut:laidOutB Tryz.prog=true:=by kernel_rfl
theorem aSq:mapsRowed Tryz.prog=true:=by kernel_rfl
theorem shutAll{H:Type}{enc:TypeId×Value->H}{W W':World}{sp:Nat->Bool}(hk:Kept W W'):∀ {ts:List TypeId} {vs:List Value} {ds:List (DataW H)} {ps:List MemPlace},(∀t∈ts,t<Tryz.prog.types.size)->DataW.TrodAll enc Tryz.prog W 0 (fun _=>true) true ts vs ds ps->(∀q∈ps,sp q.block=true)->DataW.TrodAll enc Tryz.prog W' 0 sp true ts vs ds ps
 | [],[],[],_,_,h,_=>h
 | t::ts,v::vs,d::ds,_,ht,⟨p,q,⟨fuel,h1⟩,h2,rfl⟩,hs=>by
  refine⟨p,q,⟨fuel,DataW.trod_stays (T:=(· <Tryz.prog.types.size)) (kids_rows laidOut aSq) (fun h1 h2=>slices_full_of Tryz.prog (by kernel_rfl) _ _ h1 h2) (fun h=>by cases h) (ht t (Bn ..)) h1 (fun x hx=>?_) (fun x hx=>hs x (Ei _ hx))⟩,shutAll hk (fun u hu=>ht u (Bf _ hu)) h2 (fun x hx=>hs x (Dr _ hx)),rfl⟩;have hlt:=DataW.trod_lt _ _ _ _ h1 x hx;cases x with
  | cell b off=>
   show W'.cell? ⟨b,off,none⟩=W.cell? ⟨b,off,none⟩;unfold World.cell?;rw[hk.heap b hlt]
  | map b=>exact hk.heap b hlt
theorem aQf:Lays Tryz.prog 26 (aIJ .i64):=aL2 Tryz.underlying26 Tryz.underlying3 (by kernel_rfl) (Fb (by kernel_rfl))
set_option maxRecDepth 100000 in
theorem aOu(H:Type)(enc:TypeId×Value->H)(W:World)(base:Nat)(args:Array Value)(ds gs:List (DataW H))(before:List MemPlace)
  (hval:∀ (j:Nat) t v,Tryz.f5.params[j]? =some t->args[j]? =some v->Value.okWide Tryz.prog W .any base t v)
  (hW:DataW.Whole enc Tryz.prog Tryz.f5.params.toList Rows.dealMeansSpec.vars false W args.toList ds gs before)
  (hwt:(DataW.weightsEach Tryz.prog (Tryz.f5.params.toList++Rows.dealMeansSpec.plain.varTypes Tryz.prog) (ds++gs)).all (· <=reachBytes)=true) (hL:laidMetH Tryz.prog Rows.dealMeansRow.laid W):
  Calls Tryz.prog 5 args W fun e W'=>∃v,e= .returned v/\Rows.dealMeansSpec.post enc Tryz.prog Tryz.f5 false true false false W args v W':=by
 have hW':=hW;obtain⟨p,q,hA0,hV,rfl,hfz,hnd⟩:=hW;have hA:DataW.TrodAll enc Tryz.prog W 0 (fun _=>true) true Tryz.f5.params.toList args.toList ds p:=hA0;rw[Tryz.params5] at hA hval;obtain⟨v0,v1,d0,d1,p0,p1,rfl,rfl,hp,h0,h1⟩:=trodAll_two hA;obtain⟨rfl,rfl⟩:=trodVars_none hV;simp only[Cb] at hW';have hv0:Rows.dealMeansSpec.plain.varTypes Tryz.prog= []:=rfl;rw[hv0,Cb,Cb,Tryz.params5] at hwt;have hw3:∀ (j:Nat) (t:TypeId) (d:DataW H),[26,3][j]? =some t-> [d0,d1][j]? =some d->∀n∈DataW.weights Tryz.prog t d,n<=140737488355328:=fun j t d h1 h2 n hn=>Bb (Fb (Et.1 hwt n (aBf h1 h2 hn))) ay;have hT:=table hL;have hgl:∀x∈awake.tabs,x.1<Tryz.prog.globals.size:=fun x hx=>(hT x hx).1;obtain⟨f0,e0⟩:=id h0;obtain⟨b0,bl0,bc0,rfl⟩:=okWide_slice Tryz.underlying26 (hval 0 26 v0 rfl rfl);obtain⟨σ0,S0,a0,l0,A0,R0,I0,B0,n0⟩:=aLg (aSr hT) aPG (aP6 hgl) (Af _) aQf e0 rfl (hw3 0 26 _ rfl rfl);obtain⟨n1,ev1,ed1,_,hn1⟩:=open_int Tryz.underlying3 (hval 1 3 v1 rfl rfl) h1;have n1w:=bounds_i64 hn1;have hrun:=runs  (aSt.same A0.same) A0.fresh I0 B0 n1w;have hargs:iD Tryz.prog σ0 [a0,.int .i64 n1] [.slice b0 bl0 bc0,v1]:=cS.2 ⟨_,_,rfl,R0,cS.2 ⟨_,_,rfl,(by rw[ev1];simp only[Rv]),cT.2 rfl⟩⟩;refine(aMo knows Tryz.func5 (by kernel_rfl) (by kernel_rfl) hrun hargs A0.rep A0.no).mono fun e W' ⟨he,hg⟩=>?_;subst he;refine⟨_,rfl,aLN (pa:=p) (pv:=[]) hW' (fun _ _ _=>(trodAll_cons_mk (shut_bool Tryz.underlying4 _) trodAll_mk0)) (fun sp hsp=>?_) (fun _ _=>rfl) (by simp)
  hg (ok_one (by kernel_rfl) rfl (okWide_bool_mk Tryz.underlying4 _))⟩
 show DataW.TrodAll enc Tryz.prog W' 0 sp true Tryz.f5.params.toList _ [d0,d1] _;rw[Tryz.params5];exact shutAll hg (Fb (by kernel_rfl)) hA (fun q hq=>hsp q (by simpa using hq))
noncomputable def aBF(os:Os):World:=
 {World.holding Tryz.prog os ⟨#[], #[.slice none 0 0,.int .i64 0],[]⟩ with heap:=((World.holding Tryz.prog os ⟨#[], #[.slice none 0 0,.int .i64 0],[]⟩).heap.modify 0 fun
   | .cells _ t frozen=>.cells (aOF.map (Value.int .u8)).toArray t frozen
   | o=>o)}
theorem aOM(os:Os):laidMet Tryz.prog Rows.dealMeansRow.laid ((aBF os).forCall (fun _ _=>0) ⟨#[], #[.slice none 0 0,.int .i64 0],[]⟩).memory:=
 laidMet_of_run' 8 (by kernel_rfl) (by kernel_rfl)
theorem reads(os:Os){H:Type}(enc:TypeId×Value->H):∃places,DataW.whole enc Tryz.prog ((aBF os).forCall (fun _ _=>0) ⟨#[], #[.slice none 0 0,.int .i64 0],[]⟩).memory Tryz.f5.params.toList Rows.dealMeansSpec.vars false (#[.slice none 0 0,.int .i64 0]:Array Value).toList 8=some ([.nil,.lit (.int .i64 0)],[],places):=
 ⟨[],by kernel_rfl⟩
set_option maxRecDepth 100000 in
theorem lifted(os:Os)(started:os.Started)(H:Type)(enc:TypeId×Value->H)(F:Stop.Interp):
  ReturnsInHanded {} Tryz.checked os 5 .any ((OpenSpec.ofChange Rows.dealMeansSpec).preRow enc Tryz.prog Tryz.f5 Rows.dealMeansRow.domain false Rows.dealMeansRow.laid) (((OpenSpec.ofChange Rows.dealMeansSpec).at F).post enc Tryz.prog Tryz.f5 false true false false):=by
 obtain⟨places,hx⟩:=reads os enc;refine returnsInHanded_of_row (C:=Tryz.checked) (s:=OpenSpec.ofChange Rows.dealMeansSpec) own started (by kernel_rfl) Tryz.func5
  (witness_row_at (enc:=enc) (C:=Tryz.checked) false (aBF os) #[.slice none 0 0,.int .i64 0] rfl (by kernel_rfl) (by kernel_rfl) (by kernel_rfl)
   (OpenSpec.preRow_of_cond 8 hx (by kernel_rfl) (fun k hk=>by cases hk) (by kernel_rfl) (aOM os))) ?_
 intro W base args ds gs before hval hW _ _ hwt hL _ _;exact aOu H enc W base args ds gs before hval hW hwt hL
theorem said:Rows.DealMeansSaid:=
 OpenClaim.holds_of_cond 5 Tryz.f5 rfl rfl rfl rfl rfl rfl rfl ⟨rfl,rfl,rfl,rfl,rfl⟩ rfl rfl rfl rfl rfl (by kernel_rfl) Tryz.func5 (by kernel_rfl)
  (Fb (by kernel_rfl)) (by unfold Func.isWrapper;first | (rw[if_pos (by decide+kernel)];kernel_rfl) | (rw[if_neg (by decide+kernel)];exact⟨rfl,rfl⟩))
  (fun os started H enc _ F=>by rw[OpenClaim.pre_eq_preRow];exact lifted os started H enc F)
theorem plain(f:FuncId)(fn:Func)(hf:Tryz.pinned.checked.prog.funcNamed Tryz.f5.name=some f)(hfn:Tryz.pinned.checked.prog.funcs[f]? =some fn):
  false=Tryz.pinned.checked.prog.looks []/\∀ (j:Nat) t,fn.params[j]? =some t->Tryz.pinned.checked.prog.wantsStandIn t=false:=by
 obtain rfl:f=5:=Cd ((show Tryz.prog.funcNamed Tryz.f5.name=some 5 by kernel_rfl).symm.trans hf) |>.symm
 obtain rfl:fn=Tryz.f5:=(Cd (Tryz.func5.symm.trans hfn)).symm;refine⟨by kernel_rfl,fun j t ht=>?_⟩;rw[Tryz.params5] at ht;have w3:Tryz.pinned.checked.prog.wantsStandIn 3=false:=by kernel_rfl
 have w26:Tryz.pinned.checked.prog.wantsStandIn 26=false:=by kernel_rfl
 match j,ht with
 | 0,h=>cases h;exact w26
 | 1,h=>cases h;exact w3
 | j+2,h=>simp at h
theorem proved:Rows.DealMeansCardSaid:=
 Claim7.holds_tied_plain_at .later [] _ _ _ _ said (fun _ h=>by cases h) (by kernel_rfl) (fun _ h=>by cases h) dealMeans_row_tie rfl ⟨rfl,rfl⟩ (by kernel_rfl) rfl plain (by kernel_rfl)
end Go.Proofs.YtiiplmagnlcpbaaGreatDoor.dealMeans
#print axioms Go.Proofs.YtiiplmagnlcpbaaGreatDoor.dealMeans.proved
