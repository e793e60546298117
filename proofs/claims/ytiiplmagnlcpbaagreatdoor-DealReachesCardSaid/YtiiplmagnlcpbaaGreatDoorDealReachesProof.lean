import Derived.Test.YtiiplmagnlcpbaaGreatDoorCards
import Derived.Test.YtiiplmagnlcpbaaGreatDoorTie
import Derived.Test.YtiiplmagnlcpbaaGreatDoorDealReachesFns
import Derived.WalkKit
import Derived.ProofKit
import Derived.OpenShut
import Derived.Carry
import Derived.ChangeSlices
import Derived.Deep.DeepHandedRow
import Derived.Lib.LaidTab
import Derived.Stop.LaidErr
import Derived.ChangeStays
import Derived.ChangeArms
import Derived.ChangeSlices
import Derived.ReadAgain
import Derived.SizedLaws
set_option linter.unusedSimpArgs false
set_option linter.unusedVariables false
namespace Go.Proofs.YtiiplmagnlcpbaaGreatDoor.dealReaches
open Go.ChangeShapes Go.WideShapes Go.ChangeAt Go.RowKit Go.Ev Go.Ev.Gl
theorem own:ownKnob Tryz.prog.godebug=none:=by kernel_rfl
theorem aOH:Tryz.prog.globalNamed "math/bits.deBruijn64tab" =some 0:=by kernel_rfl
theorem aP6:(Tryz.prog.globals[0]?).map (·.type)=some 193:=by kernel_rfl
theorem aPh:Tryz.prog.cellsOf 193=64:=by kernel_rfl
theorem aQk:Tryz.prog.cellsOf 5=1:=by kernel_rfl
def aMz:bm:=[0,1,56,2,57,49,28,3,61,58,42,50,38,29,17,4,62,47,59,36,45,43,51,22,53,39,33,30,24,18,12,5,63,55,48,27,60,41,37,16,46,35,44,21,52,32,23,11,54,26,40,15,34,20,31,10,25,14,19,9,13,8,7,6]
theorem table{W:World}(h:laidMetH Tryz.prog Rows.dealReachesRow.laid W):aH0 Tryz.prog awake.tabs W:=by
 have h0:laidMet Tryz.prog [("math/bits.deBruijn64tab",Lib.tabData .u8 aMz)] W:=h;have t0:Lib.TabIs Tryz.prog W "math/bits.deBruijn64tab" .u8 aMz:=Lib.tabIs_of_head aOH aP6 Tryz.underlying193 Tryz.underlying5 aQk aPh h0;exact(aKK aOH (Ed (by kernel_rfl)) t0 (by kernel_rfl) ay aMr)
theorem laidOut:laidOutB Tryz.prog=true:=by kernel_rfl
theorem aQm:mapsRowed Tryz.prog=true:=by kernel_rfl
theorem shutAll{H:Type}{enc:TypeId×Value->H}{W W':World}{sp:Nat->Bool}(hk:Kept W W'):∀ {ts:List TypeId} {vs:List Value} {ds:List (DataW H)} {ps:List MemPlace},(∀t∈ts,t<Tryz.prog.types.size)->DataW.TrodAll enc Tryz.prog W 0 (fun _=>true) true ts vs ds ps->(∀q∈ps,sp q.block=true)->DataW.TrodAll enc Tryz.prog W' 0 sp true ts vs ds ps
 | [],[],[],_,_,h,_=>h
 | t::ts,v::vs,d::ds,_,ht,⟨p,q,⟨fuel,h1⟩,h2,rfl⟩,hs=>by
  refine⟨p,q,⟨fuel,DataW.trod_stays (T:=(· <Tryz.prog.types.size)) (kids_rows laidOut aQm) (fun h1 h2=>slices_full_of Tryz.prog (by kernel_rfl) _ _ h1 h2) (fun h=>by cases h) (ht t (Dy ..)) h1 (fun x hx=>?_) (fun x hx=>hs x (Fp _ hx))⟩,shutAll hk (fun u hu=>ht u (Cf _ hu)) h2 (fun x hx=>hs x (Eo _ hx)),rfl⟩;have hlt:=DataW.trod_lt _ _ _ _ h1 x hx;cases x with
  | cell b off=>
   show W'.cell? ⟨b,off,none⟩=W.cell? ⟨b,off,none⟩;unfold World.cell?;rw[hk.heap b hlt]
  | map b=>exact hk.heap b hlt
theorem aN4:Lays Tryz.prog 26 (rO .i64):=aEL Tryz.underlying26 Tryz.underlying3 (by kernel_rfl) (Ed (by kernel_rfl))
theorem aNx:Lays Tryz.prog 25 aJq:=by
 refine aKy Tryz.underlying25 Tryz.underlying73 Tryz.underlying79 Tryz.underlying22 Tryz.underlying23 Tryz.underlying26 Tryz.underlying3 (by kernel_rfl) (by kernel_rfl) (by kernel_rfl) (by kernel_rfl) (by kernel_rfl) (by kernel_rfl) (by kernel_rfl) (Ed (by kernel_rfl)) (Ed (by kernel_rfl)) (Ed (by kernel_rfl)) rfl rfl rfl (fun i f h=>?_) (fun i f h=>?_) (fun i f h=>?_)
 ·match i,h with
  | 0,h=>cases h;rfl
  | 1,h=>cases h;rfl
  | 2,h=>cases h;rfl
  | i+3,h=>simp at h
 ·match i,h with
  | 0,h=>cases h;rfl
  | 1,h=>cases h;rfl
  | 2,h=>cases h;rfl
  | 3,h=>cases h;rfl
  | 4,h=>cases h;rfl
  | 5,h=>cases h;rfl
  | i+6,h=>simp at h
 ·match i,h with
  | 0,h=>cases h;rfl
  | 1,h=>cases h;rfl
  | i+2,h=>simp at h
set_option maxRecDepth 100000 in
theorem aMq(H:Type)(enc:TypeId×Value->H)(W:World)(base:Nat)(args:Array Value)(ds gs:List (DataW H))(before:List MemPlace)
  (hval:∀ (j:Nat) t v,Tryz.f3.params[j]? =some t->args[j]? =some v->Value.okWide Tryz.prog W .any base t v)
  (hW:DataW.Whole enc Tryz.prog Tryz.f3.params.toList Rows.dealReachesSpec.vars false W args.toList ds gs before)
  (hwt:(DataW.weightsEach Tryz.prog (Tryz.f3.params.toList++Rows.dealReachesSpec.plain.varTypes Tryz.prog) (ds++gs)).all (· <=reachBytes)=true) (hL:laidMetH Tryz.prog Rows.dealReachesRow.laid W):
  Calls Tryz.prog 3 args W fun e W'=>∃v,e= .returned v/\Rows.dealReachesSpec.post enc Tryz.prog Tryz.f3 false true false false W args v W':=by
 have hW':=hW;obtain⟨p,q,hA0,hV,rfl,hfz,hnd⟩:=hW;have hA:DataW.TrodAll enc Tryz.prog W 0 (fun _=>true) true Tryz.f3.params.toList args.toList ds p:=hA0;rw[Tryz.params3] at hA hval;obtain⟨v0,v1,v2,d0,d1,d2,p0,p1,p2,rfl,rfl,hp,h0,h1,h2⟩:=trodAll_three hA;obtain⟨rfl,rfl⟩:=trodVars_none hV;simp only[Cm] at hW';have hv0:Rows.dealReachesSpec.plain.varTypes Tryz.prog= []:=rfl;rw[hv0,Cm,Cm,Tryz.params3] at hwt;have hw3:∀ (j:Nat) (t:TypeId) (d:DataW H),[25,26,3][j]? =some t-> [d0,d1,d2][j]? =some d->∀n∈DataW.weights Tryz.prog t d,n<=140737488355328:=fun j t d h1 h2 n hn=>Bd (Ed (Fc.1 hwt n (uI h1 h2 hn))) ay;have hT:=table hL;have hgl:∀x∈awake.tabs,x.1<Tryz.prog.globals.size:=fun x hx=>(hT x hx).1;obtain⟨f0,e0⟩:=id h0;obtain⟨σ0,S0,nv0,iv0,g0,A0,R0,I0,J0,n0,T0⟩:=aLI (aQn hT) aNt (aNS hgl) (Af _) aNx e0 (hw3 0 25 _ rfl rfl);obtain⟨f1,e1⟩:=id h1;obtain⟨b1,bl1,bc1,rfl⟩:=okWide_slice Tryz.underlying26 (hval 1 26 v1 rfl rfl);obtain⟨σ1,S1,a1,l1,A1,R1,I1,n1⟩:=aMo A0.rep A0.no A0.fresh n0 aN4 e1 rfl (hw3 1 26 _ rfl rfl);obtain⟨n2,ev2,ed2,_,hn2⟩:=open_int Tryz.underlying3 (hval 2 3 v2 rfl rfl) h2;have n2w:=bounds_i64 hn2;have hrun:=runs  (aQo.same (A0.trans A1).same) A1.fresh (aW.same (E:=cI) bT I0 A1.same) (aW.same (E:=eT) dH J0 A1.same) T0 I1 n2w;have hargs:gP Tryz.prog σ1 [.agg [.int .i64 g0.b8,nv0,iv0],a1,.int .i64 n2] [v0,.slice b1 bl1 bc1,v2]:=cG.2 ⟨_,_,rfl,(R0.mono A1.le),cG.2 ⟨_,_,rfl,R1,cG.2 ⟨_,_,rfl,(by rw[ev2];simp only[Rv]),cJ.2 rfl⟩⟩⟩;refine(aKS knows Tryz.func3 (by kernel_rfl) (by kernel_rfl) hrun hargs A1.rep A1.no).mono fun e W' ⟨he,hg⟩=>?_;subst he;refine⟨_,rfl,aKm (pa:=p) (pv:=[]) hW' (fun _ _ _=>(trodAll_cons_mk (shut_bool Tryz.underlying4 _) trodAll_mk0)) (fun sp hsp=>?_) (fun _ _=>rfl) (by simp)
  hg (ok_one (by kernel_rfl) rfl (okWide_bool_mk Tryz.underlying4 _))⟩
 show DataW.TrodAll enc Tryz.prog W' 0 sp true Tryz.f3.params.toList _ [d0,d1,d2] _;rw[Tryz.params3];exact shutAll hg (Ed (by kernel_rfl)) hA (fun q hq=>hsp q (by simpa using hq))
noncomputable def aA4(os:Os):World:=
 {World.holding Tryz.prog os ⟨#[], #[.agg #[.int .i64 0,.slice none 0 0,.slice none 0 0],.slice none 0 0,.int .i64 0],[]⟩ with heap:=((World.holding Tryz.prog os ⟨#[], #[.agg #[.int .i64 0,.slice none 0 0,.slice none 0 0],.slice none 0 0,.int .i64 0],[]⟩).heap.modify 0 fun
   | .cells _ t frozen=>.cells (aMz.map (Value.int .u8)).toArray t frozen
   | o=>o)}
theorem aME(os:Os):laidMet Tryz.prog Rows.dealReachesRow.laid ((aA4 os).forCall (fun _ _=>0) ⟨#[], #[.agg #[.int .i64 0,.slice none 0 0,.slice none 0 0],.slice none 0 0,.int .i64 0],[]⟩).memory:=
 laidMet_of_run' 8 (by kernel_rfl) (by kernel_rfl)
theorem reads(os:Os){H:Type}(enc:TypeId×Value->H):∃places,DataW.whole enc Tryz.prog ((aA4 os).forCall (fun _ _=>0) ⟨#[], #[.agg #[.int .i64 0,.slice none 0 0,.slice none 0 0],.slice none 0 0,.int .i64 0],[]⟩).memory Tryz.f3.params.toList Rows.dealReachesSpec.vars false (#[.agg #[.int .i64 0,.slice none 0 0,.slice none 0 0],.slice none 0 0,.int .i64 0]:Array Value).toList 8=some ([.agg [.lit (.int .i64 0),.nil,.nil],.nil,.lit (.int .i64 0)],[],places):=
 ⟨[],by kernel_rfl⟩
set_option maxRecDepth 100000 in
theorem lifted(os:Os)(started:os.Started)(H:Type)(enc:TypeId×Value->H)(F:Stop.Interp):
  ReturnsInHanded {} Tryz.checked os 3 .any ((OpenSpec.ofChange Rows.dealReachesSpec).preRow enc Tryz.prog Tryz.f3 Rows.dealReachesRow.domain false Rows.dealReachesRow.laid) (((OpenSpec.ofChange Rows.dealReachesSpec).at F).post enc Tryz.prog Tryz.f3 false true false false):=by
 obtain⟨places,hx⟩:=reads os enc;refine returnsInHanded_of_row (C:=Tryz.checked) (s:=OpenSpec.ofChange Rows.dealReachesSpec) own started (by kernel_rfl) Tryz.func3
  (witness_row_at (enc:=enc) (C:=Tryz.checked) false (aA4 os) #[.agg #[.int .i64 0,.slice none 0 0,.slice none 0 0],.slice none 0 0,.int .i64 0] rfl (by kernel_rfl) (by kernel_rfl) (by kernel_rfl)
   (OpenSpec.preRow_of_cond 8 hx (by kernel_rfl) (fun k hk=>by cases hk) (by kernel_rfl) (aME os))) ?_
 intro W base args ds gs before hval hW _ _ hwt hL _ _;exact aMq H enc W base args ds gs before hval hW hwt hL
theorem said:Rows.DealReachesSaid:=
 OpenClaim.holds_of_cond 3 Tryz.f3 rfl rfl rfl rfl rfl rfl rfl ⟨rfl,rfl,rfl,rfl,rfl⟩ rfl rfl rfl rfl rfl (by kernel_rfl) Tryz.func3 (by kernel_rfl)
  (Ed (by kernel_rfl)) (by unfold Func.isWrapper;first | (rw[if_pos (by decide+kernel)];kernel_rfl) | (rw[if_neg (by decide+kernel)];exact⟨rfl,rfl⟩))
  (fun os started H enc _ F=>by rw[OpenClaim.pre_eq_preRow];exact lifted os started H enc F)
theorem plain(f:FuncId)(fn:Func)(hf:Tryz.pinned.checked.prog.funcNamed Tryz.f3.name=some f)(hfn:Tryz.pinned.checked.prog.funcs[f]? =some fn):
  false=Tryz.pinned.checked.prog.looks []/\∀ (j:Nat) t,fn.params[j]? =some t->Tryz.pinned.checked.prog.wantsStandIn t=false:=by
 obtain rfl:f=3:=Bz ((show Tryz.prog.funcNamed Tryz.f3.name=some 3 by kernel_rfl).symm.trans hf) |>.symm
 obtain rfl:fn=Tryz.f3:=(Bz (Tryz.func3.symm.trans hfn)).symm;refine⟨by kernel_rfl,fun j t ht=>?_⟩;rw[Tryz.params3] at ht;have w25:Tryz.pinned.checked.prog.wantsStandIn 25=false:=by kernel_rfl
 have w3:Tryz.pinned.checked.prog.wantsStandIn 3=false:=by kernel_rfl
 have w26:Tryz.pinned.checked.prog.wantsStandIn 26=false:=by kernel_rfl
 match j,ht with
 | 0,h=>cases h;exact w25
 | 1,h=>cases h;exact w26
 | 2,h=>cases h;exact w3
 | j+3,h=>simp at h
theorem proved:Rows.DealReachesCardSaid:=
 Claim7.holds_tied_plain_at .later [] _ _ _ _ said (fun _ h=>by cases h) (by kernel_rfl) (fun _ h=>by cases h) dealReaches_row_tie rfl ⟨rfl,rfl⟩ (by kernel_rfl) rfl plain (by kernel_rfl)
end Go.Proofs.YtiiplmagnlcpbaaGreatDoor.dealReaches
#print axioms Go.Proofs.YtiiplmagnlcpbaaGreatDoor.dealReaches.proved
