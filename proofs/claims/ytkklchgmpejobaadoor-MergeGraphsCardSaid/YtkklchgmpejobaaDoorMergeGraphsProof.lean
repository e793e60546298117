import Derived.Test.YtkklchgmpejobaaDoorCards
import Derived.Test.YtkklchgmpejobaaDoorTie
import Derived.Test.YtkklchgmpejobaaDoorMergeGraphsFns
import Derived.WalkKit
import Derived.ProofKit
import Derived.OpenShut
import Derived.Carry
import Derived.ChangeSlices
import Derived.Deep.DeepHandedRow
import Derived.Lib.LaidTab
import Derived.Stop.LaidErr
import Derived.ChangeStays
import Derived.ChangeArms
import Derived.ReadAgain
import Derived.SizedLaws
namespace Go.Proofs.YtkklchgmpejobaaDoor.mergeGraphs
open Go.ChangeShapes Go.WideShapes Go.ChangeAt Go.RowKit Go.Ev Go.Ev.Gl
theorem own:ownKnob Tryd.prog.godebug=none:=by kernel_rfl
theorem aLC:Tryd.prog.globalNamed "math/bits.deBruijn32tab" =some 1:=by kernel_rfl
theorem aM8:(Tryd.prog.globals[1]?).map (·.type)=some 155:=by kernel_rfl
theorem aMC:Tryd.prog.cellsOf 155=32:=by kernel_rfl
theorem aNq:Tryd.prog.cellsOf 5=1:=by kernel_rfl
def aI5:List Int:=[0,1,28,2,29,14,24,3,30,22,20,15,25,17,4,8,31,27,13,23,21,19,16,7,26,12,18,6,11,5,10,9]
theorem aLI:Tryd.prog.globalNamed "math/bits.deBruijn64tab" =some 2:=by kernel_rfl
theorem aMZ:(Tryd.prog.globals[2]?).map (·.type)=some 156:=by kernel_rfl
theorem aL2:Tryd.prog.cellsOf 156=64:=by kernel_rfl
theorem aNw:Tryd.prog.cellsOf 5=1:=by kernel_rfl
def aJ7:List Int:=[0,1,56,2,57,49,28,3,61,58,42,50,38,29,17,4,62,47,59,36,45,43,51,22,53,39,33,30,24,18,12,5,63,55,48,27,60,41,37,16,46,35,44,21,52,32,23,11,54,26,40,15,34,20,31,10,25,14,19,9,13,8,7,6]
theorem aLB:Tryd.prog.globalNamed "internal/strconv.uint64pow10" =some 0:=by kernel_rfl
theorem aNj:(Tryd.prog.globals[0]?).map (·.type)=some 153:=by kernel_rfl
theorem aMb:Tryd.prog.cellsOf 153=20:=by kernel_rfl
theorem aMO:Tryd.prog.cellsOf 133=1:=by kernel_rfl
def aI3:List Int:=[1,10,100,1000,10000,100000,1000000,10000000,100000000,1000000000,10000000000,100000000000,1000000000000,10000000000000,100000000000000,1000000000000000,10000000000000000,100000000000000000,1000000000000000000,10000000000000000000]
theorem table{W:World}(h:laidMetH Tryd.prog Rows.mergeGraphsRow.laid W):aGC Tryd.prog awake.tabs W:=by
 have h0:laidMet Tryd.prog [("math/bits.deBruijn32tab",Lib.tabData .u8 aI5),("math/bits.deBruijn64tab",Lib.tabData .u8 aJ7),("internal/strconv.uint64pow10",Lib.tabData .u64 aI3)] W:=h;have t0:Lib.TabIs Tryd.prog W "math/bits.deBruijn32tab" .u8 aI5:=Lib.tabIs_of_head aLC aM8 Tryd.underlying155 Tryd.underlying5 aNq aMC h0;have t1:Lib.TabIs Tryd.prog W "math/bits.deBruijn64tab" .u8 aJ7:=Lib.tabIs_of_head aLI aMZ Tryd.underlying156 Tryd.underlying5 aNw aL2 h0.tail;have t2:Lib.TabIs Tryd.prog W "internal/strconv.uint64pow10" .u64 aI3:=Lib.tabIs_of_head aLB aNj Tryd.underlying153 Tryd.underlying133 aMO aMb h0.tail.tail;exact(zO aLC (Cj (by kernel_rfl)) t0 (by kernel_rfl) (by decide) (zO aLI (Cj (by kernel_rfl)) t1 (by kernel_rfl) (by decide) (zO aLB (Cj (by kernel_rfl)) t2 (by kernel_rfl) (by decide) aKd)))
theorem laidOut:laidOutB Tryd.prog=true:=by kernel_rfl
theorem aNl:mapsRowed Tryd.prog=true:=by kernel_rfl
theorem shutAll{H:Type}{enc:TypeId×Value→H}{W W':World}{sp:Nat→Bool}(hk:Kept W W'):∀ {ts:List TypeId} {vs:List Value} {ds:List (DataW H)} {ps:List MemPlace},(∀t∈ts,t<Tryd.prog.types.size)→DataW.TrodAll enc Tryd.prog W 0 (fun _=>true) true ts vs ds ps→(∀q∈ps,sp q.block=true)→DataW.TrodAll enc Tryd.prog W' 0 sp true ts vs ds ps
 | [],[],[],_,_,h,_=>h
 | t::ts,v::vs,d::ds,_,ht,⟨p,q,⟨fuel,h1⟩,h2,rfl⟩,hs=>by
  refine⟨p,q,⟨fuel,DataW.trod_stays (T:=(· <Tryd.prog.types.size)) (kids_rows laidOut aNl) (fun h1 h2=>slices_full_of Tryd.prog (by kernel_rfl) _ _ h1 h2) (fun h=>by cases h) (ht t (Dl ..)) h1 (fun x hx=>?_) (fun x hx=>hs x (Dq _ hx))⟩,shutAll hk (fun u hu=>ht u (Cd _ hu)) h2 (fun x hx=>hs x (Da _ hx)),rfl⟩;have hlt:=DataW.trod_lt _ _ _ _ h1 x hx;cases x with
  | cell b off=>
   show W'.cell? ⟨b,off,none⟩=W.cell? ⟨b,off,none⟩;unfold World.cell?;rw[hk.heap b hlt]
  | map b=>exact hk.heap b hlt
theorem aLa:Lays Tryd.prog 25 aG1:=by
 refine aIk Tryd.underlying25 Tryd.underlying48 Tryd.underlying58 Tryd.underlying22 Tryd.underlying23 Tryd.underlying28 Tryd.underlying3 (by kernel_rfl) (by kernel_rfl) (by kernel_rfl) (by kernel_rfl) (by kernel_rfl) (by kernel_rfl) (by kernel_rfl) (Cj (by kernel_rfl)) (Cj (by kernel_rfl)) (Cj (by kernel_rfl)) rfl rfl rfl (fun i f h=>?_) (fun i f h=>?_) (fun i f h=>?_)
 ·match i,h with
  | 0,h=>cases h;rfl
  | 1,h=>cases h;rfl
  | 2,h=>cases h;rfl
  | i+3,h=>simp at h
 ·match i,h with
  | 0,h=>cases h;rfl
  | 1,h=>cases h;rfl
  | 2,h=>cases h;rfl
  | 3,h=>cases h;rfl
  | 4,h=>cases h;rfl
  | 5,h=>cases h;rfl
  | i+6,h=>simp at h
 ·match i,h with
  | 0,h=>cases h;rfl
  | 1,h=>cases h;rfl
  | i+2,h=>simp at h
set_option maxRecDepth 100000 in
theorem aIE(H:Type)(enc:TypeId×Value→H)(W:World)(base:Nat)(args:Array Value)(ds gs:List (DataW H))(before:List MemPlace)
  (hval:∀ (j:Nat) t v,Tryd.f3.params[j]? =some t→args[j]? =some v→Value.okWide Tryd.prog W .any base t v)
  (hW:DataW.Whole enc Tryd.prog Tryd.f3.params.toList Rows.mergeGraphsSpec.vars false W args.toList ds gs before)
  (hwt:(DataW.weightsEach Tryd.prog (Tryd.f3.params.toList++Rows.mergeGraphsSpec.plain.varTypes Tryd.prog) (ds++gs)).all (· ≤reachBytes)=true) (hL:laidMetH Tryd.prog Rows.mergeGraphsRow.laid W):
  Calls Tryd.prog 3 args W fun e W'=>∃v,e= .returned v∧Rows.mergeGraphsSpec.post enc Tryd.prog Tryd.f3 false true false false W args v W':=by
 have hW':=hW;obtain⟨p,q,hA0,hV,rfl,hfz,hnd⟩:=hW;have hA:DataW.TrodAll enc Tryd.prog W 0 (fun _=>true) true Tryd.f3.params.toList args.toList ds p:=hA0;rw[Tryd.params3] at hA hval;obtain⟨v0,d0,rfl,rfl,h0⟩:=trodAll_one hA;obtain⟨rfl,rfl⟩:=trodVars_none hV;simp only[Cm] at hW';have hv0:Rows.mergeGraphsSpec.plain.varTypes Tryd.prog= []:=rfl;rw[hv0,Cm,Cm,Tryd.params3] at hwt;have hw3:∀ (j:Nat) (t:TypeId) (d:DataW H),[25][j]? =some t→ [d0][j]? =some d→∀n∈DataW.weights Tryd.prog t d,n≤140737488355328:=fun j t d h1 h2 n hn=>Ax (Cj (Dk.1 hwt n (qW h1 h2 hn))) (by decide);have hT:=table hL;have hgl:∀x∈awake.tabs,x.1<Tryd.prog.globals.size:=fun x hx=>(hT x hx).1;obtain⟨f0,e0⟩:=id h0;obtain⟨σ0,S0,nv0,iv0,g0,A0,R0,I0,J0,n0,T0⟩:=aJC (aNa hT) aKE (aLv hgl) (Ah _) aLa e0 (hw3 0 25 _ rfl rfl);have hrun:=runs (aNr.same A0.same) I0 J0 T0;have hargs:fJ Tryd.prog σ0 [.agg [.int .i64 g0.players,nv0,iv0]] [v0]:=cB.2 ⟨_,_,rfl,R0,cA.2 rfl⟩;refine(aIr knows Tryd.func3 (by kernel_rfl) (by kernel_rfl) hrun hargs A0.rep A0.no).mono fun e W' ⟨he,hg⟩=>?_;subst he;refine⟨_,rfl,aHP (pa:=p) (pv:=[]) hW' (fun _ _ _=>(trodAll_cons_mk (shut_bool Tryd.underlying4 _) trodAll_mk0)) (fun sp hsp=>?_) (fun _ _=>rfl) (by simp)
  hg (ok_one (by kernel_rfl) rfl (okWide_bool_mk Tryd.underlying4 _))⟩
 show DataW.TrodAll enc Tryd.prog W' 0 sp true Tryd.f3.params.toList _ [d0] _;rw[Tryd.params3];exact shutAll hg (Cj (by kernel_rfl)) hA (fun q hq=>hsp q (by simpa using hq))
noncomputable def aAh(os:Os):World:=
 {World.holding Tryd.prog os ⟨#[], #[.agg #[.int .i64 0,.slice none 0 0,.slice none 0 0]],[]⟩ with heap:=((((World.holding Tryd.prog os ⟨#[], #[.agg #[.int .i64 0,.slice none 0 0,.slice none 0 0]],[]⟩).heap.modify 1 fun
   | .cells _ t frozen=>.cells (aI5.map (Value.int .u8)).toArray t frozen
   | o=>o).modify 2 fun
   | .cells _ t frozen=>.cells (aJ7.map (Value.int .u8)).toArray t frozen
   | o=>o).modify 0 fun
   | .cells _ t frozen=>.cells (aI3.map (Value.int .u64)).toArray t frozen
   | o=>o)}
theorem aI1(os:Os):laidMet Tryd.prog Rows.mergeGraphsRow.laid ((aAh os).forCall (fun _ _=>0) ⟨#[], #[.agg #[.int .i64 0,.slice none 0 0,.slice none 0 0]],[]⟩).memory:=
 laidMet_of_run' 8 (by kernel_rfl) (by kernel_rfl)
theorem reads(os:Os){H:Type}(enc:TypeId×Value→H):∃places,DataW.whole enc Tryd.prog ((aAh os).forCall (fun _ _=>0) ⟨#[], #[.agg #[.int .i64 0,.slice none 0 0,.slice none 0 0]],[]⟩).memory Tryd.f3.params.toList Rows.mergeGraphsSpec.vars false (#[.agg #[.int .i64 0,.slice none 0 0,.slice none 0 0]]:Array Value).toList 8=some ([.agg [.lit (.int .i64 0),.nil,.nil]],[],places):=
 ⟨[],by kernel_rfl⟩
set_option maxRecDepth 100000 in
theorem lifted(os:Os)(started:os.Started)(H:Type)(enc:TypeId×Value→H)(F:Stop.Interp):
  ReturnsInHanded {} Tryd.checked os 3 .any ((OpenSpec.ofChange Rows.mergeGraphsSpec).preRow enc Tryd.prog Tryd.f3 Rows.mergeGraphsRow.domain false Rows.mergeGraphsRow.laid) (((OpenSpec.ofChange Rows.mergeGraphsSpec).at F).post enc Tryd.prog Tryd.f3 false true false false):=by
 obtain⟨places,hx⟩:=reads os enc;refine returnsInHanded_of_row (C:=Tryd.checked) (s:=OpenSpec.ofChange Rows.mergeGraphsSpec) own started (by kernel_rfl) Tryd.func3
  (witness_row_at (enc:=enc) (C:=Tryd.checked) false (aAh os) #[.agg #[.int .i64 0,.slice none 0 0,.slice none 0 0]] rfl (by kernel_rfl) (by kernel_rfl) (by kernel_rfl)
   (OpenSpec.preRow_of_cond 8 hx (by kernel_rfl) (fun k hk=>by cases hk) (by kernel_rfl) (aI1 os))) ?_
 intro W base args ds gs before hval hW _ _ hwt hL _ _;exact aIE H enc W base args ds gs before hval hW hwt hL
theorem said:Rows.MergeGraphsSaid:=
 OpenClaim.holds_of_cond 3 Tryd.f3 rfl rfl rfl rfl rfl rfl rfl ⟨rfl,rfl,rfl,rfl,rfl⟩ rfl rfl rfl rfl rfl (by kernel_rfl) Tryd.func3 (by kernel_rfl)
  (Cj (by kernel_rfl)) (by unfold Func.isWrapper;first | (rw[if_pos (by decide+kernel)];kernel_rfl) | (rw[if_neg (by decide+kernel)];exact⟨rfl,rfl⟩))
  (fun os started H enc _ F=>by rw[OpenClaim.pre_eq_preRow];exact lifted os started H enc F)
theorem plain(f:FuncId)(fn:Func)(hf:Tryd.pinned.checked.prog.funcNamed Tryd.f3.name=some f)(hfn:Tryd.pinned.checked.prog.funcs[f]? =some fn):
  false=Tryd.pinned.checked.prog.looks []∧∀ (j:Nat) t,fn.params[j]? =some t→Tryd.pinned.checked.prog.wantsStandIn t=false:=by
 obtain rfl:f=3:=Bw ((show Tryd.prog.funcNamed Tryd.f3.name=some 3 by kernel_rfl).symm.trans hf) |>.symm
 obtain rfl:fn=Tryd.f3:=(Bw (Tryd.func3.symm.trans hfn)).symm;refine⟨by kernel_rfl,fun j t ht=>?_⟩;rw[Tryd.params3] at ht;have w0:Tryd.pinned.checked.prog.wantsStandIn 25=false:=by kernel_rfl
 match j,ht with
 | 0,h=>cases h;exact w0
 | j+1,h=>simp at h
theorem proved:Rows.MergeGraphsCardSaid:=
 Claim7.holds_tied_plain_at .later [] _ _ _ _ said (fun _ h=>by cases h) (by kernel_rfl) (fun _ h=>by cases h) mergeGraphs_row_tie rfl ⟨rfl,rfl⟩ (by kernel_rfl) rfl plain (by kernel_rfl)
end Go.Proofs.YtkklchgmpejobaaDoor.mergeGraphs
#print axioms Go.Proofs.YtkklchgmpejobaaDoor.mergeGraphs.proved
