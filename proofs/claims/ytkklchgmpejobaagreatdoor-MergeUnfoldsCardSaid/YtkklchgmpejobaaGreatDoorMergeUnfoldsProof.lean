import Derived.Test.YtkklchgmpejobaaGreatDoorCards
import Derived.Test.YtkklchgmpejobaaGreatDoorTie
import Derived.Test.YtkklchgmpejobaaGreatDoorMergeUnfoldsFns
import Derived.WalkKit
import Derived.ProofKit
import Derived.OpenShut
import Derived.Carry
import Derived.ChangeSlices
import Derived.Deep.DeepHandedRow
import Derived.Lib.LaidTab
import Derived.Stop.LaidErr
import Derived.ChangeStays
import Derived.ChangeArms
import Derived.ChangeSlices
import Derived.ReadAgain
import Derived.SizedLaws
namespace Go.Proofs.YtkklchgmpejobaaGreatDoor.mergeUnfolds
open Go.ChangeShapes Go.WideShapes Go.ChangeAt Go.RowKit Go.Ev Go.Ev.Gl
theorem own:ownKnob Tryz.prog.godebug=none:=by kernel_rfl
theorem aNS:Tryz.prog.globalNamed "math/bits.deBruijn32tab" =some 1:=by kernel_rfl
theorem aPZ:(Tryz.prog.globals[1]?).map (·.type)=some 162:=by kernel_rfl
theorem aOT:Tryz.prog.cellsOf 162=32:=by kernel_rfl
theorem aPj:Tryz.prog.cellsOf 5=1:=by kernel_rfl
def aLd:List Int:=[0,1,28,2,29,14,24,3,30,22,20,15,25,17,4,8,31,27,13,23,21,19,16,7,26,12,18,6,11,5,10,9]
theorem aN1:Tryz.prog.globalNamed "math/bits.deBruijn64tab" =some 2:=by kernel_rfl
theorem aPi:(Tryz.prog.globals[2]?).map (·.type)=some 163:=by kernel_rfl
theorem aOu:Tryz.prog.cellsOf 163=64:=by kernel_rfl
theorem aPL:Tryz.prog.cellsOf 5=1:=by kernel_rfl
def aLG:List Int:=[0,1,56,2,57,49,28,3,61,58,42,50,38,29,17,4,62,47,59,36,45,43,51,22,53,39,33,30,24,18,12,5,63,55,48,27,60,41,37,16,46,35,44,21,52,32,23,11,54,26,40,15,34,20,31,10,25,14,19,9,13,8,7,6]
theorem aNY:Tryz.prog.globalNamed "internal/strconv.uint64pow10" =some 0:=by kernel_rfl
theorem aPF:(Tryz.prog.globals[0]?).map (·.type)=some 160:=by kernel_rfl
theorem aOr:Tryz.prog.cellsOf 160=20:=by kernel_rfl
theorem aPC:Tryz.prog.cellsOf 140=1:=by kernel_rfl
def aLk:List Int:=[1,10,100,1000,10000,100000,1000000,10000000,100000000,1000000000,10000000000,100000000000,1000000000000,10000000000000,100000000000000,1000000000000000,10000000000000000,100000000000000000,1000000000000000000,10000000000000000000]
theorem table{W:World}(h:laidMetH Tryz.prog Rows.mergeUnfoldsRow.laid W):aIq Tryz.prog awake.tabs W:=by
 have h0:laidMet Tryz.prog [("math/bits.deBruijn32tab",Lib.tabData .u8 aLd),("math/bits.deBruijn64tab",Lib.tabData .u8 aLG),("internal/strconv.uint64pow10",Lib.tabData .u64 aLk)] W:=h;have t0:Lib.TabIs Tryz.prog W "math/bits.deBruijn32tab" .u8 aLd:=Lib.tabIs_of_head aNS aPZ Tryz.underlying162 Tryz.underlying5 aPj aOT h0;have t1:Lib.TabIs Tryz.prog W "math/bits.deBruijn64tab" .u8 aLG:=Lib.tabIs_of_head aN1 aPi Tryz.underlying163 Tryz.underlying5 aPL aOu h0.tail;have t2:Lib.TabIs Tryz.prog W "internal/strconv.uint64pow10" .u64 aLk:=Lib.tabIs_of_head aNY aPF Tryz.underlying160 Tryz.underlying140 aPC aOr h0.tail.tail;exact(aBP aNS (Cq (by kernel_rfl)) t0 (by kernel_rfl) (by decide) (aBP aN1 (Cq (by kernel_rfl)) t1 (by kernel_rfl) (by decide) (aBP aNY (Cq (by kernel_rfl)) t2 (by kernel_rfl) (by decide) aKN)))
theorem laidOut:laidOutB Tryz.prog=true:=by kernel_rfl
theorem aPu:mapsRowed Tryz.prog=true:=by kernel_rfl
theorem shutAll{H:Type}{enc:TypeId×Value→H}{W W':World}{sp:Nat→Bool}(hk:Kept W W'):∀ {ts:List TypeId} {vs:List Value} {ds:List (DataW H)} {ps:List MemPlace},(∀t∈ts,t<Tryz.prog.types.size)→DataW.TrodAll enc Tryz.prog W 0 (fun _=>true) true ts vs ds ps→(∀q∈ps,sp q.block=true)→DataW.TrodAll enc Tryz.prog W' 0 sp true ts vs ds ps
 | [],[],[],_,_,h,_=>h
 | t::ts,v::vs,d::ds,_,ht,⟨p,q,⟨fuel,h1⟩,h2,rfl⟩,hs=>by
  refine⟨p,q,⟨fuel,DataW.trod_stays (T:=(· <Tryz.prog.types.size)) (kids_rows laidOut aPu) (fun h1 h2=>slices_full_of Tryz.prog (by kernel_rfl) _ _ h1 h2) (fun h=>by cases h) (ht t (Ed ..)) h1 (fun x hx=>?_) (fun x hx=>hs x (Eg _ hx))⟩,shutAll hk (fun u hu=>ht u (Cl _ hu)) h2 (fun x hx=>hs x (Dp _ hx)),rfl⟩;have hlt:=DataW.trod_lt _ _ _ _ h1 x hx;cases x with
  | cell b off=>
   show W'.cell? ⟨b,off,none⟩=W.cell? ⟨b,off,none⟩;unfold World.cell?;rw[hk.heap b hlt]
  | map b=>exact hk.heap b hlt
theorem aML:Lays Tryz.prog 30 aIU:=by
 refine aKe Tryz.underlying30 Tryz.underlying54 Tryz.underlying73 Tryz.underlying25 Tryz.underlying26 Tryz.underlying22 Tryz.underlying3 (by kernel_rfl) (by kernel_rfl) (by kernel_rfl) (by kernel_rfl) (by kernel_rfl) (by kernel_rfl) (by kernel_rfl) (Cq (by kernel_rfl)) (Cq (by kernel_rfl)) (Cq (by kernel_rfl)) rfl rfl rfl (fun i f h=>?_) (fun i f h=>?_) (fun i f h=>?_)
 ·match i,h with
  | 0,h=>cases h;rfl
  | 1,h=>cases h;rfl
  | 2,h=>cases h;rfl
  | i+3,h=>simp at h
 ·match i,h with
  | 0,h=>cases h;rfl
  | 1,h=>cases h;rfl
  | 2,h=>cases h;rfl
  | 3,h=>cases h;rfl
  | 4,h=>cases h;rfl
  | 5,h=>cases h;rfl
  | i+6,h=>simp at h
 ·match i,h with
  | 0,h=>cases h;rfl
  | 1,h=>cases h;rfl
  | i+2,h=>simp at h
set_option maxRecDepth 100000 in
theorem aLc(H:Type)(enc:TypeId×Value→H)(W:World)(base:Nat)(args:Array Value)(ds gs:List (DataW H))(before:List MemPlace)
  (hval:∀ (j:Nat) t v,Tryz.f4.params[j]? =some t→args[j]? =some v→Value.okWide Tryz.prog W .any base t v)
  (hW:DataW.Whole enc Tryz.prog Tryz.f4.params.toList Rows.mergeUnfoldsSpec.vars false W args.toList ds gs before)
  (hwt:(DataW.weightsEach Tryz.prog (Tryz.f4.params.toList++Rows.mergeUnfoldsSpec.plain.varTypes Tryz.prog) (ds++gs)).all (· ≤reachBytes)=true) (hL:laidMetH Tryz.prog Rows.mergeUnfoldsRow.laid W):
  Calls Tryz.prog 4 args W fun e W'=>∃v,e= .returned v∧Rows.mergeUnfoldsSpec.post enc Tryz.prog Tryz.f4 false true false false W args v W':=by
 have hW':=hW;obtain⟨p,q,hA0,hV,rfl,hfz,hnd⟩:=hW;have hA:DataW.TrodAll enc Tryz.prog W 0 (fun _=>true) true Tryz.f4.params.toList args.toList ds p:=hA0;rw[Tryz.params4] at hA hval;obtain⟨v0,d0,rfl,rfl,h0⟩:=trodAll_one hA;obtain⟨rfl,rfl⟩:=trodVars_none hV;simp only[Cv] at hW';have hv0:Rows.mergeUnfoldsSpec.plain.varTypes Tryz.prog= []:=rfl;rw[hv0,Cv,Cv,Tryz.params4] at hwt;have hw3:∀ (j:Nat) (t:TypeId) (d:DataW H),[30][j]? =some t→ [d0][j]? =some d→∀n∈DataW.weights Tryz.prog t d,n≤140737488355328:=fun j t d h1 h2 n hn=>Ba (Cq (Ec.1 hwt n (vD h1 h2 hn))) (by decide);have hT:=table hL;have hgl:∀x∈awake.tabs,x.1<Tryz.prog.globals.size:=fun x hx=>(hT x hx).1;obtain⟨f0,e0⟩:=id h0;obtain⟨σ0,S0,nv0,iv0,g0,A0,R0,I0,J0,n0,T0⟩:=aLh (aPy hT) aNb (aMZ hgl) (Ah _) aML e0 (hw3 0 30 _ rfl rfl);have hrun:=runs  (aPe.same A0.same) I0 J0 T0;have hargs:gC Tryz.prog σ0 [.agg [.int .i64 g0.players,nv0,iv0]] [v0]:=cI.2 ⟨_,_,rfl,R0,cG.2 rfl⟩;refine(aKw knows Tryz.func4 (by kernel_rfl) (by kernel_rfl) hrun hargs A0.rep A0.no).mono fun e W' ⟨he,hg⟩=>?_;subst he;refine⟨_,rfl,aJS (pa:=p) (pv:=[]) hW' (fun _ _ _=>(trodAll_cons_mk (shut_bool Tryz.underlying4 _) trodAll_mk0)) (fun sp hsp=>?_) (fun _ _=>rfl) (by simp)
  hg (ok_one (by kernel_rfl) rfl (okWide_bool_mk Tryz.underlying4 _))⟩
 show DataW.TrodAll enc Tryz.prog W' 0 sp true Tryz.f4.params.toList _ [d0] _;rw[Tryz.params4];exact shutAll hg (Cq (by kernel_rfl)) hA (fun q hq=>hsp q (by simpa using hq))
noncomputable def aBN(os:Os):World:=
 {World.holding Tryz.prog os ⟨#[], #[.agg #[.int .i64 0,.slice none 0 0,.slice none 0 0]],[]⟩ with heap:=((((World.holding Tryz.prog os ⟨#[], #[.agg #[.int .i64 0,.slice none 0 0,.slice none 0 0]],[]⟩).heap.modify 1 fun
   | .cells _ t frozen=>.cells (aLd.map (Value.int .u8)).toArray t frozen
   | o=>o).modify 2 fun
   | .cells _ t frozen=>.cells (aLG.map (Value.int .u8)).toArray t frozen
   | o=>o).modify 0 fun
   | .cells _ t frozen=>.cells (aLk.map (Value.int .u64)).toArray t frozen
   | o=>o)}
theorem aLg(os:Os):laidMet Tryz.prog Rows.mergeUnfoldsRow.laid ((aBN os).forCall (fun _ _=>0) ⟨#[], #[.agg #[.int .i64 0,.slice none 0 0,.slice none 0 0]],[]⟩).memory:=
 laidMet_of_run' 8 (by kernel_rfl) (by kernel_rfl)
theorem reads(os:Os){H:Type}(enc:TypeId×Value→H):∃places,DataW.whole enc Tryz.prog ((aBN os).forCall (fun _ _=>0) ⟨#[], #[.agg #[.int .i64 0,.slice none 0 0,.slice none 0 0]],[]⟩).memory Tryz.f4.params.toList Rows.mergeUnfoldsSpec.vars false (#[.agg #[.int .i64 0,.slice none 0 0,.slice none 0 0]]:Array Value).toList 8=some ([.agg [.lit (.int .i64 0),.nil,.nil]],[],places):=
 ⟨[],by kernel_rfl⟩
set_option maxRecDepth 100000 in
theorem lifted(os:Os)(started:os.Started)(H:Type)(enc:TypeId×Value→H)(F:Stop.Interp):
  ReturnsInHanded {} Tryz.checked os 4 .any ((OpenSpec.ofChange Rows.mergeUnfoldsSpec).preRow enc Tryz.prog Tryz.f4 Rows.mergeUnfoldsRow.domain false Rows.mergeUnfoldsRow.laid) (((OpenSpec.ofChange Rows.mergeUnfoldsSpec).at F).post enc Tryz.prog Tryz.f4 false true false false):=by
 obtain⟨places,hx⟩:=reads os enc;refine returnsInHanded_of_row (C:=Tryz.checked) (s:=OpenSpec.ofChange Rows.mergeUnfoldsSpec) own started (by kernel_rfl) Tryz.func4
  (witness_row_at (enc:=enc) (C:=Tryz.checked) false (aBN os) #[.agg #[.int .i64 0,.slice none 0 0,.slice none 0 0]] rfl (by kernel_rfl) (by kernel_rfl) (by kernel_rfl)
   (OpenSpec.preRow_of_cond 8 hx (by kernel_rfl) (fun k hk=>by cases hk) (by kernel_rfl) (aLg os))) ?_
 intro W base args ds gs before hval hW _ _ hwt hL _ _;exact aLc H enc W base args ds gs before hval hW hwt hL
theorem said:Rows.MergeUnfoldsSaid:=
 OpenClaim.holds_of_cond 4 Tryz.f4 rfl rfl rfl rfl rfl rfl rfl ⟨rfl,rfl,rfl,rfl,rfl⟩ rfl rfl rfl rfl rfl (by kernel_rfl) Tryz.func4 (by kernel_rfl)
  (Cq (by kernel_rfl)) (by unfold Func.isWrapper;first | (rw[if_pos (by decide+kernel)];kernel_rfl) | (rw[if_neg (by decide+kernel)];exact⟨rfl,rfl⟩))
  (fun os started H enc _ F=>by rw[OpenClaim.pre_eq_preRow];exact lifted os started H enc F)
theorem plain(f:FuncId)(fn:Func)(hf:Tryz.pinned.checked.prog.funcNamed Tryz.f4.name=some f)(hfn:Tryz.pinned.checked.prog.funcs[f]? =some fn):
  false=Tryz.pinned.checked.prog.looks []∧∀ (j:Nat) t,fn.params[j]? =some t→Tryz.pinned.checked.prog.wantsStandIn t=false:=by
 obtain rfl:f=4:=Cd ((show Tryz.prog.funcNamed Tryz.f4.name=some 4 by kernel_rfl).symm.trans hf) |>.symm
 obtain rfl:fn=Tryz.f4:=(Cd (Tryz.func4.symm.trans hfn)).symm;refine⟨by kernel_rfl,fun j t ht=>?_⟩;rw[Tryz.params4] at ht;have w30:Tryz.pinned.checked.prog.wantsStandIn 30=false:=by kernel_rfl
 match j,ht with
 | 0,h=>cases h;exact w30
 | j+1,h=>simp at h
theorem proved:Rows.MergeUnfoldsCardSaid:=
 Claim7.holds_tied_plain_at .later [] _ _ _ _ said (fun _ h=>by cases h) (by kernel_rfl) (fun _ h=>by cases h) mergeUnfolds_row_tie rfl ⟨rfl,rfl⟩ (by kernel_rfl) rfl plain (by kernel_rfl)
end Go.Proofs.YtkklchgmpejobaaGreatDoor.mergeUnfolds
#print axioms Go.Proofs.YtkklchgmpejobaaGreatDoor.mergeUnfolds.proved
