import Derived.Test.YtkklchgmpejobaaDoorCards
import Derived.Test.YtkklchgmpejobaaDoorTie
import Derived.Test.YtkklchgmpejobaaDoorMergeBackFns
import Derived.WalkKit
import Derived.ProofKit
import Derived.OpenShut
import Derived.Carry
import Derived.ChangeSlices
import Derived.Deep.DeepHandedRow
import Derived.Lib.LaidTab
import Derived.Stop.LaidErr
import Derived.ChangeStays
import Derived.ChangeArms
import Derived.ChangeSlices
import Derived.ReadAgain
import Derived.SizedLaws
namespace Go.Proofs.YtkklchgmpejobaaDoor.mergeBack
open Go.ChangeShapes Go.WideShapes Go.ChangeAt Go.RowKit Go.Ev Go.Ev.Gl
theorem own:ownKnob Tryd.prog.godebug=none:=by kernel_rfl
theorem aOh:Tryd.prog.globalNamed "math/bits.deBruijn32tab" =some 1:=by kernel_rfl
theorem aPW:(Tryd.prog.globals[1]?).map (·.type)=some 155:=by kernel_rfl
theorem aOr:Tryd.prog.cellsOf 155=32:=by kernel_rfl
theorem aPo:Tryd.prog.cellsOf 5=1:=by kernel_rfl
def aMt:List Int:=[0,1,28,2,29,14,24,3,30,22,20,15,25,17,4,8,31,27,13,23,21,19,16,7,26,12,18,6,11,5,10,9]
theorem aOe:Tryd.prog.globalNamed "math/bits.deBruijn64tab" =some 2:=by kernel_rfl
theorem aPk:(Tryd.prog.globals[2]?).map (·.type)=some 156:=by kernel_rfl
theorem aOH:Tryd.prog.cellsOf 156=64:=by kernel_rfl
theorem aP8:Tryd.prog.cellsOf 5=1:=by kernel_rfl
def aK9:List Int:=[0,1,56,2,57,49,28,3,61,58,42,50,38,29,17,4,62,47,59,36,45,43,51,22,53,39,33,30,24,18,12,5,63,55,48,27,60,41,37,16,46,35,44,21,52,32,23,11,54,26,40,15,34,20,31,10,25,14,19,9,13,8,7,6]
theorem aN9:Tryd.prog.globalNamed "internal/strconv.uint64pow10" =some 0:=by kernel_rfl
theorem aPJ:(Tryd.prog.globals[0]?).map (·.type)=some 153:=by kernel_rfl
theorem aO8:Tryd.prog.cellsOf 153=20:=by kernel_rfl
theorem aP7:Tryd.prog.cellsOf 133=1:=by kernel_rfl
def aLA:List Int:=[1,10,100,1000,10000,100000,1000000,10000000,100000000,1000000000,10000000000,100000000000,1000000000000,10000000000000,100000000000000,1000000000000000,10000000000000000,100000000000000000,1000000000000000000,10000000000000000000]
theorem table{W:World}(h:laidMetH Tryd.prog Rows.mergeBackRow.laid W):aHs Tryd.prog awake.tabs W:=by
 have h0:laidMet Tryd.prog [("math/bits.deBruijn32tab",Lib.tabData .u8 aMt),("math/bits.deBruijn64tab",Lib.tabData .u8 aK9),("internal/strconv.uint64pow10",Lib.tabData .u64 aLA)] W:=h;have t0:Lib.TabIs Tryd.prog W "math/bits.deBruijn32tab" .u8 aMt:=Lib.tabIs_of_head aOh aPW Tryd.underlying155 Tryd.underlying5 aPo aOr h0;have t1:Lib.TabIs Tryd.prog W "math/bits.deBruijn64tab" .u8 aK9:=Lib.tabIs_of_head aOe aPk Tryd.underlying156 Tryd.underlying5 aP8 aOH h0.tail;have t2:Lib.TabIs Tryd.prog W "internal/strconv.uint64pow10" .u64 aLA:=Lib.tabIs_of_head aN9 aPJ Tryd.underlying153 Tryd.underlying133 aP7 aO8 h0.tail.tail;exact(aBf aOh (Dg (by kernel_rfl)) t0 (by kernel_rfl) (by decide) (aBf aOe (Dg (by kernel_rfl)) t1 (by kernel_rfl) (by decide) (aBf aN9 (Dg (by kernel_rfl)) t2 (by kernel_rfl) (by decide) aKJ)))
theorem laidOut:laidOutB Tryd.prog=true:=by kernel_rfl
theorem aP5:mapsRowed Tryd.prog=true:=by kernel_rfl
theorem shutAll{H:Type}{enc:TypeId×Value→H}{W W':World}{sp:Nat→Bool}(hk:Kept W W'):∀ {ts:List TypeId} {vs:List Value} {ds:List (DataW H)} {ps:List MemPlace},(∀t∈ts,t<Tryd.prog.types.size)→DataW.TrodAll enc Tryd.prog W 0 (fun _=>true) true ts vs ds ps→(∀q∈ps,sp q.block=true)→DataW.TrodAll enc Tryd.prog W' 0 sp true ts vs ds ps
 | [],[],[],_,_,h,_=>h
 | t::ts,v::vs,d::ds,_,ht,⟨p,q,⟨fuel,h1⟩,h2,rfl⟩,hs=>by
  refine⟨p,q,⟨fuel,DataW.trod_stays (T:=(· <Tryd.prog.types.size)) (kids_rows laidOut aP5) (fun h1 h2=>slices_full_of Tryd.prog (by kernel_rfl) _ _ h1 h2) (fun h=>by cases h) (ht t (Cn ..)) h1 (fun x hx=>?_) (fun x hx=>hs x (Dk _ hx))⟩,shutAll hk (fun u hu=>ht u (Bw _ hu)) h2 (fun x hx=>hs x (Cu _ hx)),rfl⟩;have hlt:=DataW.trod_lt _ _ _ _ h1 x hx;cases x with
  | cell b off=>
   show W'.cell? ⟨b,off,none⟩=W.cell? ⟨b,off,none⟩;unfold World.cell?;rw[hk.heap b hlt]
  | map b=>exact hk.heap b hlt
theorem aN1:Lays Tryd.prog 28 (aF6 .i64):=aJv Tryd.underlying28 Tryd.underlying3 (by kernel_rfl) (Dg (by kernel_rfl))
set_option maxRecDepth 100000 in
theorem aMB(H:Type)(enc:TypeId×Value→H)(W:World)(base:Nat)(args:Array Value)(ds gs:List (DataW H))(before:List MemPlace)
  (hval:∀ (j:Nat) t v,Tryd.f4.params[j]? =some t→args[j]? =some v→Value.okWide Tryd.prog W .any base t v)
  (hW:DataW.Whole enc Tryd.prog Tryd.f4.params.toList Rows.mergeBackSpec.vars false W args.toList ds gs before)
  (hwt:(DataW.weightsEach Tryd.prog (Tryd.f4.params.toList++Rows.mergeBackSpec.plain.varTypes Tryd.prog) (ds++gs)).all (· ≤reachBytes)=true) (hL:laidMetH Tryd.prog Rows.mergeBackRow.laid W):
  Calls Tryd.prog 4 args W fun e W'=>∃v,e= .returned v∧Rows.mergeBackSpec.post enc Tryd.prog Tryd.f4 false true false false W args v W':=by
 have hW':=hW;obtain⟨p,q,hA0,hV,rfl,hfz,hnd⟩:=hW;have hA:DataW.TrodAll enc Tryd.prog W 0 (fun _=>true) true Tryd.f4.params.toList args.toList ds p:=hA0;rw[Tryd.params4] at hA hval;obtain⟨v0,v1,d0,d1,p0,p1,rfl,rfl,hp,h0,h1⟩:=trodAll_two hA;obtain⟨rfl,rfl⟩:=trodVars_none hV;simp only[Bt] at hW';have hv0:Rows.mergeBackSpec.plain.varTypes Tryd.prog= []:=rfl;rw[hv0,Bt,Bt,Tryd.params4] at hwt;have hw3:∀ (j:Nat) (t:TypeId) (d:DataW H),[28,3][j]? =some t→ [d0,d1][j]? =some d→∀n∈DataW.weights Tryd.prog t d,n≤140737488355328:=fun j t d h1 h2 n hn=>Bb (Dg (Dl.1 hwt n (aAs h1 h2 hn))) (by decide);have hT:=table hL;have hgl:∀x∈awake.tabs,x.1<Tryd.prog.globals.size:=fun x hx=>(hT x hx).1;obtain⟨f0,e0⟩:=id h0;obtain⟨b0,bl0,bc0,rfl⟩:=okWide_slice Tryd.underlying28 (hval 0 28 v0 rfl rfl);obtain⟨σ0,S0,a0,l0,A0,R0,I0,B0,n0⟩:=aI9 (aP6 hT) aN3 (aMQ hgl) (Ag _) aN1 e0 rfl (hw3 0 28 _ rfl rfl);obtain⟨n1,ev1,ed1,_,hn1⟩:=open_int Tryd.underlying3 (hval 1 3 v1 rfl rfl) h1;have n1w:=bounds_i64 hn1;have hrun:=runs  (aPw.same A0.same) I0 B0 n1w;have hargs:gH Tryd.prog σ0 [a0,.int .i64 n1] [.slice b0 bl0 bc0,v1]:=cJ.2 ⟨_,_,rfl,R0,cJ.2 ⟨_,_,rfl,(by rw[ev1];simp only[Rv]),cQ.2 rfl⟩⟩;refine(aJQ knows Tryd.func4 (by kernel_rfl) (by kernel_rfl) hrun hargs A0.rep A0.no).mono fun e W' ⟨he,hg⟩=>?_;subst he;refine⟨_,rfl,aJy (pa:=p) (pv:=[]) hW' (fun _ _ _=>(trodAll_cons_mk (shut_bool Tryd.underlying4 _) trodAll_mk0)) (fun sp hsp=>?_) (fun _ _=>rfl) (by simp)
  hg (ok_one (by kernel_rfl) rfl (okWide_bool_mk Tryd.underlying4 _))⟩
 show DataW.TrodAll enc Tryd.prog W' 0 sp true Tryd.f4.params.toList _ [d0,d1] _;rw[Tryd.params4];exact shutAll hg (Dg (by kernel_rfl)) hA (fun q hq=>hsp q (by simpa using hq))
noncomputable def aA3(os:Os):World:=
 {World.holding Tryd.prog os ⟨#[], #[.slice none 0 0,.int .i64 0],[]⟩ with heap:=((((World.holding Tryd.prog os ⟨#[], #[.slice none 0 0,.int .i64 0],[]⟩).heap.modify 1 fun
   | .cells _ t frozen=>.cells (aMt.map (Value.int .u8)).toArray t frozen
   | o=>o).modify 2 fun
   | .cells _ t frozen=>.cells (aK9.map (Value.int .u8)).toArray t frozen
   | o=>o).modify 0 fun
   | .cells _ t frozen=>.cells (aLA.map (Value.int .u64)).toArray t frozen
   | o=>o)}
theorem aMa(os:Os):laidMet Tryd.prog Rows.mergeBackRow.laid ((aA3 os).forCall (fun _ _=>0) ⟨#[], #[.slice none 0 0,.int .i64 0],[]⟩).memory:=
 laidMet_of_run' 8 (by kernel_rfl) (by kernel_rfl)
theorem reads(os:Os){H:Type}(enc:TypeId×Value→H):∃places,DataW.whole enc Tryd.prog ((aA3 os).forCall (fun _ _=>0) ⟨#[], #[.slice none 0 0,.int .i64 0],[]⟩).memory Tryd.f4.params.toList Rows.mergeBackSpec.vars false (#[.slice none 0 0,.int .i64 0]:Array Value).toList 8=some ([.nil,.lit (.int .i64 0)],[],places):=
 ⟨[],by kernel_rfl⟩
set_option maxRecDepth 100000 in
theorem lifted(os:Os)(started:os.Started)(H:Type)(enc:TypeId×Value→H)(F:Stop.Interp):
  ReturnsInHanded {} Tryd.checked os 4 .any ((OpenSpec.ofChange Rows.mergeBackSpec).preRow enc Tryd.prog Tryd.f4 Rows.mergeBackRow.domain false Rows.mergeBackRow.laid) (((OpenSpec.ofChange Rows.mergeBackSpec).at F).post enc Tryd.prog Tryd.f4 false true false false):=by
 obtain⟨places,hx⟩:=reads os enc;refine returnsInHanded_of_row (C:=Tryd.checked) (s:=OpenSpec.ofChange Rows.mergeBackSpec) own started (by kernel_rfl) Tryd.func4
  (witness_row_at (enc:=enc) (C:=Tryd.checked) false (aA3 os) #[.slice none 0 0,.int .i64 0] rfl (by kernel_rfl) (by kernel_rfl) (by kernel_rfl)
   (OpenSpec.preRow_of_cond 8 hx (by kernel_rfl) (fun k hk=>by cases hk) (by kernel_rfl) (aMa os))) ?_
 intro W base args ds gs before hval hW _ _ hwt hL _ _;exact aMB H enc W base args ds gs before hval hW hwt hL
theorem said:Rows.MergeBackSaid:=
 OpenClaim.holds_of_cond 4 Tryd.f4 rfl rfl rfl rfl rfl rfl rfl ⟨rfl,rfl,rfl,rfl,rfl⟩ rfl rfl rfl rfl rfl (by kernel_rfl) Tryd.func4 (by kernel_rfl)
  (Dg (by kernel_rfl)) (by unfold Func.isWrapper;first | (rw[if_pos (by decide+kernel)];kernel_rfl) | (rw[if_neg (by decide+kernel)];exact⟨rfl,rfl⟩))
  (fun os started H enc _ F=>by rw[OpenClaim.pre_eq_preRow];exact lifted os started H enc F)
theorem plain(f:FuncId)(fn:Func)(hf:Tryd.pinned.checked.prog.funcNamed Tryd.f4.name=some f)(hfn:Tryd.pinned.checked.prog.funcs[f]? =some fn):
  false=Tryd.pinned.checked.prog.looks []∧∀ (j:Nat) t,fn.params[j]? =some t→Tryd.pinned.checked.prog.wantsStandIn t=false:=by
 obtain rfl:f=4:=Cf ((show Tryd.prog.funcNamed Tryd.f4.name=some 4 by kernel_rfl).symm.trans hf) |>.symm
 obtain rfl:fn=Tryd.f4:=(Cf (Tryd.func4.symm.trans hfn)).symm;refine⟨by kernel_rfl,fun j t ht=>?_⟩;rw[Tryd.params4] at ht;have w3:Tryd.pinned.checked.prog.wantsStandIn 3=false:=by kernel_rfl
 have w28:Tryd.pinned.checked.prog.wantsStandIn 28=false:=by kernel_rfl
 match j,ht with
 | 0,h=>cases h;exact w28
 | 1,h=>cases h;exact w3
 | j+2,h=>simp at h
theorem proved:Rows.MergeBackCardSaid:=
 Claim7.holds_tied_plain_at .later [] _ _ _ _ said (fun _ h=>by cases h) (by kernel_rfl) (fun _ h=>by cases h) mergeBack_row_tie rfl ⟨rfl,rfl⟩ (by kernel_rfl) rfl plain (by kernel_rfl)
end Go.Proofs.YtkklchgmpejobaaDoor.mergeBack
#print axioms Go.Proofs.YtkklchgmpejobaaDoor.mergeBack.proved
