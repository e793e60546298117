import Derived.Test.YtkklchgmpejobaaGreatDoorCards
import Derived.Test.YtkklchgmpejobaaGreatDoorTie
import Derived.Test.YtkklchgmpejobaaGreatDoorMergePaysFns
import Derived.WalkKit
import Derived.ProofKit
import Derived.OpenShut
import Derived.Carry
import Derived.ChangeSlices
import Derived.Deep.DeepHandedRow
import Derived.Lib.LaidTab
import Derived.Stop.LaidErr
import Derived.ChangeStays
import Derived.ChangeArms
import Derived.ChangeSlices
import Derived.ReadAgain
import Derived.SizedLaws
namespace Go.Proofs.YtkklchgmpejobaaGreatDoor.mergePays
open Go.ChangeShapes Go.WideShapes Go.ChangeAt Go.RowKit Go.Ev Go.Ev.Gl
theorem own:ownKnob Tryz.prog.godebug=none:=by kernel_rfl
theorem aO5:Tryz.prog.globalNamed "math/bits.deBruijn32tab" =some 1:=by kernel_rfl
theorem aQw:(Tryz.prog.globals[1]?).map (·.type)=some 162:=by kernel_rfl
theorem aO9:Tryz.prog.cellsOf 162=32:=by kernel_rfl
theorem aQP:Tryz.prog.cellsOf 5=1:=by kernel_rfl
def aLh:List Int:=[0,1,28,2,29,14,24,3,30,22,20,15,25,17,4,8,31,27,13,23,21,19,16,7,26,12,18,6,11,5,10,9]
theorem aO1:Tryz.prog.globalNamed "math/bits.deBruijn64tab" =some 2:=by kernel_rfl
theorem aQz:(Tryz.prog.globals[2]?).map (·.type)=some 163:=by kernel_rfl
theorem aO6:Tryz.prog.cellsOf 163=64:=by kernel_rfl
theorem aQI:Tryz.prog.cellsOf 5=1:=by kernel_rfl
def aML:List Int:=[0,1,56,2,57,49,28,3,61,58,42,50,38,29,17,4,62,47,59,36,45,43,51,22,53,39,33,30,24,18,12,5,63,55,48,27,60,41,37,16,46,35,44,21,52,32,23,11,54,26,40,15,34,20,31,10,25,14,19,9,13,8,7,6]
theorem aO4:Tryz.prog.globalNamed "internal/strconv.uint64pow10" =some 0:=by kernel_rfl
theorem aQT:(Tryz.prog.globals[0]?).map (·.type)=some 160:=by kernel_rfl
theorem aPQ:Tryz.prog.cellsOf 160=20:=by kernel_rfl
theorem aQg:Tryz.prog.cellsOf 140=1:=by kernel_rfl
def aMo:List Int:=[1,10,100,1000,10000,100000,1000000,10000000,100000000,1000000000,10000000000,100000000000,1000000000000,10000000000000,100000000000000,1000000000000000,10000000000000000,100000000000000000,1000000000000000000,10000000000000000000]
theorem table{W:World}(h:laidMetH Tryz.prog Rows.mergePaysRow.laid W):aHU Tryz.prog awake.tabs W:=by
 have h0:laidMet Tryz.prog [("math/bits.deBruijn32tab",Lib.tabData .u8 aLh),("math/bits.deBruijn64tab",Lib.tabData .u8 aML),("internal/strconv.uint64pow10",Lib.tabData .u64 aMo)] W:=h;have t0:Lib.TabIs Tryz.prog W "math/bits.deBruijn32tab" .u8 aLh:=Lib.tabIs_of_head aO5 aQw Tryz.underlying162 Tryz.underlying5 aQP aO9 h0;have t1:Lib.TabIs Tryz.prog W "math/bits.deBruijn64tab" .u8 aML:=Lib.tabIs_of_head aO1 aQz Tryz.underlying163 Tryz.underlying5 aQI aO6 h0.tail;have t2:Lib.TabIs Tryz.prog W "internal/strconv.uint64pow10" .u64 aMo:=Lib.tabIs_of_head aO4 aQT Tryz.underlying160 Tryz.underlying140 aQg aPQ h0.tail.tail;exact(aBf aO5 (Dk (by kernel_rfl)) t0 (by kernel_rfl) (by decide) (aBf aO1 (Dk (by kernel_rfl)) t1 (by kernel_rfl) (by decide) (aBf aO4 (Dk (by kernel_rfl)) t2 (by kernel_rfl) (by decide) aM5)))
theorem laidOut:laidOutB Tryz.prog=true:=by kernel_rfl
theorem aQE:mapsRowed Tryz.prog=true:=by kernel_rfl
theorem shutAll{H:Type}{enc:TypeId×Value→H}{W W':World}{sp:Nat→Bool}(hk:Kept W W'):∀ {ts:List TypeId} {vs:List Value} {ds:List (DataW H)} {ps:List MemPlace},(∀t∈ts,t<Tryz.prog.types.size)→DataW.TrodAll enc Tryz.prog W 0 (fun _=>true) true ts vs ds ps→(∀q∈ps,sp q.block=true)→DataW.TrodAll enc Tryz.prog W' 0 sp true ts vs ds ps
 | [],[],[],_,_,h,_=>h
 | t::ts,v::vs,d::ds,_,ht,⟨p,q,⟨fuel,h1⟩,h2,rfl⟩,hs=>by
  refine⟨p,q,⟨fuel,DataW.trod_stays (T:=(· <Tryz.prog.types.size)) (kids_rows laidOut aQE) (fun h1 h2=>slices_full_of Tryz.prog (by kernel_rfl) _ _ h1 h2) (fun h=>by cases h) (ht t (Cd ..)) h1 (fun x hx=>?_) (fun x hx=>hs x (Dp _ hx))⟩,shutAll hk (fun u hu=>ht u (Bq _ hu)) h2 (fun x hx=>hs x (Cz _ hx)),rfl⟩;have hlt:=DataW.trod_lt _ _ _ _ h1 x hx;cases x with
  | cell b off=>
   show W'.cell? ⟨b,off,none⟩=W.cell? ⟨b,off,none⟩;unfold World.cell?;rw[hk.heap b hlt]
  | map b=>exact hk.heap b hlt
theorem aJd:Lays Tryz.prog 22 (aGz .i64):=aKN Tryz.underlying22 Tryz.underlying3 (by kernel_rfl) (Dk (by kernel_rfl))
set_option maxRecDepth 100000 in
theorem aK8(H:Type)(enc:TypeId×Value→H)(W:World)(base:Nat)(args:Array Value)(ds gs:List (DataW H))(before:List MemPlace)
  (hval:∀ (j:Nat) t v,Tryz.f3.params[j]? =some t→args[j]? =some v→Value.okWide Tryz.prog W .any base t v)
  (hW:DataW.Whole enc Tryz.prog Tryz.f3.params.toList Rows.mergePaysSpec.vars false W args.toList ds gs before)
  (hwt:(DataW.weightsEach Tryz.prog (Tryz.f3.params.toList++Rows.mergePaysSpec.plain.varTypes Tryz.prog) (ds++gs)).all (· ≤reachBytes)=true) (hL:laidMetH Tryz.prog Rows.mergePaysRow.laid W):
  Calls Tryz.prog 3 args W fun e W'=>∃v,e= .returned v∧Rows.mergePaysSpec.post enc Tryz.prog Tryz.f3 false true false false W args v W':=by
 have hW':=hW;obtain⟨p,q,hA0,hV,rfl,hfz,hnd⟩:=hW;have hA:DataW.TrodAll enc Tryz.prog W 0 (fun _=>true) true Tryz.f3.params.toList args.toList ds p:=hA0;rw[Tryz.params3] at hA hval;obtain⟨v0,v1,v2,d0,d1,d2,p0,p1,p2,rfl,rfl,hp,h0,h1,h2⟩:=trodAll_three hA;obtain⟨rfl,rfl⟩:=trodVars_none hV;simp only[Bz] at hW';have hv0:Rows.mergePaysSpec.plain.varTypes Tryz.prog= []:=rfl;rw[hv0,Bz,Bz,Tryz.params3] at hwt;have hw3:∀ (j:Nat) (t:TypeId) (d:DataW H),[22,3,22][j]? =some t→ [d0,d1,d2][j]? =some d→∀n∈DataW.weights Tryz.prog t d,n≤140737488355328:=fun j t d h1 h2 n hn=>Ap (Dk (Dt.1 hwt n (aAC h1 h2 hn))) (by decide);have hT:=table hL;have hgl:∀x∈awake.tabs,x.1<Tryz.prog.globals.size:=fun x hx=>(hT x hx).1;obtain⟨f0,e0⟩:=id h0;obtain⟨b0,bl0,bc0,rfl⟩:=okWide_slice Tryz.underlying22 (hval 0 22 v0 rfl rfl);obtain⟨σ0,S0,a0,l0,A0,R0,I0,B0,n0⟩:=aEz (aQ0 hT) aOD (aOB hgl) (Ag _) aJd e0 rfl (hw3 0 22 _ rfl rfl);obtain⟨n1,ev1,ed1,_,hn1⟩:=open_int Tryz.underlying3 (hval 1 3 v1 rfl rfl) h1;have n1w:=bounds_i64 hn1;obtain⟨f2,e2⟩:=id h2;obtain⟨b2,bl2,bc2,rfl⟩:=okWide_slice Tryz.underlying22 (hval 2 22 v2 rfl rfl);obtain⟨σ2,S2,a2,l2,A2,R2,I2,B2,n2⟩:=aEz A0.rep A0.no A0.fresh n0 aJd e2 rfl (hw3 2 22 _ rfl rfl);have hrun:=runs  (aQF.same (A0.trans A2).same) (cD.same I0 A2.same) B0 n1w I2 B2;have hargs:gO Tryz.prog σ2 [a0,.int .i64 n1,a2] [.slice b0 bl0 bc0,v1,.slice b2 bl2 bc2]:=cJ.2 ⟨_,_,rfl,(R0.mono A2.le),cJ.2 ⟨_,_,rfl,(by rw[ev1];simp only[Rv]),cJ.2 ⟨_,_,rfl,R2,cO.2 rfl⟩⟩⟩;refine(aKI knows Tryz.func3 (by kernel_rfl) (by kernel_rfl) hrun hargs A2.rep A2.no).mono fun e W' ⟨he,hg⟩=>?_;subst he;refine⟨_,rfl,aKx (pa:=p) (pv:=[]) hW' (fun _ _ _=>(trodAll_cons_mk (shut_bool Tryz.underlying4 _) trodAll_mk0)) (fun sp hsp=>?_) (fun _ _=>rfl) (by simp)
  hg (ok_one (by kernel_rfl) rfl (okWide_bool_mk Tryz.underlying4 _))⟩
 show DataW.TrodAll enc Tryz.prog W' 0 sp true Tryz.f3.params.toList _ [d0,d1,d2] _;rw[Tryz.params3];exact shutAll hg (Dk (by kernel_rfl)) hA (fun q hq=>hsp q (by simpa using hq))
noncomputable def aBA(os:Os):World:=
 {World.holding Tryz.prog os ⟨#[], #[.slice none 0 0,.int .i64 0,.slice none 0 0],[]⟩ with heap:=((((World.holding Tryz.prog os ⟨#[], #[.slice none 0 0,.int .i64 0,.slice none 0 0],[]⟩).heap.modify 1 fun
   | .cells _ t frozen=>.cells (aLh.map (Value.int .u8)).toArray t frozen
   | o=>o).modify 2 fun
   | .cells _ t frozen=>.cells (aML.map (Value.int .u8)).toArray t frozen
   | o=>o).modify 0 fun
   | .cells _ t frozen=>.cells (aMo.map (Value.int .u64)).toArray t frozen
   | o=>o)}
theorem aM3(os:Os):laidMet Tryz.prog Rows.mergePaysRow.laid ((aBA os).forCall (fun _ _=>0) ⟨#[], #[.slice none 0 0,.int .i64 0,.slice none 0 0],[]⟩).memory:=
 laidMet_of_run' 8 (by kernel_rfl) (by kernel_rfl)
theorem reads(os:Os){H:Type}(enc:TypeId×Value→H):∃places,DataW.whole enc Tryz.prog ((aBA os).forCall (fun _ _=>0) ⟨#[], #[.slice none 0 0,.int .i64 0,.slice none 0 0],[]⟩).memory Tryz.f3.params.toList Rows.mergePaysSpec.vars false (#[.slice none 0 0,.int .i64 0,.slice none 0 0]:Array Value).toList 8=some ([.nil,.lit (.int .i64 0),.nil],[],places):=
 ⟨[],by kernel_rfl⟩
set_option maxRecDepth 100000 in
theorem lifted(os:Os)(started:os.Started)(H:Type)(enc:TypeId×Value→H)(F:Stop.Interp):
  ReturnsInHanded {} Tryz.checked os 3 .any ((OpenSpec.ofChange Rows.mergePaysSpec).preRow enc Tryz.prog Tryz.f3 Rows.mergePaysRow.domain false Rows.mergePaysRow.laid) (((OpenSpec.ofChange Rows.mergePaysSpec).at F).post enc Tryz.prog Tryz.f3 false true false false):=by
 obtain⟨places,hx⟩:=reads os enc;refine returnsInHanded_of_row (C:=Tryz.checked) (s:=OpenSpec.ofChange Rows.mergePaysSpec) own started (by kernel_rfl) Tryz.func3
  (witness_row_at (enc:=enc) (C:=Tryz.checked) false (aBA os) #[.slice none 0 0,.int .i64 0,.slice none 0 0] rfl (by kernel_rfl) (by kernel_rfl) (by kernel_rfl)
   (OpenSpec.preRow_of_cond 8 hx (by kernel_rfl) (fun k hk=>by cases hk) (by kernel_rfl) (aM3 os))) ?_
 intro W base args ds gs before hval hW _ _ hwt hL _ _;exact aK8 H enc W base args ds gs before hval hW hwt hL
theorem said:Rows.MergePaysSaid:=
 OpenClaim.holds_of_cond 3 Tryz.f3 rfl rfl rfl rfl rfl rfl rfl ⟨rfl,rfl,rfl,rfl,rfl⟩ rfl rfl rfl rfl rfl (by kernel_rfl) Tryz.func3 (by kernel_rfl)
  (Dk (by kernel_rfl)) (by unfold Func.isWrapper;first | (rw[if_pos (by decide+kernel)];kernel_rfl) | (rw[if_neg (by decide+kernel)];exact⟨rfl,rfl⟩))
  (fun os started H enc _ F=>by rw[OpenClaim.pre_eq_preRow];exact lifted os started H enc F)
theorem plain(f:FuncId)(fn:Func)(hf:Tryz.pinned.checked.prog.funcNamed Tryz.f3.name=some f)(hfn:Tryz.pinned.checked.prog.funcs[f]? =some fn):
  false=Tryz.pinned.checked.prog.looks []∧∀ (j:Nat) t,fn.params[j]? =some t→Tryz.pinned.checked.prog.wantsStandIn t=false:=by
 obtain rfl:f=3:=Cl ((show Tryz.prog.funcNamed Tryz.f3.name=some 3 by kernel_rfl).symm.trans hf) |>.symm
 obtain rfl:fn=Tryz.f3:=(Cl (Tryz.func3.symm.trans hfn)).symm;refine⟨by kernel_rfl,fun j t ht=>?_⟩;rw[Tryz.params3] at ht;have w3:Tryz.pinned.checked.prog.wantsStandIn 3=false:=by kernel_rfl
 have w22:Tryz.pinned.checked.prog.wantsStandIn 22=false:=by kernel_rfl
 match j,ht with
 | 0,h=>cases h;exact w22
 | 1,h=>cases h;exact w3
 | 2,h=>cases h;exact w22
 | j+3,h=>simp at h
theorem proved:Rows.MergePaysCardSaid:=
 Claim7.holds_tied_plain_at .later [] _ _ _ _ said (fun _ h=>by cases h) (by kernel_rfl) (fun _ h=>by cases h) mergePays_row_tie rfl ⟨rfl,rfl⟩ (by kernel_rfl) rfl plain (by kernel_rfl)
end Go.Proofs.YtkklchgmpejobaaGreatDoor.mergePays
#print axioms Go.Proofs.YtkklchgmpejobaaGreatDoor.mergePays.proved
