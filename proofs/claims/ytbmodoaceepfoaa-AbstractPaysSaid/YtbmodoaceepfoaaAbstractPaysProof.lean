import Derived.Test.YtbmodoaceepfoaaRows
import Derived.Test.YtbmodoaceepfoaaAbstractPaysFns
import Derived.WalkKit
import Derived.ProofKit
import Derived.OpenShut
import Derived.ChangeStays
import Derived.ChangeArms
import Derived.ChangeSlices
import Derived.ReadAgain
import Derived.SizedLaws
set_option linter.all false
namespace Go.Proofs.Ytbmodoaceepfoaa.abstractPays
open Go.ChangeShapes Go.WideShapes Go.ChangeAt Go.RowKit Go.Ev Go.Ev.Gl
def own:ownKnob Try.prog.godebug=none:=by kernel_rfl
def laidOut:laidOutB Try.prog=true:=by kernel_rfl
def aTo:mapsRowed Try.prog=true:=by kernel_rfl
theorem shutAll{H:Type}{enc:TypeId×Value->H}{W W':World}{sp:Nat->Bool}(hk:Kept W W'):∀ {ts:List TypeId} {vs:List Value} {ds:List (DataW H)} {ps:List MemPlace},(∀t∈ts,t<Try.prog.types.size)->DataW.TrodAll enc Try.prog W 0 (fun _=>true) true ts vs ds ps->(∀q∈ps,sp q.block=true)->DataW.TrodAll enc Try.prog W' 0 sp true ts vs ds ps
 | [],[],[],_,_,h,_=>h
 | t::ts,v::vs,d::ds,_,ht,⟨p,q,⟨fuel,h1⟩,h2,rfl⟩,hs=>by
  refine⟨p,q,⟨fuel,DataW.trod_stays (T:=(· <Try.prog.types.size)) (kids_rows laidOut aTo) (fun h1 h2=>slices_full_of Try.prog (by kernel_rfl) _ _ h1 h2) (fun h=>by cases h) (ht t (Be ..)) h1 (fun x hx=>?_) (fun x hx=>hs x (Dc _ hx))⟩,shutAll hk (fun u hu=>ht u (Az _ hu)) h2 (fun x hx=>hs x (Cq _ hx)),rfl⟩;have hlt:=DataW.trod_lt _ _ _ _ h1 x hx;cases x with
  | cell b off=>
   show W'.cell? ⟨b,off,none⟩=W.cell? ⟨b,off,none⟩;unfold World.cell?;rw[hk.heap b hlt]
  | map b=>exact hk.heap b hlt
def aK1:Lays Try.prog 22 (aJh .i64):=aL9 Try.underlying22 Try.underlying3 (by kernel_rfl) (of_decide_eq_true (by kernel_rfl))
section
variable {H:Type}{enc:TypeId×Value->H}{P:Program}{w:World}{base:Nat}{spare:Nat->Bool}{held:Bool}
def aHI{t0 t1 t2 t3 t4 t5:TypeId}{args:Array Value}{ds:List (DataW H)}{ps:List MemPlace}(h:DataW.TrodAll enc P w base spare held [t0,t1,t2,t3,t4,t5] args.toList ds ps):
  ∃v0 v1 a b v4 c d0 d1 d2 d3 d4 d5 d e f g i p5,args= #[v0,v1,a,b,v4,c]/\ds= [d0,d1,d2,d3,d4,d5]/\ps=d++e++f++g++i++p5/\DataW.Trod enc P w base spare held t0 v0 d0 d/\DataW.Trod enc P w base spare held t1 v1 d1 e/\DataW.Trod enc P w base spare held t2 a d2 f/\DataW.Trod enc P w base spare held t3 b d3 g/\DataW.Trod enc P w base spare held t4 v4 d4 i/\DataW.Trod enc P w base spare held t5 c d5 p5:=by
 obtain⟨v0,q,d0,D,d,E,j,rfl,rfl,k,r⟩:=trodAll_cons h;obtain⟨v1,s,d1,F,e,G,rfl,rfl,rfl,l,t⟩:=trodAll_cons r;obtain⟨a,u,d2,I,f,J,rfl,rfl,rfl,m,v⟩:=trodAll_cons t;obtain⟨b,x,d3,K,g,L,rfl,rfl,rfl,n,y⟩:=trodAll_cons v;obtain⟨v4,z,d4,M,i,N,rfl,rfl,rfl,o,A⟩:=trodAll_cons y;obtain⟨c,B,d5,O,p5,Q,rfl,rfl,rfl,p,C⟩:=trodAll_cons A;obtain⟨rfl,rfl,rfl⟩:=trodAll_nil C;exact⟨v0,v1,a,b,v4,c,d0,d1,d2,d3,d4,d5,d,e,f,g,i,p5,by cases args;simp_all,rfl,by simp,k,l,m,n,o,p⟩
end
set_option maxRecDepth 100000 in
def aOv(H:Type)(enc:TypeId×Value->H)(W:World)(base:Nat)(args:Array Value)(ds Q:List (DataW H))(before:List MemPlace)
  (a:∀ (j:Nat) t v,Try.f3.params[j]? =some t->args[j]? =some v->Value.okWide Try.prog W .any base t v)
  (R:DataW.Whole enc Try.prog Try.f3.params.toList Rows.abstractPaysSpec.vars false W args.toList ds Q before)
  (c:(DataW.weightsEach Try.prog (Try.f3.params.toList++Rows.abstractPaysSpec.plain.varTypes Try.prog) (ds++Q)).all (· <=reachBytes)=true):
  Calls Try.prog 3 args W fun e W'=>∃v,e= .returned v/\Rows.abstractPaysSpec.post enc Try.prog Try.f3 false true false false W args v W':=by
 have f:=R;obtain⟨p,q,k,V,rfl,X,Y⟩:=R;have l:DataW.TrodAll enc Try.prog W 0 (fun _=>true) true Try.f3.params.toList args.toList ds p:=k;rw[Try.params3] at l a;obtain⟨v0,v1,S,T,v4,Z,d0,d1,d2,d3,d4,d5,p0,p1,p2,p3,p4,p5,rfl,rfl,hp,h0,m,o,h3,h4,h5⟩:=aHI l;obtain⟨rfl,rfl⟩:=trodVars_none V;simp only[Bs] at f;have r:Rows.abstractPaysSpec.plain.varTypes Try.prog= []:=rfl;rw[r,Bs,Bs,Try.params3] at c;have g:∀ (j:Nat) (t:TypeId) (d:DataW H),[22,3,3,4,3,22][j]? =some t-> [d0,d1,d2,d3,d4,d5][j]? =some d->∀n∈DataW.weights Try.prog t d,n<=140737488355328:=fun j t d m o n hn=>Aq (of_decide_eq_true (Dq.1 c n (aBy m o hn))) az;have hT:aM3 Try.prog ([]:List (Nat×bu)) W:=aOw;have s:∀x∈([]:List (Nat×bu)),x.1<Try.prog.globals.size:=fun x hx=>by cases hx
 obtain⟨f0,e0⟩:=id h0;obtain⟨b0,u,y,rfl⟩:=okWide_slice Try.underlying22 (a 0 22 v0 rfl rfl);obtain⟨σ0,S0,a0,l0,z,R0,I0,B0,n0⟩:=aFJ (aTp hT) aPI (aP9 s) (Af _) aK1 e0 rfl (g 0 22 _ rfl rfl);obtain⟨n1,A,aa,_,B⟩:=open_int Try.underlying3 (a 1 3 v1 rfl rfl) m;have C:=bounds_i64 B;obtain⟨n2,D,ab,_,E⟩:=open_int Try.underlying3 (a 2 3 S rfl rfl) o;have F:=bounds_i64 E;obtain⟨n3,G,ac,_⟩:=open_bool Try.underlying4 (a 3 4 T rfl rfl) h3;obtain⟨n4,I,an,_,J⟩:=open_int Try.underlying3 (a 4 3 v4 rfl rfl) h4;have K:=bounds_i64 J;obtain⟨f5,e5⟩:=id h5;obtain⟨b5,L,M,rfl⟩:=okWide_slice Try.underlying22 (a 5 22 Z rfl rfl);obtain⟨N,S5,a5,l5,i,R5,I5,B5,n5⟩:=aFJ z.rep z.no z.fresh n0 aK1 e5 rfl (g 5 22 _ rfl rfl);have h:=runs (n3:=n3) (bN.jo I0 i.jo) B0 C F K I5 B5;have b:jG Try.prog N [a0,.int .i64 n1,.int .i64 n2,.bool n3,.int .i64 n4,a5] [.slice b0 u y,v1,S,T,v4,.slice b5 L M]:=dL.2 ⟨_,_,rfl,(R0.mono i.le),dL.2 ⟨_,_,rfl,(by rw[A];simp only[Rv]),dL.2 ⟨_,_,rfl,(by rw[D];simp only[Rv]),dL.2 ⟨_,_,rfl,(by rw[G];simp only[Rv]),dL.2 ⟨_,_,rfl,(by rw[I];simp only[Rv]),dL.2 ⟨_,_,rfl,R5,dS.2 rfl⟩⟩⟩⟩⟩⟩;refine(aMv knows Try.func3 (by kernel_rfl) (by kernel_rfl) h b i.rep i.no).mono fun e W' ⟨he,U⟩=>?_;subst he;refine⟨_,rfl,aLZ (pa:=p) (pv:=[]) f (fun _ _ _=>(trodAll_cons_mk (shut_bool Try.underlying4 _) trodAll_mk0)) (fun sp O=>?_) (fun _ _=>rfl) (by simp)
  U (ok_one (by kernel_rfl) rfl (okWide_bool_mk Try.underlying4 _))⟩
 show DataW.TrodAll enc Try.prog W' 0 sp true Try.f3.params.toList _ [d0,d1,d2,d3,d4,d5] _;rw[Try.params3];exact shutAll U (of_decide_eq_true (by kernel_rfl)) l (fun q hq=>O q (by simpa using hq))
set_option maxRecDepth 100000 in
def lifted(os:Os)(a:os.Started)(H:Type)(enc:TypeId×Value->H):
  ReturnsInHanded {} Try.checked os 3 .any (Rows.abstractPaysSpec.pre6 enc Try.prog Try.f3 Rows.abstractPaysRow.domain false) (Rows.abstractPaysSpec.post enc Try.prog Try.f3 false true false false):=by
 refine returnsInHanded_of_change_sized (C:=Try.checked) own a (by kernel_rfl) Try.func3
  (ChangeSpec.witness6 (enc:=enc) (C:=Try.checked) false ⟨#[], #[.slice none 0 0,.int .i64 0,.int .i64 0,.bool false,.int .i64 0,.slice none 0 0],[]⟩ 8 (by kernel_rfl) (by kernel_rfl) (by kernel_rfl) (by kernel_rfl)) ?_
 intro W base args ds e before b f d c _;exact aOv H enc W base args ds e before b f c
theorem proved:Rows.AbstractPaysSaid:=
 OpenClaim.holds_of_wide 3 Try.f3 rfl rfl rfl rfl rfl rfl rfl ⟨rfl,rfl,rfl,rfl,rfl⟩ rfl rfl rfl rfl rfl (by kernel_rfl) Try.func3 (by kernel_rfl)
  (of_decide_eq_true (by kernel_rfl)) (by unfold Func.isWrapper;first | (rw[if_pos (by decide+kernel)];kernel_rfl) | (rw[if_neg (by decide+kernel)];exact⟨rfl,rfl⟩))
  (fun os started H enc _=>lifted os started H enc)
end Go.Proofs.Ytbmodoaceepfoaa.abstractPays
#print axioms Go.Proofs.Ytbmodoaceepfoaa.abstractPays.proved
