import Derived.Test.YtkklchgmpejobaaGreatDoorGl18
open Nat renaming reduceEqDiff → rE, reduceAdd → rA
set_option maxHeartbeats 16000000
set_option linter.unusedSimpArgs false
set_option linter.unusedVariables false
namespace Go.Ev.Gl
open Go.Sort
variable {fns:T cV}
def aAx(a b:Int):Int:=if a<b then -1 else if b<a then 1 else 0
theorem aAv{S:St}{a b:Int}(H:Has fns):fR fns (.fn 62 [] []) [.int .i64 a,.int .i64 b] S fun r S'=>r= .int .i64 (aAx a b)∧S'=S:=by
 refine cE H.f62 (by simp) ?_;refine ah ?_;refine cC ?_;refine ah ?_;refine cC ?_;refine ac ?_;refine aY ?_;refine ac ?_;refine aP (yL H) ?_;rintro _ _ ⟨rfl,rfl⟩;try simp only[↓aA,aB,rE,↓reduceIte]
 refine cC ?_;refine ac ?_;refine aY ?_;refine ac ?_;refine aP (yL H) ?_;rintro _ _ ⟨rfl,rfl⟩;try simp only[↓aA,aB,rE,↓reduceIte]
 refine iP ?_;refine ac ?_;refine aO (ae) (aM ?_);try simp only[↓aA,aB,rE,↓reduceIte]
 refine iP ?_;refine ac ?_;refine aO (ae) (aM ?_);try simp only[↓aA,aB,rE,↓reduceIte]
 refine iP ?_;simp only[↓aA,aB,rE,↓reduceIte];unfold aAx;by_cases h1:a<b
 ·rw[if_pos h1];refine aR (by simp only[↓aA,aB,rE,↓reduceIte,Ad h1]) (aC (aG ?_));refine ac ?_;refine aU ?_;simp only[↓aA,aB,rE,↓reduceIte];rfl
 rw[if_neg h1];refine aO (by simp only[↓aA,aB,rE,↓reduceIte,Aa h1]) (aM ?_);try simp only[↓aA,aB,rE,↓reduceIte]
 refine iP ?_;simp only[↓aA,aB,rE,↓reduceIte];by_cases h2:b<a
 ·rw[if_pos h2];refine aR (by simp only[↓aA,aB,rE,↓reduceIte,Ad h2]) (aC (aG ?_));refine ac ?_;refine aU ?_;simp only[↓aA,aB,rE,↓reduceIte]
 rw[if_neg h2];refine aO (by simp only[↓aA,aB,rE,↓reduceIte,Aa h2]) (aM ?_);try simp only[↓aA,aB,rE,↓reduceIte]
 refine cC ?_;refine ac ?_;refine aU ?_;simp only[↓aA,aB,rE,↓reduceIte]
theorem aOO{S:St}{v:AV}{x y:Int}(H:Has fns)(h:cD .i64 S v [x,y]):fR fns (.fn 61 [] []) [v] S fun r S'=>r= .int .i64 (if x≠0 then x else y)∧S'=S:=by
 refine cE H.f61 (by simp) ?_;refine ah ?_;refine cC ?_;refine ah ?_;refine cC ?_;simp only[↓aA,aB,rE,↓reduceIte];have hl:=h.len;simp only[Am,Bo,Ao,rA,Int.cast_ofNat_Int] at hl;refine aC (bD (Q:=fun o A' X=>X=S∧(o= .ret∧aD 2 A'.F= .int .i64 (if x≠0 then x else y)∨o= .normal∧x=0∧y=0∧aD 3 A'.F= .int .i64 0)) (aC (aG ?_)) ?_)
 ·simp only[↓aA,aB,rE,↓reduceIte,hl];refine aN (bT (fun k A' X=>A'.inr=false∧X=S∧∃i:Nat,i+k=2∧(0<i→x=0)∧(1<i→y=0)∧aD 3 A'.F= .int .i64 0∧aD 6 A'.F=v∧aD 7 A'.F= .int .i64 2∧aD 8 A'.F= .int .i64 (i:Int)) ?_ 2 _ _ ⟨rfl,rfl,0,rfl,by omega,by omega,by refine⟨?_,?_,?_,?_⟩<;>simp only[↓aA,aB,rE,↓reduceIte]⟩);rintro k ⟨F,inr⟩ X ⟨q0,rfl,i,hik,hx,hy,p3,p6,p7,p8⟩;simp only at q0 p3 p6 p7 p8;subst q0;refine cC ?_;simp only[↓aA,aB,rE,↓reduceIte,p7,p8];by_cases hi:i<2
  ·refine aC (aR (by simp only[↓aA,aB,rE,↓reduceIte,Ad (show(i:Int)<2 by omega)]) (aM ?_));try simp only[↓aA,aB,rE,↓reduceIte]
   have hil:i< [x,y].length:=hi;have ia:=h.iaddr hil;have la:=h.ld hil;obtain⟨w,hw⟩:∃w,w= [x,y].getD i 0:=⟨_,rfl⟩;rw[←hw] at la;refine aC (aN (aC (aG ?_)));simp only[↓aA,aB,rE,↓reduceIte,p6,p8,aH,ia,la];refine cC ?_;simp only[↓aA,aB,rE,↓reduceIte,p3];have hwx:i=0→w=x:=fun e=>by subst e;exact hw
   have hwy:i=1→w=y:=fun e=>by subst e;exact hw
   by_cases hw0:w=0
   ·refine aO (by simp only[↓aA,aB,rE,↓reduceIte,Aa (show ¬w≠0 from fun h=>h hw0)]) (aM ?_);try simp only[↓aA,aB,rE,↓reduceIte]
    refine aG ?_;simp only[↓aA,aB,rE,↓reduceIte,p8,fA (a:=i) (by omega)];exact⟨k - 1,by omega,i+1,by omega,by omega,by omega,p3,p6,p7,rfl⟩
   ·refine aR (by simp only[↓aA,aB,rE,↓reduceIte,Ad hw0]) (aC (aG ?_));refine ac ?_;refine aU ?_;refine ac ?_;refine .inl ?_;congr 1;by_cases e:i=0
    ·rw[hwx e] at hw0 ⊢;rw[if_pos hw0]
    ·rw[hx (by omega),if_neg (fun h=>h rfl)];exact hwy (by omega)
  ·refine aC (aO (by simp only[↓aA,aB,rE,↓reduceIte,Aa (show ¬ (i:Int)<2 by omega)]) (bK ?_));exact⟨rfl,.inr ⟨rfl,hx (by omega),hy (by omega),ag p3⟩⟩
 rintro o ⟨F,inr⟩ X ⟨rfl,⟨rfl,p2⟩ | ⟨rfl,hx,hy,p3⟩⟩
 ·simp only at p2;simp only[↓aA,aB,rE,↓reduceIte,p2]
 simp only at p3;try simp only[↓aA,aB,rE,↓reduceIte]
 refine cC ?_;simp only[↓aA,aB,rE,↓reduceIte,p3];refine aU ?_;simp only[↓aA,aB,rE,↓reduceIte];rw[hx,hy,if_neg (fun h=>h rfl)]
theorem aOQ{t:Nat}{z:AV}{x y:cK}{F:Fr}{id:Nat}{n m:Int}(hx:x.val F= .int .i64 n)(hy:y.val F= .int .i64 m):tQ (.bslice t 1 2 [z] [(0,x),(1,y)]) F id=some (.sl id 0 2 2 false,.cells (bG [n,m]) false 0):=by
 show(aX (fG (repeatL [z] 2) [(0 * 1,1,x.val F),(1 * 1,1,y.val F)]) fun cs=>some (AV.sl id 0 2 2 false,AB.cells cs false 0))=_;rw[hx,hy];rfl
end Go.Ev.Gl
namespace Go.Ev.Gl
open Go.Sort
variable {fns:T cV}
theorem aGZ(a b:Int):aAx a b<0↔a<b:=by
 unfold aAx;split
 ·omega
 ·split<;>omega
theorem aKk(a b:Int):aAx a b=0↔a=b:=by
 unfold aAx;split
 ·omega
 ·split<;>omega
def aN3(x y:bU):Prop:=x.kind=y.kind∧x.player=y.player∧x.info=y.info∧x.weights=y.weights∧x.pay=y.pay
def jA(g:bH)(a i:Nat):Nat:=((nodeAt g a).next.getD i 0).toNat
def aN1(g:bH):Nat→Nat→Nat→Prop
 | 0,_,_=>False
 | f+1,a,b=>aN3 (nodeAt g a) (nodeAt g b)∧(nodeAt g a).next.length=(nodeAt g b).next.length∧∀i,i<(nodeAt g a).next.length→aN1 g f (jA g a i) (jA g b i)
def eF(g:bH):Prop:=∀a,a<g.nodes.length→∀i,i<(nodeAt g a).next.length→a<jA g a i∧jA g a i<g.nodes.length∧(nodeAt g a).next.getD i 0=((jA g a i:Nat):Int)
section
variable {g:bH}
theorem yQ(hK:eF g):∀ (f f' a b:Nat),a<g.nodes.length→b<g.nodes.length→g.nodes.length - a≤f→g.nodes.length - a≤f'→aN1 g f a b→aN1 g f' a b
 | 0,_,a,b,ha,_,h,_,_=>by omega
 | f+1,0,a,b,ha,_,_,h,_=>by omega
 | f+1,f'+1,a,b,ha,hb,h1,h2,h=>by
  refine⟨h.1,h.2.1,fun i hi=>?_⟩;obtain⟨k1,k2,_⟩:=hK a ha i hi;obtain⟨_,k4,_⟩:=hK b hb i (by rw[←h.2.1];exact hi);exact yQ hK f f' _ _ k2 k4 (by omega) (by omega) (h.2.2 i hi)
def EqS(g:bH)(a b:Nat):Prop:=aN1 g g.nodes.length a b
theorem oY(hK:eF g){a b:Nat}(ha:a<g.nodes.length)(hb:b<g.nodes.length):EqS g a b↔aN3 (nodeAt g a) (nodeAt g b)∧(nodeAt g a).next.length=(nodeAt g b).next.length∧∀i,i<(nodeAt g a).next.length→EqS g (jA g a i) (jA g b i):=by
 obtain⟨n,hn⟩:∃n,g.nodes.length=n+1:=⟨g.nodes.length - 1,by omega⟩;unfold EqS;constructor
 ·intro h;rw[hn] at h;refine⟨h.1,h.2.1,fun i hi=>?_⟩;obtain⟨k1,k2,_⟩:=hK a ha i hi;obtain⟨_,k4,_⟩:=hK b hb i (by rw[←h.2.1];exact hi);exact yQ hK _ _ _ _ k2 k4 (by omega) (by omega) (h.2.2 i hi)
 ·rintro⟨h1,h2,h3⟩;rw[hn];refine⟨h1,h2,fun i hi=>?_⟩;obtain⟨k1,k2,_⟩:=hK a ha i hi;obtain⟨_,k4,_⟩:=hK b hb i (by rw[←h2];exact hi);exact yQ hK _ _ _ _ k2 k4 (by omega) (by omega) (h3 i hi)
theorem tA{n:Nat}{P:Nat→Prop}(h:∀a,a<n→(∀b,a<b→b<n→P b)→P a):∀a,a<n→P a:=by
 have key:∀k a,n - a≤k→a<n→P a:=fun k=>by
  induction k with
  | zero=>intro a h1 h2;omega
  | succ k ih=>exact fun a h1 h2=>h a h2 fun b hb hbn=>ih b (by omega) hbn
 exact fun a ha=>key _ a (Ag _) ha
theorem aDK(hK:eF g):∀a,a<g.nodes.length→EqS g a a:=tA fun a ha ih=>by
 rw[oY hK ha ha];exact⟨⟨rfl,rfl,rfl,rfl,rfl⟩,rfl,fun i hi=>ih _ (hK a ha i hi).1 (hK a ha i hi).2.1⟩
theorem pU(hK:eF g):∀a,a<g.nodes.length→∀b,b<g.nodes.length→EqS g a b→EqS g b a:=tA fun a ha ih b hb h=>by
 rw[oY hK ha hb] at h;rw[oY hK hb ha];obtain⟨⟨h1,h2,h3,h4,h5⟩,h6,h7⟩:=h;exact⟨⟨h1.symm,h2.symm,h3.symm,h4.symm,h5.symm⟩,h6.symm,fun i hi=>ih _ (hK a ha i (by omega)).1 (hK a ha i (by omega)).2.1 _ (hK b hb i hi).2.1 (h7 i (by omega))⟩
theorem kK(hK:eF g):∀a,a<g.nodes.length→∀b,b<g.nodes.length→∀c,c<g.nodes.length→EqS g a b→EqS g b c→EqS g a c:=tA fun a ha ih b hb c hc h h'=>by
 rw[oY hK ha hb] at h;rw[oY hK hb hc] at h';rw[oY hK ha hc];obtain⟨⟨h1,h2,h3,h4,h5⟩,h6,h7⟩:=h;obtain⟨⟨g1,g2,g3,g4,g5⟩,g6,g7⟩:=h';exact⟨⟨h1.trans g1,h2.trans g2,h3.trans g3,h4.trans g4,h5.trans g5⟩,h6.trans g6,fun i hi=>ih _ (hK a ha i hi).1 (hK a ha i hi).2.1 _ (hK b hb i (by omega)).2.1 _ (hK c hc i (by omega)).2.1 (h7 i hi) (g7 i (by omega))⟩
def aOj(H:List Int)(l:List Int):Int:=l.foldl (fun m c=>mx m (H.getD c.toNat 0+1)) 0
def aQf(g:bH)(H:List Int):Prop:=H.length=g.nodes.length∧∀i,i<g.nodes.length→H.getD i 0=aOj H (nodeAt g i).next
theorem aBR{α β:Type}{f f':β→α→β}{l:List α}(h:∀b,∀a∈l,f b a=f' b a):∀b,l.foldl f b=l.foldl f' b:=by
 induction l with
 | nil=>intro b;rfl
 | cons a l ih=>
  intro b;rw[Ea,Ea,h b a (by simp)];exact ih (fun b c hc=>h b c (by simp [hc])) _
theorem qN{hK:eF g}{a:Nat}(ha:a<g.nodes.length){c:Int}(hc:c∈(nodeAt g a).next):a<c.toNat∧c.toNat<g.nodes.length:=by
 obtain⟨i,hi⟩:=Er hc;have hl:=(Af.1 hi).1;obtain⟨h1,h2,h3⟩:=hK a ha i hl;have e:(nodeAt g a).next.getD i 0=c:=by rw[Ae,hi];rfl
 have e2:jA g a i=c.toNat:=by unfold jA;rw[e]
 omega
theorem aGL(H l:List Int):0≤aOj H l:=by
 have key:∀ (l:List Int) (m:Int),0≤m→0≤l.foldl (fun m c=>mx m (H.getD c.toNat 0+1)) m:=fun l=>by
  induction l with
  | nil=>exact fun m h=>h
  | cons c l ih=>
   intro m h;rw[Ea];refine ih _ ?_;unfold mx;split<;>omega
 exact key l 0 (Int.le_refl 0)
theorem aBJ(f:Int→Int):∀ (l:List Int) (m:Int),m≤l.foldl (fun m c=>mx m (f c)) m∧∀c∈l,f c≤l.foldl (fun m c=>mx m (f c)) m
 | [],m=>⟨Int.le_refl _,fun c hc=>by cases hc⟩
 | a::l,m=>by
  rw[Ea];obtain⟨h1,h2⟩:=aBJ f l (mx m (f a));have e1:m≤mx m (f a)∧f a≤mx m (f a):=by unfold mx;split<;>omega
  refine⟨by omega,fun c hc=>?_⟩;rcases Bi.1 hc with rfl | hc
  ·omega
  ·exact h2 c hc
theorem aOR{H l:List Int}{B:Int}(h0:0≤B)(h:∀c∈l,H.getD c.toNat 0+1≤B):aOj H l≤B:=by
 have key:∀ (l:List Int) (m:Int),m≤B→(∀c∈l,H.getD c.toNat 0+1≤B)→l.foldl (fun m c=>mx m (H.getD c.toNat 0+1)) m≤B:=fun l=>by
  induction l with
  | nil=>exact fun m h _=>h
  | cons c l ih=>
   intro m h h2;rw[Ea];refine ih _ ?_ (fun d hd=>h2 d (by simp [hd]));have:=h2 c (by simp);unfold mx;split<;>omega
 exact key l 0 h0 h
theorem aMP(hK:eF g){H:List Int}(h:aQf g H):∀a,a<g.nodes.length→0≤H.getD a 0∧H.getD a 0≤((g.nodes.length - 1 - a:Nat):Int):=tA fun a ha ih=>by
 rw[h.2 a ha];refine⟨aGL _ _,aOR (by omega) fun c hc=>?_⟩;obtain⟨h1,h2⟩:=qN (hK:=hK) ha hc;have:=ih _ h1 h2;omega
end
open Classical in
noncomputable def oM(g:bH)(i:Nat):Bool:=decide (∀j,j<i→¬EqS g j i)
open Classical in
theorem tL{g:bH}{i:Nat}:oM g i=true↔∀j,j<i→¬EqS g j i:=by
 unfold oM;rw[Fx]
def bef(H:List Int)(a b:Nat):Prop:=H.getD b 0<H.getD a 0∨H.getD a 0=H.getD b 0∧a<b
structure jN(g:bH)(H:List Int)(F:List Nat)(C:List Int):Prop where
 perm:F.Perm ((List.range g.nodes.length).filter (oM g))
 srt:F.Pairwise (bef H)
 len:C.length=g.nodes.length
 cls:∀i,i<g.nodes.length→∃p q,F[p]? =some q∧C.getD i 0=((p:Nat):Int)∧EqS g q i
section
variable {g:bH}{H:List Int}
theorem aBa{a b:Nat}(h:bef H a b):¬bef H b a:=by
 unfold bef at h ⊢;omega
theorem aIy(hK:eF g){i:Nat}(hi:i<g.nodes.length):∃j,j≤i∧oM g j=true∧EqS g j i:=by
 induction i using Nat.strongRecOn with
 | _ i ih=>
  by_cases h:∀j,j<i→¬EqS g j i
  ·exact⟨i,Ag _,tL.2 h,aDK hK i hi⟩
  ·obtain⟨j,h⟩:=Classical.not_forall.1 h;obtain⟨hj,h⟩:=Classical.not_imp.1 h;have h:=Classical.not_not.1 h;obtain⟨k,h1,h2,h3⟩:=ih j hj (by omega);exact⟨k,by omega,h2,kK hK k (by omega) j (by omega) i hi h3 h⟩
theorem uT(hK:eF g){a b:Nat}(ha:a<g.nodes.length)(hb:b<g.nodes.length)(h1:oM g a=true)(h2:oM g b=true)(h:EqS g a b):a=b:=by
 have h1:=tL.1 h1;have h2:=tL.1 h2;by_cases e:a<b
 ·exact absurd h (h2 a e)
 by_cases e2:b<a
 ·exact absurd (pU hK a ha b hb h) (h1 b e2)
 omega
theorem jN.mem{F:List Nat}{C:List Int}(h:jN g H F C){q:Nat}(hq:q∈F):q<g.nodes.length∧oM g q=true:=by
 have:=h.perm.mem_iff.1 hq;rw[List.mem_filter,Fz] at this;exact this
theorem aIr(hK:eF g){F F':List Nat}{C C':List Int}(h:jN g H F C)(h':jN g H F' C'):F=F'∧C=C':=by
 have hF:F=F':=List.Perm.eq_of_pairwise (le:=fun a b=>¬bef H b a) (fun a b _ _ h1 h2=>by unfold bef at h1 h2;omega) (h.srt.imp fun x=>aBa x) (h'.srt.imp fun x=>aBa x) (h.perm.trans h'.perm.symm);subst hF;refine⟨rfl,Eb (h.len.trans h'.len.symm) fun i h1 h2=>?_⟩;have hi:i<g.nodes.length:=by have:=h.len;omega
 obtain⟨p,q,e1,e2,e3⟩:=h.cls i hi;obtain⟨p',q',e1',e2',e3'⟩:=h'.cls i hi;obtain⟨m1,m2⟩:=h.mem (Aq e1);obtain⟨m1',m2'⟩:=h.mem (Aq e1');have hqq:q=q':=uT hK m1 m1' m2 m2' (kK hK q m1 i hi q' m1' e3 (pU hK q' m1' i hi e3'));subst hqq;have hpp:p=p':=by
  obtain⟨l1,g1⟩:=Af.1 e1;obtain⟨l2,g2⟩:=Af.1 e1';by_cases e:p<p'
  ·have:=Dw.1 h.srt p p' l1 l2 e;rw[g1,g2] at this;unfold bef at this;omega
  by_cases e':p'<p
  ·have:=Dw.1 h.srt p' p l2 l1 e';rw[g1,g2] at this;unfold bef at this;omega
  omega
 rw[Ae,Ab h1] at e2;rw[Ae,Ab h2] at e2';simp only[Fk] at e2 e2';rw[e2,e2',hpp]
end
def eK(u:Nat):List Nat:=if h:u<10 then [48+u] else eK (u / 10)++ [48+u % 10]
termination_by u
decreasing_by omega
def mU(n:Int):List Nat:=if n<0 then 45::eK n.natAbs else eK n.toNat
def aNC(l:List Nat):Nat:=l.foldl (fun m d=>10 * m+(d - 48)) 0
theorem aKd(l:List Nat)(d:Nat):aNC (l++ [d])=10 * aNC l+(d - 48):=by unfold aNC;rw[List.foldl_append];rfl
theorem aEP(u:Nat):aNC (eK u)=u:=by
 induction u using Nat.strongRecOn with
 | _ u ih=>
  by_cases h:u<10
  ·rw[eK,dif_pos h];show 10 * 0+(48+u - 48)=u;omega
  ·rw[eK,dif_neg h,aKd,ih (u / 10) (by omega)];omega
theorem wG(u:Nat):∀d∈eK u,48≤d∧d≤57:=by
 induction u using Nat.strongRecOn with
 | _ u ih=>
  intro d hd;by_cases h:u<10
  ·rw[eK,dif_pos h] at hd;have:=Cb.1 hd;omega
  ·rw[eK,dif_neg h] at hd;rcases Bf.1 hd with hd | hd
   ·exact ih (u / 10) (by omega) d hd
   ·have:=Cb.1 hd;omega
theorem aG7{u v:Nat}(h:eK u=eK v):u=v:=by rw[←aEP u,h,aEP]
theorem aAi(n:Int):∀d∈mU n,d≠44∧d≠59:=fun d hd=>by
 unfold mU at hd;split at hd
 ·rcases Bi.1 hd with rfl | hd
  ·decide
  ·have:=wG _ d hd;omega
 ·have:=wG _ d hd;omega
theorem aLu{n m:Int}(h:mU n=mU m):n=m:=by
 unfold mU at h;have no:∀u v:Nat,¬45::eK u=eK v:=fun u v e=>by
  have:=wG v 45 (by rw[←e];simp);omega
 split at h<;>split at h
 ·injection h with _ h;have:=aG7 h;omega
 ·exact absurd h (no _ _)
 ·exact absurd h.symm (no _ _)
 ·have:=aG7 h;omega
def pI(l:List Int):List Nat:=l.flatMap (fun n=>mU n++ [44])++ [59]
theorem aNS{a b r r':List Nat}{c:Nat}(ha:∀d∈a,d≠c)(hb:∀d∈b,d≠c)(h:a++c::r=b++c::r'):a=b∧r=r':=by
 induction a generalizing b with
 | nil=>
  cases b with
  | nil=>simpa using h
  | cons y b=>
   simp only[Bh,Bl,Ex] at h;exact absurd h.1.symm (hb y (by simp))
 | cons x a ih=>
  cases b with
  | nil=>
   simp only[Bh,Bl,Ex] at h;exact absurd h.1 (ha x (by simp))
  | cons y b=>
   simp only[Bl,Ex] at h;obtain⟨h1,h2⟩:=ih (fun d hd=>ha d (by simp [hd])) (fun d hd=>hb d (by simp [hd])) h.2;exact⟨by rw[h.1,h1],h2⟩
theorem aAa:∀ {l m:List Int} {r r':List Nat},pI l++r=pI m++r'→l=m∧r=r'
 | [],[],r,r',h=>by
  simp only[pI,List.flatMap_nil,Bh,Bl,Ex,true_and] at h;exact⟨rfl,h⟩
 | [],y::m,r,r',h=>by
  simp only[pI,List.flatMap_nil,Dg,Bh,Bl,Ba] at h;have hd:∀d∈mU y,d≠59:=fun d hd=>(aAi y d hd).2;cases hy:mU y with
  | nil=>rw[hy] at h;simp at h
  | cons z zs=>
   rw[hy] at h hd;simp only[Bl,Ex] at h;exact absurd h.1.symm (hd z (by simp))
 | x::l,[],r,r',h=>by
  simp only[pI,List.flatMap_nil,Dg,Bh,Bl,Ba] at h;have hd:∀d∈mU x,d≠59:=fun d hd=>(aAi x d hd).2;cases hx:mU x with
  | nil=>rw[hx] at h;simp at h
  | cons z zs=>
   rw[hx] at h hd;simp only[Bl,Ex] at h;exact absurd h.1 (hd z (by simp))
 | x::l,y::m,r,r',h=>by
  simp only[pI,Dg,Ba,Co] at h;obtain⟨h1,h2⟩:=aNS (fun d hd=>(aAi x d hd).1) (fun d hd=>(aAi y d hd).1) h;obtain⟨h3,h4⟩:=aAa (l:=l) (m:=m) (r:=r) (r':=r') (by simp only[pI,Ba,Co];exact h2);exact⟨by rw[aLu h1,h3],h4⟩
def lS(K:List Int)(l:List Int):List Int:=l.map fun c=>K.getD c.toNat 0
def nT(x:bU)(K:List Int):List Nat:=pI [x.kind,x.player,x.info]++(pI x.weights++(pI x.pay++pI (lS K x.next)))
theorem key_inj{x y:bU}{K K':List Int}(h:nT x K=nT y K'):aN3 x y∧lS K x.next=lS K' y.next:=by
 unfold nT at h;obtain⟨h1,h⟩:=aAa h;obtain⟨h2,h⟩:=aAa h;obtain⟨h3,h⟩:=aAa h;obtain⟨h4,_⟩:=aAa (r:=[]) (r':=[]) (by simpa using h);simp only[Ex,and_true] at h1;exact⟨⟨h1.1,h1.2.1,h1.2.2,h2,h3⟩,h4⟩
theorem aLr{x y:bU}{K K':List Int}(h:aN3 x y)(h2:lS K x.next=lS K' y.next):nT x K=nT y K':=by
 obtain⟨h1,h3,h4,h5,h6⟩:=h;unfold nT;rw[h1,h3,h4,h5,h6,h2]
section
variable {g:bH}
def aLG(g:bH)(c:Nat)(K:List Int):Prop:=K.length=g.nodes.length∧∀a b,c≤a→c≤b→a<g.nodes.length→b<g.nodes.length→(K.getD a 0=K.getD b 0↔EqS g a b)
theorem aEC(hK:eF g){c:Nat}{K:List Int}(h:aLG g c K){a b:Nat}(ha:a<g.nodes.length)(hb:b<g.nodes.length)(hca:c≤a+1)(hcb:c≤b+1):nT (nodeAt g a) K=nT (nodeAt g b) K↔EqS g a b:=by
 rw[oY hK ha hb];have kid:∀ {q i},c≤q+1→q<g.nodes.length→i<(nodeAt g q).next.length→c≤jA g q i∧jA g q i<g.nodes.length:=fun {q i} h1 h2 h3=>by
  obtain⟨k1,k2,_⟩:=hK q h2 i h3;exact⟨by omega,k2⟩
 have getk:∀ {q i},i<(nodeAt g q).next.length→(lS K (nodeAt g q).next)[i]? =some (K.getD (jA g q i) 0):=fun {q i} hi=>by
  have e:(nodeAt g q).next.getD i 0=(nodeAt g q).next[i]:=by rw[Ae,Ab hi];rfl
  unfold lS jA;rw[Be,Ab hi,e];rfl
 constructor
 ·intro h1;obtain⟨h2,h3⟩:=key_inj h1;have hl:(nodeAt g a).next.length=(nodeAt g b).next.length:=by
   have:=Dh List.length h3;simpa [lS] using this
  refine⟨h2,hl,fun i hi=>?_⟩;have e:=Dh (fun l=>l[i]?) h3;simp only[getk hi,getk (q:=b) (by rw[←hl];exact hi)] at e;obtain⟨c1,c2⟩:=kid hca ha hi;obtain⟨d1,d2⟩:=kid hcb hb (by rw[←hl];exact hi);exact(h.2 _ _ c1 d1 c2 d2).1 (Cl e)
 ·rintro⟨h1,hl,h3⟩;refine aLr h1 (List.ext_getElem? fun i=>?_);by_cases hi:i<(nodeAt g a).next.length
  ·rw[getk hi,getk (by rw[←hl];exact hi)];obtain⟨c1,c2⟩:=kid hca ha hi;obtain⟨d1,d2⟩:=kid hcb hb (by rw[←hl];exact hi);rw[(h.2 _ _ c1 d1 c2 d2).2 (h3 i hi)]
  ·rw[Bn (by simpa [lS] using hi),Bn (by rw[hl] at hi;simpa [lS] using hi)]
end
end Go.Ev.Gl
namespace Go.Ev.Gl
open Go.Sort
variable {fns:T cV}
theorem vV(u k:Nat):(eK u).length≤k+1↔u<10 ^ (k+1):=by
 induction k generalizing u with
 | zero=>
  by_cases h:u<10
  ·rw[eK,dif_pos h];simp only[An,Ao,Nat.pow_one];omega
  ·rw[eK,dif_neg h,Ai,An];have:0<(eK (u / 10)).length:=by
    rw[eK];split<;>simp
   simp only[Ao,Nat.pow_one];omega
 | succ k ih=>
  by_cases h:u<10
  ·rw[eK,dif_pos h];have h1:1≤10 ^ (k+1):=Nat.one_le_pow _ _ (by decide);have h2:10 ^ (k+1+1)=10 ^ (k+1) * 10:=Nat.pow_succ ..;simp only[An];constructor<;>intro<;>omega
  ·rw[eK,dif_neg h,Ai,An,Nat.pow_succ,Nat.add_le_add_iff_right,ih (u / 10)];omega
theorem aBY{u k:Nat}(h1:10 ^ k≤u)(h2:u<10 ^ (k+1)):(eK u).length=k+1:=by
 have a:=(vV u k).2 h2;cases k with
 | zero=>
  have:0<(eK u).length:=by
   rw[eK];split<;>simp
  omega
 | succ k=>
  have b:=(vV u k);have:¬ (eK u).length≤k+1:=fun h=>by have:=b.1 h;omega
  omega
theorem aNQ(u:Nat):∀j,j<(eK u).length→(eK u)[(eK u).length - 1 - j]? =some (48+u / 10 ^ j % 10):=by
 induction u using Nat.strongRecOn with
 | _ u ih=>
  intro j hj;by_cases h:u<10
  ·rw[eK,dif_pos h] at hj ⊢;simp only[An] at hj ⊢;have:j=0:=by omega
   subst this;simp only[Cu,List.getElem?_cons_zero,Nat.pow_zero,Nat.div_one];rw[Nat.mod_eq_of_lt h]
  ·rw[eK,dif_neg h] at hj ⊢;rw[Ai,An] at hj ⊢;cases j with
   | zero=>
    rw[show(eK (u / 10)).length+1 - 1 - 0=(eK (u / 10)).length by omega,Aw (Ag _),Cu,Nat.pow_zero,Nat.div_one];rfl
   | succ j=>
    rw[show(eK (u / 10)).length+1 - 1 - (j+1)=(eK (u / 10)).length - 1 - j by omega,Av (by omega),ih (u / 10) (by omega) j (by omega),Nat.div_div_eq_div_mul,←Nat.pow_succ']
def aL1:List AV:=(List.range 20).map fun i=>AV.int .u64 ((10 ^ i:Nat):Int)
def kA(S:St):Prop:=S.h.get 0=some (.ro aL1)∧0<S.nx
theorem kA.same{S S':St}(h:kA S)(hs:Same S S'):kA S':=⟨(hs.2 _ h.2).trans h.1,Ah h.2 hs.1⟩
theorem aKz{i:Nat}(h:i<20):aL1[i]? =some (.int .u64 ((10 ^ i:Nat):Int)):=by
 unfold aL1;rw[Be,Fj h];rfl
theorem aQQ{h:Ev.T AB}{b p:Nat}{cs:List AV}{x:AV}(hb:h.get b=some (.ro cs))(hj:cs[p]? =some x):dB (.ptr b (0+p * 1)) false 1 h=some x:=by
 simp only[dB,oJ,aQ,lP,cL,hb,aK,mV,nD,Ao,Eg,hj]
theorem aMN(e:oO)(j:IntKind){a n:Nat}(hn:n≤64):eJ .shr e (.int .i64 (a:Int)) (.int j (n:Int))=some (.int .i64 ((a / 2 ^ n:Nat):Int)):=by
 show cN .shr .i64 (Int.ofNat a) j (Int.ofNat n)=_;unfold cN;rw[show dP .shr=true from rfl,aL];show sF .shr .i64 (Int.ofNat a) n=_;unfold sF;rw[show Nat.ble n IntKind.i64.bits=true from Aj hn,aL];show some (AV.int .i64 (Int.fdiv (a:Int) ((2 ^ n:Nat):Int)))=_;rw[Int.fdiv_eq_ediv_of_nonneg _ (En _)];rfl
theorem aIa{S:St}{x:Nat}(H:Has fns)(hx:x≤64):fR fns (.fn 118 [] []) [.int .i64 (x:Int)] S fun r S'=>r= .int .i64 ((x * 78913 / 262144:Nat):Int)∧S'=S:=by
 have sh:eJ .shr (.p .int) (.int .i64 ((x * 78913:Nat):Int)) (.int .u64 18)=some (.int .i64 ((x * 78913 / 262144:Nat):Int)):=aMN (.p .int) .u64 (n:=18) (by decide);refine cE H.f118 (by simp) ?_;refine ah ?_;refine cC ?_;refine ac ?_;refine cC ?_;simp only[↓aA,aB,rE,↓reduceIte,show IntKind.i64.wrap ((x:Int) * 78913)=((x * 78913:Nat):Int) from aMc (b:=78913) (by omega),sh];refine aU ?_;simp only[↓aA,aB,rE,↓reduceIte]
theorem aIl{S:St}{b:Bool}(H:Has fns):fR fns (.fn 119 [] []) [.bool b] S fun r S'=>r= .int .i64 ((if b=true then 1 else 0:Nat):Int)∧S'=S:=by
 refine cE H.f119 (by simp) ?_;refine ah ?_;refine cC ?_;refine ac ?_;refine iP ?_;simp only[↓aA,aB,rE,↓reduceIte];cases b with
 | true=>
  refine aR (ae) (aC (aG ?_));refine ac ?_;refine aU ?_;simp only[↓aA,aB,rE,↓reduceIte]
 | false=>
  refine aO (ae) (aM ?_);try simp only[↓aA,aB,rE,↓reduceIte]
  refine cC ?_;refine ac ?_;refine aU ?_;simp only[↓aA,aB,rE,↓reduceIte]
theorem aPp:∀b,b≤64→0<b→b * 78913 / 262144<20∧2 ^ b≤10 ^ (b * 78913 / 262144+1)∧(0<b * 78913 / 262144→10 ^ (b * 78913 / 262144 - 1)≤2 ^ (b - 1)):=by decide
theorem aC5{S:St}{u:Nat}(H:Has fns)(hL:kA S)(h0:10≤u)(hu:u≤18446744073709551615):fR fns (.fn 113 [] []) [.int .u64 (u:Int)] S fun r S'=>r= .int .i64 (((eK u).length:Nat):Int)∧(eK u).length≤20∧S'=S:=by
 obtain⟨b,hb⟩:∃b,b=bitsLen u:=⟨_,rfl⟩;have b64:b≤64:=by rw[hb];exact(bitsLen_le_iff u 64).2 (by omega)
 have b1:u<2 ^ b:=by rw[hb];exact lt_two_pow_bitsLen u
 have b0:0<b:=by
  rcases Ca b with h | h
  ·rw[h] at b1;omega
  ·exact h
 have b2:2 ^ (b - 1)≤u:=by
  have:¬bitsLen u≤b - 1:=by omega
  rw[bitsLen_le_iff] at this;omega
 obtain⟨t1,t2,t3⟩:=aPp b b64 b0;obtain⟨t,ht⟩:∃t,t=b * 78913 / 262144:=⟨_,rfl⟩;rw[←ht] at t1 t2 t3;have hlen:(eK u).length=t+(if decide (10 ^ t≤u)=true then 1 else 0):=by
  by_cases h:10 ^ t≤u
  ·rw[if_pos (Ad h)];exact aBY h (Ah b1 t2)
  ·rw[if_neg (by simpa using h),Bs];cases t with
   | zero=>simp at h;omega
   | succ k=>exact aBY (Ap (t3 (by omega)) b2) (by omega)
 have ia:eS (.arr 20 1) (.ptr 0 0) t=some (.ptr 0 (0+t * 1)):=by
  show bN (Nat.blt t 20) _ _=_;rw[show Nat.blt t 20=true from Aj t1,aL]
 have la:=aQQ (p:=t) hL.1 (aKz t1);refine cE H.f113 (by simp) ?_;refine ah ?_;refine cC ?_;refine ac ?_;refine cC ?_;refine ac ?_;refine aY ?_;refine ac ?_;refine aP (aCV H hu) ?_;rintro _ _ ⟨rfl,rfl⟩;rw[←hb];try simp only[↓aA,aB,rE,↓reduceIte]
 refine aY ?_;try simp only[↓aA,aB,rE,↓reduceIte]
 refine aP (aIa H b64) ?_;rintro _ _ ⟨rfl,rfl⟩;rw[←ht];try simp only[↓aA,aB,rE,↓reduceIte]
 refine cC ?_;simp only[↓aA,aB,rE,↓reduceIte,aH,ia,la,dle];refine aY ?_;refine ac ?_;refine aP (aIl H) ?_;rintro _ _ ⟨rfl,rfl⟩;have hs:(if decide (10 ^ t≤u)=true then 1 else 0:Nat)≤1:=by split<;>omega
 simp only[↓aA,aB,rE,↓reduceIte,yP (a:=t) (b:=if decide (10 ^ t≤u)=true then 1 else 0) (by omega)];refine aU ?_;simp only[↓aA,aB,rE,↓reduceIte];rw[hlen];exact⟨rfl,by omega⟩
end Go.Ev.Gl
namespace Go.Ev.Gl
open Go.Sort
variable {fns:T cV}
def u8s(l:List Nat):List AV:=l.map fun b=>AV.int .u8 ((b:Nat):Int)
theorem aJo(l:List Nat):(u8s l).length=l.length:=by simp [u8s]
theorem pL(e:oO){t d:Nat}(ht:t≤4294967295)(hd:0<d):eJ .quo e (.int .u32 (t:Int)) (.int .u32 (d:Int))=some (.int .u32 ((t / d:Nat):Int)):=by
 show cN .quo .u32 (Int.ofNat t) .u32 (Int.ofNat d)=_;unfold cN;rw[show dP .quo=false from rfl,aQ,eQ,aL];show bN (Nat.beq d 0) none (some (AV.int .u32 (nat .u32 (Nat.div t d))))=_;rw[show Nat.beq d 0=false by rw[Bv];intro h;rw[Bb] at h;omega,aQ,nat_eq];have h1:t / d≤t:=Ff t d;have h2:∀q:Nat,q≤t→IntKind.u32.wrap (q:Int)=(q:Int):=fun q hq=>wrap_u32 (by omega) (by omega);exact Dh (fun x=>some (AV.int .u32 x)) (h2 _ h1)
theorem pN(e:oO){t d:Nat}(hd:0<d):eJ .rem e (.int .u32 (t:Int)) (.int .u32 (d:Int))=some (.int .u32 ((t % d:Nat):Int)):=by
 show cN .rem .u32 (Int.ofNat t) .u32 (Int.ofNat d)=_;unfold cN;rw[show dP .rem=false from rfl,aQ,eQ,aL];show bN (Nat.beq d 0) none (some (AV.int .u32 (Int.ofNat (Nat.mod t d))))=_;rw[show Nat.beq d 0=false by rw[Bv];intro h;rw[Bb] at h;omega,aQ];rfl
def smalls:List Nat:=(List.range 200).map fun i=>if i % 2=0 then 48+i / 2 / 10 else 48+i / 2 % 10
theorem yK{i:Nat}(h:i<200):smalls[i]?.getD 0=if i % 2=0 then 48+i / 2 / 10 else 48+i / 2 % 10:=by
 unfold smalls;rw[Be,Fj h];rfl
theorem uD:smalls.length=200:=by simp [smalls]
set_option maxRecDepth 20000 in
theorem mI:([48,48,48,49,48,50,48,51,48,52,48,53,48,54,48,55,48,56,48,57,49,48,49,49,49,50,49,51,49,52,49,53,49,54,49,55,49,56,49,57,50,48,50,49,50,50,50,51,50,52,50,53,50,54,50,55,50,56,50,57,51,48,51,49,51,50,51,51,51,52,51,53,51,54,51,55,51,56,51,57,52,48,52,49,52,50,52,51,52,52,52,53,52,54,52,55,52,56,52,57,53,48,53,49,53,50,53,51,53,52,53,53,53,54,53,55,53,56,53,57,54,48,54,49,54,50,54,51,54,52,54,53,54,54,54,55,54,56,54,57,55,48,55,49,55,50,55,51,55,52,55,53,55,54,55,55,55,56,55,57,56,48,56,49,56,50,56,51,56,52,56,53,56,54,56,55,56,56,56,57,57,48,57,49,57,50,57,51,57,52,57,53,57,54,57,55,57,56,57,57]:List Nat)=smalls:=by decide
theorem qI{q:Nat}(h:q<100):mM (.str smalls) (q * 2)=some (.int .u8 ((48+q / 10:Nat):Int)):=by
 rw[aBp (by rw[uD];omega),yK (by omega),if_pos (by omega),Nat.mul_div_cancel _ (by omega)]
theorem qF{q:Nat}(h:q<100):mM (.str smalls) (q * 2+1)=some (.int .u8 ((48+q % 10:Nat):Int)):=by
 rw[aBp (by rw[uD];omega),yK (by omega),if_neg (by omega),show(q * 2+1) / 2=q by omega]
def mR(nd u k:Nat)(c:List AV):Prop:=c.length=24∧∀j,j<nd - k→c[nd - 1 - j]? =some (.int .u8 ((48+u / 10 ^ j % 10:Nat):Int))
theorem mR.two{nd u k w q:Nat}{c:List AV}(h:mR nd u k c)(hk:2≤k)(hn:k≤nd)(hd:nd≤24)(hw:w=u / 10 ^ (nd - k))(hq:q=w % 100):mR nd u (k - 2) ((c.set (k - 1) (.int .u8 ((48+q % 10:Nat):Int))).set (k - 2) (.int .u8 ((48+q / 10:Nat):Int))):=by
 obtain⟨h1,h2⟩:=h;refine⟨by simp [h1],fun j hj=>?_⟩;by_cases e1:j=nd - k
 ·rw[show nd - 1 - j=k - 1 by omega,List.getElem?_set_ne (by omega),List.getElem?_set_self (by omega),e1,←hw,show q % 10=w % 10 by omega]
 by_cases e2:j=nd - k+1
 ·rw[show nd - 1 - j=k - 2 by omega,List.getElem?_set_self (by simp;omega),e2,Nat.pow_succ,←Nat.div_div_eq_div_mul,←hw,show q / 10=w / 10 % 10 by omega]
 ·rw[List.getElem?_set_ne (by omega),List.getElem?_set_ne (by omega)];exact h2 j (by omega)
theorem mR.one{nd u w:Nat}{c:List AV}(h:mR nd u 1 c)(hn:1≤nd)(hd:nd≤24)(hw:w=u / 10 ^ (nd - 1))(hq:w<10):mR nd u 0 (c.set 0 (.int .u8 ((48+w:Nat):Int))):=by
 obtain⟨h1,h2⟩:=h;refine⟨by simp [h1],fun j hj=>?_⟩;by_cases e1:j=nd - 1
 ·rw[show nd - 1 - j=0 by omega,List.getElem?_set_self (by omega),e1,←hw,Nat.mod_eq_of_lt hq]
 ·rw[List.getElem?_set_ne (by omega)];exact h2 j (by omega)
theorem aF2{X:St}{rb p:Nat}{c:List AV}{x:AV}(h:X.h.get rb=some (.cells c false 0))(hp:p<c.length):lI (.ptr rb (0+p * 1)) 1 [x] X=some (.undef,⟨X.h.set rb (some (.cells (c.set p x) false 0)),X.nx⟩):=by
 rw[Ao,Eg];exact xW h hp
theorem pF{rb nd cap p:Nat}(h:p<nd):eS (.slice 1) (.sl rb 0 nd cap false) p=some (.ptr rb (0+p * 1)):=by
 show bN (Nat.blt p nd) _ _=_;rw[show Nat.blt p nd=true from Aj h,aL]
theorem qM{rb base i1 i2 m1 m2 m3 p1 p2 v1 v2 s2 x2 nd cap q1 q2:Nat}{h0:Ev.T AB}{F:Fr}{X:St}{c:List AV}{b1 b2:Int}{last:Option Nat}{Q:Fr→St→List iM→Prop}(hg:X.h.get rb=some (.cells c false 0))(hl:mC last m1=true)(hm:Nat.testBit m2 i1=true)(hp:aD p1 F= .ptr rb (0+q1 * 1))(hv1:aD v1 F= .int .u8 b1)(hv2:aD v2 F= .int .u8 b2)(hs:aD s2 F= .sl rb 0 nd cap false)(hx:aD x2 F= .int .i64 (q2:Int))(hne:v2≠p2)(h1:q1<c.length)(h2:q2<c.length)(h3:q2<nd)(hi:i2=i1+2)
  (hQ:∀Z,bJ rb X Z→Z.nx=X.nx→Z.h.get rb=some (.cells ((c.set q1 (.int .u8 b1)).set q2 (.int .u8 b2)) false 0)→Q (cI (some p2) F (.ptr rb (0+q2 * 1))) Z []):
  gG fns (fun c=>c=rb) h0 base [⟨none,.x (.st 1 (.t p1) (.t v1)),none,m1⟩,⟨some p2,.q (.iaddr (.slice 1) (.t s2) (.t x2)),none,m3⟩,⟨none,.x (.st 1 (.t p2) (.t v2)),none,m2⟩] i1 F X [] last Q:=by
 have off:∀ (Y:St) (b:Option AB),aFb (fun c=>c=rb) base Y ⟨Y.h.set rb b,Y.nx⟩:=fun Y b=>⟨Ag _,fun c hc hne=>by simp only;rw[T.get_set,if_neg hne]⟩;refine aAc hl (S1:=⟨X.h.set rb (some (.cells (c.set q1 (.int .u8 b1)) false 0)),X.nx⟩) ?_ ?_ ?_
 ·simp only[fW,hp,hv1,cQ,aK,cB];exact aF2 hg h1
 ·simp only[cB];exact off X _
 ·have hg2:(⟨X.h.set rb (some (.cells (c.set q1 (.int .u8 b1)) false 0)),X.nx⟩:St).h.get rb=some (.cells (c.set q1 (.int .u8 b1)) false 0):=by simp only;rw[T.get_set,if_pos rfl]
  rw[aHX];simp only[tB,fW,dR,hx,hs,aH,aK,pF h3,mQ,zF,cB,Ax,false_implies,true_and];refine aAc (by exact hm) (S1:=⟨(X.h.set rb (some (.cells (c.set q1 (.int .u8 b1)) false 0))).set rb (some (.cells ((c.set q1 (.int .u8 b1)).set q2 (.int .u8 b2)) false 0)),X.nx⟩) ?_ ?_ ?_
  ·simp only[fW,bS,hne,Cr,Ed,hv2,cQ,aK,cB];exact aF2 hg2 (by simpa using h2)
  ·simp only[cB];exact off ⟨X.h.set rb (some (.cells (c.set q1 (.int .u8 b1)) false 0)),X.nx⟩ _
  ·simp only[dR,cB];exact hQ _ (((bJ.refl rb X).put _).put _) rfl (by simp only;rw[T.get_set,if_pos rfl])
end Go.Ev.Gl
namespace Go.Ev.Gl
open Go.Sort
variable {fns:T cV}
theorem mR.start{nd u:Nat}{c:List AV}(h:c.length=24):mR nd u nd c:=⟨h,fun j hj=>by omega⟩
theorem uB{u a b:Nat}:u / 10 ^ a / 10 ^ b=u / 10 ^ (a+b):=by rw[Nat.div_div_eq_div_mul,←Nat.pow_add]
def aRa(S:St)(rb nd u cap:Nat)(k:Nat)(A:bQ)(X:St):Prop:=A.inr=false∧aD 0 A.F= .sl rb 0 nd cap false∧aD 4 A.F= .int .i64 (k:Int)∧aD 1 A.F= .int .u64 ((u / 10 ^ (nd - k):Nat):Int)∧k≤nd∧rb<X.nx∧bJ rb S X∧∃c,X.h.get rb=some (.cells c false 0)∧mR nd u k c
def aQu(S:St)(rb nd u cap:Nat)(k:Nat)(A:bQ)(X:St):Prop:=A.inr=false∧aD 0 A.F= .sl rb 0 nd cap false∧aD 4 A.F= .int .i64 (k:Int)∧aD 12 A.F= .int .u32 ((u / 10 ^ (nd - k):Nat):Int)∧k≤nd∧rb<X.nx∧bJ rb S X∧∃c,X.h.get rb=some (.cells c false 0)∧mR nd u k c
set_option maxRecDepth 10000 in
theorem aLn{S:St}{rb nd u cap:Nat}{c:List AV}(H:Has fns)(hg:S.h.get rb=some (.cells c false 0))(hc:c.length=24)(hlt:rb<S.nx)(hn:nd≤20)(hu:u<10 ^ nd)(hu2:u≤18446744073709551615):fR fns (.fn 114 [] []) [.sl rb 0 nd cap false,.int .u64 (u:Int)] S fun _ S'=>bJ rb S S'∧∃c,S'.h.get rb=some (.cells c false 0)∧mR nd u 0 c:=by
 have hle:lH (.sl rb 0 nd cap false)=some (.int .i64 (nd:Int)):=rfl;refine cE H.f114 (by simp) ?_;refine ah ?_;refine cC ?_;simp only[↓aA,aB,rE,↓reduceIte,hle];refine aC (bD (Q:=fun o A' X=>o= .normal∧∃k,k<8∧aRa S rb nd u cap k A' X) (aN (bT (aRa S rb nd u cap) ?_ nd _ _ ⟨rfl,ae,ae,by simp only[↓aA,aB,rE,↓reduceIte,Cu,Nat.pow_zero,Nat.div_one],Ag _,hlt,bJ.refl _ _,c,hg,mR.start hc⟩)) ?_)
 ·clear hg hlt hc c;rintro k ⟨F,inr⟩ X ⟨q0,p0,p4,p1,hk,hlt,hX,c,hg,hd⟩;simp only at q0 p0 p4 p1;subst q0;refine iP ?_;simp only[↓aA,aB,rE,↓reduceIte,p4];by_cases h8:8≤k;rotate_left
  ·refine aO (by simp only[↓aA,aB,rE,↓reduceIte,Aa (show ¬ (8:Int)≤(k:Int) by omega)]) (bK ?_);exact⟨rfl,k,by omega,rfl,ag p0,ag p4,ag p1,hk,hlt,hX,c,hg,hd⟩
  refine aR (by simp only[↓aA,aB,rE,↓reduceIte,Ad (show(8:Int)≤(k:Int) by omega)]) (aM ?_);try simp only[↓aA,aB,rE,↓reduceIte]
  obtain⟨r,rfl⟩:∃r,k=r+8:=⟨k - 8,by omega⟩;obtain⟨w,hw⟩:∃w,w=u / 10 ^ (nd - (r+8)):=⟨_,rfl⟩;have hwu:w≤u:=by rw[hw];exact Ff _ _
  have w2:w / 10 ^ 2=u / 10 ^ (nd - (r+6)):=by rw[hw,uB,show nd - (r+8)+2=nd - (r+6) by omega]
  have w4:w / 10 ^ 4=u / 10 ^ (nd - (r+4)):=by rw[hw,uB,show nd - (r+8)+4=nd - (r+4) by omega]
  have w6:w / 10 ^ 6=u / 10 ^ (nd - (r+2)):=by rw[hw,uB,show nd - (r+8)+6=nd - (r+2) by omega]
  have w8:w / 10 ^ 8=u / 10 ^ (nd - r):=by rw[hw,uB,show nd - (r+8)+8=nd - r by omega]
  rw[←hw] at p1;obtain⟨x,hx⟩:∃x,x=w % 100000000:=⟨_,rfl⟩;have r1:eJ .rem (.p .int) (.int .u64 (w:Int)) (.int .u64 100000000)=some (.int .u64 (x:Int)):=by rw[hx];exact aGY (.p .int) (d:=100000000) (by omega)
  have r2:eJ .quo (.p .int) (.int .u64 (w:Int)) (.int .u64 100000000)=some (.int .u64 ((w / 10 ^ 8:Nat):Int)):=aGT (.p .int) (d:=100000000) (by omega) (by omega);obtain⟨a,ha⟩:∃a,a=x / 10000:=⟨_,rfl⟩;obtain⟨b,hb⟩:∃b,b=x % 10000:=⟨_,rfl⟩;have r3:eJ .quo (.p .int) (.int .u32 (x:Int)) (.int .u32 10000)=some (.int .u32 (a:Int)):=by rw[ha];exact pL (.p .int) (d:=10000) (by omega) (by omega)
  have r4:eJ .rem (.p .int) (.int .u32 (x:Int)) (.int .u32 10000)=some (.int .u32 (b:Int)):=by rw[hb];exact pN (.p .int) (d:=10000) (by omega)
  obtain⟨b1,hb1⟩:∃b1,b1=b / 100:=⟨_,rfl⟩;obtain⟨b0,hb0⟩:∃b0,b0=b % 100:=⟨_,rfl⟩;obtain⟨a1,ha1⟩:∃a1,a1=a / 100:=⟨_,rfl⟩;obtain⟨a0,ha0⟩:∃a0,a0=a % 100:=⟨_,rfl⟩;have r5:eJ .quo (.p .int) (.int .u32 (b:Int)) (.int .u32 100)=some (.int .u32 (b1:Int)):=by rw[hb1];exact pL (.p .int) (d:=100) (by omega) (by omega)
  have r6:eJ .rem (.p .int) (.int .u32 (b:Int)) (.int .u32 100)=some (.int .u32 (b0:Int)):=by rw[hb0];exact pN (.p .int) (d:=100) (by omega)
  have r7:eJ .quo (.p .int) (.int .u32 (a:Int)) (.int .u32 100)=some (.int .u32 (a1:Int)):=by rw[ha1];exact pL (.p .int) (d:=100) (by omega) (by omega)
  have r8:eJ .rem (.p .int) (.int .u32 (a:Int)) (.int .u32 100)=some (.int .u32 (a0:Int)):=by rw[ha0];exact pN (.p .int) (d:=100) (by omega)
  have m2:∀q:Nat,q<100→IntKind.u32.wrap ((q:Int) * 2)=((q * 2:Nat):Int):=fun q hq=>by rw[wrap_u32 (by omega) (by omega)];omega
  have q1:b0=w % 100:=by omega
  have q2:b1=w / 10 ^ 2 % 100:=by omega
  have q3:a0=w / 10 ^ 4 % 100:=by omega
  have q4:a1=w / 10 ^ 6 % 100:=by omega
  refine aN (aC (aG ?_));simp only[↓aA,aB,rE,↓reduceIte,p1,r1,wrap_u32 (n:=(x:Int)) (by omega) (by omega)];refine cC ?_;simp only[↓aA,aB,rE,↓reduceIte,p1,r2];refine cC ?_;simp only[↓aA,aB,rE,↓reduceIte,r3,r4];refine cC ?_;simp only[↓aA,aB,rE,↓reduceIte,r5,r6,m2 b1 (by omega),m2 b0 (by omega)];refine cC ?_;simp only[↓aA,aB,rE,↓reduceIte,r7,r8,m2 a1 (by omega),m2 a0 (by omega)];refine aC (dK (fun c=>c=rb) ?_);intro X1 x1;have hs1:=hX.trans (mP x1);have hg1:=(x1.2 _ hlt).trans hg;have hlt1:=Ah hlt x1.1;simp only[↓sU,sD,rE,↓reduceIte,rA,p0,p4,mI,jX,gK,show IntKind.i64.wrap (((r+8:Nat):Int) - 1)=((r+7:Nat):Int) from mK (a:=r+8) (b:=1) (by omega) (by omega),show IntKind.i64.wrap (((r+8:Nat):Int) - 2)=((r+6:Nat):Int) from mK (a:=r+8) (b:=2) (by omega) (by omega),show IntKind.u32.wrap (((b0 * 2:Nat):Int)+1)=((b0 * 2+1:Nat):Int) by rw[wrap_u32 (by omega) (by omega)];omega,aH,qI (q:=b0) (by omega),qF (q:=b0) (by omega),pF (cap:=cap) (rb:=rb) (show r+7<nd by omega)];refine qM (q1:=r+7) (q2:=r+6) (nd:=nd) (cap:=cap) (b1:=((48+b0 % 10:Nat):Int)) (b2:=((48+b0 / 10:Nat):Int)) hg1 rfl (by rfl) (aq) (aq) (aq) (au p0) (aq) (by decide) (by have:=hd.1;omega) (by have:=hd.1;omega) (by omega) rfl ?_;clear hg hX hlt;intro X hz nz hg;have hX:=hs1.trans hz;have hlt:=Ah hlt1 hz.1;clear hs1 hg1 hlt1 x1 nz hz X1;have hd:mR nd u (r+6) ((c.set (r+7) (.int .u8 ((48+b0 % 10:Nat):Int))).set (r+6) (.int .u8 ((48+b0 / 10:Nat):Int))):=mR.two (k:=r+8) (w:=w) (q:=b0) hd (by omega) (by omega) (by omega) hw (by omega);obtain⟨c,hc⟩:∃c',c'=(c.set (r+7) (.int .u8 ((48+b0 % 10:Nat):Int))).set (r+6) (.int .u8 ((48+b0 / 10:Nat):Int)):=⟨_,rfl⟩;rw[←hc] at hg hd;clear hc;try simp only[↓sU,sD,rE,↓reduceIte,rA]
  refine aC (dK (fun c=>c=rb) ?_);intro X1 x1;have hs1:=hX.trans (mP x1);have hg1:=(x1.2 _ hlt).trans hg;have hlt1:=Ah hlt x1.1;simp only[↓sU,sD,rE,↓reduceIte,rA,p0,p4,mI,jX,gK,show IntKind.i64.wrap (((r+8:Nat):Int) - 3)=((r+5:Nat):Int) from mK (a:=r+8) (b:=3) (by omega) (by omega),show IntKind.i64.wrap (((r+8:Nat):Int) - 4)=((r+4:Nat):Int) from mK (a:=r+8) (b:=4) (by omega) (by omega),show IntKind.u32.wrap (((b1 * 2:Nat):Int)+1)=((b1 * 2+1:Nat):Int) by rw[wrap_u32 (by omega) (by omega)];omega,aH,qI (q:=b1) (by omega),qF (q:=b1) (by omega),pF (cap:=cap) (rb:=rb) (show r+5<nd by omega)];refine qM (q1:=r+5) (q2:=r+4) (nd:=nd) (cap:=cap) (b1:=((48+b1 % 10:Nat):Int)) (b2:=((48+b1 / 10:Nat):Int)) hg1 rfl (by rfl) (aq) (aq) (aq) (au p0) (aq) (by decide) (by have:=hd.1;omega) (by have:=hd.1;omega) (by omega) rfl ?_;clear hg hX hlt;intro X hz nz hg;have hX:=hs1.trans hz;have hlt:=Ah hlt1 hz.1;clear hs1 hg1 hlt1 x1 nz hz X1;have hd:mR nd u (r+4) ((c.set (r+5) (.int .u8 ((48+b1 % 10:Nat):Int))).set (r+4) (.int .u8 ((48+b1 / 10:Nat):Int))):=mR.two (k:=r+6) (w:=(w / 10 ^ 2)) (q:=b1) hd (by omega) (by omega) (by omega) w2 (by omega);obtain⟨c,hc⟩:∃c',c'=(c.set (r+5) (.int .u8 ((48+b1 % 10:Nat):Int))).set (r+4) (.int .u8 ((48+b1 / 10:Nat):Int)):=⟨_,rfl⟩;rw[←hc] at hg hd;clear hc;try simp only[↓sU,sD,rE,↓reduceIte,rA]
  refine aC (dK (fun c=>c=rb) ?_);intro X1 x1;have hs1:=hX.trans (mP x1);have hg1:=(x1.2 _ hlt).trans hg;have hlt1:=Ah hlt x1.1;simp only[↓sU,sD,rE,↓reduceIte,rA,p0,p4,mI,jX,gK,show IntKind.i64.wrap (((r+8:Nat):Int) - 5)=((r+3:Nat):Int) from mK (a:=r+8) (b:=5) (by omega) (by omega),show IntKind.i64.wrap (((r+8:Nat):Int) - 6)=((r+2:Nat):Int) from mK (a:=r+8) (b:=6) (by omega) (by omega),show IntKind.u32.wrap (((a0 * 2:Nat):Int)+1)=((a0 * 2+1:Nat):Int) by rw[wrap_u32 (by omega) (by omega)];omega,aH,qI (q:=a0) (by omega),qF (q:=a0) (by omega),pF (cap:=cap) (rb:=rb) (show r+3<nd by omega)];refine qM (q1:=r+3) (q2:=r+2) (nd:=nd) (cap:=cap) (b1:=((48+a0 % 10:Nat):Int)) (b2:=((48+a0 / 10:Nat):Int)) hg1 rfl (by rfl) (aq) (aq) (aq) (au p0) (aq) (by decide) (by have:=hd.1;omega) (by have:=hd.1;omega) (by omega) rfl ?_;clear hg hX hlt;intro X hz nz hg;have hX:=hs1.trans hz;have hlt:=Ah hlt1 hz.1;clear hs1 hg1 hlt1 x1 nz hz X1;have hd:mR nd u (r+2) ((c.set (r+3) (.int .u8 ((48+a0 % 10:Nat):Int))).set (r+2) (.int .u8 ((48+a0 / 10:Nat):Int))):=mR.two (k:=r+4) (w:=(w / 10 ^ 4)) (q:=a0) hd (by omega) (by omega) (by omega) w4 (by omega);obtain⟨c,hc⟩:∃c',c'=(c.set (r+3) (.int .u8 ((48+a0 % 10:Nat):Int))).set (r+2) (.int .u8 ((48+a0 / 10:Nat):Int)):=⟨_,rfl⟩;rw[←hc] at hg hd;clear hc;try simp only[↓sU,sD,rE,↓reduceIte,rA]
  refine aC (dK (fun c=>c=rb) ?_);intro X1 x1;have hs1:=hX.trans (mP x1);have hg1:=(x1.2 _ hlt).trans hg;have hlt1:=Ah hlt x1.1;simp only[↓sU,sD,rE,↓reduceIte,rA,p0,p4,mI,jX,gK,show IntKind.i64.wrap (((r+8:Nat):Int) - 7)=((r+1:Nat):Int) from mK (a:=r+8) (b:=7) (by omega) (by omega),show IntKind.i64.wrap (((r+8:Nat):Int) - 8)=((r:Nat):Int) from mK (a:=r+8) (b:=8) (by omega) (by omega),show IntKind.u32.wrap (((a1 * 2:Nat):Int)+1)=((a1 * 2+1:Nat):Int) by rw[wrap_u32 (by omega) (by omega)];omega,aH,qI (q:=a1) (by omega),qF (q:=a1) (by omega),pF (cap:=cap) (rb:=rb) (show r+1<nd by omega)];refine qM (q1:=r+1) (q2:=r) (nd:=nd) (cap:=cap) (b1:=((48+a1 % 10:Nat):Int)) (b2:=((48+a1 / 10:Nat):Int)) hg1 rfl (by rfl) (aq) (aq) (aq) (au p0) (aq) (by decide) (by have:=hd.1;omega) (by have:=hd.1;omega) (by omega) rfl ?_;clear hg hX hlt;intro X hz nz hg;have hX:=hs1.trans hz;have hlt:=Ah hlt1 hz.1;clear hs1 hg1 hlt1 x1 nz hz X1;have hd:mR nd u (r) ((c.set (r+1) (.int .u8 ((48+a1 % 10:Nat):Int))).set (r) (.int .u8 ((48+a1 / 10:Nat):Int))):=mR.two (k:=r+2) (w:=(w / 10 ^ 6)) (q:=a1) hd (by omega) (by omega) (by omega) w6 (by omega);obtain⟨c,hc⟩:∃c',c'=(c.set (r+1) (.int .u8 ((48+a1 % 10:Nat):Int))).set (r) (.int .u8 ((48+a1 / 10:Nat):Int)):=⟨_,rfl⟩;rw[←hc] at hg hd;clear hc;try simp only[↓sU,sD,rE,↓reduceIte,rA]
  refine aG ?_;simp only[↓aA,aB,rE,↓reduceIte,p4,show IntKind.i64.wrap (((r+8:Nat):Int) - 8)=(r:Int) from mK (a:=r+8) (b:=8) (by omega) (by omega)];exact⟨r,by omega,rfl,ag p0,ae,ag w8,by omega,hlt,hX,c,hg,hd⟩
 clear hg hlt hc c;rintro o ⟨F,inr⟩ X ⟨rfl,k,hk8,q0,p0,p4,p1,hk,hlt,hX,c,hg,hd⟩;simp only at q0 p0 p4 p1;subst q0;have hsm:∀k,k≤nd→u / 10 ^ (nd - k)<10 ^ k:=fun k hk=>by
  rw[Nat.div_lt_iff_lt_mul (Nat.pow_pos (by decide)),←Nat.pow_add,show k+(nd - k)=nd by omega];exact hu
 obtain⟨w,hw⟩:∃w,w=u / 10 ^ (nd - k):=⟨_,rfl⟩;have hw7:w<10 ^ 7:=by
  rw[hw];exact Ah (hsm k hk) (Dq (by decide) (by omega))
 rw[←hw] at p1;try simp only[↓aA,aB,rE,↓reduceIte]
 refine cC ?_;simp only[↓aA,aB,rE,↓reduceIte,p1,wrap_u32 (n:=(w:Int)) (by omega) (by omega)];refine aC (bD (Q:=fun o A' X=>o= .normal∧∃k,k<4∧aQu S rb nd u cap k A' X) (aC (aG ?_)) ?_)
 ·simp only[↓aA,aB,rE,↓reduceIte,p4];by_cases h4:4≤k;rotate_left
  ·refine aO (by simp only[↓aA,aB,rE,↓reduceIte,Aa (show ¬ (4:Int)≤(k:Int) by omega)]) (aM ?_);exact⟨rfl,k,by omega,rfl,ag p0,ag p4,ag hw,hk,hlt,hX,c,hg,hd⟩
  refine aR (by simp only[↓aA,aB,rE,↓reduceIte,Ad (show(4:Int)≤(k:Int) by omega)]) ?_;obtain⟨r,rfl⟩:∃r,k=r+4:=⟨k - 4,by omega⟩;have w2:w / 10 ^ 2=u / 10 ^ (nd - (r+2)):=by rw[hw,uB,show nd - (r+4)+2=nd - (r+2) by omega]
  have w4:w / 10 ^ 4=u / 10 ^ (nd - r):=by rw[hw,uB,show nd - (r+4)+4=nd - r by omega]
  obtain⟨b,hb⟩:∃b,b=w % 10000:=⟨_,rfl⟩;have r1:eJ .rem (.p .int) (.int .u32 (w:Int)) (.int .u32 10000)=some (.int .u32 (b:Int)):=by rw[hb];exact pN (.p .int) (d:=10000) (by omega)
  have r2:eJ .quo (.p .int) (.int .u32 (w:Int)) (.int .u32 10000)=some (.int .u32 ((w / 10 ^ 4:Nat):Int)):=pL (.p .int) (d:=10000) (by omega) (by omega);obtain⟨b1,hb1⟩:∃b1,b1=b / 100:=⟨_,rfl⟩;obtain⟨b0,hb0⟩:∃b0,b0=b % 100:=⟨_,rfl⟩;have r5:eJ .quo (.p .int) (.int .u32 (b:Int)) (.int .u32 100)=some (.int .u32 (b1:Int)):=by rw[hb1];exact pL (.p .int) (d:=100) (by omega) (by omega)
  have r6:eJ .rem (.p .int) (.int .u32 (b:Int)) (.int .u32 100)=some (.int .u32 (b0:Int)):=by rw[hb0];exact pN (.p .int) (d:=100) (by omega)
  have m2:∀q:Nat,q<100→IntKind.u32.wrap ((q:Int) * 2)=((q * 2:Nat):Int):=fun q hq=>by rw[wrap_u32 (by omega) (by omega)];omega
  have q1:b0=w % 100:=by omega
  have q2:b1=w / 10 ^ 2 % 100:=by omega
  refine cC ?_;simp only[↓aA,aB,rE,↓reduceIte,r1];refine cC ?_;simp only[↓aA,aB,rE,↓reduceIte,r2];refine cC ?_;simp only[↓aA,aB,rE,↓reduceIte,r5,r6,m2 b1 (by omega),m2 b0 (by omega)];refine aC (dK (fun c=>c=rb) ?_);intro X1 x1;have hs1:=hX.trans (mP x1);have hg1:=(x1.2 _ hlt).trans hg;have hlt1:=Ah hlt x1.1;simp only[↓sU,sD,rE,↓reduceIte,rA,p0,p4,mI,jX,gK,show IntKind.i64.wrap (((r+4:Nat):Int) - 1)=((r+3:Nat):Int) from mK (a:=r+4) (b:=1) (by omega) (by omega),show IntKind.i64.wrap (((r+4:Nat):Int) - 2)=((r+2:Nat):Int) from mK (a:=r+4) (b:=2) (by omega) (by omega),show IntKind.u32.wrap (((b0 * 2:Nat):Int)+1)=((b0 * 2+1:Nat):Int) by rw[wrap_u32 (by omega) (by omega)];omega,aH,qI (q:=b0) (by omega),qF (q:=b0) (by omega),pF (cap:=cap) (rb:=rb) (show r+3<nd by omega)];refine qM (q1:=r+3) (q2:=r+2) (nd:=nd) (cap:=cap) (b1:=((48+b0 % 10:Nat):Int)) (b2:=((48+b0 / 10:Nat):Int)) hg1 rfl (by rfl) (aq) (aq) (aq) (au p0) (aq) (by decide) (by have:=hd.1;omega) (by have:=hd.1;omega) (by omega) rfl ?_;clear hg hX hlt;intro X hz nz hg;have hX:=hs1.trans hz;have hlt:=Ah hlt1 hz.1;clear hs1 hg1 hlt1 x1 nz hz X1;have hd:mR nd u (r+2) ((c.set (r+3) (.int .u8 ((48+b0 % 10:Nat):Int))).set (r+2) (.int .u8 ((48+b0 / 10:Nat):Int))):=mR.two (k:=r+4) (w:=w) (q:=b0) hd (by omega) (by omega) (by omega) hw (by omega);obtain⟨c,hc⟩:∃c',c'=(c.set (r+3) (.int .u8 ((48+b0 % 10:Nat):Int))).set (r+2) (.int .u8 ((48+b0 / 10:Nat):Int)):=⟨_,rfl⟩;rw[←hc] at hg hd;clear hc;try simp only[↓sU,sD,rE,↓reduceIte,rA]
  refine aC (dK (fun c=>c=rb) ?_);intro X1 x1;have hs1:=hX.trans (mP x1);have hg1:=(x1.2 _ hlt).trans hg;have hlt1:=Ah hlt x1.1;simp only[↓sU,sD,rE,↓reduceIte,rA,p0,p4,mI,jX,gK,show IntKind.i64.wrap (((r+4:Nat):Int) - 3)=((r+1:Nat):Int) from mK (a:=r+4) (b:=3) (by omega) (by omega),show IntKind.i64.wrap (((r+4:Nat):Int) - 4)=((r:Nat):Int) from mK (a:=r+4) (b:=4) (by omega) (by omega),show IntKind.u32.wrap (((b1 * 2:Nat):Int)+1)=((b1 * 2+1:Nat):Int) by rw[wrap_u32 (by omega) (by omega)];omega,aH,qI (q:=b1) (by omega),qF (q:=b1) (by omega),pF (cap:=cap) (rb:=rb) (show r+1<nd by omega)];refine qM (q1:=r+1) (q2:=r) (nd:=nd) (cap:=cap) (b1:=((48+b1 % 10:Nat):Int)) (b2:=((48+b1 / 10:Nat):Int)) hg1 rfl (by rfl) (aq) (aq) (aq) (au p0) (aq) (by decide) (by have:=hd.1;omega) (by have:=hd.1;omega) (by omega) rfl ?_;clear hg hX hlt;intro X hz nz hg;have hX:=hs1.trans hz;have hlt:=Ah hlt1 hz.1;clear hs1 hg1 hlt1 x1 nz hz X1;have hd:mR nd u (r) ((c.set (r+1) (.int .u8 ((48+b1 % 10:Nat):Int))).set (r) (.int .u8 ((48+b1 / 10:Nat):Int))):=mR.two (k:=r+2) (w:=(w / 10 ^ 2)) (q:=b1) hd (by omega) (by omega) (by omega) w2 (by omega);obtain⟨c,hc⟩:∃c',c'=(c.set (r+1) (.int .u8 ((48+b1 % 10:Nat):Int))).set (r) (.int .u8 ((48+b1 / 10:Nat):Int)):=⟨_,rfl⟩;rw[←hc] at hg hd;clear hc;try simp only[↓sU,sD,rE,↓reduceIte,rA]
  refine aG ?_;simp only[↓aA,aB,rE,↓reduceIte,p4,show IntKind.i64.wrap (((r+4:Nat):Int) - 4)=(r:Int) from mK (a:=r+4) (b:=4) (by omega) (by omega)];exact⟨r,by omega,rfl,ag p0,ae,ag w4,by omega,hlt,hX,c,hg,hd⟩
 clear p0 p4 p1 hk hk8 hlt hX hg hd hw hw7 c w;rintro o ⟨F,inr⟩ X ⟨rfl,k,hk4,q0,p0,p4,p12,hk,hlt,hX,c,hg,hd⟩;simp only at q0 p0 p4 p12;subst q0;obtain⟨w,hw⟩:∃w,w=u / 10 ^ (nd - k):=⟨_,rfl⟩;have hw7:w<10 ^ 3:=by
  rw[hw];exact Ah (hsm k hk) (Dq (by decide) (by omega))
 rw[←hw] at p12;try simp only[↓aA,aB,rE,↓reduceIte]
 refine aC (bD (Q:=fun o A' X=>o= .normal∧∃k,k<2∧aQu S rb nd u cap k A' X) (aC (aG ?_)) ?_)
 ·simp only[↓aA,aB,rE,↓reduceIte,p4];by_cases h2:2≤k;rotate_left
  ·refine aO (by simp only[↓aA,aB,rE,↓reduceIte,Aa (show ¬ (2:Int)≤(k:Int) by omega)]) (aM ?_);exact⟨rfl,k,by omega,rfl,ag p0,ag p4,by simp only[↓aA,aB,rE,↓reduceIte,p12,hw],hk,hlt,hX,c,hg,hd⟩
  refine aR (by simp only[↓aA,aB,rE,↓reduceIte,Ad (show(2:Int)≤(k:Int) by omega)]) ?_;obtain⟨r,rfl⟩:∃r,k=r+2:=⟨k - 2,by omega⟩;have w2:w / 10 ^ 2=u / 10 ^ (nd - r):=by rw[hw,uB,show nd - (r+2)+2=nd - r by omega]
  obtain⟨b,hb⟩:∃b,b=w % 100:=⟨_,rfl⟩;have r1:eJ .rem (.p .int) (.int .u32 (w:Int)) (.int .u32 100)=some (.int .u32 (b:Int)):=by rw[hb];exact pN (.p .int) (d:=100) (by omega)
  have r2:eJ .quo (.p .int) (.int .u32 (w:Int)) (.int .u32 100)=some (.int .u32 ((w / 10 ^ 2:Nat):Int)):=pL (.p .int) (d:=100) (by omega) (by omega);have m2:∀q:Nat,q<100→IntKind.u32.wrap ((q:Int) * 2)=((q * 2:Nat):Int):=fun q hq=>by rw[wrap_u32 (by omega) (by omega)];omega
  refine cC ?_;simp only[↓aA,aB,rE,↓reduceIte,p12,r1,m2 b (by omega)];refine cC ?_;simp only[↓aA,aB,rE,↓reduceIte,p12,r2];refine aC (dK (fun c=>c=rb) ?_);intro X1 x1;have hs1:=hX.trans (mP x1);have hg1:=(x1.2 _ hlt).trans hg;have hlt1:=Ah hlt x1.1;simp only[↓sU,sD,rE,↓reduceIte,rA,p0,p4,mI,jX,gK,show IntKind.i64.wrap (((r+2:Nat):Int) - 1)=((r+1:Nat):Int) from mK (a:=r+2) (b:=1) (by omega) (by omega),show IntKind.i64.wrap (((r+2:Nat):Int) - 2)=((r:Nat):Int) from mK (a:=r+2) (b:=2) (by omega) (by omega),show IntKind.u32.wrap (((b * 2:Nat):Int)+1)=((b * 2+1:Nat):Int) by rw[wrap_u32 (by omega) (by omega)];omega,aH,qI (q:=b) (by omega),qF (q:=b) (by omega),pF (cap:=cap) (rb:=rb) (show r+1<nd by omega)];refine qM (q1:=r+1) (q2:=r) (nd:=nd) (cap:=cap) (b1:=((48+b % 10:Nat):Int)) (b2:=((48+b / 10:Nat):Int)) hg1 rfl (by rfl) (aq) (aq) (aq) (au p0) (aq) (by decide) (by have:=hd.1;omega) (by have:=hd.1;omega) (by omega) rfl ?_;clear hg hX hlt;intro X hz nz hg;have hX:=hs1.trans hz;have hlt:=Ah hlt1 hz.1;clear hs1 hg1 hlt1 x1 nz hz X1;have hd:mR nd u (r) ((c.set (r+1) (.int .u8 ((48+b % 10:Nat):Int))).set (r) (.int .u8 ((48+b / 10:Nat):Int))):=mR.two (k:=r+2) (w:=w) (q:=b) hd (by omega) (by omega) (by omega) hw (by omega);obtain⟨c,hc⟩:∃c',c'=(c.set (r+1) (.int .u8 ((48+b % 10:Nat):Int))).set (r) (.int .u8 ((48+b / 10:Nat):Int)):=⟨_,rfl⟩;rw[←hc] at hg hd;clear hc;try simp only[↓sU,sD,rE,↓reduceIte,rA]
  refine aG ?_;simp only[↓aA,aB,rE,↓reduceIte,p4,show IntKind.i64.wrap (((r+2:Nat):Int) - 2)=(r:Int) from mK (a:=r+2) (b:=2) (by omega) (by omega)];exact⟨r,by omega,rfl,ag p0,ae,ag w2,by omega,hlt,hX,c,hg,hd⟩
 clear p0 p4 p12 hk hk4 hlt hX hg hd hw hw7 c w;rintro o ⟨F,inr⟩ X ⟨rfl,k,hk2,q0,p0,p4,p12,hk,hlt,hX,c,hg,hd⟩;simp only at q0 p0 p4 p12;subst q0;obtain⟨w,hw⟩:∃w,w=u / 10 ^ (nd - k):=⟨_,rfl⟩;have hw7:w<10 ^ k:=by
  rw[hw];exact hsm k hk
 rw[←hw] at p12;try simp only[↓aA,aB,rE,↓reduceIte]
 refine bD (Q:=fun o A' X=>o= .normal∧bJ rb S X∧∃c,X.h.get rb=some (.cells c false 0)∧mR nd u 0 c) (aC (aG ?_)) fun o A' X h=>by
  obtain⟨rfl,h⟩:=h;exact⟨_,rfl,h⟩
 simp only[↓aA,aB,rE,↓reduceIte,p4];by_cases h1:0<k;rotate_left
 ·have e:k=0:=by omega
  subst e;refine aO (by simp only[↓aA,aB,rE,↓reduceIte];rfl) (aM ?_);exact⟨rfl,hX,c,hg,hd⟩
 have e:k=1:=by omega
 subst e;have hw10:w<10:=by simpa using hw7
 refine aR (by simp only[↓aA,aB,rE,↓reduceIte];rfl) (aG ?_);have i0:=pF (cap:=cap) (rb:=rb) (show 0<nd by omega);simp only[↓aA,aB,rE,↓reduceIte,p0,p12,show IntKind.u32.wrap (48+(w:Int))=((48+w:Nat):Int) by rw[wrap_u32 (by omega) (by omega)];omega,aHo (n:=48+w) (by omega),oZ,Int.toNat_zero,Int.le_refl,i0];refine eR (v:=.undef) (fun call=>by rw[dD];simp only[↓aA,aB,rE,↓reduceIte,cQ];exact aF2 hg (by have:=hd.1;omega)) ?_;refine ac ?_;refine⟨hX.put _,c.set 0 (.int .u8 ((48+w:Nat):Int)),by rw[T.get_set,if_pos rfl],mR.one hd hk (by omega) hw hw10⟩
end Go.Ev.Gl
namespace Go.Ev.Gl
open Go.Sort
variable {fns:T cV}
theorem aHI{i:Nat}(h:i<100)(h2:¬i<10):(smalls.take (i * 2+2)).drop (i * 2)=eK i:=by
 have e1:eK i= [48+i / 10,48+i % 10]:=by
  rw[eK,dif_neg h2,eK,dif_pos (by omega)];rfl
 have g:∀j,j<200→smalls[j]? =some (if j % 2=0 then 48+j / 2 / 10 else 48+j / 2 % 10):=fun j hj=>by
  have:=yK hj;rw[Ab (by rw[uD];exact hj)] at this ⊢;simpa using this
 rw[e1];refine List.ext_getElem? fun j=>?_;rw[Ek,List.getElem?_take]
 match j with
 | 0=>
  rw[if_pos (by omega),Bs,g _ (by omega),if_pos (by omega),Nat.mul_div_cancel _ (by omega)];rfl
 | 1=>
  rw[if_pos (by omega),g _ (by omega),if_neg (by omega),show(i * 2+1) / 2=i by omega];rfl
 | j+2=>rw[if_neg (by omega)];rfl
def aPv:List Nat:=[48,49,50,51,52,53,54,55,56,57,97,98,99,100,101,102,103,104,105,106,107,108,109,110,111,112,113,114,115,116,117,118,119,120,121,122]
theorem aLd{i:Nat}(h:i<10):(aPv.take (i+1)).drop i=eK i:=by
 rw[eK,dif_pos h];revert i;decide
theorem aIx{S:St}{i:Nat}(H:Has fns)(h:i<100):fR fns (.fn 112 [] []) [.int .i64 (i:Int)] S fun r S'=>r= .str (eK i)∧S'=S:=by
 refine cE H.f112 (by simp) ?_;refine ah ?_;refine cC ?_;refine ac ?_;refine iP ?_;simp only[↓aA,aB,rE,↓reduceIte];by_cases h2:i<10
 ·refine aR (by simp only[↓aA,aB,rE,↓reduceIte,Ad (show(i:Int)<10 by omega)]) (aC (aG ?_));simp only[↓aA,aB,rE,↓reduceIte,fA (a:=i) (by omega)];rw[aJz (i:=i) (j:=i+1) (by simp only[↓aA,aB,rE,↓reduceIte,aH]) (by simp only[↓aA,aB,rE,↓reduceIte,aH]) (by omega) (by simp;omega)];refine ac ?_;refine aU ?_;simp only[↓aA,aB,rE,↓reduceIte];exact Dh AV.str (aLd h2)
 refine aO (by simp only[↓aA,aB,rE,↓reduceIte,Aa (show ¬ (i:Int)<10 by omega)]) (aM ?_);try simp only[↓aA,aB,rE,↓reduceIte]
 refine cC ?_;simp only[↓aA,aB,rE,↓reduceIte,show IntKind.i64.wrap ((i:Int) * 2)=((i * 2:Nat):Int) from aMc (b:=2) (by omega),show IntKind.i64.wrap (((i * 2:Nat):Int)+2)=((i * 2+2:Nat):Int) from yP (b:=2) (by omega),mI];rw[aJz (i:=i * 2) (j:=i * 2+2) (by simp only[↓aA,aB,rE,↓reduceIte,aH]) (by simp only[↓aA,aB,rE,↓reduceIte,aH]) (by omega) (by rw[uD];omega)];refine ac ?_;refine aU ?_;simp only[↓aA,aB,rE,↓reduceIte];exact Dh AV.str (aHI h h2)
theorem aOr(l m:List Nat):u8s (l++m)=u8s l++u8s m:=by simp [u8s]
theorem aNV{h:Ev.T AB}{s:List Nat}:eG (.str s) h 1 s.length=some (u8s s):=by
 show bN (Nat.beq 1 1) (aX (aEN s s.length) fun r=>some (byteCells r)) none=_;rw[show Nat.beq 1 1=true from rfl,aL,fI,if_pos (Ag _),Ch,aK];congr 1
 induction s with
 | nil=>rfl
 | cons a s ih=>
  show AV.int .u8 (.ofNat a)::byteCells s=_;rw[ih];rfl
theorem aNT(s:List Nat):nE (.str s)=some s.length:=by
 show some (jK s)=_;rw[dO]
def aMU(S0 S S':St)(v v':AV)(l:List Nat):Prop:=gQ 1 S0 S' v' l.length (u8s l)∧Same S0 S'∧S.nx≤S'.nx∧(∀c,c<S.nx→aT v≠some c→S'.h.get c=S.h.get c)∧∀c,aT v'=some c→S.nx≤c
theorem xA{S0 S:St}{v x:AV}{l m:List Nat}(h:gQ 1 S0 S v l.length (u8s l))(hS:Same S0 S)(hl:nE x=some m.length)(hs:eG x S.h 1 m.length=some (u8s m))(hm:0<m.length)(hb:l.length+m.length≤1000000000000):∃v' S',iA 1 1 v x S=some (v',S')∧aMU S0 S S' v v' (l++m):=by
 obtain⟨v',S',e1,e2,e3,e4,e5,e6⟩:=gQ.appB (bytes:=1) h hS hl hs (by rw[aJo,Eg]) hm (by unfold room;omega) (by unfold room;omega);refine⟨v',S',e1,?_,e3,e4,e5,fun c hc=>?_⟩
 ·rw[aOr,Ai];exact e2
 ·rw[e6] at hc;cases hc;exact Ag _
theorem aNb(u:Nat):0<(eK u).length:=by
 rw[eK];split<;>simp
theorem aKC{u:Nat}{c:List AV}(h:mR (eK u).length u 0 c)(hl:(eK u).length≤24):c.take (eK u).length=u8s (eK u):=by
 refine List.ext_getElem? fun i=>?_;rw[List.getElem?_take];by_cases hi:i<(eK u).length
 ·rw[if_pos hi];have h1:=h.2 ((eK u).length - 1 - i) (by omega);have h2:=aNQ u ((eK u).length - 1 - i) (by omega);rw[show(eK u).length - 1 - ((eK u).length - 1 - i)=i by omega] at h1 h2;rw[h1];unfold u8s;rw[Be,h2];rfl
 ·rw[if_neg hi,Bn (by rw[aJo];omega)]
theorem aFc{S0 S:St}{v:AV}{l:List Nat}{u:Nat}(H:Has fns)(hL:kA S)(h:gQ 1 S0 S v l.length (u8s l))(hS:Same S0 S)(hu:u≤18446744073709551615)(hb:l.length≤100000000000):fR fns (.fn 104 [] []) [v,.int .u64 (u:Int),.int .i64 10] S fun r S'=>aMU S0 S S' v r (l++eK u):=by
 refine cE H.f104 (by simp) ?_;refine ah ?_;refine cC ?_;refine ac ?_;refine iP ?_;refine ac ?_;refine aR (by simp only[↓aA,aB,rE,↓reduceIte];rfl) ?_;refine iP ?_;simp only[↓aA,aB,rE,↓reduceIte];have hp:=aNb u;by_cases h1:u<100
 ·have hl2:(eK u).length≤2:=(vV u 1).2 (by omega);refine aR (by simp only[↓aA,aB,rE,↓reduceIte,Ad (show(u:Int)<100 by omega)]) (aC (aG ?_));simp only[↓aA,aB,rE,↓reduceIte,wrap_i64 (n:=(u:Int)) (by omega) (by omega)];refine aY ?_;refine ac ?_;refine aP (aIx H h1) ?_;rintro _ _ ⟨rfl,rfl⟩;try simp only[↓aA,aB,rE,↓reduceIte]
  rename_i S;obtain⟨v',S',e1,e2⟩:=xA (m:=eK u) h hS (aNT _) aNV hp (by omega);refine eR (v:=v') (S1:=S') (fun call=>by rw[fJ];simp only[↓aA,aB,rE,↓reduceIte];exact e1) ?_;refine ac ?_;refine aU ?_;simp only[↓aA,aB,rE,↓reduceIte];exact e2
 refine aO (by simp only[↓aA,aB,rE,↓reduceIte,Aa (show ¬ (u:Int)<100 by omega)]) (aM ?_);try simp only[↓aA,aB,rE,↓reduceIte]
 refine aC (aG (cR ?_));intro S1 s1 n1 g1;have hz:(repeatL [AV.int .u8 (Int.ofNat 0)] 24).length=24:=by decide
 refine ac ?_;refine cC ?_;refine ac ?_;refine aY ?_;refine ac ?_;refine aP (aC5 H (hL.same s1) (by omega) hu) ?_;rintro _ _ ⟨rfl,hl20,rfl⟩;rename_i S1;have sa:∀ {F:Fr} {y:cK},fB (y.val F)=some (eK u).length→qX (.arr 24 1) (.ptr S.nx 0) none (some y) none F=some (.sl S.nx 0 (eK u).length 24 false):=fun {F y} hy=>by
  simp only[qX,aJw,jS,iR,aK,hy,Aj (Ag 24),Aj (show(eK u).length≤24 by omega),Aj (Bt _),aL];rfl
 try simp only[↓aA,aB,rE,↓reduceIte]
 refine cC ?_;simp only[↓aA,aB,rE,↓reduceIte];rw[sa (by simp only[↓aA,aB,rE,↓reduceIte,aH])];refine ac ?_;refine aY ?_;simp only[↓aA,aB,rE,↓reduceIte];have hu10:u<10 ^ (eK u).length:=by
  obtain⟨k,hk⟩:∃k,(eK u).length=k+1:=⟨(eK u).length - 1,by omega⟩;rw[hk];exact(vV u k).1 (by omega)
 refine aP (aLn H g1 hz (by omega) hl20 hu10 hu) ?_;rintro _ X ⟨hX,c,hg,hd⟩;try simp only[↓aA,aB,rE,↓reduceIte]
 refine cC ?_;simp only[↓aA,aB,rE,↓reduceIte];rw[sa (by simp only[↓aA,aB,rE,↓reduceIte,aH])];simp only[↓aA,aB,rE,↓reduceIte];have hsrc:eG (.sl S.nx 0 (eK u).length 24 false) X.h 1 (eK u).length=some (u8s (eK u)):=by
  show aX (cL X.h S.nx) (fun cs=>cut cs 0 ((eK u).length * 1))=_;unfold cL;rw[hg];show cut c 0 ((eK u).length * 1)=_;unfold cut;rw[fI,fT,Ct,Eg,if_pos (by have:=hd.1;omega),aKC hd (by omega)]
 have sX:Same S X:=bJ.same s1 hX (Ag _);obtain⟨v',S',e1,f1,f2,f3,f4,f5⟩:=xA (m:=eK u) (h.step sX) (hS.trans sX) rfl hsrc hp (by omega);refine eR (v:=v') (S1:=S') (fun call=>by rw[fJ];simp only[↓aA,aB,rE,↓reduceIte];exact e1) ?_;refine ac ?_;refine aU ?_;simp only[↓aA,aB,rE,↓reduceIte];have hn:=sX.1;exact⟨f1,f2,by omega,fun c hc hne=>(f4 c (by omega) hne).trans (sX.2 c hc),fun c hc=>by have:=f5 c hc;omega⟩
theorem aLQ(a:Int):unV .neg (.int .u64 a)=some (.int .u64 (IntKind.u64.wrap (-a))):=by
 show some (AV.int .u64 (aED .u64 (.ofNat 0) a))=_;rw[wH];congr 3;show(0:Int) - a= -a;omega
theorem aLD(n:Int):IntKind.u64.wrap n=n % 18446744073709551616:=by simp [IntKind.wrap,IntKind.signed,IntKind.bits]
theorem aGf{S0 S:St}{v:AV}{l:List Nat}{z:Int}(H:Has fns)(hL:kA S)(h:gQ 1 S0 S v l.length (u8s l))(hS:Same S0 S)(hz: -9223372036854775808≤z∧z≤9223372036854775807)(hb:l.length≤10000000000):fR fns (.fn 89 [] []) [v,.int .i64 z,.int .i64 10] S fun r S'=>aMU S0 S S' v r (l++mU z):=by
 refine cE H.f89 (by simp) ?_;refine ah ?_;refine cC ?_;refine ac ?_;refine cC ?_;refine ac ?_;refine aC (bD (Q:=fun o A' X=>o= .normal∧∃ (v':AV) (u:Nat) (l':List Nat),aD 0 A'.F=v'∧aD 7 A'.F= .int .u64 (u:Int)∧aD 2 A'.F= .int .i64 10∧u≤18446744073709551615∧l'++eK u=l++mU z∧l'.length≤100000000000∧gQ 1 S0 X v' l'.length (u8s l')∧Same S0 X∧kA X∧S.nx≤X.nx∧(∀c,c<S.nx→aT v≠some c→X.h.get c=S.h.get c)∧∀c,c<S.nx→aT v'=some c→aT v=some c) (aC (aG ?_)) ?_)
 ·simp only[↓aA,aB,rE,↓reduceIte];by_cases hneg:z<0
  ·refine aR (by simp only[↓aA,aB,rE,↓reduceIte,Ad hneg]) (aC (aG ?_));refine ac ?_;refine fX (kQ (k:=.u8) (n:=45) (ae)) ?_;intro S1 s1 n1 g1;try simp only[↓aA,aB,rE,↓reduceIte]
   obtain⟨v',S',e1,f1,f2,f3,f4,f5⟩:=xA (m:=[45]) (h.step s1) (hS.trans s1) (x:=.sl S.nx 0 1 1 false) rfl (aNU g1) (by simp) (by simp;omega);refine eR (v:=v') (S1:=S') (fun call=>by rw[fJ];simp only[↓aA,aB,rE,↓reduceIte];exact e1) ?_;refine ac ?_;refine aG ?_;have hw:IntKind.u64.wrap (-(IntKind.u64.wrap z))=((z.natAbs:Nat):Int):=by
    rw[aLD,aLD];omega
   simp only[↓aA,aB,rE,↓reduceIte,aLQ,hw];have hn:=s1.1;refine⟨v',z.natAbs,l++ [45],rfl,rfl,by omega,?_,by simp;omega,f1,f2,?_,by omega,fun c hc hne=>(f4 c (by omega) hne).trans (s1.2 c hc),fun c hc e=>?_⟩
   ·unfold mU;rw[if_pos hneg];simp
   ·have hlt:=hL.2;refine⟨(f4 _ (by omega) fun e=>?_).trans ((s1.2 _ hlt).trans hL.1),by omega⟩;rcases h with⟨rfl,_⟩ | ⟨b,rfl,_,_,hg,_⟩
    ·cases e
    ·cases e;rw[hL.1] at hg;cases hg
   ·have:=f5 c e;omega
  ·refine aO (by simp only[↓aA,aB,rE,↓reduceIte,Aa hneg]) (aM ?_);refine⟨rfl,v,z.toNat,l,ae,?_,ae,by omega,?_,by omega,h,hS,hL,Ag _,fun c hc hne=>rfl,fun c hc e=>e⟩
   ·simp only[↓aA,aB,rE,↓reduceIte,aLD,show z % 18446744073709551616=((z.toNat:Nat):Int) by omega]
   ·unfold mU;rw[if_neg hneg]
 rintro o ⟨F,inr⟩ X ⟨rfl,v',u,l',p0,p7,p2,hu,he,hl',gw,sX,lX,nX,kX,bX⟩;simp only at p0 p7 p2;try simp only[↓aA,aB,rE,↓reduceIte]
 refine cC ?_;simp only[↓aA,aB,rE,↓reduceIte,p0,p2,p7];refine aY ?_;simp only[↓aA,aB,rE,↓reduceIte,p0,p2,p7];refine aP (aFc H lX gw sX hu hl') ?_;rintro r Y ⟨f1,f2,f3,f4,f5⟩;rw[he] at f1;try simp only[↓aA,aB,rE,↓reduceIte]
 refine aU ?_;simp only[↓aA,aB,rE,↓reduceIte];exact⟨f1,f2,by omega,fun c hc hne=>(f4 c (by omega) (fun e=>hne (bX c hc e))).trans (kX c hc hne),fun c hc=>by have:=f5 c hc;omega⟩
theorem aE5{S0 S:St}{v:AV}{l:List Nat}{z:Int}(H:Has fns)(hL:kA S)(h:gQ 1 S0 S v l.length (u8s l))(hS:Same S0 S)(hz: -9223372036854775808≤z∧z≤9223372036854775807)(hb:l.length≤10000000000):fR fns (.fn 75 [] []) [v,.int .i64 z,.int .i64 10] S fun r S'=>aMU S0 S S' v r (l++mU z):=by
 refine cE H.f75 (by simp) ?_;refine ah ?_;refine cC ?_;refine ac ?_;refine cC ?_;refine ac ?_;refine aY ?_;refine ac ?_;refine aP (aGf H hL h hS hz hb) ?_;intro r X hX;try simp only[↓aA,aB,rE,↓reduceIte]
 refine aU ?_;simp only[↓aA,aB,rE,↓reduceIte];exact hX
end Go.Ev.Gl
