import Derived.Test.YtkklchgmpejobaaGreatDoorGl18
open Nat renaming reduceEqDiff → rE, reduceAdd → rA
set_option maxHeartbeats 16000000
set_option linter.unusedSimpArgs false
set_option linter.unusedVariables false
namespace Go.Ev.Gl
open Go.Sort
variable {fns:T cW}
def aBc(a b:Int):Int:=if a<b then -1 else if b<a then 1 else 0
theorem aA5{S:St}{a b:Int}(H:Has fns):fB fns (.fn 62 [] []) [.int .i64 a,.int .i64 b] S fun r S'=>r= .int .i64 (aBc a b)∧S'=S:=by
 refine bN H.f62 (by simp) ?_;simp only[↓aB,aA,rE,↓reduceIte,rA];refine bL ?_;simp only[↓aB,aA,rE,↓reduceIte,rA];refine bL ?_;simp only[↓aB,aA,rE,↓reduceIte];refine aY ?_;simp only[↓aB,aA,rE,↓reduceIte];refine aO (aAp H) ?_;rintro _ _ ⟨rfl,rfl⟩;try simp only[↓aB,aA,rE,↓reduceIte]
 refine bL ?_;simp only[↓aB,aA,rE,↓reduceIte];refine aY ?_;simp only[↓aB,aA,rE,↓reduceIte];refine aO (aAp H) ?_;rintro _ _ ⟨rfl,rfl⟩;try simp only[↓aB,aA,rE,↓reduceIte]
 refine fY ?_;simp only[↓aB,aA,rE,↓reduceIte];refine aL (by simp only[↓aB,aA,rE,↓reduceIte]) (aI ?_);try simp only[↓aB,aA,rE,↓reduceIte]
 refine fY ?_;simp only[↓aB,aA,rE,↓reduceIte];refine aL (by simp only[↓aB,aA,rE,↓reduceIte]) (aI ?_);try simp only[↓aB,aA,rE,↓reduceIte]
 refine fY ?_;simp only[↓aB,aA,rE,↓reduceIte];unfold aBc;by_cases h1:a<b
 ·rw[if_pos h1];refine aN (by simp only[↓aB,aA,rE,↓reduceIte,Ab h1]) (aC (aF ?_));simp only[↓aB,aA,rE,↓reduceIte];refine aR ?_;simp only[↓aB,aA,rE,↓reduceIte];rfl
 rw[if_neg h1];refine aL (by simp only[↓aB,aA,rE,↓reduceIte,Aa h1]) (aI ?_);try simp only[↓aB,aA,rE,↓reduceIte]
 refine fY ?_;simp only[↓aB,aA,rE,↓reduceIte];by_cases h2:b<a
 ·rw[if_pos h2];refine aN (by simp only[↓aB,aA,rE,↓reduceIte,Ab h2]) (aC (aF ?_));simp only[↓aB,aA,rE,↓reduceIte];refine aR ?_;simp only[↓aB,aA,rE,↓reduceIte]
 rw[if_neg h2];refine aL (by simp only[↓aB,aA,rE,↓reduceIte,Aa h2]) (aI ?_);try simp only[↓aB,aA,rE,↓reduceIte]
 refine bL ?_;simp only[↓aB,aA,rE,↓reduceIte];refine aR ?_;simp only[↓aB,aA,rE,↓reduceIte]
theorem aME{S:St}{v:AV}{x y:Int}(H:Has fns)(h:bI .i64 S v [x,y]):fB fns (.fn 61 [] []) [v] S fun r S'=>r= .int .i64 (if x≠0 then x else y)∧S'=S:=by
 refine bN H.f61 (by simp) ?_;simp only[↓aB,aA,rE,↓reduceIte,rA];refine bL ?_;simp only[↓aB,aA,rE,↓reduceIte,rA];refine bL ?_;simp only[↓aB,aA,rE,↓reduceIte];have hl:=h.len;simp only[Am,Bg,Av,rA,Int.cast_ofNat_Int] at hl;refine aC (aT (Q:=fun o A' X=>X=S∧(o= .ret∧aH 2 A'.F= .int .i64 (if x≠0 then x else y)∨o= .normal∧x=0∧y=0∧aH 3 A'.F= .int .i64 0)) (aC (aF ?_)) ?_)
 ·simp only[↓aB,aA,rE,↓reduceIte,hl];refine aK (bG (fun k A' X=>A'.inr=false∧X=S∧∃i:Nat,i+k=2∧(0<i→x=0)∧(1<i→y=0)∧aH 3 A'.F= .int .i64 0∧aH 6 A'.F=v∧aH 7 A'.F= .int .i64 2∧aH 8 A'.F= .int .i64 (i:Int)) ?_ 2 _ _ ⟨rfl,rfl,0,rfl,by omega,by omega,by refine⟨?_,?_,?_,?_⟩<;>simp only[↓aB,aA,rE,↓reduceIte]⟩);rintro k ⟨F,inr⟩ X ⟨q0,rfl,i,hik,hx,hy,p3,p6,p7,p8⟩;simp only at q0 p3 p6 p7 p8;subst q0;refine bL ?_;simp only[↓aB,aA,rE,↓reduceIte,p7,p8];by_cases hi:i<2
  ·refine aC (aN (by simp only[↓aB,aA,rE,↓reduceIte,Ab (show(i:Int)<2 by omega)]) (aI ?_));try simp only[↓aB,aA,rE,↓reduceIte]
   have hil:i< [x,y].length:=hi;have ia:=h.iaddr hil;have la:=h.ld hil;obtain⟨w,hw⟩:∃w,w= [x,y].getD i 0:=⟨_,rfl⟩;rw[←hw] at la;refine aC (aK (aC (aF ?_)));simp only[↓aB,aA,rE,↓reduceIte,p6,p8,aG,ia,la];refine bL ?_;simp only[↓aB,aA,rE,↓reduceIte,p3];have hwx:i=0→w=x:=fun e=>by subst e;exact hw
   have hwy:i=1→w=y:=fun e=>by subst e;exact hw
   by_cases hw0:w=0
   ·refine aL (by simp only[↓aB,aA,rE,↓reduceIte,Aa (show ¬w≠0 from fun h=>h hw0)]) (aI ?_);try simp only[↓aB,aA,rE,↓reduceIte]
    refine aF ?_;simp only[↓aB,aA,rE,↓reduceIte,p8,dL (a:=i) (by omega)];exact⟨k - 1,by omega,i+1,by omega,by omega,by omega,p3,p6,p7,rfl⟩
   ·refine aN (by simp only[↓aB,aA,rE,↓reduceIte,Ab hw0]) (aC (aF ?_));simp only[↓aB,aA,rE,↓reduceIte];refine aR ?_;simp only[↓aB,aA,rE,↓reduceIte];refine .inl ?_;congr 1;by_cases e:i=0
    ·rw[hwx e] at hw0 ⊢;rw[if_pos hw0]
    ·rw[hx (by omega),if_neg (fun h=>h rfl)];exact hwy (by omega)
  ·refine aC (aL (by simp only[↓aB,aA,rE,↓reduceIte,Aa (show ¬ (i:Int)<2 by omega)]) (bD ?_));exact⟨rfl,.inr ⟨rfl,hx (by omega),hy (by omega),by simp only[↓aB,aA,rE,↓reduceIte,p3]⟩⟩
 rintro o ⟨F,inr⟩ X ⟨rfl,⟨rfl,p2⟩ | ⟨rfl,hx,hy,p3⟩⟩
 ·simp only at p2;simp only[↓aB,aA,rE,↓reduceIte,p2]
 simp only at p3;try simp only[↓aB,aA,rE,↓reduceIte]
 refine bL ?_;simp only[↓aB,aA,rE,↓reduceIte,p3];refine aR ?_;simp only[↓aB,aA,rE,↓reduceIte];rw[hx,hy,if_neg (fun h=>h rfl)]
theorem aMW{t:Nat}{z:AV}{x y:cF}{F:Fr}{id:Nat}{n m:Int}(hx:x.val F= .int .i64 n)(hy:y.val F= .int .i64 m):xL (.bslice t 1 2 [z] [(0,x),(1,y)]) F id=some (.sl id 0 2 2 false,.cells (bF [n,m]) false 0):=by
 show(aZ (gM (repeatL [z] 2) [(0 * 1,1,x.val F),(1 * 1,1,y.val F)]) fun cs=>some (AV.sl id 0 2 2 false,AB.cells cs false 0))=_;rw[hx,hy];rfl
end Go.Ev.Gl
namespace Go.Ev.Gl
open Go.Sort
variable {fns:T cW}
theorem aGe(a b:Int):aBc a b<0↔a<b:=by
 unfold aBc;split
 ·omega
 ·split<;>omega
theorem aJy(a b:Int):aBc a b=0↔a=b:=by
 unfold aBc;split
 ·omega
 ·split<;>omega
def zH(x y:bO):Prop:=x.kind=y.kind∧x.player=y.player∧x.info=y.info∧x.weights=y.weights∧x.pay=y.pay
instance labEDec(x y:bO):Decidable (zH x y):=by unfold zH;exact inferInstance
def gH(g:bC)(a i:Nat):Nat:=((nodeAt g a).next.getD i 0).toNat
def aNe(g:bC):Nat→Nat→Nat→Prop
 | 0,_,_=>False
 | f+1,a,b=>zH (nodeAt g a) (nodeAt g b)∧(nodeAt g a).next.length=(nodeAt g b).next.length∧∀i,i<(nodeAt g a).next.length→aNe g f (gH g a i) (gH g b i)
def eQ(g:bC):Prop:=∀a,a<g.nodes.length→∀i,i<(nodeAt g a).next.length→a<gH g a i∧gH g a i<g.nodes.length∧(nodeAt g a).next.getD i 0=((gH g a i:Nat):Int)
section
variable {g:bC}
theorem aAm(hK:eQ g):∀ (f f' a b:Nat),a<g.nodes.length→b<g.nodes.length→g.nodes.length - a≤f→g.nodes.length - a≤f'→aNe g f a b→aNe g f' a b
 | 0,_,a,b,ha,_,h,_,_=>by omega
 | f+1,0,a,b,ha,_,_,h,_=>by omega
 | f+1,f'+1,a,b,ha,hb,h1,h2,h=>by
  refine⟨h.1,h.2.1,fun i hi=>?_⟩;obtain⟨k1,k2,_⟩:=hK a ha i hi;obtain⟨_,k4,_⟩:=hK b hb i (by rw[←h.2.1];exact hi);exact aAm hK f f' _ _ k2 k4 (by omega) (by omega) (h.2.2 i hi)
def EqS(g:bC)(a b:Nat):Prop:=aNe g g.nodes.length a b
theorem rI(hK:eQ g){a b:Nat}(ha:a<g.nodes.length)(hb:b<g.nodes.length):EqS g a b↔zH (nodeAt g a) (nodeAt g b)∧(nodeAt g a).next.length=(nodeAt g b).next.length∧∀i,i<(nodeAt g a).next.length→EqS g (gH g a i) (gH g b i):=by
 obtain⟨n,hn⟩:∃n,g.nodes.length=n+1:=⟨g.nodes.length - 1,by omega⟩;unfold EqS;constructor
 ·intro h;rw[hn] at h;refine⟨h.1,h.2.1,fun i hi=>?_⟩;obtain⟨k1,k2,_⟩:=hK a ha i hi;obtain⟨_,k4,_⟩:=hK b hb i (by rw[←h.2.1];exact hi);exact aAm hK _ _ _ _ k2 k4 (by omega) (by omega) (h.2.2 i hi)
 ·rintro⟨h1,h2,h3⟩;rw[hn];refine⟨h1,h2,fun i hi=>?_⟩;obtain⟨k1,k2,_⟩:=hK a ha i hi;obtain⟨_,k4,_⟩:=hK b hb i (by rw[←h2];exact hi);exact aAm hK _ _ _ _ k2 k4 (by omega) (by omega) (h3 i hi)
theorem sL{n:Nat}{P:Nat→Prop}(h:∀a,a<n→(∀b,a<b→b<n→P b)→P a):∀a,a<n→P a:=by
 have key:∀k a,n - a≤k→a<n→P a:=fun k=>by
  induction k with
  | zero=>intro a h1 h2;omega
  | succ k ih=>exact fun a h1 h2=>h a h2 fun b hb hbn=>ih b (by omega) hbn
 exact fun a ha=>key _ a (Ah _) ha
theorem aBg(hK:eQ g):∀a,a<g.nodes.length→EqS g a a:=sL fun a ha ih=>by
 rw[rI hK ha ha];exact⟨⟨rfl,rfl,rfl,rfl,rfl⟩,rfl,fun i hi=>ih _ (hK a ha i hi).1 (hK a ha i hi).2.1⟩
theorem wN(hK:eQ g):∀a,a<g.nodes.length→∀b,b<g.nodes.length→EqS g a b→EqS g b a:=sL fun a ha ih b hb h=>by
 rw[rI hK ha hb] at h;rw[rI hK hb ha];obtain⟨⟨h1,h2,h3,h4,h5⟩,h6,h7⟩:=h;exact⟨⟨h1.symm,h2.symm,h3.symm,h4.symm,h5.symm⟩,h6.symm,fun i hi=>ih _ (hK a ha i (by omega)).1 (hK a ha i (by omega)).2.1 _ (hK b hb i hi).2.1 (h7 i (by omega))⟩
theorem oI(hK:eQ g):∀a,a<g.nodes.length→∀b,b<g.nodes.length→∀c,c<g.nodes.length→EqS g a b→EqS g b c→EqS g a c:=sL fun a ha ih b hb c hc h h'=>by
 rw[rI hK ha hb] at h;rw[rI hK hb hc] at h';rw[rI hK ha hc];obtain⟨⟨h1,h2,h3,h4,h5⟩,h6,h7⟩:=h;obtain⟨⟨g1,g2,g3,g4,g5⟩,g6,g7⟩:=h';exact⟨⟨h1.trans g1,h2.trans g2,h3.trans g3,h4.trans g4,h5.trans g5⟩,h6.trans g6,fun i hi=>ih _ (hK a ha i hi).1 (hK a ha i hi).2.1 _ (hK b hb i (by omega)).2.1 _ (hK c hc i (by omega)).2.1 (h7 i hi) (g7 i (by omega))⟩
def aMf(H:List Int)(l:List Int):Int:=l.foldl (fun m c=>mx m (H.getD c.toNat 0+1)) 0
def aPK(g:bC)(H:List Int):Prop:=H.length=g.nodes.length∧∀i,i<g.nodes.length→H.getD i 0=aMf H (nodeAt g i).next
theorem aCt{α β:Type}{f f':β→α→β}{l:List α}(h:∀b,∀a∈l,f b a=f' b a):∀b,l.foldl f b=l.foldl f' b:=by
 induction l with
 | nil=>intro b;rfl
 | cons a l ih=>
  intro b;rw[Ej,Ej,h b a (by simp)];exact ih (fun b c hc=>h b c (by simp [hc])) _
theorem sH{hK:eQ g}{a:Nat}(ha:a<g.nodes.length){c:Int}(hc:c∈(nodeAt g a).next):a<c.toNat∧c.toNat<g.nodes.length:=by
 obtain⟨i,hi⟩:=Dj hc;have hl:=(Af.1 hi).1;obtain⟨h1,h2,h3⟩:=hK a ha i hl;have e:(nodeAt g a).next.getD i 0=c:=by rw[Ag,hi];rfl
 have e2:gH g a i=c.toNat:=by unfold gH;rw[e]
 omega
theorem aG9(H l:List Int):0≤aMf H l:=by
 have key:∀ (l:List Int) (m:Int),0≤m→0≤l.foldl (fun m c=>mx m (H.getD c.toNat 0+1)) m:=fun l=>by
  induction l with
  | nil=>exact fun m h=>h
  | cons c l ih=>
   intro m h;rw[Ej];refine ih _ ?_;unfold mx;split<;>omega
 exact key l 0 (Int.le_refl 0)
theorem aCd(f:Int→Int):∀ (l:List Int) (m:Int),m≤l.foldl (fun m c=>mx m (f c)) m∧∀c∈l,f c≤l.foldl (fun m c=>mx m (f c)) m
 | [],m=>⟨Int.le_refl _,fun c hc=>by cases hc⟩
 | a::l,m=>by
  rw[Ej];obtain⟨h1,h2⟩:=aCd f l (mx m (f a));have e1:m≤mx m (f a)∧f a≤mx m (f a):=by unfold mx;split<;>omega
  refine⟨by omega,fun c hc=>?_⟩;rcases Bq.1 hc with rfl | hc
  ·omega
  ·exact h2 c hc
theorem aNP{H l:List Int}{c:Int}(hc:c∈l):H.getD c.toNat 0+1≤aMf H l:=(aCd (fun c=>H.getD c.toNat 0+1) l 0).2 c hc
theorem aNN{H l:List Int}{B:Int}(h0:0≤B)(h:∀c∈l,H.getD c.toNat 0+1≤B):aMf H l≤B:=by
 have key:∀ (l:List Int) (m:Int),m≤B→(∀c∈l,H.getD c.toNat 0+1≤B)→l.foldl (fun m c=>mx m (H.getD c.toNat 0+1)) m≤B:=fun l=>by
  induction l with
  | nil=>exact fun m h _=>h
  | cons c l ih=>
   intro m h h2;rw[Ej];refine ih _ ?_ (fun d hd=>h2 d (by simp [hd]));have:=h2 c (by simp);unfold mx;split<;>omega
 exact key l 0 h0 h
theorem aLt(hK:eQ g){H:List Int}(h:aPK g H):∀a,a<g.nodes.length→0≤H.getD a 0∧H.getD a 0≤((g.nodes.length - 1 - a:Nat):Int):=sL fun a ha ih=>by
 rw[h.2 a ha];refine⟨aG9 _ _,aNN (by omega) fun c hc=>?_⟩;obtain⟨h1,h2⟩:=sH (hK:=hK) ha hc;have:=ih _ h1 h2;omega
end
open Classical in
noncomputable def lI(g:bC)(i:Nat):Bool:=decide (∀j,j<i→¬EqS g j i)
open Classical in
theorem pP{g:bC}{i:Nat}:lI g i=true↔∀j,j<i→¬EqS g j i:=by
 unfold lI;rw[Fi]
def bef(H:List Int)(a b:Nat):Prop:=H.getD b 0<H.getD a 0∨H.getD a 0=H.getD b 0∧a<b
structure xC(g:bC)(H:List Int)(F:List Nat)(C:List Int):Prop where
 perm:F.Perm ((List.range g.nodes.length).filter (lI g))
 srt:F.Pairwise (bef H)
 len:C.length=g.nodes.length
 cls:∀i,i<g.nodes.length→∃p q,F[p]? =some q∧C.getD i 0=((p:Nat):Int)∧EqS g q i
section
variable {g:bC}{H:List Int}
theorem yC{a b:Nat}(h:bef H a b):¬bef H b a:=by
 unfold bef at h ⊢;omega
theorem aH1(hK:eQ g){i:Nat}(hi:i<g.nodes.length):∃j,j≤i∧lI g j=true∧EqS g j i:=by
 induction i using Nat.strongRecOn with
 | _ i ih=>
  by_cases h:∀j,j<i→¬EqS g j i
  ·exact⟨i,Ah _,pP.2 h,aBg hK i hi⟩
  ·obtain⟨j,h⟩:=Classical.not_forall.1 h;obtain⟨hj,h⟩:=Classical.not_imp.1 h;have h:=Classical.not_not.1 h;obtain⟨k,h1,h2,h3⟩:=ih j hj (by omega);exact⟨k,by omega,h2,oI hK k (by omega) j (by omega) i hi h3 h⟩
theorem zF(hK:eQ g){a b:Nat}(ha:a<g.nodes.length)(hb:b<g.nodes.length)(h1:lI g a=true)(h2:lI g b=true)(h:EqS g a b):a=b:=by
 have h1:=pP.1 h1;have h2:=pP.1 h2;by_cases e:a<b
 ·exact absurd h (h2 a e)
 by_cases e2:b<a
 ·exact absurd (wN hK a ha b hb h) (h1 b e2)
 omega
theorem xC.mem{F:List Nat}{C:List Int}(h:xC g H F C){q:Nat}(hq:q∈F):q<g.nodes.length∧lI g q=true:=by
 have:=h.perm.mem_iff.1 hq;rw[List.mem_filter,Et] at this;exact this
theorem aDW(hK:eQ g){F F':List Nat}{C C':List Int}(h:xC g H F C)(h':xC g H F' C'):F=F'∧C=C':=by
 have hF:F=F':=List.Perm.eq_of_pairwise (le:=fun a b=>¬bef H b a) (fun a b _ _ h1 h2=>by unfold bef at h1 h2;omega) (h.srt.imp fun x=>yC x) (h'.srt.imp fun x=>yC x) (h.perm.trans h'.perm.symm);subst hF;refine⟨rfl,Fb (h.len.trans h'.len.symm) fun i h1 h2=>?_⟩;have hi:i<g.nodes.length:=by have:=h.len;omega
 obtain⟨p,q,e1,e2,e3⟩:=h.cls i hi;obtain⟨p',q',e1',e2',e3'⟩:=h'.cls i hi;obtain⟨m1,m2⟩:=h.mem (Ao e1);obtain⟨m1',m2'⟩:=h.mem (Ao e1');have hqq:q=q':=zF hK m1 m1' m2 m2' (oI hK q m1 i hi q' m1' e3 (wN hK q' m1' i hi e3'));subst hqq;have hpp:p=p':=by
  obtain⟨l1,g1⟩:=Af.1 e1;obtain⟨l2,g2⟩:=Af.1 e1';by_cases e:p<p'
  ·have:=Da.1 h.srt p p' l1 l2 e;rw[g1,g2] at this;unfold bef at this;omega
  by_cases e':p'<p
  ·have:=Da.1 h.srt p' p l2 l1 e';rw[g1,g2] at this;unfold bef at this;omega
  omega
 rw[Ag,Ad h1] at e2;rw[Ag,Ad h2] at e2';simp only[Fc] at e2 e2';rw[e2,e2',hpp]
end
def eH(u:Nat):List Nat:=if h:u<10 then [48+u] else eH (u / 10)++ [48+u % 10]
termination_by u
decreasing_by omega
def nN(n:Int):List Nat:=if n<0 then 45::eH n.natAbs else eH n.toNat
def aNz(l:List Nat):Nat:=l.foldl (fun m d=>10 * m+(d - 48)) 0
theorem aJt(l:List Nat)(d:Nat):aNz (l++ [d])=10 * aNz l+(d - 48):=by unfold aNz;rw[List.foldl_append];rfl
theorem aEZ(u:Nat):aNz (eH u)=u:=by
 induction u using Nat.strongRecOn with
 | _ u ih=>
  by_cases h:u<10
  ·rw[eH,dif_pos h];show 10 * 0+(48+u - 48)=u;omega
  ·rw[eH,dif_neg h,aJt,ih (u / 10) (by omega)];omega
theorem xN(u:Nat):∀d∈eH u,48≤d∧d≤57:=by
 induction u using Nat.strongRecOn with
 | _ u ih=>
  intro d hd;by_cases h:u<10
  ·rw[eH,dif_pos h] at hd;have:=Ca.1 hd;omega
  ·rw[eH,dif_neg h] at hd;rcases Bj.1 hd with hd | hd
   ·exact ih (u / 10) (by omega) d hd
   ·have:=Ca.1 hd;omega
theorem aHs{u v:Nat}(h:eH u=eH v):u=v:=by rw[←aEZ u,h,aEZ]
theorem aAT(n:Int):∀d∈nN n,d≠44∧d≠59:=fun d hd=>by
 unfold nN at hd;split at hd
 ·rcases Bq.1 hd with rfl | hd
  ·decide
  ·have:=xN _ d hd;omega
 ·have:=xN _ d hd;omega
theorem aLp{n m:Int}(h:nN n=nN m):n=m:=by
 unfold nN at h;have no:∀u v:Nat,¬45::eH u=eH v:=fun u v e=>by
  have:=xN v 45 (by rw[←e];simp);omega
 split at h<;>split at h
 ·injection h with _ h;have:=aHs h;omega
 ·exact absurd h (no _ _)
 ·exact absurd h.symm (no _ _)
 ·have:=aHs h;omega
def pJ(l:List Int):List Nat:=l.flatMap (fun n=>nN n++ [44])++ [59]
theorem aNJ{a b r r':List Nat}{c:Nat}(ha:∀d∈a,d≠c)(hb:∀d∈b,d≠c)(h:a++c::r=b++c::r'):a=b∧r=r':=by
 induction a generalizing b with
 | nil=>
  cases b with
  | nil=>simpa using h
  | cons y b=>
   simp only[Bp,Bo,Ex] at h;exact absurd h.1.symm (hb y (by simp))
 | cons x a ih=>
  cases b with
  | nil=>
   simp only[Bp,Bo,Ex] at h;exact absurd h.1 (ha x (by simp))
  | cons y b=>
   simp only[Bo,Ex] at h;obtain⟨h1,h2⟩:=ih (fun d hd=>ha d (by simp [hd])) (fun d hd=>hb d (by simp [hd])) h.2;exact⟨by rw[h.1,h1],h2⟩
theorem aAW:∀ {l m:List Int} {r r':List Nat},pJ l++r=pJ m++r'→l=m∧r=r'
 | [],[],r,r',h=>by
  simp only[pJ,List.flatMap_nil,Bp,Bo,Ex,true_and] at h;exact⟨rfl,h⟩
 | [],y::m,r,r',h=>by
  simp only[pJ,List.flatMap_nil,Cx,Bp,Bo,Bl] at h;have hd:∀d∈nN y,d≠59:=fun d hd=>(aAT y d hd).2;cases hy:nN y with
  | nil=>rw[hy] at h;simp at h
  | cons z zs=>
   rw[hy] at h hd;simp only[Bo,Ex] at h;exact absurd h.1.symm (hd z (by simp))
 | x::l,[],r,r',h=>by
  simp only[pJ,List.flatMap_nil,Cx,Bp,Bo,Bl] at h;have hd:∀d∈nN x,d≠59:=fun d hd=>(aAT x d hd).2;cases hx:nN x with
  | nil=>rw[hx] at h;simp at h
  | cons z zs=>
   rw[hx] at h hd;simp only[Bo,Ex] at h;exact absurd h.1 (hd z (by simp))
 | x::l,y::m,r,r',h=>by
  simp only[pJ,Cx,Bl,Eb] at h;obtain⟨h1,h2⟩:=aNJ (fun d hd=>(aAT x d hd).1) (fun d hd=>(aAT y d hd).1) h;obtain⟨h3,h4⟩:=aAW (l:=l) (m:=m) (r:=r) (r':=r') (by simp only[pJ,Bl,Eb];exact h2);exact⟨by rw[aLp h1,h3],h4⟩
def lP(K:List Int)(l:List Int):List Int:=l.map fun c=>K.getD c.toNat 0
def oB(x:bO)(K:List Int):List Nat:=pJ [x.kind,x.player,x.info]++(pJ x.weights++(pJ x.pay++pJ (lP K x.next)))
theorem key_inj{x y:bO}{K K':List Int}(h:oB x K=oB y K'):zH x y∧lP K x.next=lP K' y.next:=by
 unfold oB at h;obtain⟨h1,h⟩:=aAW h;obtain⟨h2,h⟩:=aAW h;obtain⟨h3,h⟩:=aAW h;obtain⟨h4,_⟩:=aAW (r:=[]) (r':=[]) (by simpa using h);simp only[Ex,and_true] at h1;exact⟨⟨h1.1,h1.2.1,h1.2.2,h2,h3⟩,h4⟩
theorem aLA{x y:bO}{K K':List Int}(h:zH x y)(h2:lP K x.next=lP K' y.next):oB x K=oB y K':=by
 obtain⟨h1,h3,h4,h5,h6⟩:=h;unfold oB;rw[h1,h3,h4,h5,h6,h2]
section
variable {g:bC}
def aLY(g:bC)(c:Nat)(K:List Int):Prop:=K.length=g.nodes.length∧∀a b,c≤a→c≤b→a<g.nodes.length→b<g.nodes.length→(K.getD a 0=K.getD b 0↔EqS g a b)
theorem aE0(hK:eQ g){c:Nat}{K:List Int}(h:aLY g c K){a b:Nat}(ha:a<g.nodes.length)(hb:b<g.nodes.length)(hca:c≤a+1)(hcb:c≤b+1):oB (nodeAt g a) K=oB (nodeAt g b) K↔EqS g a b:=by
 rw[rI hK ha hb];have kid:∀ {q i},c≤q+1→q<g.nodes.length→i<(nodeAt g q).next.length→c≤gH g q i∧gH g q i<g.nodes.length:=fun {q i} h1 h2 h3=>by
  obtain⟨k1,k2,_⟩:=hK q h2 i h3;exact⟨by omega,k2⟩
 have getk:∀ {q i},i<(nodeAt g q).next.length→(lP K (nodeAt g q).next)[i]? =some (K.getD (gH g q i) 0):=fun {q i} hi=>by
  have e:(nodeAt g q).next.getD i 0=(nodeAt g q).next[i]:=by rw[Ag,Ad hi];rfl
  unfold lP gH;rw[Bc,Ad hi,e];rfl
 constructor
 ·intro h1;obtain⟨h2,h3⟩:=key_inj h1;have hl:(nodeAt g a).next.length=(nodeAt g b).next.length:=by
   have:=Ce List.length h3;simpa [lP] using this
  refine⟨h2,hl,fun i hi=>?_⟩;have e:=Ce (fun l=>l[i]?) h3;simp only[getk hi,getk (q:=b) (by rw[←hl];exact hi)] at e;obtain⟨c1,c2⟩:=kid hca ha hi;obtain⟨d1,d2⟩:=kid hcb hb (by rw[←hl];exact hi);exact(h.2 _ _ c1 d1 c2 d2).1 (Cd e)
 ·rintro⟨h1,hl,h3⟩;refine aLA h1 (List.ext_getElem? fun i=>?_);by_cases hi:i<(nodeAt g a).next.length
  ·rw[getk hi,getk (by rw[←hl];exact hi)];obtain⟨c1,c2⟩:=kid hca ha hi;obtain⟨d1,d2⟩:=kid hcb hb (by rw[←hl];exact hi);rw[(h.2 _ _ c1 d1 c2 d2).2 (h3 i hi)]
  ·rw[Ci (by simpa [lP] using hi),Ci (by rw[hl] at hi;simpa [lP] using hi)]
end
end Go.Ev.Gl
namespace Go.Ev.Gl
open Go.Sort
variable {fns:T cW}
theorem wW(u k:Nat):(eH u).length≤k+1↔u<10 ^ (k+1):=by
 induction k generalizing u with
 | zero=>
  by_cases h:u<10
  ·rw[eH,dif_pos h];simp only[Bm,Av,Nat.pow_one];omega
  ·rw[eH,dif_neg h,Al,Bm];have:0<(eH (u / 10)).length:=by
    rw[eH];split<;>simp
   simp only[Av,Nat.pow_one];omega
 | succ k ih=>
  by_cases h:u<10
  ·rw[eH,dif_pos h];have h1:1≤10 ^ (k+1):=Nat.one_le_pow _ _ (by decide);have h2:10 ^ (k+1+1)=10 ^ (k+1) * 10:=Nat.pow_succ ..;simp only[Bm];constructor<;>intro<;>omega
  ·rw[eH,dif_neg h,Al,Bm,Nat.pow_succ,Nat.add_le_add_iff_right,ih (u / 10)];omega
theorem aCx{u k:Nat}(h1:10 ^ k≤u)(h2:u<10 ^ (k+1)):(eH u).length=k+1:=by
 have a:=(wW u k).2 h2;cases k with
 | zero=>
  have:0<(eH u).length:=by
   rw[eH];split<;>simp
  omega
 | succ k=>
  have b:=(wW u k);have:¬ (eH u).length≤k+1:=fun h=>by have:=b.1 h;omega
  omega
theorem aM8(u:Nat):∀j,j<(eH u).length→(eH u)[(eH u).length - 1 - j]? =some (48+u / 10 ^ j % 10):=by
 induction u using Nat.strongRecOn with
 | _ u ih=>
  intro j hj;by_cases h:u<10
  ·rw[eH,dif_pos h] at hj ⊢;simp only[Bm] at hj ⊢;have:j=0:=by omega
   subst this;simp only[De,List.getElem?_cons_zero,Nat.pow_zero,Nat.div_one];rw[Nat.mod_eq_of_lt h]
  ·rw[eH,dif_neg h] at hj ⊢;rw[Al,Bm] at hj ⊢;cases j with
   | zero=>
    rw[show(eH (u / 10)).length+1 - 1 - 0=(eH (u / 10)).length by omega,Bh (Ah _),De,Nat.pow_zero,Nat.div_one];rfl
   | succ j=>
    rw[show(eH (u / 10)).length+1 - 1 - (j+1)=(eH (u / 10)).length - 1 - j by omega,Bu (by omega),ih (u / 10) (by omega) j (by omega),Nat.div_div_eq_div_mul,←Nat.pow_succ']
def aLL:List AV:=(List.range 20).map fun i=>AV.int .u64 ((10 ^ i:Nat):Int)
def jH(S:St):Prop:=S.h.get 0=some (.ro aLL)∧0<S.nx
theorem jH.same{S S':St}(h:jH S)(hs:Same S S'):jH S':=⟨(hs.2 _ h.2).trans h.1,Ae h.2 hs.1⟩
theorem aJN{i:Nat}(h:i<20):aLL[i]? =some (.int .u64 ((10 ^ i:Nat):Int)):=by
 unfold aLL;rw[Bc,Dy h];rfl
theorem aPE{h:Ev.T AB}{b p:Nat}{cs:List AV}{x:AV}(hb:h.get b=some (.ro cs))(hj:cs[p]? =some x):cE (.ptr b (0+p * 1)) false 1 h=some x:=by
 simp only[cE,mO,aU,jL,cK,hb,aM,jE,kA,Av,En,hj]
theorem aLT(e:oZ)(j:IntKind){a n:Nat}(hn:n≤64):eY .shr e (.int .i64 (a:Int)) (.int j (n:Int))=some (.int .i64 ((a / 2 ^ n:Nat):Int)):=by
 show dB .shr .i64 (Int.ofNat a) j (Int.ofNat n)=_;unfold dB;rw[show eE .shr=true from rfl,aP];show vY .shr .i64 (Int.ofNat a) n=_;unfold vY;rw[show Nat.ble n IntKind.i64.bits=true from Aj hn,aP];show some (AV.int .i64 (Int.fdiv (a:Int) ((2 ^ n:Nat):Int)))=_;rw[Int.fdiv_eq_ediv_of_nonneg _ (Es _)];rfl
theorem aH7{S:St}{x:Nat}(H:Has fns)(hx:x≤64):fB fns (.fn 118 [] []) [.int .i64 (x:Int)] S fun r S'=>r= .int .i64 ((x * 78913 / 262144:Nat):Int)∧S'=S:=by
 have sh:eY .shr (.p .int) (.int .i64 ((x * 78913:Nat):Int)) (.int .u64 18)=some (.int .i64 ((x * 78913 / 262144:Nat):Int)):=aLT (.p .int) .u64 (n:=18) (by decide);refine bN H.f118 (by simp) ?_;simp only[↓aB,aA,rE,↓reduceIte,rA];refine bL ?_;simp only[↓aB,aA,rE,↓reduceIte];refine bL ?_;simp only[↓aB,aA,rE,↓reduceIte,show IntKind.i64.wrap ((x:Int) * 78913)=((x * 78913:Nat):Int) from aMb (b:=78913) (by omega),sh];refine aR ?_;simp only[↓aB,aA,rE,↓reduceIte]
theorem aIu{S:St}{b:Bool}(H:Has fns):fB fns (.fn 119 [] []) [.bool b] S fun r S'=>r= .int .i64 ((if b=true then 1 else 0:Nat):Int)∧S'=S:=by
 refine bN H.f119 (by simp) ?_;simp only[↓aB,aA,rE,↓reduceIte,rA];refine bL ?_;simp only[↓aB,aA,rE,↓reduceIte];refine fY ?_;simp only[↓aB,aA,rE,↓reduceIte];cases b with
 | true=>
  refine aN (by simp only[↓aB,aA,rE,↓reduceIte]) (aC (aF ?_));simp only[↓aB,aA,rE,↓reduceIte];refine aR ?_;simp only[↓aB,aA,rE,↓reduceIte]
 | false=>
  refine aL (by simp only[↓aB,aA,rE,↓reduceIte]) (aI ?_);try simp only[↓aB,aA,rE,↓reduceIte]
  refine bL ?_;simp only[↓aB,aA,rE,↓reduceIte];refine aR ?_;simp only[↓aB,aA,rE,↓reduceIte]
theorem aOb:∀b,b≤64→0<b→b * 78913 / 262144<20∧2 ^ b≤10 ^ (b * 78913 / 262144+1)∧(0<b * 78913 / 262144→10 ^ (b * 78913 / 262144 - 1)≤2 ^ (b - 1)):=by decide
theorem aDw{S:St}{u:Nat}(H:Has fns)(hL:jH S)(h0:10≤u)(hu:u≤18446744073709551615):fB fns (.fn 113 [] []) [.int .u64 (u:Int)] S fun r S'=>r= .int .i64 (((eH u).length:Nat):Int)∧(eH u).length≤20∧S'=S:=by
 obtain⟨b,hb⟩:∃b,b=bitsLen u:=⟨_,rfl⟩;have b64:b≤64:=by rw[hb];exact(bitsLen_le_iff u 64).2 (by omega)
 have b1:u<2 ^ b:=by rw[hb];exact lt_two_pow_bitsLen u
 have b0:0<b:=by
  rcases Dt b with h | h
  ·rw[h] at b1;omega
  ·exact h
 have b2:2 ^ (b - 1)≤u:=by
  have:¬bitsLen u≤b - 1:=by omega
  rw[bitsLen_le_iff] at this;omega
 obtain⟨t1,t2,t3⟩:=aOb b b64 b0;obtain⟨t,ht⟩:∃t,t=b * 78913 / 262144:=⟨_,rfl⟩;rw[←ht] at t1 t2 t3;have hlen:(eH u).length=t+(if decide (10 ^ t≤u)=true then 1 else 0):=by
  by_cases h:10 ^ t≤u
  ·rw[if_pos (Ab h)];exact aCx h (Ae b1 t2)
  ·rw[if_neg (by simpa using h),Br];cases t with
   | zero=>simp at h;omega
   | succ k=>exact aCx (Ba (t3 (by omega)) b2) (by omega)
 have ia:eJ (.arr 20 1) (.ptr 0 0) t=some (.ptr 0 (0+t * 1)):=by
  show bK (Nat.blt t 20) _ _=_;rw[show Nat.blt t 20=true from Aj t1,aP]
 have la:=aPE (p:=t) hL.1 (aJN t1);refine bN H.f113 (by simp) ?_;simp only[↓aB,aA,rE,↓reduceIte,rA];refine bL ?_;simp only[↓aB,aA,rE,↓reduceIte];refine bL ?_;simp only[↓aB,aA,rE,↓reduceIte];refine aY ?_;simp only[↓aB,aA,rE,↓reduceIte];refine aO (aDm H hu) ?_;rintro _ _ ⟨rfl,rfl⟩;rw[←hb];try simp only[↓aB,aA,rE,↓reduceIte]
 refine aY ?_;try simp only[↓aB,aA,rE,↓reduceIte]
 refine aO (aH7 H b64) ?_;rintro _ _ ⟨rfl,rfl⟩;rw[←ht];try simp only[↓aB,aA,rE,↓reduceIte]
 refine bL ?_;simp only[↓aB,aA,rE,↓reduceIte,aG,ia,la,dle];refine aY ?_;simp only[↓aB,aA,rE,↓reduceIte];refine aO (aIu H) ?_;rintro _ _ ⟨rfl,rfl⟩;have hs:(if decide (10 ^ t≤u)=true then 1 else 0:Nat)≤1:=by split<;>omega
 simp only[↓aB,aA,rE,↓reduceIte,zJ (a:=t) (b:=if decide (10 ^ t≤u)=true then 1 else 0) (by omega)];refine aR ?_;simp only[↓aB,aA,rE,↓reduceIte];rw[hlen];exact⟨rfl,by omega⟩
end Go.Ev.Gl
namespace Go.Ev.Gl
open Go.Sort
variable {fns:T cW}
def u8s(l:List Nat):List AV:=l.map fun b=>AV.int .u8 ((b:Nat):Int)
theorem aJc(l:List Nat):(u8s l).length=l.length:=by simp [u8s]
theorem pO(e:oZ){t d:Nat}(ht:t≤4294967295)(hd:0<d):eY .quo e (.int .u32 (t:Int)) (.int .u32 (d:Int))=some (.int .u32 ((t / d:Nat):Int)):=by
 show dB .quo .u32 (Int.ofNat t) .u32 (Int.ofNat d)=_;unfold dB;rw[show eE .quo=false from rfl,aU,eI,aP];show bK (Nat.beq d 0) none (some (AV.int .u32 (nat .u32 (Nat.div t d))))=_;rw[show Nat.beq d 0=false by rw[Ch];intro h;rw[Aw] at h;omega,aU,nat_eq];have h1:t / d≤t:=Nat.div_le_self t d;have h2:∀q:Nat,q≤t→IntKind.u32.wrap (q:Int)=(q:Int):=fun q hq=>wrap_u32 (by omega) (by omega);exact Ce (fun x=>some (AV.int .u32 x)) (h2 _ h1)
theorem pS(e:oZ){t d:Nat}(hd:0<d):eY .rem e (.int .u32 (t:Int)) (.int .u32 (d:Int))=some (.int .u32 ((t % d:Nat):Int)):=by
 show dB .rem .u32 (Int.ofNat t) .u32 (Int.ofNat d)=_;unfold dB;rw[show eE .rem=false from rfl,aU,eI,aP];show bK (Nat.beq d 0) none (some (AV.int .u32 (Int.ofNat (Nat.mod t d))))=_;rw[show Nat.beq d 0=false by rw[Ch];intro h;rw[Aw] at h;omega,aU];rfl
def smalls:List Nat:=(List.range 200).map fun i=>if i % 2=0 then 48+i / 2 / 10 else 48+i / 2 % 10
theorem zW{i:Nat}(h:i<200):smalls[i]?.getD 0=if i % 2=0 then 48+i / 2 / 10 else 48+i / 2 % 10:=by
 unfold smalls;rw[Bc,Dy h];rfl
theorem uI:smalls.length=200:=by simp [smalls]
set_option maxRecDepth 20000 in
theorem mM:([48,48,48,49,48,50,48,51,48,52,48,53,48,54,48,55,48,56,48,57,49,48,49,49,49,50,49,51,49,52,49,53,49,54,49,55,49,56,49,57,50,48,50,49,50,50,50,51,50,52,50,53,50,54,50,55,50,56,50,57,51,48,51,49,51,50,51,51,51,52,51,53,51,54,51,55,51,56,51,57,52,48,52,49,52,50,52,51,52,52,52,53,52,54,52,55,52,56,52,57,53,48,53,49,53,50,53,51,53,52,53,53,53,54,53,55,53,56,53,57,54,48,54,49,54,50,54,51,54,52,54,53,54,54,54,55,54,56,54,57,55,48,55,49,55,50,55,51,55,52,55,53,55,54,55,55,55,56,55,57,56,48,56,49,56,50,56,51,56,52,56,53,56,54,56,55,56,56,56,57,57,48,57,49,57,50,57,51,57,52,57,53,57,54,57,55,57,56,57,57]:List Nat)=smalls:=by decide
theorem qA{q:Nat}(h:q<100):nM (.str smalls) (q * 2)=some (.int .u8 ((48+q / 10:Nat):Int)):=by
 rw[aBF (by rw[uI];omega),zW (by omega),if_pos (by omega),Nat.mul_div_cancel _ (by omega)]
theorem qN{q:Nat}(h:q<100):nM (.str smalls) (q * 2+1)=some (.int .u8 ((48+q % 10:Nat):Int)):=by
 rw[aBF (by rw[uI];omega),zW (by omega),if_neg (by omega),show(q * 2+1) / 2=q by omega]
def mR(nd u k:Nat)(c:List AV):Prop:=c.length=24∧∀j,j<nd - k→c[nd - 1 - j]? =some (.int .u8 ((48+u / 10 ^ j % 10:Nat):Int))
theorem mR.two{nd u k w q:Nat}{c:List AV}(h:mR nd u k c)(hk:2≤k)(hn:k≤nd)(hd:nd≤24)(hw:w=u / 10 ^ (nd - k))(hq:q=w % 100):mR nd u (k - 2) ((c.set (k - 1) (.int .u8 ((48+q % 10:Nat):Int))).set (k - 2) (.int .u8 ((48+q / 10:Nat):Int))):=by
 obtain⟨h1,h2⟩:=h;refine⟨by simp [h1],fun j hj=>?_⟩;by_cases e1:j=nd - k
 ·rw[show nd - 1 - j=k - 1 by omega,List.getElem?_set_ne (by omega),List.getElem?_set_self (by omega),e1,←hw,show q % 10=w % 10 by omega]
 by_cases e2:j=nd - k+1
 ·rw[show nd - 1 - j=k - 2 by omega,List.getElem?_set_self (by simp;omega),e2,Nat.pow_succ,←Nat.div_div_eq_div_mul,←hw,show q / 10=w / 10 % 10 by omega]
 ·rw[List.getElem?_set_ne (by omega),List.getElem?_set_ne (by omega)];exact h2 j (by omega)
theorem mR.one{nd u w:Nat}{c:List AV}(h:mR nd u 1 c)(hn:1≤nd)(hd:nd≤24)(hw:w=u / 10 ^ (nd - 1))(hq:w<10):mR nd u 0 (c.set 0 (.int .u8 ((48+w:Nat):Int))):=by
 obtain⟨h1,h2⟩:=h;refine⟨by simp [h1],fun j hj=>?_⟩;by_cases e1:j=nd - 1
 ·rw[show nd - 1 - j=0 by omega,List.getElem?_set_self (by omega),e1,←hw,Nat.mod_eq_of_lt hq]
 ·rw[List.getElem?_set_ne (by omega)];exact h2 j (by omega)
theorem aFZ{X:St}{rb p:Nat}{c:List AV}{x:AV}(h:X.h.get rb=some (.cells c false 0))(hp:p<c.length):kN (.ptr rb (0+p * 1)) 1 [x] X=some (.undef,⟨X.h.set rb (some (.cells (c.set p x) false 0)),X.nx⟩):=by
 rw[Av,En];exact stc h hp
theorem pH{rb nd cap p:Nat}(h:p<nd):eJ (.slice 1) (.sl rb 0 nd cap false) p=some (.ptr rb (0+p * 1)):=by
 show bK (Nat.blt p nd) _ _=_;rw[show Nat.blt p nd=true from Aj h,aP]
theorem qR{rb base i1 i2 m1 m2 m3 p1 p2 v1 v2 s2 x2 nd cap q1 q2:Nat}{h0:Ev.T AB}{F:Fr}{X:St}{c:List AV}{b1 b2:Int}{last:Option Nat}{Q:Fr→St→List jQ→Prop}(hg:X.h.get rb=some (.cells c false 0))(hl:mE last m1=true)(hm:Nat.testBit m2 i1=true)(hp:aH p1 F= .ptr rb (0+q1 * 1))(hv1:aH v1 F= .int .u8 b1)(hv2:aH v2 F= .int .u8 b2)(hs:aH s2 F= .sl rb 0 nd cap false)(hx:aH x2 F= .int .i64 (q2:Int))(hne:v2≠p2)(h1:q1<c.length)(h2:q2<c.length)(h3:q2<nd)(hi:i2=i1+2)
  (hQ:∀Z,bB rb X Z→Z.nx=X.nx→Z.h.get rb=some (.cells ((c.set q1 (.int .u8 b1)).set q2 (.int .u8 b2)) false 0)→Q (cB (some p2) F (.ptr rb (0+q2 * 1))) Z []):
  fS fns (fun c=>c=rb) h0 base [⟨none,.x (.st 1 (.t p1) (.t v1)),none,m1⟩,⟨some p2,.q (.iaddr (.slice 1) (.t s2) (.t x2)),none,m3⟩,⟨none,.x (.st 1 (.t p2) (.t v2)),none,m2⟩] i1 F X [] last Q:=by
 have off:∀ (Y:St) (b:Option AB),aGI (fun c=>c=rb) base Y ⟨Y.h.set rb b,Y.nx⟩:=fun Y b=>⟨Ah _,fun c hc hne=>by simp only;rw[T.get_set,if_neg hne]⟩;refine uN hl (S1:=⟨X.h.set rb (some (.cells (c.set q1 (.int .u8 b1)) false 0)),X.nx⟩) ?_ ?_ ?_
 ·simp only[fV,hp,hv1,cH,aM,bT];exact aFZ hg h1
 ·simp only[bT];exact off X _
 ·have hg2:(⟨X.h.set rb (some (.cells (c.set q1 (.int .u8 b1)) false 0)),X.nx⟩:St).h.get rb=some (.cells (c.set q1 (.int .u8 b1)) false 0):=by simp only;rw[T.get_set,if_pos rfl]
  rw[aIk];simp only[oE,fV,fF,hx,hs,aG,aM,pH h3,jA,aAv,bT,Aq,false_implies,true_and];refine uN (by exact hm) (S1:=⟨(X.h.set rb (some (.cells (c.set q1 (.int .u8 b1)) false 0))).set rb (some (.cells ((c.set q1 (.int .u8 b1)).set q2 (.int .u8 b2)) false 0)),X.nx⟩) ?_ ?_ ?_
  ·simp only[fV,bQ,hne,Bw,Dx,hv2,cH,aM,bT];exact aFZ hg2 (by simpa using h2)
  ·simp only[bT];exact off ⟨X.h.set rb (some (.cells (c.set q1 (.int .u8 b1)) false 0)),X.nx⟩ _
  ·simp only[fF,bT];exact hQ _ (((bB.refl rb X).put _).put _) rfl (by simp only;rw[T.get_set,if_pos rfl])
end Go.Ev.Gl
namespace Go.Ev.Gl
open Go.Sort
variable {fns:T cW}
theorem mR.start{nd u:Nat}{c:List AV}(h:c.length=24):mR nd u nd c:=⟨h,fun j hj=>by omega⟩
theorem uE{u a b:Nat}:u / 10 ^ a / 10 ^ b=u / 10 ^ (a+b):=by rw[Nat.div_div_eq_div_mul,←Nat.pow_add]
def aPX(S:St)(rb nd u cap:Nat)(k:Nat)(A:bH)(X:St):Prop:=A.inr=false∧aH 0 A.F= .sl rb 0 nd cap false∧aH 4 A.F= .int .i64 (k:Int)∧aH 1 A.F= .int .u64 ((u / 10 ^ (nd - k):Nat):Int)∧k≤nd∧rb<X.nx∧bB rb S X∧∃c,X.h.get rb=some (.cells c false 0)∧mR nd u k c
def aPY(S:St)(rb nd u cap:Nat)(k:Nat)(A:bH)(X:St):Prop:=A.inr=false∧aH 0 A.F= .sl rb 0 nd cap false∧aH 4 A.F= .int .i64 (k:Int)∧aH 12 A.F= .int .u32 ((u / 10 ^ (nd - k):Nat):Int)∧k≤nd∧rb<X.nx∧bB rb S X∧∃c,X.h.get rb=some (.cells c false 0)∧mR nd u k c
set_option maxRecDepth 10000 in
theorem aKY{S:St}{rb nd u cap:Nat}{c:List AV}(H:Has fns)(hg:S.h.get rb=some (.cells c false 0))(hc:c.length=24)(hlt:rb<S.nx)(hn:nd≤20)(hu:u<10 ^ nd)(hu2:u≤18446744073709551615):fB fns (.fn 114 [] []) [.sl rb 0 nd cap false,.int .u64 (u:Int)] S fun _ S'=>bB rb S S'∧∃c,S'.h.get rb=some (.cells c false 0)∧mR nd u 0 c:=by
 have hle:kJ (.sl rb 0 nd cap false)=some (.int .i64 (nd:Int)):=rfl;refine bN H.f114 (by simp) ?_;simp only[↓aB,aA,rE,↓reduceIte,rA];refine bL ?_;simp only[↓aB,aA,rE,↓reduceIte,hle];refine aC (aT (Q:=fun o A' X=>o= .normal∧∃k,k<8∧aPX S rb nd u cap k A' X) (aK (bG (aPX S rb nd u cap) ?_ nd _ _ ⟨rfl,by simp only[↓aB,aA,rE,↓reduceIte],by simp only[↓aB,aA,rE,↓reduceIte],by simp only[↓aB,aA,rE,↓reduceIte,De,Nat.pow_zero,Nat.div_one],Ah _,hlt,bB.refl _ _,c,hg,mR.start hc⟩)) ?_)
 ·clear hg hlt hc c;rintro k ⟨F,inr⟩ X ⟨q0,p0,p4,p1,hk,hlt,hX,c,hg,hd⟩;simp only at q0 p0 p4 p1;subst q0;refine fY ?_;simp only[↓aB,aA,rE,↓reduceIte,p4];by_cases h8:8≤k;rotate_left
  ·refine aL (by simp only[↓aB,aA,rE,↓reduceIte,Aa (show ¬ (8:Int)≤(k:Int) by omega)]) (bD ?_);exact⟨rfl,k,by omega,rfl,by simp only[↓aB,aA,rE,↓reduceIte,p0],by simp only[↓aB,aA,rE,↓reduceIte,p4],by simp only[↓aB,aA,rE,↓reduceIte,p1],hk,hlt,hX,c,hg,hd⟩
  refine aN (by simp only[↓aB,aA,rE,↓reduceIte,Ab (show(8:Int)≤(k:Int) by omega)]) (aI ?_);try simp only[↓aB,aA,rE,↓reduceIte]
  obtain⟨r,rfl⟩:∃r,k=r+8:=⟨k - 8,by omega⟩;obtain⟨w,hw⟩:∃w,w=u / 10 ^ (nd - (r+8)):=⟨_,rfl⟩;have hwu:w≤u:=by rw[hw];exact Nat.div_le_self _ _
  have w2:w / 10 ^ 2=u / 10 ^ (nd - (r+6)):=by rw[hw,uE,show nd - (r+8)+2=nd - (r+6) by omega]
  have w4:w / 10 ^ 4=u / 10 ^ (nd - (r+4)):=by rw[hw,uE,show nd - (r+8)+4=nd - (r+4) by omega]
  have w6:w / 10 ^ 6=u / 10 ^ (nd - (r+2)):=by rw[hw,uE,show nd - (r+8)+6=nd - (r+2) by omega]
  have w8:w / 10 ^ 8=u / 10 ^ (nd - r):=by rw[hw,uE,show nd - (r+8)+8=nd - r by omega]
  rw[←hw] at p1;obtain⟨x,hx⟩:∃x,x=w % 100000000:=⟨_,rfl⟩;have r1:eY .rem (.p .int) (.int .u64 (w:Int)) (.int .u64 100000000)=some (.int .u64 (x:Int)):=by rw[hx];exact aGm (.p .int) (d:=100000000) (by omega)
  have r2:eY .quo (.p .int) (.int .u64 (w:Int)) (.int .u64 100000000)=some (.int .u64 ((w / 10 ^ 8:Nat):Int)):=aHa (.p .int) (d:=100000000) (by omega) (by omega);obtain⟨a,ha⟩:∃a,a=x / 10000:=⟨_,rfl⟩;obtain⟨b,hb⟩:∃b,b=x % 10000:=⟨_,rfl⟩;have r3:eY .quo (.p .int) (.int .u32 (x:Int)) (.int .u32 10000)=some (.int .u32 (a:Int)):=by rw[ha];exact pO (.p .int) (d:=10000) (by omega) (by omega)
  have r4:eY .rem (.p .int) (.int .u32 (x:Int)) (.int .u32 10000)=some (.int .u32 (b:Int)):=by rw[hb];exact pS (.p .int) (d:=10000) (by omega)
  obtain⟨b1,hb1⟩:∃b1,b1=b / 100:=⟨_,rfl⟩;obtain⟨b0,hb0⟩:∃b0,b0=b % 100:=⟨_,rfl⟩;obtain⟨a1,ha1⟩:∃a1,a1=a / 100:=⟨_,rfl⟩;obtain⟨a0,ha0⟩:∃a0,a0=a % 100:=⟨_,rfl⟩;have r5:eY .quo (.p .int) (.int .u32 (b:Int)) (.int .u32 100)=some (.int .u32 (b1:Int)):=by rw[hb1];exact pO (.p .int) (d:=100) (by omega) (by omega)
  have r6:eY .rem (.p .int) (.int .u32 (b:Int)) (.int .u32 100)=some (.int .u32 (b0:Int)):=by rw[hb0];exact pS (.p .int) (d:=100) (by omega)
  have r7:eY .quo (.p .int) (.int .u32 (a:Int)) (.int .u32 100)=some (.int .u32 (a1:Int)):=by rw[ha1];exact pO (.p .int) (d:=100) (by omega) (by omega)
  have r8:eY .rem (.p .int) (.int .u32 (a:Int)) (.int .u32 100)=some (.int .u32 (a0:Int)):=by rw[ha0];exact pS (.p .int) (d:=100) (by omega)
  have m2:∀q:Nat,q<100→IntKind.u32.wrap ((q:Int) * 2)=((q * 2:Nat):Int):=fun q hq=>by rw[wrap_u32 (by omega) (by omega)];omega
  have q1:b0=w % 100:=by omega
  have q2:b1=w / 10 ^ 2 % 100:=by omega
  have q3:a0=w / 10 ^ 4 % 100:=by omega
  have q4:a1=w / 10 ^ 6 % 100:=by omega
  refine aK (aC (aF ?_));simp only[↓aB,aA,rE,↓reduceIte,p1,r1,wrap_u32 (n:=(x:Int)) (by omega) (by omega)];refine bL ?_;simp only[↓aB,aA,rE,↓reduceIte,p1,r2];refine bL ?_;simp only[↓aB,aA,rE,↓reduceIte,r3,r4];refine bL ?_;simp only[↓aB,aA,rE,↓reduceIte,r5,r6,m2 b1 (by omega),m2 b0 (by omega)];refine bL ?_;simp only[↓aB,aA,rE,↓reduceIte,r7,r8,m2 a1 (by omega),m2 a0 (by omega)];refine aC (dM (fun c=>c=rb) ?_);intro X1 x1;have hs1:=hX.trans (lJ x1);have hg1:=(x1.2 _ hlt).trans hg;have hlt1:=Ae hlt x1.1;simp only[↓sU,sD,rE,↓reduceIte,rA,p0,p4,mM,kH,gG,show IntKind.i64.wrap (((r+8:Nat):Int) - 1)=((r+7:Nat):Int) from mN (a:=r+8) (b:=1) (by omega) (by omega),show IntKind.i64.wrap (((r+8:Nat):Int) - 2)=((r+6:Nat):Int) from mN (a:=r+8) (b:=2) (by omega) (by omega),show IntKind.u32.wrap (((b0 * 2:Nat):Int)+1)=((b0 * 2+1:Nat):Int) by rw[wrap_u32 (by omega) (by omega)];omega,aG,qA (q:=b0) (by omega),qN (q:=b0) (by omega),pH (cap:=cap) (rb:=rb) (show r+7<nd by omega)];refine qR (q1:=r+7) (q2:=r+6) (nd:=nd) (cap:=cap) (b1:=((48+b0 % 10:Nat):Int)) (b2:=((48+b0 / 10:Nat):Int)) hg1 rfl (by rfl) (by simp only[↓sU,sD,rE,↓reduceIte,rA]) (by simp only[↓sU,sD,rE,↓reduceIte,rA]) (by simp only[↓sU,sD,rE,↓reduceIte,rA]) (by simp only[↓sU,sD,rE,↓reduceIte,rA,p0]) (by simp only[↓sU,sD,rE,↓reduceIte,rA]) (by decide) (by have:=hd.1;omega) (by have:=hd.1;omega) (by omega) rfl ?_;clear hg hX hlt;intro X hz nz hg;have hX:=hs1.trans hz;have hlt:=Ae hlt1 hz.1;clear hs1 hg1 hlt1 x1 nz hz X1;have hd:mR nd u (r+6) ((c.set (r+7) (.int .u8 ((48+b0 % 10:Nat):Int))).set (r+6) (.int .u8 ((48+b0 / 10:Nat):Int))):=mR.two (k:=r+8) (w:=w) (q:=b0) hd (by omega) (by omega) (by omega) hw (by omega);obtain⟨c,hc⟩:∃c',c'=(c.set (r+7) (.int .u8 ((48+b0 % 10:Nat):Int))).set (r+6) (.int .u8 ((48+b0 / 10:Nat):Int)):=⟨_,rfl⟩;rw[←hc] at hg hd;clear hc;try simp only[↓sU,sD,rE,↓reduceIte,rA]
  refine aC (dM (fun c=>c=rb) ?_);intro X1 x1;have hs1:=hX.trans (lJ x1);have hg1:=(x1.2 _ hlt).trans hg;have hlt1:=Ae hlt x1.1;simp only[↓sU,sD,rE,↓reduceIte,rA,p0,p4,mM,kH,gG,show IntKind.i64.wrap (((r+8:Nat):Int) - 3)=((r+5:Nat):Int) from mN (a:=r+8) (b:=3) (by omega) (by omega),show IntKind.i64.wrap (((r+8:Nat):Int) - 4)=((r+4:Nat):Int) from mN (a:=r+8) (b:=4) (by omega) (by omega),show IntKind.u32.wrap (((b1 * 2:Nat):Int)+1)=((b1 * 2+1:Nat):Int) by rw[wrap_u32 (by omega) (by omega)];omega,aG,qA (q:=b1) (by omega),qN (q:=b1) (by omega),pH (cap:=cap) (rb:=rb) (show r+5<nd by omega)];refine qR (q1:=r+5) (q2:=r+4) (nd:=nd) (cap:=cap) (b1:=((48+b1 % 10:Nat):Int)) (b2:=((48+b1 / 10:Nat):Int)) hg1 rfl (by rfl) (by simp only[↓sU,sD,rE,↓reduceIte,rA]) (by simp only[↓sU,sD,rE,↓reduceIte,rA]) (by simp only[↓sU,sD,rE,↓reduceIte,rA]) (by simp only[↓sU,sD,rE,↓reduceIte,rA,p0]) (by simp only[↓sU,sD,rE,↓reduceIte,rA]) (by decide) (by have:=hd.1;omega) (by have:=hd.1;omega) (by omega) rfl ?_;clear hg hX hlt;intro X hz nz hg;have hX:=hs1.trans hz;have hlt:=Ae hlt1 hz.1;clear hs1 hg1 hlt1 x1 nz hz X1;have hd:mR nd u (r+4) ((c.set (r+5) (.int .u8 ((48+b1 % 10:Nat):Int))).set (r+4) (.int .u8 ((48+b1 / 10:Nat):Int))):=mR.two (k:=r+6) (w:=(w / 10 ^ 2)) (q:=b1) hd (by omega) (by omega) (by omega) w2 (by omega);obtain⟨c,hc⟩:∃c',c'=(c.set (r+5) (.int .u8 ((48+b1 % 10:Nat):Int))).set (r+4) (.int .u8 ((48+b1 / 10:Nat):Int)):=⟨_,rfl⟩;rw[←hc] at hg hd;clear hc;try simp only[↓sU,sD,rE,↓reduceIte,rA]
  refine aC (dM (fun c=>c=rb) ?_);intro X1 x1;have hs1:=hX.trans (lJ x1);have hg1:=(x1.2 _ hlt).trans hg;have hlt1:=Ae hlt x1.1;simp only[↓sU,sD,rE,↓reduceIte,rA,p0,p4,mM,kH,gG,show IntKind.i64.wrap (((r+8:Nat):Int) - 5)=((r+3:Nat):Int) from mN (a:=r+8) (b:=5) (by omega) (by omega),show IntKind.i64.wrap (((r+8:Nat):Int) - 6)=((r+2:Nat):Int) from mN (a:=r+8) (b:=6) (by omega) (by omega),show IntKind.u32.wrap (((a0 * 2:Nat):Int)+1)=((a0 * 2+1:Nat):Int) by rw[wrap_u32 (by omega) (by omega)];omega,aG,qA (q:=a0) (by omega),qN (q:=a0) (by omega),pH (cap:=cap) (rb:=rb) (show r+3<nd by omega)];refine qR (q1:=r+3) (q2:=r+2) (nd:=nd) (cap:=cap) (b1:=((48+a0 % 10:Nat):Int)) (b2:=((48+a0 / 10:Nat):Int)) hg1 rfl (by rfl) (by simp only[↓sU,sD,rE,↓reduceIte,rA]) (by simp only[↓sU,sD,rE,↓reduceIte,rA]) (by simp only[↓sU,sD,rE,↓reduceIte,rA]) (by simp only[↓sU,sD,rE,↓reduceIte,rA,p0]) (by simp only[↓sU,sD,rE,↓reduceIte,rA]) (by decide) (by have:=hd.1;omega) (by have:=hd.1;omega) (by omega) rfl ?_;clear hg hX hlt;intro X hz nz hg;have hX:=hs1.trans hz;have hlt:=Ae hlt1 hz.1;clear hs1 hg1 hlt1 x1 nz hz X1;have hd:mR nd u (r+2) ((c.set (r+3) (.int .u8 ((48+a0 % 10:Nat):Int))).set (r+2) (.int .u8 ((48+a0 / 10:Nat):Int))):=mR.two (k:=r+4) (w:=(w / 10 ^ 4)) (q:=a0) hd (by omega) (by omega) (by omega) w4 (by omega);obtain⟨c,hc⟩:∃c',c'=(c.set (r+3) (.int .u8 ((48+a0 % 10:Nat):Int))).set (r+2) (.int .u8 ((48+a0 / 10:Nat):Int)):=⟨_,rfl⟩;rw[←hc] at hg hd;clear hc;try simp only[↓sU,sD,rE,↓reduceIte,rA]
  refine aC (dM (fun c=>c=rb) ?_);intro X1 x1;have hs1:=hX.trans (lJ x1);have hg1:=(x1.2 _ hlt).trans hg;have hlt1:=Ae hlt x1.1;simp only[↓sU,sD,rE,↓reduceIte,rA,p0,p4,mM,kH,gG,show IntKind.i64.wrap (((r+8:Nat):Int) - 7)=((r+1:Nat):Int) from mN (a:=r+8) (b:=7) (by omega) (by omega),show IntKind.i64.wrap (((r+8:Nat):Int) - 8)=((r:Nat):Int) from mN (a:=r+8) (b:=8) (by omega) (by omega),show IntKind.u32.wrap (((a1 * 2:Nat):Int)+1)=((a1 * 2+1:Nat):Int) by rw[wrap_u32 (by omega) (by omega)];omega,aG,qA (q:=a1) (by omega),qN (q:=a1) (by omega),pH (cap:=cap) (rb:=rb) (show r+1<nd by omega)];refine qR (q1:=r+1) (q2:=r) (nd:=nd) (cap:=cap) (b1:=((48+a1 % 10:Nat):Int)) (b2:=((48+a1 / 10:Nat):Int)) hg1 rfl (by rfl) (by simp only[↓sU,sD,rE,↓reduceIte,rA]) (by simp only[↓sU,sD,rE,↓reduceIte,rA]) (by simp only[↓sU,sD,rE,↓reduceIte,rA]) (by simp only[↓sU,sD,rE,↓reduceIte,rA,p0]) (by simp only[↓sU,sD,rE,↓reduceIte,rA]) (by decide) (by have:=hd.1;omega) (by have:=hd.1;omega) (by omega) rfl ?_;clear hg hX hlt;intro X hz nz hg;have hX:=hs1.trans hz;have hlt:=Ae hlt1 hz.1;clear hs1 hg1 hlt1 x1 nz hz X1;have hd:mR nd u (r) ((c.set (r+1) (.int .u8 ((48+a1 % 10:Nat):Int))).set (r) (.int .u8 ((48+a1 / 10:Nat):Int))):=mR.two (k:=r+2) (w:=(w / 10 ^ 6)) (q:=a1) hd (by omega) (by omega) (by omega) w6 (by omega);obtain⟨c,hc⟩:∃c',c'=(c.set (r+1) (.int .u8 ((48+a1 % 10:Nat):Int))).set (r) (.int .u8 ((48+a1 / 10:Nat):Int)):=⟨_,rfl⟩;rw[←hc] at hg hd;clear hc;try simp only[↓sU,sD,rE,↓reduceIte,rA]
  refine aF ?_;simp only[↓aB,aA,rE,↓reduceIte,p4,show IntKind.i64.wrap (((r+8:Nat):Int) - 8)=(r:Int) from mN (a:=r+8) (b:=8) (by omega) (by omega)];exact⟨r,by omega,rfl,by simp only[↓aB,aA,rE,↓reduceIte,p0],by simp only[↓aB,aA,rE,↓reduceIte],by simp only[↓aB,aA,rE,↓reduceIte,w8],by omega,hlt,hX,c,hg,hd⟩
 clear hg hlt hc c;rintro o ⟨F,inr⟩ X ⟨rfl,k,hk8,q0,p0,p4,p1,hk,hlt,hX,c,hg,hd⟩;simp only at q0 p0 p4 p1;subst q0;have hsm:∀k,k≤nd→u / 10 ^ (nd - k)<10 ^ k:=fun k hk=>by
  rw[Nat.div_lt_iff_lt_mul (Nat.pow_pos (by decide)),←Nat.pow_add,show k+(nd - k)=nd by omega];exact hu
 obtain⟨w,hw⟩:∃w,w=u / 10 ^ (nd - k):=⟨_,rfl⟩;have hw7:w<10 ^ 7:=by
  rw[hw];exact Ae (hsm k hk) (Nat.pow_le_pow_right (by decide) (by omega))
 rw[←hw] at p1;try simp only[↓aB,aA,rE,↓reduceIte]
 refine bL ?_;simp only[↓aB,aA,rE,↓reduceIte,p1,wrap_u32 (n:=(w:Int)) (by omega) (by omega)];refine aC (aT (Q:=fun o A' X=>o= .normal∧∃k,k<4∧aPY S rb nd u cap k A' X) (aC (aF ?_)) ?_)
 ·simp only[↓aB,aA,rE,↓reduceIte,p4];by_cases h4:4≤k;rotate_left
  ·refine aL (by simp only[↓aB,aA,rE,↓reduceIte,Aa (show ¬ (4:Int)≤(k:Int) by omega)]) (aI ?_);exact⟨rfl,k,by omega,rfl,by simp only[↓aB,aA,rE,↓reduceIte,p0],by simp only[↓aB,aA,rE,↓reduceIte,p4],by simp only[↓aB,aA,rE,↓reduceIte,hw],hk,hlt,hX,c,hg,hd⟩
  refine aN (by simp only[↓aB,aA,rE,↓reduceIte,Ab (show(4:Int)≤(k:Int) by omega)]) ?_;obtain⟨r,rfl⟩:∃r,k=r+4:=⟨k - 4,by omega⟩;have w2:w / 10 ^ 2=u / 10 ^ (nd - (r+2)):=by rw[hw,uE,show nd - (r+4)+2=nd - (r+2) by omega]
  have w4:w / 10 ^ 4=u / 10 ^ (nd - r):=by rw[hw,uE,show nd - (r+4)+4=nd - r by omega]
  obtain⟨b,hb⟩:∃b,b=w % 10000:=⟨_,rfl⟩;have r1:eY .rem (.p .int) (.int .u32 (w:Int)) (.int .u32 10000)=some (.int .u32 (b:Int)):=by rw[hb];exact pS (.p .int) (d:=10000) (by omega)
  have r2:eY .quo (.p .int) (.int .u32 (w:Int)) (.int .u32 10000)=some (.int .u32 ((w / 10 ^ 4:Nat):Int)):=pO (.p .int) (d:=10000) (by omega) (by omega);obtain⟨b1,hb1⟩:∃b1,b1=b / 100:=⟨_,rfl⟩;obtain⟨b0,hb0⟩:∃b0,b0=b % 100:=⟨_,rfl⟩;have r5:eY .quo (.p .int) (.int .u32 (b:Int)) (.int .u32 100)=some (.int .u32 (b1:Int)):=by rw[hb1];exact pO (.p .int) (d:=100) (by omega) (by omega)
  have r6:eY .rem (.p .int) (.int .u32 (b:Int)) (.int .u32 100)=some (.int .u32 (b0:Int)):=by rw[hb0];exact pS (.p .int) (d:=100) (by omega)
  have m2:∀q:Nat,q<100→IntKind.u32.wrap ((q:Int) * 2)=((q * 2:Nat):Int):=fun q hq=>by rw[wrap_u32 (by omega) (by omega)];omega
  have q1:b0=w % 100:=by omega
  have q2:b1=w / 10 ^ 2 % 100:=by omega
  refine bL ?_;simp only[↓aB,aA,rE,↓reduceIte,r1];refine bL ?_;simp only[↓aB,aA,rE,↓reduceIte,r2];refine bL ?_;simp only[↓aB,aA,rE,↓reduceIte,r5,r6,m2 b1 (by omega),m2 b0 (by omega)];refine aC (dM (fun c=>c=rb) ?_);intro X1 x1;have hs1:=hX.trans (lJ x1);have hg1:=(x1.2 _ hlt).trans hg;have hlt1:=Ae hlt x1.1;simp only[↓sU,sD,rE,↓reduceIte,rA,p0,p4,mM,kH,gG,show IntKind.i64.wrap (((r+4:Nat):Int) - 1)=((r+3:Nat):Int) from mN (a:=r+4) (b:=1) (by omega) (by omega),show IntKind.i64.wrap (((r+4:Nat):Int) - 2)=((r+2:Nat):Int) from mN (a:=r+4) (b:=2) (by omega) (by omega),show IntKind.u32.wrap (((b0 * 2:Nat):Int)+1)=((b0 * 2+1:Nat):Int) by rw[wrap_u32 (by omega) (by omega)];omega,aG,qA (q:=b0) (by omega),qN (q:=b0) (by omega),pH (cap:=cap) (rb:=rb) (show r+3<nd by omega)];refine qR (q1:=r+3) (q2:=r+2) (nd:=nd) (cap:=cap) (b1:=((48+b0 % 10:Nat):Int)) (b2:=((48+b0 / 10:Nat):Int)) hg1 rfl (by rfl) (by simp only[↓sU,sD,rE,↓reduceIte,rA]) (by simp only[↓sU,sD,rE,↓reduceIte,rA]) (by simp only[↓sU,sD,rE,↓reduceIte,rA]) (by simp only[↓sU,sD,rE,↓reduceIte,rA,p0]) (by simp only[↓sU,sD,rE,↓reduceIte,rA]) (by decide) (by have:=hd.1;omega) (by have:=hd.1;omega) (by omega) rfl ?_;clear hg hX hlt;intro X hz nz hg;have hX:=hs1.trans hz;have hlt:=Ae hlt1 hz.1;clear hs1 hg1 hlt1 x1 nz hz X1;have hd:mR nd u (r+2) ((c.set (r+3) (.int .u8 ((48+b0 % 10:Nat):Int))).set (r+2) (.int .u8 ((48+b0 / 10:Nat):Int))):=mR.two (k:=r+4) (w:=w) (q:=b0) hd (by omega) (by omega) (by omega) hw (by omega);obtain⟨c,hc⟩:∃c',c'=(c.set (r+3) (.int .u8 ((48+b0 % 10:Nat):Int))).set (r+2) (.int .u8 ((48+b0 / 10:Nat):Int)):=⟨_,rfl⟩;rw[←hc] at hg hd;clear hc;try simp only[↓sU,sD,rE,↓reduceIte,rA]
  refine aC (dM (fun c=>c=rb) ?_);intro X1 x1;have hs1:=hX.trans (lJ x1);have hg1:=(x1.2 _ hlt).trans hg;have hlt1:=Ae hlt x1.1;simp only[↓sU,sD,rE,↓reduceIte,rA,p0,p4,mM,kH,gG,show IntKind.i64.wrap (((r+4:Nat):Int) - 3)=((r+1:Nat):Int) from mN (a:=r+4) (b:=3) (by omega) (by omega),show IntKind.i64.wrap (((r+4:Nat):Int) - 4)=((r:Nat):Int) from mN (a:=r+4) (b:=4) (by omega) (by omega),show IntKind.u32.wrap (((b1 * 2:Nat):Int)+1)=((b1 * 2+1:Nat):Int) by rw[wrap_u32 (by omega) (by omega)];omega,aG,qA (q:=b1) (by omega),qN (q:=b1) (by omega),pH (cap:=cap) (rb:=rb) (show r+1<nd by omega)];refine qR (q1:=r+1) (q2:=r) (nd:=nd) (cap:=cap) (b1:=((48+b1 % 10:Nat):Int)) (b2:=((48+b1 / 10:Nat):Int)) hg1 rfl (by rfl) (by simp only[↓sU,sD,rE,↓reduceIte,rA]) (by simp only[↓sU,sD,rE,↓reduceIte,rA]) (by simp only[↓sU,sD,rE,↓reduceIte,rA]) (by simp only[↓sU,sD,rE,↓reduceIte,rA,p0]) (by simp only[↓sU,sD,rE,↓reduceIte,rA]) (by decide) (by have:=hd.1;omega) (by have:=hd.1;omega) (by omega) rfl ?_;clear hg hX hlt;intro X hz nz hg;have hX:=hs1.trans hz;have hlt:=Ae hlt1 hz.1;clear hs1 hg1 hlt1 x1 nz hz X1;have hd:mR nd u (r) ((c.set (r+1) (.int .u8 ((48+b1 % 10:Nat):Int))).set (r) (.int .u8 ((48+b1 / 10:Nat):Int))):=mR.two (k:=r+2) (w:=(w / 10 ^ 2)) (q:=b1) hd (by omega) (by omega) (by omega) w2 (by omega);obtain⟨c,hc⟩:∃c',c'=(c.set (r+1) (.int .u8 ((48+b1 % 10:Nat):Int))).set (r) (.int .u8 ((48+b1 / 10:Nat):Int)):=⟨_,rfl⟩;rw[←hc] at hg hd;clear hc;try simp only[↓sU,sD,rE,↓reduceIte,rA]
  refine aF ?_;simp only[↓aB,aA,rE,↓reduceIte,p4,show IntKind.i64.wrap (((r+4:Nat):Int) - 4)=(r:Int) from mN (a:=r+4) (b:=4) (by omega) (by omega)];exact⟨r,by omega,rfl,by simp only[↓aB,aA,rE,↓reduceIte,p0],by simp only[↓aB,aA,rE,↓reduceIte],by simp only[↓aB,aA,rE,↓reduceIte,w4],by omega,hlt,hX,c,hg,hd⟩
 clear p0 p4 p1 hk hk8 hlt hX hg hd hw hw7 c w;rintro o ⟨F,inr⟩ X ⟨rfl,k,hk4,q0,p0,p4,p12,hk,hlt,hX,c,hg,hd⟩;simp only at q0 p0 p4 p12;subst q0;obtain⟨w,hw⟩:∃w,w=u / 10 ^ (nd - k):=⟨_,rfl⟩;have hw7:w<10 ^ 3:=by
  rw[hw];exact Ae (hsm k hk) (Nat.pow_le_pow_right (by decide) (by omega))
 rw[←hw] at p12;try simp only[↓aB,aA,rE,↓reduceIte]
 refine aC (aT (Q:=fun o A' X=>o= .normal∧∃k,k<2∧aPY S rb nd u cap k A' X) (aC (aF ?_)) ?_)
 ·simp only[↓aB,aA,rE,↓reduceIte,p4];by_cases h2:2≤k;rotate_left
  ·refine aL (by simp only[↓aB,aA,rE,↓reduceIte,Aa (show ¬ (2:Int)≤(k:Int) by omega)]) (aI ?_);exact⟨rfl,k,by omega,rfl,by simp only[↓aB,aA,rE,↓reduceIte,p0],by simp only[↓aB,aA,rE,↓reduceIte,p4],by simp only[↓aB,aA,rE,↓reduceIte,p12,hw],hk,hlt,hX,c,hg,hd⟩
  refine aN (by simp only[↓aB,aA,rE,↓reduceIte,Ab (show(2:Int)≤(k:Int) by omega)]) ?_;obtain⟨r,rfl⟩:∃r,k=r+2:=⟨k - 2,by omega⟩;have w2:w / 10 ^ 2=u / 10 ^ (nd - r):=by rw[hw,uE,show nd - (r+2)+2=nd - r by omega]
  obtain⟨b,hb⟩:∃b,b=w % 100:=⟨_,rfl⟩;have r1:eY .rem (.p .int) (.int .u32 (w:Int)) (.int .u32 100)=some (.int .u32 (b:Int)):=by rw[hb];exact pS (.p .int) (d:=100) (by omega)
  have r2:eY .quo (.p .int) (.int .u32 (w:Int)) (.int .u32 100)=some (.int .u32 ((w / 10 ^ 2:Nat):Int)):=pO (.p .int) (d:=100) (by omega) (by omega);have m2:∀q:Nat,q<100→IntKind.u32.wrap ((q:Int) * 2)=((q * 2:Nat):Int):=fun q hq=>by rw[wrap_u32 (by omega) (by omega)];omega
  refine bL ?_;simp only[↓aB,aA,rE,↓reduceIte,p12,r1,m2 b (by omega)];refine bL ?_;simp only[↓aB,aA,rE,↓reduceIte,p12,r2];refine aC (dM (fun c=>c=rb) ?_);intro X1 x1;have hs1:=hX.trans (lJ x1);have hg1:=(x1.2 _ hlt).trans hg;have hlt1:=Ae hlt x1.1;simp only[↓sU,sD,rE,↓reduceIte,rA,p0,p4,mM,kH,gG,show IntKind.i64.wrap (((r+2:Nat):Int) - 1)=((r+1:Nat):Int) from mN (a:=r+2) (b:=1) (by omega) (by omega),show IntKind.i64.wrap (((r+2:Nat):Int) - 2)=((r:Nat):Int) from mN (a:=r+2) (b:=2) (by omega) (by omega),show IntKind.u32.wrap (((b * 2:Nat):Int)+1)=((b * 2+1:Nat):Int) by rw[wrap_u32 (by omega) (by omega)];omega,aG,qA (q:=b) (by omega),qN (q:=b) (by omega),pH (cap:=cap) (rb:=rb) (show r+1<nd by omega)];refine qR (q1:=r+1) (q2:=r) (nd:=nd) (cap:=cap) (b1:=((48+b % 10:Nat):Int)) (b2:=((48+b / 10:Nat):Int)) hg1 rfl (by rfl) (by simp only[↓sU,sD,rE,↓reduceIte,rA]) (by simp only[↓sU,sD,rE,↓reduceIte,rA]) (by simp only[↓sU,sD,rE,↓reduceIte,rA]) (by simp only[↓sU,sD,rE,↓reduceIte,rA,p0]) (by simp only[↓sU,sD,rE,↓reduceIte,rA]) (by decide) (by have:=hd.1;omega) (by have:=hd.1;omega) (by omega) rfl ?_;clear hg hX hlt;intro X hz nz hg;have hX:=hs1.trans hz;have hlt:=Ae hlt1 hz.1;clear hs1 hg1 hlt1 x1 nz hz X1;have hd:mR nd u (r) ((c.set (r+1) (.int .u8 ((48+b % 10:Nat):Int))).set (r) (.int .u8 ((48+b / 10:Nat):Int))):=mR.two (k:=r+2) (w:=w) (q:=b) hd (by omega) (by omega) (by omega) hw (by omega);obtain⟨c,hc⟩:∃c',c'=(c.set (r+1) (.int .u8 ((48+b % 10:Nat):Int))).set (r) (.int .u8 ((48+b / 10:Nat):Int)):=⟨_,rfl⟩;rw[←hc] at hg hd;clear hc;try simp only[↓sU,sD,rE,↓reduceIte,rA]
  refine aF ?_;simp only[↓aB,aA,rE,↓reduceIte,p4,show IntKind.i64.wrap (((r+2:Nat):Int) - 2)=(r:Int) from mN (a:=r+2) (b:=2) (by omega) (by omega)];exact⟨r,by omega,rfl,by simp only[↓aB,aA,rE,↓reduceIte,p0],by simp only[↓aB,aA,rE,↓reduceIte],by simp only[↓aB,aA,rE,↓reduceIte,w2],by omega,hlt,hX,c,hg,hd⟩
 clear p0 p4 p12 hk hk4 hlt hX hg hd hw hw7 c w;rintro o ⟨F,inr⟩ X ⟨rfl,k,hk2,q0,p0,p4,p12,hk,hlt,hX,c,hg,hd⟩;simp only at q0 p0 p4 p12;subst q0;obtain⟨w,hw⟩:∃w,w=u / 10 ^ (nd - k):=⟨_,rfl⟩;have hw7:w<10 ^ k:=by
  rw[hw];exact hsm k hk
 rw[←hw] at p12;try simp only[↓aB,aA,rE,↓reduceIte]
 refine aT (Q:=fun o A' X=>o= .normal∧bB rb S X∧∃c,X.h.get rb=some (.cells c false 0)∧mR nd u 0 c) (aC (aF ?_)) fun o A' X h=>by
  obtain⟨rfl,h⟩:=h;exact⟨_,rfl,h⟩
 simp only[↓aB,aA,rE,↓reduceIte,p4];by_cases h1:0<k;rotate_left
 ·have e:k=0:=by omega
  subst e;refine aL (by simp only[↓aB,aA,rE,↓reduceIte];rfl) (aI ?_);exact⟨rfl,hX,c,hg,hd⟩
 have e:k=1:=by omega
 subst e;have hw10:w<10:=by simpa using hw7
 refine aN (by simp only[↓aB,aA,rE,↓reduceIte];rfl) (aF ?_);have i0:=pH (cap:=cap) (rb:=rb) (show 0<nd by omega);simp only[↓aB,aA,rE,↓reduceIte,p0,p12,show IntKind.u32.wrap (48+(w:Int))=((48+w:Nat):Int) by rw[wrap_u32 (by omega) (by omega)];omega,aGR (n:=48+w) (by omega),nF,Int.toNat_zero,Int.le_refl,i0];refine eT (v:=.undef) (fun call=>by rw[dN];simp only[↓aB,aA,rE,↓reduceIte,cH];exact aFZ hg (by have:=hd.1;omega)) ?_;simp only[↓aB,aA,rE,↓reduceIte];refine⟨hX.put _,c.set 0 (.int .u8 ((48+w:Nat):Int)),by rw[T.get_set,if_pos rfl],mR.one hd hk (by omega) hw hw10⟩
end Go.Ev.Gl
namespace Go.Ev.Gl
open Go.Sort
variable {fns:T cW}
theorem aHS{i:Nat}(h:i<100)(h2:¬i<10):(smalls.take (i * 2+2)).drop (i * 2)=eH i:=by
 have e1:eH i= [48+i / 10,48+i % 10]:=by
  rw[eH,dif_neg h2,eH,dif_pos (by omega)];rfl
 have g:∀j,j<200→smalls[j]? =some (if j % 2=0 then 48+j / 2 / 10 else 48+j / 2 % 10):=fun j hj=>by
  have:=zW hj;rw[Ad (by rw[uI];exact hj)] at this ⊢;simpa using this
 rw[e1];refine List.ext_getElem? fun j=>?_;rw[Er,List.getElem?_take]
 match j with
 | 0=>
  rw[if_pos (by omega),Br,g _ (by omega),if_pos (by omega),Nat.mul_div_cancel _ (by omega)];rfl
 | 1=>
  rw[if_pos (by omega),g _ (by omega),if_neg (by omega),show(i * 2+1) / 2=i by omega];rfl
 | j+2=>rw[if_neg (by omega)];rfl
def aOn:List Nat:=[48,49,50,51,52,53,54,55,56,57,97,98,99,100,101,102,103,104,105,106,107,108,109,110,111,112,113,114,115,116,117,118,119,120,121,122]
theorem aMm{i:Nat}(h:i<10):(aOn.take (i+1)).drop i=eH i:=by
 rw[eH,dif_pos h];revert i;decide
theorem aId{S:St}{i:Nat}(H:Has fns)(h:i<100):fB fns (.fn 112 [] []) [.int .i64 (i:Int)] S fun r S'=>r= .str (eH i)∧S'=S:=by
 refine bN H.f112 (by simp) ?_;simp only[↓aB,aA,rE,↓reduceIte,rA];refine bL ?_;simp only[↓aB,aA,rE,↓reduceIte];refine fY ?_;simp only[↓aB,aA,rE,↓reduceIte];by_cases h2:i<10
 ·refine aN (by simp only[↓aB,aA,rE,↓reduceIte,Ab (show(i:Int)<10 by omega)]) (aC (aF ?_));simp only[↓aB,aA,rE,↓reduceIte,dL (a:=i) (by omega)];rw[aI4 (i:=i) (j:=i+1) (by simp only[↓aB,aA,rE,↓reduceIte,aG]) (by simp only[↓aB,aA,rE,↓reduceIte,aG]) (by omega) (by simp;omega)];simp only[↓aB,aA,rE,↓reduceIte];refine aR ?_;simp only[↓aB,aA,rE,↓reduceIte];exact Ce AV.str (aMm h2)
 refine aL (by simp only[↓aB,aA,rE,↓reduceIte,Aa (show ¬ (i:Int)<10 by omega)]) (aI ?_);try simp only[↓aB,aA,rE,↓reduceIte]
 refine bL ?_;simp only[↓aB,aA,rE,↓reduceIte,show IntKind.i64.wrap ((i:Int) * 2)=((i * 2:Nat):Int) from aMb (b:=2) (by omega),show IntKind.i64.wrap (((i * 2:Nat):Int)+2)=((i * 2+2:Nat):Int) from zJ (b:=2) (by omega),mM];rw[aI4 (i:=i * 2) (j:=i * 2+2) (by simp only[↓aB,aA,rE,↓reduceIte,aG]) (by simp only[↓aB,aA,rE,↓reduceIte,aG]) (by omega) (by rw[uI];omega)];simp only[↓aB,aA,rE,↓reduceIte];refine aR ?_;simp only[↓aB,aA,rE,↓reduceIte];exact Ce AV.str (aHS h h2)
theorem aNO(l m:List Nat):u8s (l++m)=u8s l++u8s m:=by simp [u8s]
theorem aNt{h:Ev.T AB}{s:List Nat}:eU (.str s) h 1 s.length=some (u8s s):=by
 show bK (Nat.beq 1 1) (aZ (aEE s s.length) fun r=>some (byteCells r)) none=_;rw[show Nat.beq 1 1=true from rfl,aP,fO,if_pos (Ah _),Bt,aM];congr 1
 induction s with
 | nil=>rfl
 | cons a s ih=>
  show AV.int .u8 (.ofNat a)::byteCells s=_;rw[ih];rfl
theorem aNE(s:List Nat):oC (.str s)=some s.length:=by
 show some (jJ s)=_;rw[dZ]
def aL0(S0 S S':St)(v v':AV)(l:List Nat):Prop:=iD 1 S0 S' v' l.length (u8s l)∧Same S0 S'∧S.nx≤S'.nx∧(∀c,c<S.nx→aX v≠some c→S'.h.get c=S.h.get c)∧∀c,aX v'=some c→S.nx≤c
theorem yH{S0 S:St}{v x:AV}{l m:List Nat}(h:iD 1 S0 S v l.length (u8s l))(hS:Same S0 S)(hl:oC x=some m.length)(hs:eU x S.h 1 m.length=some (u8s m))(hm:0<m.length)(hb:l.length+m.length≤1000000000000):∃v' S',jK 1 1 v x S=some (v',S')∧aL0 S0 S S' v v' (l++m):=by
 obtain⟨v',S',e1,e2,e3,e4,e5,e6⟩:=iD.appB (bytes:=1) h hS hl hs (by rw[aJc,En]) hm (by unfold room;omega) (by unfold room;omega);refine⟨v',S',e1,?_,e3,e4,e5,fun c hc=>?_⟩
 ·rw[aNO,Al];exact e2
 ·rw[e6] at hc;cases hc;exact Ah _
theorem aL5(u:Nat):0<(eH u).length:=by
 rw[eH];split<;>simp
theorem aJO{u:Nat}{c:List AV}(h:mR (eH u).length u 0 c)(hl:(eH u).length≤24):c.take (eH u).length=u8s (eH u):=by
 refine List.ext_getElem? fun i=>?_;rw[List.getElem?_take];by_cases hi:i<(eH u).length
 ·rw[if_pos hi];have h1:=h.2 ((eH u).length - 1 - i) (by omega);have h2:=aM8 u ((eH u).length - 1 - i) (by omega);rw[show(eH u).length - 1 - ((eH u).length - 1 - i)=i by omega] at h1 h2;rw[h1];unfold u8s;rw[Bc,h2];rfl
 ·rw[if_neg hi,Ci (by rw[aJc];omega)]
theorem aFd{S0 S:St}{v:AV}{l:List Nat}{u:Nat}(H:Has fns)(hL:jH S)(h:iD 1 S0 S v l.length (u8s l))(hS:Same S0 S)(hu:u≤18446744073709551615)(hb:l.length≤100000000000):fB fns (.fn 104 [] []) [v,.int .u64 (u:Int),.int .i64 10] S fun r S'=>aL0 S0 S S' v r (l++eH u):=by
 refine bN H.f104 (by simp) ?_;simp only[↓aB,aA,rE,↓reduceIte,rA];refine bL ?_;simp only[↓aB,aA,rE,↓reduceIte];refine fY ?_;simp only[↓aB,aA,rE,↓reduceIte];refine aN (by simp only[↓aB,aA,rE,↓reduceIte];rfl) ?_;refine fY ?_;simp only[↓aB,aA,rE,↓reduceIte];have hp:=aL5 u;by_cases h1:u<100
 ·have hl2:(eH u).length≤2:=(wW u 1).2 (by omega);refine aN (by simp only[↓aB,aA,rE,↓reduceIte,Ab (show(u:Int)<100 by omega)]) (aC (aF ?_));simp only[↓aB,aA,rE,↓reduceIte,wrap_i64 (n:=(u:Int)) (by omega) (by omega)];refine aY ?_;simp only[↓aB,aA,rE,↓reduceIte];refine aO (aId H h1) ?_;rintro _ _ ⟨rfl,rfl⟩;try simp only[↓aB,aA,rE,↓reduceIte]
  rename_i S;obtain⟨v',S',e1,e2⟩:=yH (m:=eH u) h hS (aNE _) aNt hp (by omega);refine eT (v:=v') (S1:=S') (fun call=>by rw[iY];simp only[↓aB,aA,rE,↓reduceIte];exact e1) ?_;simp only[↓aB,aA,rE,↓reduceIte];refine aR ?_;simp only[↓aB,aA,rE,↓reduceIte];exact e2
 refine aL (by simp only[↓aB,aA,rE,↓reduceIte,Aa (show ¬ (u:Int)<100 by omega)]) (aI ?_);try simp only[↓aB,aA,rE,↓reduceIte]
 refine aC (aF (cD ?_));intro S1 s1 n1 g1;have hz:(repeatL [AV.int .u8 (Int.ofNat 0)] 24).length=24:=by decide
 simp only[↓aB,aA,rE,↓reduceIte];refine bL ?_;simp only[↓aB,aA,rE,↓reduceIte];refine aY ?_;simp only[↓aB,aA,rE,↓reduceIte];refine aO (aDw H (hL.same s1) (by omega) hu) ?_;rintro _ _ ⟨rfl,hl20,rfl⟩;rename_i S1;have sa:∀ {F:Fr} {y:cF},eZ (y.val F)=some (eH u).length→rR (.arr 24 1) (.ptr S.nx 0) none (some y) none F=some (.sl S.nx 0 (eH u).length 24 false):=fun {F y} hy=>by
  simp only[rR,aIW,mB,iJ,aM,hy,Aj (Ah 24),Aj (show(eH u).length≤24 by omega),Aj (Cj _),aP];rfl
 try simp only[↓aB,aA,rE,↓reduceIte]
 refine bL ?_;simp only[↓aB,aA,rE,↓reduceIte];rw[sa (by simp only[↓aB,aA,rE,↓reduceIte,aG])];simp only[↓aB,aA,rE,↓reduceIte];refine aY ?_;simp only[↓aB,aA,rE,↓reduceIte];have hu10:u<10 ^ (eH u).length:=by
  obtain⟨k,hk⟩:∃k,(eH u).length=k+1:=⟨(eH u).length - 1,by omega⟩;rw[hk];exact(wW u k).1 (by omega)
 refine aO (aKY H g1 hz (by omega) hl20 hu10 hu) ?_;rintro _ X ⟨hX,c,hg,hd⟩;try simp only[↓aB,aA,rE,↓reduceIte]
 refine bL ?_;simp only[↓aB,aA,rE,↓reduceIte];rw[sa (by simp only[↓aB,aA,rE,↓reduceIte,aG])];simp only[↓aB,aA,rE,↓reduceIte];have hsrc:eU (.sl S.nx 0 (eH u).length 24 false) X.h 1 (eH u).length=some (u8s (eH u)):=by
  show aZ (cK X.h S.nx) (fun cs=>cut cs 0 ((eH u).length * 1))=_;unfold cK;rw[hg];show cut c 0 ((eH u).length * 1)=_;unfold cut;rw[fO,gJ,Cn,En,if_pos (by have:=hd.1;omega),aJO hd (by omega)]
 have sX:Same S X:=bB.same s1 hX (Ah _);obtain⟨v',S',e1,f1,f2,f3,f4,f5⟩:=yH (m:=eH u) (h.step sX) (hS.trans sX) rfl hsrc hp (by omega);refine eT (v:=v') (S1:=S') (fun call=>by rw[iY];simp only[↓aB,aA,rE,↓reduceIte];exact e1) ?_;simp only[↓aB,aA,rE,↓reduceIte];refine aR ?_;simp only[↓aB,aA,rE,↓reduceIte];have hn:=sX.1;exact⟨f1,f2,by omega,fun c hc hne=>(f4 c (by omega) hne).trans (sX.2 c hc),fun c hc=>by have:=f5 c hc;omega⟩
theorem aL1(a:Int):unV .neg (.int .u64 a)=some (.int .u64 (IntKind.u64.wrap (-a))):=by
 show some (AV.int .u64 (aGA .u64 (.ofNat 0) a))=_;rw[aAC];congr 3;show(0:Int) - a= -a;omega
theorem aKV(n:Int):IntKind.u64.wrap n=n % 18446744073709551616:=by simp [IntKind.wrap,IntKind.signed,IntKind.bits]
theorem aHh{S0 S:St}{v:AV}{l:List Nat}{z:Int}(H:Has fns)(hL:jH S)(h:iD 1 S0 S v l.length (u8s l))(hS:Same S0 S)(hz: -9223372036854775808≤z∧z≤9223372036854775807)(hb:l.length≤10000000000):fB fns (.fn 89 [] []) [v,.int .i64 z,.int .i64 10] S fun r S'=>aL0 S0 S S' v r (l++nN z):=by
 refine bN H.f89 (by simp) ?_;simp only[↓aB,aA,rE,↓reduceIte,rA];refine bL ?_;simp only[↓aB,aA,rE,↓reduceIte];refine bL ?_;simp only[↓aB,aA,rE,↓reduceIte];refine aC (aT (Q:=fun o A' X=>o= .normal∧∃ (v':AV) (u:Nat) (l':List Nat),aH 0 A'.F=v'∧aH 7 A'.F= .int .u64 (u:Int)∧aH 2 A'.F= .int .i64 10∧u≤18446744073709551615∧l'++eH u=l++nN z∧l'.length≤100000000000∧iD 1 S0 X v' l'.length (u8s l')∧Same S0 X∧jH X∧S.nx≤X.nx∧(∀c,c<S.nx→aX v≠some c→X.h.get c=S.h.get c)∧∀c,c<S.nx→aX v'=some c→aX v=some c) (aC (aF ?_)) ?_)
 ·simp only[↓aB,aA,rE,↓reduceIte];by_cases hneg:z<0
  ·refine aN (by simp only[↓aB,aA,rE,↓reduceIte,Ab hneg]) (aC (aF ?_));simp only[↓aB,aA,rE,↓reduceIte];refine fE (nB (k:=.u8) (n:=45) (by simp only[↓aB,aA,rE,↓reduceIte])) ?_;intro S1 s1 n1 g1;try simp only[↓aB,aA,rE,↓reduceIte]
   obtain⟨v',S',e1,f1,f2,f3,f4,f5⟩:=yH (m:=[45]) (h.step s1) (hS.trans s1) (x:=.sl S.nx 0 1 1 false) rfl (aON g1) (by simp) (by simp;omega);refine eT (v:=v') (S1:=S') (fun call=>by rw[iY];simp only[↓aB,aA,rE,↓reduceIte];exact e1) ?_;simp only[↓aB,aA,rE,↓reduceIte];refine aF ?_;have hw:IntKind.u64.wrap (-(IntKind.u64.wrap z))=((z.natAbs:Nat):Int):=by
    rw[aKV,aKV];omega
   simp only[↓aB,aA,rE,↓reduceIte,aL1,hw];have hn:=s1.1;refine⟨v',z.natAbs,l++ [45],rfl,rfl,by omega,?_,by simp;omega,f1,f2,?_,by omega,fun c hc hne=>(f4 c (by omega) hne).trans (s1.2 c hc),fun c hc e=>?_⟩
   ·unfold nN;rw[if_pos hneg];simp
   ·have hlt:=hL.2;refine⟨(f4 _ (by omega) fun e=>?_).trans ((s1.2 _ hlt).trans hL.1),by omega⟩;rcases h with⟨rfl,_⟩ | ⟨b,rfl,_,_,hg,_⟩
    ·cases e
    ·cases e;rw[hL.1] at hg;cases hg
   ·have:=f5 c e;omega
  ·refine aL (by simp only[↓aB,aA,rE,↓reduceIte,Aa hneg]) (aI ?_);refine⟨rfl,v,z.toNat,l,by simp only[↓aB,aA,rE,↓reduceIte],?_,by simp only[↓aB,aA,rE,↓reduceIte],by omega,?_,by omega,h,hS,hL,Ah _,fun c hc hne=>rfl,fun c hc e=>e⟩
   ·simp only[↓aB,aA,rE,↓reduceIte,aKV,show z % 18446744073709551616=((z.toNat:Nat):Int) by omega]
   ·unfold nN;rw[if_neg hneg]
 rintro o ⟨F,inr⟩ X ⟨rfl,v',u,l',p0,p7,p2,hu,he,hl',gw,sX,lX,nX,kX,bX⟩;simp only at p0 p7 p2;try simp only[↓aB,aA,rE,↓reduceIte]
 refine bL ?_;simp only[↓aB,aA,rE,↓reduceIte,p0,p2,p7];refine aY ?_;simp only[↓aB,aA,rE,↓reduceIte,p0,p2,p7];refine aO (aFd H lX gw sX hu hl') ?_;rintro r Y ⟨f1,f2,f3,f4,f5⟩;rw[he] at f1;try simp only[↓aB,aA,rE,↓reduceIte]
 refine aR ?_;simp only[↓aB,aA,rE,↓reduceIte];exact⟨f1,f2,by omega,fun c hc hne=>(f4 c (by omega) (fun e=>hne (bX c hc e))).trans (kX c hc hne),fun c hc=>by have:=f5 c hc;omega⟩
theorem aF0{S0 S:St}{v:AV}{l:List Nat}{z:Int}(H:Has fns)(hL:jH S)(h:iD 1 S0 S v l.length (u8s l))(hS:Same S0 S)(hz: -9223372036854775808≤z∧z≤9223372036854775807)(hb:l.length≤10000000000):fB fns (.fn 75 [] []) [v,.int .i64 z,.int .i64 10] S fun r S'=>aL0 S0 S S' v r (l++nN z):=by
 refine bN H.f75 (by simp) ?_;simp only[↓aB,aA,rE,↓reduceIte,rA];refine bL ?_;simp only[↓aB,aA,rE,↓reduceIte];refine bL ?_;simp only[↓aB,aA,rE,↓reduceIte];refine aY ?_;simp only[↓aB,aA,rE,↓reduceIte];refine aO (aHh H hL h hS hz hb) ?_;intro r X hX;try simp only[↓aB,aA,rE,↓reduceIte]
 refine aR ?_;simp only[↓aB,aA,rE,↓reduceIte];exact hX
end Go.Ev.Gl
