import Derived.Test.YtbmodoaceepfoaaGl9
set_option linter.all false
open Nat renaming reduceEqDiff -> rE, reduceAdd -> rA
set_option maxHeartbeats 0
namespace Go.Ev.Gl
variable {fns:T eY}
variable {l Z:bu}{i b m1:Nat}{v:Int}{S S0:St}{g:aX}{nv iv pv mv:AV}{F:Fr}
def aLt(hi:i<l.length)(h:l.getD i 0=v):l.set i v=l:=by
 refine aKT (Aw ..) fun j a=>?_;rw[oK hi];split
 .rename_i e;rw[<-e,h]
 .rfl
def aAE{sz:Nat}{x:Int}(H:Has fns)(j:S.h.get b=some (.cells (bD l) false sz))(p:0<=x)(f:x.toNat<l.length):
  iI fns (.fn 84 [] []) [sT b l,je x,je v] S fun r m=>cD b S m/\∃t,r= .bool t/\(t=true->m.h.get b=some (.cells (bD (l.set x.toNat v)) false sz)/\(0<=l.getD x.toNat 0->l.getD x.toNat 0=v))/\(t=false->0<=l.getD x.toNat 0/\l.getD x.toNat 0≠v):=by
 unfold sT;have g:=qK (k:=.i64) p;have a:=fQ (b:=b) (o:=false) f;have d:=aE1 j f;refine cK H.f84 (by simp) ?_;refine ae ?_;refine cA (ae ?_);by_cases e:l.getD x.toNat 0<0
 .refine gH (ez g a d ?_);refine aS (iu (Ac e)) ?_;refine aL (ew g a ?_);refine fN (fun call=>by refine ew @dL @dD ?_;exact yI (S:=S) j f) ?_;refine ae ?_;have i:(S.h.set b (some (.cells (bD (l.set x.toNat v)) false sz))).get b=some (.cells (bD (l.set x.toNat v)) false sz):=by rw[ef,if_pos rfl]
  have c:=aE1 i (show x.toNat<(l.set x.toNat v).length by rw[Aw];exact f);rw[oK f,if_pos rfl] at c;refine cA (ez g a c ?_);refine aT (ae ?_);exact⟨(cD.refl b S).put _,_,rfl,fun _=>⟨i,fun h=>absurd e au⟩,fun h=>by simp at h⟩
 .refine gH (ez g a d ?_);refine aQ (iu (Aa e)) (aK ?_);refine ae ?_
  refine cA (ez g a d ?_);refine aT (ae ?_);refine⟨cD.refl b S,_,rfl,fun h=>?_,fun h=>?_⟩
  .rw[Cl] at h;exact⟨by rw[aLt f h];exact j,fun _=>h⟩
  .rw[decide_eq_false_iff_not] at h;exact⟨au,h⟩
def aQe(S:St)(a b:AV)(l m:bu)(k:Nat)(A:bO)(X:St):Prop:=A.inr=false/\Same S X/\∃i,i+k=l.length/\l.take i=m.take i/\aC 0 A.F=a/\aC 1 A.F=b/\aC 12 A.F=je (l.length:Int)/\aC 13 A.F=je (i:Int)
def aJi{a b:AV}{m:bu}(H:Has fns)(v:bN .i64 S a l)(y:bN .i64 S b m)(N:l.length<=10000000):iI fns (.fn 83 [] []) [a,b] S fun r S'=>r= .bool (decide (l=m))/\Same S S':=by
 refine cK H.f83 (by simp) ?_;refine am ?_;refine cA (am ?_);refine gH (ft v.len y.len @Ah ?_);by_cases z:l.length=m.length;rotate_left
 .rw[Aa (show ¬l=m from fun e=>z (by rw[e]))];refine aS io ?_;refine cA (am ?_);refine aT (am ?_);exact eu _
 refine aQ io (aK ?_);refine am ?_
 refine aD (bB (Q:=fun o D X=>(o= .normal/\aQe S a b l m 0 D X)\/(o= .ret/\Same S X/\l≠m/\aC 4 D.F= .bool false)) (aD (aL ?_)) ?_)
 .refine fo v.len @Ah ?_;refine aO (bX (aQe S a b l m) ?_ l.length _ _ ⟨rfl,eu _,0,au,rfl,by refine⟨?_,?_,?_,?_⟩<;>simp only[↓aF,aE,rE,↓reduceIte,rA]⟩);rintro k ⟨F,inr⟩ X ⟨p,f,i,q,s,t,u,g,d⟩;simp only at p t u g d;subst p;refine cA (fo g d ?_);by_cases j:i<l.length
  .refine aD (aS io (aK ?_));refine am ?_
   have c:i<m.length:=by omega
   have G:=(v.same f).df j;have J:=(v.same f).ld j;have K:=(y.same f).df c;have lb:=(y.same f).ld c;have M:=ed i
   refine aD (aO (aD (aL ?_)));refine fl d ?_;refine aD (jK ?_);refine gj t u @aJ G K J lb ?_;have el:l.getD i 0=l[i]:=by rw[Ad,Ab j];rfl
   have em:m.getD i 0=m[i]:=by rw[Ad,Ab c];rfl
   by_cases x:l.getD i 0=m.getD i 0
   .refine aQ (iz (Aa (show ¬l.getD i 0≠m.getD i 0 from fun h=>h x))) (aK ?_);refine am ?_
    refine aL (fo d M ?_);refine⟨k - 1,au,rfl,f.trans (Same.nx _ _),i+1,au,?_,by refine⟨?_,?_,?_,?_⟩<;>simp only[↓aF,aE,rE,↓reduceIte,rA,t,u,g]⟩;rw[Bx,Bx,s,Ab j,Ab c,<-el,<-em,x]
   .refine aS (iz (Ac (show l.getD i 0≠m.getD i 0 from x))) ?_;refine cA (am ?_);refine aT (am ?_);exact .inr ⟨f.trans (Same.nx _ _),fun e=>x (by rw[e])⟩
  .refine aD (aQ io (bT ?_));refine am ?_;have B:k=0:=by omega
   subst B;exact .inl ⟨rfl,f,i,q,s,by refine⟨?_,?_,?_,?_⟩<;>simp only[↓aF,aE,rE,↓reduceIte,rA,t,u,g,d]⟩
 rintro o ⟨F,inr⟩ X (⟨rfl,p,f,i,q,s,t,u,g,d⟩|⟨rfl,f,C,E⟩);rotate_left
 .simp only at E;refine fl E ?_;rw[Aa C];exact⟨rfl,f⟩
 simp only at p;subst p;rw[Bd au,Bd au] at s;rw[Ac s];refine am ?_
 refine cA (am ?_);refine aT (am ?_);exact f
theorem aCb{h:Ev.T AB}{P P':Fr->Prop}(e:∀F,P F->P' F):∀ (l:List AO) (F:Fr),pK l F h P->pK l F h P'
 | [],F,c=>e F c
 | ⟨d,.q q,g,m⟩::l,F,c=>by
  simp only[pK] at c ⊢;split at c
  .rename_i f;rw[if_pos f];have⟨w,i,j,k⟩:=c;exact⟨w,i,j,aCb e l _ k⟩
  .rename_i f;rw[if_neg f];exact aCb e l _ c
 | ⟨d,.a a,g,m⟩::l,F,c=>by cases c
 | ⟨d,.x a,g,m⟩::l,F,c=>by cases c
def aPL{a pre:List AO}{K m z s d g q:Nat}{b:Bool}{f:cT}{args:List cT}{j k:QOp}{A:bO}{Q:Out->bO->St->Prop}
  (C:a=pre++ [⟨some d,.x (.call f args),some (s,b),m⟩,⟨some g,.q j,some (s,b),m1⟩,⟨some q,.q k,none,z⟩]) (D:pre.length=K) (E:(pre.all fun o=> !Nat.testBit o.mask K)=true) (G:((List.range K).all fun i=>Nat.testBit m i)=true) (H:d≠s) (r:eE j=false) (t:eE k=false)
  (h:pK pre A.F S.h fun F'=>aC s F'= .bool b/\iI fns (f.val F') (eF args F') ⟨S.h,S.nx+(K+3)⟩ fun v S1=>∃c p,gO j (cU (some d) F' v) S1.h=some c/\gO k (cU (some g) (cU (some d) F' v) c) S1.h=some p/\Q .normal ⟨cU (some q) (cU (some g) (cU (some d) F' v) c) p,A.inr⟩ S1):jP fns (.drw a) A S Q:=by
 subst C;have e:(pre++ [(⟨some d,.x (.call f args),some (s,b),m⟩:AO),⟨some g,.q j,some (s,b),m1⟩,⟨some q,.q k,none,z⟩]).length=K+3:=by simp [D]
 apply qZ;rw[e];refine aBn (h:=S.h) (K:=K) (pre:=pre) (i:=0) rfl au (fun o J=>by have:=Dp.1 E o J;simpa using this) (fun l u=>by cases u) ?_;refine aCb ?_ pre A.F h;rintro F' ⟨B,M⟩ ls x;refine aNN B (aBc rfl ?_);simp only[bL];refine aW M ?_;rintro v S1 ⟨c,p,x1,x2,N⟩;refine aNN (by rw[<-B];simp only[bH];rw[if_neg (Cg H)]) ?_;rw[iW];refine⟨c,x1,?_⟩;simp only[r,aU];rw[iW];refine⟨p,x2,?_⟩;simp only[t,aU];rw[iC];refine⟨?_,?_⟩
 .simp only[Ce,List.reverse_nil,Bw];refine nT fun l u=>?_;have⟨O,R,T⟩:=x l u;have y:=Dp.1 G l.i (Dk.2 R);unfold fA;rw[T,aU,O,aN,y,aN]
 .simp only[bL];exact N
def lI(W:Nat->Prop)(S X:St):Prop:=S.nx<=X.nx/\∀c,c<S.nx->¬W c->X.h.get c=S.h.get c
section
variable {W:Nat->Prop}{S X Y:St}{b:Nat}
def lI.refl(W:Nat->Prop)(S:St):lI W S S:=⟨Af _,fun _ _ _=>rfl⟩
def lI.trans(h:lI W S X)(h':lI W X Y):lI W S Y:=⟨Av h.1 h'.1,fun c a d=>(h'.2 c (Ae a h.1) d).trans (h.2 c a d)⟩
def Same.butW(h:Same S X):lI W S X:=⟨h.1,fun c a _=>h.2 c a⟩
def cD.butW(h:cD b S X)(a:W b):lI W S X:=⟨h.1,fun c d f=>h.2 c d fun e=>f (by rw[e];exact a)⟩
def lI.same(h:lI W S X)(a:Same S0 S)(e:∀b,W b->S0.nx<=b):Same S0 X:=⟨Av a.1 h.1,fun c d=>(h.2 c (Ae d a.1) fun f=>by have:=e c f;omega).trans (a.2 c d)⟩
end
structure Lay where
 sb:Nat
 ob:Nat
 fb:Nat
 mb:Nat
 kb:Nat
 wb:Nat
 ib:Nat
 rb:Nat
 ab:Nat
 bs:Nat->Nat
 cs:cd
def Lay.W(L:Lay)(n c:Nat):Prop:=c=L.ib\/c=L.rb\/∃j,j<n/\c=L.bs j
def Lay.fn(L:Lay):AV:=.fn 82 [] [.ptr L.sb 0,.ptr L.ob 0,.ptr L.fb 0,.ptr L.mb 0,.ptr L.kb 0]
structure Laid(L:Lay)(S0 S1:St)(n:Nat)(mv:AV):Prop where
 s01:Same S0 S1
 gs:S1.h.get L.sb=some (.cells [.ptr L.wb 0] false 0)
 go:S1.h.get L.ob=some (.cells [.sl L.ib 0 n n false,.sl L.ab 0 n n false] false 0)
 gf:S1.h.get L.fb=some (.cells [.sl L.rb 0 n n false] false 0)
 gm:S1.h.get L.mb=some (.cells [mv] false 0)
 gk:S1.h.get L.kb=some (.cells [L.fn] false 0)
 ga:S1.h.get L.ab=some (.cells L.cs false 0)
 ls:L.sb<S1.nx/\¬L.W n L.sb
 lo:L.ob<S1.nx/\¬L.W n L.ob
 lf:L.fb<S1.nx/\¬L.W n L.fb
 lm:L.mb<S1.nx/\¬L.W n L.mb
 lk:L.kb<S1.nx/\¬L.W n L.kb
 la:L.ab<S1.nx/\¬L.W n L.ab
 w0:∀b,L.W n b->S0.nx<=b/\b<S1.nx
 ir:L.ib≠L.rb
 is:∀j,j<n->L.ib≠L.bs j/\L.rb≠L.bs j
structure Dyn(L:Lay)(S0 X:St)(I F:bu)(A:bt):Prop where
 gi:X.h.get L.ib=some (.cells (bD I) false 0)
 gr:X.h.get L.rb=some (.cells (bD F) false 0)
 rw:Rws S0 X L.bs L.cs A
section
variable {L:Lay}{S0 S1 X Y:St}{n:Nat}{mv:AV}{I F:bu}{A:bt}
def Laid.s(h:Laid L S0 S1 n mv)(a:lI (L.W n) S1 X):X.h.get L.sb=jf [.ptr L.wb 0]:=(a.2 _ h.ls.1 h.ls.2).trans h.gs
def Laid.o(h:Laid L S0 S1 n mv)(a:lI (L.W n) S1 X):X.h.get L.ob=jf [.sl L.ib 0 n n false,.sl L.ab 0 n n false]:=(a.2 _ h.lo.1 h.lo.2).trans h.go
def Laid.f(h:Laid L S0 S1 n mv)(a:lI (L.W n) S1 X):X.h.get L.fb=jf [.sl L.rb 0 n n false]:=(a.2 _ h.lf.1 h.lf.2).trans h.gf
def Laid.m(h:Laid L S0 S1 n mv)(a:lI (L.W n) S1 X):X.h.get L.mb=jf [mv]:=(a.2 _ h.lm.1 h.lm.2).trans h.gm
def Laid.k(h:Laid L S0 S1 n mv)(a:lI (L.W n) S1 X):X.h.get L.kb=jf [L.fn]:=(a.2 _ h.lk.1 h.lk.2).trans h.gk
def Laid.a(h:Laid L S0 S1 n mv)(a:lI (L.W n) S1 X):X.h.get L.ab=jf L.cs:=(a.2 _ h.la.1 h.la.2).trans h.ga
def Laid.same(h:Laid L S0 S1 n mv)(a:lI (L.W n) S1 X):Same S0 X:=a.same h.s01 fun b c=>(h.w0 b c).1
def Laid.move(h:Laid L S0 S1 n mv)(a:lI (L.W n) S1 X):Laid L S0 X n mv:=
 ⟨h.same a,h.s a,h.o a,h.f a,h.m a,h.k a,h.a a,⟨Ae h.ls.1 a.1,h.ls.2⟩,⟨Ae h.lo.1 a.1,h.lo.2⟩,⟨Ae h.lf.1 a.1,h.lf.2⟩,⟨Ae h.lm.1 a.1,h.lm.2⟩,⟨Ae h.lk.1 a.1,h.lk.2⟩,⟨Ae h.la.1 a.1,h.la.2⟩,fun b c=>⟨(h.w0 b c).1,Ae (h.w0 b c).2 a.1⟩,h.ir,h.is⟩
def Dyn.same(h:Dyn L S0 X I F A)(c:Laid L S0 S1 n mv)(d:S1.nx<=X.nx)(a:Same X Y):Dyn L S0 Y I F A:=
 ⟨(a.2 _ (Ae (c.w0 _ (.inl rfl)).2 d)).trans h.gi,(a.2 _ (Ae (c.w0 _ (.inr (.inl rfl))).2 d)).trans h.gr,h.rw.same a⟩
end
def WkT(L:Lay)(F:Fr)(xb a c:Nat):Prop:=aC 1 F=je (c:Int)/\aC 2 F= .ptr L.sb 0/\aC 3 F= .ptr L.ob 0/\aC 4 F= .ptr L.fb 0/\aC 5 F= .ptr L.mb 0/\aC 6 F= .ptr L.kb 0/\aC 10 F= .ptr xb 0/\aC 11 F= .ptr a 0
def KdT(L:Lay)(F:Fr)(xb a c j r v d:Nat)(xa:AV)(b:Bool):Prop:=WkT L F xb a c/\aC 12 F= .bool b/\aC 13 F=je (j:Int)/\aC 14 F=je (r:Int)/\aC 15 F=je (v:Int)/\aC 88 F=xa/\aC 89 F=je (d:Int)/\aC 90 F=je (j:Int)
noncomputable def agC:List AO:=[mt 130 12,
om 131 1 (.mv (.t 130)),
og 132 131 true 3 (.dk 1 (.t 3)),
og 133 131 true 7 (ld 132),
og 134 131 true 3 (.dk 2 (.t 10)),
og 135 131 true 19 (ld 134),
og 136 131 true 63 (.df (.slice 1) (.t 133) (.t 135)),
og 137 131 true 127 (ld 136),
og 138 131 true 3 (.mv (.t 13)),
og 139 131 true 3 (ld 2),
og 140 131 true 515 (.cw (.t 139)),
og 141 131 true 1539 (.dk 4 (.t 140)),
og 142 131 true 3587 (ld 141),
og 143 131 true 3 (.mv (.t 15)),
og 144 131 true 15875 (.df (.slice 1) (.t 142) (.t 143)),
og 145 131 true 32259 (ld 144)]
def WkF(L:Lay)(S1:St)(g:aX)(m:bu)(A:bO)(X:St):Prop:=lI (L.W g.ch.length) S1 X/\¬jD g m/\aC 9 A.F= .bool false
def aTd(L:Lay)(S0 S1:St)(g:aX)(m:bu)(i e xb a:Nat)(xa:AV)(d f:Option AB)(rec:Nat->Option (List cS))(k:Nat)(A:bO)(X:St):Prop:=A.inr=false/\lI (L.W g.ch.length) S1 X/\xb<X.nx/\a<X.nx/\∃ (j r:Nat) (Tr:List cS) (I F:bu) (c:bt),j+k=(cu g i).next.length/\fR rec ((cu g i).next.drop j) r=some Tr/\r+Tr.length=e/\Dyn L S0 X I F c/\jN g m r r I F c/\WkT L A.F xb a (gE m i)/\X.h.get xb=d/\X.h.get a=f/\aC 12 A.F= .bool (decide ((cu g i).kind=2))/\aC 88 A.F=xa/\aC 89 A.F=je (((cu g i).next.length:Nat):Int)/\aC 90 A.F=je (j:Int)
theorem aJe{L:Lay}{m:bu}{T:List cS}{c9 eP:Nat}(H:Has fns)(hn:aG 6 cF S0 nv g.cg)(hm:bN .i64 S0 mv m)(G:eO g)(M:aBb g m)(dp:T.length=g.cg.length)(hW:WF (dN g) 0 (-1) T)(eV:bN .i64 S0 pv (T.map (·.1)))(hB:kJ S0 L.wb c9 eP pv nv iv g (mO g) Z):
  ∀ (f:Nat) {X:St} {i:Nat} {p d:Int} {T':List cS} {I F:bu} {A:bt},fB g.cg.length (dN g) f i p d=some T'->Laid L S0 X g.ch.length mv->Dyn L S0 X I F A->jN g m i (i+1) I F A->
  iI fns L.fn [je (i:Int),je ((gE m i:Nat):Int)] X fun r X'=>lI (L.W g.ch.length) X X'/\∃t,r= .bool t/\(t=false->¬jD g m)/\(t=true->∃I' F' D,Dyn L S0 X' I' F' D/\jN g m (i+T'.length) (i+T'.length) I' F' D):=by
 have hN:=G.n2;have gz:=G.ni;intro f
 induction f with
 | zero=>intro X i p d T' I F A bq;cases bq
 | succ f ih=>
  intro X i p d T' I F A bq C hD hS;have hX:lI (L.W g.ch.length) X X:=lI.refl _ _;simp only[fB] at bq;split at bq;rotate_left
  .cases bq
  rename_i y;obtain⟨L',bm,rfl⟩:=Bb.1 bq;rw[gR] at bm;have lX:=hX.1;have sX:Same S0 X:=C.same hX;have eW:=(hB.w.same sX).1;have eZ:=(hB.w.same sX).2;have e0:=cH (p:=0) (C.s hX) rfl;have e1:L.sb<X.nx:=Ae C.ls.1 lX;have⟨gA,cV⟩:=M.at y;obtain⟨_,bx,qx,dq,dr,_,⟨xa,xw,xp,rfl,cc,c',du⟩,bA,_⟩:=aG.at hn az (dI y);obtain⟨_,e2,qy,dv,dw,_,⟨ya,yw,yp,rfl,dz,da,hyp⟩,bC,_⟩:=aG.at hn az (dI cV);rw[<-jH sX dr] at bA;rw[<-jH sX dw] at bC;have e3:=aG.self hn;have sx:=uX (k:=.i64) (x0:=(cu g i).kind) (x1:=(cu g i).player) (x2:=(cu g i).info) (bN.self cc) (bN.self c') (bN.self du);have sy:=uX (k:=.i64) (x0:=(cu g (gE m i)).kind) (x1:=(cu g (gE m i)).player) (x2:=(cu g (gE m i)).info) (bN.self dz) (bN.self da) (bN.self hyp);have e4:bx<X.nx:=Ae dr sX.1;have e5:e2<X.nx:=Ae dw sX.1;show iI fns (.fn 82 [] [.ptr L.sb 0,.ptr L.ob 0,.ptr L.fb 0,.ptr L.mb 0,.ptr L.kb 0]) _ _ _;refine cK H.f82 (by simp) ?_;refine ae ?_;refine cA (ae ?_);refine aD (nN (fun _=>False) ?_);simp only[↓sU,sD,rE,↓reduceIte,rA,e0,e1,An,bE,bP,bF,aB,aP,aA,eH eW,eZ,e3,aJ,dq,bA,sx,e4,dv,bC,sy,e5,rK];refine aOJ (n:=6) rfl rfl rfl (af) (af) (by refine ae ?_;exact aY _) (by refine ae ?_;exact aY _) rfl rfl rfl au au au ?_;intro X1 bI ab ac dM;rw[bL];have bI:X1.nx=X.nx+20:=bI;have dU:Same X X1:=⟨au,fun c hc=>dM c au au⟩;have dV:X.nx+16<X1.nx:=by omega
  have dW:X.nx+17<X1.nx:=by omega
  show jP fns _ _ X1 _;refine aD (aD (bB (Q:=fun o D Y=>o= .normal/\D.inr=false/\Same X1 Y/\WkT L D.F (X.nx+16) (X.nx+17) (gE m i)/\∃t,aC 60 D.F= .bool t/\(t=true↔¬aDh g m i)) (aL ?_) ?_))
  .have bn:=sX.trans dU;have cW:=cc.same bn;have cX:=dz.same bn;have dY:=du.same bn;have dZ:=hyp.same bn;by_cases q1:(cu g i).kind=(cu g (gE m i)).kind;rotate_left
   .simp only[↓sU,sD,rE,↓reduceIte,rA,aB,aA,fI ab,fI ac,Ac (show(cu g i).kind≠(cu g (gE m i)).kind from q1),WkT];exact⟨eu _,true,rfl,fun _ h=>q1 h.1,fun _=>rfl⟩
   have dc:=Aa (show ¬ (cu g i).kind≠(cu g (gE m i)).kind from fun h=>h q1);by_cases q4:(cu g i).player=(cu g (gE m i)).player;rotate_left
   .simp only[↓sU,sD,rE,↓reduceIte,rA,aB,aA,fI ab,fI ac,eH ab,eH ac,dc,Ac (show(cu g i).player≠(cu g (gE m i)).player from q4),WkT];exact⟨eu _,true,rfl,fun _ h=>q4 h.2.2.2,fun _=>rfl⟩
   have d':=Aa (show ¬ (cu g i).player≠(cu g (gE m i)).player from fun h=>h q4);by_cases q2:(cu g i).next.length=(cu g (gE m i)).next.length;rotate_left
   .simp only[↓sU,sD,rE,↓reduceIte,rA,aB,aA,fI ab,fI ac,eH ab,eH ac,dG ab,dG ac,cW.len,cX.len,Ah,dc,d',Ac (show(((cu g i).next.length:Nat):Int)≠(((cu g (gE m i)).next.length:Nat):Int) by omega),WkT];exact⟨eu _,true,rfl,fun _ h=>q2 h.2.1,fun _=>rfl⟩
   simp only[↓sU,sD,rE,↓reduceIte,rA,aB,aA,fI ab,fI ac,eH ab,eH ac,dG ab,dG ac,eX ab,eX ac,cW.len,cX.len,Ah,dc,d',Aa (show ¬ (((cu g i).next.length:Nat):Int)≠(((cu g (gE m i)).next.length:Nat):Int) by omega),WkT];refine bK (ae ?_);refine aW (aJi H dY dZ (by have:=G.pay i y;omega)) ?_;rintro _ Y ⟨rfl,hY⟩;refine de @fY ?_;refine⟨hY,_,rfl,?_⟩;by_cases q3:(cu g i).pay=(cu g (gE m i)).pay
   .rw[Ac q3];exact⟨nofun,fun h=>absurd ⟨q1,q2,q3,q4⟩ h⟩
   .rw[Aa q3];exact⟨fun _ h=>q3 h.2.2.1,fun _=>rfl⟩
  rintro o ⟨F0,inr⟩ Y ⟨rfl,q0,hY,hP,t,cf,dd⟩;simp only at q0 hP cf;subst q0;have⟨N,E,J,O,p5,p6,a,l⟩:=hP;have ea:=dU.trans hY;have bY:lI (L.W g.ch.length) X Y:=hX.trans (Same.butW ea);refine ae ?_
  cases t with
  | true=>
   refine aS (ah cf) ?_;refine cA (ae ?_);refine aT (ae ?_);exact⟨bY,false,rfl,fun _=>aKf y (dd.1 rfl),nofun⟩
  | false=>
  have hL:aDh g m i:=Classical.byContradiction fun h=>by have:=dd.2 h;cases this
  refine aQ (ah cf) (aK ?_);refine ae ?_
  clear cf dd;have bs:Dyn L S0 Y I F A:=hD.same C lX ea;have ba:=(hY.2 _ dV).trans ab;have bp:=(hY.2 _ dW).trans ac;have cj:X.nx+16<Y.nx:=Ae dV hY.1;have ck:X.nx+17<Y.nx:=Ae dW hY.1;have bb:∀ {b},X.nx<=b->¬L.W g.ch.length b:=fun {b} hb hw=>by have:=(C.w0 b hw).2;omega
  clear ab ac dM bI bA bC;refine cA (fe a @aB @aA (fI ba) ?_);refine aD (bB (Q:=fun o D Z=>(o= .normal/\D.inr=false/\lI (L.W g.ch.length) X Z/\lI (L.W g.ch.length) Y Z/\(∃I' F',Dyn L S0 Z I' F' A/\jN g m (i+1) (i+1) I' F' A)/\WkT L D.F (X.nx+16) (X.nx+17) (gE m i)/\aC 12 D.F= .bool (decide ((cu g i).kind=2)))\/(o= .ret/\WkF L X g m D Z)) (aD (bB (Q:=fun o D Z=>o= .normal/\D.inr=false/\lI (L.W g.ch.length) X Z/\lI (L.W g.ch.length) Y Z/\WkT L D.F (X.nx+16) (X.nx+17) (gE m i)/\aC 12 D.F= .bool (decide ((cu g i).kind=2))/\∃t,aC 86 D.F= .bool t/\(t=true->¬jD g m)/\(t=false->∃I' F',Dyn L S0 Z I' F' A/\jN g m (i+1) (i+1) I' F' A)) (aL ?_) ?_)) ?_)
  .by_cases hk:(cu g i).kind=2;rotate_left
   .simp only[↓sU,sD,rE,↓reduceIte,rA,Aa hk,WkT,N,E,J,O,p5,p6,a,l];exact⟨bY,lI.refl _ _,false,rfl,nofun,fun _=>⟨I,F,bs,hS.node hL hk⟩⟩
   have⟨a1,a2,a3⟩:=G.inf i y hk;have⟨c1,c2⟩:=rH G M y hL hk;have e6:(cu g i).info.toNat<I.length:=by rw[hS.s.li];omega
   have e7:(cu g (gE m i)).info.toNat<F.length:=by rw[hS.lf];omega
   have rI:sT L.ib I= .sl L.ib 0 g.ch.length g.ch.length false:=by unfold sT;rw[hS.s.li]
   have rF:sT L.rb F= .sl L.rb 0 g.ch.length g.ch.length false:=by unfold sT;rw[hS.lf]
   have e8:=ldc (j:=0) (C.o bY) rfl;have gB:=cH (p:=0) (C.f bY) rfl;simp only[↓sU,sD,rE,↓reduceIte,rA,Ac hk,J,a,l,aB,aA,e8,dF ba,dF bp];refine bK (ae ?_);have bM:=aAE (v:=(cu g (gE m i)).info) H bs.gi a1 e6;rw[rI] at bM;refine aW bM ?_;rintro _ Y2 ⟨a8,t,rfl,aw,aa⟩;have bd:L.W g.ch.length L.ib:=.inl rfl;have dg:=bY.trans (a8.butW bd);cases t with
   | false=>
    simp only[↓sU,sD,rE,↓reduceIte,rA,fY,Dl,WkT,N,E,J,O,p5,p6,a,l,Ac hk];exact⟨dg,a8.butW bd,true,rfl,fun _=>hS.s.no_info G y hk (aa rfl).1 (aa rfl).2,nofun⟩
   | true=>
   have⟨e9,hI⟩:=aw rfl;have eb:Y2.h.get (X.nx+16)=_:=(a8.2 _ cj (fun e=>bb (b:=X.nx+16) au (by rw[e];exact bd))).trans ba;have ec:Y2.h.get (X.nx+17)=_:=(a8.2 _ ck (fun e=>bb (b:=X.nx+17) au (by rw[e];exact bd))).trans bp;have e':=cH (p:=0) (C.f dg) rfl;simp only[↓sU,sD,rE,↓reduceIte,rA,fY,Cm,O,a,l,aB,aA,e',dF eb,dF ec];refine bK (ae ?_);have b0:L.W g.ch.length L.rb:=.inr (.inl rfl);have dh:L.rb<Y.nx:=Ae (C.w0 _ b0).2 bY.1;have di:L.ib<Y.nx:=Ae (C.w0 _ bd).2 bY.1;have fa:=(a8.2 _ dh (Cg C.ir)).trans bs.gr;have cY:=aAE (v:=(cu g i).info) H fa c1 e7;rw[rF] at cY;refine aW cY ?_;rintro _ Y3 ⟨cl,t,rfl,aw,aa⟩;have ee:=dg.trans (cl.butW b0);have b1:=(a8.butW bd).trans (cl.butW b0);cases t with
   | false=>
    simp only[↓sU,sD,rE,↓reduceIte,rA,fY,Dl,WkT,N,E,J,O,p5,p6,a,l,Ac hk];exact⟨ee,b1,true,rfl,fun _=>hS.no_from G M y hL hk (aa rfl).1 (aa rfl).2,nofun⟩
   | true=>
   have⟨fb,hF⟩:=aw rfl;simp only[↓sU,sD,rE,↓reduceIte,rA,fY,Cm,WkT,N,E,J,O,p5,p6,a,l,Ac hk];refine⟨ee,b1,false,rfl,nofun,fun _=>⟨_,_,⟨?_,fb,bs.rw.move b1.1 fun j hj=>?_⟩,hS.nodeM G M y hL hk hI hF⟩⟩
   .rw[cl.2 _ (Ae di a8.1) C.ir];exact e9
   .have eg:j<g.ch.length:=by rw[<-hS.s.la];exact hj
    have eh:=(bs.rw.bl j hj).2.1;rw[cl.2 _ (Ae eh a8.1) (Cg (C.is j eg).2),a8.2 _ eh (Cg (C.is j eg).1)]
  .clear N E J O p5 p6 a l;rintro o ⟨F1,inr⟩ Z ⟨rfl,q0,bZ,bv,hP,s,t,dj,aw,aa⟩;simp only at q0 hP s dj;subst q0;have⟨N,E,J,O,p5,p6,a,l⟩:=hP;refine ae ?_
   cases t with
   | true=>
    refine aS (ah dj) ?_;refine cA (ae ?_);refine aT ?_;refine .inr ⟨rfl,bZ,aw rfl,?_⟩;simp only[↓sU,sD,rE,↓reduceIte,rA]
   | false=>
    refine aQ (ah dj) (aK ?_);exact .inl ⟨rfl,rfl,bZ,bv,aa rfl,⟨N,E,J,O,p5,p6,a,l⟩,s⟩
  clear N E J O p5 p6 a l;rintro o ⟨F1,inr⟩ Z (⟨rfl,q0,bZ,bv,⟨I',F',ei,ej⟩,hP,s⟩|⟨rfl,hf⟩);rotate_left
  .have⟨h1,h2,h3⟩:=hf;refine de h3 ?_;exact⟨h1,false,rfl,fun _=>h2,nofun⟩
  simp only at q0 hP s;subst q0;have⟨N,E,J,O,p5,p6,a,l⟩:=hP;have cm:=(bv.2 _ cj (bb au)).trans ba;have dk:=(bv.2 _ ck (bb au)).trans bp;have fc:X.nx+16<Z.nx:=Ae cj bv.1;have fd:X.nx+17<Z.nx:=Ae ck bv.1;clear ba bp cj ck bs;have sZ:=C.same bZ;have ek:=cc.same sZ;refine ae ?_
  refine gH (fg a @aB @aA (dG cm) ek.len @Ah ?_);refine bB (Q:=fun o D V=>(o= .normal/\aTd L S0 X g m i (i+(L'.length+1)) (X.nx+16) (X.nx+17) xa (Z.h.get (X.nx+16)) (Z.h.get (X.nx+17)) (fun r=>fB g.cg.length (dN g) f r i (d+1)) 0 D V)\/(o= .ret/\WkF L X g m D V)) (aO (bX (aTd L S0 X g m i (i+(L'.length+1)) (X.nx+16) (X.nx+17) xa (Z.h.get (X.nx+16)) (Z.h.get (X.nx+17)) (fun r=>fB g.cg.length (dN g) f r i (d+1))) ?_ (cu g i).next.length _ _ ⟨rfl,bZ,fc,fd,0,i+1,L',I',F',A,au,by rw[Dn];exact bm,au,ei,ej,(by simp only[↓sU,sD,rE,↓reduceIte,rA,WkT,N,E,J,O,p5,p6,a,l]),rfl,rfl,(ah s),(af),(af),(af)⟩)) ?_
  .clear N E J O p5 p6 a l s ei ej bm;rintro k ⟨F2,inr⟩ V ⟨q0,bV,cn,cq,j,r,Tr,I2,F3,As,en,an,b2,aI,be,hP,a0,bw,s,z,B,u⟩;simp only at q0 hP s z B u;subst q0;rw[cm] at a0;rw[dk] at bw;have⟨N,E,J,O,p5,p6,a,l⟩:=hP;have sV:=C.same bV;refine cA (ew B u ?_);by_cases hj:j<(cu g i).next.length;rotate_left
   .refine aD (aQ im (bT ?_));refine ae ?_;have fi:k=0:=by omega
    subst fi;exact .inl ⟨rfl,bV,cn,cq,j,r,Tr,I2,F3,As,en,an,b2,aI,be,(by simp only[↓sU,sD,rE,↓reduceIte,rA,WkT,N,E,J,O,p5,p6,a,l]),by rw[a0,cm],by rw[bw,dk],(ah s),(ah z),(ah B),(ah u)⟩
   refine aD (aS im (aK ?_));refine ae ?_
   have cZ:=cc.same sV;have eo:=hm.same sV;have c0:=eV.same sV;have c3:=c'.same sV;have c4:=da.same sV;have b3:=hB.same sV;have c5:=cZ.df hj;have b6:=cZ.ld hj;have fk:(cu g i).next.drop j=(cu g i).next[j]::(cu g i).next.drop (j+1):=Bz hj;have fp:(cu g i).next.getD j 0=(cu g i).next[j]:=by rw[Ad,Ab hj];rfl
   rw[fk,<-fp] at an;have⟨gC,gM⟩:=G.kids i y j hj;simp only[fR] at an;split at an;rotate_left
   .cases an
   rename_i hc;have⟨L1,fq,an⟩:=Cu.1 an;obtain⟨L2,fr,rfl⟩:=Bb.1 an;rw[Aj] at b2;have cr:r<g.cg.length:=by omega
   rw[hc] at b6;have⟨fs,b8⟩:=M.at cr;have ct:=aND hW dp M (i:=i) (k:=j) y (by rw[hc,Ay];exact cr);rw[hc,Ay] at ct;have fw:=cH (p:=0) (C.m bV) rfl;have c6:=eo.df (show r<m.length by rw[M.len];exact cr);have b':=eo.ld (show r<m.length by rw[M.len];exact cr);rw[fs] at b';have cw:=cH (p:=0) (C.s bV) rfl;have dm:gE m r<(T.map (·.1)).length:=by rw[Al,dp];exact b8
   have c7:=c0.df dm;have c8:=c0.ld dm;have cx:=b3.w.1;have w1:IntKind.i64.wrap ((j:Int)+1)=((j+1:Nat):Int):=by have:=G.nxt i y;rw[wrap_i64 au au];omega
   refine aD (aO (aD (aL ?_)));refine ff z u @aJ c5 b6 ?_;refine cA (ff p5 fw @aJ c6 b' ?_);refine gH ?_;simp only[↓sU,sD,rE,↓reduceIte,rA,N,E,cw,bE,bF,aB,aA,dG cx,aJ,c7,c8];by_cases bj:(T.map (·.1)).getD (gE m r) 0=((gE m i:Nat):Int);rotate_left
   .refine aS (iu (Ac (show(T.map (·.1)).getD (gE m r) 0≠((gE m i:Nat):Int) from bj))) ?_;refine cA (ae ?_);refine aT ?_;refine .inr ⟨rfl,bV,aOM y hj (ct.2 bj),?_⟩;simp only[↓sU,sD,rE,↓reduceIte,rA]
   refine aQ (iu (Aa (show ¬ (T.map (·.1)).getD (gE m r) 0≠((gE m i:Nat):Int) from fun h=>h bj))) (aK ?_);refine ae ?_
   have⟨cy,ep⟩:=ct.1 bj;clear ct bj c7 c8 dm c5 b6 c6 b';refine aD (bB (Q:=fun o D W=>(o= .normal/\D.inr=false/\W=⟨V.h,V.nx+22⟩/\KdT L D.F (X.nx+16) (X.nx+17) (gE m i) j r (gE m r) (cu g i).next.length xa (decide ((cu g i).kind=2))/\aBL g m i j)\/(o= .ret/\WkF L X g m D W)) (aD (jK ?_)) ?_)
   .by_cases k1:(cu g i).kind=1
    .have k2:(cu g (gE m i)).kind=1:=by rw[<-hL.1];exact k1
     have fy:=aKg cy;have er:=qK (k:=.i64) cy;have l1:j<(cu g i).weights.length:=by rw[G.wts i y k1];exact hj
     have l2:(jZ g m i j).toNat<(cu g (gE m i)).weights.length:=by rw[G.wts _ cV k2];exact fy
     have i1:=c3.df l1;have i2:=c3.ld l1;have i3:=c4.df l2;have i4:=c4.ld l2;have i5:=fQ (b:=c9) (o:=false) b8;have i6:=aE1 b3.gp (show gE m r<(mO g).length by rw[b3.lp];exact b8);rw[<-ep] at i6;have es:=bN.self c';have et:=bN.self da;by_cases c2:(cu g i).weights.getD j 0=(cu g (gE m i)).weights.getD (jZ g m i j).toNat 0
     .simp only[↓sU,sD,rE,↓reduceIte,rA,E,a,l,bE,bP,bF,aB,aP,aA,fI a0,dT a0,dT bw,dT cx,cw,Ac k1,es,et,aJ,er,i1,i2,i3,i4,i5,i6,Aa (show ¬ (cu g i).weights.getD j 0≠(cu g (gE m i)).weights.getD (jZ g m i j).toNat 0 from fun h=>h c2)];refine aQ (af) (aK ?_);refine .inl ⟨rfl,rfl,rfl,?_,fun _=>c2⟩;simp only[↓sU,sD,rE,↓reduceIte,rA,KdT,WkT,N,E,J,O,p5,p6,a,l,s,z,B,u,and_self]
     .simp only[↓sU,sD,rE,↓reduceIte,rA,E,a,l,bE,bP,bF,aB,aP,aA,fI a0,dT a0,dT bw,dT cx,cw,Ac k1,es,et,aJ,er,i1,i2,i3,i4,i5,i6,Ac (show(cu g i).weights.getD j 0≠(cu g (gE m i)).weights.getD (jZ g m i j).toNat 0 from c2)];refine aS (af) ?_;refine cA (ae ?_);refine aT ?_;refine .inr ⟨rfl,bV.trans (Same.butW (Same.nx _ _)),aHv y hj (fun h=>c2 (h k1)),?_⟩;simp only[↓sU,sD,rE,↓reduceIte,rA]
    .refine fg a @aB @aP @aA (fI a0) (Aa k1) ?_;refine aQ (af) (aK ?_);refine .inl ⟨rfl,rfl,rfl,?_,fun h=>absurd h k1⟩;simp only[↓sU,sD,rE,↓reduceIte,rA,KdT,WkT,N,E,J,O,p5,p6,a,l,s,z,B,u,and_self]
   clear N E J O p5 p6 a l s z B u;rintro o ⟨F2,inr⟩ W (⟨rfl,q0,rfl,hP,ey⟩|⟨rfl,hf⟩);rotate_left
   .refine ae ?_;exact .inr hf
   simp only at q0 hP;subst q0;have⟨⟨N,E,J,O,p5,p6,a,l⟩,s,aV,aZ,ao,z,B,u⟩:=hP;have sW:=Same.nx V 22;have bW:=bV.trans (Same.butW sW);have f':Dyn L S0 ⟨V.h,V.nx+22⟩ I2 F3 As:=aI.same C bV.1 sW;refine ae ?_
   refine aD (bB (Q:=fun o D U=>(o= .normal/\D.inr=false/\lI (L.W g.ch.length) X U/\lI (L.W g.ch.length) V U/\KdT L D.F (X.nx+16) (X.nx+17) (gE m i) j r (gE m r) (cu g i).next.length xa (decide ((cu g i).kind=2))/\∃bz,Dyn L S0 U I2 F3 bz/\jN g m r (r+1) I2 F3 bz)\/(o= .ret/\WkF L X g m D U)) (aD (bB (Q:=fun o D U=>o= .normal/\D.inr=false/\lI (L.W g.ch.length) X U/\lI (L.W g.ch.length) V U/\KdT L D.F (X.nx+16) (X.nx+17) (gE m i) j r (gE m r) (cu g i).next.length xa (decide ((cu g i).kind=2))/\∃t,aC 148 D.F= .bool t/\(t=true->¬jD g m)/\(t=false->∃bz,Dyn L S0 U I2 F3 bz/\jN g m r (r+1) I2 F3 bz)) ?_ ?_)) ?_)
   .by_cases hk:(cu g i).kind=2;rotate_left
    .refine nN (fun _=>False) ?_;refine ew s (Aa hk) ?_;refine⟨bW.trans (Same.butW (Same.nx _ _)),(Same.butW sW).trans (Same.butW (Same.nx _ _)),?_,false,rfl,nofun,fun _=>⟨As,?_,be.kid G y hj hc cy ey hk⟩⟩
     .simp only[↓sU,sD,rE,↓reduceIte,rA,KdT,WkT,N,E,J,O,p5,p6,a,l,s,aV,aZ,ao,z,B,u,Aa hk,and_self]
     .exact f'.same C bW.1 (Same.nx _ _)
    have⟨a1,a2,a3⟩:=G.inf i y hk;have ga:=qK (k:=.i64) a1;have hs:(cu g i).info.toNat<g.ch.length:=by omega
    have cz:(cu g i).info.toNat<As.length:=by rw[be.s.la];exact hs
    have gd:=be.s.ls _ hs;rw[show(((cu g i).info.toNat:Nat):Int)=(cu g i).info by omega,a3] at gd;have gf:j<(As.getD (cu g i).info.toNat []).length:=by omega
    have gg:=ldc (j:=1) (C.o bV) rfl;have gi:=fQ (b:=L.ab) (o:=false) hs;have gk:=cH (C.a bV) (aI.rw.cl _ cz);have eA:cO (sT (L.bs (cu g i).info.toNat) (As.getD (cu g i).info.toNat [])) (sT (L.bs (cu g i).info.toNat) (As.getD (cu g i).info.toNat []))=true:=mE ..;have i5:=fQ (b:=c9) (o:=false) b8;have i6:=aE1 b3.gp (show gE m r<(mO g).length by rw[b3.lp];exact b8);rw[<-ep] at i6;refine aPL (pre:=agC) (K:=16) rfl rfl rfl rfl az rfl rfl ?_;unfold agC;simp only[↓sU,sD,rE,↓reduceIte,rA,E,J,a,s,aV,ao,Ac hk,bE,bP,bF,aB,aP,aA,gg,dF a0,ga,gi,gk,eA,cw,dT cx,aJ,i5,i6];have bM:=aAE (S:=⟨V.h,V.nx+22+19⟩) (v:=jZ g m i j) (x:=(j:Int)) H (aI.rw.bl _ cz).2.2 au (by rw[Ay];exact gf);rw[Ay] at bM;refine aW bM ?_;rintro _ U ⟨hU,t,rfl,aw,aa⟩;have gl:L.W g.ch.length (L.bs (cu g i).info.toNat):=.inr (.inr ⟨_,hs,rfl⟩);have a5:lI (L.W g.ch.length) V U:=(Same.butW (Same.nx V (22+19))).trans (hU.butW gl);have bU:=bV.trans a5;refine⟨.bool (!t),.bool (!t),?_,?_,bU,a5,?_, !t,?_,?_,?_⟩
    .simp only[↓sU,sD,rE,↓reduceIte,rA,fY]
    .simp only[↓sU,sD,rE,↓reduceIte,rA]
    .simp only[↓sU,sD,rE,↓reduceIte,rA,KdT,WkT,N,E,J,O,p5,p6,a,l,s,aV,aZ,ao,z,B,u,Ac hk,and_self]
    .simp only[↓sU,sD,rE,↓reduceIte,rA]
    .intro h;cases t with
     | true=>cases h
     | false=>exact be.no_act G y hk hj (aa rfl).1 (aa rfl).2
    .intro h;cases t with
     | false=>cases h
     | true=>
     have⟨gU,hA⟩:=aw rfl;have gx:=aI.rw.bl _ cz;have bd:L.W g.ch.length L.ib:=.inl rfl;have b0:L.W g.ch.length L.rb:=.inr (.inl rfl);have dh:L.rb<V.nx:=Ae (C.w0 _ b0).2 bV.1;have di:L.ib<V.nx:=Ae (C.w0 _ bd).2 bV.1;have dn:∀c,c<V.nx->c≠L.bs (cu g i).info.toNat->U.h.get c=V.h.get c:=fun c hc gm=>hU.2 c (by show c<V.nx+22+19;omega) gm;refine⟨_,⟨(dn _ di (C.is _ hs).1).trans aI.gi,(dn _ dh (C.is _ hs).2).trans aI.gr,?_⟩,be.kidM G y hj hc cy ey hk hA⟩;refine(aI.rw.put cz (Af _)).move (show V.nx<=U.nx from a5.1) fun q hq=>?_;rw[Aw] at hq;simp only;rw[Ev.T.get_set];split
     .rename_i e;rw[e];exact gU
     .rename_i e;exact dn _ (aI.rw.bl q hq).2.1 e
   .clear N E J O p5 p6 a l s aV aZ ao z B u;rintro o ⟨F2,inr⟩ U ⟨rfl,q0,bU,a5,hP,t,ca,aw,aa⟩;simp only at q0 hP ca;subst q0;have⟨⟨N,E,J,O,p5,p6,a,l⟩,s,aV,aZ,ao,z,B,u⟩:=hP;refine ae ?_
    cases t with
    | true=>
     refine aS (ah ca) ?_;refine cA (ae ?_);refine aT ?_;refine .inr ⟨rfl,bU,aw rfl,?_⟩;simp only[↓sU,sD,rE,↓reduceIte,rA]
    | false=>
     refine aQ (ah ca) (aK ?_);exact .inl ⟨rfl,rfl,bU,a5,⟨⟨N,E,J,O,p5,p6,a,l⟩,s,aV,aZ,ao,z,B,u⟩,aa rfl⟩
   clear N E J O p5 p6 a l s aV aZ ao z B u;rintro o ⟨F2,inr⟩ U (⟨rfl,q0,bU,a5,hP,bz,gn,gp⟩|⟨rfl,hf⟩);rotate_left
   .refine ae ?_;exact .inr hf
   simp only at q0 hP;subst q0;have⟨⟨N,E,J,O,p5,p6,a,l⟩,s,aV,aZ,ao,z,B,u⟩:=hP;have gq:=(a5.2 _ cn (bb au)).trans a0;have gr:=(a5.2 _ cq (bb au)).trans bw;have eB:X.nx+16<U.nx:=Ae cn a5.1;have eC:X.nx+17<U.nx:=Ae cq a5.1;have gs:=cH (p:=0) (C.k bU) rfl;refine ae ?_
   refine bB (Q:=fun o D R=>(o= .normal/\D.inr=false/\lI (L.W g.ch.length) X R/\lI (L.W g.ch.length) U R/\KdT L D.F (X.nx+16) (X.nx+17) (gE m i) j r (gE m r) (cu g i).next.length xa (decide ((cu g i).kind=2))/\∃eD eL eN,Dyn L S0 R eD eL eN/\jN g m (r+L1.length) (r+L1.length) eD eL eN)\/(o= .ret/\WkF L X g m D R)) (aD (aL ?_)) ?_
   .refine fe p6 aZ ao gs ?_;refine bK (ae ?_);refine aW (ih fq (C.move bU) gn gp) ?_;rintro _ R ⟨bk,t,rfl,aa,aw⟩;refine de @fY ?_;cases t with
    | false=>
     refine aS (iu @Dl) ?_;refine cA (ae ?_);refine aT ?_;refine .inr ⟨rfl,bU.trans bk,aa rfl,?_⟩;simp only[↓sU,sD,rE,↓reduceIte,rA]
    | true=>
     refine aQ (iu @Cm) (aK ?_);refine .inl ⟨rfl,rfl,bU.trans bk,bk,?_,aw rfl⟩;simp only[↓sU,sD,rE,↓reduceIte,rA,KdT,WkT,N,E,J,O,p5,p6,a,l,s,aV,aZ,ao,z,B,u,and_self]
   clear N E J O p5 p6 a l s aV aZ ao z B u;rintro o ⟨F2,inr⟩ R (⟨rfl,q0,bR,bk,hP,I4,F4,A4,gv,gw⟩|⟨rfl,hf⟩);rotate_left
   .refine ae ?_;exact .inr hf
   simp only at q0 hP;subst q0;have⟨⟨N,E,J,O,p5,p6,a,l⟩,s,aV,aZ,ao,z,B,u⟩:=hP;refine ae ?_
   refine aL (ew u w1 ?_);refine⟨k - 1,au,rfl,bR,Ae eB bk.1,Ae eC bk.1,j+1,r+L1.length,L2,I4,F4,A4,au,fr,au,gv,gw,?_,?_,?_,?_,?_,?_,?_⟩
   .simp only[↓sU,sD,rE,↓reduceIte,rA,WkT,N,E,J,O,p5,p6,a,l,and_self]
   .rw[bk.2 _ eB (bb au),gq,cm]
   .rw[bk.2 _ eC (bb au),gr,dk]
   .simp only[↓sU,sD,rE,↓reduceIte,rA,s]
   .simp only[↓sU,sD,rE,↓reduceIte,rA,z]
   .simp only[↓sU,sD,rE,↓reduceIte,rA,B]
   .simp only[↓sU,sD,rE,↓reduceIte,rA]
  clear N E J O p5 p6 a l s;rintro o ⟨F2,inr⟩ V (⟨rfl,q0,bV,cn,cq,j,r,Tr,I2,F3,As,en,an,b2,aI,be,hP,a0,bw,s,z,B,u⟩|⟨rfl,hf⟩);rotate_left
  .have⟨h1,h2,h3⟩:=hf;refine de h3 ?_;exact⟨h1,false,rfl,fun _=>h2,nofun⟩
  simp only at q0;subst q0;rw[Cr au] at an;simp only[fR,Au] at an;subst an;rw[Cb,Bs] at b2;subst b2;refine ae ?_
  refine cA (ae ?_);refine aT (ae ?_);exact⟨bV,true,rfl,nofun,fun _=>⟨I2,F3,As,aI,be⟩⟩
def aFQ{h:Ev.T AB}{s t:Nat}{x y:AV}(a:aC s F=x)(c:aC t F=y)(d:x.cells=some [x])(e:y.cells=some [y]):gO (.build [.ct,.ct] [(0,1,.t s),(1,1,.t t)]) F h=some (.agg [x,y]):=by
 show(bG (eI _ (dJ F [(0,1,.t s),(1,1,.t t)])) fun cs=>some (AV.agg cs))=_;simp only[dJ,show(cT.t s).val F=x from a,show(cT.t t).val F=y from c,eI,d,e,aH];rfl
def aLP{F:Fr}{h:Ev.T AB}:gO (.build [.ct,.ct] []) F h=some (.agg [.ct,.ct]):=rfl
def aRz{W:Nat->Prop}{v:Ev.T AB}{base:Nat}{Q:Fr->St->List iR->Prop}{a n j k l:Nat}{d zb e:cd}{t2 u:cT}(m:Nat.testBit m1 j=true)(o:Nat.testBit m1 k=true)(p:kE (some l) m1=true)
  (x:t2.val F= .ptr b 0) (q:(u.val F).cells=some e) (y:zb.length=n) (z:e.length=n) (f:a≠b) (B:base<=a) (C:base<=b)
  (D:∀g,g.nx=S.nx->g.h.get a=jf d->g.h.get b=jf e->(∀c,c≠a->c≠b->g.h.get c=S.h.get c)->Q F g []):
  gF fns W v base [⟨none,.x (.st n t2 u),none,m1⟩] i F S [⟨k,b,.cells zb false 0⟩,⟨j,a,.cells d false 0⟩] (some l) Q:=by
 have r:cP m1 [⟨k,b,.cells zb false 0⟩,⟨j,a,.cells d false 0⟩] S.h=([],(S.h.set b (jf zb)).set a (jf d)):=by rw[iF o,iF m,bL]
 have s:((S.h.set b (jf zb)).set a (jf d)).get b=jf zb:=by rw[ef,if_neg (Cg f),ef,if_pos rfl]
 have x2:=mI (S:=⟨(S.h.set b (jf zb)).set a (jf d),S.nx⟩) (cs':=e) (n:=n) s y z;refine qA (S1:=⟨((S.h.set b (jf zb)).set a (jf d)).set b (jf e),S.nx⟩) p ?_ ?_ ?_
 .rw[r,x,q,aH];exact x2
 .rw[r];exact⟨Af _,fun c E _=>by simp only;rw[ef,if_neg au,ef,if_neg au,ef,if_neg au]⟩
 rw[r];refine D _ rfl ?_ ?_ fun c t h=>?_
 .simp only;rw[ef,if_neg f,ef,if_pos rfl]
 .simp only;rw[ef,if_pos rfl]
 .simp only;rw[ef,if_neg h,ef,if_neg t,ef,if_neg h]
def aTD(a:St)(d mb tb ob e c h rb:Nat)(iv:AV)(g:aX)(k:Nat)(A:bO)(X:St):Prop:=A.inr=false/\cD c a X/\∃i f cs,i+k=g.ch.length/\cs.length=g.ch.length/\X.h.get c=jf cs/\Rws a X f cs ((aBQ g).take i)/\aC 2 A.F= .ptr d 0/\aC 3 A.F= .ptr mb 0/\aC 4 A.F= .ptr tb 0/\aC 6 A.F= .ptr ob 0/\aC 7 A.F= .ptr e 0/\aC 37 A.F=iv/\aC 38 A.F=je (g.ch.length:Int)/\aC 39 A.F=je (i:Int)
def xC(g:aX)(m:bu)(S a:St)(x y:AV):Prop:=tC S a x (dx g m)/\∃c d cs,y= .sl c 0 (dy g m).length (dy g m).length false/\S.nx<=c/\c<a.nx/\a.h.get c=jf cs/\Rws S a d cs (dy g m)
theorem aDL{wb bp bq:Nat}{m:bu}{T:List cS}(H:Has fns)(hn:aG 6 cF S nv g.cg)(hi:aG 2 cE S iv g.ch)(hm:bN .i64 S mv m)(G:eO g)(M:aBb g m)(hT:gP g=some T)(bv:T.length=g.cg.length)(cq:bN .i64 S pv (T.map (·.1)))(hB:kJ S wb bp bq pv nv iv g (mO g) Z):
  iI fns (.fn 78 [] []) [.ptr wb 0,mv] S fun r S'=>Same S S'/\∃x y t,r= .tup [.agg [x,y],.bool t]/\(t=true↔jD g m)/\(t=true->xC g m S S' x y):=by
 have bw:0<m.length:=by rw[M.len];exact G.n1
 have hN:=G.n2;have d':=G.ni;have cr:WF (dN g) 0 (-1) T:=by unfold gP at hT;exact jU hT
 refine cK H.f78 (by simp) ?_;refine ae ?_;refine cA ?_;refine cR (cs:=[.ptr wb 0]) rfl ?_;intro S1 s1 n1 g1;refine cR (cs:=[mv]) ?_ ?_
 .exact bN.cells hm
 intro S2 s2 n2 g2;refine bS ?_;intro d s3 n3 g3;refine ae ?_;have aw:=s2.trans s3;have aI:=s1.trans aw;have aV:d.h.get S.nx=jf [.ptr wb 0]:=by rw[aw.2 _ au];exact g1
 have bx:d.h.get S1.nx=jf [mv]:=by rw[s3.2 _ au];exact g2
 have bz:d.h.get S2.nx=jf [.ct,.ct]:=g3;have e1:S1.nx=S.nx+1:=n1;have e2:S2.nx=S.nx+2:=by omega
 have e3:d.nx=S.nx+3:=by omega
 rw[e1] at bx;rw[e2] at bz;simp only[e1,e2];clear g1 g2 g3 s1 s2 s3 aw n1 n2 n3 e1 e2 S1 S2;have R:=hB.same aI;have bA:=R.w.1;have bC:=R.w.2;have bI:=cH (p:=0) aV rfl;have U:S.nx<d.nx:=by omega
 have bM:=aG.self hi;refine aD (sJ (fun _=>False) ?_);intro X1 x1 ct cw;simp only[↓sU,sD,rE,↓reduceIte,rA,bI,U,An,bE,bP,bF,aB,aP,aA,dF bA,bC,bM,hi.len];refine dR rfl ?_;refine ae ?_;refine aW (xD H (n:=g.ch.length) au) ?_;rintro r X2 ⟨⟨ib,rfl,b1,b2,b3⟩,x2⟩;rw[Aq];refine⟨x2,?_⟩;simp only[↓sU,sD,rE,↓reduceIte,rA,bI,U,An,bE,bP,bF,aB,aP,aA,dF bA,bC,bM,hi.len];refine qE (n:=g.ch.length) (iu @aJ) (iu @aJ) ay ay  ?_;refine ae ?_;rw[aFQ (x:=.sl ib 0 g.ch.length g.ch.length false) (y:=.sl (d.nx+13) 0 g.ch.length g.ch.length false) (af) (af) rfl rfl];refine ew @mK @rK ?_;refine aRz (n:=2) rfl rfl rfl (af) (by refine ae ?_;exact aY _) rfl rfl au au au ?_;intro X3 bR cx cy bU;rw[bL,repeatL_one] at *;have ea:X1.nx=d.nx+17:=cw;have eb:=x2.1;have ec:X3.nx=X2.nx:=bR;have aZ:Same d X3:=⟨au,fun c D=>by rw[bU c au au,x2.2 _ au,ct]⟩;have cz:X3.h.get ib=jf (bD (List.replicate g.ch.length (-1))):=by rw[bU _ au au];exact b3
 show jP fns _ _ X3 _;have bV:=(aZ.2 _ U).trans aV;have cV:=cH (p:=0) bV rfl;have cW:=(R.same aZ).w.1;refine cA (gj cV @bE @bF @aB @aA (dF cW) hi.len ?_);refine bK (am ?_);refine aW (xD H (n:=g.ch.length) au) ?_;rintro r N ⟨⟨rb,rfl,d1,d2,d3⟩,x4⟩;rw[Aq]
 refine bS ?_;intro X5 x5 m5 g5;refine cQ (b:=N.nx) (cs':=[.sl rb 0 g.ch.length g.ch.length false]) (aq) (by simp only[↓aF,aE,rE,↓reduceIte,rA];rfl) g5 rfl rfl ?_;intro X6 x6 m6 g6;refine am ?_;have ee:=x4.1;have V:Same X3 X6:=x4.trans (x6.same x5 (Af _));have s:=aZ.trans V;have cX:=(V.2 _ au).trans cz;have cY:=(V.2 _ au).trans cx;have a0:=(V.2 _ au).trans cy;have cZ:X6.h.get rb=jf (bD (List.replicate g.ch.length (-1))):=by rw[x6.2 _ au au,x5.2 _ au];exact d3
 have an:=(s.2 _ U).trans aV;have c0:=cH (p:=0) an rfl;have c1:=(R.same s).w.1;have eg:X6.nx=N.nx+1:=by omega
 have c2:=hi.len;refine aD (bB (Q:=fun o O X=>o= .normal/\aTD X6 S.nx (S.nx+1) (S.nx+2) (d.nx+15) N.nx (d.nx+13) ib rb iv g 0 O X) (aD (aL ?_)) ?_)
 .refine gj c0 @bE @bF @aB @aA (dF c1) c2 ?_;refine aO (bX (aTD X6 S.nx (S.nx+1) (S.nx+2) (d.nx+15) N.nx (d.nx+13) ib rb iv g) ?_ g.ch.length _ _ ⟨rfl,cD.refl _ _,0,fun _=>0,_,au,Aq ..,cY,Rws.none,by refine⟨?_,?_,?_,?_,?_,?_,?_,?_⟩<;>simp only[↓aF,aE,rE,↓reduceIte,rA]⟩);rintro k ⟨F,inr⟩ X ⟨q0,hX,i,bs,cs,bW,a1,u,hR,p2,p3,l,v,p7,z,B,f⟩;simp only at q0 p2 p3 l v p7 z B f;subst q0;refine cA (fo B f ?_);by_cases E:i<g.ch.length;rotate_left
  .refine aD (aQ io (bT ?_));refine am ?_;have c3:k=0:=by omega
   subst c3;exact⟨rfl,hX,i,bs,cs,bW,a1,u,hR,by refine⟨?_,?_,?_,?_,?_,?_,?_,?_⟩<;>simp only[↓aF,aE,rE,↓reduceIte,rA,p2,p3,l,v,p7,z,B,f]⟩
  refine aD (aS io (aK ?_));refine am ?_
  have sX:Same S X:=hX.same (aI.trans s) au;have eh:=hX.1;have⟨f1,f2,f3⟩:=G.fst i E;have a2:=(G.inf _ f1 f2).2.2;rw[f3] at a2;have⟨e,b,q,bZ,hb,he,heq,a3,_⟩:=aG.at hi az (Ab E);have ao:g.ch[i]=cv g (i:Int):=by unfold cv;rw[Ad,Ay,Ab E];rfl
  unfold cE at heq;subst heq;rw[ao,a2] at a3;rw[<-jH sX hb] at a3;have ei:(cu g (eG g i)).next.length<=1000:=G.nxt _ f1;generalize ej:(cu g (eG g i)).next.length=na at *;have w1:=ed i
  have c4:=(hX.2 _ (au:d.nx+15<X6.nx) au).trans a0;refine aD (aO (aD (aL ?_)));refine fx z f @aJ bZ a3 ?_;refine bS ?_;intro Y1 y1 k1 h1;refine am ?_;refine cQ (b:=X.nx) (aq) (by refine am ?_;exact aY _) h1 rfl rfl ?_;intro Y2 y2 k2 h2;refine am ?_;have aa:Same X Y2:=y2.same y1 (Af _);have ek:Y2.nx=X.nx+1:=by omega
  have a5:=(aa.2 _ au).trans c4;have a8:=(aa.2 _ au).trans u;have ba:=hR.same aa;have b0:=ldc (j:=1) a5 rfl;have b6:=ldc (j:=1) h2 rfl;have c5:¬ (d.nx+15=d.nx+13):=by omega
  have c6:¬ (X.nx=d.nx+13):=by omega
  have c7:d.nx+15<Y2.nx:=by omega
  have c8:X.nx<Y2.nx:=by omega
  have c9:=fQ (b:=d.nx+13) (o:=false) E;refine sJ (fun c=>c=d.nx+13) ?_;intro U0 u0 en eo;simp only[↓sU,sD,rE,↓reduceIte,rA,v,aB,aP,aA,b0,b6,c5,c6,c7,c8,An];refine dR rfl ?_;refine ae ?_;refine aW (xD H (n:=na) au) ?_;rintro r U1 ⟨⟨nb,rfl,t1,t2,t3⟩,u1⟩;refine⟨u1,?_⟩;have bb:Same Y2 U1:=u0.trans u1;have c':=(bb.2 _ au).trans a8;refine ew @aJ c9 ?_;refine aBA (ps':=[]) (h':=U1.h) (b:=d.nx+13) (p:=i) (cs:=cs) (w:=sT nb (List.replicate na (-1))) (by rw[bL]) rfl (af) (by simp only[↓sU,sD,rE,↓reduceIte,rA];rfl) c' au rfl ?_;refine ae ?_;have ep:=u0.1;have er:=u1.1;have da:((aBQ g).take i).length=i:=by unfold aBQ;rw[Bv,Al];omega
  have dc:(aBQ g).take (i+1)=(aBQ g).take i++ [List.replicate na (-1)]:=by
   rw[Bx];congr 1;unfold aBQ;rw[Az,Ab E,ao];show [List.replicate (cv g (i:Int)).cr.toNat (-1)]=_;rw[a2,Ay]
  refine aL (ew f w1 ?_);refine⟨k - 1,au,rfl,⟨show X6.nx<=U1.nx by omega,fun c D ab=>?_⟩,i+1,(fun j=>if j=((aBQ g).take i).length then nb else bs j),cs.set i (sT nb (List.replicate na (-1))),au,by rw[Aw];exact a1,by simp only;rw[Ev.T.get_set,if_pos rfl],?_,by refine⟨?_,?_,?_,?_,?_,?_,?_,?_⟩<;>simp only[↓sU,sD,rE,↓reduceIte,rA,p2,p3,l,v,p7,z,B]⟩
  .simp only;rw[Ev.T.get_set,if_neg ab,bb.2 _ au,aa.2 _ au];exact hX.2 c D ab
  .rw[dc];refine(ba.same bb |>.move (X':=⟨U1.h.set (d.nx+13) (jf (cs.set i (sT nb (List.replicate na (-1))))),U1.nx⟩) (Af _) fun j hj=>?_).add (nb:=nb) au (show nb<U1.nx from t2) ?_ (fun j hj=>?_) (fun j hj=>?_) ?_
   .have:=(ba.bl j hj).1;simp only;rw[Ev.T.get_set,if_neg au]
   .simp only;rw[Ev.T.get_set,if_neg au];exact t3
   .have:=(ba.bl j hj).2.1;omega
   .rw[Cw,if_neg au]
   .rw[da,Cw,if_pos rfl,if_pos au]
 rintro o ⟨F,inr⟩ X7 ⟨rfl,q0,bd,i,bs,cs,bW,a1,u,hR,p2,p3,l,v,p7,z,B,f⟩;simp only at q0 p2 p3 l v p7;subst q0;obtain rfl:i=g.ch.length:=by omega
 have es:(aBQ g).length=g.ch.length:=by unfold aBQ;rw[Al]
 rw[Bd au] at hR;clear z B f;refine am ?_
 have dd:=bd.1;refine cA ?_;refine bS ?_;intro X8 x8 m8 g8;refine am ?_;refine cA (fx @aBJ p2 p3 v p7 ?_);obtain⟨L,hL⟩:∃L:Lay,L=⟨S.nx,d.nx+15,N.nx,S.nx+1,X7.nx,wb,ib,rb,d.nx+13,bs,cs⟩:=⟨_,rfl⟩;have b8:L.fn= .fn 82 [] [.ptr S.nx 0,.ptr (d.nx+15) 0,.ptr N.nx 0,.ptr (S.nx+1) 0,.ptr X7.nx 0]:=by rw[hL];rfl
 refine cQ (b:=X7.nx) (cs':=[L.fn]) (aq) (by rw[b8];simp only[↓aF,aE,rE,↓reduceIte,rA];rfl) g8 rfl rfl ?_;intro X9 x9 m9 g9;refine am ?_;have et:X9.nx=X7.nx+1:=by omega
 have J:Same X7 X9:=x9.same x8 (Af _);have old:∀c,c<X6.nx->c≠d.nx+13->X9.h.get c=X6.h.get c:=fun c D ab=>by rw[J.2 _ au,bd.2 c D ab]
 have b':Same S X9:=⟨au,fun c D=>by rw[old c au au,(aI.trans s).2 _ D]⟩;have K:∀b,L.W g.ch.length b->(X1.nx<=b/\b<X2.nx)\/(X3.nx<=b/\b<N.nx)\/(X6.nx<=b/\b<X7.nx):=by
  rw[hL];rintro b (rfl|rfl|⟨j,hj,rfl⟩)
  .exact .inl ⟨b1,b2⟩
  .exact .inr (.inl ⟨d1,d2⟩)
  .have⟨h1,h2,_⟩:=hR.bl j au;exact .inr (.inr ⟨h1,h2⟩)
 have C:Laid L S X9 g.ch.length mv:=by
  have nW:∀c,(c<X1.nx\/c=N.nx\/c=X7.nx)->¬L.W g.ch.length c:=fun c D hw=>by have:=K c hw;omega
  have w0:∀b,L.W g.ch.length b->S.nx<=b/\b<X9.nx:=fun b hw=>by have:=K b hw;omega
  subst hL;refine⟨b',?_,?_,?_,?_,g9,?_,⟨?_,nW _ (.inl ?_)⟩,⟨?_,nW _ (.inl ?_)⟩,⟨?_,nW _ (.inr (.inl rfl))⟩,⟨?_,nW _ (.inl ?_)⟩,⟨?_,nW _ (.inr (.inr rfl))⟩,⟨?_,nW _ (.inl ?_)⟩,w0,?_,fun j hj=>?_⟩
  .show X9.h.get S.nx=_;rw[old _ au au];exact an
  .show X9.h.get (d.nx+15)=_;rw[old _ au au];exact a0
  .show X9.h.get N.nx=_;rw[old _ au au];exact g6
  .show X9.h.get (S.nx+1)=_;rw[old _ au au,s.2 _ au];exact bx
  .show X9.h.get (d.nx+13)=_;rw[J.2 _ au];exact u
  .show S.nx<X9.nx;omega
  .show S.nx<X1.nx;omega
  .show d.nx+15<X9.nx;omega
  .show d.nx+15<X1.nx;omega
  .show N.nx<X9.nx;omega
  .show S.nx+1<X9.nx;omega
  .show S.nx+1<X1.nx;omega
  .show X7.nx<X9.nx;omega
  .show d.nx+13<X9.nx;omega
  .show d.nx+13<X1.nx;omega
  .show ib≠rb;omega
  .have⟨h1,h2,_⟩:=hR.bl j au;show ib≠bs j/\rb≠bs j;omega
 have hD:Dyn L S X9 (List.replicate g.ch.length (-1)) (List.replicate g.ch.length (-1)) (aBQ g):=by
  subst hL;refine⟨?_,?_,?_⟩
  .show X9.h.get ib=_;rw[old _ au au];exact cX
  .show X9.h.get rb=_;rw[old _ au au];exact cZ
  .exact(hR.same J).low au
 have dg:kJ S L.wb bp bq pv nv iv g (mO g) Z:=by rw[hL];exact hB
 have ac:=aJe H hn hm G M bv cr cq dg (g.cg.length+1) (by unfold gP at hT;exact hT) C hD (jN.start G m);rw[Am,bv] at ac;have dh:X9.h.get (S.nx+1)=jf [mv]:=by have:=C.gm;rw[hL] at this;exact this
 have di:X9.h.get X7.nx=jf [L.fn]:=g9;have ca:=cH (p:=0) dh rfl;have dj:=cH (p:=0) di rfl;have cc:=hm.same b';have cf:=cc.df bw;have cj:=cc.ld bw;have ck:¬L.W g.ch.length (S.nx+2):=fun hw=>by have:=K _ hw;omega
 have dk:¬L.W g.ch.length (d.nx+15):=fun hw=>by have:=K _ hw;omega
 have dm:¬L.W g.ch.length (d.nx+13):=fun hw=>by have:=K _ hw;omega
 have dn:X9.h.get (S.nx+2)=jf [.ct,.ct]:=by rw[old _ au au,s.2 _ au];exact bz
 have dp:X9.h.get (d.nx+15)=jf [.sl ib 0 g.ch.length g.ch.length false,.sl (d.nx+13) 0 g.ch.length g.ch.length false]:=by rw[old _ au au];exact a0
 have dq:X9.h.get (d.nx+13)=jf cs:=by rw[J.2 _ au];exact u
 have dr:S.nx+2<X9.nx:=by omega
 have du:d.nx+15<X9.nx:=by omega
 have dv:d.nx+13<X9.nx:=by omega
 have dw:S.nx<=d.nx+13:=by omega
 have dz:S.nx<=ib:=by omega
 have ey:ib<X9.nx:=by omega
 have dM:L.bs=bs/\L.cs=cs/\L.ib=ib:=by rw[hL];exact⟨rfl,rfl,rfl⟩
 clear hR u J x9 m9 x8 m8 g8 g9 dd bd old;refine aD (aD (bB (Q:=fun o O Y=>o= .normal/\O.inr=false/\lI (L.W g.ch.length) X9 Y/\aC 4 O.F= .ptr (S.nx+2) 0/\aC 6 O.F= .ptr (d.nx+15) 0/\∃t,aC 61 O.F= .bool t/\(t=true->¬jD g m)/\(t=false->m.getD 0 0=0/\∃I' F' O,Dyn L S Y I' F' O/\jN g m g.cg.length g.cg.length I' F' O)) (aL ?_) ?_))
 .by_cases h0:m.getD 0 0=0;rotate_left
  .refine fj p3 ca @aJ6 cf cj (Ac (show m.getD 0 0≠0 from h0)) l v ?_;exact⟨lI.refl _ _,true,rfl,fun _ a=>h0 a.root,nofun⟩
  refine fh p3 ca @aJ6 cf cj (Aa (show ¬m.getD 0 0≠0 from fun h=>h h0)) dj ?_;refine bK (ae ?_);have e0:gE m 0=0:=by unfold gE;rw[h0];rfl
  rw[e0] at ac;refine aW ac ?_;rintro _ Y ⟨bY,t,rfl,be,bj⟩;refine ez @fY l v ?_;refine⟨bY, !t,rfl,fun h=>?_,fun h=>⟨h0,?_⟩⟩
  .cases t with
   | true=>cases h
   | false=>exact be rfl
  .cases t with
   | false=>cases h
   | true=>exact bj rfl
 clear p2 p3 l v p7 ac;rintro o ⟨F,inr⟩ Y ⟨rfl,q0,bY,l,v,t,bk,bj,be⟩;simp only at q0 l v bk;subst q0;have cl:=(bY.2 _ dr ck).trans dn;have sY:Same S Y:=C.same bY;have lY:=bY.1;refine ae ?_
 cases t with
 | true=>
  refine aS (ah bk) ?_;refine cA (fo @aLP @mK ?_);refine cQ (b:=S.nx+2) (cs':=[.ct,.ct]) (ar l) (by refine am ?_;exact aY _) cl rfl rfl ?_;intro Y2 y2 k2 h2;refine am ?_;refine aT ?_;have bm:=mB (n:=2) h2 rfl;refine ft @dE l bm ?_;exact⟨⟨ax sY.1,fun c D=>by rw[y2.2 _ (ax sY.1) au,sY.2 _ D]⟩,_,_,false,rfl,⟨nofun,fun a=>absurd a (bj rfl)⟩,nofun⟩
 | false=>
  have⟨h0,I',F',O,cm,dU⟩:=be rfl;refine aQ (ah bk) (aK ?_);refine ae ?_
  have a5:=(bY.2 _ du dk).trans dp;have a8:=(bY.2 _ dv dm).trans dq;have dV:=mB (n:=2) a5 rfl;have⟨hA,hI,dW⟩:=dU.full G M h0;refine cA (fo v dV ?_);refine cQ (b:=S.nx+2) (cs':=[.sl ib 0 g.ch.length g.ch.length false,.sl (d.nx+13) 0 g.ch.length g.ch.length false]) (ar l) (by refine am ?_;exact aY _) cl rfl rfl ?_;intro Y2 y2 k2 h2;refine am ?_;refine aT ?_;have bm:=mB (n:=2) h2 rfl;refine ft @dE l bm ?_;have⟨r1,r2,r3⟩:=dM;have gi:=cm.gi;have bn:=cm.rw;rw[r3,hI] at gi;rw[r1,r2,dW] at bn;have dY:(dx g m).length=g.ch.length:=by simp [dx]
  have cn:(dy g m).length=g.ch.length:=by simp [dy]
  refine⟨⟨ax sY.1,fun c D=>by rw[y2.2 _ (ax sY.1) au,sY.2 _ D]⟩,_,_,true,rfl,⟨fun _=>hA,fun _=>rfl⟩,fun _=>⟨⟨ib,by rw[dY],dz,au,?_⟩,d.nx+13,bs,cs,by rw[cn],dw,au,?_,bn.move au fun j hj=>?_⟩⟩
  .rw[y2.2 _ au au];exact gi
  .rw[y2.2 _ au au];exact a8
  .have⟨h1,dZ,_⟩:=bn.bl j hj;refine y2.2 _ dZ fun e=>ck ?_;rw[<-e,<-r1];exact .inr (.inr ⟨j,by rw[<-cn];exact hj,rfl⟩)
def aEv{m:bu}:aI6 (xC g m):=fun {S0 S1 v x y} h c d=>by
 have⟨⟨b,p,e,f,q⟩,i,r,cs,s,k,l,t,o⟩:=h;refine⟨⟨b,p,e,Ae f c,(d b e f).trans q⟩,i,r,cs,s,k,Ae l c,(d i k l).trans t,o.move c fun j u=>?_⟩;have⟨a,b,_⟩:=o.bl j u;exact d _ a b
def aQP{m:bu}(H:Has fns)(e:aG 6 cF S nv g.cg)(hi:aG 2 cE S iv g.ch)(f:bN .i64 S mv m):aR9 fns S nv iv mv g m (jD g m) (xC g m):=fun h i j _ S0 q k l pv T Z a o c d p=>
 aDL H (aG.same (E:=cF) bQ e a) (aG.same (E:=cE) cB hi a) (f.same a) (iN h) ⟨i,j⟩ o c d p
end Go.Ev.Gl
namespace Go.Ev.Gl
variable {S:St}{l:bu}{t:TypeId}
def aLg{k:IntKind}{v:AV}(h:aG 1 (aP6 k) S v l):bN k S v l:=by
 rcases h with h|⟨b,off,cap,o,cs,rfl,a,c,d,f⟩
 .exact .inl h
 .refine .inr ⟨b,off,cap,o,cs,rfl,a,c,d,fun i x hi=>?_⟩;obtain⟨e,j,g,rfl,_⟩:=f i x hi;have:=g 0 _ rfl;rw[Dm,Bs] at this;exact this
abbrev aIS(k:IntKind):St->cd->bu->Prop:=aOE 1 (aP6 k)
def aPK{k:IntKind}{a:cd}(h:aIS k S a l):∃v,a= [v]/\bN k S v l:=by
 have⟨v,c,d⟩:=aOE.is h;exact⟨v,c,aLg d⟩
def aQ2(g:aX):Prop:=g.ch.length * 16<=140737488355328/\∀x∈g.cg,x.next.length * 8<=140737488355328/\x.weights.length * 8<=140737488355328/\x.pay.length * 8<=140737488355328
section
variable {P:Program}{σ:Env}{S:St}{w:World}
def aMH{k:IntKind}{S:St}{a:cd}(h:aIS k S a l):l.length<=140737488355328:=by
 have⟨_,_,h,_⟩:=h;omega
def aFE{k:IntKind}{H:Type}{enc:TypeId×Value->H}{base:Nat}{spare:Nat->Bool}{held:Bool}{d:Nat}{v:Value}{x:DataW H×List MemPlace}(j:mD P σ S w)(m:aBR S)(o:aBI S)(p:P.globals.size<=S.nx)(q:Lays P t (aIS k))(h:DataW.trod enc P w base spare held d t v.cells.toList=some x)(r:v.cells.toList= [v])(s:∀n∈DataW.weights P t x.1,n<=140737488355328):
  ∃c e a l,tH P σ S w c e/\Rv P c a v/\bN k e a l/\l.length<=140737488355328/\S.nx<=e.nx:=by
 have⟨c,e,u,l,y,g,E,i,f⟩:=q H enc σ S w base spare held d _ x j m o p h s;have z:=aMH i;obtain⟨a,rfl,B⟩:=aPK i;rw[r] at g;have⟨_,_,C,D,G⟩:=dK.1 g;cases C;exact⟨c,e,a,l,y,D,B,z,f⟩
def aLO{e:TypeId}{k:IntKind}(a:P.underlying t=some (.slice e))(c:P.underlying e=some (.int k))(d:P.cellsOf e=1)(f:8<=P.bytesOf e):Lays P t (aIS k):=aJE a d az au (aO0 c) aNv
end
end Go.Ev.Gl
