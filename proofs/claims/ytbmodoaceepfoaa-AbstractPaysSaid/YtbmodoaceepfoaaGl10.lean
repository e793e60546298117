import Derived.Test.YtbmodoaceepfoaaGl9
set_option linter.all false
open Nat renaming reduceEqDiff -> rE, reduceAdd -> rA
set_option maxHeartbeats 0
namespace Go.Ev.Gl
variable {fns:T fD}
variable {l Z:bt}{i b m1:Nat}{v:Int}{S S0:St}{g:aP}{nv iv pv mv:AV}{F:Fr}
def aLN(hi:i<l.length)(h:l.getD i 0=v):l.set i v=l:=by
 refine aLe (Ar ..) fun j a=>?_;rw[oR hi];split
 .rename_i e;rw[<-e,h]
 .rfl
def aAD{sz:Nat}{x:Int}(H:Has fns)(j:S.h.get b=some (.cells (aQ l) false sz))(m:0<=x)(f:x.toNat<l.length):
  iK fns (.fn 84 [] []) [tF b l,jr x,jr v] S fun r S'=>cA b S S'/\∃t,r= .bool t/\(t=true->S'.h.get b=some (.cells (aQ (l.set x.toNat v)) false sz)/\(0<=l.getD x.toNat 0->l.getD x.toNat 0=v))/\(t=false->0<=l.getD x.toNat 0/\l.getD x.toNat 0≠v):=by
 unfold tF;have g:=qO (k:=.i64) m;have a:=eX (b:=b) (o:=false) f;have d:=aAd j f;refine cJ H.f84 (by simp) ?_;refine ae ?_;refine bS (ae ?_);by_cases e:l.getD x.toNat 0<0
 .refine fZ (d8 g a d ?_);refine aM (ja (Ac e)) ?_;refine aF (dz g a ?_);refine eK (fun call=>by refine dz @dE @cF ?_;exact qQ (S:=S) j f) ?_;refine ae ?_;have i:(S.h.set b (some (.cells (aQ (l.set x.toNat v)) false sz))).get b=some (.cells (aQ (l.set x.toNat v)) false sz):=by rw[dx,if_pos rfl]
  have c:=aAd i (show x.toNat<(l.set x.toNat v).length by rw[Ar];exact f);rw[oR f,if_pos rfl] at c;refine bS (d8 g a c ?_);refine aS (ae ?_);exact⟨(cA.refl b S).put _,_,rfl,fun _=>⟨i,fun h=>absurd e au⟩,fun h=>by simp at h⟩
 .refine fZ (d8 g a d ?_);refine aK (ja (Aa e)) (aG ?_);refine ae ?_
  refine bS (d8 g a d ?_);refine aS (ae ?_);refine⟨cA.refl b S,_,rfl,fun h=>?_,fun h=>?_⟩
  .rw[Cu] at h;exact⟨by rw[aLN f h];exact j,fun _=>h⟩
  .rw[decide_eq_false_iff_not] at h;exact⟨au,h⟩
def aUz(S:St)(a b:AV)(l m:bt)(k:Nat)(A:bO)(X:St):Prop:=A.inr=false/\jq S X/\∃i,i+k=l.length/\l.take i=m.take i/\aA 0 A.F=a/\aA 1 A.F=b/\aA 12 A.F=jr (l.length:Int)/\aA 13 A.F=jr (i:Int)
def aJG{a b:AV}{m:bt}(H:Has fns)(u:bN .i64 S a l)(x:bN .i64 S b m)(N:l.length<=10000000):iK fns (.fn 83 [] []) [a,b] S fun r S'=>r= .bool (decide (l=m))/\jq S S':=by
 refine cJ H.f83 (by simp) ?_;refine am ?_;refine bS (am ?_);refine fZ (gj u.len x.len @Ag ?_);by_cases y:l.length=m.length;rotate_left
 .rw[Aa (show ¬l=m from fun e=>y (by rw[e]))];refine aM i9 ?_;refine bS (am ?_);refine aS (am ?_);exact dy _
 refine aK i9 (aG ?_);refine am ?_
 refine aB (aX (Q:=fun o C X=>(o= .normal/\aUz S a b l m 0 C X)\/(o= .ret/\jq S X/\l≠m/\aA 4 C.F= .bool false)) (aB (aF ?_)) ?_)
 .refine gh u.len @Ag ?_;refine aJ (bL (aUz S a b l m) ?_ l.length _ _ ⟨rfl,dy _,0,au,rfl,aq,aq,aq,aq⟩);rintro k ⟨F,inr⟩ X ⟨rfl,f,i,p,q,s,t,g,d⟩;simp only at s t g d;refine bS (gh g d ?_);by_cases j:i<l.length
  .refine aB (aM i9 (aG ?_));refine am ?_
   have c:i<m.length:=by omega
   have G:=(u.jo f).c9 j;have J:=(u.jo f).ld j;have K:=(x.jo f).c9 c;have lb:=(x.jo f).ld c;have M:=du i
   refine aB (aJ (aB (aF ?_)));refine fx d ?_;refine aB (gI ?_);refine ig s t @aY G K J lb ?_;have el:l.getD i 0=l[i]:=by rw[Ad,Ab j];rfl
   have em:m.getD i 0=m[i]:=by rw[Ad,Ab c];rfl
   by_cases v:l.getD i 0=m.getD i 0
   .refine aK (jd (Aa (show ¬l.getD i 0≠m.getD i 0 from fun h=>h v))) (aG ?_);refine am ?_
    refine aF (gh d M ?_);refine⟨k - 1,au,rfl,f.trans (jq.nx _ _),i+1,au,?_,ar s,ar t,ar g,aq⟩;rw[Cc,Cc,q,Ab j,Ab c,<-el,<-em,v]
   .refine aM (jd (Ac (show l.getD i 0≠m.getD i 0 from v))) ?_;refine bS (am ?_);refine aS (am ?_);exact .inr ⟨f.trans (jq.nx _ _),fun e=>v (by rw[e])⟩
  .refine aB (aK i9 (bH ?_));refine am ?_;have z:k=0:=by omega
   subst z;exact .inl ⟨rfl,f,i,p,q,ar s,ar t,ar g,ar d⟩
 rintro o ⟨F,inr⟩ X (⟨rfl,D,f,i,p,q,s,t,g,d⟩|⟨rfl,f,B,E⟩);rotate_left
 .simp only at E;refine fx E ?_;rw[Aa B];exact⟨rfl,f⟩
 simp only at D;subst D;rw[Bh au,Bh au] at q;rw[Ac q];refine am ?_
 refine bS (am ?_);refine aS (am ?_);exact f
def aB9{h:Ev.T AB}{P P':Fr->Prop}(e:∀F,P F->P' F):∀ (l:List AO) (F:Fr),pR l F h P->pR l F h P'
 | [],F,c=>e F c
 | ⟨d,.q q,g,m⟩::l,F,c=>by
  simp only[pR] at c ⊢;split at c
  .rename_i f;rw[if_pos f];have⟨w,i,j,k⟩:=c;exact⟨w,i,j,aB9 e l _ k⟩
  .rename_i f;rw[if_neg f];exact aB9 e l _ c
 | ⟨d,.a a,g,m⟩::l,F,c=>by cases c
 | ⟨d,.x a,g,m⟩::l,F,c=>by cases c
def aP6{a pre:List AO}{K m z s d g q:Nat}{b:Bool}{f:cQ}{args:List cQ}{j k:QOp}{A:bO}{Q:Out->bO->St->Prop}
  (C:a=pre++ [⟨some d,.x (.call f args),some (s,b),m⟩,⟨some g,.q j,some (s,b),m1⟩,⟨some q,.q k,none,z⟩]) (D:pre.length=K) (E:(pre.all fun o=> !Nat.testBit o.mask K)=true) (G:((List.range K).all fun i=>Nat.testBit m i)=true) (H:d≠s) (r:dU j=false) (t:dU k=false)
  (h:pR pre A.F S.h fun F'=>aA s F'= .bool b/\iK fns (f.val F') (dV args F') ⟨S.h,S.nx+(K+3)⟩ fun v S1=>∃c p,iC j (cT (some d) F' v) S1.h=some c/\iC k (cT (some g) (cT (some d) F' v) c) S1.h=some p/\Q .normal ⟨cT (some q) (cT (some g) (cT (some d) F' v) c) p,A.inr⟩ S1):jN fns (.drw a) A S Q:=by
 subst C;have e:(pre++ [(⟨some d,.x (.call f args),some (s,b),m⟩:AO),⟨some g,.q j,some (s,b),m1⟩,⟨some q,.q k,none,z⟩]).length=K+3:=by simp [D]
 apply rC;rw[e];refine aBo (h:=S.h) (K:=K) (pre:=pre) (i:=0) rfl au (fun o J=>by have:=Dq.1 E o J;simpa using this) (fun l u=>by cases u) ?_;refine aB9 ?_ pre A.F h;rintro F' ⟨B,M⟩ ls x;refine aN7 B (aBe rfl ?_);simp only[bK];refine aW M ?_;rintro v S1 ⟨c,p,x1,x2,N⟩;refine aN7 (by rw[<-B];simp only[bE];rw[if_neg (Ch H)]) ?_;rw[iT];refine⟨c,x1,?_⟩;simp only[r,aR];rw[iT];refine⟨p,x2,?_⟩;simp only[t,aR];rw[iL];refine⟨?_,?_⟩
 .simp only[Cg,List.reverse_nil,Bu];refine oD fun l u=>?_;have⟨O,R,T⟩:=x l u;have y:=Dq.1 G l.i (Dp.2 R);unfold eU;rw[T,aR,O,aL,y,aL]
 .simp only[bK];exact N
def lH(W:Nat->Prop)(S X:St):Prop:=S.nx<=X.nx/\∀c,c<S.nx->¬W c->X.h.get c=S.h.get c
section
variable {W:Nat->Prop}{S X Y:St}{b:Nat}
def lH.refl(W:Nat->Prop)(S:St):lH W S S:=⟨Af _,fun _ _ _=>rfl⟩
def lH.trans(h:lH W S X)(h':lH W X Y):lH W S Y:=⟨Aq h.1 h'.1,fun c a d=>(h'.2 c (Ae a h.1) d).trans (h.2 c a d)⟩
def jq.butW(h:jq S X):lH W S X:=⟨h.1,fun c a _=>h.2 c a⟩
def cA.butW(h:cA b S X)(a:W b):lH W S X:=⟨h.1,fun c d f=>h.2 c d fun e=>f (by rw[e];exact a)⟩
def lH.jo(h:lH W S X)(a:jq S0 S)(e:∀b,W b->S0.nx<=b):jq S0 X:=⟨Aq a.1 h.1,fun c d=>(h.2 c (Ae d a.1) fun f=>by have:=e c f;omega).trans (a.2 c d)⟩
end
structure Lay where
 sb:Nat
 ob:Nat
 fb:Nat
 mb:Nat
 kb:Nat
 wb:Nat
 ib:Nat
 rb:Nat
 ab:Nat
 bs:Nat->Nat
 cs:bu
def Lay.W(L:Lay)(n c:Nat):Prop:=c=L.ib\/c=L.rb\/∃j,j<n/\c=L.bs j
def Lay.fn(L:Lay):AV:=.fn 82 [] [.ptr L.sb 0,.ptr L.ob 0,.ptr L.fb 0,.ptr L.mb 0,.ptr L.kb 0]
structure Laid(L:Lay)(S0 S1:St)(n:Nat)(mv:AV):Prop where
 s01:jq S0 S1
 gs:S1.h.get L.sb=some (.cells [.ptr L.wb 0] false 0)
 go:S1.h.get L.ob=some (.cells [.sl L.ib 0 n n false,.sl L.ab 0 n n false] false 0)
 gf:S1.h.get L.fb=some (.cells [.sl L.rb 0 n n false] false 0)
 gm:S1.h.get L.mb=some (.cells [mv] false 0)
 gk:S1.h.get L.kb=some (.cells [L.fn] false 0)
 ga:S1.h.get L.ab=some (.cells L.cs false 0)
 ls:L.sb<S1.nx/\¬L.W n L.sb
 lo:L.ob<S1.nx/\¬L.W n L.ob
 lf:L.fb<S1.nx/\¬L.W n L.fb
 lm:L.mb<S1.nx/\¬L.W n L.mb
 lk:L.kb<S1.nx/\¬L.W n L.kb
 la:L.ab<S1.nx/\¬L.W n L.ab
 w0:∀b,L.W n b->S0.nx<=b/\b<S1.nx
 ir:L.ib≠L.rb
 is:∀j,j<n->L.ib≠L.bs j/\L.rb≠L.bs j
structure Dyn(L:Lay)(S0 X:St)(I F:bt)(A:bo):Prop where
 gi:X.h.get L.ib=some (.cells (aQ I) false 0)
 gr:X.h.get L.rb=some (.cells (aQ F) false 0)
 rw:Rws S0 X L.bs L.cs A
section
variable {L:Lay}{S0 S1 X Y:St}{n:Nat}{mv:AV}{I F:bt}{A:bo}
def Laid.s(h:Laid L S0 S1 n mv)(a:lH (L.W n) S1 X):X.h.get L.sb=js [.ptr L.wb 0]:=(a.2 _ h.ls.1 h.ls.2).trans h.gs
def Laid.o(h:Laid L S0 S1 n mv)(a:lH (L.W n) S1 X):X.h.get L.ob=js [.sl L.ib 0 n n false,.sl L.ab 0 n n false]:=(a.2 _ h.lo.1 h.lo.2).trans h.go
def Laid.f(h:Laid L S0 S1 n mv)(a:lH (L.W n) S1 X):X.h.get L.fb=js [.sl L.rb 0 n n false]:=(a.2 _ h.lf.1 h.lf.2).trans h.gf
def Laid.m(h:Laid L S0 S1 n mv)(a:lH (L.W n) S1 X):X.h.get L.mb=js [mv]:=(a.2 _ h.lm.1 h.lm.2).trans h.gm
def Laid.k(h:Laid L S0 S1 n mv)(a:lH (L.W n) S1 X):X.h.get L.kb=js [L.fn]:=(a.2 _ h.lk.1 h.lk.2).trans h.gk
def Laid.a(h:Laid L S0 S1 n mv)(a:lH (L.W n) S1 X):X.h.get L.ab=js L.cs:=(a.2 _ h.la.1 h.la.2).trans h.ga
def Laid.jo(h:Laid L S0 S1 n mv)(a:lH (L.W n) S1 X):jq S0 X:=a.jo h.s01 fun b c=>(h.w0 b c).1
def Laid.move(h:Laid L S0 S1 n mv)(a:lH (L.W n) S1 X):Laid L S0 X n mv:=
 ⟨h.jo a,h.s a,h.o a,h.f a,h.m a,h.k a,h.a a,⟨Ae h.ls.1 a.1,h.ls.2⟩,⟨Ae h.lo.1 a.1,h.lo.2⟩,⟨Ae h.lf.1 a.1,h.lf.2⟩,⟨Ae h.lm.1 a.1,h.lm.2⟩,⟨Ae h.lk.1 a.1,h.lk.2⟩,⟨Ae h.la.1 a.1,h.la.2⟩,fun b c=>⟨(h.w0 b c).1,Ae (h.w0 b c).2 a.1⟩,h.ir,h.is⟩
def Dyn.jo(h:Dyn L S0 X I F A)(c:Laid L S0 S1 n mv)(d:S1.nx<=X.nx)(a:jq X Y):Dyn L S0 Y I F A:=
 ⟨(a.2 _ (Ae (c.w0 _ (.inl rfl)).2 d)).trans h.gi,(a.2 _ (Ae (c.w0 _ (.inr (.inl rfl))).2 d)).trans h.gr,h.rw.jo a⟩
end
def WkT(L:Lay)(F:Fr)(xb a c:Nat):Prop:=aA 1 F=jr (c:Int)/\aA 2 F= .ptr L.sb 0/\aA 3 F= .ptr L.ob 0/\aA 4 F= .ptr L.fb 0/\aA 5 F= .ptr L.mb 0/\aA 6 F= .ptr L.kb 0/\aA 10 F= .ptr xb 0/\aA 11 F= .ptr a 0
def KdT(L:Lay)(F:Fr)(xb a c j r v d:Nat)(xa:AV)(b:Bool):Prop:=WkT L F xb a c/\aA 12 F= .bool b/\aA 13 F=jr (j:Int)/\aA 14 F=jr (r:Int)/\aA 15 F=jr (v:Int)/\aA 88 F=xa/\aA 89 F=jr (d:Int)/\aA 90 F=jr (j:Int)
noncomputable def agC:List AO:=[mt 130 12,
om 131 1 (.mv (.t 130)),
og 132 131 true 3 (.dd 1 (.t 3)),
og 133 131 true 7 (ld 132),
og 134 131 true 3 (.dd 2 (.t 10)),
og 135 131 true 19 (ld 134),
og 136 131 true 63 (.c9 (.slice 1) (.t 133) (.t 135)),
og 137 131 true 127 (ld 136),
og 138 131 true 3 (.mv (.t 13)),
og 139 131 true 3 (ld 2),
og 140 131 true 515 (.cw (.t 139)),
og 141 131 true 1539 (.dd 4 (.t 140)),
og 142 131 true 3587 (ld 141),
og 143 131 true 3 (.mv (.t 15)),
og 144 131 true 15875 (.c9 (.slice 1) (.t 142) (.t 143)),
og 145 131 true 32259 (ld 144)]
def WkF(L:Lay)(S1:St)(g:aP)(m:bt)(A:bO)(X:St):Prop:=lH (L.W g.cg.length) S1 X/\¬iQ g m/\aA 9 A.F= .bool false
def aTQ(L:Lay)(S0 S1:St)(g:aP)(m:bt)(i e xb a:Nat)(xa:AV)(d f:Option AB)(rec:Nat->Option (List cL))(k:Nat)(A:bO)(X:St):Prop:=A.inr=false/\lH (L.W g.cg.length) S1 X/\xb<X.nx/\a<X.nx/\∃ (j r:Nat) (Tr:List cL) (I F:bt) (c:bo),j+k=(ct g i).ji.length/\fU rec ((ct g i).ji.drop j) r=some Tr/\r+Tr.length=e/\Dyn L S0 X I F c/\jM g m r r I F c/\WkT L A.F xb a (fW m i)/\X.h.get xb=d/\X.h.get a=f/\aA 12 A.F= .bool (decide ((ct g i).jk=2))/\aA 88 A.F=xa/\aA 89 A.F=jr (((ct g i).ji.length:Nat):Int)/\aA 90 A.F=jr (j:Int)
def aJE{L:Lay}{m:bt}{T:List cL}{da e2:Nat}(H:Has fns)(hn:aE 6 bT S0 nv g.ce)(hm:bN .i64 S0 mv m)(G:cV g)(M:aBc g m)(dt:T.length=g.ce.length)(hW:WF (dP g) 0 (-1) T)(e3:bN .i64 S0 pv (T.map (·.1)))(hB:kE S0 L.wb da e2 pv nv iv g (mS g) Z):
  ∀ (f:Nat) {X:St} {i:Nat} {p d:Int} {T':List cL} {I F:bt} {A:bo},eT g.ce.length (dP g) f i p d=some T'->Laid L S0 X g.cg.length mv->Dyn L S0 X I F A->jM g m i (i+1) I F A->
  iK fns L.fn [jr (i:Int),jr ((fW m i:Nat):Int)] X fun r X'=>lH (L.W g.cg.length) X X'/\∃t,r= .bool t/\(t=false->¬iQ g m)/\(t=true->∃I' F' D,Dyn L S0 X' I' F' D/\jM g m (i+T'.length) (i+T'.length) I' F' D):=by
 have hN:=G.n2;have gV:=G.ni;intro f
 induction f with
 | zero=>intro X i p d T' I F A bs;cases bs
 | succ f ih=>
  intro X i p d T' I F A bs C hD hS;have hX:lH (L.W g.cg.length) X X:=lH.refl _ _;simp only[eT] at bs;split at bs;rotate_left
  .cases bs
  rename_i y;obtain⟨L',bm,rfl⟩:=Bc.1 bs;rw[iJ] at bm;have lX:=hX.1;have sX:jq S0 X:=C.jo hX;have e4:=(hB.w.jo sX).1;have e5:=(hB.w.jo sX).2;have e6:=cM (p:=0) (C.s hX) rfl;have e7:L.sb<X.nx:=Ae C.ls.1 lX;have⟨gW,cz⟩:=M.at y;obtain⟨_,bx,qx,dv,dw,_,⟨xa,xw,xp,rfl,cc,dc,dF⟩,bC,_⟩:=aE.at hn az (cU y);obtain⟨_,e8,qy,dM,dY,_,⟨ya,yw,yp,rfl,dZ,dd,hyp⟩,bI,_⟩:=aE.at hn az (cU cz);rw[<-eM sX dw] at bC;rw[<-eM sX dY] at bI;have e9:=aE.self hn;have sx:=sI (k:=.i64) (x0:=(ct g i).jk) (x1:=(ct g i).jl) (x2:=(ct g i).jj) (bN.self cc) (bN.self dc) (bN.self dF);have sy:=sI (k:=.i64) (x0:=(ct g (fW m i)).jk) (x1:=(ct g (fW m i)).jl) (x2:=(ct g (fW m i)).jj) (bN.self dZ) (bN.self dd) (bN.self hyp);have e':bx<X.nx:=Ae dw sX.1;have fa:e8<X.nx:=Ae dY sX.1;show iK fns (.fn 82 [] [.ptr L.sb 0,.ptr L.ob 0,.ptr L.fb 0,.ptr L.mb 0,.ptr L.kb 0]) _ _ _;refine cJ H.f82 (by simp) ?_;refine ae ?_;refine bS (ae ?_);refine aB (nR (fun _=>False) ?_);refine ft e6 e7 @Ap (eF e4) e5 e9 dv bC sx e' dM bI sy fa @pY ?_;refine aOX (n:=6) rfl rfl rfl (af) (af) (by refine ae ?_;exact bB _) (by refine ae ?_;exact bB _) rfl rfl rfl au au au ?_;intro X1 bM ab ac d';rw[bK];have bM:X1.nx=X.nx+20:=bM;have ea:jq X X1:=⟨au,fun c hc=>d' c au au⟩;have eb:X.nx+16<X1.nx:=by omega
  have ed:X.nx+17<X1.nx:=by omega
  show jN fns _ _ X1 _;refine aB (aB (aX (Q:=fun o D Y=>o= .normal/\D.inr=false/\jq X1 Y/\WkT L D.F (X.nx+16) (X.nx+17) (fW m i)/\∃t,aA 60 D.F= .bool t/\(t=true↔¬aDf g m i)) (aF ?_) ?_))
  .have bp:=sX.trans ea;have cW:=cc.jo bp;have cX:=dZ.jo bp;have ee:=dF.jo bp;have eg:=hyp.jo bp;by_cases q1:(ct g i).jk=(ct g (fW m i)).jk;rotate_left
   .simp only[↓sU,sD,rE,↓reduceIte,rA,fF ab,fF ac,Ac (show(ct g i).jk≠(ct g (fW m i)).jk from q1),WkT];exact⟨dy _,true,rfl,fun _ h=>q1 h.1,fun _=>rfl⟩
   have df:=Aa (show ¬ (ct g i).jk≠(ct g (fW m i)).jk from fun h=>h q1);by_cases q4:(ct g i).jl=(ct g (fW m i)).jl;rotate_left
   .simp only[↓sU,sD,rE,↓reduceIte,rA,fF ab,fF ac,eF ab,eF ac,df,Ac (show(ct g i).jl≠(ct g (fW m i)).jl from q4),WkT];exact⟨dy _,true,rfl,fun _ h=>q4 h.2.2.2,fun _=>rfl⟩
   have eh:=Aa (show ¬ (ct g i).jl≠(ct g (fW m i)).jl from fun h=>h q4);by_cases q2:(ct g i).ji.length=(ct g (fW m i)).ji.length;rotate_left
   .simp only[↓sU,sD,rE,↓reduceIte,rA,fF ab,fF ac,eF ab,eF ac,dD ab,dD ac,cW.len,cX.len,Ag,df,eh,Ac (show(((ct g i).ji.length:Nat):Int)≠(((ct g (fW m i)).ji.length:Nat):Int) by omega),WkT];exact⟨dy _,true,rfl,fun _ h=>q2 h.2.1,fun _=>rfl⟩
   simp only[↓sU,sD,rE,↓reduceIte,rA,fF ab,fF ac,eF ab,eF ac,dD ab,dD ac,fA ab,fA ac,cW.len,cX.len,Ag,df,eh,Aa (show ¬ (((ct g i).ji.length:Nat):Int)≠(((ct g (fW m i)).ji.length:Nat):Int) by omega),WkT];refine bJ (ae ?_);refine aW (aJG H ee eg (by have:=G.jn i y;omega)) ?_;rintro _ Y ⟨rfl,hY⟩;simp only[↓sU,sD,rE,↓reduceIte,rA,iY];refine⟨hY,_,rfl,?_⟩;by_cases q3:(ct g i).jn=(ct g (fW m i)).jn
   .rw[Ac q3];exact⟨nofun,fun h=>absurd ⟨q1,q2,q3,q4⟩ h⟩
   .rw[Aa q3];exact⟨fun _ h=>q3 h.2.2.1,fun _=>rfl⟩
  rintro o ⟨F0,inr⟩ Y ⟨rfl,rfl,hY,hP,t,cf,dg⟩;simp only at hP cf;have⟨N,E,J,O,p5,p6,a,l⟩:=hP;have ei:=ea.trans hY;have bY:lH (L.W g.cg.length) X Y:=hX.trans (jq.butW ei);refine ae ?_
  cases t with
  | true=>
   refine aM (ah cf) ?_;refine bS (ae ?_);refine aS (ae ?_);exact⟨bY,false,rfl,fun _=>aKx y (dg.1 rfl),nofun⟩
  | false=>
  have hL:aDf g m i:=Classical.byContradiction fun h=>by have:=dg.2 h;cases this
  refine aK (ah cf) (aG ?_);refine ae ?_
  have bv:Dyn L S0 Y I F A:=hD.jo C lX ei;have ba:=(hY.2 _ eb).trans ab;have bq:=(hY.2 _ ed).trans ac;have ch:X.nx+16<Y.nx:=Ae eb hY.1;have cj:X.nx+17<Y.nx:=Ae ed hY.1;have bb:∀ {b},X.nx<=b->¬L.W g.cg.length b:=fun {b} hb hw=>by have:=(C.w0 b hw).2;omega
  refine bS (dz a (fF ba) ?_);refine aB (aX (Q:=fun o D Z=>(o= .normal/\D.inr=false/\lH (L.W g.cg.length) X Z/\lH (L.W g.cg.length) Y Z/\(∃I' F',Dyn L S0 Z I' F' A/\jM g m (i+1) (i+1) I' F' A)/\WkT L D.F (X.nx+16) (X.nx+17) (fW m i)/\aA 12 D.F= .bool (decide ((ct g i).jk=2)))\/(o= .ret/\WkF L X g m D Z)) (aB (aX (Q:=fun o D Z=>o= .normal/\D.inr=false/\lH (L.W g.cg.length) X Z/\lH (L.W g.cg.length) Y Z/\WkT L D.F (X.nx+16) (X.nx+17) (fW m i)/\aA 12 D.F= .bool (decide ((ct g i).jk=2))/\∃t,aA 86 D.F= .bool t/\(t=true->¬iQ g m)/\(t=false->∃I' F',Dyn L S0 Z I' F' A/\jM g m (i+1) (i+1) I' F' A)) (aF ?_) ?_)) ?_)
  .by_cases hk:(ct g i).jk=2;rotate_left
   .simp only[↓sU,sD,rE,↓reduceIte,rA,Aa hk,WkT,N,E,J,O,p5,p6,a,l];exact⟨bY,lH.refl _ _,false,rfl,nofun,fun _=>⟨I,F,bv,hS.node hL hk⟩⟩
   have⟨a1,a2,a3⟩:=G.inf i y hk;have⟨c1,c2⟩:=rM G M y hL hk;have fb:(ct g i).jj.toNat<I.length:=by rw[hS.s.li];omega
   have fc:(ct g (fW m i)).jj.toNat<F.length:=by rw[hS.lf];omega
   have rI:tF L.ib I= .sl L.ib 0 g.cg.length g.cg.length false:=by unfold tF;rw[hS.s.li]
   have rF:tF L.rb F= .sl L.rb 0 g.cg.length g.cg.length false:=by unfold tF;rw[hS.lf]
   have fd:=zP (j:=0) (C.o bY) rfl;have gX:=cM (p:=0) (C.f bY) rfl;refine ew (Ac hk) J a l fd (dI ba) (dI bq) ?_;refine bJ (ae ?_);have bP:=aAD (v:=(ct g (fW m i)).jj) H bv.gi a1 fb;rw[rI] at bP;refine aW bP ?_;rintro _ Y2 ⟨a5,t,rfl,aw,aa⟩;have bd:L.W g.cg.length L.ib:=.inl rfl;have di:=bY.trans (a5.butW bd);cases t with
   | false=>
    simp only[↓sU,sD,rE,↓reduceIte,rA,iY,Ej,WkT,N,E,J,O,p5,p6,a,l,Ac hk];exact⟨di,a5.butW bd,true,rfl,fun _=>hS.s.no_info G y hk (aa rfl).1 (aa rfl).2,nofun⟩
   | true=>
   have⟨fi,hI⟩:=aw rfl;have ej:Y2.h.get (X.nx+16)=_:=(a5.2 _ ch (fun e=>bb (b:=X.nx+16) au (by rw[e];exact bd))).trans ba;have ek:Y2.h.get (X.nx+17)=_:=(a5.2 _ cj (fun e=>bb (b:=X.nx+17) au (by rw[e];exact bd))).trans bq;have fk:=cM (p:=0) (C.f di) rfl;refine ez @iY @Dn O a l fk (dI ej) (dI ek) ?_;refine bJ (ae ?_);have b0:L.W g.cg.length L.rb:=.inr (.inl rfl);have dj:L.rb<Y.nx:=Ae (C.w0 _ b0).2 bY.1;have dm:L.ib<Y.nx:=Ae (C.w0 _ bd).2 bY.1;have fp:=(a5.2 _ dj (Ch C.ir)).trans bv.gr;have cY:=aAD (v:=(ct g i).jj) H fp c1 fc;rw[rF] at cY;refine aW cY ?_;rintro _ Y3 ⟨ck,t,rfl,aw,aa⟩;have en:=di.trans (ck.butW b0);have b1:=(a5.butW bd).trans (ck.butW b0);cases t with
   | false=>
    simp only[↓sU,sD,rE,↓reduceIte,rA,iY,Ej,WkT,N,E,J,O,p5,p6,a,l,Ac hk];exact⟨en,b1,true,rfl,fun _=>hS.no_from G M y hL hk (aa rfl).1 (aa rfl).2,nofun⟩
   | true=>
   obtain⟨fq,hF⟩:=aw rfl;simp only[↓sU,sD,rE,↓reduceIte,rA,iY,Dn,WkT,N,E,J,O,p5,p6,a,l,Ac hk];refine⟨en,b1,false,rfl,nofun,fun _=>⟨_,_,⟨?_,fq,bv.rw.move b1.1 fun j hj=>?_⟩,hS.nodeM G M y hL hk hI hF⟩⟩
   .rw[ck.2 _ (Ae dm a5.1) C.ir];exact fi
   .have eo:j<g.cg.length:=by rw[<-hS.s.la];exact hj
    have ep:=(bv.rw.bl j hj).2.1;rw[ck.2 _ (Ae ep a5.1) (Ch (C.is j eo).2),a5.2 _ ep (Ch (C.is j eo).1)]
  .clear N E J O p5 p6 a l;rintro o ⟨F1,inr⟩ Z ⟨rfl,rfl,bZ,bw,hP,s,t,dn,aw,aa⟩;simp only at hP s dn;have⟨N,E,J,O,p5,p6,a,l⟩:=hP;refine ae ?_
   cases t with
   | true=>
    refine aM (ah dn) ?_;refine bS (ae ?_);apply aS;refine .inr ⟨rfl,bZ,aw rfl,?_⟩;simp only[↓sU,sD,rE,↓reduceIte,rA]
   | false=>
    refine aK (ah dn) (aG ?_);exact .inl ⟨rfl,rfl,bZ,bw,aa rfl,⟨N,E,J,O,p5,p6,a,l⟩,s⟩
  rintro o ⟨F1,inr⟩ Z (⟨rfl,q0,bZ,bw,⟨I',F',er,es⟩,hP,s⟩|⟨rfl,hf⟩);rotate_left
  .have⟨h1,h2,h3⟩:=hf;refine c8 h3 ?_;exact⟨h1,false,rfl,fun _=>h2,nofun⟩
  simp only at q0 hP s;subst q0;have⟨N,E,J,O,p5,p6,a,l⟩:=hP;have cl:=(bw.2 _ ch (bb au)).trans ba;have dp:=(bw.2 _ cj (bb au)).trans bq;have fr:X.nx+16<Z.nx:=Ae ch bw.1;have fs:X.nx+17<Z.nx:=Ae cj bw.1;have sZ:=C.jo bZ;have et:=cc.jo sZ;refine ae ?_
  refine fZ (ec a (dD cl) et.len @Ag ?_);refine aX (Q:=fun o D V=>(o= .normal/\aTQ L S0 X g m i (i+(L'.length+1)) (X.nx+16) (X.nx+17) xa (Z.h.get (X.nx+16)) (Z.h.get (X.nx+17)) (fun r=>eT g.ce.length (dP g) f r i (d+1)) 0 D V)\/(o= .ret/\WkF L X g m D V)) (aJ (bL (aTQ L S0 X g m i (i+(L'.length+1)) (X.nx+16) (X.nx+17) xa (Z.h.get (X.nx+16)) (Z.h.get (X.nx+17)) (fun r=>eT g.ce.length (dP g) f r i (d+1))) ?_ (ct g i).ji.length _ _ ⟨rfl,bZ,fr,fs,0,i+1,L',I',F',A,au,by rw[Di];exact bm,au,er,es,(by simp only[↓sU,sD,rE,↓reduceIte,rA,WkT,N,E,J,O,p5,p6,a,l]),rfl,rfl,(ah s),(af),(af),(af)⟩)) ?_
  .clear N E J O p5 p6 a l s er es bm;rintro k ⟨F2,inr⟩ V ⟨rfl,bV,cm,cn,j,r,Tr,I2,F3,As,ey,an,b2,aI,be,hP,a0,bz,s,z,B,u⟩;simp only at hP s z B u;rw[cl] at a0;rw[dp] at bz;have⟨N,E,J,O,p5,p6,a,l⟩:=hP;have sV:=C.jo bV;refine bS (dz B u ?_);by_cases hj:j<(ct g i).ji.length;rotate_left
   .refine aB (aK i7 (bH ?_));refine ae ?_;have fw:k=0:=by omega
    subst fw;exact .inl ⟨rfl,bV,cm,cn,j,r,Tr,I2,F3,As,ey,an,b2,aI,be,(by simp only[↓sU,sD,rE,↓reduceIte,rA,WkT,N,E,J,O,p5,p6,a,l]),by rw[a0,cl],by rw[bz,dp],(ah s),(ah z),(ah B),(ah u)⟩
   refine aB (aM i7 (aG ?_));refine ae ?_
   have cZ:=cc.jo sV;have eA:=hm.jo sV;have c0:=e3.jo sV;have c3:=dc.jo sV;have c4:=dd.jo sV;have b3:=hB.jo sV;have c5:=cZ.c9 hj;have b6:=cZ.ld hj;have fy:(ct g i).ji.drop j=(ct g i).ji[j]::(ct g i).ji.drop (j+1):=Bt hj;have f':(ct g i).ji.getD j 0=(ct g i).ji[j]:=by rw[Ad,Ab hj];rfl
   rw[fy,<-f'] at an;have⟨gY,gZ⟩:=G.kids i y j hj;simp only[fU] at an;split at an;rotate_left
   .cases an
   rename_i hc;have⟨L1,ga,an⟩:=Dg.1 an;obtain⟨L2,gd,rfl⟩:=Bc.1 an;rw[Ai] at b2;have cq:r<g.ce.length:=by omega
   rw[hc] at b6;have⟨gf,b8⟩:=M.at cq;have cr:=aNZ hW dt M (i:=i) (k:=j) y (by rw[hc,Am];exact cq);rw[hc,Am] at cr;have gg:=cM (p:=0) (C.m bV) rfl;have c6:=eA.c9 (show r<m.length by rw[M.len];exact cq);have b':=eA.ld (show r<m.length by rw[M.len];exact cq);rw[gf] at b';have cv:=cM (p:=0) (C.s bV) rfl;have dq:fW m r<(T.map (·.1)).length:=by rw[Av,dt];exact b8
   have c7:=c0.c9 dq;have c':=c0.ld dq;have cw:=b3.w.1;have w1:IntKind.i64.wrap ((j:Int)+1)=((j+1:Nat):Int):=by have:=G.nxt i y;rw[wrap_i64 au au];omega
   refine aB (aJ (aB (aF ?_)));refine ec z u c5 b6 ?_;refine bS (ec p5 gg c6 b' ?_);refine fZ (eu N E cv (dD cw) c7 c' ?_);by_cases bj:(T.map (·.1)).getD (fW m r) 0=((fW m i:Nat):Int);rotate_left
   .refine aM (ja (Ac (show(T.map (·.1)).getD (fW m r) 0≠((fW m i:Nat):Int) from bj))) ?_;refine bS (ae ?_);apply aS;refine .inr ⟨rfl,bV,aO0 y hj (cr.2 bj),?_⟩;simp only[↓sU,sD,rE,↓reduceIte,rA]
   refine aK (ja (Aa (show ¬ (T.map (·.1)).getD (fW m r) 0≠((fW m i:Nat):Int) from fun h=>h bj))) (aG ?_);refine ae ?_
   have⟨cx,eB⟩:=cr.1 bj;refine aB (aX (Q:=fun o D W=>(o= .normal/\D.inr=false/\W=⟨V.h,V.nx+22⟩/\KdT L D.F (X.nx+16) (X.nx+17) (fW m i) j r (fW m r) (ct g i).ji.length xa (decide ((ct g i).jk=2))/\aBM g m i j)\/(o= .ret/\WkF L X g m D W)) (aB (gI ?_)) ?_)
   .by_cases k1:(ct g i).jk=1
    .have k2:(ct g (fW m i)).jk=1:=by rw[<-hL.1];exact k1
     have gi:=aKy cx;have eC:=qO (k:=.i64) cx;have l1:j<(ct g i).jm.length:=by rw[G.wts i y k1];exact hj
     have l2:(jP g m i j).toNat<(ct g (fW m i)).jm.length:=by rw[G.wts _ cz k2];exact gi
     have i1:=c3.c9 l1;have i2:=c3.ld l1;have i3:=c4.c9 l2;have i4:=c4.ld l2;have i5:=eX (b:=da) (o:=false) b8;have i6:=aAd b3.gp (show fW m r<(mS g).length by rw[b3.lp];exact b8);rw[<-eB] at i6;have eD:=bN.self dc;have eL:=bN.self dd;by_cases c2:(ct g i).jm.getD j 0=(ct g (fW m i)).jm.getD (jP g m i j).toNat 0
     .simp only[↓sU,sD,rE,↓reduceIte,rA,E,a,l,fF a0,dW a0,dW bz,dW cw,cv,Ac k1,eD,eL,eC,i1,i2,i3,i4,i5,i6,Aa (show ¬ (ct g i).jm.getD j 0≠(ct g (fW m i)).jm.getD (jP g m i j).toNat 0 from fun h=>h c2)];refine aK (af) (aG ?_);refine .inl ⟨rfl,rfl,rfl,?_,fun _=>c2⟩;simp only[↓sU,sD,rE,↓reduceIte,rA,KdT,WkT,N,E,J,O,p5,p6,a,l,s,z,B,u,and_self]
     .simp only[↓sU,sD,rE,↓reduceIte,rA,E,a,l,fF a0,dW a0,dW bz,dW cw,cv,Ac k1,eD,eL,eC,i1,i2,i3,i4,i5,i6,Ac (show(ct g i).jm.getD j 0≠(ct g (fW m i)).jm.getD (jP g m i j).toNat 0 from c2)];refine aM (af) ?_;refine bS (ae ?_);apply aS;refine .inr ⟨rfl,bV.trans (jq.butW (jq.nx _ _)),aHQ y hj (fun h=>c2 (h k1)),?_⟩;simp only[↓sU,sD,rE,↓reduceIte,rA]
    .refine d8 a (fF a0) (Aa k1) ?_;refine aK (af) (aG ?_);refine .inl ⟨rfl,rfl,rfl,?_,fun h=>absurd h k1⟩;simp only[↓sU,sD,rE,↓reduceIte,rA,KdT,WkT,N,E,J,O,p5,p6,a,l,s,z,B,u,and_self]
   rintro o ⟨F2,inr⟩ W (⟨rfl,q0,rfl,hP,eN⟩|⟨rfl,hf⟩);rotate_left
   .refine ae ?_;exact .inr hf
   simp only at q0 hP;subst q0;have⟨⟨N,E,J,O,p5,p6,a,l⟩,s,aV,aZ,ao,z,B,u⟩:=hP;have sW:=jq.nx V 22;have bW:=bV.trans (jq.butW sW);have gk:Dyn L S0 ⟨V.h,V.nx+22⟩ I2 F3 As:=aI.jo C bV.1 sW;refine ae ?_
   refine aB (aX (Q:=fun o D U=>(o= .normal/\D.inr=false/\lH (L.W g.cg.length) X U/\lH (L.W g.cg.length) V U/\KdT L D.F (X.nx+16) (X.nx+17) (fW m i) j r (fW m r) (ct g i).ji.length xa (decide ((ct g i).jk=2))/\∃bA,Dyn L S0 U I2 F3 bA/\jM g m r (r+1) I2 F3 bA)\/(o= .ret/\WkF L X g m D U)) (aB (aX (Q:=fun o D U=>o= .normal/\D.inr=false/\lH (L.W g.cg.length) X U/\lH (L.W g.cg.length) V U/\KdT L D.F (X.nx+16) (X.nx+17) (fW m i) j r (fW m r) (ct g i).ji.length xa (decide ((ct g i).jk=2))/\∃t,aA 148 D.F= .bool t/\(t=true->¬iQ g m)/\(t=false->∃bA,Dyn L S0 U I2 F3 bA/\jM g m r (r+1) I2 F3 bA)) ?_ ?_)) ?_)
   .by_cases hk:(ct g i).jk=2;rotate_left
    .refine nR (fun _=>False) ?_;refine dz s (Aa hk) ?_;refine⟨bW.trans (jq.butW (jq.nx _ _)),(jq.butW sW).trans (jq.butW (jq.nx _ _)),?_,false,rfl,nofun,fun _=>⟨As,?_,be.kid G y hj hc cx eN hk⟩⟩
     .simp only[↓sU,sD,rE,↓reduceIte,rA,KdT,WkT,N,E,J,O,p5,p6,a,l,s,aV,aZ,ao,z,B,u,Aa hk,and_self]
     .exact gk.jo C bW.1 (jq.nx _ _)
    have⟨a1,a2,a3⟩:=G.inf i y hk;have gl:=qO (k:=.i64) a1;have hs:(ct g i).jj.toNat<g.cg.length:=by omega
    have cy:(ct g i).jj.toNat<As.length:=by rw[be.s.la];exact hs
    have gm:=be.s.ls _ hs;rw[show(((ct g i).jj.toNat:Nat):Int)=(ct g i).jj by omega,a3] at gm;have gn:j<(As.getD (ct g i).jj.toNat []).length:=by omega
    have gp:=zP (j:=1) (C.o bV) rfl;have gq:=eX (b:=L.ab) (o:=false) hs;have gr:=cM (C.a bV) (aI.rw.cl _ cy);have eP:cI (tF (L.bs (ct g i).jj.toNat) (As.getD (ct g i).jj.toNat [])) (tF (L.bs (ct g i).jj.toNat) (As.getD (ct g i).jj.toNat []))=true:=nQ ..;have i5:=eX (b:=da) (o:=false) b8;have i6:=aAd b3.gp (show fW m r<(mS g).length by rw[b3.lp];exact b8);rw[<-eB] at i6;refine aP6 (pre:=agC) (K:=16) rfl rfl rfl rfl az rfl rfl ?_;unfold agC;refine fu E J a s aV ao (Ac hk) gp (dI a0) gl gq gr eP cv (dW cw) i5 i6 ?_;have bP:=aAD (S:=⟨V.h,V.nx+22+19⟩) (v:=jP g m i j) (x:=(j:Int)) H (aI.rw.bl _ cy).2.2 au (by rw[Am];exact gn);rw[Am] at bP;refine aW bP ?_;rintro _ U ⟨hU,t,rfl,aw,aa⟩;have gs:L.W g.cg.length (L.bs (ct g i).jj.toNat):=.inr (.inr ⟨_,hs,rfl⟩);have a4:lH (L.W g.cg.length) V U:=(jq.butW (jq.nx V (22+19))).trans (hU.butW gs);have bU:=bV.trans a4;refine⟨.bool (!t),.bool (!t),?_,?_,bU,a4,?_, !t,?_,?_,?_⟩
    .simp only[↓sU,sD,rE,↓reduceIte,rA,iY]
    .simp only[↓sU,sD,rE,↓reduceIte,rA]
    .simp only[↓sU,sD,rE,↓reduceIte,rA,KdT,WkT,N,E,J,O,p5,p6,a,l,s,aV,aZ,ao,z,B,u,Ac hk,and_self]
    .simp only[↓sU,sD,rE,↓reduceIte,rA]
    .intro h;cases t with
     | true=>cases h
     | false=>exact be.no_act G y hk hj (aa rfl).1 (aa rfl).2
    .intro h;cases t with
     | false=>cases h
     | true=>
     have⟨gU,hA⟩:=aw rfl;have gT:=aI.rw.bl _ cy;have bd:L.W g.cg.length L.ib:=.inl rfl;have b0:L.W g.cg.length L.rb:=.inr (.inl rfl);have dj:L.rb<V.nx:=Ae (C.w0 _ b0).2 bV.1;have dm:L.ib<V.nx:=Ae (C.w0 _ bd).2 bV.1;have dr:∀c,c<V.nx->c≠L.bs (ct g i).jj.toNat->U.h.get c=V.h.get c:=fun c hc gv=>hU.2 c (by show c<V.nx+22+19;omega) gv;refine⟨_,⟨(dr _ dm (C.is _ hs).1).trans aI.gi,(dr _ dj (C.is _ hs).2).trans aI.gr,?_⟩,be.kidM G y hj hc cx eN hk hA⟩;refine(aI.rw.put cy (Af _)).move (show V.nx<=U.nx from a4.1) fun q hq=>?_;rw[Ar] at hq;simp only;rw[Ev.T.get_set];split
     .rename_i e;rw[e];exact gU
     .rename_i e;exact dr _ (aI.rw.bl q hq).2.1 e
   .clear N E J O p5 p6 a l s aV aZ ao z B u;rintro o ⟨F2,inr⟩ U ⟨rfl,rfl,bU,a4,hP,t,ca,aw,aa⟩;simp only at hP ca;have⟨⟨N,E,J,O,p5,p6,a,l⟩,s,aV,aZ,ao,z,B,u⟩:=hP;refine ae ?_
    cases t with
    | true=>
     refine aM (ah ca) ?_;refine bS (ae ?_);apply aS;refine .inr ⟨rfl,bU,aw rfl,?_⟩;simp only[↓sU,sD,rE,↓reduceIte,rA]
    | false=>
     refine aK (ah ca) (aG ?_);exact .inl ⟨rfl,rfl,bU,a4,⟨⟨N,E,J,O,p5,p6,a,l⟩,s,aV,aZ,ao,z,B,u⟩,aa rfl⟩
   rintro o ⟨F2,inr⟩ U (⟨rfl,q0,bU,a4,hP,bA,gw,gx⟩|⟨rfl,hf⟩);rotate_left
   .refine ae ?_;exact .inr hf
   simp only at q0 hP;subst q0;have⟨⟨N,E,J,O,p5,p6,a,l⟩,s,aV,aZ,ao,z,B,u⟩:=hP;have gz:=(a4.2 _ cm (bb au)).trans a0;have gA:=(a4.2 _ cn (bb au)).trans bz;have eV:X.nx+16<U.nx:=Ae cm a4.1;have eW:X.nx+17<U.nx:=Ae cn a4.1;have gB:=cM (p:=0) (C.k bU) rfl;refine ae ?_
   refine aX (Q:=fun o D R=>(o= .normal/\D.inr=false/\lH (L.W g.cg.length) X R/\lH (L.W g.cg.length) U R/\KdT L D.F (X.nx+16) (X.nx+17) (fW m i) j r (fW m r) (ct g i).ji.length xa (decide ((ct g i).jk=2))/\∃eZ e0 e1,Dyn L S0 R eZ e0 e1/\jM g m (r+L1.length) (r+L1.length) eZ e0 e1)\/(o= .ret/\WkF L X g m D R)) (aB (aF ?_)) ?_
   .refine ec p6 aZ ao gB ?_;refine bJ (ae ?_);refine aW (ih ga (C.move bU) gw gx) ?_;rintro _ R ⟨bk,t,rfl,aa,aw⟩;refine c8 @iY ?_;cases t with
    | false=>
     refine aM (ja @Ej) ?_;refine bS (ae ?_);apply aS;refine .inr ⟨rfl,bU.trans bk,aa rfl,?_⟩;simp only[↓sU,sD,rE,↓reduceIte,rA]
    | true=>
     refine aK (ja @Dn) (aG ?_);refine .inl ⟨rfl,rfl,bU.trans bk,bk,?_,aw rfl⟩;simp only[↓sU,sD,rE,↓reduceIte,rA,KdT,WkT,N,E,J,O,p5,p6,a,l,s,aV,aZ,ao,z,B,u,and_self]
   rintro o ⟨F2,inr⟩ R (⟨rfl,q0,bR,bk,hP,I4,F4,A4,gC,gM⟩|⟨rfl,hf⟩);rotate_left
   .refine ae ?_;exact .inr hf
   simp only at q0 hP;subst q0;have⟨⟨N,E,J,O,p5,p6,a,l⟩,s,aV,aZ,ao,z,B,u⟩:=hP;refine ae ?_
   refine aF (dz u w1 ?_);refine⟨k - 1,au,rfl,bR,Ae eV bk.1,Ae eW bk.1,j+1,r+L1.length,L2,I4,F4,A4,au,gd,au,gC,gM,?_,?_,?_,?_,?_,?_,?_⟩
   .simp only[↓sU,sD,rE,↓reduceIte,rA,WkT,N,E,J,O,p5,p6,a,l,and_self]
   .rw[bk.2 _ eV (bb au),gz,cl]
   .rw[bk.2 _ eW (bb au),gA,dp]
   .simp only[↓sU,sD,rE,↓reduceIte,rA,s]
   .simp only[↓sU,sD,rE,↓reduceIte,rA,z]
   .simp only[↓sU,sD,rE,↓reduceIte,rA,B]
   .simp only[↓sU,sD,rE,↓reduceIte,rA]
  rintro o ⟨F2,inr⟩ V (⟨rfl,q0,bV,cm,cn,j,r,Tr,I2,F3,As,ey,an,b2,aI,be,hP,a0,bz,s,z,B,u⟩|⟨rfl,hf⟩);rotate_left
  .have⟨h1,h2,h3⟩:=hf;refine c8 h3 ?_;exact⟨h1,false,rfl,fun _=>h2,nofun⟩
  simp only at q0;subst q0;rw[Cw au] at an;simp only[fU,Ay] at an;subst an;rw[Ca,Bw] at b2;subst b2;refine ae ?_
  refine bS (ae ?_);refine aS (ae ?_);exact⟨bV,true,rfl,nofun,fun _=>⟨I2,F3,As,aI,be⟩⟩
def aFS{h:Ev.T AB}{s t:Nat}{x y:AV}(a:aA s F=x)(c:aA t F=y)(d:x.cells=some [x])(e:y.cells=some [y]):iC (.build [.cr,.cr] [(0,1,.t s),(1,1,.t t)]) F h=some (.agg [x,y]):=by
 show(bD (eO _ (dN F [(0,1,.t s),(1,1,.t t)])) fun cs=>some (AV.agg cs))=_;simp only[dN,show(cQ.t s).val F=x from a,show(cQ.t t).val F=y from c,eO,d,e,aH];rfl
def aMa{F:Fr}{h:Ev.T AB}:iC (.build [.cr,.cr] []) F h=some (.agg [.cr,.cr]):=rfl
def aRV{W:Nat->Prop}{u:Ev.T AB}{base:Nat}{Q:Fr->St->List jD->Prop}{a n h j l:Nat}{d zb e:bu}{t2 t:cQ}(k:Nat.testBit m1 h=true)(m:Nat.testBit m1 j=true)(o:lL (some l) m1=true)
  (v:t2.val F= .ptr b 0) (p:(t.val F).cells=some e) (x:zb.length=n) (y:e.length=n) (f:a≠b) (z:base<=a) (B:base<=b)
  (C:∀S',S'.nx=S.nx->S'.h.get a=js d->S'.h.get b=js e->(∀c,c≠a->c≠b->S'.h.get c=S.h.get c)->Q F S' []):
  gO fns W u base [⟨none,.x (.st n t2 t),none,m1⟩] i F S [⟨j,b,.cells zb false 0⟩,⟨h,a,.cells d false 0⟩] (some l) Q:=by
 have q:cN m1 [⟨j,b,.cells zb false 0⟩,⟨h,a,.cells d false 0⟩] S.h=([],(S.h.set b (js zb)).set a (js d)):=by rw[iH m,iH k,bK]
 have r:((S.h.set b (js zb)).set a (js d)).get b=js zb:=by rw[dx,if_neg (Ch f),dx,if_pos rfl]
 have x2:=mM (S:=⟨(S.h.set b (js zb)).set a (js d),S.nx⟩) (cs':=e) (n:=n) r x y;refine qC (S1:=⟨((S.h.set b (js zb)).set a (js d)).set b (js e),S.nx⟩) o ?_ ?_ ?_
 .rw[q,v,p,aH];exact x2
 .rw[q];exact⟨Af _,fun c D _=>by simp only;rw[dx,if_neg au,dx,if_neg au,dx,if_neg au]⟩
 rw[q];refine C _ rfl ?_ ?_ fun c s g=>?_
 .simp only;rw[dx,if_neg f,dx,if_pos rfl]
 .simp only;rw[dx,if_pos rfl]
 .simp only;rw[dx,if_neg g,dx,if_neg s,dx,if_neg g]
def aUs(a:St)(d mb tb ob e c h rb:Nat)(iv:AV)(g:aP)(k:Nat)(A:bO)(X:St):Prop:=A.inr=false/\cA c a X/\∃i f cs,i+k=g.cg.length/\cs.length=g.cg.length/\X.h.get c=js cs/\Rws a X f cs ((aBQ g).take i)/\aA 2 A.F= .ptr d 0/\aA 3 A.F= .ptr mb 0/\aA 4 A.F= .ptr tb 0/\aA 6 A.F= .ptr ob 0/\aA 7 A.F= .ptr e 0/\aA 37 A.F=iv/\aA 38 A.F=jr (g.cg.length:Int)/\aA 39 A.F=jr (i:Int)
def wJ(g:aP)(m:bt)(S S':St)(x y:AV):Prop:=oM S S' x (dh g m)/\∃a c cs,y= .sl a 0 (dk g m).length (dk g m).length false/\S.nx<=a/\a<S'.nx/\S'.h.get a=js cs/\Rws S S' c cs (dk g m)
def aDI{wb bv bw:Nat}{m:bt}{T:List cL}(H:Has fns)(hn:aE 6 bT S nv g.ce)(hi:aE 2 cC S iv g.cg)(hm:bN .i64 S mv m)(G:cV g)(M:aBc g m)(hT:fY g=some T)(bx:T.length=g.ce.length)(cq:bN .i64 S pv (T.map (·.1)))(hB:kE S wb bv bw pv nv iv g (mS g) Z):
  iK fns (.fn 78 [] []) [.ptr wb 0,mv] S fun r S'=>jq S S'/\∃x y t,r= .tup [.agg [x,y],.bool t]/\(t=true↔iQ g m)/\(t=true->wJ g m S S' x y):=by
 have bz:0<m.length:=by rw[M.len];exact G.n1
 have hN:=G.n2;have ei:=G.ni;have cr:WF (dP g) 0 (-1) T:=by unfold fY at hT;exact jR hT
 refine cJ H.f78 (by simp) ?_;refine ae ?_;apply bS;refine dC (cs:=[.ptr wb 0]) rfl ?_;intro S1 s1 n1 g1;refine dC (cs:=[mv]) ?_ ?_
 .exact bN.cells hm
 intro S2 s2 n2 g2;apply cB;intro d s3 n3 g3;refine ae ?_;have aw:=s2.trans s3;have aI:=s1.trans aw;have aV:d.h.get S.nx=js [.ptr wb 0]:=by rw[aw.2 _ au];exact g1
 have bA:d.h.get S1.nx=js [mv]:=by rw[s3.2 _ au];exact g2
 have bC:d.h.get S2.nx=js [.cr,.cr]:=g3;have e1:S1.nx=S.nx+1:=n1;have e2:S2.nx=S.nx+2:=by omega
 have e3:d.nx=S.nx+3:=by omega
 rw[e1] at bA;rw[e2] at bC;simp only[e1,e2];have R:=hB.jo aI;have bI:=R.w.1;have bM:=R.w.2;have bP:=cM (p:=0) aV rfl;have U:S.nx<d.nx:=by omega
 have bR:=aE.self hi;refine aB (pJ (fun _=>False) ?_);intro X1 x1 cv cw;refine ew bP U @Ap (dI bI) bM bR hi.len ?_;refine dT rfl ?_;refine ae ?_;refine aW (wL H (n:=g.cg.length) au) ?_;rintro r X2 ⟨⟨ib,rfl,b1,b2,b3⟩,x2⟩;rw[Au];refine⟨x2,?_⟩;refine ew bP U @Ap (dI bI) bM bR hi.len ?_;refine qF (n:=g.cg.length) (af) (af) ay ay  ?_;refine ae ?_;rw[aFS (x:=.sl ib 0 g.cg.length g.cg.length false) (y:=.sl (d.nx+13) 0 g.cg.length g.cg.length false) (af) (af) rfl rfl];refine dz @pI @pY ?_;refine aRV (n:=2) rfl rfl rfl (af) (by refine ae ?_;exact bB _) rfl rfl au au au ?_;intro X3 bU cx cy bV;rw[bK,repeatL_one] at *;have ej:X1.nx=d.nx+17:=cw;have ek:=x2.1;have en:X3.nx=X2.nx:=bU;have aZ:jq d X3:=⟨au,fun c D=>by rw[bV c au au,x2.2 _ au,cv]⟩;have cz:X3.h.get ib=js (aQ (List.replicate g.cg.length (-1))):=by rw[bV _ au au];exact b3
 show jN fns _ _ X3 _;have bW:=(aZ.2 _ U).trans aV;have cW:=cM (p:=0) bW rfl;have cX:=(R.jo aZ).w.1;refine bS (ig cW @dG @dH @aU @aT (dI cX) hi.len ?_);refine bJ (am ?_);refine aW (wL H (n:=g.cg.length) au) ?_;rintro r N ⟨⟨rb,rfl,d1,d2,d3⟩,x4⟩;rw[Au]
 apply cB;intro X5 x5 m5 g5;refine dB (b:=N.nx) (cs':=[.sl rb 0 g.cg.length g.cg.length false]) (aq) (by simp only[↓aD,aC,rE,↓reduceIte,rA];rfl) g5 rfl rfl ?_;intro X6 x6 m6 g6;refine am ?_;have eo:=x4.1;have V:jq X3 X6:=x4.trans (x6.jo x5 (Af _));have s:=aZ.trans V;have cY:=(V.2 _ au).trans cz;have cZ:=(V.2 _ au).trans cx;have a0:=(V.2 _ au).trans cy;have c0:X6.h.get rb=js (aQ (List.replicate g.cg.length (-1))):=by rw[x6.2 _ au au,x5.2 _ au];exact d3
 have an:=(s.2 _ U).trans aV;have c1:=cM (p:=0) an rfl;have c2:=(R.jo s).w.1;have ep:X6.nx=N.nx+1:=by omega
 have c3:=hi.len;refine aB (aX (Q:=fun o O X=>o= .normal/\aUs X6 S.nx (S.nx+1) (S.nx+2) (d.nx+15) N.nx (d.nx+13) ib rb iv g 0 O X) (aB (aF ?_)) ?_)
 .refine ig c1 @dG @dH @aU @aT (dI c2) c3 ?_;refine aJ (bL (aUs X6 S.nx (S.nx+1) (S.nx+2) (d.nx+15) N.nx (d.nx+13) ib rb iv g) ?_ g.cg.length _ _ ⟨rfl,cA.refl _ _,0,fun _=>0,_,au,Au ..,cZ,Rws.none,aq,aq,aq,aq,aq,aq,aq,aq⟩);rintro k ⟨F,inr⟩ X ⟨rfl,hX,i,bs,cs,bZ,a1,u,hR,p2,p3,l,v,p7,z,B,f⟩;simp only at p2 p3 l v p7 z B f;refine bS (gh B f ?_);by_cases E:i<g.cg.length;rotate_left
  .refine aB (aK i9 (bH ?_));refine am ?_;have c4:k=0:=by omega
   subst c4;exact⟨rfl,hX,i,bs,cs,bZ,a1,u,hR,ar p2,ar p3,ar l,ar v,ar p7,ar z,ar B,ar f⟩
  refine aB (aM i9 (aG ?_));refine am ?_
  have sX:jq S X:=hX.jo (aI.trans s) au;have er:=hX.1;have⟨f1,f2,f3⟩:=G.fst i E;have a2:=(G.inf _ f1 f2).2.2;rw[f3] at a2;have⟨e,b,q,b0,hb,he,heq,a4,_⟩:=aE.at hi az (Ab E);have ao:g.cg[i]=cu g (i:Int):=by unfold cu;rw[Ad,Am,Ab E];rfl
  unfold cC at heq;subst heq;rw[ao,a2] at a4;rw[<-eM sX hb] at a4;have es:(ct g (fS g i)).ji.length<=1000:=G.nxt _ f1;generalize et:(ct g (fS g i)).ji.length=na at *;have w1:=du i
  have c5:=(hX.2 _ (au:d.nx+15<X6.nx) au).trans a0;refine aB (aJ (aB (aF ?_)));refine gy z f @aY b0 a4 ?_;apply cB;intro Y1 y1 k1 h1;refine am ?_;refine dB (b:=X.nx) (aq) (by refine am ?_;exact bB _) h1 rfl rfl ?_;intro Y2 y2 k2 h2;refine am ?_;have aa:jq X Y2:=y2.jo y1 (Af _);have ey:Y2.nx=X.nx+1:=by omega
  have a5:=(aa.2 _ au).trans c5;have ba:=(aa.2 _ au).trans u;have bb:=hR.jo aa;have b6:=zP (j:=1) a5 rfl;have b8:=zP (j:=1) h2 rfl;have c6:¬ (d.nx+15=d.nx+13):=by omega
  have c7:¬ (X.nx=d.nx+13):=by omega
  have c':d.nx+15<Y2.nx:=by omega
  have da:X.nx<Y2.nx:=by omega
  have dc:=eX (b:=d.nx+13) (o:=false) E;refine pJ (fun c=>c=d.nx+13) ?_;intro U0 u0 eA eB;refine ez v b6 b8 c6 c7 c' da @Ap ?_;refine dT rfl ?_;refine ae ?_;refine aW (wL H (n:=na) au) ?_;rintro r U1 ⟨⟨nb,rfl,t1,t2,t3⟩,u1⟩;refine⟨u1,?_⟩;have bd:jq Y2 U1:=u0.trans u1;have dd:=(bd.2 _ au).trans ba;refine c8 dc ?_;refine aBz (ps':=[]) (h':=U1.h) (b:=d.nx+13) (p:=i) (cs:=cs) (w:=tF nb (List.replicate na (-1))) (by rw[bK]) rfl (af) (by simp only[↓sU,sD,rE,↓reduceIte,rA];rfl) dd au rfl ?_;refine ae ?_;have eC:=u0.1;have eD:=u1.1;have df:((aBQ g).take i).length=i:=by unfold aBQ;rw[Bx,Av];omega
  have dg:(aBQ g).take (i+1)=(aBQ g).take i++ [List.replicate na (-1)]:=by
   rw[Cc];congr 1;unfold aBQ;rw[Ba,Ab E,ao];show [List.replicate (cu g (i:Int)).cm.toNat (-1)]=_;rw[a2,Am]
  refine aF (dz f w1 ?_);refine⟨k - 1,au,rfl,⟨show X6.nx<=U1.nx by omega,fun c D ab=>?_⟩,i+1,(fun j=>if j=((aBQ g).take i).length then nb else bs j),cs.set i (tF nb (List.replicate na (-1))),au,by rw[Ar];exact a1,by simp only;rw[Ev.T.get_set,if_pos rfl],?_,ah p2,ah p3,ah l,ah v,ah p7,ah z,ah B,af⟩
  .simp only;rw[Ev.T.get_set,if_neg ab,bd.2 _ au,aa.2 _ au];exact hX.2 c D ab
  .rw[dg];refine(bb.jo bd |>.move (X':=⟨U1.h.set (d.nx+13) (js (cs.set i (tF nb (List.replicate na (-1))))),U1.nx⟩) (Af _) fun j hj=>?_).add (nb:=nb) au (show nb<U1.nx from t2) ?_ (fun j hj=>?_) (fun j hj=>?_) ?_
   .have:=(bb.bl j hj).1;simp only;rw[Ev.T.get_set,if_neg au]
   .simp only;rw[Ev.T.get_set,if_neg au];exact t3
   .have:=(bb.bl j hj).2.1;omega
   .rw[De,if_neg au]
   .rw[df,De,if_pos rfl,if_pos au]
 rintro o ⟨F,inr⟩ X7 ⟨rfl,rfl,be,i,bs,cs,bZ,a1,u,hR,p2,p3,l,v,p7,z,B,f⟩;simp only at p2 p3 l v p7;obtain rfl:i=g.cg.length:=by omega
 have eL:(aBQ g).length=g.cg.length:=by unfold aBQ;rw[Av]
 rw[Bh au] at hR;refine am ?_
 have di:=be.1;apply bS;apply cB;intro X8 x8 m8 g8;refine am ?_;refine bS (gy @aBJ p2 p3 v p7 ?_);obtain⟨L,hL⟩:∃L:Lay,L=⟨S.nx,d.nx+15,N.nx,S.nx+1,X7.nx,wb,ib,rb,d.nx+13,bs,cs⟩:=⟨_,rfl⟩;have b':L.fn= .fn 82 [] [.ptr S.nx 0,.ptr (d.nx+15) 0,.ptr N.nx 0,.ptr (S.nx+1) 0,.ptr X7.nx 0]:=by rw[hL];rfl
 refine dB (b:=X7.nx) (cs':=[L.fn]) (aq) (by rw[b'];simp only[↓aD,aC,rE,↓reduceIte,rA];rfl) g8 rfl rfl ?_;intro X9 x9 m9 g9;refine am ?_;have eN:X9.nx=X7.nx+1:=by omega
 have J:jq X7 X9:=x9.jo x8 (Af _);have old:∀c,c<X6.nx->c≠d.nx+13->X9.h.get c=X6.h.get c:=fun c D ab=>by rw[J.2 _ au,be.2 c D ab]
 have ca:jq S X9:=⟨au,fun c D=>by rw[old c au au,(aI.trans s).2 _ D]⟩;have K:∀b,L.W g.cg.length b->(X1.nx<=b/\b<X2.nx)\/(X3.nx<=b/\b<N.nx)\/(X6.nx<=b/\b<X7.nx):=by
  rw[hL];rintro b (rfl|rfl|⟨j,hj,rfl⟩)
  .exact .inl ⟨b1,b2⟩
  .exact .inr (.inl ⟨d1,d2⟩)
  .have⟨h1,h2,_⟩:=hR.bl j au;exact .inr (.inr ⟨h1,h2⟩)
 have C:Laid L S X9 g.cg.length mv:=by
  have nW:∀c,(c<X1.nx\/c=N.nx\/c=X7.nx)->¬L.W g.cg.length c:=fun c D hw=>by have:=K c hw;omega
  have w0:∀b,L.W g.cg.length b->S.nx<=b/\b<X9.nx:=fun b hw=>by have:=K b hw;omega
  subst hL;refine⟨ca,?_,?_,?_,?_,g9,?_,⟨?_,nW _ (.inl ?_)⟩,⟨?_,nW _ (.inl ?_)⟩,⟨?_,nW _ (.inr (.inl rfl))⟩,⟨?_,nW _ (.inl ?_)⟩,⟨?_,nW _ (.inr (.inr rfl))⟩,⟨?_,nW _ (.inl ?_)⟩,w0,?_,fun j hj=>?_⟩
  .show X9.h.get S.nx=_;rw[old _ au au];exact an
  .show X9.h.get (d.nx+15)=_;rw[old _ au au];exact a0
  .show X9.h.get N.nx=_;rw[old _ au au];exact g6
  .show X9.h.get (S.nx+1)=_;rw[old _ au au,s.2 _ au];exact bA
  .show X9.h.get (d.nx+13)=_;rw[J.2 _ au];exact u
  .show S.nx<X9.nx;omega
  .show S.nx<X1.nx;omega
  .show d.nx+15<X9.nx;omega
  .show d.nx+15<X1.nx;omega
  .show N.nx<X9.nx;omega
  .show S.nx+1<X9.nx;omega
  .show S.nx+1<X1.nx;omega
  .show X7.nx<X9.nx;omega
  .show d.nx+13<X9.nx;omega
  .show d.nx+13<X1.nx;omega
  .show ib≠rb;omega
  .have⟨h1,h2,_⟩:=hR.bl j au;show ib≠bs j/\rb≠bs j;omega
 have hD:Dyn L S X9 (List.replicate g.cg.length (-1)) (List.replicate g.cg.length (-1)) (aBQ g):=by
  subst hL;refine⟨?_,?_,?_⟩
  .show X9.h.get ib=_;rw[old _ au au];exact cY
  .show X9.h.get rb=_;rw[old _ au au];exact c0
  .exact(hR.jo J).low au
 have dj:kE S L.wb bv bw pv nv iv g (mS g) Z:=by rw[hL];exact hB
 have ac:=aJE H hn hm G M bx cr cq dj (g.ce.length+1) (by unfold fY at hT;exact hT) C hD (jM.start G m);rw[An,bx] at ac;have dm:X9.h.get (S.nx+1)=js [mv]:=by have:=C.gm;rw[hL] at this;exact this
 have dn:X9.h.get X7.nx=js [L.fn]:=g9;have cc:=cM (p:=0) dm rfl;have dp:=cM (p:=0) dn rfl;have cf:=hm.jo ca;have ch:=cf.c9 bz;have cj:=cf.ld bz;have ck:¬L.W g.cg.length (S.nx+2):=fun hw=>by have:=K _ hw;omega
 have dq:¬L.W g.cg.length (d.nx+15):=fun hw=>by have:=K _ hw;omega
 have dr:¬L.W g.cg.length (d.nx+13):=fun hw=>by have:=K _ hw;omega
 have dt:X9.h.get (S.nx+2)=js [.cr,.cr]:=by rw[old _ au au,s.2 _ au];exact bC
 have dv:X9.h.get (d.nx+15)=js [.sl ib 0 g.cg.length g.cg.length false,.sl (d.nx+13) 0 g.cg.length g.cg.length false]:=by rw[old _ au au];exact a0
 have dw:X9.h.get (d.nx+13)=js cs:=by rw[J.2 _ au];exact u
 have dF:S.nx+2<X9.nx:=by omega
 have dM:d.nx+15<X9.nx:=by omega
 have dY:d.nx+13<X9.nx:=by omega
 have dZ:S.nx<=d.nx+13:=by omega
 have d':S.nx<=ib:=by omega
 have eP:ib<X9.nx:=by omega
 have ea:L.bs=bs/\L.cs=cs/\L.ib=ib:=by rw[hL];exact⟨rfl,rfl,rfl⟩
 refine aB (aB (aX (Q:=fun o O Y=>o= .normal/\O.inr=false/\lH (L.W g.cg.length) X9 Y/\aA 4 O.F= .ptr (S.nx+2) 0/\aA 6 O.F= .ptr (d.nx+15) 0/\∃t,aA 61 O.F= .bool t/\(t=true->¬iQ g m)/\(t=false->m.getD 0 0=0/\∃I' F' O,Dyn L S Y I' F' O/\jM g m g.ce.length g.ce.length I' F' O)) (aF ?_) ?_))
 .by_cases h0:m.getD 0 0=0;rotate_left
  .refine ez p3 cc @aKn ch cj (Ac (show m.getD 0 0≠0 from h0)) l v ?_;exact⟨lH.refl _ _,true,rfl,fun _ a=>h0 a.root,nofun⟩
  refine ew p3 cc @aKn ch cj (Aa (show ¬m.getD 0 0≠0 from fun h=>h h0)) dp ?_;refine bJ (ae ?_);have e0:fW m 0=0:=by unfold fW;rw[h0];rfl
  rw[e0] at ac;refine aW ac ?_;rintro _ Y ⟨bY,t,rfl,bj,bk⟩;refine d8 @iY l v ?_;refine⟨bY, !t,rfl,fun h=>?_,fun h=>⟨h0,?_⟩⟩
  .cases t with
   | true=>cases h
   | false=>exact bj rfl
  .cases t with
   | false=>cases h
   | true=>exact bk rfl
 rintro o ⟨F,inr⟩ Y ⟨rfl,rfl,bY,l,v,t,bm,bk,bj⟩;simp only at l v bm;have cl:=(bY.2 _ dF ck).trans dt;have sY:jq S Y:=C.jo bY;have lY:=bY.1;refine ae ?_
 cases t with
 | true=>
  refine aM (ah bm) ?_;refine bS (gh @aMa @pI ?_);refine dB (b:=S.nx+2) (cs':=[.cr,.cr]) (ar l) (by refine am ?_;exact bB _) cl rfl rfl ?_;intro Y2 y2 k2 h2;refine am ?_;apply aS;have bp:=mA (n:=2) h2 rfl;refine gj @eI l bp ?_;exact⟨⟨ax sY.1,fun c D=>by rw[y2.2 _ (ax sY.1) au,sY.2 _ D]⟩,_,_,false,rfl,⟨nofun,fun a=>absurd a (bk rfl)⟩,nofun⟩
 | false=>
  have⟨h0,I',F',O,cm,eb⟩:=bj rfl;refine aK (ah bm) (aG ?_);refine ae ?_
  have a5:=(bY.2 _ dM dq).trans dv;have ba:=(bY.2 _ dY dr).trans dw;have ed:=mA (n:=2) a5 rfl;have⟨hA,hI,ee⟩:=eb.full G M h0;refine bS (gh v ed ?_);refine dB (b:=S.nx+2) (cs':=[.sl ib 0 g.cg.length g.cg.length false,.sl (d.nx+13) 0 g.cg.length g.cg.length false]) (ar l) (by refine am ?_;exact bB _) cl rfl rfl ?_;intro Y2 y2 k2 h2;refine am ?_;apply aS;have bp:=mA (n:=2) h2 rfl;refine gj @eI l bp ?_;have⟨r1,r2,r3⟩:=ea;have gi:=cm.gi;have bq:=cm.rw;rw[r3,hI] at gi;rw[r1,r2,ee] at bq;have eg:(dh g m).length=g.cg.length:=by simp [dh]
  have cn:(dk g m).length=g.cg.length:=by simp [dk]
  refine⟨⟨ax sY.1,fun c D=>by rw[y2.2 _ (ax sY.1) au,sY.2 _ D]⟩,_,_,true,rfl,⟨fun _=>hA,fun _=>rfl⟩,fun _=>⟨⟨ib,by rw[eg],d',au,?_⟩,d.nx+13,bs,cs,by rw[cn],dZ,au,?_,bq.move au fun j hj=>?_⟩⟩
  .rw[y2.2 _ au au];exact gi
  .rw[y2.2 _ au au];exact ba
  .have⟨h1,eh,_⟩:=bq.bl j hj;refine y2.2 _ eh fun e=>ck ?_;rw[<-e,<-r1];exact .inr (.inr ⟨j,by rw[<-cn];exact hj,rfl⟩)
def aEu{m:bt}:aJx (wJ g m):=fun {S0 S1 v x y} h c d=>by
 have⟨⟨b,p,e,f,q⟩,i,r,cs,s,k,l,t,o⟩:=h;refine⟨⟨b,p,e,Ae f c,(d b e f).trans q⟩,i,r,cs,s,k,Ae l c,(d i k l).trans t,o.move c fun j u=>?_⟩;have⟨a,b,_⟩:=o.bl j u;exact d _ a b
def aQ8{m:bt}(H:Has fns)(e:aE 6 bT S nv g.ce)(hi:aE 2 cC S iv g.cg)(f:bN .i64 S mv m):aSA fns S nv iv mv g m (iQ g m) (wJ g m):=fun h i j _ S0 q k l pv T Z a o c d p=>
 aDI H (aE.jo (E:=bT) bF e a) (aE.jo (E:=cC) bQ hi a) (f.jo a) (gR h) ⟨i,j⟩ o c d p
end Go.Ev.Gl
namespace Go.Ev.Gl
variable {S:St}{l:bt}{t:TypeId}
def aLA{k:IntKind}{v:AV}(h:aE 1 (aQt k) S v l):bN k S v l:=by
 rcases h with h|⟨b,off,cap,o,cs,rfl,a,c,d,f⟩
 .exact .inl h
 .refine .inr ⟨b,off,cap,o,cs,rfl,a,c,d,fun i x hi=>?_⟩;obtain⟨e,j,g,rfl,_⟩:=f i x hi;have:=g 0 _ rfl;rw[Ec,Bw] at this;exact this
abbrev aJh(k:IntKind):St->bu->bt->Prop:=aOT 1 (aQt k)
def aP5{k:IntKind}{a:bu}(h:aJh k S a l):∃v,a= [v]/\bN k S v l:=by
 have⟨v,c,d⟩:=aOT.is h;exact⟨v,c,aLA d⟩
def aS6(g:aP):Prop:=g.cg.length * 16<=140737488355328/\∀x∈g.ce,x.ji.length * 8<=140737488355328/\x.jm.length * 8<=140737488355328/\x.jn.length * 8<=140737488355328
section
variable {P:Program}{σ:Env}{S:St}{w:World}
def aM2{k:IntKind}{S:St}{a:bu}(h:aJh k S a l):l.length<=140737488355328:=by
 have⟨_,_,h,_⟩:=h;omega
def aFJ{k:IntKind}{H:Type}{enc:TypeId×Value->H}{base:Nat}{spare:Nat->Bool}{held:Bool}{d:Nat}{v:Value}{x:DataW H×List MemPlace}(i:mR P σ S w)(j:aBR S)(m:aBH S)(o:P.globals.size<=S.nx)(p:Lays P t (aJh k))(h:DataW.trod enc P w base spare held d t v.cells.toList=some x)(q:v.cells.toList= [v])(r:∀n∈DataW.weights P t x.1,n<=140737488355328):
  ∃c S' a l,tL P σ S w c S'/\Rv P c a v/\bN k S' a l/\l.length<=140737488355328/\S.nx<=S'.nx:=by
 obtain⟨c,S',s,l,u,f,D,g,e⟩:=p H enc σ S w base spare held d _ x i j m o h r;have y:=aM2 g;obtain⟨a,rfl,z⟩:=aP5 g;rw[q] at f;obtain⟨_,_,B,C,E⟩:=dL.1 f;cases B;exact⟨c,S',a,l,u,C,z,y,e⟩
def aL9{e:TypeId}{k:IntKind}(a:P.underlying t=some (.slice e))(c:P.underlying e=some (.int k))(d:P.cellsOf e=1)(f:8<=P.bytesOf e):Lays P t (aJh k):=aJZ a d az au (aPh c) aNS
end
end Go.Ev.Gl
