import Derived.Test.YtoojnpjgnnpllaaGl9
open Nat renaming reduceEqDiff -> rE, reduceAdd -> rA
set_option maxHeartbeats 0
set_option linter.unusedSimpArgs false
set_option linter.unusedVariables false
namespace Go.Ev.Gl
variable {fns:T dY}
theorem aKD{l:ba}{i:Nat}{v:Int}(hi:i<l.length)(h:l.getD i 0=v):l.set i v=l:=by
 refine aJZ (Aq ..) fun j hj=>?_;rw[nD hi];split
 ·rename_i e;rw[<-e,h]
 ·rfl
theorem zL{S:St}{b sz:Nat}{l:ba}{x v:Int}(H:Has fns)(hg:S.h.get b=some (.cells (aU l) false sz))(h0:0<=x)(hx:x.toNat<l.length):
  fZ fns (.fn 157 [] []) [sN b l,.int .i64 x,.int .i64 v] S fun r S'=>bT b S S'/\∃t,r= .bool t/\(t=true->S'.h.get b=some (.cells (aU (l.set x.toNat v)) false sz)/\(0<=l.getD x.toNat 0->l.getD x.toNat 0=v))/\(t=false->0<=l.getD x.toNat 0/\l.getD x.toNat 0≠v):=by
 unfold sN;have hn:=pH (k:=.i64) h0;have hia:=dR (b:=b) (o:=false) hx;have hld:=uI hg hx;refine cF H.f157 (by simp) ?_;refine ae ?_;refine bO (ae ?_);by_cases hlt:l.getD x.toNat 0<0
 ·refine fC (dp hn hia hld ?_);refine aN (by simp only[↓sU,sD,rE,↓reduceIte,rA,Ac hlt]) ?_;refine aJ (dn hn hia ?_);refine fI (fun call=>by refine dn @dS @cR ?_;exact sM (S:=S) hg hx) ?_;refine ae ?_;have hg2:(S.h.set b (some (.cells (aU (l.set x.toNat v)) false sz))).get b=some (.cells (aU (l.set x.toNat v)) false sz):=by rw[di,if_pos rfl]
  have hld2:=uI hg2 (show x.toNat<(l.set x.toNat v).length by rw[Aq];exact hx);rw[nD hx,if_pos rfl] at hld2;refine bO (dp hn hia hld2 ?_);refine aP (ae ?_);exact⟨(bT.refl b S).put _,_,rfl,fun _=>⟨hg2,fun h=>absurd hlt ar⟩,fun h=>by simp at h⟩
 ·refine fC (dp hn hia hld ?_);refine aM (by simp only[↓sU,sD,rE,↓reduceIte,rA,Aa hlt]) (aI ?_);try refine ae ?_
  refine bO (dp hn hia hld ?_);refine aP (ae ?_);refine⟨bT.refl b S,_,rfl,fun h=>?_,fun h=>?_⟩
  ·rw[Cf] at h;exact⟨by rw[aKD hx h];exact hg,fun _=>h⟩
  ·rw[decide_eq_false_iff_not] at h;exact⟨ar,h⟩
def aOv(S:St)(a b:AV)(l m:ba)(k:Nat)(A:bG)(X:St):Prop:=A.inr=false/\Same S X/\∃i,i+k=l.length/\l.take i=m.take i/\aD 0 A.F=a/\aD 1 A.F=b/\aD 12 A.F= .int .i64 (l.length:Int)/\aD 13 A.F= .int .i64 (i:Int)
theorem aIM{S:St}{a b:AV}{l m:ba}(H:Has fns)(ha:bI .i64 S a l)(hb:bI .i64 S b m)(hl:l.length<=10000000):fZ fns (.fn 152 [] []) [a,b] S fun r S'=>r= .bool (decide (l=m))/\Same S S':=by
 refine cF H.f152 (by simp) ?_;refine am ?_;refine bO (am ?_);refine fC (dz ha.len hb.len @Ah ?_);by_cases hlm:l.length=m.length;rotate_left
 ·rw[Aa (show ¬l=m from fun e=>hlm (by rw[e]))];refine aN (by simp only[↓aF,aG,rE,↓reduceIte,rA,Ac (show(l.length:Int)≠(m.length:Int) by omega)]) ?_;refine bO (am ?_);refine aP (am ?_);exact dk _
 refine aM (by simp only[↓aF,aG,rE,↓reduceIte,rA,Aa (show ¬ (l.length:Int)≠(m.length:Int) by omega)]) (aI ?_);try refine am ?_
 refine aA (aX (Q:=fun o A' X=>(o= .normal/\aOv S a b l m 0 A' X)\/(o= .ret/\Same S X/\l≠m/\aD 4 A'.F= .bool false)) (aA (aJ ?_)) ?_)
 ·refine dy ha.len @Ah ?_;refine aK (bH (aOv S a b l m) ?_ l.length _ _ ⟨rfl,dk _,0,ar,rfl,by refine⟨?_,?_,?_,?_⟩<;>simp only[↓aF,aG,rE,↓reduceIte,rA]⟩);rintro k ⟨F,inr⟩ X ⟨q0,hX,i,hik,he,p0,p1,p12,p13⟩;simp only at q0 p0 p1 p12 p13;subst q0;refine bO (dy p12 p13 ?_);by_cases hlt:i<l.length
  ·refine aA (aN (by simp only[↓aF,aG,rE,↓reduceIte,rA,Ac (show(i:Int)<(l.length:Int) by omega)]) (aI ?_));try refine am ?_
   have hltm:i<m.length:=by omega
   have ia:=(ha.same hX).cp hlt;have la:=(ha.same hX).ld hlt;have ib:=(hb.same hX).cp hltm;have lb:=(hb.same hX).ld hltm;have w1:=dh i
   refine aA (aK (aA (aJ ?_)));refine dx p13 ?_;refine aA (gD ?_);refine eu p0 p1 @aH ia ib la lb ?_;have el:l.getD i 0=l[i]:=by rw[Ad,Ab hlt];rfl
   have em:m.getD i 0=m[i]:=by rw[Ad,Ab hltm];rfl
   by_cases hx:l.getD i 0=m.getD i 0
   ·refine aM (by simp only[↓aF,aG,rE,↓reduceIte,rA,Aa (show ¬l.getD i 0≠m.getD i 0 from fun h=>h hx)]) (aI ?_);try refine am ?_
    refine aJ (dy p13 w1 ?_);refine⟨k - 1,ar,rfl,hX.trans (Same.nx _ _),i+1,ar,?_,by refine⟨?_,?_,?_,?_⟩<;>simp only[↓aF,aG,rE,↓reduceIte,rA,p0,p1,p12]⟩;rw[Bn,Bn,he,Ab hlt,Ab hltm,<-el,<-em,hx]
   ·refine aN (by simp only[↓aF,aG,rE,↓reduceIte,rA,Ac (show l.getD i 0≠m.getD i 0 from hx)]) ?_;refine bO (am ?_);refine aP (am ?_);exact .inr ⟨hX.trans (Same.nx _ _),fun e=>hx (by rw[e])⟩
  ·refine aA (aM (by simp only[↓aF,aG,rE,↓reduceIte,rA,Aa (show ¬ (i:Int)<(l.length:Int) by omega)]) (bJ ?_));refine am ?_;have hk0:k=0:=by omega
   subst hk0;exact .inl ⟨rfl,hX,i,hik,he,by refine⟨?_,?_,?_,?_⟩<;>simp only[↓aF,aG,rE,↓reduceIte,rA,p0,p1,p12,p13]⟩
 rintro o ⟨F,inr⟩ X (⟨rfl,q0,hX,i,hik,he,p0,p1,p12,p13⟩ | ⟨rfl,hX,hne,p4⟩);rotate_left
 ·simp only at p4;refine dx p4 ?_;rw[Aa hne];exact⟨rfl,hX⟩
 simp only at q0;subst q0;rw[Bb ar,Bb ar] at he;rw[Ac he];try refine am ?_
 refine bO (am ?_);refine aP (am ?_);exact hX
theorem aBL{h:Ev.T AB}{P P':Fr->Prop}(hP:∀F,P F->P' F):∀ (l:List AO) (F:Fr),oL l F h P->oL l F h P'
 | [],F,hr=>hP F hr
 | ⟨d,.q q,g,mm⟩::l,F,hr=>by
  simp only[oL] at hr ⊢;split at hr
  ·rename_i hw;rw[if_pos hw];have⟨w,hw1,hw2,hw3⟩:=hr;exact⟨w,hw1,hw2,aBL hP l _ hw3⟩
  ·rename_i hw;rw[if_neg hw];exact aBL hP l _ hr
 | ⟨d,.a a,g,mm⟩::l,F,hr=>by cases hr
 | ⟨d,.x a,g,mm⟩::l,F,hr=>by cases hr
theorem aNn{ops pre:List AO}{K m m1 m2 s d e1 e2:Nat}{b:Bool}{f:cO}{args:List cO}{q1 q2:QOp}{A:bG}{S:St}{Q:Out->bG->St->Prop}
  (he:ops=pre++ [⟨some d,.x (.call f args),some (s,b),m⟩,⟨some e1,.q q1,some (s,b),m1⟩,⟨some e2,.q q2,none,m2⟩]) (hK:pre.length=K) (h3:(pre.all fun o=> !Nat.testBit o.mask K)=true) (hm:((List.range K).all fun i=>Nat.testBit m i)=true) (hd:d≠s) (hq1:dN q1=false) (hq2:dN q2=false)
  (h:oL pre A.F S.h fun F'=>aD s F'= .bool b/\fZ fns (f.val F') (dG args F') ⟨S.h,S.nx+(K+3)⟩ fun v S1=>∃w1 w2,gM q1 (cM (some d) F' v) S1.h=some w1/\gM q2 (cM (some e1) (cM (some d) F' v) w1) S1.h=some w2/\Q .normal ⟨cM (some e2) (cM (some e1) (cM (some d) F' v) w1) w2,A.inr⟩ S1):iM fns (.drw ops) A S Q:=by
 subst he;have hlen:(pre++ [(⟨some d,.x (.call f args),some (s,b),m⟩:AO),⟨some e1,.q q1,some (s,b),m1⟩,⟨some e2,.q q2,none,m2⟩]).length=K+3:=by simp [hK]
 refine tI ?_;rw[hlen];refine aA5 (h:=S.h) (K:=K) (pre:=pre) (i:=0) rfl ar (fun o ho=>by have:=Di.1 h3 o ho;simpa using this) (fun l hl=>by cases hl) ?_;refine aBL ?_ pre A.F h;rintro F' ⟨hg,hw⟩ ls hls;refine aLk hg (xQ rfl ?_);simp only[bF];refine aW hw ?_;rintro v S1 ⟨w1,w2,x1,x2,hQ⟩;refine aLk (by rw[<-hg];simp only[bS];rw[if_neg (Bt hd)]) ?_;rw[lM];refine⟨w1,x1,?_⟩;simp only[hq1,bB];rw[lM];refine⟨w2,x2,?_⟩;simp only[hq2,bB];rw[gG];refine⟨?_,?_⟩
 ·simp only[Bz,List.reverse_nil,Cg];refine oR fun l hl=>?_;have⟨h1,h2,h4⟩:=hls l hl;have hm2:=Di.1 hm l.i (Da.2 h2);unfold eI;rw[h4,bB,h1,aR,hm2,aR]
 ·simp only[bF];exact hQ
def kD(W:Nat->Prop)(S X:St):Prop:=S.nx<=X.nx/\∀c,c<S.nx->¬W c->X.h.get c=S.h.get c
section
variable {W:Nat->Prop}{S X Y:St}{b:Nat}
theorem kD.refl(W:Nat->Prop)(S:St):kD W S S:=⟨Ag _,fun _ _ _=>rfl⟩
theorem kD.trans(h:kD W S X)(h':kD W X Y):kD W S Y:=⟨Al h.1 h'.1,fun c hc hw=>(h'.2 c (Ae hc h.1) hw).trans (h.2 c hc hw)⟩
theorem Same.butW(h:Same S X):kD W S X:=⟨h.1,fun c hc _=>h.2 c hc⟩
theorem bT.butW(h:bT b S X)(hb:W b):kD W S X:=⟨h.1,fun c hc hw=>h.2 c hc fun e=>hw (by rw[e];exact hb)⟩
theorem kD.same{S0:St}(h:kD W S X)(h0:Same S0 S)(hW:∀b,W b->S0.nx<=b):Same S0 X:=⟨Al h0.1 h.1,fun c hc=>(h.2 c (Ae hc h0.1) fun hw=>by have:=hW c hw;omega).trans (h0.2 c hc)⟩
end
structure Lay where
 sb:Nat
 ob:Nat
 fb:Nat
 mb:Nat
 kb:Nat
 wb:Nat
 ib:Nat
 rb:Nat
 ab:Nat
 bs:Nat->Nat
 cs:bf
def Lay.W(L:Lay)(n c:Nat):Prop:=c=L.ib\/c=L.rb\/∃j,j<n/\c=L.bs j
def Lay.fn(L:Lay):AV:=.fn 156 [] [.ptr L.sb 0,.ptr L.ob 0,.ptr L.fb 0,.ptr L.mb 0,.ptr L.kb 0]
structure Laid(L:Lay)(S0 S1:St)(n:Nat)(mv:AV):Prop where
 s01:Same S0 S1
 gs:S1.h.get L.sb=some (.cells [.ptr L.wb 0] false 0)
 go:S1.h.get L.ob=some (.cells [.sl L.ib 0 n n false,.sl L.ab 0 n n false] false 0)
 gf:S1.h.get L.fb=some (.cells [.sl L.rb 0 n n false] false 0)
 gm:S1.h.get L.mb=some (.cells [mv] false 0)
 gk:S1.h.get L.kb=some (.cells [L.fn] false 0)
 ga:S1.h.get L.ab=some (.cells L.cs false 0)
 ls:L.sb<S1.nx/\¬L.W n L.sb
 lo:L.ob<S1.nx/\¬L.W n L.ob
 lf:L.fb<S1.nx/\¬L.W n L.fb
 lm:L.mb<S1.nx/\¬L.W n L.mb
 lk:L.kb<S1.nx/\¬L.W n L.kb
 la:L.ab<S1.nx/\¬L.W n L.ab
 w0:∀b,L.W n b->S0.nx<=b/\b<S1.nx
 ir:L.ib≠L.rb
 is:∀j,j<n->L.ib≠L.bs j/\L.rb≠L.bs j
structure Dyn(L:Lay)(S0 X:St)(I F:ba)(A:a9):Prop where
 gi:X.h.get L.ib=some (.cells (aU I) false 0)
 gr:X.h.get L.rb=some (.cells (aU F) false 0)
 rw:zI S0 X L.bs L.cs A
section
variable {L:Lay}{S0 S1 X Y:St}{n:Nat}{mv:AV}{I F:ba}{A:a9}
theorem Laid.s(h:Laid L S0 S1 n mv)(hX:kD (L.W n) S1 X):X.h.get L.sb=some (.cells [.ptr L.wb 0] false 0):=(hX.2 _ h.ls.1 h.ls.2).trans h.gs
theorem Laid.o(h:Laid L S0 S1 n mv)(hX:kD (L.W n) S1 X):X.h.get L.ob=some (.cells [.sl L.ib 0 n n false,.sl L.ab 0 n n false] false 0):=(hX.2 _ h.lo.1 h.lo.2).trans h.go
theorem Laid.f(h:Laid L S0 S1 n mv)(hX:kD (L.W n) S1 X):X.h.get L.fb=some (.cells [.sl L.rb 0 n n false] false 0):=(hX.2 _ h.lf.1 h.lf.2).trans h.gf
theorem Laid.m(h:Laid L S0 S1 n mv)(hX:kD (L.W n) S1 X):X.h.get L.mb=some (.cells [mv] false 0):=(hX.2 _ h.lm.1 h.lm.2).trans h.gm
theorem Laid.k(h:Laid L S0 S1 n mv)(hX:kD (L.W n) S1 X):X.h.get L.kb=some (.cells [L.fn] false 0):=(hX.2 _ h.lk.1 h.lk.2).trans h.gk
theorem Laid.a(h:Laid L S0 S1 n mv)(hX:kD (L.W n) S1 X):X.h.get L.ab=some (.cells L.cs false 0):=(hX.2 _ h.la.1 h.la.2).trans h.ga
theorem Laid.same(h:Laid L S0 S1 n mv)(hX:kD (L.W n) S1 X):Same S0 X:=hX.same h.s01 fun b hb=>(h.w0 b hb).1
theorem Laid.move(h:Laid L S0 S1 n mv)(hX:kD (L.W n) S1 X):Laid L S0 X n mv:=
 ⟨h.same hX,h.s hX,h.o hX,h.f hX,h.m hX,h.k hX,h.a hX,⟨Ae h.ls.1 hX.1,h.ls.2⟩,⟨Ae h.lo.1 hX.1,h.lo.2⟩,⟨Ae h.lf.1 hX.1,h.lf.2⟩,⟨Ae h.lm.1 hX.1,h.lm.2⟩,⟨Ae h.lk.1 hX.1,h.lk.2⟩,⟨Ae h.la.1 hX.1,h.la.2⟩,fun b hb=>⟨(h.w0 b hb).1,Ae (h.w0 b hb).2 hX.1⟩,h.ir,h.is⟩
theorem Dyn.same(h:Dyn L S0 X I F A)(hL:Laid L S0 S1 n mv)(h1:S1.nx<=X.nx)(hs:Same X Y):Dyn L S0 Y I F A:=
 ⟨(hs.2 _ (Ae (hL.w0 _ (.inl rfl)).2 h1)).trans h.gi,(hs.2 _ (Ae (hL.w0 _ (.inr (.inl rfl))).2 h1)).trans h.gr,h.rw.same hs⟩
end
def WkT(L:Lay)(F:Fr)(xb yb to:Nat):Prop:=aD 1 F= .int .i64 (to:Int)/\aD 2 F= .ptr L.sb 0/\aD 3 F= .ptr L.ob 0/\aD 4 F= .ptr L.fb 0/\aD 5 F= .ptr L.mb 0/\aD 6 F= .ptr L.kb 0/\aD 10 F= .ptr xb 0/\aD 11 F= .ptr yb 0
def KdT(L:Lay)(F:Fr)(xb yb to j r v ln:Nat)(xa:AV)(b:Bool):Prop:=WkT L F xb yb to/\aD 12 F= .bool b/\aD 13 F= .int .i64 (j:Int)/\aD 14 F= .int .i64 (r:Int)/\aD 15 F= .int .i64 (v:Int)/\aD 88 F=xa/\aD 89 F= .int .i64 (ln:Int)/\aD 90 F= .int .i64 (j:Int)
noncomputable def agC:List AO:=[mt 130 12,
om 131 1 (.mv (.t 130)),
og 132 131 true 3 (.cw 1 (.t 3)),
og 133 131 true 7 (ld 132),
og 134 131 true 3 (.cw 2 (.t 10)),
og 135 131 true 19 (ld 134),
og 136 131 true 63 (.cp (.slice 1) (.t 133) (.t 135)),
og 137 131 true 127 (ld 136),
og 138 131 true 3 (.mv (.t 13)),
og 139 131 true 3 (ld 2),
og 140 131 true 515 (.ch (.t 139)),
og 141 131 true 1539 (.cw 4 (.t 140)),
og 142 131 true 3587 (ld 141),
og 143 131 true 3 (.mv (.t 15)),
og 144 131 true 15875 (.cp (.slice 1) (.t 142) (.t 143)),
og 145 131 true 32259 (ld 144)]
def WkF(L:Lay)(S1:St)(g:aS)(m:ba)(A:bG)(X:St):Prop:=kD (L.W g.bj.length) S1 X/\¬iR g m/\aD 9 A.F= .bool false
def aRh(L:Lay)(S0 S1:St)(g:aS)(m:ba)(i e xb yb:Nat)(xa:AV)(cx cy:Option AB)(rec:Nat->Option (List dM))(k:Nat)(A:bG)(X:St):Prop:=A.inr=false/\kD (L.W g.bj.length) S1 X/\xb<X.nx/\yb<X.nx/\∃ (j r:Nat) (Tr:List dM) (I F:ba) (As:a9),j+k=(b8 g i).next.length/\jK rec ((b8 g i).next.drop j) r=some Tr/\r+Tr.length=e/\Dyn L S0 X I F As/\iP g m r r I F As/\WkT L A.F xb yb (fG m i)/\X.h.get xb=cx/\X.h.get yb=cy/\aD 12 A.F= .bool (decide ((b8 g i).kind=2))/\aD 88 A.F=xa/\aD 89 A.F= .int .i64 (((b8 g i).next.length:Nat):Int)/\aD 90 A.F= .int .i64 (j:Int)
theorem aIK{S0:St}{L:Lay}{nv iv pv mv:AV}{g:aS}{m:ba}{T:List dM}{Z:ba}{plb szb:Nat}(H:Has fns)(hn:aE 6 bX S0 nv g.bh)(hm:bI .i64 S0 mv m)(G:dE g)(M:aCJ g m)(hTl:T.length=g.bh.length)(hW:WF (eB g) 0 (-1) T)(hpv:bI .i64 S0 pv (T.map (·.1)))(hB:jF S0 L.wb plb szb pv nv iv g (lO g) Z):
  ∀ (f:Nat) {X:St} {i:Nat} {p d:Int} {T':List dM} {I F:ba} {A:a9},fW g.bh.length (eB g) f i p d=some T'->Laid L S0 X g.bj.length mv->Dyn L S0 X I F A->iP g m i (i+1) I F A->
  fZ fns L.fn [.int .i64 (i:Int),.int .i64 ((fG m i:Nat):Int)] X fun r X'=>kD (L.W g.bj.length) X X'/\∃t,r= .bool t/\(t=false->¬iR g m)/\(t=true->∃I' F' A',Dyn L S0 X' I' F' A'/\iP g m (i+T'.length) (i+T'.length) I' F' A'):=by
 have hN:=G.n2;have hNI:=G.ni;intro f
 induction f with
 | zero=>intro X i p d T' I F A hT';cases hT'
 | succ f ih=>
  intro X i p d T' I F A hT' C hD hS;have hX:kD (L.W g.bj.length) X X:=kD.refl _ _;simp only[fW] at hT';split at hT';rotate_left
  ·cases hT'
  rename_i hlt;obtain⟨L',hkids,rfl⟩:=Aw.1 hT';rw[jC] at hkids;have lX:=hX.1;have sX:Same S0 X:=C.same hX;have hWB:=(hB.w.same sX).1;have lwX:=(hB.w.same sX).2;have lds:=dI (p:=0) (C.s hX) rfl;have lsX:L.sb<X.nx:=Ae C.ls.1 lX;have⟨hto,htoN⟩:=M.at hlt;obtain⟨_,bx,qx,hiax,hbx,_,⟨xa,xw,xp,rfl,hxa,hxw,hxp⟩,hldx,_⟩:=aE.at hn ay (gI hlt);obtain⟨_,by',qy,hiay,hby,_,⟨ya,yw,yp,rfl,hya,hyw,hyp⟩,hldy,_⟩:=aE.at hn ay (gI htoN);rw[<-iA sX hbx] at hldx;rw[<-iA sX hby] at hldy;have snv:=aE.self hn;have sx:=wS (k:=.i64) (x0:=(b8 g i).kind) (x1:=(b8 g i).player) (x2:=(b8 g i).info) (bI.self hxa) (bI.self hxw) (bI.self hxp);have sy:=wS (k:=.i64) (x0:=(b8 g (fG m i)).kind) (x1:=(b8 g (fG m i)).player) (x2:=(b8 g (fG m i)).info) (bI.self hya) (bI.self hyw) (bI.self hyp);have lbx:bx<X.nx:=Ae hbx sX.1;have lby:by'<X.nx:=Ae hby sX.1;show fZ fns (.fn 156 [] [.ptr L.sb 0,.ptr L.ob 0,.ptr L.fb 0,.ptr L.mb 0,.ptr L.kb 0]) _ _ _;refine cF H.f156 (by simp) ?_;refine ae ?_;refine bO (ae ?_);refine aA (kJ (fun _=>False) ?_);simp only[↓sU,sD,rE,↓reduceIte,rA,lds,lsX,Ak,bN,cD,bM,aC,aQ,aB,dK hWB,lwX,snv,aH,hiax,hldx,sx,lbx,hiay,hldy,sy,lby,oS];refine aLB (n:=6) rfl rfl rfl (af) (af) (by refine ae ?_;exact aY _) (by refine ae ?_;exact aY _) rfl rfl rfl ar ar ar ?_;intro X1 hX1n hgx hgy hX1;rw[bF];have hX1n:X1.nx=X.nx+20:=hX1n;have sX1:Same X X1:=⟨ar,fun c hc=>hX1 c ar ar⟩;have lx1:X.nx+16<X1.nx:=by omega
  have ly1:X.nx+17<X1.nx:=by omega
  show iM fns _ _ X1 _;refine aA (aA (aX (Q:=fun o A' Y=>o= .normal/\A'.inr=false/\Same X1 Y/\WkT L A'.F (X.nx+16) (X.nx+17) (fG m i)/\∃t,aD 60 A'.F= .bool t/\(t=true↔¬aCH g m i)) (aJ ?_) ?_))
  ·have sX1':=sX.trans sX1;have hxa1:=hxa.same sX1';have hya1:=hya.same sX1';have hxp1:=hxp.same sX1';have hyp1:=hyp.same sX1';by_cases q1:(b8 g i).kind=(b8 g (fG m i)).kind;rotate_left
   ·simp only[↓sU,sD,rE,↓reduceIte,rA,aC,aB,eK hgx,eK hgy,Ac (show(b8 g i).kind≠(b8 g (fG m i)).kind from q1),WkT];exact⟨dk _,true,rfl,fun _ h=>q1 h.1,fun _=>rfl⟩
   have q1':=Aa (show ¬ (b8 g i).kind≠(b8 g (fG m i)).kind from fun h=>h q1);by_cases q4:(b8 g i).player=(b8 g (fG m i)).player;rotate_left
   ·simp only[↓sU,sD,rE,↓reduceIte,rA,aC,aB,eK hgx,eK hgy,dK hgx,dK hgy,q1',Ac (show(b8 g i).player≠(b8 g (fG m i)).player from q4),WkT];exact⟨dk _,true,rfl,fun _ h=>q4 h.2.2.2,fun _=>rfl⟩
   have q4':=Aa (show ¬ (b8 g i).player≠(b8 g (fG m i)).player from fun h=>h q4);by_cases q2:(b8 g i).next.length=(b8 g (fG m i)).next.length;rotate_left
   ·simp only[↓sU,sD,rE,↓reduceIte,rA,aC,aB,eK hgx,eK hgy,dK hgx,dK hgy,dC hgx,dC hgy,hxa1.len,hya1.len,Ah,q1',q4',Ac (show(((b8 g i).next.length:Nat):Int)≠(((b8 g (fG m i)).next.length:Nat):Int) by omega),WkT];exact⟨dk _,true,rfl,fun _ h=>q2 h.2.1,fun _=>rfl⟩
   simp only[↓sU,sD,rE,↓reduceIte,rA,aC,aB,eK hgx,eK hgy,dK hgx,dK hgy,dC hgx,dC hgy,dZ hgx,dZ hgy,hxa1.len,hya1.len,Ah,q1',q4',Aa (show ¬ (((b8 g i).next.length:Nat):Int)≠(((b8 g (fG m i)).next.length:Nat):Int) by omega),WkT];refine bD (ae ?_);refine aW (aIM H hxp1 hyp1 (by have:=G.pay i hlt;omega)) ?_;rintro _ Y ⟨rfl,hY⟩;refine dm @eM ?_;refine⟨hY,_,rfl,?_⟩;by_cases q3:(b8 g i).pay=(b8 g (fG m i)).pay
   ·rw[Ac q3];exact⟨fun h=>(by cases h),fun h=>absurd ⟨q1,q2,q3,q4⟩ h⟩
   ·rw[Aa q3];exact⟨fun _ h=>q3 h.2.2.1,fun _=>rfl⟩
  rintro o ⟨F0,inr⟩ Y ⟨rfl,q0,hY,hP,t,p60,hLt⟩;simp only at q0 hP p60;subst q0;have⟨p1,p2,p3,p4,p5,p6,p10,p11⟩:=hP;have sXY:=sX1.trans hY;have bY:kD (L.W g.bj.length) X Y:=hX.trans (Same.butW sXY);try refine ae ?_
  cases t with
  | true=>
   refine aN (ah p60) ?_;refine bO (ae ?_);refine aP (ae ?_);exact⟨bY,false,rfl,fun _=>aJG hlt (hLt.1 rfl),fun h=>by cases h⟩
  | false=>
  have hL:aCH g m i:=Classical.byContradiction fun h=>by have:=hLt.2 h;cases this
  refine aM (ah p60) (aI ?_);try refine ae ?_
  clear p60 hLt;have hDY:Dyn L S0 Y I F A:=hD.same C lX sXY;have hgxY:=(hY.2 _ lx1).trans hgx;have hgyY:=(hY.2 _ ly1).trans hgy;have lxY:X.nx+16<Y.nx:=Ae lx1 hY.1;have lyY:X.nx+17<Y.nx:=Ae ly1 hY.1;have nWx:∀ {b},X.nx<=b->¬L.W g.bj.length b:=fun {b} hb hw=>by have:=(C.w0 b hw).2;omega
  clear hgx hgy hX1 hX1n hldx hldy;refine bO (dq p10 @aC @aB (eK hgxY) ?_);refine aA (aX (Q:=fun o A' Z=>(o= .normal/\A'.inr=false/\kD (L.W g.bj.length) X Z/\kD (L.W g.bj.length) Y Z/\(∃I' F',Dyn L S0 Z I' F' A/\iP g m (i+1) (i+1) I' F' A)/\WkT L A'.F (X.nx+16) (X.nx+17) (fG m i)/\aD 12 A'.F= .bool (decide ((b8 g i).kind=2)))\/(o= .ret/\WkF L X g m A' Z)) (aA (aX (Q:=fun o A' Z=>o= .normal/\A'.inr=false/\kD (L.W g.bj.length) X Z/\kD (L.W g.bj.length) Y Z/\WkT L A'.F (X.nx+16) (X.nx+17) (fG m i)/\aD 12 A'.F= .bool (decide ((b8 g i).kind=2))/\∃t,aD 86 A'.F= .bool t/\(t=true->¬iR g m)/\(t=false->∃I' F',Dyn L S0 Z I' F' A/\iP g m (i+1) (i+1) I' F' A)) (aJ ?_) ?_)) ?_)
  ·by_cases hk:(b8 g i).kind=2;rotate_left
   ·simp only[↓sU,sD,rE,↓reduceIte,rA,Aa hk,WkT,p1,p2,p3,p4,p5,p6,p10,p11];exact⟨bY,kD.refl _ _,false,rfl,fun h=>(by cases h),fun _=>⟨I,F,hDY,hS.node hL hk⟩⟩
   have⟨a1,a2,a3⟩:=G.inf i hlt hk;have⟨c1,c2⟩:=qY G M hlt hL hk;have hsI:(b8 g i).info.toNat<I.length:=by rw[hS.s.li];omega
   have hsF:(b8 g (fG m i)).info.toNat<F.length:=by rw[hS.lf];omega
   have rI:sN L.ib I= .sl L.ib 0 g.bj.length g.bj.length false:=by unfold sN;rw[hS.s.li]
   have rF:sN L.rb F= .sl L.rb 0 g.bj.length g.bj.length false:=by unfold sN;rw[hS.lf]
   have lo0:=ldc (j:=0) (C.o bY) rfl;have lf0:=dI (p:=0) (C.f bY) rfl;simp only[↓sU,sD,rE,↓reduceIte,rA,Ac hk,p3,p10,p11,aC,aB,lo0,cV hgxY,cV hgyY];refine bD (ae ?_);have hag:=zL (v:=(b8 g (fG m i)).info) H hDY.gi a1 hsI;rw[rI] at hag;refine aW hag ?_;rintro _ Y2 ⟨hY2,t,rfl,ht1,ht0⟩;have wib:L.W g.bj.length L.ib:=.inl rfl;have bY2:=bY.trans (hY2.butW wib);cases t with
   | false=>
    simp only[↓sU,sD,rE,↓reduceIte,rA,eM,Ci,WkT,p1,p2,p3,p4,p5,p6,p10,p11,Ac hk];exact⟨bY2,hY2.butW wib,true,rfl,fun _=>hS.s.no_info G hlt hk (ht0 rfl).1 (ht0 rfl).2,fun h=>by cases h⟩
   | true=>
   have⟨gi2,hI⟩:=ht1 rfl;have xgY2:Y2.h.get (X.nx+16)=_:=(hY2.2 _ lxY (fun e=>nWx (b:=X.nx+16) ar (by rw[e];exact wib))).trans hgxY;have ygY2:Y2.h.get (X.nx+17)=_:=(hY2.2 _ lyY (fun e=>nWx (b:=X.nx+17) ar (by rw[e];exact wib))).trans hgyY;have lf2:=dI (p:=0) (C.f bY2) rfl;simp only[↓sU,sD,rE,↓reduceIte,rA,eM,Cc,p4,p10,p11,aC,aB,lf2,cV xgY2,cV ygY2];refine bD (ae ?_);have wrb:L.W g.bj.length L.rb:=.inr (.inl rfl);have lrb:L.rb<Y.nx:=Ae (C.w0 _ wrb).2 bY.1;have lib:L.ib<Y.nx:=Ae (C.w0 _ wib).2 bY.1;have gr2:=(hY2.2 _ lrb (Bt C.ir)).trans hDY.gr;have hag2:=zL (v:=(b8 g i).info) H gr2 c1 hsF;rw[rF] at hag2;refine aW hag2 ?_;rintro _ Y3 ⟨hY3,t,rfl,ht1,ht0⟩;have bY3:=bY2.trans (hY3.butW wrb);have bYY3:=(hY2.butW wib).trans (hY3.butW wrb);cases t with
   | false=>
    simp only[↓sU,sD,rE,↓reduceIte,rA,eM,Ci,WkT,p1,p2,p3,p4,p5,p6,p10,p11,Ac hk];exact⟨bY3,bYY3,true,rfl,fun _=>hS.no_from G M hlt hL hk (ht0 rfl).1 (ht0 rfl).2,fun h=>by cases h⟩
   | true=>
   have⟨gr3,hF⟩:=ht1 rfl;simp only[↓sU,sD,rE,↓reduceIte,rA,eM,Cc,WkT,p1,p2,p3,p4,p5,p6,p10,p11,Ac hk];refine⟨bY3,bYY3,false,rfl,fun h=>(by cases h),fun _=>⟨_,_,⟨?_,gr3,hDY.rw.move bYY3.1 fun j hj=>?_⟩,hS.nodeM G M hlt hL hk hI hF⟩⟩
   ·rw[hY3.2 _ (Ae lib hY2.1) C.ir];exact gi2
   ·have hjn:j<g.bj.length:=by rw[<-hS.s.la];exact hj
    have ljb:=(hDY.rw.bl j hj).2.1;rw[hY3.2 _ (Ae ljb hY2.1) (Bt (C.is j hjn).2),hY2.2 _ ljb (Bt (C.is j hjn).1)]
  ·clear p1 p2 p3 p4 p5 p6 p10 p11;rintro o ⟨F1,inr⟩ Z ⟨rfl,q0,bZ,bYZ,hP,p12,t,p86,ht1,ht0⟩;simp only at q0 hP p12 p86;subst q0;have⟨p1,p2,p3,p4,p5,p6,p10,p11⟩:=hP;try refine ae ?_
   cases t with
   | true=>
    refine aN (ah p86) ?_;refine bO (ae ?_);refine aP ?_;refine .inr ⟨rfl,bZ,ht1 rfl,?_⟩;simp only[↓sU,sD,rE,↓reduceIte,rA]
   | false=>
    refine aM (ah p86) (aI ?_);exact .inl ⟨rfl,rfl,bZ,bYZ,ht0 rfl,⟨p1,p2,p3,p4,p5,p6,p10,p11⟩,p12⟩
  clear p1 p2 p3 p4 p5 p6 p10 p11;rintro o ⟨F1,inr⟩ Z (⟨rfl,q0,bZ,bYZ,⟨I',F',hDZ,hSZ⟩,hP,p12⟩ | ⟨rfl,hf⟩);rotate_left
  ·have⟨h1,h2,h3⟩:=hf;refine dm h3 ?_;exact⟨h1,false,rfl,fun _=>h2,fun h=>by cases h⟩
  simp only at q0 hP p12;subst q0;have⟨p1,p2,p3,p4,p5,p6,p10,p11⟩:=hP;have exZ:=(bYZ.2 _ lxY (nWx ar)).trans hgxY;have eyZ:=(bYZ.2 _ lyY (nWx ar)).trans hgyY;have lxZ:X.nx+16<Z.nx:=Ae lxY bYZ.1;have lyZ:X.nx+17<Z.nx:=Ae lyY bYZ.1;clear hgxY hgyY lxY lyY hDY;have sZ:=C.same bZ;have hxaZ:=hxa.same sZ;try refine ae ?_
  refine fC (dt p10 @aC @aB (dC exZ) hxaZ.len @Ah ?_);refine aX (Q:=fun o A' V=>(o= .normal/\aRh L S0 X g m i (i+(L'.length+1)) (X.nx+16) (X.nx+17) xa (Z.h.get (X.nx+16)) (Z.h.get (X.nx+17)) (fun r=>fW g.bh.length (eB g) f r i (d+1)) 0 A' V)\/(o= .ret/\WkF L X g m A' V)) (aK (bH (aRh L S0 X g m i (i+(L'.length+1)) (X.nx+16) (X.nx+17) xa (Z.h.get (X.nx+16)) (Z.h.get (X.nx+17)) (fun r=>fW g.bh.length (eB g) f r i (d+1))) ?_ (b8 g i).next.length _ _ ⟨rfl,bZ,lxZ,lyZ,0,i+1,L',I',F',A,ar,by rw[Dx];exact hkids,ar,hDZ,hSZ,(by simp only[↓sU,sD,rE,↓reduceIte,rA,WkT,p1,p2,p3,p4,p5,p6,p10,p11]),rfl,rfl,(ah p12),(af),(af),(af)⟩)) ?_
  ·clear p1 p2 p3 p4 p5 p6 p10 p11 p12 hDZ hSZ hkids;rintro k ⟨F2,inr⟩ V ⟨q0,bV,lxV,lyV,j,r,Tr,I2,F3,As,hjk,hkd,hre,hDV,hSV,hP,exV,eyV,p12,p88,p89,p90⟩;simp only at q0 hP p12 p88 p89 p90;subst q0;rw[exZ] at exV;rw[eyZ] at eyV;have⟨p1,p2,p3,p4,p5,p6,p10,p11⟩:=hP;have sV:=C.same bV;refine bO (dn p89 p90 ?_);by_cases hj:j<(b8 g i).next.length;rotate_left
   ·refine aA (aM (by simp only[↓sU,sD,rE,↓reduceIte,rA,Aa (show ¬ (j:Int)<(((b8 g i).next.length:Nat):Int) by omega)]) (bJ ?_));refine ae ?_;have hk0:k=0:=by omega
    subst hk0;exact .inl ⟨rfl,bV,lxV,lyV,j,r,Tr,I2,F3,As,hjk,hkd,hre,hDV,hSV,(by simp only[↓sU,sD,rE,↓reduceIte,rA,WkT,p1,p2,p3,p4,p5,p6,p10,p11]),by rw[exV,exZ],by rw[eyV,eyZ],(ah p12),(ah p88),(ah p89),(ah p90)⟩
   refine aA (aN (by simp only[↓sU,sD,rE,↓reduceIte,rA,Ac (show(j:Int)<(((b8 g i).next.length:Nat):Int) by omega)]) (aI ?_));try refine ae ?_
   have hxaV:=hxa.same sV;have hmV:=hm.same sV;have hpvV:=hpv.same sV;have hxwV:=hxw.same sV;have hywV:=hyw.same sV;have hBV:=hB.same sV;have hiac:=hxaV.cp hj;have hlac:=hxaV.ld hj;have hdr:(b8 g i).next.drop j=(b8 g i).next[j]::(b8 g i).next.drop (j+1):=Bw hj;have hgd:(b8 g i).next.getD j 0=(b8 g i).next[j]:=by rw[Ad,Ab hj];rfl
   rw[hdr,<-hgd] at hkd;have⟨hr1,hr2⟩:=G.kids i hlt j hj;simp only[jK] at hkd;split at hkd;rotate_left
   ·cases hkd
   rename_i hc;have⟨L1,hw1,hkd⟩:=Cz.1 hkd;obtain⟨L2,hw2,rfl⟩:=Aw.1 hkd;rw[Ao] at hre;have hrN:r<g.bh.length:=by omega
   rw[hc] at hlac;have⟨hve,hvN⟩:=M.at hrN;have hkp:=aLd hW hTl M (i:=i) (k:=j) hlt (by rw[hc,Az];exact hrN);rw[hc,Az] at hkp;have lm0:=dI (p:=0) (C.m bV) rfl;have hiam:=hmV.cp (show r<m.length by rw[M.len];exact hrN);have hlam:=hmV.ld (show r<m.length by rw[M.len];exact hrN);rw[hve] at hlam;have ls0:=dI (p:=0) (C.s bV) rfl;have hvp:fG m r<(T.map (·.1)).length:=by rw[Aj,hTl];exact hvN
   have hiap:=hpvV.cp hvp;have hlap:=hpvV.ld hvp;have hWV:=hBV.w.1;have w1:IntKind.i64.wrap ((j:Int)+1)=((j+1:Nat):Int):=by have:=G.nxt i hlt;rw[wrap_i64 ar ar];omega
   refine aA (aK (aA (aJ ?_)));refine dr p88 p90 @aH hiac hlac ?_;refine bO (dr p5 lm0 @aH hiam hlam ?_);refine fC ?_;simp only[↓sU,sD,rE,↓reduceIte,rA,p1,p2,ls0,bN,bM,aC,aB,dC hWV,aH,hiap,hlap];by_cases hpar:(T.map (·.1)).getD (fG m r) 0=((fG m i:Nat):Int);rotate_left
   ·refine aN (by simp only[↓sU,sD,rE,↓reduceIte,rA,Ac (show(T.map (·.1)).getD (fG m r) 0≠((fG m i:Nat):Int) from hpar)]) ?_;refine bO (ae ?_);refine aP ?_;refine .inr ⟨rfl,bV,aMS hlt hj (hkp.2 hpar),?_⟩;simp only[↓sU,sD,rE,↓reduceIte,rA]
   refine aM (by simp only[↓sU,sD,rE,↓reduceIte,rA,Aa (show ¬ (T.map (·.1)).getD (fG m r) 0≠((fG m i:Nat):Int) from fun h=>h hpar)]) (aI ?_);try refine ae ?_
   have⟨hz0,hzp⟩:=hkp.1 hpar;clear hkp hpar hiap hlap hvp hiac hlac hiam hlam;refine aA (aX (Q:=fun o A' W=>(o= .normal/\A'.inr=false/\W=⟨V.h,V.nx+22⟩/\KdT L A'.F (X.nx+16) (X.nx+17) (fG m i) j r (fG m r) (b8 g i).next.length xa (decide ((b8 g i).kind=2))/\aAO g m i j)\/(o= .ret/\WkF L X g m A' W)) (aA (gD ?_)) ?_)
   ·by_cases k1:(b8 g i).kind=1
    ·have k2:(b8 g (fG m i)).kind=1:=by rw[<-hL.1];exact k1
     have hzl:=aJm hz0;have hnz:=pH (k:=.i64) hz0;have l1:j<(b8 g i).weights.length:=by rw[G.wts i hlt k1];exact hj
     have l2:(jN g m i j).toNat<(b8 g (fG m i)).weights.length:=by rw[G.wts _ htoN k2];exact hzl
     have i1:=hxwV.cp l1;have i2:=hxwV.ld l1;have i3:=hywV.cp l2;have i4:=hywV.ld l2;have i5:=dR (b:=plb) (o:=false) hvN;have i6:=uI hBV.gp (show fG m r<(lO g).length by rw[hBV.lp];exact hvN);rw[<-hzp] at i6;have sxw:=bI.self hxw;have syw:=bI.self hyw;by_cases c2:(b8 g i).weights.getD j 0=(b8 g (fG m i)).weights.getD (jN g m i j).toNat 0
     ·simp only[↓sU,sD,rE,↓reduceIte,rA,p2,p10,p11,bN,cD,bM,aC,aQ,aB,eK exV,dF exV,dF eyV,dF hWV,ls0,Ac k1,sxw,syw,aH,hnz,i1,i2,i3,i4,i5,i6,Aa (show ¬ (b8 g i).weights.getD j 0≠(b8 g (fG m i)).weights.getD (jN g m i j).toNat 0 from fun h=>h c2)];refine aM (af) (aI ?_);refine .inl ⟨rfl,rfl,rfl,?_,fun _=>c2⟩;simp only[↓sU,sD,rE,↓reduceIte,rA,KdT,WkT,p1,p2,p3,p4,p5,p6,p10,p11,p12,p88,p89,p90,and_self]
     ·simp only[↓sU,sD,rE,↓reduceIte,rA,p2,p10,p11,bN,cD,bM,aC,aQ,aB,eK exV,dF exV,dF eyV,dF hWV,ls0,Ac k1,sxw,syw,aH,hnz,i1,i2,i3,i4,i5,i6,Ac (show(b8 g i).weights.getD j 0≠(b8 g (fG m i)).weights.getD (jN g m i j).toNat 0 from c2)];refine aN (af) ?_;refine bO (ae ?_);refine aP ?_;refine .inr ⟨rfl,bV.trans (Same.butW (Same.nx _ _)),aG1 hlt hj (fun h=>c2 (h k1)),?_⟩;simp only[↓sU,sD,rE,↓reduceIte,rA]
    ·refine dt p10 @aC @aQ @aB (eK exV) (Aa k1) ?_;refine aM (af) (aI ?_);refine .inl ⟨rfl,rfl,rfl,?_,fun h=>absurd h k1⟩;simp only[↓sU,sD,rE,↓reduceIte,rA,KdT,WkT,p1,p2,p3,p4,p5,p6,p10,p11,p12,p88,p89,p90,and_self]
   clear p1 p2 p3 p4 p5 p6 p10 p11 p12 p88 p89 p90;rintro o ⟨F2,inr⟩ W (⟨rfl,q0,rfl,hP,hwe⟩ | ⟨rfl,hf⟩);rotate_left
   ·refine ae ?_;exact .inr hf
   simp only at q0 hP;subst q0;have⟨⟨p1,p2,p3,p4,p5,p6,p10,p11⟩,p12,p13,p14,p15,p88,p89,p90⟩:=hP;have sW:=Same.nx V 22;have bW:=bV.trans (Same.butW sW);have hDW:Dyn L S0 ⟨V.h,V.nx+22⟩ I2 F3 As:=hDV.same C bV.1 sW;try refine ae ?_
   refine aA (aX (Q:=fun o A' U=>(o= .normal/\A'.inr=false/\kD (L.W g.bj.length) X U/\kD (L.W g.bj.length) V U/\KdT L A'.F (X.nx+16) (X.nx+17) (fG m i) j r (fG m r) (b8 g i).next.length xa (decide ((b8 g i).kind=2))/\∃As',Dyn L S0 U I2 F3 As'/\iP g m r (r+1) I2 F3 As')\/(o= .ret/\WkF L X g m A' U)) (aA (aX (Q:=fun o A' U=>o= .normal/\A'.inr=false/\kD (L.W g.bj.length) X U/\kD (L.W g.bj.length) V U/\KdT L A'.F (X.nx+16) (X.nx+17) (fG m i) j r (fG m r) (b8 g i).next.length xa (decide ((b8 g i).kind=2))/\∃t,aD 148 A'.F= .bool t/\(t=true->¬iR g m)/\(t=false->∃As',Dyn L S0 U I2 F3 As'/\iP g m r (r+1) I2 F3 As')) ?_ ?_)) ?_)
   ·by_cases hk:(b8 g i).kind=2;rotate_left
    ·refine kJ (fun _=>False) ?_;refine dn p12 (Aa hk) ?_;refine⟨bW.trans (Same.butW (Same.nx _ _)),(Same.butW sW).trans (Same.butW (Same.nx _ _)),?_,false,rfl,fun h=>(by cases h),fun _=>⟨As,?_,hSV.kid G hlt hj hc hz0 hwe hk⟩⟩
     ·simp only[↓sU,sD,rE,↓reduceIte,rA,KdT,WkT,p1,p2,p3,p4,p5,p6,p10,p11,p12,p13,p14,p15,p88,p89,p90,Aa hk,and_self]
     ·exact hDW.same C bW.1 (Same.nx _ _)
    have⟨a1,a2,a3⟩:=G.inf i hlt hk;have hni:=pH (k:=.i64) a1;have hs:(b8 g i).info.toNat<g.bj.length:=by omega
    have hsA:(b8 g i).info.toNat<As.length:=by rw[hSV.s.la];exact hs
    have hls:=hSV.s.ls _ hs;rw[show(((b8 g i).info.toNat:Nat):Int)=(b8 g i).info by omega,a3] at hls;have hkA:j<(As.getD (b8 g i).info.toNat []).length:=by omega
    have lo1:=ldc (j:=1) (C.o bV) rfl;have hia:=dR (b:=L.ab) (o:=false) hs;have hld:=dI (C.a bV) (hDV.rw.cl _ hsA);have srow:cE (sN (L.bs (b8 g i).info.toNat) (As.getD (b8 g i).info.toNat [])) (sN (L.bs (b8 g i).info.toNat) (As.getD (b8 g i).info.toNat []))=true:=nH ..;have i5:=dR (b:=plb) (o:=false) hvN;have i6:=uI hBV.gp (show fG m r<(lO g).length by rw[hBV.lp];exact hvN);rw[<-hzp] at i6;refine aNn (pre:=agC) (K:=16) rfl rfl rfl rfl ay rfl rfl ?_;unfold agC;simp only[↓sU,sD,rE,↓reduceIte,rA,p2,p3,p10,p12,p13,p15,Ac hk,bN,cD,bM,aC,aQ,aB,lo1,cV exV,hni,hia,hld,srow,ls0,dF hWV,aH,i5,i6];have hag:=zL (S:=⟨V.h,V.nx+22+19⟩) (v:=jN g m i j) (x:=(j:Int)) H (hDV.rw.bl _ hsA).2.2 ar (by rw[Az];exact hkA);rw[Az] at hag;refine aW hag ?_;rintro _ U ⟨hU,t,rfl,ht1,ht0⟩;have wbs:L.W g.bj.length (L.bs (b8 g i).info.toNat):=.inr (.inr ⟨_,hs,rfl⟩);have bVU:kD (L.W g.bj.length) V U:=(Same.butW (Same.nx V (22+19))).trans (hU.butW wbs);have bU:=bV.trans bVU;refine⟨.bool (!t),.bool (!t),?_,?_,bU,bVU,?_, !t,?_,?_,?_⟩
    ·simp only[↓sU,sD,rE,↓reduceIte,rA,eM]
    ·simp only[↓sU,sD,rE,↓reduceIte,rA]
    ·simp only[↓sU,sD,rE,↓reduceIte,rA,KdT,WkT,p1,p2,p3,p4,p5,p6,p10,p11,p12,p13,p14,p15,p88,p89,p90,Ac hk,and_self]
    ·simp only[↓sU,sD,rE,↓reduceIte,rA]
    ·intro h;cases t with
     | true=>cases h
     | false=>exact hSV.no_act G hlt hk hj (ht0 rfl).1 (ht0 rfl).2
    ·intro h;cases t with
     | false=>cases h
     | true=>
     have⟨gU,hA⟩:=ht1 rfl;have lrow:=hDV.rw.bl _ hsA;have wib:L.W g.bj.length L.ib:=.inl rfl;have wrb:L.W g.bj.length L.rb:=.inr (.inl rfl);have lrb:L.rb<V.nx:=Ae (C.w0 _ wrb).2 bV.1;have lib:L.ib<V.nx:=Ae (C.w0 _ wib).2 bV.1;have hU2:∀c,c<V.nx->c≠L.bs (b8 g i).info.toNat->U.h.get c=V.h.get c:=fun c hc hne=>hU.2 c (by show c<V.nx+22+19;omega) hne;refine⟨_,⟨(hU2 _ lib (C.is _ hs).1).trans hDV.gi,(hU2 _ lrb (C.is _ hs).2).trans hDV.gr,?_⟩,hSV.kidM G hlt hj hc hz0 hwe hk hA⟩;refine(hDV.rw.put hsA (Ag _)).move (show V.nx<=U.nx from bVU.1) fun q hq=>?_;rw[Aq] at hq;simp only;rw[Ev.T.get_set];split
     ·rename_i e;rw[e];exact gU
     ·rename_i e;exact hU2 _ (hDV.rw.bl q hq).2.1 e
   ·clear p1 p2 p3 p4 p5 p6 p10 p11 p12 p13 p14 p15 p88 p89 p90;rintro o ⟨F2,inr⟩ U ⟨rfl,q0,bU,bVU,hP,t,p148,ht1,ht0⟩;simp only at q0 hP p148;subst q0;have⟨⟨p1,p2,p3,p4,p5,p6,p10,p11⟩,p12,p13,p14,p15,p88,p89,p90⟩:=hP;try refine ae ?_
    cases t with
    | true=>
     refine aN (ah p148) ?_;refine bO (ae ?_);refine aP ?_;refine .inr ⟨rfl,bU,ht1 rfl,?_⟩;simp only[↓sU,sD,rE,↓reduceIte,rA]
    | false=>
     refine aM (ah p148) (aI ?_);exact .inl ⟨rfl,rfl,bU,bVU,⟨⟨p1,p2,p3,p4,p5,p6,p10,p11⟩,p12,p13,p14,p15,p88,p89,p90⟩,ht0 rfl⟩
   clear p1 p2 p3 p4 p5 p6 p10 p11 p12 p13 p14 p15 p88 p89 p90;rintro o ⟨F2,inr⟩ U (⟨rfl,q0,bU,bVU,hP,As',hDU,hSU⟩ | ⟨rfl,hf⟩);rotate_left
   ·refine ae ?_;exact .inr hf
   simp only at q0 hP;subst q0;have⟨⟨p1,p2,p3,p4,p5,p6,p10,p11⟩,p12,p13,p14,p15,p88,p89,p90⟩:=hP;have exU:=(bVU.2 _ lxV (nWx ar)).trans exV;have eyU:=(bVU.2 _ lyV (nWx ar)).trans eyV;have lxU:X.nx+16<U.nx:=Ae lxV bVU.1;have lyU:X.nx+17<U.nx:=Ae lyV bVU.1;have lk0:=dI (p:=0) (C.k bU) rfl;try refine ae ?_
   refine aX (Q:=fun o A' R=>(o= .normal/\A'.inr=false/\kD (L.W g.bj.length) X R/\kD (L.W g.bj.length) U R/\KdT L A'.F (X.nx+16) (X.nx+17) (fG m i) j r (fG m r) (b8 g i).next.length xa (decide ((b8 g i).kind=2))/\∃I'' F'' A'',Dyn L S0 R I'' F'' A''/\iP g m (r+L1.length) (r+L1.length) I'' F'' A'')\/(o= .ret/\WkF L X g m A' R)) (aA (aJ ?_)) ?_
   ·refine dq p6 p14 p15 lk0 ?_;refine bD (ae ?_);refine aW (ih hw1 (C.move bU) hDU hSU) ?_;rintro _ R ⟨bUR,t,rfl,ht0,ht1⟩;refine dm @eM ?_;cases t with
    | false=>
     refine aN (by simp only[↓sU,sD,rE,↓reduceIte,rA,Ci]) ?_;refine bO (ae ?_);refine aP ?_;refine .inr ⟨rfl,bU.trans bUR,ht0 rfl,?_⟩;simp only[↓sU,sD,rE,↓reduceIte,rA]
    | true=>
     refine aM (by simp only[↓sU,sD,rE,↓reduceIte,rA,Cc]) (aI ?_);refine .inl ⟨rfl,rfl,bU.trans bUR,bUR,?_,ht1 rfl⟩;simp only[↓sU,sD,rE,↓reduceIte,rA,KdT,WkT,p1,p2,p3,p4,p5,p6,p10,p11,p12,p13,p14,p15,p88,p89,p90,and_self]
   clear p1 p2 p3 p4 p5 p6 p10 p11 p12 p13 p14 p15 p88 p89 p90;rintro o ⟨F2,inr⟩ R (⟨rfl,q0,bR,bUR,hP,I4,F4,A4,hDR,hSR⟩ | ⟨rfl,hf⟩);rotate_left
   ·refine ae ?_;exact .inr hf
   simp only at q0 hP;subst q0;have⟨⟨p1,p2,p3,p4,p5,p6,p10,p11⟩,p12,p13,p14,p15,p88,p89,p90⟩:=hP;try refine ae ?_
   refine aJ (dn p90 w1 ?_);refine⟨k - 1,ar,rfl,bR,Ae lxU bUR.1,Ae lyU bUR.1,j+1,r+L1.length,L2,I4,F4,A4,ar,hw2,ar,hDR,hSR,?_,?_,?_,?_,?_,?_,?_⟩
   ·simp only[↓sU,sD,rE,↓reduceIte,rA,WkT,p1,p2,p3,p4,p5,p6,p10,p11,and_self]
   ·rw[bUR.2 _ lxU (nWx ar),exU,exZ]
   ·rw[bUR.2 _ lyU (nWx ar),eyU,eyZ]
   ·simp only[↓sU,sD,rE,↓reduceIte,rA,p12]
   ·simp only[↓sU,sD,rE,↓reduceIte,rA,p88]
   ·simp only[↓sU,sD,rE,↓reduceIte,rA,p89]
   ·simp only[↓sU,sD,rE,↓reduceIte,rA]
  clear p1 p2 p3 p4 p5 p6 p10 p11 p12;rintro o ⟨F2,inr⟩ V (⟨rfl,q0,bV,lxV,lyV,j,r,Tr,I2,F3,As,hjk,hkd,hre,hDV,hSV,hP,exV,eyV,p12,p88,p89,p90⟩ | ⟨rfl,hf⟩);rotate_left
  ·have⟨h1,h2,h3⟩:=hf;refine dm h3 ?_;exact⟨h1,false,rfl,fun _=>h2,fun h=>by cases h⟩
  simp only at q0;subst q0;rw[Cn ar] at hkd;simp only[jK,Ap] at hkd;subst hkd;rw[Bq,Br] at hre;subst hre;try refine ae ?_
  refine bO (ae ?_);refine aP (ae ?_);exact⟨bV,true,rfl,fun h=>(by cases h),fun _=>⟨I2,F3,As,hDV,hSV⟩⟩
theorem aEY{F:Fr}{h:Ev.T AB}{s t:Nat}{x y:AV}(h1:aD s F=x)(h2:aD t F=y)(hx:x.cells=some [x])(hy:y.cells=some [y]):gM (.build [.bw,.bw] [(0,1,.t s),(1,1,.t t)]) F h=some (.agg [x,y]):=by
 show(bC (eQ _ (eH F [(0,1,.t s),(1,1,.t t)])) fun cs=>some (AV.agg cs))=_;simp only[eH,show(cO.t s).val F=x from h1,show(cO.t t).val F=y from h2,eQ,hx,hy,aL];rfl
theorem aJ3{F:Fr}{h:Ev.T AB}:gM (.build [.bw,.bw] []) F h=some (.agg [.bw,.bw]):=rfl
theorem aP1{W:Nat->Prop}{h0:Ev.T AB}{base:Nat}{F:Fr}{S:St}{Q:Fr->St->List iQ->Prop}{i a b n m1 j1 j2 l:Nat}{za zb cy:bf}{t2 u2:cO}(ht1:Nat.testBit m1 j1=true)(ht2:Nat.testBit m1 j2=true)(hm2:jQ (some l) m1=true)
  (h2:t2.val F= .ptr b 0) (hu2:(u2.val F).cells=some cy) (lz:zb.length=n) (ly:cy.length=n) (hab:a≠b) (hba:base<=a) (hbb:base<=b)
  (hr:∀S',S'.nx=S.nx->S'.h.get a=some (.cells za false 0)->S'.h.get b=some (.cells cy false 0)->(∀c,c≠a->c≠b->S'.h.get c=S.h.get c)->Q F S' []):
  fF fns W h0 base [⟨none,.x (.st n t2 u2),none,m1⟩] i F S [⟨j2,b,.cells zb false 0⟩,⟨j1,a,.cells za false 0⟩] (some l) Q:=by
 have hf:cJ m1 [⟨j2,b,.cells zb false 0⟩,⟨j1,a,.cells za false 0⟩] S.h=([],(S.h.set b (some (.cells zb false 0))).set a (some (.cells za false 0))):=by rw[fD ht2,fD ht1,bF]
 have hg2:((S.h.set b (some (.cells zb false 0))).set a (some (.cells za false 0))).get b=some (.cells zb false 0):=by rw[di,if_neg (Bt hab),di,if_pos rfl]
 have x2:=kH (S:=⟨(S.h.set b (some (.cells zb false 0))).set a (some (.cells za false 0)),S.nx⟩) (cs':=cy) (n:=n) hg2 lz ly;refine pD (S1:=⟨((S.h.set b (some (.cells zb false 0))).set a (some (.cells za false 0))).set b (some (.cells cy false 0)),S.nx⟩) hm2 ?_ ?_ ?_
 ·rw[hf,h2,hu2,aL];exact x2
 ·rw[hf];exact⟨Ag _,fun c hc _=>by simp only;rw[di,if_neg ar,di,if_neg ar,di,if_neg ar]⟩
 rw[hf];refine hr _ rfl ?_ ?_ fun c hc1 hc2=>?_
 ·simp only;rw[di,if_neg hab,di,if_pos rfl]
 ·simp only;rw[di,if_pos rfl]
 ·simp only;rw[di,if_neg hc2,di,if_neg hc1,di,if_neg hc2]
def aRe(X3:St)(sb mb tb ob fb ab ib rb:Nat)(iv:AV)(g:aS)(k:Nat)(A:bG)(X:St):Prop:=A.inr=false/\bT ab X3 X/\∃i bs cs,i+k=g.bj.length/\cs.length=g.bj.length/\X.h.get ab=some (.cells cs false 0)/\zI X3 X bs cs ((aAS g).take i)/\aD 2 A.F= .ptr sb 0/\aD 3 A.F= .ptr mb 0/\aD 4 A.F= .ptr tb 0/\aD 6 A.F= .ptr ob 0/\aD 7 A.F= .ptr fb 0/\aD 37 A.F=iv/\aD 38 A.F= .int .i64 (g.bj.length:Int)/\aD 39 A.F= .int .i64 (i:Int)
def vR(g:aS)(m:ba)(S S':St)(x y:AV):Prop:=oH S S' x (de g m)/\∃ab bs cs,y= .sl ab 0 (df g m).length (df g m).length false/\S.nx<=ab/\ab<S'.nx/\S'.h.get ab=some (.cells cs false 0)/\zI S S' bs cs (df g m)
theorem aC0{S:St}{wb plb szb:Nat}{nv iv pv mv:AV}{g:aS}{m:ba}{T:List dM}{Z:ba}(H:Has fns)(hn:aE 6 bX S nv g.bh)(hi:aE 2 bP S iv g.bj)(hm:bI .i64 S mv m)(G:dE g)(M:aCJ g m)(hT:iN g=some T)(hTl:T.length=g.bh.length)(hpv:bI .i64 S pv (T.map (·.1)))(hB:jF S wb plb szb pv nv iv g (lO g) Z):
  fZ fns (.fn 116 [] []) [.ptr wb 0,mv] S fun r S'=>Same S S'/\∃x y t,r= .tup [.agg [x,y],.bool t]/\(t=true↔iR g m)/\(t=true->vR g m S S' x y):=by
 have hml:0<m.length:=by rw[M.len];exact G.n1
 have hN:=G.n2;have hNI:=G.ni;have hWF:WF (eB g) 0 (-1) T:=by unfold iN at hT;exact rJ hT
 refine cF H.f116 (by simp) ?_;refine ae ?_;refine bO ?_;refine cI (cs:=[.ptr wb 0]) rfl ?_;intro S1 s1 n1 g1;refine cI (cs:=[mv]) ?_ ?_
 ·exact bI.cells hm
 intro S2 s2 n2 g2;refine cA ?_;intro S3 s3 n3 g3;refine ae ?_;have s13:=s2.trans s3;have sS3:=s1.trans s13;have gsb:S3.h.get S.nx=some (.cells [.ptr wb 0] false 0):=by rw[s13.2 _ ar];exact g1
 have gmb:S3.h.get S1.nx=some (.cells [mv] false 0):=by rw[s3.2 _ ar];exact g2
 have gtb:S3.h.get S2.nx=some (.cells [.bw,.bw] false 0):=g3;have e1:S1.nx=S.nx+1:=n1;have e2:S2.nx=S.nx+2:=by omega
 have e3:S3.nx=S.nx+3:=by omega
 rw[e1] at gmb;rw[e2] at gtb;simp only[e1,e2];clear g1 g2 g3 s1 s2 s3 s13 n1 n2 n3 e1 e2 S1 S2;have hB3:=hB.same sS3;have hW3:=hB3.w.1;have lw3:=hB3.w.2;have ls0:=dI (p:=0) gsb rfl;have lsb:S.nx<S3.nx:=by omega
 have siv:=aE.self hi;refine aA (nS (fun _=>False) ?_);intro X1 x1 hx1 hm1;simp only[↓sU,sD,rE,↓reduceIte,rA,ls0,lsb,Ak,bN,cD,bM,aC,aQ,aB,cV hW3,lw3,siv,hi.len];refine cU rfl ?_;refine ae ?_;refine aW (vM H (n:=g.bj.length) ar) ?_;rintro r X2 ⟨⟨ib,rfl,b1,b2,b3⟩,x2⟩;rw[Au];refine⟨x2,?_⟩;simp only[↓sU,sD,rE,↓reduceIte,rA,ls0,lsb,Ak,bN,cD,bM,aC,aQ,aB,cV hW3,lw3,siv,hi.len];refine pN (n:=g.bj.length) (by simp only[↓sU,sD,rE,↓reduceIte,rA,aH]) (by simp only[↓sU,sD,rE,↓reduceIte,rA,aH]) ax ax  ?_;refine ae ?_;rw[aEY (x:=.sl ib 0 g.bj.length g.bj.length false) (y:=.sl (S3.nx+13) 0 g.bj.length g.bj.length false) (af) (af) rfl rfl];refine dn @iW @oS ?_;refine aP1 (n:=2) rfl rfl rfl (af) (by refine ae ?_;exact aY _) rfl rfl ar ar ar ?_;intro X3 hX3n ga0 go0 hX3;rw[bF,repeatL_one] at *;have bX1:X1.nx=S3.nx+17:=hm1;have lX2:=x2.1;have eX3:X3.nx=X2.nx:=hX3n;have sX3:Same S3 X3:=⟨ar,fun c hc=>by rw[hX3 c ar ar,x2.2 _ ar,hx1]⟩;have gi0:X3.h.get ib=some (.cells (aU (List.replicate g.bj.length (-1))) false 0):=by rw[hX3 _ ar ar];exact b3
 show iM fns _ _ X3 _;have gsb3:=(sX3.2 _ lsb).trans gsb;have ls3:=dI (p:=0) gsb3 rfl;have hW4:=(hB3.same sX3).w.1;refine bO (eu ls3 @bN @bM @aC @aB (cV hW4) hi.len ?_);refine bD (am ?_);refine aW (vM H (n:=g.bj.length) ar) ?_;rintro r X4 ⟨⟨rb,rfl,d1,d2,d3⟩,x4⟩;rw[Au];try refine am ?_
 refine cA ?_;intro X5 x5 m5 g5;refine cQ (b:=X4.nx) (cs':=[.sl rb 0 g.bj.length g.bj.length false]) (ap) (by simp only[↓aF,aG,rE,↓reduceIte,rA];rfl) g5 rfl rfl ?_;intro X6 x6 m6 g6;refine am ?_;have lX4:=x4.1;have x36:Same X3 X6:=x4.trans (x6.same x5 (Ag _));have sX6:=sX3.trans x36;have gi6:=(x36.2 _ ar).trans gi0;have ga6:=(x36.2 _ ar).trans ga0;have go6:=(x36.2 _ ar).trans go0;have gr6:X6.h.get rb=some (.cells (aU (List.replicate g.bj.length (-1))) false 0):=by rw[x6.2 _ ar ar,x5.2 _ ar];exact d3
 have gsb6:=(sX6.2 _ lsb).trans gsb;have ls6:=dI (p:=0) gsb6 rfl;have hW6:=(hB3.same sX6).w.1;have eX6:X6.nx=X4.nx+1:=by omega
 have hli:=hi.len;refine aA (aX (Q:=fun o A' X=>o= .normal/\aRe X6 S.nx (S.nx+1) (S.nx+2) (S3.nx+15) X4.nx (S3.nx+13) ib rb iv g 0 A' X) (aA (aJ ?_)) ?_)
 ·refine eu ls6 @bN @bM @aC @aB (cV hW6) hli ?_;refine aK (bH (aRe X6 S.nx (S.nx+1) (S.nx+2) (S3.nx+15) X4.nx (S3.nx+13) ib rb iv g) ?_ g.bj.length _ _ ⟨rfl,bT.refl _ _,0,fun _=>0,_,ar,Au ..,ga6,zI.none,by refine⟨?_,?_,?_,?_,?_,?_,?_,?_⟩<;>simp only[↓aF,aG,rE,↓reduceIte,rA]⟩);rintro k ⟨F,inr⟩ X ⟨q0,hX,i,bs,cs,hik,hcl,hga,hR,p2,p3,p4,p6,p7,p37,p38,p39⟩;simp only at q0 p2 p3 p4 p6 p7 p37 p38 p39;subst q0;refine bO (dy p38 p39 ?_);by_cases hlt:i<g.bj.length;rotate_left
  ·refine aA (aM (by simp only[↓aF,aG,rE,↓reduceIte,rA,Aa (show ¬ (i:Int)<(g.bj.length:Int) by omega)]) (bJ ?_));refine am ?_;have hk0:k=0:=by omega
   subst hk0;exact⟨rfl,hX,i,bs,cs,hik,hcl,hga,hR,by refine⟨?_,?_,?_,?_,?_,?_,?_,?_⟩<;>simp only[↓aF,aG,rE,↓reduceIte,rA,p2,p3,p4,p6,p7,p37,p38,p39]⟩
  refine aA (aN (by simp only[↓aF,aG,rE,↓reduceIte,rA,Ac (show(i:Int)<(g.bj.length:Int) by omega)]) (aI ?_));try refine am ?_
  have sX:Same S X:=hX.same (sS3.trans sX6) ar;have lXn:=hX.1;have⟨f1,f2,f3⟩:=G.fst i hlt;have hac:=(G.inf _ f1 f2).2.2;rw[f3] at hac;have⟨e,b,q,hian,hb,he,heq,hla,_⟩:=aE.at hi ay (Ab hlt);have hia':g.bj[i]=cd g (i:Int):=by unfold cd;rw[Ad,Az,Ab hlt];rfl
  unfold bP at heq;subst heq;rw[hia',hac] at hla;rw[<-iA sX hb] at hla;have hnl:(b8 g (fU g i)).next.length<=1000:=G.nxt _ f1;generalize hna:(b8 g (fU g i)).next.length=na at *;have w1:=dh i
  have goX:=(hX.2 _ (show S3.nx+15<X6.nx by omega) ar).trans go6;refine aA (aK (aA (aJ ?_)));refine ef p37 p39 @aH hian hla ?_;refine cA ?_;intro Y1 y1 k1 h1;refine am ?_;refine cQ (b:=X.nx) (ap) (by refine am ?_;exact aY _) h1 rfl rfl ?_;intro Y2 y2 k2 h2;refine am ?_;have sXY:Same X Y2:=y2.same y1 (Ag _);have eY2:Y2.nx=X.nx+1:=by omega
  have goY:=(sXY.2 _ ar).trans goX;have gaY:=(sXY.2 _ ar).trans hga;have hRY:=hR.same sXY;have hlo1:=ldc (j:=1) goY rfl;have hlx1:=ldc (j:=1) h2 rfl;have nW1:¬ (S3.nx+15=S3.nx+13):=by omega
  have nW2:¬ (X.nx=S3.nx+13):=by omega
  have lW1:S3.nx+15<Y2.nx:=by omega
  have lW2:X.nx<Y2.nx:=by omega
  have hia:=dR (b:=S3.nx+13) (o:=false) hlt;refine nS (fun c=>c=S3.nx+13) ?_;intro U0 u0 hu0 mu0;simp only[↓sU,sD,rE,↓reduceIte,rA,p6,aC,aQ,aB,hlo1,hlx1,nW1,nW2,lW1,lW2,Ak];refine cU rfl ?_;refine ae ?_;refine aW (vM H (n:=na) ar) ?_;rintro r U1 ⟨⟨nb,rfl,t1,t2,t3⟩,u1⟩;refine⟨u1,?_⟩;have sYU:Same Y2 U1:=u0.trans u1;have gaU:=(sYU.2 _ ar).trans gaY;refine dn @aH hia ?_;refine aA9 (ps':=[]) (h':=U1.h) (b:=S3.nx+13) (p:=i) (cs:=cs) (w:=sN nb (List.replicate na (-1))) (by rw[bF]) rfl (af) (by simp only[↓sU,sD,rE,↓reduceIte,rA];rfl) gaU ar rfl ?_;refine ae ?_;have lu0:=u0.1;have lu1:=u1.1;have hA0:((aAS g).take i).length=i:=by unfold aAS;rw[Ca,Aj];omega
  have hA1:(aAS g).take (i+1)=(aAS g).take i++ [List.replicate na (-1)]:=by
   rw[Bn];congr 1;unfold aAS;rw[Am,Ab hlt,hia'];show [List.replicate (cd g (i:Int)).bt.toNat (-1)]=_;rw[hac,Az]
  refine aJ (dn p39 w1 ?_);refine⟨k - 1,ar,rfl,⟨show X6.nx<=U1.nx by omega,fun c hc hne=>?_⟩,i+1,(fun j=>if j=((aAS g).take i).length then nb else bs j),cs.set i (sN nb (List.replicate na (-1))),ar,by rw[Aq];exact hcl,by simp only;rw[Ev.T.get_set,if_pos rfl],?_,by refine⟨?_,?_,?_,?_,?_,?_,?_,?_⟩<;>simp only[↓sU,sD,rE,↓reduceIte,rA,p2,p3,p4,p6,p7,p37,p38]⟩
  ·simp only;rw[Ev.T.get_set,if_neg hne,sYU.2 _ ar,sXY.2 _ ar];exact hX.2 c hc hne
  ·rw[hA1];refine(hRY.same sYU |>.move (X':=⟨U1.h.set (S3.nx+13) (some (.cells (cs.set i (sN nb (List.replicate na (-1)))) false 0)),U1.nx⟩) (Ag _) fun j hj=>?_).add (nb:=nb) ar (show nb<U1.nx from t2) ?_ (fun j hj=>?_) (fun j hj=>?_) ?_
   ·have:=(hRY.bl j hj).1;simp only;rw[Ev.T.get_set,if_neg ar]
   ·simp only;rw[Ev.T.get_set,if_neg ar];exact t3
   ·have:=(hRY.bl j hj).2.1;omega
   ·rw[Cu,if_neg ar]
   ·rw[hA0,Cu,if_pos rfl,if_pos ar]
 rintro o ⟨F,inr⟩ X7 ⟨rfl,q0,hX7,i,bs,cs,hik,hcl,hga,hR,p2,p3,p4,p6,p7,p37,p38,p39⟩;simp only at q0 p2 p3 p4 p6 p7;subst q0;obtain rfl:i=g.bj.length:=by omega
 have hAl:(aAS g).length=g.bj.length:=by unfold aAS;rw[Aj]
 rw[Bb ar] at hR;clear p37 p38 p39;try refine am ?_
 have lX7:=hX7.1;refine bO ?_;refine cA ?_;intro X8 x8 m8 g8;refine am ?_;refine bO (ef @aA3 p2 p3 p6 p7 ?_);obtain⟨L,hL⟩:∃L:Lay,L=⟨S.nx,S3.nx+15,X4.nx,S.nx+1,X7.nx,wb,ib,rb,S3.nx+13,bs,cs⟩:=⟨_,rfl⟩;have hLfn:L.fn= .fn 156 [] [.ptr S.nx 0,.ptr (S3.nx+15) 0,.ptr X4.nx 0,.ptr (S.nx+1) 0,.ptr X7.nx 0]:=by rw[hL];rfl
 refine cQ (b:=X7.nx) (cs':=[L.fn]) (ap) (by rw[hLfn];simp only[↓aF,aG,rE,↓reduceIte,rA];rfl) g8 rfl rfl ?_;intro X9 x9 m9 g9;refine am ?_;have eX9:X9.nx=X7.nx+1:=by omega
 have s79:Same X7 X9:=x9.same x8 (Ag _);have old:∀c,c<X6.nx->c≠S3.nx+13->X9.h.get c=X6.h.get c:=fun c hc hne=>by rw[s79.2 _ ar,hX7.2 c hc hne]
 have sX9:Same S X9:=⟨ar,fun c hc=>by rw[old c ar ar,(sS3.trans sX6).2 _ hc]⟩;have hWb:∀b,L.W g.bj.length b->(X1.nx<=b/\b<X2.nx)\/(X3.nx<=b/\b<X4.nx)\/(X6.nx<=b/\b<X7.nx):=by
  rw[hL];rintro b (rfl | rfl | ⟨j,hj,rfl⟩)
  ·exact .inl ⟨b1,b2⟩
  ·exact .inr (.inl ⟨d1,d2⟩)
  ·have⟨h1,h2,_⟩:=hR.bl j ar;exact .inr (.inr ⟨h1,h2⟩)
 have C:Laid L S X9 g.bj.length mv:=by
  have nW:∀c,(c<X1.nx\/c=X4.nx\/c=X7.nx)->¬L.W g.bj.length c:=fun c hc hw=>by have:=hWb c hw;omega
  have w0:∀b,L.W g.bj.length b->S.nx<=b/\b<X9.nx:=fun b hw=>by have:=hWb b hw;omega
  subst hL;refine⟨sX9,?_,?_,?_,?_,g9,?_,⟨?_,nW _ (.inl ?_)⟩,⟨?_,nW _ (.inl ?_)⟩,⟨?_,nW _ (.inr (.inl rfl))⟩,⟨?_,nW _ (.inl ?_)⟩,⟨?_,nW _ (.inr (.inr rfl))⟩,⟨?_,nW _ (.inl ?_)⟩,w0,?_,fun j hj=>?_⟩
  ·show X9.h.get S.nx=_;rw[old _ ar ar];exact gsb6
  ·show X9.h.get (S3.nx+15)=_;rw[old _ ar ar];exact go6
  ·show X9.h.get X4.nx=_;rw[old _ ar ar];exact g6
  ·show X9.h.get (S.nx+1)=_;rw[old _ ar ar,sX6.2 _ ar];exact gmb
  ·show X9.h.get (S3.nx+13)=_;rw[s79.2 _ ar];exact hga
  ·show S.nx<X9.nx;omega
  ·show S.nx<X1.nx;omega
  ·show S3.nx+15<X9.nx;omega
  ·show S3.nx+15<X1.nx;omega
  ·show X4.nx<X9.nx;omega
  ·show S.nx+1<X9.nx;omega
  ·show S.nx+1<X1.nx;omega
  ·show X7.nx<X9.nx;omega
  ·show S3.nx+13<X9.nx;omega
  ·show S3.nx+13<X1.nx;omega
  ·show ib≠rb;omega
  ·have⟨h1,h2,_⟩:=hR.bl j ar;show ib≠bs j/\rb≠bs j;omega
 have hD:Dyn L S X9 (List.replicate g.bj.length (-1)) (List.replicate g.bj.length (-1)) (aAS g):=by
  subst hL;refine⟨?_,?_,?_⟩
  ·show X9.h.get ib=_;rw[old _ ar ar];exact gi6
  ·show X9.h.get rb=_;rw[old _ ar ar];exact gr6
  ·exact(hR.same s79).low ar
 have hBL:jF S L.wb plb szb pv nv iv g (lO g) Z:=by rw[hL];exact hB
 have hiw:=aIK H hn hm G M hTl hWF hpv hBL (g.bh.length+1) (by unfold iN at hT;exact hT) C hD (iP.start G m);rw[An,hTl] at hiw;have hgm:X9.h.get (S.nx+1)=some (.cells [mv] false 0):=by have:=C.gm;rw[hL] at this;exact this
 have hgk:X9.h.get X7.nx=some (.cells [L.fn] false 0):=g9;have lm0:=dI (p:=0) hgm rfl;have lk0:=dI (p:=0) hgk rfl;have hm9:=hm.same sX9;have ia0:=hm9.cp hml;have la0:=hm9.ld hml;have nWt:¬L.W g.bj.length (S.nx+2):=fun hw=>by have:=hWb _ hw;omega
 have nWo:¬L.W g.bj.length (S3.nx+15):=fun hw=>by have:=hWb _ hw;omega
 have nWa:¬L.W g.bj.length (S3.nx+13):=fun hw=>by have:=hWb _ hw;omega
 have gt9:X9.h.get (S.nx+2)=some (.cells [.bw,.bw] false 0):=by rw[old _ ar ar,sX6.2 _ ar];exact gtb
 have go9:X9.h.get (S3.nx+15)=some (.cells [.sl ib 0 g.bj.length g.bj.length false,.sl (S3.nx+13) 0 g.bj.length g.bj.length false] false 0):=by rw[old _ ar ar];exact go6
 have ga9:X9.h.get (S3.nx+13)=some (.cells cs false 0):=by rw[s79.2 _ ar];exact hga
 have lt9:S.nx+2<X9.nx:=by omega
 have lo9:S3.nx+15<X9.nx:=by omega
 have la9:S3.nx+13<X9.nx:=by omega
 have lt0:S.nx<=S3.nx+13:=by omega
 have li0:S.nx<=ib:=by omega
 have li9:ib<X9.nx:=by omega
 have hrb:L.bs=bs/\L.cs=cs/\L.ib=ib:=by rw[hL];exact⟨rfl,rfl,rfl⟩
 clear hR hga s79 x9 m9 x8 m8 g8 g9 lX7 hX7 old;refine aA (aA (aX (Q:=fun o A' Y=>o= .normal/\A'.inr=false/\kD (L.W g.bj.length) X9 Y/\aD 4 A'.F= .ptr (S.nx+2) 0/\aD 6 A'.F= .ptr (S3.nx+15) 0/\∃t,aD 61 A'.F= .bool t/\(t=true->¬iR g m)/\(t=false->m.getD 0 0=0/\∃I' F' A',Dyn L S Y I' F' A'/\iP g m g.bh.length g.bh.length I' F' A')) (aJ ?_) ?_))
 ·by_cases h0:m.getD 0 0=0;rotate_left
  ·refine dw p3 lm0 @aKt ia0 la0 (Ac (show m.getD 0 0≠0 from h0)) p4 p6 ?_;exact⟨kD.refl _ _,true,rfl,fun _ a=>h0 a.root,fun h=>by cases h⟩
  refine du p3 lm0 @aKt ia0 la0 (Aa (show ¬m.getD 0 0≠0 from fun h=>h h0)) lk0 ?_;refine bD (ae ?_);have e0:fG m 0=0:=by unfold fG;rw[h0];rfl
  rw[e0] at hiw;refine aW hiw ?_;rintro _ Y ⟨bY,t,rfl,ht0,ht1⟩;refine dp @eM p4 p6 ?_;refine⟨bY, !t,rfl,fun h=>?_,fun h=>⟨h0,?_⟩⟩
  ·cases t with
   | true=>cases h
   | false=>exact ht0 rfl
  ·cases t with
   | false=>cases h
   | true=>exact ht1 rfl
 clear p2 p3 p4 p6 p7 hiw;rintro o ⟨F,inr⟩ Y ⟨rfl,q0,bY,p4,p6,t,p61,ht1,ht0⟩;simp only at q0 p4 p6 p61;subst q0;have gtY:=(bY.2 _ lt9 nWt).trans gt9;have sY:Same S Y:=C.same bY;have lY:=bY.1;try refine ae ?_
 cases t with
 | true=>
  refine aN (ah p61) ?_;refine bO (dy @aJ3 @iW ?_);refine cQ (b:=S.nx+2) (cs':=[.bw,.bw]) (aq p4) (by refine am ?_;exact aY _) gtY rfl rfl ?_;intro Y2 y2 k2 h2;refine am ?_;refine aP ?_;have ld2:=jM (n:=2) h2 rfl;refine dz @dJ p4 ld2 ?_;exact⟨⟨au sY.1,fun c hc=>by rw[y2.2 _ (au sY.1) ar,sY.2 _ hc]⟩,_,_,false,rfl,⟨fun h=>(by cases h),fun a=>absurd a (ht1 rfl)⟩,fun h=>by cases h⟩
 | false=>
  have⟨h0,I',F',A',hDY,hSY⟩:=ht0 rfl;refine aM (ah p61) (aI ?_);try refine ae ?_
  have goY:=(bY.2 _ lo9 nWo).trans go9;have gaY:=(bY.2 _ la9 nWa).trans ga9;have lo2:=jM (n:=2) goY rfl;have⟨hA,hI,hAe⟩:=hSY.full G M h0;refine bO (dy p6 lo2 ?_);refine cQ (b:=S.nx+2) (cs':=[.sl ib 0 g.bj.length g.bj.length false,.sl (S3.nx+13) 0 g.bj.length g.bj.length false]) (aq p4) (by refine am ?_;exact aY _) gtY rfl rfl ?_;intro Y2 y2 k2 h2;refine am ?_;refine aP ?_;have ld2:=jM (n:=2) h2 rfl;refine dz @dJ p4 ld2 ?_;have⟨r1,r2,r3⟩:=hrb;have gi:=hDY.gi;have hrw:=hDY.rw;rw[r3,hI] at gi;rw[r1,r2,hAe] at hrw;have hlI:(de g m).length=g.bj.length:=by simp [de]
  have hlA:(df g m).length=g.bj.length:=by simp [df]
  refine⟨⟨au sY.1,fun c hc=>by rw[y2.2 _ (au sY.1) ar,sY.2 _ hc]⟩,_,_,true,rfl,⟨fun _=>hA,fun _=>rfl⟩,fun _=>⟨⟨ib,by rw[hlI],li0,ar,?_⟩,S3.nx+13,bs,cs,by rw[hlA],lt0,ar,?_,hrw.move ar fun j hj=>?_⟩⟩
  ·rw[y2.2 _ ar ar];exact gi
  ·rw[y2.2 _ ar ar];exact gaY
  ·have⟨h1,h2',_⟩:=hrw.bl j hj;refine y2.2 _ h2' fun e=>nWt ?_;rw[<-e,<-r1];exact .inr (.inr ⟨j,by rw[<-hlA];exact hj,rfl⟩)
theorem aDj{g:aS}{m:ba}:aIH (vR g m):=fun {S0 S1 S2 x y} h hn hh=>by
 have⟨⟨b,h1,h2,h3,h4⟩,ab,bs,cs,k1,k2,k3,k4,k5⟩:=h;refine⟨⟨b,h1,h2,Ae h3 hn,(hh b h2 h3).trans h4⟩,ab,bs,cs,k1,k2,Ae k3 hn,(hh ab k2 k3).trans k4,k5.move hn fun j hj=>?_⟩;have⟨a,b,_⟩:=k5.bl j hj;exact hh _ a b
theorem aOF{S:St}{nv iv mv:AV}{g:aS}{m:ba}(H:Has fns)(hn:aE 6 bX S nv g.bh)(hi:aE 2 bP S iv g.bj)(hm:bI .i64 S mv m):aPX fns S nv iv mv g m (iR g m) (vR g m):=fun h0 h1 h2 _ S0 wb plb szb pv T Z hS0 hT hTl hpv hB=>
 aC0 H (aE.same (E:=bX) bL hn hS0) (aE.same (E:=bP) bK hi hS0) (hm.same hS0) (gF h0) ⟨h1,h2⟩ hT hTl hpv hB
end Go.Ev.Gl
namespace Go.Ev.Gl
theorem aE.conv{k:Nat}{α β:Type}{E:St->bf->α->Prop}{E':St->bf->β->Prop}{f:α->β}{S:St}{v:AV}{l:List α}(hf:∀e a,E S e a->E' S e (f a))(h:aE k E S v l):aE k E' S v (l.map f):=by
 rcases h with⟨rfl,h⟩ | ⟨b,off,cap,o,cs,rfl,h2,h3,h4,h5⟩
 ·exact .inl ⟨rfl,h⟩
 ·refine .inr ⟨b,off,cap,o,cs,by rw[Aj],by rw[Aj];exact h2,h3,h4,fun i a hi=>?_⟩;rw[Am,Aw] at hi;obtain⟨x,hx,rfl⟩:=hi;have⟨e,e1,e2,e3⟩:=h5 i x hx;exact⟨e,e1,e2,hf e x e3⟩
theorem aFj{k:IntKind}{S:St}{v:AV}{l:ba}(h:aE 1 (qR k) S v l):bI k S v l:=by
 rcases h with h | ⟨b,off,cap,o,cs,rfl,h2,h3,h4,h5⟩
 ·exact .inl h
 ·refine .inr ⟨b,off,cap,o,cs,rfl,h2,h3,h4,fun i x hi=>?_⟩;obtain⟨e,e1,e2,rfl,_⟩:=h5 i x hi;have:=e2 0 _ rfl;rw[Cr,Br] at this;exact this
abbrev rS(k:IntKind):St->bf->ba->Prop:=qM 1 (qR k)
abbrev EN1:St->bf->(ba×Unit)->Prop:=qG (rS .i64) NoE
abbrev EN2:St->bf->(ba×ba×Unit)->Prop:=qG (rS .i64) EN1
abbrev EN3:St->bf->(ba×ba×ba×Unit)->Prop:=qG (rS .i64) EN2
abbrev EN4:St->bf->(Int×ba×ba×ba×Unit)->Prop:=qG (qR .i64) EN3
abbrev EN5:St->bf->(Int×Int×ba×ba×ba×Unit)->Prop:=qG (qR .i64) EN4
abbrev aCs:St->bf->(Int×Int×Int×ba×ba×ba×Unit)->Prop:=qG (qR .i64) EN5
abbrev EI1:St->bf->(Int×Unit)->Prop:=qG (qR .i64) NoE
abbrev aDt:St->bf->(Int×Int×Unit)->Prop:=qG (qR .i64) EI1
abbrev EG1:St->bf->(List (Int×Int×Unit)×Unit)->Prop:=qG (qM 2 aDt) NoE
abbrev EG2:St->bf->(List (Int×Int×Int×ba×ba×ba×Unit)×List (Int×Int×Unit)×Unit)->Prop:=qG (qM 6 aCs) EG1
abbrev aJh:St->bf->(Int×List (Int×Int×Int×ba×ba×ba×Unit)×List (Int×Int×Unit)×Unit)->Prop:=qG (qR .i64) EG2
theorem oM{k:IntKind}:kG (rS k):=Ev.cm (E:=qR k) iJ
theorem aN3:kG EN1:=jI (E:=rS .i64) (R:=NoE) oM aF8
theorem aNo:kG EN2:=jI (E:=rS .i64) (R:=EN1) oM aN3
theorem aN6:kG EN3:=jI (E:=rS .i64) (R:=EN2) oM aNo
theorem aNs:kG EN4:=jI (E:=qR .i64) (R:=EN3) iJ aN6
theorem aNJ:kG EN5:=jI (E:=qR .i64) (R:=EN4) iJ aNs
theorem aDw:kG aCs:=jI (E:=qR .i64) (R:=EN5) iJ aNJ
theorem aNt:kG EI1:=jI (E:=qR .i64) (R:=NoE) iJ aF8
theorem aDz:kG aDt:=jI (E:=qR .i64) (R:=EI1) iJ aNt
def aH2(a:Int×Int×Int×ba×ba×ba×Unit):dP:=⟨a.1,a.2.1,a.2.2.1,a.2.2.2.1,a.2.2.2.2.1,a.2.2.2.2.2.1⟩
def aON(a:Int×Int×Unit):oJ:=⟨a.1,a.2.1⟩
theorem aCW{k:IntKind}{S:St}{avs:bf}{l:ba}(h:rS k S avs l):∃v,avs= [v]/\bI k S v l:=by
 have⟨v,h1,h2⟩:=qM.is h;exact⟨v,h1,aFj h2⟩
theorem aNq{S:St}{e:bf}{a:Int×Int×Int×ba×ba×ba×Unit}(h:aCs S e a):bX S e (aH2 a):=by
 obtain⟨_,_,rfl,⟨rfl,_⟩,_,_,rfl,⟨rfl,_⟩,_,_,rfl,⟨rfl,_⟩,_,_,rfl,h1,_,_,rfl,h2,_,_,rfl,h3,rfl⟩:=h;obtain⟨v1,rfl,i1⟩:=aCW h1;obtain⟨v2,rfl,i2⟩:=aCW h2;obtain⟨v3,rfl,i3⟩:=aCW h3;exact⟨v1,v2,v3,rfl,i1,i2,i3⟩
theorem aOr{S:St}{e:bf}{a:Int×Int×Unit}(h:aDt S e a):bP S e (aON a):=by
 obtain⟨_,_,rfl,⟨rfl,_⟩,_,_,rfl,⟨rfl,_⟩,rfl⟩:=h;rfl
def aPA(g:aS):Prop:=g.bj.length * 16<=140737488355328/\∀x∈g.bh,x.next.length * 8<=140737488355328/\x.weights.length * 8<=140737488355328/\x.pay.length * 8<=140737488355328
theorem aAZ{k:Nat}{α:Type}{E:St->bf->α->Prop}{S:St}{avs:bf}{l:List α}(h:qM k E S avs l):l.length * (8 * k)<=140737488355328:=by
 have⟨_,_,h,_⟩:=h;exact h
theorem aNR{k:Nat}{α:Type}{E:St->bf->α->Prop}{S:St}{avs:bf}{l:List α}(h:qM k E S avs l){a:α}(ha:a∈l):∃cs,E S cs a:=by
 obtain⟨_,_,_,⟨rfl,_⟩ | ⟨b,cap,css,_,_,_,_,h5,h6⟩⟩:=h
 ·cases ha
 ·have⟨i,hi⟩:=Dv.1 ha;have hlt:=(Ai.1 hi).1;exact⟨_,(h6 i css[i] a (Ab ar) hi).2⟩
theorem aJ6{S:St}{e:bf}{a:Int×Int×Int×ba×ba×ba×Unit}(h:aCs S e a):(aH2 a).next.length * 8<=140737488355328/\(aH2 a).weights.length * 8<=140737488355328/\(aH2 a).pay.length * 8<=140737488355328:=by
 obtain⟨_,_,rfl,⟨rfl,_⟩,_,_,rfl,⟨rfl,_⟩,_,_,rfl,⟨rfl,_⟩,_,_,rfl,h1,_,_,rfl,h2,_,_,rfl,h3,rfl⟩:=h;exact⟨aAZ h1,aAZ h2,aAZ h3⟩
theorem aNY{S:St}{avs:bf}{a:Int×List (Int×Int×Int×ba×ba×ba×Unit)×List (Int×Int×Unit)×Unit}(h:aJh S avs a):∃nv iv,∃g:aS,avs= [.int .i64 g.bo,nv,iv]/\aE 6 bX S nv g.bh/\aE 2 bP S iv g.bj/\aPA g:=by
 obtain⟨_,_,rfl,⟨rfl,_⟩,_,_,rfl,h1,_,_,rfl,h2,rfl⟩:=h;obtain⟨v1,rfl,i1⟩:=qM.is h1;obtain⟨v2,rfl,i2⟩:=qM.is h2;refine⟨v1,v2,⟨a.1,a.2.1.map aH2,a.2.2.1.map aON⟩,rfl,aE.conv (fun e x h=>aNq h) i1,aE.conv (fun e x h=>aOr h) i2,⟨(by have:=aAZ h2;rw[Aj];exact this),fun x hx=>?_⟩⟩;obtain⟨y,hy,rfl⟩:=Dg.1 hx;have⟨cs,hcs⟩:=aNR h1 hy;exact aJ6 hcs
section
variable {P:Program}{σ:Env}{S:St}{w:World}
theorem aQs{v:Value}{n:Nat}(hn:n≠1)(hl:v.cells.toList.length=n):v= .agg ⟨v.cells.toList⟩:=by
 cases v with
 | agg cs=>rfl
 | _=>exact absurd (by simpa [Value.cells] using hl.symm) hn
theorem aMn{t:TypeId}{H:Type}{enc:TypeId×Value->H}{base:Nat}{spare:Nat->Bool}{held:Bool}{fuel:Nat}{v:Value}{x:DataW H×List MemPlace}(hR:kT P σ S w)(hn:wK S)(hf:wF S)(hG:P.globals.size<=S.nx)(hL:Lays P t aJh)(h:DataW.trod enc P w base spare held fuel t v.cells.toList=some x)(hW:∀n∈DataW.weights P t x.1,n<=140737488355328):
  ∃σ' S' nv iv,∃g:aS,lP P σ S w σ' S'/\Rv P σ' (.agg [.int .i64 g.bo,nv,iv]) v/\aE 6 bX S' nv g.bh/\aE 2 bP S' iv g.bj/\S.nx<=S'.nx/\aPA g:=by
 have⟨σ',S',avs,a,hA,hr,h1,hE,hnx⟩:=hL H enc σ S w base spare held fuel _ x hR hn hf hG h hW;obtain⟨nv,iv,g,rfl,i1,i2,hT⟩:=aNY hE;refine⟨σ',S',nv,iv,g,hA,?_,i1,i2,hnx,hT⟩;have hl:=hr.length;rw[aQs (v:=v) (n:=3) ay (by rw[hl];rfl)];simp only[Rv];exact⟨_,rfl,hr,h1⟩
theorem aFe{t e:TypeId}{k:IntKind}(ht:P.underlying t=some (.slice e))(he:P.underlying e=some (.int k))(hc:P.cellsOf e=1)(hby:8<=P.bytesOf e):Lays P t (rS k):=oU ht hc ay ar (aDb he) iJ
theorem aJ2{tg tn tl ti tk ts e:TypeId}{fg fn fi:Array Field}(hg:P.underlying tg=some (.struct fg))(hn:P.underlying tn=some (.struct fn))(hi:P.underlying ti=some (.struct fi))(hl:P.underlying tl=some (.slice tn))(hk:P.underlying tk=some (.slice ti))(hs:P.underlying ts=some (.slice e))(he:P.underlying e=some (.int .i64))
  (cn:P.cellsOf tn=6) (ci:P.cellsOf ti=2) (ce:P.cellsOf e=1) (cs:P.cellsOf ts=1) (cl:P.cellsOf tl=1) (ck:P.cellsOf tk=1) (cg:P.cellsOf tg=3) (be:8<=P.bytesOf e) (bn:48<=P.bytesOf tn) (bi:16<=P.bytesOf ti)
  (tsg:fg.toList.map (·.type)= [e,tl,tk]) (tsn:fn.toList.map (·.type)= [e,e,e,ts,ts,ts]) (tsi:fi.toList.map (·.type)= [e,e])
  (og:∀ (i:Nat) (f:Field),fg[i]? =some f->f.offset=i) (on:∀ (i:Nat) (f:Field),fn[i]? =some f->f.offset=i) (oi:∀ (i:Nat) (f:Field),fi[i]? =some f->f.offset=i):Lays P tg aJh:=by
 have Li:=aDb he;have Ls:=aFe hs he ce be;have Ln:Lays P tn aCs:=by
  refine tC hn tsn (fun i f h=>?_) (by simp [cn,ce,cs]) (fO (E:=qR .i64) (R:=EN5) Li iJ (fO (E:=qR .i64) (R:=EN4) Li iJ (fO (E:=qR .i64) (R:=EN3) Li iJ (fO (E:=rS .i64) (R:=EN2) Ls oM (fO (E:=rS .i64) (R:=EN1) Ls oM (fO (E:=rS .i64) (R:=NoE) Ls oM yR))))));rw[on i f h];have hlt:i<6:=by
   have:=(Ce.1 h).1;have h6:=Fg List.length tsn;simp only[Aj,Cy,Ax,Bq] at h6;omega
  match i,hlt with
  | 0,_=>simp
  | 1,_=>simp [ce]
  | 2,_=>simp [ce]
  | 3,_=>simp [ce]
  | 4,_=>simp [ce,cs]
  | 5,_=>simp [ce,cs]
 have Lin:Lays P ti aDt:=by
  refine tC hi tsi (fun i f h=>?_) (by simp [ci,ce]) (fO (E:=qR .i64) (R:=EI1) Li iJ (fO (E:=qR .i64) (R:=NoE) Li iJ yR));rw[oi i f h];have hlt:i<2:=by
   have:=(Ce.1 h).1;have h6:=Fg List.length tsi;simp only[Aj,Cy,Ax,Bq] at h6;omega
  match i,hlt with
  | 0,_=>simp
  | 1,_=>simp [ce]
 have Lsn:Lays P tl (qM 6 aCs):=oU hl cn ay ar Ln aDw;have Lsi:Lays P tk (qM 2 aDt):=oU hk ci ay ar Lin aDz;refine tC hg tsg (fun i f h=>?_) (by simp [cg,ce,cl,ck]) (fO (E:=qR .i64) (R:=EG2) Li iJ (fO (E:=qM 6 aCs) (R:=EG1) Lsn (Ev.cm (E:=aCs) aDw) (fO (E:=qM 2 aDt) (R:=NoE) Lsi (Ev.cm (E:=aDt) aDz) yR)));rw[og i f h];have hlt:i<3:=by
  have:=(Ce.1 h).1;have h6:=Fg List.length tsg;simp only[Aj,Cy,Ax,Bq] at h6;omega
 match i,hlt with
 | 0,_=>simp
 | 1,_=>simp [ce]
 | 2,_=>simp [ce,cl]
end
end Go.Ev.Gl
