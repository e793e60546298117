import Derived.Test.YtdkehphobhnjoaaGl9
open Nat renaming reduceEqDiff -> rE, reduceAdd -> rA
set_option maxHeartbeats 0
set_option linter.unusedSimpArgs false
set_option linter.unusedVariables false
namespace Go.Ev.Gl
variable {fns:T dU}
theorem aKl{l:bu}{i:Nat}{v:Int}(hi:i<l.length)(h:l.getD i 0=v):l.set i v=l:=by
 refine aDT (Ar ..) fun j hj=>?_;rw[nI hi];split
 ·rename_i e;rw[<-e,h]
 ·rfl
theorem zC{S:St}{b sz:Nat}{l:bu}{x v:Int}(H:Has fns)(hg:S.h.get b=some (.cells (bJ l) false sz))(h0:0<=x)(hx:x.toNat<l.length):
  gH fns (.fn 52 [] []) [qU b l,.int .i64 x,.int .i64 v] S fun r S'=>cC b S S'/\∃t,r= .bool t/\(t=true->S'.h.get b=some (.cells (bJ (l.set x.toNat v)) false sz)/\(0<=l.getD x.toNat 0->l.getD x.toNat 0=v))/\(t=false->0<=l.getD x.toNat 0/\l.getD x.toNat 0≠v):=by
 unfold qU;have hn:=oZ (k:=.i64) h0;have hia:=eX (b:=b) (o:=false) hx;have hld:=aAY hg hx;refine cF H.f52 (by simp) ?_;refine af ?_;refine bQ (af ?_);by_cases hlt:l.getD x.toNat 0<0
 ·refine fE (dh hn hia hld ?_);refine aM (fg (Ab hlt)) ?_;refine aG (df hn hia ?_);refine fD (fun call=>by refine df @dS @cH ?_;exact sP (S:=S) hg hx) ?_;refine af ?_;have hg2:(S.h.set b (some (.cells (bJ (l.set x.toNat v)) false sz))).get b=some (.cells (bJ (l.set x.toNat v)) false sz):=by rw[dd,if_pos rfl]
  have hld2:=aAY hg2 (show x.toNat<(l.set x.toNat v).length by rw[Ar];exact hx);rw[nI hx,if_pos rfl] at hld2;refine bQ (dh hn hia hld2 ?_);refine aR (af ?_);exact⟨(cC.refl b S).put _,_,rfl,fun _=>⟨hg2,fun h=>absurd hlt ay⟩,fun h=>by simp at h⟩
 ·refine fE (dh hn hia hld ?_);refine aK (fg (Aa hlt)) (aH ?_);refine af ?_;refine bQ (dh hn hia hld ?_);refine aR (af ?_);refine⟨cC.refl b S,_,rfl,fun h=>?_,fun h=>?_⟩
  ·rw[Cq] at h;exact⟨by rw[aKl hx h];exact hg,fun _=>h⟩
  ·rw[decide_eq_false_iff_not] at h;exact⟨ay,h⟩
def aRT(S:St)(a b:AV)(l m:bu)(k:Nat)(A:bS)(X:St):Prop:=A.inr=false/\Same S X/\∃i,i+k=l.length/\l.take i=m.take i/\aD 0 A.F=a/\aD 1 A.F=b/\aD 12 A.F= .int .i64 (l.length:Int)/\aD 13 A.F= .int .i64 (i:Int)
theorem zA{S:St}{a b:AV}{l m:bu}(H:Has fns)(ha:bO .i64 S a l)(hb:bO .i64 S b m)(hl:l.length<=10000000):gH fns (.fn 48 [] []) [a,b] S fun r S'=>r= .bool (decide (l=m))/\Same S S':=by
 refine cF H.f48 (by simp) ?_;refine aq ?_;refine bQ (aq ?_);refine fE (d7 ha.len hb.len @Ah ?_);by_cases hlm:l.length=m.length;rotate_left
 ·rw[Aa (show ¬l=m from fun e=>hlm (by rw[e]))];refine aM ff ?_;refine bQ (aq ?_);refine aR (aq ?_);exact de _
 refine aK ff (aH ?_);refine aq ?_;refine aA (aW (Q:=fun o A' X=>(o= .normal/\aRT S a b l m 0 A' X)\/(o= .ret/\Same S X/\l≠m/\aD 4 A'.F= .bool false)) (aA (aG ?_)) ?_)
 ·refine d6 ha.len @Ah ?_;refine aL (bK (aRT S a b l m) ?_ l.length _ _ ⟨rfl,de _,0,ay,rfl,by refine⟨?_,?_,?_,?_⟩<;>simp only[↓aC,aB,rE,↓reduceIte,rA]⟩);rintro k ⟨F,inr⟩ X ⟨q0,hX,i,hik,he,p0,p1,p12,p13⟩;simp only at q0 p0 p1 p12 p13;subst q0;refine bQ (d6 p12 p13 ?_);by_cases hlt:i<l.length
  ·refine aA (aM ff (aH ?_));refine aq ?_;have hltm:i<m.length:=by omega
   have ia:=(ha.same hX).cn hlt;have la:=(ha.same hX).ld hlt;have ib:=(hb.same hX).cn hltm;have lb:=(hb.same hX).ld hltm;have w1:=dc i
   refine aA (aL (aA (aG ?_)));refine dz p13 ?_;refine aA (iJ ?_);refine ed p0 p1 @aJ ia ib la lb ?_;have el:l.getD i 0=l[i]:=by rw[Ad,Ac hlt];rfl
   have em:m.getD i 0=m[i]:=by rw[Ad,Ac hltm];rfl
   by_cases hx:l.getD i 0=m.getD i 0
   ·refine aK (fj (Aa (show ¬l.getD i 0≠m.getD i 0 from fun h=>h hx))) (aH ?_);refine aq ?_;refine aG (d6 p13 w1 ?_);refine⟨k - 1,ay,rfl,hX.trans (Same.nx _ _),i+1,ay,?_,by refine⟨?_,?_,?_,?_⟩<;>simp only[↓aC,aB,rE,↓reduceIte,rA,p0,p1,p12]⟩;rw[Bx,Bx,he,Ac hlt,Ac hltm,<-el,<-em,hx]
   ·refine aM (fj (Ab (show l.getD i 0≠m.getD i 0 from hx))) ?_;refine bQ (aq ?_);refine aR (aq ?_);exact .inr ⟨hX.trans (Same.nx _ _),fun e=>hx (by rw[e])⟩
  ·refine aA (aK ff (bG ?_));refine aq ?_;have hk0:k=0:=by omega
   subst hk0;exact .inl ⟨rfl,hX,i,hik,he,by refine⟨?_,?_,?_,?_⟩<;>simp only[↓aC,aB,rE,↓reduceIte,rA,p0,p1,p12,p13]⟩
 rintro o ⟨F,inr⟩ X (⟨rfl,q0,hX,i,hik,he,p0,p1,p12,p13⟩ | ⟨rfl,hX,hne,p4⟩);rotate_left
 ·simp only at p4;refine dz p4 ?_;rw[Aa hne];exact⟨rfl,hX⟩
 simp only at q0;subst q0;rw[Bb ay,Bb ay] at he;rw[Ab he];refine aq ?_;refine bQ (aq ?_);refine aR (aq ?_);exact hX
theorem xL{h:Ev.T AB}{P P':Fr->Prop}(hP:∀F,P F->P' F):∀ (l:List AO) (F:Fr),mH l F h P->mH l F h P'
 | [],F,hr=>hP F hr
 | ⟨d,.q q,g,mm⟩::l,F,hr=>by
  simp only[mH] at hr ⊢;split at hr
  ·rename_i hw;rw[if_pos hw];have⟨w,hw1,hw2,hw3⟩:=hr;exact⟨w,hw1,hw2,xL hP l _ hw3⟩
  ·rename_i hw;rw[if_neg hw];exact xL hP l _ hr
 | ⟨d,.a a,g,mm⟩::l,F,hr=>by cases hr
 | ⟨d,.x a,g,mm⟩::l,F,hr=>by cases hr
theorem aOw{ops pre:List AO}{K m m1 m2 s d e1 e2:Nat}{b:Bool}{f:cU}{args:List cU}{q1 q2:zH}{A:bS}{S:St}{Q:Out->bS->St->Prop}
  (he:ops=pre++ [⟨some d,.x (.call f args),some (s,b),m⟩,⟨some e1,.q q1,some (s,b),m1⟩,⟨some e2,.q q2,none,m2⟩]) (hK:pre.length=K) (h3:(pre.all fun o=> !Nat.testBit o.mask K)=true) (hm:((List.range K).all fun i=>Nat.testBit m i)=true) (hd:d≠s) (hq1:dR q1=false) (hq2:dR q2=false)
  (h:mH pre A.F S.h fun F'=>aD s F'= .bool b/\gH fns (f.val F') (dG args F') ⟨S.h,S.nx+(K+3)⟩ fun v S1=>∃w1 w2,gT q1 (cR (some d) F' v) S1.h=some w1/\gT q2 (cR (some e1) (cR (some d) F' v) w1) S1.h=some w2/\Q .normal ⟨cR (some e2) (cR (some e1) (cR (some d) F' v) w1) w2,A.inr⟩ S1):lU fns (.drw ops) A S Q:=by
 subst he;have hlen:(pre++ [(⟨some d,.x (.call f args),some (s,b),m⟩:AO),⟨some e1,.q q1,some (s,b),m1⟩,⟨some e2,.q q2,none,m2⟩]).length=K+3:=by simp [hK]
 refine oO ?_;rw[hlen];refine aAu (h:=S.h) (K:=K) (pre:=pre) (i:=0) rfl ay (fun o ho=>by have:=Dp.1 h3 o ho;simpa using this) (fun l hl=>by cases hl) ?_;refine xL ?_ pre A.F h;rintro F' ⟨hg,hw⟩ ls hls;refine aMB hg (aAj rfl ?_);simp only[bX];refine aQ hw ?_;rintro v S1 ⟨w1,w2,x1,x2,hQ⟩;refine aMB (by rw[<-hg];simp only[bP];rw[if_neg (Cx hd)]) ?_;rw[iE];refine⟨w1,x1,?_⟩;simp only[hq1,aT];rw[iE];refine⟨w2,x2,?_⟩;simp only[hq2,aT];rw[jB];refine⟨?_,?_⟩
 ·simp only[Cw,Fg,Bq];refine lG fun l hl=>?_;have⟨h1,h2,h4⟩:=hls l hl;have hm2:=Dp.1 hm l.i (Fb.2 h2);unfold dY;rw[h4,aT,h1,aO,hm2,aO]
 ·simp only[bX];exact hQ
def jY(W:Nat->Prop)(S X:St):Prop:=S.nx<=X.nx/\∀c,c<S.nx->¬W c->X.h.get c=S.h.get c
section
variable {W:Nat->Prop}{S X Y:St}{b:Nat}
theorem jY.refl(W:Nat->Prop)(S:St):jY W S S:=⟨Ag _,fun _ _ _=>rfl⟩
theorem jY.trans(h:jY W S X)(h':jY W X Y):jY W S Y:=⟨Au h.1 h'.1,fun c hc hw=>(h'.2 c (Ae hc h.1) hw).trans (h.2 c hc hw)⟩
theorem Same.butW(h:Same S X):jY W S X:=⟨h.1,fun c hc _=>h.2 c hc⟩
theorem cC.butW(h:cC b S X)(hb:W b):jY W S X:=⟨h.1,fun c hc hw=>h.2 c hc fun e=>hw (by rw[e];exact hb)⟩
theorem jY.same{S0:St}(h:jY W S X)(h0:Same S0 S)(hW:∀b,W b->S0.nx<=b):Same S0 X:=⟨Au h0.1 h.1,fun c hc=>(h.2 c (Ae hc h0.1) fun hw=>by have:=hW c hw;omega).trans (h0.2 c hc)⟩
end
structure Lay where
 sb:Nat
 ob:Nat
 fb:Nat
 mb:Nat
 kb:Nat
 wb:Nat
 ib:Nat
 rb:Nat
 ab:Nat
 bs:Nat->Nat
 cs:b6
def Lay.W(L:Lay)(n c:Nat):Prop:=c=L.ib\/c=L.rb\/∃j,j<n/\c=L.bs j
def Lay.fn(L:Lay):AV:=.fn 51 [] [.ptr L.sb 0,.ptr L.ob 0,.ptr L.fb 0,.ptr L.mb 0,.ptr L.kb 0]
structure Laid(L:Lay)(S0 S1:St)(n:Nat)(mv:AV):Prop where
 s01:Same S0 S1
 gs:S1.h.get L.sb=some (.cells [.ptr L.wb 0] false 0)
 go:S1.h.get L.ob=some (.cells [.sl L.ib 0 n n false,.sl L.ab 0 n n false] false 0)
 gf:S1.h.get L.fb=some (.cells [.sl L.rb 0 n n false] false 0)
 gm:S1.h.get L.mb=some (.cells [mv] false 0)
 gk:S1.h.get L.kb=some (.cells [L.fn] false 0)
 ga:S1.h.get L.ab=some (.cells L.cs false 0)
 ls:L.sb<S1.nx/\¬L.W n L.sb
 lo:L.ob<S1.nx/\¬L.W n L.ob
 lf:L.fb<S1.nx/\¬L.W n L.fb
 lm:L.mb<S1.nx/\¬L.W n L.mb
 lk:L.kb<S1.nx/\¬L.W n L.kb
 la:L.ab<S1.nx/\¬L.W n L.ab
 w0:∀b,L.W n b->S0.nx<=b/\b<S1.nx
 ir:L.ib≠L.rb
 is:∀j,j<n->L.ib≠L.bs j/\L.rb≠L.bs j
structure Dyn(L:Lay)(S0 X:St)(I F:bu)(A:bt):Prop where
 gi:X.h.get L.ib=some (.cells (bJ I) false 0)
 gr:X.h.get L.rb=some (.cells (bJ F) false 0)
 rw:yJ S0 X L.bs L.cs A
section
variable {L:Lay}{S0 S1 X Y:St}{n:Nat}{mv:AV}{I F:bu}{A:bt}
theorem Laid.s(h:Laid L S0 S1 n mv)(hX:jY (L.W n) S1 X):X.h.get L.sb=some (.cells [.ptr L.wb 0] false 0):=(hX.2 _ h.ls.1 h.ls.2).trans h.gs
theorem Laid.o(h:Laid L S0 S1 n mv)(hX:jY (L.W n) S1 X):X.h.get L.ob=some (.cells [.sl L.ib 0 n n false,.sl L.ab 0 n n false] false 0):=(hX.2 _ h.lo.1 h.lo.2).trans h.go
theorem Laid.f(h:Laid L S0 S1 n mv)(hX:jY (L.W n) S1 X):X.h.get L.fb=some (.cells [.sl L.rb 0 n n false] false 0):=(hX.2 _ h.lf.1 h.lf.2).trans h.gf
theorem Laid.m(h:Laid L S0 S1 n mv)(hX:jY (L.W n) S1 X):X.h.get L.mb=some (.cells [mv] false 0):=(hX.2 _ h.lm.1 h.lm.2).trans h.gm
theorem Laid.k(h:Laid L S0 S1 n mv)(hX:jY (L.W n) S1 X):X.h.get L.kb=some (.cells [L.fn] false 0):=(hX.2 _ h.lk.1 h.lk.2).trans h.gk
theorem Laid.a(h:Laid L S0 S1 n mv)(hX:jY (L.W n) S1 X):X.h.get L.ab=some (.cells L.cs false 0):=(hX.2 _ h.la.1 h.la.2).trans h.ga
theorem Laid.same(h:Laid L S0 S1 n mv)(hX:jY (L.W n) S1 X):Same S0 X:=hX.same h.s01 fun b hb=>(h.w0 b hb).1
theorem Laid.move(h:Laid L S0 S1 n mv)(hX:jY (L.W n) S1 X):Laid L S0 X n mv:=
 ⟨h.same hX,h.s hX,h.o hX,h.f hX,h.m hX,h.k hX,h.a hX,⟨Ae h.ls.1 hX.1,h.ls.2⟩,⟨Ae h.lo.1 hX.1,h.lo.2⟩,⟨Ae h.lf.1 hX.1,h.lf.2⟩,⟨Ae h.lm.1 hX.1,h.lm.2⟩,⟨Ae h.lk.1 hX.1,h.lk.2⟩,⟨Ae h.la.1 hX.1,h.la.2⟩,fun b hb=>⟨(h.w0 b hb).1,Ae (h.w0 b hb).2 hX.1⟩,h.ir,h.is⟩
theorem Dyn.same(h:Dyn L S0 X I F A)(hL:Laid L S0 S1 n mv)(h1:S1.nx<=X.nx)(hs:Same X Y):Dyn L S0 Y I F A:=
 ⟨(hs.2 _ (Ae (hL.w0 _ (.inl rfl)).2 h1)).trans h.gi,(hs.2 _ (Ae (hL.w0 _ (.inr (.inl rfl))).2 h1)).trans h.gr,h.rw.same hs⟩
end
def WkT(L:Lay)(F:Fr)(xb yb to:Nat):Prop:=aD 1 F= .int .i64 (to:Int)/\aD 2 F= .ptr L.sb 0/\aD 3 F= .ptr L.ob 0/\aD 4 F= .ptr L.fb 0/\aD 5 F= .ptr L.mb 0/\aD 6 F= .ptr L.kb 0/\aD 10 F= .ptr xb 0/\aD 11 F= .ptr yb 0
def KdT(L:Lay)(F:Fr)(xb yb to j r v ln:Nat)(xa:AV)(b:Bool):Prop:=WkT L F xb yb to/\aD 12 F= .bool b/\aD 13 F= .int .i64 (j:Int)/\aD 14 F= .int .i64 (r:Int)/\aD 15 F= .int .i64 (v:Int)/\aD 88 F=xa/\aD 89 F= .int .i64 (ln:Int)/\aD 90 F= .int .i64 (j:Int)
noncomputable def agC:List AO:=[mt 130 12,
om 131 1 (.mv (.t 130)),
og 132 131 true 3 (.cr 1 (.t 3)),
og 133 131 true 7 (ld 132),
og 134 131 true 3 (.cr 2 (.t 10)),
og 135 131 true 19 (ld 134),
og 136 131 true 63 (.cn (.slice 1) (.t 133) (.t 135)),
og 137 131 true 127 (ld 136),
og 138 131 true 3 (.mv (.t 13)),
og 139 131 true 3 (ld 2),
og 140 131 true 515 (.cg (.t 139)),
og 141 131 true 1539 (.cr 4 (.t 140)),
og 142 131 true 3587 (ld 141),
og 143 131 true 3 (.mv (.t 15)),
og 144 131 true 15875 (.cn (.slice 1) (.t 142) (.t 143)),
og 145 131 true 32259 (ld 144)]
def WkF(L:Lay)(S1:St)(g:bD)(m:bu)(A:bS)(X:St):Prop:=jY (L.W g.bn.length) S1 X/\¬iB g m/\aD 9 A.F= .bool false
def aRq(L:Lay)(S0 S1:St)(g:bD)(m:bu)(i e xb yb:Nat)(xa:AV)(cx cy:Option AB)(rec:Nat->Option (List cK))(k:Nat)(A:bS)(X:St):Prop:=A.inr=false/\jY (L.W g.bn.length) S1 X/\xb<X.nx/\yb<X.nx/\∃ (j r:Nat) (Tr:List cK) (I F:bu) (As:bt),j+k=(cd g i).next.length/\fH rec ((cd g i).next.drop j) r=some Tr/\r+Tr.length=e/\Dyn L S0 X I F As/\iO g m r r I F As/\WkT L A.F xb yb (eR m i)/\X.h.get xb=cx/\X.h.get yb=cy/\aD 12 A.F= .bool (decide ((cd g i).kind=2))/\aD 88 A.F=xa/\aD 89 A.F= .int .i64 (((cd g i).next.length:Nat):Int)/\aD 90 A.F= .int .i64 (j:Int)
theorem aIr{S0:St}{L:Lay}{nv iv pv mv:AV}{g:bD}{m:bu}{T:List cK}{Z:bu}{plb szb:Nat}(H:Has fns)(hn:aP 6 cI S0 nv g.bk)(hm:bO .i64 S0 mv m)(G:eY g)(M:qH g m)(hTl:T.length=g.bk.length)(hW:WF (dN g) 0 (-1) T)(hpv:bO .i64 S0 pv (T.map (·.1)))(hB:iQ S0 L.wb plb szb pv nv iv g (lC g) Z):
  ∀ (f:Nat) {X:St} {i:Nat} {p d:Int} {T':List cK} {I F:bu} {A:bt},eJ g.bk.length (dN g) f i p d=some T'->Laid L S0 X g.bn.length mv->Dyn L S0 X I F A->iO g m i (i+1) I F A->
  gH fns L.fn [.int .i64 (i:Int),.int .i64 ((eR m i:Nat):Int)] X fun r X'=>jY (L.W g.bn.length) X X'/\∃t,r= .bool t/\(t=false->¬iB g m)/\(t=true->∃I' F' A',Dyn L S0 X' I' F' A'/\iO g m (i+T'.length) (i+T'.length) I' F' A'):=by
 have hN:=G.n2;have hNI:=G.ni;intro f
 induction f with
 | zero=>intro X i p d T' I F A hT';cases hT'
 | succ f ih=>
  intro X i p d T' I F A hT' C hD hS;have hX:jY (L.W g.bn.length) X X:=jY.refl _ _;simp only[eJ] at hT';split at hT';rotate_left
  ·cases hT'
  rename_i hlt;obtain⟨L',hkids,rfl⟩:=Az.1 hT';rw[gS] at hkids;have lX:=hX.1;have sX:Same S0 X:=C.same hX;have hWB:=(hB.w.same sX).1;have lwX:=(hB.w.same sX).2;have lds:=cV (p:=0) (C.s hX) rfl;have lsX:L.sb<X.nx:=Ae C.ls.1 lX;have⟨hto,htoN⟩:=M.at hlt;obtain⟨_,bx,qx,hiax,hbx,_,⟨xa,xw,xp,rfl,hxa,hxw,hxp⟩,hldx,_⟩:=aP.at hn bg (eK hlt);obtain⟨_,by',qy,hiay,hby,_,⟨ya,yw,yp,rfl,hya,hyw,hyp⟩,hldy,_⟩:=aP.at hn bg (eK htoN);rw[<-oM sX hbx] at hldx;rw[<-oM sX hby] at hldy;have snv:=aP.self hn;have sx:=oU (k:=.i64) (x0:=(cd g i).kind) (x1:=(cd g i).player) (x2:=(cd g i).info) (bO.self hxa) (bO.self hxw) (bO.self hxp);have sy:=oU (k:=.i64) (x0:=(cd g (eR m i)).kind) (x1:=(cd g (eR m i)).player) (x2:=(cd g (eR m i)).info) (bO.self hya) (bO.self hyw) (bO.self hyp);have lbx:bx<X.nx:=Ae hbx sX.1;have lby:by'<X.nx:=Ae hby sX.1;show gH fns (.fn 51 [] [.ptr L.sb 0,.ptr L.ob 0,.ptr L.fb 0,.ptr L.mb 0,.ptr L.kb 0]) _ _ _;refine cF H.f51 (by simp) ?_;refine af ?_;refine bQ (af ?_);refine aA (qZ (fun _=>False) ?_);simp only[↓sU,sD,rE,↓reduceIte,rA,lds,lsX,Ap,aY,bN,bB,aF,aU,aE,dL hWB,lwX,snv,aJ,hiax,hldx,sx,lbx,hiay,hldy,sy,lby,tJ];refine aJb (n:=6) rfl rfl rfl (ag) (ag) (by refine af ?_;exact bL _) (by refine af ?_;exact bL _) rfl rfl rfl ay ay ay ?_;intro X1 hX1n hgx hgy hX1;rw[bX];have hX1n:X1.nx=X.nx+20:=hX1n;have sX1:Same X X1:=⟨ay,fun c hc=>hX1 c ay ay⟩;have lx1:X.nx+16<X1.nx:=by omega
  have ly1:X.nx+17<X1.nx:=by omega
  show lU fns _ _ X1 _;refine aA (aA (aW (Q:=fun o A' Y=>o= .normal/\A'.inr=false/\Same X1 Y/\WkT L A'.F (X.nx+16) (X.nx+17) (eR m i)/\∃t,aD 60 A'.F= .bool t/\(t=true↔¬aCp g m i)) (aG ?_) ?_))
  ·have sX1':=sX.trans sX1;have hxa1:=hxa.same sX1';have hya1:=hya.same sX1';have hxp1:=hxp.same sX1';have hyp1:=hyp.same sX1';by_cases q1:(cd g i).kind=(cd g (eR m i)).kind;rotate_left
   ·simp only[↓sU,sD,rE,↓reduceIte,rA,aF,aE,eG hgx,eG hgy,Ab (show(cd g i).kind≠(cd g (eR m i)).kind from q1),WkT];exact⟨de _,true,rfl,fun _ h=>q1 h.1,fun _=>rfl⟩
   have q1':=Aa (show ¬ (cd g i).kind≠(cd g (eR m i)).kind from fun h=>h q1);by_cases q4:(cd g i).player=(cd g (eR m i)).player;rotate_left
   ·simp only[↓sU,sD,rE,↓reduceIte,rA,aF,aE,eG hgx,eG hgy,dL hgx,dL hgy,q1',Ab (show(cd g i).player≠(cd g (eR m i)).player from q4),WkT];exact⟨de _,true,rfl,fun _ h=>q4 h.2.2.2,fun _=>rfl⟩
   have q4':=Aa (show ¬ (cd g i).player≠(cd g (eR m i)).player from fun h=>h q4);by_cases q2:(cd g i).next.length=(cd g (eR m i)).next.length;rotate_left
   ·simp only[↓sU,sD,rE,↓reduceIte,rA,aF,aE,eG hgx,eG hgy,dL hgx,dL hgy,dI hgx,dI hgy,hxa1.len,hya1.len,Ah,q1',q4',Ab (show(((cd g i).next.length:Nat):Int)≠(((cd g (eR m i)).next.length:Nat):Int) by omega),WkT];exact⟨de _,true,rfl,fun _ h=>q2 h.2.1,fun _=>rfl⟩
   simp only[↓sU,sD,rE,↓reduceIte,rA,aF,aE,eG hgx,eG hgy,dL hgx,dL hgy,dI hgx,dI hgy,dW hgx,dW hgy,hxa1.len,hya1.len,Ah,q1',q4',Aa (show ¬ (((cd g i).next.length:Nat):Int)≠(((cd g (eR m i)).next.length:Nat):Int) by omega),WkT];refine bE (af ?_);refine aQ (zA H hxp1 hyp1 (by have:=G.pay i hlt;omega)) ?_;rintro _ Y ⟨rfl,hY⟩;refine cm @eF ?_;refine⟨hY,_,rfl,?_⟩;by_cases q3:(cd g i).pay=(cd g (eR m i)).pay
   ·rw[Ab q3];exact⟨fun h=>(by cases h),fun h=>absurd ⟨q1,q2,q3,q4⟩ h⟩
   ·rw[Aa q3];exact⟨fun _ h=>q3 h.2.2.1,fun _=>rfl⟩
  rintro o ⟨F0,inr⟩ Y ⟨rfl,q0,hY,hP,t,p60,hLt⟩;simp only at q0 hP p60;subst q0;have⟨p1,p2,p3,p4,p5,p6,p10,p11⟩:=hP;have sXY:=sX1.trans hY;have bY:jY (L.W g.bn.length) X Y:=hX.trans (Same.butW sXY);refine af ?_;cases t with
  | true=>
   refine aM (ai p60) ?_;refine bQ (af ?_);refine aR (af ?_);exact⟨bY,false,rfl,fun _=>aJk hlt (hLt.1 rfl),fun h=>by cases h⟩
  | false=>
  have hL:aCp g m i:=Classical.byContradiction fun h=>by have:=hLt.2 h;cases this
  refine aK (ai p60) (aH ?_);simp only[↓sU,sD,rE,↓reduceIte,rA];clear p60 hLt;have hDY:Dyn L S0 Y I F A:=hD.same C lX sXY;have hgxY:=(hY.2 _ lx1).trans hgx;have hgyY:=(hY.2 _ ly1).trans hgy;have lxY:X.nx+16<Y.nx:=Ae lx1 hY.1;have lyY:X.nx+17<Y.nx:=Ae ly1 hY.1;have nWx:∀ {b},X.nx<=b->¬L.W g.bn.length b:=fun {b} hb hw=>by have:=(C.w0 b hw).2;omega
  clear hgx hgy hX1 hX1n hldx hldy;refine bQ (dk p10 @aF @aE (eG hgxY) ?_);refine aA (aW (Q:=fun o A' Z=>(o= .normal/\A'.inr=false/\jY (L.W g.bn.length) X Z/\jY (L.W g.bn.length) Y Z/\(∃I' F',Dyn L S0 Z I' F' A/\iO g m (i+1) (i+1) I' F' A)/\WkT L A'.F (X.nx+16) (X.nx+17) (eR m i)/\aD 12 A'.F= .bool (decide ((cd g i).kind=2)))\/(o= .ret/\WkF L X g m A' Z)) (aA (aW (Q:=fun o A' Z=>o= .normal/\A'.inr=false/\jY (L.W g.bn.length) X Z/\jY (L.W g.bn.length) Y Z/\WkT L A'.F (X.nx+16) (X.nx+17) (eR m i)/\aD 12 A'.F= .bool (decide ((cd g i).kind=2))/\∃t,aD 86 A'.F= .bool t/\(t=true->¬iB g m)/\(t=false->∃I' F',Dyn L S0 Z I' F' A/\iO g m (i+1) (i+1) I' F' A)) (aG ?_) ?_)) ?_)
  ·by_cases hk:(cd g i).kind=2;rotate_left
   ·simp only[↓sU,sD,rE,↓reduceIte,rA,Aa hk,WkT,p1,p2,p3,p4,p5,p6,p10,p11];exact⟨bY,jY.refl _ _,false,rfl,fun h=>(by cases h),fun _=>⟨I,F,hDY,hS.node hL hk⟩⟩
   have⟨a1,a2,a3⟩:=G.inf i hlt hk;have⟨c1,c2⟩:=pU G M hlt hL hk;have hsI:(cd g i).info.toNat<I.length:=by rw[hS.s.li];omega
   have hsF:(cd g (eR m i)).info.toNat<F.length:=by rw[hS.lf];omega
   have rI:qU L.ib I= .sl L.ib 0 g.bn.length g.bn.length false:=by unfold qU;rw[hS.s.li]
   have rF:qU L.rb F= .sl L.rb 0 g.bn.length g.bn.length false:=by unfold qU;rw[hS.lf]
   have lo0:=ldc (j:=0) (C.o bY) rfl;have lf0:=cV (p:=0) (C.f bY) rfl;simp only[↓sU,sD,rE,↓reduceIte,rA,Ab hk,p3,p10,p11,aF,aE,lo0,dE hgxY,dE hgyY];refine bE (af ?_);have hag:=zC (v:=(cd g (eR m i)).info) H hDY.gi a1 hsI;rw[rI] at hag;refine aQ hag ?_;rintro _ Y2 ⟨hY2,t,rfl,ht1,ht0⟩;have wib:L.W g.bn.length L.ib:=.inl rfl;have bY2:=bY.trans (hY2.butW wib);cases t with
   | false=>
    simp only[↓sU,sD,rE,↓reduceIte,rA,eF,Cb,WkT,p1,p2,p3,p4,p5,p6,p10,p11,Ab hk];exact⟨bY2,hY2.butW wib,true,rfl,fun _=>hS.s.no_info G hlt hk (ht0 rfl).1 (ht0 rfl).2,fun h=>by cases h⟩
   | true=>
   have⟨gi2,hI⟩:=ht1 rfl;have xgY2:Y2.h.get (X.nx+16)=_:=(hY2.2 _ lxY (fun e=>nWx (b:=X.nx+16) ay (by rw[e];exact wib))).trans hgxY;have ygY2:Y2.h.get (X.nx+17)=_:=(hY2.2 _ lyY (fun e=>nWx (b:=X.nx+17) ay (by rw[e];exact wib))).trans hgyY;have lf2:=cV (p:=0) (C.f bY2) rfl;simp only[↓sU,sD,rE,↓reduceIte,rA,eF,Bt,p4,p10,p11,aF,aE,lf2,dE xgY2,dE ygY2];refine bE (af ?_);have wrb:L.W g.bn.length L.rb:=.inr (.inl rfl);have lrb:L.rb<Y.nx:=Ae (C.w0 _ wrb).2 bY.1;have lib:L.ib<Y.nx:=Ae (C.w0 _ wib).2 bY.1;have gr2:=(hY2.2 _ lrb (Cx C.ir)).trans hDY.gr;have hag2:=zC (v:=(cd g i).info) H gr2 c1 hsF;rw[rF] at hag2;refine aQ hag2 ?_;rintro _ Y3 ⟨hY3,t,rfl,ht1,ht0⟩;have bY3:=bY2.trans (hY3.butW wrb);have bYY3:=(hY2.butW wib).trans (hY3.butW wrb);cases t with
   | false=>
    simp only[↓sU,sD,rE,↓reduceIte,rA,eF,Cb,WkT,p1,p2,p3,p4,p5,p6,p10,p11,Ab hk];exact⟨bY3,bYY3,true,rfl,fun _=>hS.no_from G M hlt hL hk (ht0 rfl).1 (ht0 rfl).2,fun h=>by cases h⟩
   | true=>
   have⟨gr3,hF⟩:=ht1 rfl;simp only[↓sU,sD,rE,↓reduceIte,rA,eF,Bt,WkT,p1,p2,p3,p4,p5,p6,p10,p11,Ab hk];refine⟨bY3,bYY3,false,rfl,fun h=>(by cases h),fun _=>⟨_,_,⟨?_,gr3,hDY.rw.move bYY3.1 fun j hj=>?_⟩,hS.nodeM G M hlt hL hk hI hF⟩⟩
   ·rw[hY3.2 _ (Ae lib hY2.1) C.ir];exact gi2
   ·have hjn:j<g.bn.length:=by rw[<-hS.s.la];exact hj
    have ljb:=(hDY.rw.bl j hj).2.1;rw[hY3.2 _ (Ae ljb hY2.1) (Cx (C.is j hjn).2),hY2.2 _ ljb (Cx (C.is j hjn).1)]
  ·clear p1 p2 p3 p4 p5 p6 p10 p11;rintro o ⟨F1,inr⟩ Z ⟨rfl,q0,bZ,bYZ,hP,p12,t,p86,ht1,ht0⟩;simp only at q0 hP p12 p86;subst q0;have⟨p1,p2,p3,p4,p5,p6,p10,p11⟩:=hP;refine af ?_;cases t with
   | true=>
    refine aM (ai p86) ?_;refine bQ (af ?_);refine aR ?_;refine .inr ⟨rfl,bZ,ht1 rfl,?_⟩;simp only[↓sU,sD,rE,↓reduceIte,rA]
   | false=>
    refine aK (ai p86) (aH ?_);exact .inl ⟨rfl,rfl,bZ,bYZ,ht0 rfl,⟨p1,p2,p3,p4,p5,p6,p10,p11⟩,p12⟩
  clear p1 p2 p3 p4 p5 p6 p10 p11;rintro o ⟨F1,inr⟩ Z (⟨rfl,q0,bZ,bYZ,⟨I',F',hDZ,hSZ⟩,hP,p12⟩ | ⟨rfl,hf⟩);rotate_left
  ·have⟨h1,h2,h3⟩:=hf;refine cm h3 ?_;exact⟨h1,false,rfl,fun _=>h2,fun h=>by cases h⟩
  simp only at q0 hP p12;subst q0;have⟨p1,p2,p3,p4,p5,p6,p10,p11⟩:=hP;have exZ:=(bYZ.2 _ lxY (nWx ay)).trans hgxY;have eyZ:=(bYZ.2 _ lyY (nWx ay)).trans hgyY;have lxZ:X.nx+16<Z.nx:=Ae lxY bYZ.1;have lyZ:X.nx+17<Z.nx:=Ae lyY bYZ.1;clear hgxY hgyY lxY lyY hDY;have sZ:=C.same bZ;have hxaZ:=hxa.same sZ;refine af ?_;refine fE (du p10 @aF @aE (dI exZ) hxaZ.len @Ah ?_);refine aW (Q:=fun o A' V=>(o= .normal/\aRq L S0 X g m i (i+(L'.length+1)) (X.nx+16) (X.nx+17) xa (Z.h.get (X.nx+16)) (Z.h.get (X.nx+17)) (fun r=>eJ g.bk.length (dN g) f r i (d+1)) 0 A' V)\/(o= .ret/\WkF L X g m A' V)) (aL (bK (aRq L S0 X g m i (i+(L'.length+1)) (X.nx+16) (X.nx+17) xa (Z.h.get (X.nx+16)) (Z.h.get (X.nx+17)) (fun r=>eJ g.bk.length (dN g) f r i (d+1))) ?_ (cd g i).next.length _ _ ⟨rfl,bZ,lxZ,lyZ,0,i+1,L',I',F',A,ay,by rw[Di];exact hkids,ay,hDZ,hSZ,(by simp only[↓sU,sD,rE,↓reduceIte,rA,WkT,p1,p2,p3,p4,p5,p6,p10,p11]),rfl,rfl,(ai p12),(ag),(ag),(ag)⟩)) ?_
  ·clear p1 p2 p3 p4 p5 p6 p10 p11 p12 hDZ hSZ hkids;rintro k ⟨F2,inr⟩ V ⟨q0,bV,lxV,lyV,j,r,Tr,I2,F3,As,hjk,hkd,hre,hDV,hSV,hP,exV,eyV,p12,p88,p89,p90⟩;simp only at q0 hP p12 p88 p89 p90;subst q0;rw[exZ] at exV;rw[eyZ] at eyV;have⟨p1,p2,p3,p4,p5,p6,p10,p11⟩:=hP;have sV:=C.same bV;refine bQ (df p89 p90 ?_);by_cases hj:j<(cd g i).next.length;rotate_left
   ·refine aA (aK fe (bG ?_));refine af ?_;have hk0:k=0:=by omega
    subst hk0;exact .inl ⟨rfl,bV,lxV,lyV,j,r,Tr,I2,F3,As,hjk,hkd,hre,hDV,hSV,(by simp only[↓sU,sD,rE,↓reduceIte,rA,WkT,p1,p2,p3,p4,p5,p6,p10,p11]),by rw[exV,exZ],by rw[eyV,eyZ],(ai p12),(ai p88),(ai p89),(ai p90)⟩
   refine aA (aM fe (aH ?_));refine af ?_;have hxaV:=hxa.same sV;have hmV:=hm.same sV;have hpvV:=hpv.same sV;have hxwV:=hxw.same sV;have hywV:=hyw.same sV;have hBV:=hB.same sV;have hiac:=hxaV.cn hj;have hlac:=hxaV.ld hj;have hdr:(cd g i).next.drop j=(cd g i).next[j]::(cd g i).next.drop (j+1):=Cg hj;have hgd:(cd g i).next.getD j 0=(cd g i).next[j]:=by rw[Ad,Ac hj];rfl
   rw[hdr,<-hgd] at hkd;have⟨hr1,hr2⟩:=G.kids i hlt j hj;simp only[fH] at hkd;split at hkd;rotate_left
   ·cases hkd
   rename_i hc;have⟨L1,hw1,hkd⟩:=Co.1 hkd;obtain⟨L2,hw2,rfl⟩:=Az.1 hkd;rw[Ai] at hre;have hrN:r<g.bk.length:=by omega
   rw[hc] at hlac;have⟨hve,hvN⟩:=M.at hrN;have hkp:=aMx hW hTl M (i:=i) (k:=j) hlt (by rw[hc,Ax];exact hrN);rw[hc,Ax] at hkp;have lm0:=cV (p:=0) (C.m bV) rfl;have hiam:=hmV.cn (show r<m.length by rw[M.len];exact hrN);have hlam:=hmV.ld (show r<m.length by rw[M.len];exact hrN);rw[hve] at hlam;have ls0:=cV (p:=0) (C.s bV) rfl;have hvp:eR m r<(T.map (·.1)).length:=by rw[Ay,hTl];exact hvN
   have hiap:=hpvV.cn hvp;have hlap:=hpvV.ld hvp;have hWV:=hBV.w.1;have w1:IntKind.i64.wrap ((j:Int)+1)=((j+1:Nat):Int):=by have:=G.nxt i hlt;rw[wrap_i64 ay ay];omega
   refine aA (aL (aA (aG ?_)));refine dt p88 p90 @aJ hiac hlac ?_;refine bQ (dt p5 lm0 @aJ hiam hlam ?_);refine fE ?_;simp only[↓sU,sD,rE,↓reduceIte,rA,p1,p2,ls0,aY,bB,aF,aE,dI hWV,aJ,hiap,hlap];by_cases hpar:(T.map (·.1)).getD (eR m r) 0=((eR m i:Nat):Int);rotate_left
   ·refine aM (fg (Ab (show(T.map (·.1)).getD (eR m r) 0≠((eR m i:Nat):Int) from hpar))) ?_;refine bQ (af ?_);refine aR ?_;refine .inr ⟨rfl,bV,aNt hlt hj (hkp.2 hpar),?_⟩;simp only[↓sU,sD,rE,↓reduceIte,rA]
   refine aK (fg (Aa (show ¬ (T.map (·.1)).getD (eR m r) 0≠((eR m i:Nat):Int) from fun h=>h hpar))) (aH ?_);refine af ?_;have⟨hz0,hzp⟩:=hkp.1 hpar;clear hkp hpar hiap hlap hvp hiac hlac hiam hlam;refine aA (aW (Q:=fun o A' W=>(o= .normal/\A'.inr=false/\W=⟨V.h,V.nx+22⟩/\KdT L A'.F (X.nx+16) (X.nx+17) (eR m i) j r (eR m r) (cd g i).next.length xa (decide ((cd g i).kind=2))/\aA2 g m i j)\/(o= .ret/\WkF L X g m A' W)) (aA (iJ ?_)) ?_)
   ·by_cases k1:(cd g i).kind=1
    ·have k2:(cd g (eR m i)).kind=1:=by rw[<-hL.1];exact k1
     have hzl:=aJm hz0;have hnz:=oZ (k:=.i64) hz0;have l1:j<(cd g i).weights.length:=by rw[G.wts i hlt k1];exact hj
     have l2:(iM g m i j).toNat<(cd g (eR m i)).weights.length:=by rw[G.wts _ htoN k2];exact hzl
     have i1:=hxwV.cn l1;have i2:=hxwV.ld l1;have i3:=hywV.cn l2;have i4:=hywV.ld l2;have i5:=eX (b:=plb) (o:=false) hvN;have i6:=aAY hBV.gp (show eR m r<(lC g).length by rw[hBV.lp];exact hvN);rw[<-hzp] at i6;have sxw:=bO.self hxw;have syw:=bO.self hyw;by_cases c2:(cd g i).weights.getD j 0=(cd g (eR m i)).weights.getD (iM g m i j).toNat 0
     ·simp only[↓sU,sD,rE,↓reduceIte,rA,p2,p10,p11,aY,bN,bB,aF,aU,aE,eG exV,dP exV,dP eyV,dP hWV,ls0,Ab k1,sxw,syw,aJ,hnz,i1,i2,i3,i4,i5,i6,Aa (show ¬ (cd g i).weights.getD j 0≠(cd g (eR m i)).weights.getD (iM g m i j).toNat 0 from fun h=>h c2)];refine aK (ag) (aH ?_);refine .inl ⟨rfl,rfl,rfl,?_,fun _=>c2⟩;simp only[↓sU,sD,rE,↓reduceIte,rA,KdT,WkT,p1,p2,p3,p4,p5,p6,p10,p11,p12,p88,p89,p90,and_self]
     ·simp only[↓sU,sD,rE,↓reduceIte,rA,p2,p10,p11,aY,bN,bB,aF,aU,aE,eG exV,dP exV,dP eyV,dP hWV,ls0,Ab k1,sxw,syw,aJ,hnz,i1,i2,i3,i4,i5,i6,Ab (show(cd g i).weights.getD j 0≠(cd g (eR m i)).weights.getD (iM g m i j).toNat 0 from c2)];refine aM (ag) ?_;refine bQ (af ?_);refine aR ?_;refine .inr ⟨rfl,bV.trans (Same.butW (Same.nx _ _)),aGu hlt hj (fun h=>c2 (h k1)),?_⟩;simp only[↓sU,sD,rE,↓reduceIte,rA]
    ·refine du p10 @aF @aU @aE (eG exV) (Aa k1) ?_;refine aK (ag) (aH ?_);refine .inl ⟨rfl,rfl,rfl,?_,fun h=>absurd h k1⟩;simp only[↓sU,sD,rE,↓reduceIte,rA,KdT,WkT,p1,p2,p3,p4,p5,p6,p10,p11,p12,p88,p89,p90,and_self]
   clear p1 p2 p3 p4 p5 p6 p10 p11 p12 p88 p89 p90;rintro o ⟨F2,inr⟩ W (⟨rfl,q0,rfl,hP,hwe⟩ | ⟨rfl,hf⟩);rotate_left
   ·refine af ?_;exact .inr hf
   simp only at q0 hP;subst q0;have⟨⟨p1,p2,p3,p4,p5,p6,p10,p11⟩,p12,p13,p14,p15,p88,p89,p90⟩:=hP;have sW:=Same.nx V 22;have bW:=bV.trans (Same.butW sW);have hDW:Dyn L S0 ⟨V.h,V.nx+22⟩ I2 F3 As:=hDV.same C bV.1 sW;refine af ?_;refine aA (aW (Q:=fun o A' U=>(o= .normal/\A'.inr=false/\jY (L.W g.bn.length) X U/\jY (L.W g.bn.length) V U/\KdT L A'.F (X.nx+16) (X.nx+17) (eR m i) j r (eR m r) (cd g i).next.length xa (decide ((cd g i).kind=2))/\∃As',Dyn L S0 U I2 F3 As'/\iO g m r (r+1) I2 F3 As')\/(o= .ret/\WkF L X g m A' U)) (aA (aW (Q:=fun o A' U=>o= .normal/\A'.inr=false/\jY (L.W g.bn.length) X U/\jY (L.W g.bn.length) V U/\KdT L A'.F (X.nx+16) (X.nx+17) (eR m i) j r (eR m r) (cd g i).next.length xa (decide ((cd g i).kind=2))/\∃t,aD 148 A'.F= .bool t/\(t=true->¬iB g m)/\(t=false->∃As',Dyn L S0 U I2 F3 As'/\iO g m r (r+1) I2 F3 As')) ?_ ?_)) ?_)
   ·by_cases hk:(cd g i).kind=2;rotate_left
    ·refine qZ (fun _=>False) ?_;refine df p12 (Aa hk) ?_;refine⟨bW.trans (Same.butW (Same.nx _ _)),(Same.butW sW).trans (Same.butW (Same.nx _ _)),?_,false,rfl,fun h=>(by cases h),fun _=>⟨As,?_,hSV.kid G hlt hj hc hz0 hwe hk⟩⟩
     ·simp only[↓sU,sD,rE,↓reduceIte,rA,KdT,WkT,p1,p2,p3,p4,p5,p6,p10,p11,p12,p13,p14,p15,p88,p89,p90,Aa hk,and_self]
     ·exact hDW.same C bW.1 (Same.nx _ _)
    have⟨a1,a2,a3⟩:=G.inf i hlt hk;have hni:=oZ (k:=.i64) a1;have hs:(cd g i).info.toNat<g.bn.length:=by omega
    have hsA:(cd g i).info.toNat<As.length:=by rw[hSV.s.la];exact hs
    have hls:=hSV.s.ls _ hs;rw[show(((cd g i).info.toNat:Nat):Int)=(cd g i).info by omega,a3] at hls;have hkA:j<(As.getD (cd g i).info.toNat []).length:=by omega
    have lo1:=ldc (j:=1) (C.o bV) rfl;have hia:=eX (b:=L.ab) (o:=false) hs;have hld:=cV (C.a bV) (hDV.rw.cl _ hsA);have srow:cT (qU (L.bs (cd g i).info.toNat) (As.getD (cd g i).info.toNat [])) (qU (L.bs (cd g i).info.toNat) (As.getD (cd g i).info.toNat []))=true:=mR ..;have i5:=eX (b:=plb) (o:=false) hvN;have i6:=aAY hBV.gp (show eR m r<(lC g).length by rw[hBV.lp];exact hvN);rw[<-hzp] at i6;refine aOw (pre:=agC) (K:=16) rfl rfl rfl rfl bg rfl rfl ?_;unfold agC;simp only[↓sU,sD,rE,↓reduceIte,rA,p2,p3,p10,p12,p13,p15,Ab hk,aY,bN,bB,aF,aU,aE,lo1,dE exV,hni,hia,hld,srow,ls0,dP hWV,aJ,i5,i6];have hag:=zC (S:=⟨V.h,V.nx+22+19⟩) (v:=iM g m i j) (x:=(j:Int)) H (hDV.rw.bl _ hsA).2.2 ay (by rw[Ax];exact hkA);rw[Ax] at hag;refine aQ hag ?_;rintro _ U ⟨hU,t,rfl,ht1,ht0⟩;have wbs:L.W g.bn.length (L.bs (cd g i).info.toNat):=.inr (.inr ⟨_,hs,rfl⟩);have bVU:jY (L.W g.bn.length) V U:=(Same.butW (Same.nx V (22+19))).trans (hU.butW wbs);have bU:=bV.trans bVU;refine⟨.bool (!t),.bool (!t),?_,?_,bU,bVU,?_, !t,?_,?_,?_⟩
    ·simp only[↓sU,sD,rE,↓reduceIte,rA,eF]
    ·simp only[↓sU,sD,rE,↓reduceIte,rA]
    ·simp only[↓sU,sD,rE,↓reduceIte,rA,KdT,WkT,p1,p2,p3,p4,p5,p6,p10,p11,p12,p13,p14,p15,p88,p89,p90,Ab hk,and_self]
    ·simp only[↓sU,sD,rE,↓reduceIte,rA]
    ·intro h;cases t with
     | true=>cases h
     | false=>exact hSV.no_act G hlt hk hj (ht0 rfl).1 (ht0 rfl).2
    ·intro h;cases t with
     | false=>cases h
     | true=>
     have⟨gU,hA⟩:=ht1 rfl;have lrow:=hDV.rw.bl _ hsA;have wib:L.W g.bn.length L.ib:=.inl rfl;have wrb:L.W g.bn.length L.rb:=.inr (.inl rfl);have lrb:L.rb<V.nx:=Ae (C.w0 _ wrb).2 bV.1;have lib:L.ib<V.nx:=Ae (C.w0 _ wib).2 bV.1;have hU2:∀c,c<V.nx->c≠L.bs (cd g i).info.toNat->U.h.get c=V.h.get c:=fun c hc hne=>hU.2 c (by show c<V.nx+22+19;omega) hne;refine⟨_,⟨(hU2 _ lib (C.is _ hs).1).trans hDV.gi,(hU2 _ lrb (C.is _ hs).2).trans hDV.gr,?_⟩,hSV.kidM G hlt hj hc hz0 hwe hk hA⟩;refine(hDV.rw.put hsA (Ag _)).move (show V.nx<=U.nx from bVU.1) fun q hq=>?_;rw[Ar] at hq;simp only;rw[Ev.T.get_set];split
     ·rename_i e;rw[e];exact gU
     ·rename_i e;exact hU2 _ (hDV.rw.bl q hq).2.1 e
   ·clear p1 p2 p3 p4 p5 p6 p10 p11 p12 p13 p14 p15 p88 p89 p90;rintro o ⟨F2,inr⟩ U ⟨rfl,q0,bU,bVU,hP,t,p148,ht1,ht0⟩;simp only at q0 hP p148;subst q0;have⟨⟨p1,p2,p3,p4,p5,p6,p10,p11⟩,p12,p13,p14,p15,p88,p89,p90⟩:=hP;refine af ?_;cases t with
    | true=>
     refine aM (ai p148) ?_;refine bQ (af ?_);refine aR ?_;refine .inr ⟨rfl,bU,ht1 rfl,?_⟩;simp only[↓sU,sD,rE,↓reduceIte,rA]
    | false=>
     refine aK (ai p148) (aH ?_);exact .inl ⟨rfl,rfl,bU,bVU,⟨⟨p1,p2,p3,p4,p5,p6,p10,p11⟩,p12,p13,p14,p15,p88,p89,p90⟩,ht0 rfl⟩
   clear p1 p2 p3 p4 p5 p6 p10 p11 p12 p13 p14 p15 p88 p89 p90;rintro o ⟨F2,inr⟩ U (⟨rfl,q0,bU,bVU,hP,As',hDU,hSU⟩ | ⟨rfl,hf⟩);rotate_left
   ·refine af ?_;exact .inr hf
   simp only at q0 hP;subst q0;have⟨⟨p1,p2,p3,p4,p5,p6,p10,p11⟩,p12,p13,p14,p15,p88,p89,p90⟩:=hP;have exU:=(bVU.2 _ lxV (nWx ay)).trans exV;have eyU:=(bVU.2 _ lyV (nWx ay)).trans eyV;have lxU:X.nx+16<U.nx:=Ae lxV bVU.1;have lyU:X.nx+17<U.nx:=Ae lyV bVU.1;have lk0:=cV (p:=0) (C.k bU) rfl;refine af ?_;refine aW (Q:=fun o A' R=>(o= .normal/\A'.inr=false/\jY (L.W g.bn.length) X R/\jY (L.W g.bn.length) U R/\KdT L A'.F (X.nx+16) (X.nx+17) (eR m i) j r (eR m r) (cd g i).next.length xa (decide ((cd g i).kind=2))/\∃I'' F'' A'',Dyn L S0 R I'' F'' A''/\iO g m (r+L1.length) (r+L1.length) I'' F'' A'')\/(o= .ret/\WkF L X g m A' R)) (aA (aG ?_)) ?_
   ·refine dk p6 p14 p15 lk0 ?_;refine bE (af ?_);refine aQ (ih hw1 (C.move bU) hDU hSU) ?_;rintro _ R ⟨bUR,t,rfl,ht0,ht1⟩;refine cm @eF ?_;cases t with
    | false=>
     refine aM (fg @Cb) ?_;refine bQ (af ?_);refine aR ?_;refine .inr ⟨rfl,bU.trans bUR,ht0 rfl,?_⟩;simp only[↓sU,sD,rE,↓reduceIte,rA]
    | true=>
     refine aK (fg @Bt) (aH ?_);refine .inl ⟨rfl,rfl,bU.trans bUR,bUR,?_,ht1 rfl⟩;simp only[↓sU,sD,rE,↓reduceIte,rA,KdT,WkT,p1,p2,p3,p4,p5,p6,p10,p11,p12,p13,p14,p15,p88,p89,p90,and_self]
   clear p1 p2 p3 p4 p5 p6 p10 p11 p12 p13 p14 p15 p88 p89 p90;rintro o ⟨F2,inr⟩ R (⟨rfl,q0,bR,bUR,hP,I4,F4,A4,hDR,hSR⟩ | ⟨rfl,hf⟩);rotate_left
   ·refine af ?_;exact .inr hf
   simp only at q0 hP;subst q0;have⟨⟨p1,p2,p3,p4,p5,p6,p10,p11⟩,p12,p13,p14,p15,p88,p89,p90⟩:=hP;refine af ?_;refine aG (df p90 w1 ?_);refine⟨k - 1,ay,rfl,bR,Ae lxU bUR.1,Ae lyU bUR.1,j+1,r+L1.length,L2,I4,F4,A4,ay,hw2,ay,hDR,hSR,?_,?_,?_,?_,?_,?_,?_⟩
   ·simp only[↓sU,sD,rE,↓reduceIte,rA,WkT,p1,p2,p3,p4,p5,p6,p10,p11,and_self]
   ·rw[bUR.2 _ lxU (nWx ay),exU,exZ]
   ·rw[bUR.2 _ lyU (nWx ay),eyU,eyZ]
   ·simp only[↓sU,sD,rE,↓reduceIte,rA,p12]
   ·simp only[↓sU,sD,rE,↓reduceIte,rA,p88]
   ·simp only[↓sU,sD,rE,↓reduceIte,rA,p89]
   ·simp only[↓sU,sD,rE,↓reduceIte,rA]
  clear p1 p2 p3 p4 p5 p6 p10 p11 p12;rintro o ⟨F2,inr⟩ V (⟨rfl,q0,bV,lxV,lyV,j,r,Tr,I2,F3,As,hjk,hkd,hre,hDV,hSV,hP,exV,eyV,p12,p88,p89,p90⟩ | ⟨rfl,hf⟩);rotate_left
  ·have⟨h1,h2,h3⟩:=hf;refine cm h3 ?_;exact⟨h1,false,rfl,fun _=>h2,fun h=>by cases h⟩
  simp only at q0;subst q0;rw[Ct ay] at hkd;simp only[fH,Ao] at hkd;subst hkd;rw[Ci,Bh] at hre;subst hre;refine af ?_;refine bQ (af ?_);refine aR (af ?_);exact⟨bV,true,rfl,fun h=>(by cases h),fun _=>⟨I2,F3,As,hDV,hSV⟩⟩
theorem aKk{F:Fr}{h:Ev.T AB}{s t:Nat}{x y:AV}(h1:aD s F=x)(h2:aD t F=y)(hx:x.cells=some [x])(hy:y.cells=some [y]):gT (.build [.cb,.cb] [(0,1,.t s),(1,1,.t t)]) F h=some (.agg [x,y]):=by
 show(bH (eZ _ (eH F [(0,1,.t s),(1,1,.t t)])) fun cs=>some (AV.agg cs))=_;simp only[eH,show(cU.t s).val F=x from h1,show(cU.t t).val F=y from h2,eZ,hx,hy,aN];rfl
theorem aKN{F:Fr}{h:Ev.T AB}:gT (.build [.cb,.cb] []) F h=some (.agg [.cb,.cb]):=rfl
theorem aP3{W:Nat->Prop}{h0:Ev.T AB}{base:Nat}{F:Fr}{S:St}{Q:Fr->St->List iH->Prop}{i a b n m1 j1 j2 l:Nat}{za zb cy:b6}{t2 u2:cU}(ht1:Nat.testBit m1 j1=true)(ht2:Nat.testBit m1 j2=true)(hm2:mB (some l) m1=true)
  (h2:t2.val F= .ptr b 0) (hu2:(u2.val F).cells=some cy) (lz:zb.length=n) (ly:cy.length=n) (hab:a≠b) (hba:base<=a) (hbb:base<=b)
  (hr:∀S',S'.nx=S.nx->S'.h.get a=some (.cells za false 0)->S'.h.get b=some (.cells cy false 0)->(∀c,c≠a->c≠b->S'.h.get c=S.h.get c)->Q F S' []):
  gN fns W h0 base [⟨none,.x (.st n t2 u2),none,m1⟩] i F S [⟨j2,b,.cells zb false 0⟩,⟨j1,a,.cells za false 0⟩] (some l) Q:=by
 have hf:cO m1 [⟨j2,b,.cells zb false 0⟩,⟨j1,a,.cells za false 0⟩] S.h=([],(S.h.set b (some (.cells zb false 0))).set a (some (.cells za false 0))):=by rw[iD ht2,iD ht1,bX]
 have hg2:((S.h.set b (some (.cells zb false 0))).set a (some (.cells za false 0))).get b=some (.cells zb false 0):=by rw[dd,if_neg (Cx hab),dd,if_pos rfl]
 have x2:=aAH (S:=⟨(S.h.set b (some (.cells zb false 0))).set a (some (.cells za false 0)),S.nx⟩) (cs':=cy) (n:=n) hg2 lz ly;refine xG (S1:=⟨((S.h.set b (some (.cells zb false 0))).set a (some (.cells za false 0))).set b (some (.cells cy false 0)),S.nx⟩) hm2 ?_ ?_ ?_
 ·rw[hf,h2,hu2,aN];exact x2
 ·rw[hf];exact⟨Ag _,fun c hc _=>by simp only;rw[dd,if_neg ay,dd,if_neg ay,dd,if_neg ay]⟩
 rw[hf];refine hr _ rfl ?_ ?_ fun c hc1 hc2=>?_
 ·simp only;rw[dd,if_neg hab,dd,if_pos rfl]
 ·simp only;rw[dd,if_pos rfl]
 ·simp only;rw[dd,if_neg hc2,dd,if_neg hc1,dd,if_neg hc2]
def aRM(X3:St)(sb mb tb ob fb ab ib rb:Nat)(iv:AV)(g:bD)(k:Nat)(A:bS)(X:St):Prop:=A.inr=false/\cC ab X3 X/\∃i bs cs,i+k=g.bn.length/\cs.length=g.bn.length/\X.h.get ab=some (.cells cs false 0)/\yJ X3 X bs cs ((aA5 g).take i)/\aD 2 A.F= .ptr sb 0/\aD 3 A.F= .ptr mb 0/\aD 4 A.F= .ptr tb 0/\aD 6 A.F= .ptr ob 0/\aD 7 A.F= .ptr fb 0/\aD 37 A.F=iv/\aD 38 A.F= .int .i64 (g.bn.length:Int)/\aD 39 A.F= .int .i64 (i:Int)
def tN(g:bD)(m:bu)(S S':St)(x y:AV):Prop:=mG S S' x (cw g m)/\∃ab bs cs,y= .sl ab 0 (c8 g m).length (c8 g m).length false/\S.nx<=ab/\ab<S'.nx/\S'.h.get ab=some (.cells cs false 0)/\yJ S S' bs cs (c8 g m)
theorem yS{S:St}{wb plb szb:Nat}{nv iv pv mv:AV}{g:bD}{m:bu}{T:List cK}{Z:bu}(H:Has fns)(hn:aP 6 cI S nv g.bk)(hi:aP 2 cW S iv g.bn)(hm:bO .i64 S mv m)(G:eY g)(M:qH g m)(hT:fJ g=some T)(hTl:T.length=g.bk.length)(hpv:bO .i64 S pv (T.map (·.1)))(hB:iQ S wb plb szb pv nv iv g (lC g) Z):
  gH fns (.fn 25 [] []) [.ptr wb 0,mv] S fun r S'=>Same S S'/\∃x y t,r= .tup [.agg [x,y],.bool t]/\(t=true↔iB g m)/\(t=true->tN g m S S' x y):=by
 have hml:0<m.length:=by rw[M.len];exact G.n1
 have hN:=G.n2;have hNI:=G.ni;have hWF:WF (dN g) 0 (-1) T:=by unfold fJ at hT;exact lK hT
 refine cF H.f25 (by simp) ?_;refine af ?_;refine bQ ?_;refine dV (cs:=[.ptr wb 0]) rfl ?_;intro S1 s1 n1 g1;refine dV (cs:=[mv]) ?_ ?_
 ·exact bO.cells hm
 intro S2 s2 n2 g2;refine dC ?_;intro S3 s3 n3 g3;refine af ?_;have s13:=s2.trans s3;have sS3:=s1.trans s13;have gsb:S3.h.get S.nx=some (.cells [.ptr wb 0] false 0):=by rw[s13.2 _ ay];exact g1
 have gmb:S3.h.get S1.nx=some (.cells [mv] false 0):=by rw[s3.2 _ ay];exact g2
 have gtb:S3.h.get S2.nx=some (.cells [.cb,.cb] false 0):=g3;have e1:S1.nx=S.nx+1:=n1;have e2:S2.nx=S.nx+2:=by omega
 have e3:S3.nx=S.nx+3:=by omega
 rw[e1] at gmb;rw[e2] at gtb;simp only[e1,e2];clear g1 g2 g3 s1 s2 s3 s13 n1 n2 n3 e1 e2 S1 S2;have hB3:=hB.same sS3;have hW3:=hB3.w.1;have lw3:=hB3.w.2;have ls0:=cV (p:=0) gsb rfl;have lsb:S.nx<S3.nx:=by omega
 have siv:=aP.self hi;refine aA (qO (fun _=>False) ?_);intro X1 x1 hx1 hm1;simp only[↓sU,sD,rE,↓reduceIte,rA,ls0,lsb,Ap,aY,bN,bB,aF,aU,aE,dE hW3,lw3,siv,hi.len];refine cL rfl ?_;refine af ?_;refine aQ (uR H (n:=g.bn.length) ay) ?_;rintro r X2 ⟨⟨ib,rfl,b1,b2,b3⟩,x2⟩;rw[Aq];refine⟨x2,?_⟩;simp only[↓sU,sD,rE,↓reduceIte,rA,ls0,lsb,Ap,aY,bN,bB,aF,aU,aE,dE hW3,lw3,siv,hi.len];refine qI (n:=g.bn.length) (fg @aJ) (fg @aJ) bf bf  ?_;refine af ?_;rw[aKk (x:=.sl ib 0 g.bn.length g.bn.length false) (y:=.sl (S3.nx+13) 0 g.bn.length g.bn.length false) (ag) (ag) rfl rfl];refine df @nS @tJ ?_;refine aP3 (n:=2) rfl rfl rfl (ag) (by refine af ?_;exact bL _) rfl rfl ay ay ay ?_;intro X3 hX3n ga0 go0 hX3;rw[bX,repeatL_one] at *;have bX1:X1.nx=S3.nx+17:=hm1;have lX2:=x2.1;have eX3:X3.nx=X2.nx:=hX3n;have sX3:Same S3 X3:=⟨ay,fun c hc=>by rw[hX3 c ay ay,x2.2 _ ay,hx1]⟩;have gi0:X3.h.get ib=some (.cells (bJ (List.replicate g.bn.length (-1))) false 0):=by rw[hX3 _ ay ay];exact b3
 show lU fns _ _ X3 _;have gsb3:=(sX3.2 _ lsb).trans gsb;have ls3:=cV (p:=0) gsb3 rfl;have hW4:=(hB3.same sX3).w.1;refine bQ (ed ls3 @aY @bB @aF @aE (dE hW4) hi.len ?_);refine bE (aq ?_);refine aQ (uR H (n:=g.bn.length) ay) ?_;rintro r X4 ⟨⟨rb,rfl,d1,d2,d3⟩,x4⟩;rw[Aq];refine dC ?_;intro X5 x5 m5 g5;refine eS (b:=X4.nx) (cs':=[.sl rb 0 g.bn.length g.bn.length false]) (ar) (by simp only[↓aC,aB,rE,↓reduceIte,rA];rfl) g5 rfl rfl ?_;intro X6 x6 m6 g6;refine aq ?_;have lX4:=x4.1;have x36:Same X3 X6:=x4.trans (x6.same x5 (Ag _));have sX6:=sX3.trans x36;have gi6:=(x36.2 _ ay).trans gi0;have ga6:=(x36.2 _ ay).trans ga0;have go6:=(x36.2 _ ay).trans go0;have gr6:X6.h.get rb=some (.cells (bJ (List.replicate g.bn.length (-1))) false 0):=by rw[x6.2 _ ay ay,x5.2 _ ay];exact d3
 have gsb6:=(sX6.2 _ lsb).trans gsb;have ls6:=cV (p:=0) gsb6 rfl;have hW6:=(hB3.same sX6).w.1;have eX6:X6.nx=X4.nx+1:=by omega
 have hli:=hi.len;refine aA (aW (Q:=fun o A' X=>o= .normal/\aRM X6 S.nx (S.nx+1) (S.nx+2) (S3.nx+15) X4.nx (S3.nx+13) ib rb iv g 0 A' X) (aA (aG ?_)) ?_)
 ·refine ed ls6 @aY @bB @aF @aE (dE hW6) hli ?_;refine aL (bK (aRM X6 S.nx (S.nx+1) (S.nx+2) (S3.nx+15) X4.nx (S3.nx+13) ib rb iv g) ?_ g.bn.length _ _ ⟨rfl,cC.refl _ _,0,fun _=>0,_,ay,Aq ..,ga6,yJ.none,by refine⟨?_,?_,?_,?_,?_,?_,?_,?_⟩<;>simp only[↓aC,aB,rE,↓reduceIte,rA]⟩);rintro k ⟨F,inr⟩ X ⟨q0,hX,i,bs,cs,hik,hcl,hga,hR,p2,p3,p4,p6,p7,p37,p38,p39⟩;simp only at q0 p2 p3 p4 p6 p7 p37 p38 p39;subst q0;refine bQ (d6 p38 p39 ?_);by_cases hlt:i<g.bn.length;rotate_left
  ·refine aA (aK ff (bG ?_));refine aq ?_;have hk0:k=0:=by omega
   subst hk0;exact⟨rfl,hX,i,bs,cs,hik,hcl,hga,hR,by refine⟨?_,?_,?_,?_,?_,?_,?_,?_⟩<;>simp only[↓aC,aB,rE,↓reduceIte,rA,p2,p3,p4,p6,p7,p37,p38,p39]⟩
  refine aA (aM ff (aH ?_));refine aq ?_;have sX:Same S X:=hX.same (sS3.trans sX6) ay;have lXn:=hX.1;have⟨f1,f2,f3⟩:=G.fst i hlt;have hac:=(G.inf _ f1 f2).2.2;rw[f3] at hac;have⟨e,b,q,hian,hb,he,heq,hla,_⟩:=aP.at hi bg (Ac hlt);have hia':g.bn[i]=ce g (i:Int):=by unfold ce;rw[Ad,Ax,Ac hlt];rfl
  unfold cW at heq;subst heq;rw[hia',hac] at hla;rw[<-oM sX hb] at hla;have hnl:(cd g (kS g i)).next.length<=1000:=G.nxt _ f1;generalize hna:(cd g (kS g i)).next.length=na at *;have w1:=dc i
  have goX:=(hX.2 _ (ay:S3.nx+15<X6.nx) ay).trans go6;refine aA (aL (aA (aG ?_)));refine d9 p37 p39 @aJ hian hla ?_;refine dC ?_;intro Y1 y1 k1 h1;refine aq ?_;refine eS (b:=X.nx) (ar) (by refine aq ?_;exact bL _) h1 rfl rfl ?_;intro Y2 y2 k2 h2;refine aq ?_;have sXY:Same X Y2:=y2.same y1 (Ag _);have eY2:Y2.nx=X.nx+1:=by omega
  have goY:=(sXY.2 _ ay).trans goX;have gaY:=(sXY.2 _ ay).trans hga;have hRY:=hR.same sXY;have hlo1:=ldc (j:=1) goY rfl;have hlx1:=ldc (j:=1) h2 rfl;have nW1:¬ (S3.nx+15=S3.nx+13):=by omega
  have nW2:¬ (X.nx=S3.nx+13):=by omega
  have lW1:S3.nx+15<Y2.nx:=by omega
  have lW2:X.nx<Y2.nx:=by omega
  have hia:=eX (b:=S3.nx+13) (o:=false) hlt;refine qO (fun c=>c=S3.nx+13) ?_;intro U0 u0 hu0 mu0;simp only[↓sU,sD,rE,↓reduceIte,rA,p6,aF,aU,aE,hlo1,hlx1,nW1,nW2,lW1,lW2,Ap];refine cL rfl ?_;refine af ?_;refine aQ (uR H (n:=na) ay) ?_;rintro r U1 ⟨⟨nb,rfl,t1,t2,t3⟩,u1⟩;refine⟨u1,?_⟩;have sYU:Same Y2 U1:=u0.trans u1;have gaU:=(sYU.2 _ ay).trans gaY;refine df @aJ hia ?_;refine aAO (ps':=[]) (h':=U1.h) (b:=S3.nx+13) (p:=i) (cs:=cs) (w:=qU nb (List.replicate na (-1))) (by rw[bX]) rfl (ag) (by simp only[↓sU,sD,rE,↓reduceIte,rA];rfl) gaU ay rfl ?_;refine af ?_;have lu0:=u0.1;have lu1:=u1.1;have hA0:((aA5 g).take i).length=i:=by unfold aA5;rw[Bp,Ay];omega
  have hA1:(aA5 g).take (i+1)=(aA5 g).take i++ [List.replicate na (-1)]:=by
   rw[Bx];congr 1;unfold aA5;rw[Bc,Ac hlt,hia'];show [List.replicate (ce g (i:Int)).ca.toNat (-1)]=_;rw[hac,Ax]
  refine aG (df p39 w1 ?_);refine⟨k - 1,ay,rfl,⟨show X6.nx<=U1.nx by omega,fun c hc hne=>?_⟩,i+1,(fun j=>if j=((aA5 g).take i).length then nb else bs j),cs.set i (qU nb (List.replicate na (-1))),ay,by rw[Ar];exact hcl,by simp only;rw[Ev.T.get_set,if_pos rfl],?_,by refine⟨?_,?_,?_,?_,?_,?_,?_,?_⟩<;>simp only[↓sU,sD,rE,↓reduceIte,rA,p2,p3,p4,p6,p7,p37,p38]⟩
  ·simp only;rw[Ev.T.get_set,if_neg hne,sYU.2 _ ay,sXY.2 _ ay];exact hX.2 c hc hne
  ·rw[hA1];refine(hRY.same sYU |>.move (X':=⟨U1.h.set (S3.nx+13) (some (.cells (cs.set i (qU nb (List.replicate na (-1)))) false 0)),U1.nx⟩) (Ag _) fun j hj=>?_).add (nb:=nb) ay (show nb<U1.nx from t2) ?_ (fun j hj=>?_) (fun j hj=>?_) ?_
   ·have:=(hRY.bl j hj).1;simp only;rw[Ev.T.get_set,if_neg ay]
   ·simp only;rw[Ev.T.get_set,if_neg ay];exact t3
   ·have:=(hRY.bl j hj).2.1;omega
   ·rw[Du,if_neg ay]
   ·rw[hA0,Du,if_pos rfl,if_pos ay]
 rintro o ⟨F,inr⟩ X7 ⟨rfl,q0,hX7,i,bs,cs,hik,hcl,hga,hR,p2,p3,p4,p6,p7,p37,p38,p39⟩;simp only at q0 p2 p3 p4 p6 p7;subst q0;obtain rfl:i=g.bn.length:=by omega
 have hAl:(aA5 g).length=g.bn.length:=by unfold aA5;rw[Ay]
 rw[Bb ay] at hR;clear p37 p38 p39;refine aq ?_;have lX7:=hX7.1;refine bQ ?_;refine dC ?_;intro X8 x8 m8 g8;refine aq ?_;refine bQ (d9 @aHS p2 p3 p6 p7 ?_);obtain⟨L,hL⟩:∃L:Lay,L=⟨S.nx,S3.nx+15,X4.nx,S.nx+1,X7.nx,wb,ib,rb,S3.nx+13,bs,cs⟩:=⟨_,rfl⟩;have hLfn:L.fn= .fn 51 [] [.ptr S.nx 0,.ptr (S3.nx+15) 0,.ptr X4.nx 0,.ptr (S.nx+1) 0,.ptr X7.nx 0]:=by rw[hL];rfl
 refine eS (b:=X7.nx) (cs':=[L.fn]) (ar) (by rw[hLfn];simp only[↓aC,aB,rE,↓reduceIte,rA];rfl) g8 rfl rfl ?_;intro X9 x9 m9 g9;refine aq ?_;have eX9:X9.nx=X7.nx+1:=by omega
 have s79:Same X7 X9:=x9.same x8 (Ag _);have old:∀c,c<X6.nx->c≠S3.nx+13->X9.h.get c=X6.h.get c:=fun c hc hne=>by rw[s79.2 _ ay,hX7.2 c hc hne]
 have sX9:Same S X9:=⟨ay,fun c hc=>by rw[old c ay ay,(sS3.trans sX6).2 _ hc]⟩;have hWb:∀b,L.W g.bn.length b->(X1.nx<=b/\b<X2.nx)\/(X3.nx<=b/\b<X4.nx)\/(X6.nx<=b/\b<X7.nx):=by
  rw[hL];rintro b (rfl | rfl | ⟨j,hj,rfl⟩)
  ·exact .inl ⟨b1,b2⟩
  ·exact .inr (.inl ⟨d1,d2⟩)
  ·have⟨h1,h2,_⟩:=hR.bl j ay;exact .inr (.inr ⟨h1,h2⟩)
 have C:Laid L S X9 g.bn.length mv:=by
  have nW:∀c,(c<X1.nx\/c=X4.nx\/c=X7.nx)->¬L.W g.bn.length c:=fun c hc hw=>by have:=hWb c hw;omega
  have w0:∀b,L.W g.bn.length b->S.nx<=b/\b<X9.nx:=fun b hw=>by have:=hWb b hw;omega
  subst hL;refine⟨sX9,?_,?_,?_,?_,g9,?_,⟨?_,nW _ (.inl ?_)⟩,⟨?_,nW _ (.inl ?_)⟩,⟨?_,nW _ (.inr (.inl rfl))⟩,⟨?_,nW _ (.inl ?_)⟩,⟨?_,nW _ (.inr (.inr rfl))⟩,⟨?_,nW _ (.inl ?_)⟩,w0,?_,fun j hj=>?_⟩
  ·show X9.h.get S.nx=_;rw[old _ ay ay];exact gsb6
  ·show X9.h.get (S3.nx+15)=_;rw[old _ ay ay];exact go6
  ·show X9.h.get X4.nx=_;rw[old _ ay ay];exact g6
  ·show X9.h.get (S.nx+1)=_;rw[old _ ay ay,sX6.2 _ ay];exact gmb
  ·show X9.h.get (S3.nx+13)=_;rw[s79.2 _ ay];exact hga
  ·show S.nx<X9.nx;omega
  ·show S.nx<X1.nx;omega
  ·show S3.nx+15<X9.nx;omega
  ·show S3.nx+15<X1.nx;omega
  ·show X4.nx<X9.nx;omega
  ·show S.nx+1<X9.nx;omega
  ·show S.nx+1<X1.nx;omega
  ·show X7.nx<X9.nx;omega
  ·show S3.nx+13<X9.nx;omega
  ·show S3.nx+13<X1.nx;omega
  ·show ib≠rb;omega
  ·have⟨h1,h2,_⟩:=hR.bl j ay;show ib≠bs j/\rb≠bs j;omega
 have hD:Dyn L S X9 (List.replicate g.bn.length (-1)) (List.replicate g.bn.length (-1)) (aA5 g):=by
  subst hL;refine⟨?_,?_,?_⟩
  ·show X9.h.get ib=_;rw[old _ ay ay];exact gi6
  ·show X9.h.get rb=_;rw[old _ ay ay];exact gr6
  ·exact(hR.same s79).low ay
 have hBL:iQ S L.wb plb szb pv nv iv g (lC g) Z:=by rw[hL];exact hB
 have hiw:=aIr H hn hm G M hTl hWF hpv hBL (g.bk.length+1) (by unfold fJ at hT;exact hT) C hD (iO.start G m);rw[An,hTl] at hiw;have hgm:X9.h.get (S.nx+1)=some (.cells [mv] false 0):=by have:=C.gm;rw[hL] at this;exact this
 have hgk:X9.h.get X7.nx=some (.cells [L.fn] false 0):=g9;have lm0:=cV (p:=0) hgm rfl;have lk0:=cV (p:=0) hgk rfl;have hm9:=hm.same sX9;have ia0:=hm9.cn hml;have la0:=hm9.ld hml;have nWt:¬L.W g.bn.length (S.nx+2):=fun hw=>by have:=hWb _ hw;omega
 have nWo:¬L.W g.bn.length (S3.nx+15):=fun hw=>by have:=hWb _ hw;omega
 have nWa:¬L.W g.bn.length (S3.nx+13):=fun hw=>by have:=hWb _ hw;omega
 have gt9:X9.h.get (S.nx+2)=some (.cells [.cb,.cb] false 0):=by rw[old _ ay ay,sX6.2 _ ay];exact gtb
 have go9:X9.h.get (S3.nx+15)=some (.cells [.sl ib 0 g.bn.length g.bn.length false,.sl (S3.nx+13) 0 g.bn.length g.bn.length false] false 0):=by rw[old _ ay ay];exact go6
 have ga9:X9.h.get (S3.nx+13)=some (.cells cs false 0):=by rw[s79.2 _ ay];exact hga
 have lt9:S.nx+2<X9.nx:=by omega
 have lo9:S3.nx+15<X9.nx:=by omega
 have la9:S3.nx+13<X9.nx:=by omega
 have lt0:S.nx<=S3.nx+13:=by omega
 have li0:S.nx<=ib:=by omega
 have li9:ib<X9.nx:=by omega
 have hrb:L.bs=bs/\L.cs=cs/\L.ib=ib:=by rw[hL];exact⟨rfl,rfl,rfl⟩
 clear hR hga s79 x9 m9 x8 m8 g8 g9 lX7 hX7 old;refine aA (aA (aW (Q:=fun o A' Y=>o= .normal/\A'.inr=false/\jY (L.W g.bn.length) X9 Y/\aD 4 A'.F= .ptr (S.nx+2) 0/\aD 6 A'.F= .ptr (S3.nx+15) 0/\∃t,aD 61 A'.F= .bool t/\(t=true->¬iB g m)/\(t=false->m.getD 0 0=0/\∃I' F' A',Dyn L S Y I' F' A'/\iO g m g.bk.length g.bk.length I' F' A')) (aG ?_) ?_))
 ·by_cases h0:m.getD 0 0=0;rotate_left
  ·refine dy p3 lm0 @aAX ia0 la0 (Ab (show m.getD 0 0≠0 from h0)) p4 p6 ?_;exact⟨jY.refl _ _,true,rfl,fun _ a=>h0 a.root,fun h=>by cases h⟩
  refine dx p3 lm0 @aAX ia0 la0 (Aa (show ¬m.getD 0 0≠0 from fun h=>h h0)) lk0 ?_;refine bE (af ?_);have e0:eR m 0=0:=by unfold eR;rw[h0];rfl
  rw[e0] at hiw;refine aQ hiw ?_;rintro _ Y ⟨bY,t,rfl,ht0,ht1⟩;refine dh @eF p4 p6 ?_;refine⟨bY, !t,rfl,fun h=>?_,fun h=>⟨h0,?_⟩⟩
  ·cases t with
   | true=>cases h
   | false=>exact ht0 rfl
  ·cases t with
   | false=>cases h
   | true=>exact ht1 rfl
 clear p2 p3 p4 p6 p7 hiw;rintro o ⟨F,inr⟩ Y ⟨rfl,q0,bY,p4,p6,t,p61,ht1,ht0⟩;simp only at q0 p4 p6 p61;subst q0;have gtY:=(bY.2 _ lt9 nWt).trans gt9;have sY:Same S Y:=C.same bY;have lY:=bY.1;refine af ?_;cases t with
 | true=>
  refine aM (ai p61) ?_;refine bQ (d6 @aKN @nS ?_);refine eS (b:=S.nx+2) (cs':=[.cb,.cb]) (ax p4) (by refine aq ?_;exact bL _) gtY rfl rfl ?_;intro Y2 y2 k2 h2;refine aq ?_;refine aR ?_;have ld2:=rB (n:=2) h2 rfl;refine d7 @gF p4 ld2 ?_;exact⟨⟨az sY.1,fun c hc=>by rw[y2.2 _ (az sY.1) ay,sY.2 _ hc]⟩,_,_,false,rfl,⟨fun h=>(by cases h),fun a=>absurd a (ht1 rfl)⟩,fun h=>by cases h⟩
 | false=>
  have⟨h0,I',F',A',hDY,hSY⟩:=ht0 rfl;refine aK (ai p61) (aH ?_);refine af ?_;have goY:=(bY.2 _ lo9 nWo).trans go9;have gaY:=(bY.2 _ la9 nWa).trans ga9;have lo2:=rB (n:=2) goY rfl;have⟨hA,hI,hAe⟩:=hSY.full G M h0;refine bQ (d6 p6 lo2 ?_);refine eS (b:=S.nx+2) (cs':=[.sl ib 0 g.bn.length g.bn.length false,.sl (S3.nx+13) 0 g.bn.length g.bn.length false]) (ax p4) (by refine aq ?_;exact bL _) gtY rfl rfl ?_;intro Y2 y2 k2 h2;refine aq ?_;refine aR ?_;have ld2:=rB (n:=2) h2 rfl;refine d7 @gF p4 ld2 ?_;have⟨r1,r2,r3⟩:=hrb;have gi:=hDY.gi;have hrw:=hDY.rw;rw[r3,hI] at gi;rw[r1,r2,hAe] at hrw;have hlI:(cw g m).length=g.bn.length:=by simp [cw]
  have hlA:(c8 g m).length=g.bn.length:=by simp [c8]
  refine⟨⟨az sY.1,fun c hc=>by rw[y2.2 _ (az sY.1) ay,sY.2 _ hc]⟩,_,_,true,rfl,⟨fun _=>hA,fun _=>rfl⟩,fun _=>⟨⟨ib,by rw[hlI],li0,ay,?_⟩,S3.nx+13,bs,cs,by rw[hlA],lt0,ay,?_,hrw.move ay fun j hj=>?_⟩⟩
  ·rw[y2.2 _ ay ay];exact gi
  ·rw[y2.2 _ ay ay];exact gaY
  ·have⟨h1,h2',_⟩:=hrw.bl j hj;refine y2.2 _ h2' fun e=>nWt ?_;rw[<-e,<-r1];exact .inr (.inr ⟨j,by rw[<-hlA];exact hj,rfl⟩)
theorem aAK{g:bD}{m:bu}:aIl (tN g m):=fun {S0 S1 S2 x y} h hn hh=>by
 have⟨⟨b,h1,h2,h3,h4⟩,ab,bs,cs,k1,k2,k3,k4,k5⟩:=h;refine⟨⟨b,h1,h2,Ae h3 hn,(hh b h2 h3).trans h4⟩,ab,bs,cs,k1,k2,Ae k3 hn,(hh ab k2 k3).trans k4,k5.move hn fun j hj=>?_⟩;have⟨a,b,_⟩:=k5.bl j hj;exact hh _ a b
theorem aNM{S:St}{nv iv mv:AV}{g:bD}{m:bu}(H:Has fns)(hn:aP 6 cI S nv g.bk)(hi:aP 2 cW S iv g.bn)(hm:bO .i64 S mv m):aOU fns S nv iv mv g m (iB g m) (tN g m):=fun h0 h1 h2 _ S0 wb plb szb pv T Z hS0 hT hTl hpv hB=>
 yS H (aP.same (E:=cI) bT hn hS0) (aP.same (E:=cW) cM hi hS0) (hm.same hS0) (iR h0) ⟨h1,h2⟩ hT hTl hpv hB
end Go.Ev.Gl
namespace Go.Ev.Gl
theorem aJ9{k:IntKind}{S:St}{v:AV}{l:bu}(h:aP 1 (aOP k) S v l):bO k S v l:=by
 rcases h with h | ⟨b,off,cap,o,cs,rfl,h2,h3,h4,h5⟩
 ·exact .inl h
 ·refine .inr ⟨b,off,cap,o,cs,rfl,h2,h3,h4,fun i x hi=>?_⟩;obtain⟨e,e1,e2,rfl,_⟩:=h5 i x hi;have:=e2 0 _ rfl;rw[Dm,Bh] at this;exact this
abbrev aH6(k:IntKind):St->b6->bu->Prop:=aNo 1 (aOP k)
theorem aOv{k:IntKind}{S:St}{avs:b6}{l:bu}(h:aH6 k S avs l):∃v,avs= [v]/\bO k S v l:=by
 have⟨v,h1,h2⟩:=aNo.is h;exact⟨v,h1,aJ9 h2⟩
def aQR(g:bD):Prop:=g.bn.length * 16<=140737488355328/\∀x∈g.bk,x.next.length * 8<=140737488355328/\x.weights.length * 8<=140737488355328/\x.pay.length * 8<=140737488355328
section
variable {P:Program}{σ:Env}{S:St}{w:World}
theorem aLE{k:IntKind}{S:St}{avs:b6}{l:bu}(h:aH6 k S avs l):l.length<=140737488355328:=by
 have⟨_,_,h,_⟩:=h;omega
theorem aJ5{t:TypeId}{k:IntKind}{H:Type}{enc:TypeId×Value->H}{base:Nat}{spare:Nat->Bool}{held:Bool}{fuel:Nat}{v:Value}{x:DataW H×List MemPlace}(hR:mF P σ S w)(hn:aA6 S)(hf:aAW S)(hG:P.globals.size<=S.nx)(hL:Lays P t (aH6 k))(h:DataW.trod enc P w base spare held fuel t v.cells.toList=some x)(hv:v.cells.toList= [v])(hW:∀n∈DataW.weights P t x.1,n<=140737488355328):
  ∃σ' S' a l,rC P σ S w σ' S'/\Rv P σ' a v/\bO k S' a l/\l.length<=140737488355328/\S.nx<=S'.nx:=by
 have⟨σ',S',avs,l,hA,hr,h1,hE,hnx⟩:=hL H enc σ S w base spare held fuel _ x hR hn hf hG h hW;have hb:=aLE hE;obtain⟨a,rfl,i1⟩:=aOv hE;rw[hv] at hr;have⟨_,_,h2,h3,h4⟩:=dF.1 hr;cases h2;exact⟨σ',S',a,l,hA,h3,i1,hb,hnx⟩
theorem aKI{t e:TypeId}{k:IntKind}(ht:P.underlying t=some (.slice e))(he:P.underlying e=some (.int k))(hc:P.cellsOf e=1)(hby:8<=P.bytesOf e):Lays P t (aH6 k):=aIR ht hc bg ay (aNJ he) aMo
end
end Go.Ev.Gl
