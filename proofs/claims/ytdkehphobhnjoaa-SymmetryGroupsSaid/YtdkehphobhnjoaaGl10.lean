import Derived.Test.YtdkehphobhnjoaaGl9
open Nat renaming reduceEqDiff → rE, reduceAdd → rA
set_option maxHeartbeats 16000000
set_option linter.unusedSimpArgs false
set_option linter.unusedVariables false
namespace Go.Ev.Gl
variable {fns:T dE}
theorem aH3{l:List Int}{i:Nat}{v:Int}(hi:i<l.length)(h:l.getD i 0=v):l.set i v=l:=by
 refine aCc (Al ..) fun j hj=>?_;rw[kR hi];split
 ·rename_i e;rw[←e,h]
 ·rfl
theorem wE{S:St}{b sz:Nat}{l:List Int}{x v:Int}(H:Has fns)(hg:S.h.get b=some (.cells (bC l) false sz))(h0:0≤x)(hx:x.toNat<l.length):
  fA fns (.fn 52 [] []) [oD b l,.int .i64 x,.int .i64 v] S fun r S'=>bQ b S S'∧∃t,r= .bool t∧(t=true→S'.h.get b=some (.cells (bC (l.set x.toNat v)) false sz)∧(0≤l.getD x.toNat 0→l.getD x.toNat 0=v))∧(t=false→0≤l.getD x.toNat 0∧l.getD x.toNat 0≠v):=by
 unfold oD;have hn:=mE (k:=.i64) h0;have hia:=dI (b:=b) (o:=false) hx;have hld:=vE hg hx;refine bP H.f52 (by simp) ?_;simp only[↓sU,sD,rE,↓reduceIte,rA];refine bE ?_;simp only[↓sU,sD,rE,↓reduceIte,rA];by_cases hlt:l.getD x.toNat 0<0
 ·refine eG ?_;simp only[↓sU,sD,rE,↓reduceIte,rA,hn,hia,hld];refine aM (by simp only[↓sU,sD,rE,↓reduceIte,rA,Ab hlt]) ?_;refine aF ?_;simp only[↓sU,sD,rE,↓reduceIte,rA,hn,hia];refine fD (fun call=>by simp only[↓sU,sD,rE,↓reduceIte,rA,eJ,cI];exact oC (S:=S) hg hx) ?_;simp only[↓sU,sD,rE,↓reduceIte,rA];have hg2:(S.h.set b (some (.cells (bC (l.set x.toNat v)) false sz))).get b=some (.cells (bC (l.set x.toNat v)) false sz):=by rw[T.get_set,if_pos rfl]
  have hld2:=vE hg2 (show x.toNat<(l.set x.toNat v).length by rw[Al];exact hx);rw[kR hx,if_pos rfl] at hld2;refine bE ?_;simp only[↓sU,sD,rE,↓reduceIte,rA,hn,hia,hld2];refine aO ?_;simp only[↓sU,sD,rE,↓reduceIte,rA];exact⟨(bQ.refl b S).put _,_,rfl,fun _=>⟨hg2,fun h=>absurd hlt (by omega)⟩,fun h=>by simp at h⟩
 ·refine eG ?_;simp only[↓sU,sD,rE,↓reduceIte,rA,hn,hia,hld];refine aK (by simp only[↓sU,sD,rE,↓reduceIte,rA,Aa hlt]) (aI ?_);try simp only[↓sU,sD,rE,↓reduceIte,rA]
  refine bE ?_;simp only[↓sU,sD,rE,↓reduceIte,rA,hn,hia,hld];refine aO ?_;simp only[↓sU,sD,rE,↓reduceIte,rA];refine⟨bQ.refl b S,_,rfl,fun h=>?_,fun h=>?_⟩
  ·rw[Ck] at h;exact⟨by rw[aH3 hx h];exact hg,fun _=>h⟩
  ·rw[decide_eq_false_iff_not] at h;exact⟨by omega,h⟩
def aOi(S:St)(a b:AV)(l m:List Int)(k:Nat)(A:bH)(X:St):Prop:=A.inr=false∧Same S X∧∃i,i+k=l.length∧l.take i=m.take i∧aD 0 A.F=a∧aD 1 A.F=b∧aD 12 A.F= .int .i64 ((l.length:Nat):Int)∧aD 13 A.F= .int .i64 (i:Int)
theorem wC{S:St}{a b:AV}{l m:List Int}(H:Has fns)(ha:bN .i64 S a l)(hb:bN .i64 S b m)(hl:l.length≤10000000):fA fns (.fn 48 [] []) [a,b] S fun r S'=>r= .bool (decide (l=m))∧Same S S':=by
 refine bP H.f48 (by simp) ?_;simp only[↓aC,aB,rE,↓reduceIte,rA];refine bE ?_;simp only[↓aC,aB,rE,↓reduceIte,rA];refine eG ?_;simp only[↓aC,aB,rE,↓reduceIte,rA,ha.len,hb.len,Ag];by_cases hlm:l.length=m.length;rotate_left
 ·rw[Aa (show ¬l=m from fun e=>hlm (by rw[e]))];refine aM (by simp only[↓aC,aB,rE,↓reduceIte,rA,Ab (show((l.length:Nat):Int)≠((m.length:Nat):Int) by omega)]) ?_;refine bE ?_;simp only[↓aC,aB,rE,↓reduceIte,rA];refine aO ?_;simp only[↓aC,aB,rE,↓reduceIte,rA];exact Same.refl _
 refine aK (by simp only[↓aC,aB,rE,↓reduceIte,rA,Aa (show ¬ ((l.length:Nat):Int)≠((m.length:Nat):Int) by omega)]) (aI ?_);try simp only[↓aC,aB,rE,↓reduceIte,rA]
 refine aA (aS (Q:=fun o A' X=>(o= .normal∧aOi S a b l m 0 A' X)∨(o= .ret∧Same S X∧l≠m∧aD 4 A'.F= .bool false)) (aA (aF ?_)) ?_)
 ·simp only[↓aC,aB,rE,↓reduceIte,rA,ha.len,Ag];refine aJ (bB (aOi S a b l m) ?_ l.length _ _ ⟨rfl,Same.refl _,0,by omega,rfl,by refine⟨?_,?_,?_,?_⟩<;>simp only[↓aC,aB,rE,↓reduceIte,rA]⟩);rintro k ⟨F,inr⟩ X ⟨q0,hX,i,hik,he,p0,p1,p12,p13⟩;simp only at q0 p0 p1 p12 p13;subst q0;refine bE ?_;simp only[↓aC,aB,rE,↓reduceIte,rA,p12,p13];by_cases hlt:i<l.length
  ·refine aA (aM (by simp only[↓aC,aB,rE,↓reduceIte,rA,Ab (show(i:Int)<((l.length:Nat):Int) by omega)]) (aI ?_));try simp only[↓aC,aB,rE,↓reduceIte,rA]
   have hltm:i<m.length:=by omega
   have ia:=(ha.same hX).iaddr hlt;have la:=(ha.same hX).ld hlt;have ib:=(hb.same hX).iaddr hltm;have lb:=(hb.same hX).ld hltm;have w1:IntKind.i64.wrap ((i:Int)+1)=((i+1:Nat):Int):=by rw[wrap_i64 (by omega) (by omega)];omega
   refine aA (aJ (aA (aF ?_)));simp only[↓aC,aB,rE,↓reduceIte,rA,p13];refine aA (gJ ?_);simp only[↓aC,aB,rE,↓reduceIte,rA,p0,p1,aE,ia,ib,la,lb];have el:l.getD i 0=l[i]:=by rw[Ad,Ac hlt];rfl
   have em:m.getD i 0=m[i]:=by rw[Ad,Ac hltm];rfl
   by_cases hx:l.getD i 0=m.getD i 0
   ·refine aK (by simp only[↓aC,aB,rE,↓reduceIte,rA,Aa (show ¬l.getD i 0≠m.getD i 0 from fun h=>h hx)]) (aI ?_);try simp only[↓aC,aB,rE,↓reduceIte,rA]
    refine aF ?_;simp only[↓aC,aB,rE,↓reduceIte,rA,p13,w1];refine⟨k - 1,by omega,rfl,hX.trans (Same.nx _ _),i+1,by omega,?_,by refine⟨?_,?_,?_,?_⟩<;>simp only[↓aC,aB,rE,↓reduceIte,rA,p0,p1,p12]⟩;rw[Bi,Bi,he,Ac hlt,Ac hltm,←el,←em,hx]
   ·refine aM (by simp only[↓aC,aB,rE,↓reduceIte,rA,Ab (show l.getD i 0≠m.getD i 0 from hx)]) ?_;refine bE ?_;simp only[↓aC,aB,rE,↓reduceIte,rA];refine aO ?_;simp only[↓aC,aB,rE,↓reduceIte,rA];exact .inr ⟨hX.trans (Same.nx _ _),fun e=>hx (by rw[e])⟩
  ·refine aA (aK (by simp only[↓aC,aB,rE,↓reduceIte,rA,Aa (show ¬ (i:Int)<((l.length:Nat):Int) by omega)]) (aU ?_));simp only[↓aC,aB,rE,↓reduceIte,rA];have hk0:k=0:=by omega
   subst hk0;exact .inl ⟨rfl,hX,i,hik,he,by refine⟨?_,?_,?_,?_⟩<;>simp only[↓aC,aB,rE,↓reduceIte,rA,p0,p1,p12,p13]⟩
 rintro o ⟨F,inr⟩ X (⟨rfl,q0,hX,i,hik,he,p0,p1,p12,p13⟩ | ⟨rfl,hX,hne,p4⟩);rotate_left
 ·simp only at p4;simp only[↓aC,aB,rE,↓reduceIte,rA,p4];rw[Aa hne];exact⟨rfl,hX⟩
 simp only at q0;subst q0;rw[Ax (by omega),Ax (by omega)] at he;rw[Ab he];try simp only[↓aC,aB,rE,↓reduceIte,rA]
 refine bE ?_;simp only[↓aC,aB,rE,↓reduceIte,rA];refine aO ?_;simp only[↓aC,aB,rE,↓reduceIte,rA];exact hX
theorem uR{h:Ev.T AB}{P P':Fr→Prop}(hP:∀F,P F→P' F):∀ (l:List AO) (F:Fr),jR l F h P→jR l F h P'
 | [],F,hr=>hP F hr
 | ⟨d,.q q,g,mm⟩::l,F,hr=>by
  simp only[jR] at hr ⊢;split at hr
  ·rename_i hw;rw[if_pos hw];obtain⟨w,hw1,hw2,hw3⟩:=hr;exact⟨w,hw1,hw2,uR hP l _ hw3⟩
  ·rename_i hw;rw[if_neg hw];exact uR hP l _ hr
 | ⟨d,.a a,g,mm⟩::l,F,hr=>by cases hr
 | ⟨d,.x a,g,mm⟩::l,F,hr=>by cases hr
theorem aLn{ops pre:List AO}{K m m1 m2 s d e1 e2:Nat}{b:Bool}{f:cJ}{args:List cJ}{q1 q2:wJ}{A:bH}{S:St}{Q:Out→bH→St→Prop}
  (he:ops=pre++ [⟨some d,.x (.call f args),some (s,b),m⟩,⟨some e1,.q q1,some (s,b),m1⟩,⟨some e2,.q q2,none,m2⟩]) (hK:pre.length=K) (h3:(pre.all fun o=> !Nat.testBit o.mask K)=true) (hm:((List.range K).all fun i=>Nat.testBit m i)=true) (hd:d≠s) (hq1:dL q1=false) (hq2:dL q2=false)
  (h:jR pre A.F S.h fun F'=>aD s F'= .bool b∧fA fns (f.val F') (cO args F') ⟨S.h,S.nx+(K+3)⟩ fun v S1=>∃w1 w2,gS q1 (cD (some d) F' v) S1.h=some w1∧gS q2 (cD (some e1) (cD (some d) F' v) w1) S1.h=some w2∧Q .normal ⟨cD (some e2) (cD (some e1) (cD (some d) F' v) w1) w2,A.inr⟩ S1):mA fns (.drw ops) A S Q:=by
 subst he;have hlen:(pre++ [(⟨some d,.x (.call f args),some (s,b),m⟩:AO),⟨some e1,.q q1,some (s,b),m1⟩,⟨some e2,.q q2,none,m2⟩]).length=K+3:=by simp [hK]
 refine qX ?_;rw[hlen];refine xR (h:=S.h) (K:=K) (pre:=pre) (i:=0) rfl (by omega) (fun o ho=>by have:=Dk.1 h3 o ho;simpa using this) (fun l hl=>by cases hl) ?_;refine uR ?_ pre A.F h;rintro F' ⟨hg,hw⟩ ls hls;refine aJT hg (xJ rfl ?_);simp only[cK];refine aP hw ?_;rintro v S1 ⟨w1,w2,x1,x2,hQ⟩;refine aJT (by rw[←hg];simp only[dR];rw[if_neg (Co hd)]) ?_;rw[mF];refine⟨w1,x1,?_⟩;simp only[hq1,aV];rw[mF];refine⟨w2,x2,?_⟩;simp only[hq2,aV];rw[oO];refine⟨?_,?_⟩
 ·simp only[Ff,List.reverse_nil,Cm];refine nH fun l hl=>?_;obtain⟨h1,h2,h4⟩:=hls l hl;have hm2:=Dk.1 hm l.i (Fa.2 h2);unfold eY;rw[h4,aV,h1,aQ,hm2,aQ]
 ·simp only[cK];exact hQ
def iE(W:Nat→Prop)(S X:St):Prop:=S.nx≤X.nx∧∀c,c<S.nx→¬W c→X.h.get c=S.h.get c
section
variable {W:Nat→Prop}{S X Y:St}{b:Nat}
theorem iE.refl(W:Nat→Prop)(S:St):iE W S S:=⟨Ah _,fun _ _ _=>rfl⟩
theorem iE.trans(h:iE W S X)(h':iE W X Y):iE W S Y:=⟨Ay h.1 h'.1,fun c hc hw=>(h'.2 c (Ae hc h.1) hw).trans (h.2 c hc hw)⟩
theorem Same.butW(h:Same S X):iE W S X:=⟨h.1,fun c hc _=>h.2 c hc⟩
theorem bQ.butW(h:bQ b S X)(hb:W b):iE W S X:=⟨h.1,fun c hc hw=>h.2 c hc fun e=>hw (by rw[e];exact hb)⟩
theorem iE.same{S0:St}(h:iE W S X)(h0:Same S0 S)(hW:∀b,W b→S0.nx≤b):Same S0 X:=⟨Ay h0.1 h.1,fun c hc=>(h.2 c (Ae hc h0.1) fun hw=>by have:=hW c hw;omega).trans (h0.2 c hc)⟩
end
structure Lay where
 sb:Nat
 ob:Nat
 fb:Nat
 mb:Nat
 kb:Nat
 wb:Nat
 ib:Nat
 rb:Nat
 ab:Nat
 bs:Nat→Nat
 cs:List AV
def Lay.W(L:Lay)(n c:Nat):Prop:=c=L.ib∨c=L.rb∨∃j,j<n∧c=L.bs j
def Lay.fn(L:Lay):AV:=.fn 51 [] [.ptr L.sb 0,.ptr L.ob 0,.ptr L.fb 0,.ptr L.mb 0,.ptr L.kb 0]
structure Laid(L:Lay)(S0 S1:St)(n:Nat)(mv:AV):Prop where
 s01:Same S0 S1
 gs:S1.h.get L.sb=some (.cells [.ptr L.wb 0] false 0)
 go:S1.h.get L.ob=some (.cells [.sl L.ib 0 n n false,.sl L.ab 0 n n false] false 0)
 gf:S1.h.get L.fb=some (.cells [.sl L.rb 0 n n false] false 0)
 gm:S1.h.get L.mb=some (.cells [mv] false 0)
 gk:S1.h.get L.kb=some (.cells [L.fn] false 0)
 ga:S1.h.get L.ab=some (.cells L.cs false 0)
 ls:L.sb<S1.nx∧¬L.W n L.sb
 lo:L.ob<S1.nx∧¬L.W n L.ob
 lf:L.fb<S1.nx∧¬L.W n L.fb
 lm:L.mb<S1.nx∧¬L.W n L.mb
 lk:L.kb<S1.nx∧¬L.W n L.kb
 la:L.ab<S1.nx∧¬L.W n L.ab
 w0:∀b,L.W n b→S0.nx≤b∧b<S1.nx
 ir:L.ib≠L.rb
 is:∀j,j<n→L.ib≠L.bs j∧L.rb≠L.bs j
structure Dyn(L:Lay)(S0 X:St)(I F:List Int)(A:List (List Int)):Prop where
 gi:X.h.get L.ib=some (.cells (bC I) false 0)
 gr:X.h.get L.rb=some (.cells (bC F) false 0)
 rw:vM S0 X L.bs L.cs A
section
variable {L:Lay}{S0 S1 X Y:St}{n:Nat}{mv:AV}{I F:List Int}{A:List (List Int)}
theorem Laid.s(h:Laid L S0 S1 n mv)(hX:iE (L.W n) S1 X):X.h.get L.sb=some (.cells [.ptr L.wb 0] false 0):=(hX.2 _ h.ls.1 h.ls.2).trans h.gs
theorem Laid.o(h:Laid L S0 S1 n mv)(hX:iE (L.W n) S1 X):X.h.get L.ob=some (.cells [.sl L.ib 0 n n false,.sl L.ab 0 n n false] false 0):=(hX.2 _ h.lo.1 h.lo.2).trans h.go
theorem Laid.f(h:Laid L S0 S1 n mv)(hX:iE (L.W n) S1 X):X.h.get L.fb=some (.cells [.sl L.rb 0 n n false] false 0):=(hX.2 _ h.lf.1 h.lf.2).trans h.gf
theorem Laid.m(h:Laid L S0 S1 n mv)(hX:iE (L.W n) S1 X):X.h.get L.mb=some (.cells [mv] false 0):=(hX.2 _ h.lm.1 h.lm.2).trans h.gm
theorem Laid.k(h:Laid L S0 S1 n mv)(hX:iE (L.W n) S1 X):X.h.get L.kb=some (.cells [L.fn] false 0):=(hX.2 _ h.lk.1 h.lk.2).trans h.gk
theorem Laid.a(h:Laid L S0 S1 n mv)(hX:iE (L.W n) S1 X):X.h.get L.ab=some (.cells L.cs false 0):=(hX.2 _ h.la.1 h.la.2).trans h.ga
theorem Laid.same(h:Laid L S0 S1 n mv)(hX:iE (L.W n) S1 X):Same S0 X:=hX.same h.s01 fun b hb=>(h.w0 b hb).1
theorem Laid.move(h:Laid L S0 S1 n mv)(hX:iE (L.W n) S1 X):Laid L S0 X n mv:=
 ⟨h.same hX,h.s hX,h.o hX,h.f hX,h.m hX,h.k hX,h.a hX,⟨Ae h.ls.1 hX.1,h.ls.2⟩,⟨Ae h.lo.1 hX.1,h.lo.2⟩,⟨Ae h.lf.1 hX.1,h.lf.2⟩,⟨Ae h.lm.1 hX.1,h.lm.2⟩,⟨Ae h.lk.1 hX.1,h.lk.2⟩,⟨Ae h.la.1 hX.1,h.la.2⟩,fun b hb=>⟨(h.w0 b hb).1,Ae (h.w0 b hb).2 hX.1⟩,h.ir,h.is⟩
theorem Dyn.same(h:Dyn L S0 X I F A)(hL:Laid L S0 S1 n mv)(h1:S1.nx≤X.nx)(hs:Same X Y):Dyn L S0 Y I F A:=
 ⟨(hs.2 _ (Ae (hL.w0 _ (.inl rfl)).2 h1)).trans h.gi,(hs.2 _ (Ae (hL.w0 _ (.inr (.inl rfl))).2 h1)).trans h.gr,h.rw.same hs⟩
end
def WkT(L:Lay)(F:Fr)(xb yb to:Nat):Prop:=aD 1 F= .int .i64 (to:Int)∧aD 2 F= .ptr L.sb 0∧aD 3 F= .ptr L.ob 0∧aD 4 F= .ptr L.fb 0∧aD 5 F= .ptr L.mb 0∧aD 6 F= .ptr L.kb 0∧aD 10 F= .ptr xb 0∧aD 11 F= .ptr yb 0
def KdT(L:Lay)(F:Fr)(xb yb to j r v ln:Nat)(xa:AV)(b:Bool):Prop:=WkT L F xb yb to∧aD 12 F= .bool b∧aD 13 F= .int .i64 (j:Int)∧aD 14 F= .int .i64 (r:Int)∧aD 15 F= .int .i64 (v:Int)∧aD 88 F=xa∧aD 89 F= .int .i64 (ln:Int)∧aD 90 F= .int .i64 (j:Int)
noncomputable def agC:List AO:=[mt 130 12,
om 131 1 (.mv (.t 130)),
og 132 131 true 3 (.faddr 1 (.t 3)),
og 133 131 true 7 (ld 132),
og 134 131 true 3 (.faddr 2 (.t 10)),
og 135 131 true 19 (ld 134),
og 136 131 true 63 (.iaddr (.slice 1) (.t 133) (.t 135)),
og 137 131 true 127 (ld 136),
og 138 131 true 3 (.mv (.t 13)),
og 139 131 true 3 (ld 2),
og 140 131 true 515 (.nilchk (.t 139)),
og 141 131 true 1539 (.faddr 4 (.t 140)),
og 142 131 true 3587 (ld 141),
og 143 131 true 3 (.mv (.t 15)),
og 144 131 true 15875 (.iaddr (.slice 1) (.t 142) (.t 143)),
og 145 131 true 32259 (ld 144)]
def WkF(L:Lay)(S1:St)(g:aW)(m:List Int)(A:bH)(X:St):Prop:=iE (L.W g.infos.length) S1 X∧¬fT g m∧aD 9 A.F= .bool false
def aNS(L:Lay)(S0 S1:St)(g:aW)(m:List Int)(i e xb yb:Nat)(xa:AV)(cx cy:Option AB)(rec:Nat→Option (List cC))(k:Nat)(A:bH)(X:St):Prop:=A.inr=false∧iE (L.W g.infos.length) S1 X∧xb<X.nx∧yb<X.nx∧∃ (j r:Nat) (Tr:List cC) (I F:List Int) (As:List (List Int)),j+k=(nodeAt g i).next.length∧fW rec ((nodeAt g i).next.drop j) r=some Tr∧r+Tr.length=e∧Dyn L S0 X I F As∧fV g m r r I F As∧WkT L A.F xb yb (eB m i)∧X.h.get xb=cx∧X.h.get yb=cy∧aD 12 A.F= .bool (decide ((nodeAt g i).kind=2))∧aD 88 A.F=xa∧aD 89 A.F= .int .i64 (((nodeAt g i).next.length:Nat):Int)∧aD 90 A.F= .int .i64 (j:Int)
theorem aGh{S0:St}{L:Lay}{nv iv pv mv:AV}{g:aW}{m:List Int}{T:List cC}{Z:List Int}{plb szb:Nat}(H:Has fns)(hn:aN 6 bT S0 nv g.nodes)(hm:bN .i64 S0 mv m)(G:fC g)(M:xI g m)(hTl:T.length=g.nodes.length)(hW:WF (dB g) 0 (-1) T)(hpv:bN .i64 S0 pv (T.map (·.1)))(hB:gD S0 L.wb plb szb pv nv iv g (jM g) Z):
  ∀ (f:Nat) {X:St} {i:Nat} {p d:Int} {T':List cC} {I F:List Int} {A:List (List Int)},eE g.nodes.length (dB g) f i p d=some T'→Laid L S0 X g.infos.length mv→Dyn L S0 X I F A→fV g m i (i+1) I F A→
  fA fns L.fn [.int .i64 (i:Int),.int .i64 ((eB m i:Nat):Int)] X fun r X'=>iE (L.W g.infos.length) X X'∧∃t,r= .bool t∧(t=false→¬fT g m)∧(t=true→∃I' F' A',Dyn L S0 X' I' F' A'∧fV g m (i+T'.length) (i+T'.length) I' F' A'):=by
 have hN:=G.n2;have hNI:=G.ni;intro f
 induction f with
 | zero=>intro X i p d T' I F A hT';cases hT'
 | succ f ih=>
  intro X i p d T' I F A hT' C hD hS;have hX:iE (L.W g.infos.length) X X:=iE.refl _ _;simp only[eE] at hT';split at hT';rotate_left
  ·cases hT'
  rename_i hlt;obtain⟨L',hkids,rfl⟩:=Ap.1 hT';rw[fO] at hkids;have lX:=hX.1;have sX:Same S0 X:=C.same hX;have hWB:=(hB.w.same sX).1;have lwX:=(hB.w.same sX).2;have lds:=fN (p:=0) (C.s hX) rfl;have lsX:L.sb<X.nx:=Ae C.ls.1 lX;obtain⟨hto,htoN⟩:=M.at hlt;obtain⟨_,bx,qx,hiax,hbx,_,⟨xa,xw,xp,rfl,hxa,hxw,hxp⟩,hldx,_⟩:=aN.at hn (by decide) (eC hlt);obtain⟨_,by',qy,hiay,hby,_,⟨ya,yw,yp,rfl,hya,hyw,hyp⟩,hldy,_⟩:=aN.at hn (by decide) (eC htoN);rw[←jO sX hbx] at hldx;rw[←jO sX hby] at hldy;have snv:=aN.self hn;have sx:=pM (k:=.i64) (x0:=(nodeAt g i).kind) (x1:=(nodeAt g i).player) (x2:=(nodeAt g i).info) (bN.self hxa) (bN.self hxw) (bN.self hxp);have sy:=pM (k:=.i64) (x0:=(nodeAt g (eB m i)).kind) (x1:=(nodeAt g (eB m i)).player) (x2:=(nodeAt g (eB m i)).info) (bN.self hya) (bN.self hyw) (bN.self hyp);have lbx:bx<X.nx:=Ae hbx sX.1;have lby:by'<X.nx:=Ae hby sX.1;show fA fns (.fn 51 [] [.ptr L.sb 0,.ptr L.ob 0,.ptr L.fb 0,.ptr L.mb 0,.ptr L.kb 0]) _ _ _;refine bP H.f51 (by simp) ?_;simp only[↓sU,sD,rE,↓reduceIte,rA];refine bE ?_;simp only[↓sU,sD,rE,↓reduceIte,rA];refine aA (qS (fun _=>False) ?_);simp only[↓sU,sD,rE,↓reduceIte,rA,lds,lsX,Aq,bF,bO,bG,aH,aX,aG,cT hWB,lwX,snv,aE,hiax,hldx,sx,lbx,hiay,hldy,sy,lby,uW];refine aGX (n:=6) rfl rfl rfl (by simp only[↓sU,sD,rE,↓reduceIte,rA]) (by simp only[↓sU,sD,rE,↓reduceIte,rA]) (by simp only[↓sU,sD,rE,↓reduceIte,rA];exact bJ _) (by simp only[↓sU,sD,rE,↓reduceIte,rA];exact bJ _) rfl rfl rfl (by omega) (by omega) (by omega) ?_;intro X1 hX1n hgx hgy hX1;rw[cK];have hX1n:X1.nx=X.nx+20:=hX1n;have sX1:Same X X1:=⟨by omega,fun c hc=>hX1 c (by omega) (by omega)⟩;have lx1:X.nx+16<X1.nx:=by omega
  have ly1:X.nx+17<X1.nx:=by omega
  show mA fns _ _ X1 _;refine aA (aA (aS (Q:=fun o A' Y=>o= .normal∧A'.inr=false∧Same X1 Y∧WkT L A'.F (X.nx+16) (X.nx+17) (eB m i)∧∃t,aD 60 A'.F= .bool t∧(t=true↔¬aAS g m i)) (aF ?_) ?_))
  ·have sX1':=sX.trans sX1;have hxa1:=hxa.same sX1';have hya1:=hya.same sX1';have hxp1:=hxp.same sX1';have hyp1:=hyp.same sX1';by_cases q1:(nodeAt g i).kind=(nodeAt g (eB m i)).kind;rotate_left
   ·simp only[↓sU,sD,rE,↓reduceIte,rA,aH,aG,dK hgx,dK hgy,Ab (show(nodeAt g i).kind≠(nodeAt g (eB m i)).kind from q1),WkT];exact⟨Same.refl _,true,rfl,fun _ h=>q1 h.1,fun _=>rfl⟩
   have q1':=Aa (show ¬ (nodeAt g i).kind≠(nodeAt g (eB m i)).kind from fun h=>h q1);by_cases q4:(nodeAt g i).player=(nodeAt g (eB m i)).player;rotate_left
   ·simp only[↓sU,sD,rE,↓reduceIte,rA,aH,aG,dK hgx,dK hgy,cT hgx,cT hgy,q1',Ab (show(nodeAt g i).player≠(nodeAt g (eB m i)).player from q4),WkT];exact⟨Same.refl _,true,rfl,fun _ h=>q4 h.2.2.2,fun _=>rfl⟩
   have q4':=Aa (show ¬ (nodeAt g i).player≠(nodeAt g (eB m i)).player from fun h=>h q4);by_cases q2:(nodeAt g i).next.length=(nodeAt g (eB m i)).next.length;rotate_left
   ·simp only[↓sU,sD,rE,↓reduceIte,rA,aH,aG,dK hgx,dK hgy,cT hgx,cT hgy,cP hgx,cP hgy,hxa1.len,hya1.len,Ag,q1',q4',Ab (show(((nodeAt g i).next.length:Nat):Int)≠(((nodeAt g (eB m i)).next.length:Nat):Int) by omega),WkT];exact⟨Same.refl _,true,rfl,fun _ h=>q2 h.2.1,fun _=>rfl⟩
   simp only[↓sU,sD,rE,↓reduceIte,rA,aH,aG,dK hgx,dK hgy,cT hgx,cT hgy,cP hgx,cP hgy,dF hgx,dF hgy,hxa1.len,hya1.len,Ag,q1',q4',Aa (show ¬ (((nodeAt g i).next.length:Nat):Int)≠(((nodeAt g (eB m i)).next.length:Nat):Int) by omega),WkT];refine aY ?_;simp only[↓sU,sD,rE,↓reduceIte,rA];refine aP (wC H hxp1 hyp1 (by have:=G.pay i hlt;omega)) ?_;rintro _ Y ⟨rfl,hY⟩;simp only[↓sU,sD,rE,↓reduceIte,rA,dH];refine⟨hY,_,rfl,?_⟩;by_cases q3:(nodeAt g i).pay=(nodeAt g (eB m i)).pay
   ·rw[Ab q3];exact⟨fun h=>(by cases h),fun h=>absurd ⟨q1,q2,q3,q4⟩ h⟩
   ·rw[Aa q3];exact⟨fun _ h=>q3 h.2.2.1,fun _=>rfl⟩
  rintro o ⟨F0,inr⟩ Y ⟨rfl,q0,hY,hP,t,p60,hLt⟩;simp only at q0 hP p60;subst q0;obtain⟨p1,p2,p3,p4,p5,p6,p10,p11⟩:=hP;have sXY:=sX1.trans hY;have bY:iE (L.W g.infos.length) X Y:=hX.trans (Same.butW sXY);try simp only[↓sU,sD,rE,↓reduceIte,rA]
  cases t with
  | true=>
   refine aM (by simp only[↓sU,sD,rE,↓reduceIte,rA,p60]) ?_;refine bE ?_;simp only[↓sU,sD,rE,↓reduceIte,rA];refine aO ?_;simp only[↓sU,sD,rE,↓reduceIte,rA];exact⟨bY,false,rfl,fun _=>aG7 hlt (hLt.1 rfl),fun h=>by cases h⟩
  | false=>
  have hL:aAS g m i:=Classical.byContradiction fun h=>by have:=hLt.2 h;cases this
  refine aK (by simp only[↓sU,sD,rE,↓reduceIte,rA,p60]) (aI ?_);try simp only[↓sU,sD,rE,↓reduceIte,rA]
  clear p60 hLt;have hDY:Dyn L S0 Y I F A:=hD.same C lX sXY;have hgxY:=(hY.2 _ lx1).trans hgx;have hgyY:=(hY.2 _ ly1).trans hgy;have lxY:X.nx+16<Y.nx:=Ae lx1 hY.1;have lyY:X.nx+17<Y.nx:=Ae ly1 hY.1;have nWx:∀ {b},X.nx≤b→¬L.W g.infos.length b:=fun {b} hb hw=>by have:=(C.w0 b hw).2;omega
  clear hgx hgy hX1 hX1n hldx hldy;refine bE ?_;simp only[↓sU,sD,rE,↓reduceIte,rA,p10,aH,aG,dK hgxY];refine aA (aS (Q:=fun o A' Z=>(o= .normal∧A'.inr=false∧iE (L.W g.infos.length) X Z∧iE (L.W g.infos.length) Y Z∧(∃I' F',Dyn L S0 Z I' F' A∧fV g m (i+1) (i+1) I' F' A)∧WkT L A'.F (X.nx+16) (X.nx+17) (eB m i)∧aD 12 A'.F= .bool (decide ((nodeAt g i).kind=2)))∨(o= .ret∧WkF L X g m A' Z)) (aA (aS (Q:=fun o A' Z=>o= .normal∧A'.inr=false∧iE (L.W g.infos.length) X Z∧iE (L.W g.infos.length) Y Z∧WkT L A'.F (X.nx+16) (X.nx+17) (eB m i)∧aD 12 A'.F= .bool (decide ((nodeAt g i).kind=2))∧∃t,aD 86 A'.F= .bool t∧(t=true→¬fT g m)∧(t=false→∃I' F',Dyn L S0 Z I' F' A∧fV g m (i+1) (i+1) I' F' A)) (aF ?_) ?_)) ?_)
  ·by_cases hk:(nodeAt g i).kind=2;rotate_left
   ·simp only[↓sU,sD,rE,↓reduceIte,rA,Aa hk,WkT,p1,p2,p3,p4,p5,p6,p10,p11];exact⟨bY,iE.refl _ _,false,rfl,fun h=>(by cases h),fun _=>⟨I,F,hDY,hS.node hL hk⟩⟩
   obtain⟨a1,a2,a3⟩:=G.inf i hlt hk;obtain⟨c1,c2⟩:=mX G M hlt hL hk;have hsI:(nodeAt g i).info.toNat<I.length:=by rw[hS.s.li];omega
   have hsF:(nodeAt g (eB m i)).info.toNat<F.length:=by rw[hS.lf];omega
   have rI:oD L.ib I= .sl L.ib 0 g.infos.length g.infos.length false:=by unfold oD;rw[hS.s.li]
   have rF:oD L.rb F= .sl L.rb 0 g.infos.length g.infos.length false:=by unfold oD;rw[hS.lf]
   have lo0:=ldc (j:=0) (C.o bY) rfl;have lf0:=fN (p:=0) (C.f bY) rfl;simp only[↓sU,sD,rE,↓reduceIte,rA,Ab hk,p3,p10,p11,aH,aG,lo0,cQ hgxY,cQ hgyY];refine aY ?_;simp only[↓sU,sD,rE,↓reduceIte,rA];have hag:=wE (v:=(nodeAt g (eB m i)).info) H hDY.gi a1 hsI;rw[rI] at hag;refine aP hag ?_;rintro _ Y2 ⟨hY2,t,rfl,ht1,ht0⟩;have wib:L.W g.infos.length L.ib:=.inl rfl;have bY2:=bY.trans (hY2.butW wib);cases t with
   | false=>
    simp only[↓sU,sD,rE,↓reduceIte,rA,dH,Bq,WkT,p1,p2,p3,p4,p5,p6,p10,p11,Ab hk];exact⟨bY2,hY2.butW wib,true,rfl,fun _=>hS.s.no_info G hlt hk (ht0 rfl).1 (ht0 rfl).2,fun h=>by cases h⟩
   | true=>
   obtain⟨gi2,hI⟩:=ht1 rfl;have xgY2:Y2.h.get (X.nx+16)=_:=(hY2.2 _ lxY (fun e=>nWx (b:=X.nx+16) (by omega) (by rw[e];exact wib))).trans hgxY;have ygY2:Y2.h.get (X.nx+17)=_:=(hY2.2 _ lyY (fun e=>nWx (b:=X.nx+17) (by omega) (by rw[e];exact wib))).trans hgyY;have lf2:=fN (p:=0) (C.f bY2) rfl;simp only[↓sU,sD,rE,↓reduceIte,rA,dH,Bl,p4,p10,p11,aH,aG,lf2,cQ xgY2,cQ ygY2];refine aY ?_;simp only[↓sU,sD,rE,↓reduceIte,rA];have wrb:L.W g.infos.length L.rb:=.inr (.inl rfl);have lrb:L.rb<Y.nx:=Ae (C.w0 _ wrb).2 bY.1;have lib:L.ib<Y.nx:=Ae (C.w0 _ wib).2 bY.1;have gr2:=(hY2.2 _ lrb (Co C.ir)).trans hDY.gr;have hag2:=wE (v:=(nodeAt g i).info) H gr2 c1 hsF;rw[rF] at hag2;refine aP hag2 ?_;rintro _ Y3 ⟨hY3,t,rfl,ht1,ht0⟩;have bY3:=bY2.trans (hY3.butW wrb);have bYY3:=(hY2.butW wib).trans (hY3.butW wrb);cases t with
   | false=>
    simp only[↓sU,sD,rE,↓reduceIte,rA,dH,Bq,WkT,p1,p2,p3,p4,p5,p6,p10,p11,Ab hk];exact⟨bY3,bYY3,true,rfl,fun _=>hS.no_from G M hlt hL hk (ht0 rfl).1 (ht0 rfl).2,fun h=>by cases h⟩
   | true=>
   obtain⟨gr3,hF⟩:=ht1 rfl;simp only[↓sU,sD,rE,↓reduceIte,rA,dH,Bl,WkT,p1,p2,p3,p4,p5,p6,p10,p11,Ab hk];refine⟨bY3,bYY3,false,rfl,fun h=>(by cases h),fun _=>⟨_,_,⟨?_,gr3,hDY.rw.move bYY3.1 fun j hj=>?_⟩,hS.nodeM G M hlt hL hk hI hF⟩⟩
   ·rw[hY3.2 _ (Ae lib hY2.1) C.ir];exact gi2
   ·have hjn:j<g.infos.length:=by rw[←hS.s.la];exact hj
    have ljb:=(hDY.rw.bl j hj).2.1;rw[hY3.2 _ (Ae ljb hY2.1) (Co (C.is j hjn).2),hY2.2 _ ljb (Co (C.is j hjn).1)]
  ·clear p1 p2 p3 p4 p5 p6 p10 p11;rintro o ⟨F1,inr⟩ Z ⟨rfl,q0,bZ,bYZ,hP,p12,t,p86,ht1,ht0⟩;simp only at q0 hP p12 p86;subst q0;obtain⟨p1,p2,p3,p4,p5,p6,p10,p11⟩:=hP;try simp only[↓sU,sD,rE,↓reduceIte,rA]
   cases t with
   | true=>
    refine aM (by simp only[↓sU,sD,rE,↓reduceIte,rA,p86]) ?_;refine bE ?_;simp only[↓sU,sD,rE,↓reduceIte,rA];refine aO ?_;refine .inr ⟨rfl,bZ,ht1 rfl,?_⟩;simp only[↓sU,sD,rE,↓reduceIte,rA]
   | false=>
    refine aK (by simp only[↓sU,sD,rE,↓reduceIte,rA,p86]) (aI ?_);exact .inl ⟨rfl,rfl,bZ,bYZ,ht0 rfl,⟨p1,p2,p3,p4,p5,p6,p10,p11⟩,p12⟩
  clear p1 p2 p3 p4 p5 p6 p10 p11;rintro o ⟨F1,inr⟩ Z (⟨rfl,q0,bZ,bYZ,⟨I',F',hDZ,hSZ⟩,hP,p12⟩ | ⟨rfl,hf⟩);rotate_left
  ·obtain⟨h1,h2,h3⟩:=hf;simp only[↓sU,sD,rE,↓reduceIte,rA,h3];exact⟨h1,false,rfl,fun _=>h2,fun h=>by cases h⟩
  simp only at q0 hP p12;subst q0;obtain⟨p1,p2,p3,p4,p5,p6,p10,p11⟩:=hP;have exZ:=(bYZ.2 _ lxY (nWx (by omega))).trans hgxY;have eyZ:=(bYZ.2 _ lyY (nWx (by omega))).trans hgyY;have lxZ:X.nx+16<Z.nx:=Ae lxY bYZ.1;have lyZ:X.nx+17<Z.nx:=Ae lyY bYZ.1;clear hgxY hgyY lxY lyY hDY;have sZ:=C.same bZ;have hxaZ:=hxa.same sZ;try simp only[↓sU,sD,rE,↓reduceIte,rA]
  refine eG ?_;simp only[↓sU,sD,rE,↓reduceIte,rA,p10,aH,aG,cP exZ,hxaZ.len,Ag];refine aS (Q:=fun o A' V=>(o= .normal∧aNS L S0 X g m i (i+(L'.length+1)) (X.nx+16) (X.nx+17) xa (Z.h.get (X.nx+16)) (Z.h.get (X.nx+17)) (fun r=>eE g.nodes.length (dB g) f r i (d+1)) 0 A' V)∨(o= .ret∧WkF L X g m A' V)) (aJ (bB (aNS L S0 X g m i (i+(L'.length+1)) (X.nx+16) (X.nx+17) xa (Z.h.get (X.nx+16)) (Z.h.get (X.nx+17)) (fun r=>eE g.nodes.length (dB g) f r i (d+1))) ?_ (nodeAt g i).next.length _ _ ⟨rfl,bZ,lxZ,lyZ,0,i+1,L',I',F',A,by omega,by rw[Dj];exact hkids,by omega,hDZ,hSZ,(by simp only[↓sU,sD,rE,↓reduceIte,rA,WkT,p1,p2,p3,p4,p5,p6,p10,p11]),rfl,rfl,(by simp only[↓sU,sD,rE,↓reduceIte,rA,p12]),(by simp only[↓sU,sD,rE,↓reduceIte,rA]),(by simp only[↓sU,sD,rE,↓reduceIte,rA]),(by simp only[↓sU,sD,rE,↓reduceIte,rA])⟩)) ?_
  ·clear p1 p2 p3 p4 p5 p6 p10 p11 p12 hDZ hSZ hkids;rintro k ⟨F2,inr⟩ V ⟨q0,bV,lxV,lyV,j,r,Tr,I2,F3,As,hjk,hkd,hre,hDV,hSV,hP,exV,eyV,p12,p88,p89,p90⟩;simp only at q0 hP p12 p88 p89 p90;subst q0;rw[exZ] at exV;rw[eyZ] at eyV;obtain⟨p1,p2,p3,p4,p5,p6,p10,p11⟩:=hP;have sV:=C.same bV;refine bE ?_;simp only[↓sU,sD,rE,↓reduceIte,rA,p89,p90];by_cases hj:j<(nodeAt g i).next.length;rotate_left
   ·refine aA (aK (by simp only[↓sU,sD,rE,↓reduceIte,rA,Aa (show ¬ (j:Int)<(((nodeAt g i).next.length:Nat):Int) by omega)]) (aU ?_));simp only[↓sU,sD,rE,↓reduceIte,rA];have hk0:k=0:=by omega
    subst hk0;exact .inl ⟨rfl,bV,lxV,lyV,j,r,Tr,I2,F3,As,hjk,hkd,hre,hDV,hSV,(by simp only[↓sU,sD,rE,↓reduceIte,rA,WkT,p1,p2,p3,p4,p5,p6,p10,p11]),by rw[exV,exZ],by rw[eyV,eyZ],(by simp only[↓sU,sD,rE,↓reduceIte,rA,p12]),(by simp only[↓sU,sD,rE,↓reduceIte,rA,p88]),(by simp only[↓sU,sD,rE,↓reduceIte,rA,p89]),(by simp only[↓sU,sD,rE,↓reduceIte,rA,p90])⟩
   refine aA (aM (by simp only[↓sU,sD,rE,↓reduceIte,rA,Ab (show(j:Int)<(((nodeAt g i).next.length:Nat):Int) by omega)]) (aI ?_));try simp only[↓sU,sD,rE,↓reduceIte,rA]
   have hxaV:=hxa.same sV;have hmV:=hm.same sV;have hpvV:=hpv.same sV;have hxwV:=hxw.same sV;have hywV:=hyw.same sV;have hBV:=hB.same sV;have hiac:=hxaV.iaddr hj;have hlac:=hxaV.ld hj;have hdr:(nodeAt g i).next.drop j=(nodeAt g i).next[j]::(nodeAt g i).next.drop (j+1):=Br hj;have hgd:(nodeAt g i).next.getD j 0=(nodeAt g i).next[j]:=by rw[Ad,Ac hj];rfl
   rw[hdr,←hgd] at hkd;obtain⟨hr1,hr2⟩:=G.kids i hlt j hj;simp only[fW] at hkd;split at hkd;rotate_left
   ·cases hkd
   rename_i hc;obtain⟨L1,hw1,hkd⟩:=Cw.1 hkd;obtain⟨L2,hw2,rfl⟩:=Ap.1 hkd;rw[Ak] at hre;have hrN:r<g.nodes.length:=by omega
   rw[hc] at hlac;obtain⟨hve,hvN⟩:=M.at hrN;have hkp:=aJN hW hTl M (i:=i) (k:=j) hlt (by rw[hc,Bf];exact hrN);rw[hc,Bf] at hkp;have lm0:=fN (p:=0) (C.m bV) rfl;have hiam:=hmV.iaddr (show r<m.length by rw[M.len];exact hrN);have hlam:=hmV.ld (show r<m.length by rw[M.len];exact hrN);rw[hve] at hlam;have ls0:=fN (p:=0) (C.s bV) rfl;have hvp:eB m r<(T.map (·.1)).length:=by rw[Bc,hTl];exact hvN
   have hiap:=hpvV.iaddr hvp;have hlap:=hpvV.ld hvp;have hWV:=hBV.w.1;have w1:IntKind.i64.wrap ((j:Int)+1)=((j+1:Nat):Int):=by have:=G.nxt i hlt;rw[wrap_i64 (by omega) (by omega)];omega
   refine aA (aJ (aA (aF ?_)));simp only[↓sU,sD,rE,↓reduceIte,rA,p88,p90,aE,hiac,hlac];refine bE ?_;simp only[↓sU,sD,rE,↓reduceIte,rA,p5,lm0,aE,hiam,hlam];refine eG ?_;simp only[↓sU,sD,rE,↓reduceIte,rA,p1,p2,ls0,bF,bG,aH,aG,cP hWV,aE,hiap,hlap];by_cases hpar:(T.map (·.1)).getD (eB m r) 0=((eB m i:Nat):Int);rotate_left
   ·refine aM (by simp only[↓sU,sD,rE,↓reduceIte,rA,Ab (show(T.map (·.1)).getD (eB m r) 0≠((eB m i:Nat):Int) from hpar)]) ?_;refine bE ?_;simp only[↓sU,sD,rE,↓reduceIte,rA];refine aO ?_;refine .inr ⟨rfl,bV,aKy hlt hj (hkp.2 hpar),?_⟩;simp only[↓sU,sD,rE,↓reduceIte,rA]
   refine aK (by simp only[↓sU,sD,rE,↓reduceIte,rA,Aa (show ¬ (T.map (·.1)).getD (eB m r) 0≠((eB m i:Nat):Int) from fun h=>h hpar)]) (aI ?_);try simp only[↓sU,sD,rE,↓reduceIte,rA]
   obtain⟨hz0,hzp⟩:=hkp.1 hpar;clear hkp hpar hiap hlap hvp hiac hlac hiam hlam;refine aA (aS (Q:=fun o A' W=>(o= .normal∧A'.inr=false∧W=⟨V.h,V.nx+22⟩∧KdT L A'.F (X.nx+16) (X.nx+17) (eB m i) j r (eB m r) (nodeAt g i).next.length xa (decide ((nodeAt g i).kind=2))∧yJ g m i j)∨(o= .ret∧WkF L X g m A' W)) (aA (gJ ?_)) ?_)
   ·by_cases k1:(nodeAt g i).kind=1
    ·have k2:(nodeAt g (eB m i)).kind=1:=by rw[←hL.1];exact k1
     have hzl:=aG8 hz0;have hnz:=mE (k:=.i64) hz0;have l1:j<(nodeAt g i).weights.length:=by rw[G.wts i hlt k1];exact hj
     have l2:(iM g m i j).toNat<(nodeAt g (eB m i)).weights.length:=by rw[G.wts _ htoN k2];exact hzl
     have i1:=hxwV.iaddr l1;have i2:=hxwV.ld l1;have i3:=hywV.iaddr l2;have i4:=hywV.ld l2;have i5:=dI (b:=plb) (o:=false) hvN;have i6:=vE hBV.gp (show eB m r<(jM g).length by rw[hBV.lp];exact hvN);rw[←hzp] at i6;have sxw:=bN.self hxw;have syw:=bN.self hyw;by_cases c2:(nodeAt g i).weights.getD j 0=(nodeAt g (eB m i)).weights.getD (iM g m i j).toNat 0
     ·simp only[↓sU,sD,rE,↓reduceIte,rA,p2,p10,p11,bF,bO,bG,aH,aX,aG,dK exV,cU exV,cU eyV,cU hWV,ls0,Ab k1,sxw,syw,aE,hnz,i1,i2,i3,i4,i5,i6,Aa (show ¬ (nodeAt g i).weights.getD j 0≠(nodeAt g (eB m i)).weights.getD (iM g m i j).toNat 0 from fun h=>h c2)];refine aK (by simp only[↓sU,sD,rE,↓reduceIte,rA]) (aI ?_);refine .inl ⟨rfl,rfl,rfl,?_,fun _=>c2⟩;simp only[↓sU,sD,rE,↓reduceIte,rA,KdT,WkT,p1,p2,p3,p4,p5,p6,p10,p11,p12,p88,p89,p90,and_self]
     ·simp only[↓sU,sD,rE,↓reduceIte,rA,p2,p10,p11,bF,bO,bG,aH,aX,aG,dK exV,cU exV,cU eyV,cU hWV,ls0,Ab k1,sxw,syw,aE,hnz,i1,i2,i3,i4,i5,i6,Ab (show(nodeAt g i).weights.getD j 0≠(nodeAt g (eB m i)).weights.getD (iM g m i j).toNat 0 from c2)];refine aM (by simp only[↓sU,sD,rE,↓reduceIte,rA]) ?_;refine bE ?_;simp only[↓sU,sD,rE,↓reduceIte,rA];refine aO ?_;refine .inr ⟨rfl,bV.trans (Same.butW (Same.nx _ _)),aEy hlt hj (fun h=>c2 (h k1)),?_⟩;simp only[↓sU,sD,rE,↓reduceIte,rA]
    ·simp only[↓sU,sD,rE,↓reduceIte,rA,p10,aH,aX,aG,dK exV,Aa k1];refine aK (by simp only[↓sU,sD,rE,↓reduceIte,rA]) (aI ?_);refine .inl ⟨rfl,rfl,rfl,?_,fun h=>absurd h k1⟩;simp only[↓sU,sD,rE,↓reduceIte,rA,KdT,WkT,p1,p2,p3,p4,p5,p6,p10,p11,p12,p88,p89,p90,and_self]
   clear p1 p2 p3 p4 p5 p6 p10 p11 p12 p88 p89 p90;rintro o ⟨F2,inr⟩ W (⟨rfl,q0,rfl,hP,hwe⟩ | ⟨rfl,hf⟩);rotate_left
   ·simp only[↓sU,sD,rE,↓reduceIte,rA];exact .inr hf
   simp only at q0 hP;subst q0;obtain⟨⟨p1,p2,p3,p4,p5,p6,p10,p11⟩,p12,p13,p14,p15,p88,p89,p90⟩:=hP;have sW:=Same.nx V 22;have bW:=bV.trans (Same.butW sW);have hDW:Dyn L S0 ⟨V.h,V.nx+22⟩ I2 F3 As:=hDV.same C bV.1 sW;try simp only[↓sU,sD,rE,↓reduceIte,rA]
   refine aA (aS (Q:=fun o A' U=>(o= .normal∧A'.inr=false∧iE (L.W g.infos.length) X U∧iE (L.W g.infos.length) V U∧KdT L A'.F (X.nx+16) (X.nx+17) (eB m i) j r (eB m r) (nodeAt g i).next.length xa (decide ((nodeAt g i).kind=2))∧∃As',Dyn L S0 U I2 F3 As'∧fV g m r (r+1) I2 F3 As')∨(o= .ret∧WkF L X g m A' U)) (aA (aS (Q:=fun o A' U=>o= .normal∧A'.inr=false∧iE (L.W g.infos.length) X U∧iE (L.W g.infos.length) V U∧KdT L A'.F (X.nx+16) (X.nx+17) (eB m i) j r (eB m r) (nodeAt g i).next.length xa (decide ((nodeAt g i).kind=2))∧∃t,aD 148 A'.F= .bool t∧(t=true→¬fT g m)∧(t=false→∃As',Dyn L S0 U I2 F3 As'∧fV g m r (r+1) I2 F3 As')) ?_ ?_)) ?_)
   ·by_cases hk:(nodeAt g i).kind=2;rotate_left
    ·refine qS (fun _=>False) ?_;simp only[↓sU,sD,rE,↓reduceIte,rA,p12,Aa hk];refine⟨bW.trans (Same.butW (Same.nx _ _)),(Same.butW sW).trans (Same.butW (Same.nx _ _)),?_,false,rfl,fun h=>(by cases h),fun _=>⟨As,?_,hSV.kid G hlt hj hc hz0 hwe hk⟩⟩
     ·simp only[↓sU,sD,rE,↓reduceIte,rA,KdT,WkT,p1,p2,p3,p4,p5,p6,p10,p11,p12,p13,p14,p15,p88,p89,p90,Aa hk,and_self]
     ·exact hDW.same C bW.1 (Same.nx _ _)
    obtain⟨a1,a2,a3⟩:=G.inf i hlt hk;have hni:=mE (k:=.i64) a1;have hs:(nodeAt g i).info.toNat<g.infos.length:=by omega
    have hsA:(nodeAt g i).info.toNat<As.length:=by rw[hSV.s.la];exact hs
    have hls:=hSV.s.ls _ hs;rw[show(((nodeAt g i).info.toNat:Nat):Int)=(nodeAt g i).info by omega,a3] at hls;have hkA:j<(As.getD (nodeAt g i).info.toNat []).length:=by omega
    have lo1:=ldc (j:=1) (C.o bV) rfl;have hia:=dI (b:=L.ab) (o:=false) hs;have hld:=fN (C.a bV) (hDV.rw.cl _ hsA);have srow:cB (oD (L.bs (nodeAt g i).info.toNat) (As.getD (nodeAt g i).info.toNat [])) (oD (L.bs (nodeAt g i).info.toNat) (As.getD (nodeAt g i).info.toNat []))=true:=mM ..;have i5:=dI (b:=plb) (o:=false) hvN;have i6:=vE hBV.gp (show eB m r<(jM g).length by rw[hBV.lp];exact hvN);rw[←hzp] at i6;refine aLn (pre:=agC) (K:=16) rfl rfl rfl rfl (by decide) rfl rfl ?_;unfold agC;simp only[↓sU,sD,rE,↓reduceIte,rA,p2,p3,p10,p12,p13,p15,Ab hk,bF,bO,bG,aH,aX,aG,lo1,cQ exV,hni,hia,hld,srow,ls0,cU hWV,aE,i5,i6];have hag:=wE (S:=⟨V.h,V.nx+22+19⟩) (v:=iM g m i j) (x:=(j:Int)) H (hDV.rw.bl _ hsA).2.2 (by omega) (by rw[Bf];exact hkA);rw[Bf] at hag;refine aP hag ?_;rintro _ U ⟨hU,t,rfl,ht1,ht0⟩;have wbs:L.W g.infos.length (L.bs (nodeAt g i).info.toNat):=.inr (.inr ⟨_,hs,rfl⟩);have bVU:iE (L.W g.infos.length) V U:=(Same.butW (Same.nx V (22+19))).trans (hU.butW wbs);have bU:=bV.trans bVU;refine⟨.bool (!t),.bool (!t),?_,?_,bU,bVU,?_, !t,?_,?_,?_⟩
    ·simp only[↓sU,sD,rE,↓reduceIte,rA,dH]
    ·simp only[↓sU,sD,rE,↓reduceIte,rA]
    ·simp only[↓sU,sD,rE,↓reduceIte,rA,KdT,WkT,p1,p2,p3,p4,p5,p6,p10,p11,p12,p13,p14,p15,p88,p89,p90,Ab hk,and_self]
    ·simp only[↓sU,sD,rE,↓reduceIte,rA]
    ·intro h;cases t with
     | true=>cases h
     | false=>exact hSV.no_act G hlt hk hj (ht0 rfl).1 (ht0 rfl).2
    ·intro h;cases t with
     | false=>cases h
     | true=>
     obtain⟨gU,hA⟩:=ht1 rfl;have lrow:=hDV.rw.bl _ hsA;have wib:L.W g.infos.length L.ib:=.inl rfl;have wrb:L.W g.infos.length L.rb:=.inr (.inl rfl);have lrb:L.rb<V.nx:=Ae (C.w0 _ wrb).2 bV.1;have lib:L.ib<V.nx:=Ae (C.w0 _ wib).2 bV.1;have hU2:∀c,c<V.nx→c≠L.bs (nodeAt g i).info.toNat→U.h.get c=V.h.get c:=fun c hc hne=>hU.2 c (by show c<V.nx+22+19;omega) hne;refine⟨_,⟨(hU2 _ lib (C.is _ hs).1).trans hDV.gi,(hU2 _ lrb (C.is _ hs).2).trans hDV.gr,?_⟩,hSV.kidM G hlt hj hc hz0 hwe hk hA⟩;refine(hDV.rw.put hsA (Ah _)).move (show V.nx≤U.nx from bVU.1) fun q hq=>?_;rw[Al] at hq;simp only;rw[Ev.T.get_set];split
     ·rename_i e;rw[e];exact gU
     ·rename_i e;exact hU2 _ (hDV.rw.bl q hq).2.1 e
   ·clear p1 p2 p3 p4 p5 p6 p10 p11 p12 p13 p14 p15 p88 p89 p90;rintro o ⟨F2,inr⟩ U ⟨rfl,q0,bU,bVU,hP,t,p148,ht1,ht0⟩;simp only at q0 hP p148;subst q0;obtain⟨⟨p1,p2,p3,p4,p5,p6,p10,p11⟩,p12,p13,p14,p15,p88,p89,p90⟩:=hP;try simp only[↓sU,sD,rE,↓reduceIte,rA]
    cases t with
    | true=>
     refine aM (by simp only[↓sU,sD,rE,↓reduceIte,rA,p148]) ?_;refine bE ?_;simp only[↓sU,sD,rE,↓reduceIte,rA];refine aO ?_;refine .inr ⟨rfl,bU,ht1 rfl,?_⟩;simp only[↓sU,sD,rE,↓reduceIte,rA]
    | false=>
     refine aK (by simp only[↓sU,sD,rE,↓reduceIte,rA,p148]) (aI ?_);exact .inl ⟨rfl,rfl,bU,bVU,⟨⟨p1,p2,p3,p4,p5,p6,p10,p11⟩,p12,p13,p14,p15,p88,p89,p90⟩,ht0 rfl⟩
   clear p1 p2 p3 p4 p5 p6 p10 p11 p12 p13 p14 p15 p88 p89 p90;rintro o ⟨F2,inr⟩ U (⟨rfl,q0,bU,bVU,hP,As',hDU,hSU⟩ | ⟨rfl,hf⟩);rotate_left
   ·simp only[↓sU,sD,rE,↓reduceIte,rA];exact .inr hf
   simp only at q0 hP;subst q0;obtain⟨⟨p1,p2,p3,p4,p5,p6,p10,p11⟩,p12,p13,p14,p15,p88,p89,p90⟩:=hP;have exU:=(bVU.2 _ lxV (nWx (by omega))).trans exV;have eyU:=(bVU.2 _ lyV (nWx (by omega))).trans eyV;have lxU:X.nx+16<U.nx:=Ae lxV bVU.1;have lyU:X.nx+17<U.nx:=Ae lyV bVU.1;have lk0:=fN (p:=0) (C.k bU) rfl;try simp only[↓sU,sD,rE,↓reduceIte,rA]
   refine aS (Q:=fun o A' R=>(o= .normal∧A'.inr=false∧iE (L.W g.infos.length) X R∧iE (L.W g.infos.length) U R∧KdT L A'.F (X.nx+16) (X.nx+17) (eB m i) j r (eB m r) (nodeAt g i).next.length xa (decide ((nodeAt g i).kind=2))∧∃I'' F'' A'',Dyn L S0 R I'' F'' A''∧fV g m (r+L1.length) (r+L1.length) I'' F'' A'')∨(o= .ret∧WkF L X g m A' R)) (aA (aF ?_)) ?_
   ·simp only[↓sU,sD,rE,↓reduceIte,rA,p6,p14,p15,lk0];refine aY ?_;simp only[↓sU,sD,rE,↓reduceIte,rA];refine aP (ih hw1 (C.move bU) hDU hSU) ?_;rintro _ R ⟨bUR,t,rfl,ht0,ht1⟩;simp only[↓sU,sD,rE,↓reduceIte,rA,dH];cases t with
    | false=>
     refine aM (by simp only[↓sU,sD,rE,↓reduceIte,rA,Bq]) ?_;refine bE ?_;simp only[↓sU,sD,rE,↓reduceIte,rA];refine aO ?_;refine .inr ⟨rfl,bU.trans bUR,ht0 rfl,?_⟩;simp only[↓sU,sD,rE,↓reduceIte,rA]
    | true=>
     refine aK (by simp only[↓sU,sD,rE,↓reduceIte,rA,Bl]) (aI ?_);refine .inl ⟨rfl,rfl,bU.trans bUR,bUR,?_,ht1 rfl⟩;simp only[↓sU,sD,rE,↓reduceIte,rA,KdT,WkT,p1,p2,p3,p4,p5,p6,p10,p11,p12,p13,p14,p15,p88,p89,p90,and_self]
   clear p1 p2 p3 p4 p5 p6 p10 p11 p12 p13 p14 p15 p88 p89 p90;rintro o ⟨F2,inr⟩ R (⟨rfl,q0,bR,bUR,hP,I4,F4,A4,hDR,hSR⟩ | ⟨rfl,hf⟩);rotate_left
   ·simp only[↓sU,sD,rE,↓reduceIte,rA];exact .inr hf
   simp only at q0 hP;subst q0;obtain⟨⟨p1,p2,p3,p4,p5,p6,p10,p11⟩,p12,p13,p14,p15,p88,p89,p90⟩:=hP;try simp only[↓sU,sD,rE,↓reduceIte,rA]
   refine aF ?_;simp only[↓sU,sD,rE,↓reduceIte,rA,p90,w1];refine⟨k - 1,by omega,rfl,bR,Ae lxU bUR.1,Ae lyU bUR.1,j+1,r+L1.length,L2,I4,F4,A4,by omega,hw2,by omega,hDR,hSR,?_,?_,?_,?_,?_,?_,?_⟩
   ·simp only[↓sU,sD,rE,↓reduceIte,rA,WkT,p1,p2,p3,p4,p5,p6,p10,p11,and_self]
   ·rw[bUR.2 _ lxU (nWx (by omega)),exU,exZ]
   ·rw[bUR.2 _ lyU (nWx (by omega)),eyU,eyZ]
   ·simp only[↓sU,sD,rE,↓reduceIte,rA,p12]
   ·simp only[↓sU,sD,rE,↓reduceIte,rA,p88]
   ·simp only[↓sU,sD,rE,↓reduceIte,rA,p89]
   ·simp only[↓sU,sD,rE,↓reduceIte,rA]
  clear p1 p2 p3 p4 p5 p6 p10 p11 p12;rintro o ⟨F2,inr⟩ V (⟨rfl,q0,bV,lxV,lyV,j,r,Tr,I2,F3,As,hjk,hkd,hre,hDV,hSV,hP,exV,eyV,p12,p88,p89,p90⟩ | ⟨rfl,hf⟩);rotate_left
  ·obtain⟨h1,h2,h3⟩:=hf;simp only[↓sU,sD,rE,↓reduceIte,rA,h3];exact⟨h1,false,rfl,fun _=>h2,fun h=>by cases h⟩
  simp only at q0;subst q0;rw[Cc (by omega)] at hkd;simp only[fW,Aj] at hkd;subst hkd;rw[Bu,Bj] at hre;subst hre;try simp only[↓sU,sD,rE,↓reduceIte,rA]
  refine bE ?_;simp only[↓sU,sD,rE,↓reduceIte,rA];refine aO ?_;simp only[↓sU,sD,rE,↓reduceIte,rA];exact⟨bV,true,rfl,fun h=>(by cases h),fun _=>⟨I2,F3,As,hDV,hSV⟩⟩
theorem aH1{F:Fr}{h:Ev.T AB}{s t:Nat}{x y:AV}(h1:aD s F=x)(h2:aD t F=y)(hx:x.cells=some [x])(hy:y.cells=some [y]):gS (.build [.nilsl,.nilsl] [(0,1,.t s),(1,1,.t t)]) F h=some (.agg [x,y]):=by
 show(aZ (gH _ (fF F [(0,1,.t s),(1,1,.t t)])) fun cs=>some (AV.agg cs))=_;simp only[fF,show(cJ.t s).val F=x from h1,show(cJ.t t).val F=y from h2,gH,hx,hy,aT];rfl
theorem aIk{F:Fr}{h:Ev.T AB}:gS (.build [.nilsl,.nilsl] []) F h=some (.agg [.nilsl,.nilsl]):=rfl
theorem aMI{W:Nat→Prop}{h0:Ev.T AB}{base:Nat}{F:Fr}{S:St}{Q:Fr→St→List iV→Prop}{i a b n m1 j1 j2 l:Nat}{za zb cy:List AV}{t2 u2:cJ}(ht1:Nat.testBit m1 j1=true)(ht2:Nat.testBit m1 j2=true)(hm2:kV (some l) m1=true)
  (h2:t2.val F= .ptr b 0) (hu2:(u2.val F).cells=some cy) (lz:zb.length=n) (ly:cy.length=n) (hab:a≠b) (hba:base≤a) (hbb:base≤b)
  (hr:∀S',S'.nx=S.nx→S'.h.get a=some (.cells za false 0)→S'.h.get b=some (.cells cy false 0)→(∀c,c≠a→c≠b→S'.h.get c=S.h.get c)→Q F S' []):
  fQ fns W h0 base [⟨none,.x (.st n t2 u2),none,m1⟩] i F S [⟨j2,b,.cells zb false 0⟩,⟨j1,a,.cells za false 0⟩] (some l) Q:=by
 have hf:cH m1 [⟨j2,b,.cells zb false 0⟩,⟨j1,a,.cells za false 0⟩] S.h=([],(S.h.set b (some (.cells zb false 0))).set a (some (.cells za false 0))):=by rw[fH ht2,fH ht1,cK]
 have hg2:((S.h.set b (some (.cells zb false 0))).set a (some (.cells za false 0))).get b=some (.cells zb false 0):=by rw[T.get_set,if_neg (Co hab),T.get_set,if_pos rfl]
 have x2:=aA2 (S:=⟨(S.h.set b (some (.cells zb false 0))).set a (some (.cells za false 0)),S.nx⟩) (cs':=cy) (n:=n) hg2 lz ly;refine xK (S1:=⟨((S.h.set b (some (.cells zb false 0))).set a (some (.cells za false 0))).set b (some (.cells cy false 0)),S.nx⟩) hm2 ?_ ?_ ?_
 ·rw[hf,h2,hu2,aT];exact x2
 ·rw[hf];exact⟨Ah _,fun c hc _=>by simp only;rw[T.get_set,if_neg (by omega),T.get_set,if_neg (by omega),T.get_set,if_neg (by omega)]⟩
 rw[hf];refine hr _ rfl ?_ ?_ fun c hc1 hc2=>?_
 ·simp only;rw[T.get_set,if_neg hab,T.get_set,if_pos rfl]
 ·simp only;rw[T.get_set,if_pos rfl]
 ·simp only;rw[T.get_set,if_neg hc2,T.get_set,if_neg hc1,T.get_set,if_neg hc2]
def aOd(X3:St)(sb mb tb ob fb ab ib rb:Nat)(iv:AV)(g:aW)(k:Nat)(A:bH)(X:St):Prop:=A.inr=false∧bQ ab X3 X∧∃i bs cs,i+k=g.infos.length∧cs.length=g.infos.length∧X.h.get ab=some (.cells cs false 0)∧vM X3 X bs cs ((yN g).take i)∧aD 2 A.F= .ptr sb 0∧aD 3 A.F= .ptr mb 0∧aD 4 A.F= .ptr tb 0∧aD 6 A.F= .ptr ob 0∧aD 7 A.F= .ptr fb 0∧aD 37 A.F=iv∧aD 38 A.F= .int .i64 ((g.infos.length:Nat):Int)∧aD 39 A.F= .int .i64 (i:Int)
def vF(g:aW)(m:List Int)(S S':St)(x y:AV):Prop:=gF S S' x (imgI g m)∧∃ab bs cs,y= .sl ab 0 (imgA g m).length (imgA g m).length false∧S.nx≤ab∧ab<S'.nx∧S'.h.get ab=some (.cells cs false 0)∧vM S S' bs cs (imgA g m)
theorem aBf{S:St}{wb plb szb:Nat}{nv iv pv mv:AV}{g:aW}{m:List Int}{T:List cC}{Z:List Int}(H:Has fns)(hn:aN 6 bT S nv g.nodes)(hi:aN 2 cV S iv g.infos)(hm:bN .i64 S mv m)(G:fC g)(M:xI g m)(hT:eK g=some T)(hTl:T.length=g.nodes.length)(hpv:bN .i64 S pv (T.map (·.1)))(hB:gD S wb plb szb pv nv iv g (jM g) Z):
  fA fns (.fn 25 [] []) [.ptr wb 0,mv] S fun r S'=>Same S S'∧∃x y t,r= .tup [.agg [x,y],.bool t]∧(t=true↔fT g m)∧(t=true→vF g m S S' x y):=by
 have hml:0<m.length:=by rw[M.len];exact G.n1
 have hN:=G.n2;have hNI:=G.ni;have hWF:WF (dB g) 0 (-1) T:=by unfold eK at hT;exact iC hT
 refine bP H.f25 (by simp) ?_;simp only[↓sU,sD,rE,↓reduceIte,rA];refine bE ?_;refine dG (cs:=[.ptr wb 0]) rfl ?_;intro S1 s1 n1 g1;refine dG (cs:=[mv]) ?_ ?_
 ·exact bN.cells hm
 intro S2 s2 n2 g2;refine dO ?_;intro S3 s3 n3 g3;simp only[↓sU,sD,rE,↓reduceIte,rA];have s13:=s2.trans s3;have sS3:=s1.trans s13;have gsb:S3.h.get S.nx=some (.cells [.ptr wb 0] false 0):=by rw[s13.2 _ (by omega)];exact g1
 have gmb:S3.h.get S1.nx=some (.cells [mv] false 0):=by rw[s3.2 _ (by omega)];exact g2
 have gtb:S3.h.get S2.nx=some (.cells [.nilsl,.nilsl] false 0):=g3;have e1:S1.nx=S.nx+1:=n1;have e2:S2.nx=S.nx+2:=by omega
 have e3:S3.nx=S.nx+3:=by omega
 rw[e1] at gmb;rw[e2] at gtb;simp only[e1,e2];clear g1 g2 g3 s1 s2 s3 s13 n1 n2 n3 e1 e2 S1 S2;have hB3:=hB.same sS3;have hW3:=hB3.w.1;have lw3:=hB3.w.2;have ls0:=fN (p:=0) gsb rfl;have lsb:S.nx<S3.nx:=by omega
 have siv:=aN.self hi;refine aA (qA (fun _=>False) ?_);intro X1 x1 hx1 hm1;simp only[↓sU,sD,rE,↓reduceIte,rA,ls0,lsb,Aq,bF,bO,bG,aH,aX,aG,cQ hW3,lw3,siv,hi.len];refine bX rfl ?_;simp only[↓sU,sD,rE,↓reduceIte,rA];refine aP (rV H (n:=g.infos.length) (by omega)) ?_;rintro r X2 ⟨⟨ib,rfl,b1,b2,b3⟩,x2⟩;rw[Ao];refine⟨x2,?_⟩;simp only[↓sU,sD,rE,↓reduceIte,rA,ls0,lsb,Aq,bF,bO,bG,aH,aX,aG,cQ hW3,lw3,siv,hi.len];refine nI (n:=g.infos.length) (by simp only[↓sU,sD,rE,↓reduceIte,rA,aE]) (by simp only[↓sU,sD,rE,↓reduceIte,rA,aE]) (by unfold room;omega) (by unfold room;omega) ?_;simp only[↓sU,sD,rE,↓reduceIte,rA];rw[aH1 (x:=.sl ib 0 g.infos.length g.infos.length false) (y:=.sl (S3.nx+13) 0 g.infos.length g.infos.length false) (by simp only[↓sU,sD,rE,↓reduceIte,rA]) (by simp only[↓sU,sD,rE,↓reduceIte,rA]) rfl rfl];simp only[↓sU,sD,rE,↓reduceIte,rA,mR,uW];refine aMI (n:=2) rfl rfl rfl (by simp only[↓sU,sD,rE,↓reduceIte,rA]) (by simp only[↓sU,sD,rE,↓reduceIte,rA];exact bJ _) rfl rfl (by omega) (by omega) (by omega) ?_;intro X3 hX3n ga0 go0 hX3;rw[cK,repeatL_one] at *;have bX1:X1.nx=S3.nx+17:=hm1;have lX2:=x2.1;have eX3:X3.nx=X2.nx:=hX3n;have sX3:Same S3 X3:=⟨by omega,fun c hc=>by rw[hX3 c (by omega) (by omega),x2.2 _ (by omega),hx1]⟩;have gi0:X3.h.get ib=some (.cells (bC (List.replicate g.infos.length (-1))) false 0):=by rw[hX3 _ (by omega) (by omega)];exact b3
 show mA fns _ _ X3 _;have gsb3:=(sX3.2 _ lsb).trans gsb;have ls3:=fN (p:=0) gsb3 rfl;have hW4:=(hB3.same sX3).w.1;refine bE ?_;simp only[↓aC,aB,rE,↓reduceIte,rA,ls3,bF,bG,aH,aG,cQ hW4,hi.len];refine aY ?_;simp only[↓aC,aB,rE,↓reduceIte,rA];refine aP (rV H (n:=g.infos.length) (by omega)) ?_;rintro r X4 ⟨⟨rb,rfl,d1,d2,d3⟩,x4⟩;rw[Ao];try simp only[↓aC,aB,rE,↓reduceIte,rA]
 refine dO ?_;intro X5 x5 m5 g5;refine fI (b:=X4.nx) (cs':=[.sl rb 0 g.infos.length g.infos.length false]) (by simp only[↓aC,aB,rE,↓reduceIte,rA]) (by simp only[↓aC,aB,rE,↓reduceIte,rA];rfl) g5 rfl rfl ?_;intro X6 x6 m6 g6;simp only[↓aC,aB,rE,↓reduceIte,rA];have lX4:=x4.1;have x36:Same X3 X6:=x4.trans (x6.same x5 (Ah _));have sX6:=sX3.trans x36;have gi6:=(x36.2 _ (by omega)).trans gi0;have ga6:=(x36.2 _ (by omega)).trans ga0;have go6:=(x36.2 _ (by omega)).trans go0;have gr6:X6.h.get rb=some (.cells (bC (List.replicate g.infos.length (-1))) false 0):=by rw[x6.2 _ (by omega) (by omega),x5.2 _ (by omega)];exact d3
 have gsb6:=(sX6.2 _ lsb).trans gsb;have ls6:=fN (p:=0) gsb6 rfl;have hW6:=(hB3.same sX6).w.1;have eX6:X6.nx=X4.nx+1:=by omega
 have hli:=hi.len;refine aA (aS (Q:=fun o A' X=>o= .normal∧aOd X6 S.nx (S.nx+1) (S.nx+2) (S3.nx+15) X4.nx (S3.nx+13) ib rb iv g 0 A' X) (aA (aF ?_)) ?_)
 ·simp only[↓aC,aB,rE,↓reduceIte,rA,ls6,bF,bG,aH,aG,cQ hW6,hli];refine aJ (bB (aOd X6 S.nx (S.nx+1) (S.nx+2) (S3.nx+15) X4.nx (S3.nx+13) ib rb iv g) ?_ g.infos.length _ _ ⟨rfl,bQ.refl _ _,0,fun _=>0,_,by omega,Ao ..,ga6,vM.none,by refine⟨?_,?_,?_,?_,?_,?_,?_,?_⟩<;>simp only[↓aC,aB,rE,↓reduceIte,rA]⟩);rintro k ⟨F,inr⟩ X ⟨q0,hX,i,bs,cs,hik,hcl,hga,hR,p2,p3,p4,p6,p7,p37,p38,p39⟩;simp only at q0 p2 p3 p4 p6 p7 p37 p38 p39;subst q0;refine bE ?_;simp only[↓aC,aB,rE,↓reduceIte,rA,p38,p39];by_cases hlt:i<g.infos.length;rotate_left
  ·refine aA (aK (by simp only[↓aC,aB,rE,↓reduceIte,rA,Aa (show ¬ (i:Int)<((g.infos.length:Nat):Int) by omega)]) (aU ?_));simp only[↓aC,aB,rE,↓reduceIte,rA];have hk0:k=0:=by omega
   subst hk0;exact⟨rfl,hX,i,bs,cs,hik,hcl,hga,hR,by refine⟨?_,?_,?_,?_,?_,?_,?_,?_⟩<;>simp only[↓aC,aB,rE,↓reduceIte,rA,p2,p3,p4,p6,p7,p37,p38,p39]⟩
  refine aA (aM (by simp only[↓aC,aB,rE,↓reduceIte,rA,Ab (show(i:Int)<((g.infos.length:Nat):Int) by omega)]) (aI ?_));try simp only[↓aC,aB,rE,↓reduceIte,rA]
  have sX:Same S X:=hX.same (sS3.trans sX6) (by omega);have lXn:=hX.1;obtain⟨f1,f2,f3⟩:=G.fst i hlt;have hac:=(G.inf _ f1 f2).2.2;rw[f3] at hac;obtain⟨e,b,q,hian,hb,he,heq,hla,_⟩:=aN.at hi (by decide) (Ac hlt);have hia':g.infos[i]=infoAt g (i:Int):=by unfold infoAt;rw[Ad,Bf,Ac hlt];rfl
  unfold cV at heq;subst heq;rw[hia',hac] at hla;rw[←jO sX hb] at hla;have hnl:(nodeAt g (iS g i)).next.length≤1000:=G.nxt _ f1;generalize hna:(nodeAt g (iS g i)).next.length=na at *;have w1:IntKind.i64.wrap ((i:Int)+1)=((i+1:Nat):Int):=by rw[wrap_i64 (by omega) (by omega)];omega
  have goX:=(hX.2 _ (show S3.nx+15<X6.nx by omega) (by omega)).trans go6;refine aA (aJ (aA (aF ?_)));simp only[↓aC,aB,rE,↓reduceIte,rA,p37,p39,aE,hian,hla];refine dO ?_;intro Y1 y1 k1 h1;simp only[↓aC,aB,rE,↓reduceIte,rA];refine fI (b:=X.nx) (by simp only[↓aC,aB,rE,↓reduceIte,rA]) (by simp only[↓aC,aB,rE,↓reduceIte,rA];exact bJ _) h1 rfl rfl ?_;intro Y2 y2 k2 h2;simp only[↓aC,aB,rE,↓reduceIte,rA];have sXY:Same X Y2:=y2.same y1 (Ah _);have eY2:Y2.nx=X.nx+1:=by omega
  have goY:=(sXY.2 _ (by omega)).trans goX;have gaY:=(sXY.2 _ (by omega)).trans hga;have hRY:=hR.same sXY;have hlo1:=ldc (j:=1) goY rfl;have hlx1:=ldc (j:=1) h2 rfl;have nW1:¬ (S3.nx+15=S3.nx+13):=by omega
  have nW2:¬ (X.nx=S3.nx+13):=by omega
  have lW1:S3.nx+15<Y2.nx:=by omega
  have lW2:X.nx<Y2.nx:=by omega
  have hia:=dI (b:=S3.nx+13) (o:=false) hlt;refine qA (fun c=>c=S3.nx+13) ?_;intro U0 u0 hu0 mu0;simp only[↓sU,sD,rE,↓reduceIte,rA,p6,aH,aX,aG,hlo1,hlx1,nW1,nW2,lW1,lW2,Aq];refine bX rfl ?_;simp only[↓sU,sD,rE,↓reduceIte,rA];refine aP (rV H (n:=na) (by omega)) ?_;rintro r U1 ⟨⟨nb,rfl,t1,t2,t3⟩,u1⟩;refine⟨u1,?_⟩;have sYU:Same Y2 U1:=u0.trans u1;have gaU:=(sYU.2 _ (by omega)).trans gaY;simp only[↓sU,sD,rE,↓reduceIte,rA,aE,hia];refine yA (ps':=[]) (h':=U1.h) (b:=S3.nx+13) (p:=i) (cs:=cs) (w:=oD nb (List.replicate na (-1))) (by rw[cK]) rfl (by simp only[↓sU,sD,rE,↓reduceIte,rA]) (by simp only[↓sU,sD,rE,↓reduceIte,rA];rfl) gaU (by omega) rfl ?_;simp only[↓sU,sD,rE,↓reduceIte,rA];have lu0:=u0.1;have lu1:=u1.1;have hA0:((yN g).take i).length=i:=by unfold yN;rw[Ca,Bc];omega
  have hA1:(yN g).take (i+1)=(yN g).take i++ [List.replicate na (-1)]:=by
   rw[Bi];congr 1;unfold yN;rw[Az,Ac hlt,hia'];show [List.replicate (infoAt g (i:Int)).actions.toNat (-1)]=_;rw[hac,Bf]
  refine aF ?_;simp only[↓sU,sD,rE,↓reduceIte,rA,p39,w1];refine⟨k - 1,by omega,rfl,⟨show X6.nx≤U1.nx by omega,fun c hc hne=>?_⟩,i+1,(fun j=>if j=((yN g).take i).length then nb else bs j),cs.set i (oD nb (List.replicate na (-1))),by omega,by rw[Al];exact hcl,by simp only;rw[Ev.T.get_set,if_pos rfl],?_,by refine⟨?_,?_,?_,?_,?_,?_,?_,?_⟩<;>simp only[↓sU,sD,rE,↓reduceIte,rA,p2,p3,p4,p6,p7,p37,p38]⟩
  ·simp only;rw[Ev.T.get_set,if_neg hne,sYU.2 _ (by omega),sXY.2 _ (by omega)];exact hX.2 c hc hne
  ·rw[hA1];refine(hRY.same sYU |>.move (X':=⟨U1.h.set (S3.nx+13) (some (.cells (cs.set i (oD nb (List.replicate na (-1)))) false 0)),U1.nx⟩) (Ah _) fun j hj=>?_).add (nb:=nb) (by omega) (show nb<U1.nx from t2) ?_ (fun j hj=>?_) (fun j hj=>?_) ?_
   ·have:=(hRY.bl j hj).1;simp only;rw[Ev.T.get_set,if_neg (by omega)]
   ·simp only;rw[Ev.T.get_set,if_neg (by omega)];exact t3
   ·have:=(hRY.bl j hj).2.1;omega
   ·rw[Dt,if_neg (by omega)]
   ·rw[hA0,Dt,if_pos rfl,if_pos (by omega)]
 rintro o ⟨F,inr⟩ X7 ⟨rfl,q0,hX7,i,bs,cs,hik,hcl,hga,hR,p2,p3,p4,p6,p7,p37,p38,p39⟩;simp only at q0 p2 p3 p4 p6 p7;subst q0;obtain rfl:i=g.infos.length:=by omega
 have hAl:(yN g).length=g.infos.length:=by unfold yN;rw[Bc]
 rw[Ax (by omega)] at hR;clear p37 p38 p39;try simp only[↓aC,aB,rE,↓reduceIte,rA]
 have lX7:=hX7.1;refine bE ?_;refine dO ?_;intro X8 x8 m8 g8;simp only[↓aC,aB,rE,↓reduceIte,rA];refine bE ?_;simp only[↓aC,aB,rE,↓reduceIte,rA,aFO,p2,p3,p6,p7];obtain⟨L,hL⟩:∃L:Lay,L=⟨S.nx,S3.nx+15,X4.nx,S.nx+1,X7.nx,wb,ib,rb,S3.nx+13,bs,cs⟩:=⟨_,rfl⟩;have hLfn:L.fn= .fn 51 [] [.ptr S.nx 0,.ptr (S3.nx+15) 0,.ptr X4.nx 0,.ptr (S.nx+1) 0,.ptr X7.nx 0]:=by rw[hL];rfl
 refine fI (b:=X7.nx) (cs':=[L.fn]) (by simp only[↓aC,aB,rE,↓reduceIte,rA]) (by rw[hLfn];simp only[↓aC,aB,rE,↓reduceIte,rA];rfl) g8 rfl rfl ?_;intro X9 x9 m9 g9;simp only[↓aC,aB,rE,↓reduceIte,rA];have eX9:X9.nx=X7.nx+1:=by omega
 have s79:Same X7 X9:=x9.same x8 (Ah _);have old:∀c,c<X6.nx→c≠S3.nx+13→X9.h.get c=X6.h.get c:=fun c hc hne=>by rw[s79.2 _ (by omega),hX7.2 c hc hne]
 have sX9:Same S X9:=⟨by omega,fun c hc=>by rw[old c (by omega) (by omega),(sS3.trans sX6).2 _ hc]⟩;have hWb:∀b,L.W g.infos.length b→(X1.nx≤b∧b<X2.nx)∨(X3.nx≤b∧b<X4.nx)∨(X6.nx≤b∧b<X7.nx):=by
  rw[hL];rintro b (rfl | rfl | ⟨j,hj,rfl⟩)
  ·exact .inl ⟨b1,b2⟩
  ·exact .inr (.inl ⟨d1,d2⟩)
  ·obtain⟨h1,h2,_⟩:=hR.bl j (by omega);exact .inr (.inr ⟨h1,h2⟩)
 have C:Laid L S X9 g.infos.length mv:=by
  have nW:∀c,(c<X1.nx∨c=X4.nx∨c=X7.nx)→¬L.W g.infos.length c:=fun c hc hw=>by have:=hWb c hw;omega
  have w0:∀b,L.W g.infos.length b→S.nx≤b∧b<X9.nx:=fun b hw=>by have:=hWb b hw;omega
  subst hL;refine⟨sX9,?_,?_,?_,?_,g9,?_,⟨?_,nW _ (.inl ?_)⟩,⟨?_,nW _ (.inl ?_)⟩,⟨?_,nW _ (.inr (.inl rfl))⟩,⟨?_,nW _ (.inl ?_)⟩,⟨?_,nW _ (.inr (.inr rfl))⟩,⟨?_,nW _ (.inl ?_)⟩,w0,?_,fun j hj=>?_⟩
  ·show X9.h.get S.nx=_;rw[old _ (by omega) (by omega)];exact gsb6
  ·show X9.h.get (S3.nx+15)=_;rw[old _ (by omega) (by omega)];exact go6
  ·show X9.h.get X4.nx=_;rw[old _ (by omega) (by omega)];exact g6
  ·show X9.h.get (S.nx+1)=_;rw[old _ (by omega) (by omega),sX6.2 _ (by omega)];exact gmb
  ·show X9.h.get (S3.nx+13)=_;rw[s79.2 _ (by omega)];exact hga
  ·show S.nx<X9.nx;omega
  ·show S.nx<X1.nx;omega
  ·show S3.nx+15<X9.nx;omega
  ·show S3.nx+15<X1.nx;omega
  ·show X4.nx<X9.nx;omega
  ·show S.nx+1<X9.nx;omega
  ·show S.nx+1<X1.nx;omega
  ·show X7.nx<X9.nx;omega
  ·show S3.nx+13<X9.nx;omega
  ·show S3.nx+13<X1.nx;omega
  ·show ib≠rb;omega
  ·obtain⟨h1,h2,_⟩:=hR.bl j (by omega);show ib≠bs j∧rb≠bs j;omega
 have hD:Dyn L S X9 (List.replicate g.infos.length (-1)) (List.replicate g.infos.length (-1)) (yN g):=by
  subst hL;refine⟨?_,?_,?_⟩
  ·show X9.h.get ib=_;rw[old _ (by omega) (by omega)];exact gi6
  ·show X9.h.get rb=_;rw[old _ (by omega) (by omega)];exact gr6
  ·exact(hR.same s79).low (by omega)
 have hBL:gD S L.wb plb szb pv nv iv g (jM g) Z:=by rw[hL];exact hB
 have hiw:=aGh H hn hm G M hTl hWF hpv hBL (g.nodes.length+1) (by unfold eK at hT;exact hT) C hD (fV.start G m);rw[An,hTl] at hiw;have hgm:X9.h.get (S.nx+1)=some (.cells [mv] false 0):=by have:=C.gm;rw[hL] at this;exact this
 have hgk:X9.h.get X7.nx=some (.cells [L.fn] false 0):=g9;have lm0:=fN (p:=0) hgm rfl;have lk0:=fN (p:=0) hgk rfl;have hm9:=hm.same sX9;have ia0:=hm9.iaddr hml;have la0:=hm9.ld hml;have nWt:¬L.W g.infos.length (S.nx+2):=fun hw=>by have:=hWb _ hw;omega
 have nWo:¬L.W g.infos.length (S3.nx+15):=fun hw=>by have:=hWb _ hw;omega
 have nWa:¬L.W g.infos.length (S3.nx+13):=fun hw=>by have:=hWb _ hw;omega
 have gt9:X9.h.get (S.nx+2)=some (.cells [.nilsl,.nilsl] false 0):=by rw[old _ (by omega) (by omega),sX6.2 _ (by omega)];exact gtb
 have go9:X9.h.get (S3.nx+15)=some (.cells [.sl ib 0 g.infos.length g.infos.length false,.sl (S3.nx+13) 0 g.infos.length g.infos.length false] false 0):=by rw[old _ (by omega) (by omega)];exact go6
 have ga9:X9.h.get (S3.nx+13)=some (.cells cs false 0):=by rw[s79.2 _ (by omega)];exact hga
 have lt9:S.nx+2<X9.nx:=by omega
 have lo9:S3.nx+15<X9.nx:=by omega
 have la9:S3.nx+13<X9.nx:=by omega
 have lt0:S.nx≤S3.nx+13:=by omega
 have li0:S.nx≤ib:=by omega
 have li9:ib<X9.nx:=by omega
 have hrb:L.bs=bs∧L.cs=cs∧L.ib=ib:=by rw[hL];exact⟨rfl,rfl,rfl⟩
 clear hR hga s79 x9 m9 x8 m8 g8 g9 lX7 hX7 old;refine aA (aA (aS (Q:=fun o A' Y=>o= .normal∧A'.inr=false∧iE (L.W g.infos.length) X9 Y∧aD 4 A'.F= .ptr (S.nx+2) 0∧aD 6 A'.F= .ptr (S3.nx+15) 0∧∃t,aD 61 A'.F= .bool t∧(t=true→¬fT g m)∧(t=false→m.getD 0 0=0∧∃I' F' A',Dyn L S Y I' F' A'∧fV g m g.nodes.length g.nodes.length I' F' A')) (aF ?_) ?_))
 ·by_cases h0:m.getD 0 0=0;rotate_left
  ·simp only[↓sU,sD,rE,↓reduceIte,rA,p3,lm0,aIR,ia0,la0,Ab (show m.getD 0 0≠0 from h0),p4,p6];exact⟨iE.refl _ _,true,rfl,fun _ a=>h0 a.root,fun h=>by cases h⟩
  simp only[↓sU,sD,rE,↓reduceIte,rA,p3,lm0,aIR,ia0,la0,Aa (show ¬m.getD 0 0≠0 from fun h=>h h0),lk0];refine aY ?_;simp only[↓sU,sD,rE,↓reduceIte,rA];have e0:eB m 0=0:=by unfold eB;rw[h0];rfl
  rw[e0] at hiw;refine aP hiw ?_;rintro _ Y ⟨bY,t,rfl,ht0,ht1⟩;simp only[↓sU,sD,rE,↓reduceIte,rA,dH,p4,p6];refine⟨bY, !t,rfl,fun h=>?_,fun h=>⟨h0,?_⟩⟩
  ·cases t with
   | true=>cases h
   | false=>exact ht0 rfl
  ·cases t with
   | false=>cases h
   | true=>exact ht1 rfl
 clear p2 p3 p4 p6 p7 hiw;rintro o ⟨F,inr⟩ Y ⟨rfl,q0,bY,p4,p6,t,p61,ht1,ht0⟩;simp only at q0 p4 p6 p61;subst q0;have gtY:=(bY.2 _ lt9 nWt).trans gt9;have sY:Same S Y:=C.same bY;have lY:=bY.1;try simp only[↓sU,sD,rE,↓reduceIte,rA]
 cases t with
 | true=>
  refine aM (by simp only[↓sU,sD,rE,↓reduceIte,rA,p61]) ?_;refine bE ?_;simp only[↓aC,aB,rE,↓reduceIte,rA,aIk,mR];refine fI (b:=S.nx+2) (cs':=[.nilsl,.nilsl]) (by simp only[↓aC,aB,rE,↓reduceIte,rA,p4]) (by simp only[↓aC,aB,rE,↓reduceIte,rA];exact bJ _) gtY rfl rfl ?_;intro Y2 y2 k2 h2;simp only[↓aC,aB,rE,↓reduceIte,rA];refine aO ?_;have ld2:=pK (n:=2) h2 rfl;simp only[↓aC,aB,rE,↓reduceIte,rA,iD,p4,ld2];exact⟨⟨by have:=sY.1;omega,fun c hc=>by rw[y2.2 _ (by have:=sY.1;omega) (by omega),sY.2 _ hc]⟩,_,_,false,rfl,⟨fun h=>(by cases h),fun a=>absurd a (ht1 rfl)⟩,fun h=>by cases h⟩
 | false=>
  obtain⟨h0,I',F',A',hDY,hSY⟩:=ht0 rfl;refine aK (by simp only[↓sU,sD,rE,↓reduceIte,rA,p61]) (aI ?_);try simp only[↓sU,sD,rE,↓reduceIte,rA]
  have goY:=(bY.2 _ lo9 nWo).trans go9;have gaY:=(bY.2 _ la9 nWa).trans ga9;have lo2:=pK (n:=2) goY rfl;obtain⟨hA,hI,hAe⟩:=hSY.full G M h0;refine bE ?_;simp only[↓aC,aB,rE,↓reduceIte,rA,p6,lo2];refine fI (b:=S.nx+2) (cs':=[.sl ib 0 g.infos.length g.infos.length false,.sl (S3.nx+13) 0 g.infos.length g.infos.length false]) (by simp only[↓aC,aB,rE,↓reduceIte,rA,p4]) (by simp only[↓aC,aB,rE,↓reduceIte,rA];exact bJ _) gtY rfl rfl ?_;intro Y2 y2 k2 h2;simp only[↓aC,aB,rE,↓reduceIte,rA];refine aO ?_;have ld2:=pK (n:=2) h2 rfl;simp only[↓aC,aB,rE,↓reduceIte,rA,iD,p4,ld2];obtain⟨r1,r2,r3⟩:=hrb;have gi:=hDY.gi;have hrw:=hDY.rw;rw[r3,hI] at gi;rw[r1,r2,hAe] at hrw;have hlI:(imgI g m).length=g.infos.length:=by simp [imgI]
  have hlA:(imgA g m).length=g.infos.length:=by simp [imgA]
  refine⟨⟨by have:=sY.1;omega,fun c hc=>by rw[y2.2 _ (by have:=sY.1;omega) (by omega),sY.2 _ hc]⟩,_,_,true,rfl,⟨fun _=>hA,fun _=>rfl⟩,fun _=>⟨⟨ib,by rw[hlI],li0,by omega,?_⟩,S3.nx+13,bs,cs,by rw[hlA],lt0,by omega,?_,hrw.move (by omega) fun j hj=>?_⟩⟩
  ·rw[y2.2 _ (by omega) (by omega)];exact gi
  ·rw[y2.2 _ (by omega) (by omega)];exact gaY
  ·obtain⟨h1,h2',_⟩:=hrw.bl j hj;refine y2.2 _ h2' fun e=>nWt ?_;rw[←e,←r1];exact .inr (.inr ⟨j,by rw[←hlA];exact hj,rfl⟩)
theorem aKa{g:aW}{m:List Int}:aMr (vF g m):=fun {S0 S1 S2 x y} h hn hh=>by
 obtain⟨⟨b,h1,h2,h3,h4⟩,ab,bs,cs,k1,k2,k3,k4,k5⟩:=h;refine⟨⟨b,h1,h2,Ae h3 hn,(hh b h2 h3).trans h4⟩,ab,bs,cs,k1,k2,Ae k3 hn,(hh ab k2 k3).trans k4,k5.move hn fun j hj=>?_⟩;obtain⟨a,b,_⟩:=k5.bl j hj;exact hh _ a b
end Go.Ev.Gl
namespace Go.Ev.Gl
theorem aN.conv{k:Nat}{α β:Type}{E:St→List AV→α→Prop}{E':St→List AV→β→Prop}{f:α→β}{S:St}{v:AV}{l:List α}(hf:∀e a,E S e a→E' S e (f a))(h:aN k E S v l):aN k E' S v (l.map f):=by
 rcases h with⟨rfl,h⟩ | ⟨b,off,cap,o,cs,rfl,h2,h3,h4,h5⟩
 ·exact .inl ⟨rfl,h⟩
 ·refine .inr ⟨b,off,cap,o,cs,by rw[Bc],by rw[Bc];exact h2,h3,h4,fun i a hi=>?_⟩;rw[Az,Ap] at hi;obtain⟨x,hx,rfl⟩:=hi;obtain⟨e,e1,e2,e3⟩:=h5 i x hx;exact⟨e,e1,e2,hf e x e3⟩
theorem aHR{k:IntKind}{S:St}{v:AV}{l:List Int}(h:aN 1 (oF k) S v l):bN k S v l:=by
 rcases h with h | ⟨b,off,cap,o,cs,rfl,h2,h3,h4,h5⟩
 ·exact .inl h
 ·refine .inr ⟨b,off,cap,o,cs,rfl,h2,h3,h4,fun i x hi=>?_⟩;obtain⟨e,e1,e2,rfl,_⟩:=h5 i x hi;have:=e2 0 _ rfl;rw[Dn,Bj] at this;exact this
abbrev nS(k:IntKind):St→List AV→List Int→Prop:=qC 1 (oF k)
abbrev EN1:St→List AV→(List Int×Unit)→Prop:=qB (nS .i64) NoE
abbrev EN2:St→List AV→(List Int×List Int×Unit)→Prop:=qB (nS .i64) EN1
abbrev EN3:St→List AV→(List Int×List Int×List Int×Unit)→Prop:=qB (nS .i64) EN2
abbrev EN4:St→List AV→(Int×List Int×List Int×List Int×Unit)→Prop:=qB (oF .i64) EN3
abbrev EN5:St→List AV→(Int×Int×List Int×List Int×List Int×Unit)→Prop:=qB (oF .i64) EN4
abbrev aAG:St→List AV→(Int×Int×Int×List Int×List Int×List Int×Unit)→Prop:=qB (oF .i64) EN5
abbrev EI1:St→List AV→(Int×Unit)→Prop:=qB (oF .i64) NoE
abbrev aBz:St→List AV→(Int×Int×Unit)→Prop:=qB (oF .i64) EI1
abbrev EG1:St→List AV→(List (Int×Int×Unit)×Unit)→Prop:=qB (qC 2 aBz) NoE
abbrev EG2:St→List AV→(List (Int×Int×Int×List Int×List Int×List Int×Unit)×List (Int×Int×Unit)×Unit)→Prop:=qB (qC 6 aAG) EG1
abbrev aHn:St→List AV→(Int×List (Int×Int×Int×List Int×List Int×List Int×Unit)×List (Int×Int×Unit)×Unit)→Prop:=qB (oF .i64) EG2
theorem lQ{k:IntKind}:nY (nS k):=Ev.firm_sl (E:=oF k) gN
theorem aLF:nY EN1:=kQ (E:=nS .i64) (R:=NoE) lQ aHH
theorem aLJ:nY EN2:=kQ (E:=nS .i64) (R:=EN1) lQ aLF
theorem aLT:nY EN3:=kQ (E:=nS .i64) (R:=EN2) lQ aLJ
theorem aLe:nY EN4:=kQ (E:=oF .i64) (R:=EN3) gN aLT
theorem aLD:nY EN5:=kQ (E:=oF .i64) (R:=EN4) gN aLe
theorem aBw:nY aAG:=kQ (E:=oF .i64) (R:=EN5) gN aLD
theorem aKP:nY EI1:=kQ (E:=oF .i64) (R:=NoE) gN aHH
theorem aCu:nY aBz:=kQ (E:=oF .i64) (R:=EI1) gN aKP
def aFK(a:Int×Int×Int×List Int×List Int×List Int×Unit):dW:=⟨a.1,a.2.1,a.2.2.1,a.2.2.2.1,a.2.2.2.2.1,a.2.2.2.2.2.1⟩
def aLY(a:Int×Int×Unit):aBH:=⟨a.1,a.2.1⟩
theorem aA1{k:IntKind}{S:St}{avs:List AV}{l:List Int}(h:nS k S avs l):∃v,avs= [v]∧bN k S v l:=by
 obtain⟨v,h1,h2⟩:=qC.is h;exact⟨v,h1,aHR h2⟩
theorem aLN{S:St}{e:List AV}{a:Int×Int×Int×List Int×List Int×List Int×Unit}(h:aAG S e a):bT S e (aFK a):=by
 obtain⟨_,_,rfl,⟨rfl,_⟩,_,_,rfl,⟨rfl,_⟩,_,_,rfl,⟨rfl,_⟩,_,_,rfl,h1,_,_,rfl,h2,_,_,rfl,h3,rfl⟩:=h;obtain⟨v1,rfl,i1⟩:=aA1 h1;obtain⟨v2,rfl,i2⟩:=aA1 h2;obtain⟨v3,rfl,i3⟩:=aA1 h3;exact⟨v1,v2,v3,rfl,i1,i2,i3⟩
theorem aLP{S:St}{e:List AV}{a:Int×Int×Unit}(h:aBz S e a):cV S e (aLY a):=by
 obtain⟨_,_,rfl,⟨rfl,_⟩,_,_,rfl,⟨rfl,_⟩,rfl⟩:=h;rfl
def aMm(g:aW):Prop:=g.infos.length * 16≤140737488355328∧∀x∈g.nodes,x.next.length * 8≤140737488355328∧x.weights.length * 8≤140737488355328∧x.pay.length * 8≤140737488355328
theorem yI{k:Nat}{α:Type}{E:St→List AV→α→Prop}{S:St}{avs:List AV}{l:List α}(h:qC k E S avs l):l.length * (8 * k)≤140737488355328:=by
 obtain⟨_,_,h,_⟩:=h;exact h
theorem aLx{k:Nat}{α:Type}{E:St→List AV→α→Prop}{S:St}{avs:List AV}{l:List α}(h:qC k E S avs l){a:α}(ha:a∈l):∃cs,E S cs a:=by
 obtain⟨_,_,_,⟨rfl,_⟩ | ⟨b,cap,css,_,_,_,_,h5,h6⟩⟩:=h
 ·cases ha
 ·obtain⟨i,hi⟩:=List.mem_iff_getElem?.1 ha;have hlt:=(Ai.1 hi).1;exact⟨_,(h6 i css[i] a (Ac (by omega)) hi).2⟩
theorem aHQ{S:St}{e:List AV}{a:Int×Int×Int×List Int×List Int×List Int×Unit}(h:aAG S e a):(aFK a).next.length * 8≤140737488355328∧(aFK a).weights.length * 8≤140737488355328∧(aFK a).pay.length * 8≤140737488355328:=by
 obtain⟨_,_,rfl,⟨rfl,_⟩,_,_,rfl,⟨rfl,_⟩,_,_,rfl,⟨rfl,_⟩,_,_,rfl,h1,_,_,rfl,h2,_,_,rfl,h3,rfl⟩:=h;exact⟨yI h1,yI h2,yI h3⟩
theorem aLw{S:St}{avs:List AV}{a:Int×List (Int×Int×Int×List Int×List Int×List Int×Unit)×List (Int×Int×Unit)×Unit}(h:aHn S avs a):∃nv iv,∃g:aW,avs= [.int .i64 g.players,nv,iv]∧aN 6 bT S nv g.nodes∧aN 2 cV S iv g.infos∧aMm g:=by
 obtain⟨_,_,rfl,⟨rfl,_⟩,_,_,rfl,h1,_,_,rfl,h2,rfl⟩:=h;obtain⟨v1,rfl,i1⟩:=qC.is h1;obtain⟨v2,rfl,i2⟩:=qC.is h2;refine⟨v1,v2,⟨a.1,a.2.1.map aFK,a.2.2.1.map aLY⟩,rfl,aN.conv (fun e x h=>aLN h) i1,aN.conv (fun e x h=>aLP h) i2,⟨(by have:=yI h2;rw[Bc];exact this),fun x hx=>?_⟩⟩;obtain⟨y,hy,rfl⟩:=Cy.1 hx;obtain⟨cs,hcs⟩:=aLx h1 hy;exact aHQ hcs
section
variable {P:Program}{σ:Env}{S:St}{w:World}
theorem aMP{v:Value}{n:Nat}(hn:n≠1)(hl:v.cells.toList.length=n):v= .agg ⟨v.cells.toList⟩:=by
 cases v with
 | agg cs=>rfl
 | _=>exact absurd (by simpa [Value.cells] using hl.symm) hn
theorem aJv{t:TypeId}{H:Type}{enc:TypeId×Value→H}{base:Nat}{spare:Nat→Bool}{held:Bool}{fuel:Nat}{v:Value}{x:DataW H×List MemPlace}(hR:iI P σ S w)(hn:uG S)(hf:tW S)(hG:P.globals.size≤S.nx)(hL:Lays P t aHn)(h:DataW.trod enc P w base spare held fuel t v.cells.toList=some x)(hW:∀n∈DataW.weights P t x.1,n≤140737488355328):
  ∃σ' S' nv iv,∃g:aW,mC P σ S w σ' S'∧Rv P σ' (.agg [.int .i64 g.players,nv,iv]) v∧aN 6 bT S' nv g.nodes∧aN 2 cV S' iv g.infos∧S.nx≤S'.nx∧aMm g:=by
 obtain⟨σ',S',avs,a,hA,hr,h1,hE,hnx⟩:=hL H enc σ S w base spare held fuel _ x hR hn hf hG h hW;obtain⟨nv,iv,g,rfl,i1,i2,hT⟩:=aLw hE;refine⟨σ',S',nv,iv,g,hA,?_,i1,i2,hnx,hT⟩;have hl:=hr.length;rw[aMP (v:=v) (n:=3) (by decide) (by rw[hl];rfl)];simp only[Rv];exact⟨_,rfl,hr,h1⟩
theorem aC6{t e:TypeId}{k:IntKind}(ht:P.underlying t=some (.slice e))(he:P.underlying e=some (.int k))(hc:P.cellsOf e=1)(hby:8≤P.bytesOf e):Lays P t (nS k):=qZ ht hc (by decide) (by omega) (aFZ he) gN
theorem aIl{tg tn tl ti tk ts e:TypeId}{fg fn fi:Array Field}(hg:P.underlying tg=some (.struct fg))(hn:P.underlying tn=some (.struct fn))(hi:P.underlying ti=some (.struct fi))(hl:P.underlying tl=some (.slice tn))(hk:P.underlying tk=some (.slice ti))(hs:P.underlying ts=some (.slice e))(he:P.underlying e=some (.int .i64))
  (cn:P.cellsOf tn=6) (ci:P.cellsOf ti=2) (ce:P.cellsOf e=1) (cs:P.cellsOf ts=1) (cl:P.cellsOf tl=1) (ck:P.cellsOf tk=1) (cg:P.cellsOf tg=3) (be:8≤P.bytesOf e) (bn:48≤P.bytesOf tn) (bi:16≤P.bytesOf ti)
  (tsg:fg.toList.map (·.type)= [e,tl,tk]) (tsn:fn.toList.map (·.type)= [e,e,e,ts,ts,ts]) (tsi:fi.toList.map (·.type)= [e,e])
  (og:∀ (i:Nat) (f:Field),fg[i]? =some f→f.offset=i) (on:∀ (i:Nat) (f:Field),fn[i]? =some f→f.offset=i) (oi:∀ (i:Nat) (f:Field),fi[i]? =some f→f.offset=i):Lays P tg aHn:=by
 have Li:=aFZ he;have Ls:=aC6 hs he ce be;have Ln:Lays P tn aAG:=by
  refine tE hn tsn (fun i f h=>?_) (by simp [cn,ce,cs]) (fS (E:=oF .i64) (R:=EN5) Li gN (fS (E:=oF .i64) (R:=EN4) Li gN (fS (E:=oF .i64) (R:=EN3) Li gN (fS (E:=nS .i64) (R:=EN2) Ls lQ (fS (E:=nS .i64) (R:=EN1) Ls lQ (fS (E:=nS .i64) (R:=NoE) Ls lQ yT))))));rw[on i f h];have hlt:i<6:=by
   have:=(Cp.1 h).1;have h6:=Ey List.length tsn;simp only[Bc,Bw,Au,Bu] at h6;omega
  match i,hlt with
  | 0,_=>simp
  | 1,_=>simp [ce]
  | 2,_=>simp [ce]
  | 3,_=>simp [ce]
  | 4,_=>simp [ce,cs]
  | 5,_=>simp [ce,cs]
 have Lin:Lays P ti aBz:=by
  refine tE hi tsi (fun i f h=>?_) (by simp [ci,ce]) (fS (E:=oF .i64) (R:=EI1) Li gN (fS (E:=oF .i64) (R:=NoE) Li gN yT));rw[oi i f h];have hlt:i<2:=by
   have:=(Cp.1 h).1;have h6:=Ey List.length tsi;simp only[Bc,Bw,Au,Bu] at h6;omega
  match i,hlt with
  | 0,_=>simp
  | 1,_=>simp [ce]
 have Lsn:Lays P tl (qC 6 aAG):=qZ hl cn (by decide) (by omega) Ln aBw;have Lsi:Lays P tk (qC 2 aBz):=qZ hk ci (by decide) (by omega) Lin aCu;refine tE hg tsg (fun i f h=>?_) (by simp [cg,ce,cl,ck]) (fS (E:=oF .i64) (R:=EG2) Li gN (fS (E:=qC 6 aAG) (R:=EG1) Lsn (Ev.firm_sl (E:=aAG) aBw) (fS (E:=qC 2 aBz) (R:=NoE) Lsi (Ev.firm_sl (E:=aBz) aCu) yT)));rw[og i f h];have hlt:i<3:=by
  have:=(Cp.1 h).1;have h6:=Ey List.length tsg;simp only[Bc,Bw,Au,Bu] at h6;omega
 match i,hlt with
 | 0,_=>simp
 | 1,_=>simp [ce]
 | 2,_=>simp [ce,cl]
end
end Go.Ev.Gl
