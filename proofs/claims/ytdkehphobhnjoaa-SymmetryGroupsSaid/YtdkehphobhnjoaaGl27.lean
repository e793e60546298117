import Derived.Test.YtdkehphobhnjoaaGl26
open Nat renaming reduceEqDiff → rE, reduceAdd → rA
set_option maxHeartbeats 16000000
set_option linter.unusedSimpArgs false
set_option linter.unusedVariables false
namespace Go.Ev.Gl
open Go.Sort
variable {fns:T dE}
noncomputable instance lexDec(a b:List Int):Decidable (jF a b):=Classical.propDecidable _
theorem aIf{S:St}{v:AV}{l l':List Int}(h:bN .i64 S v l)(h':bN .i64 S v l'):l=l':=by
 have hl:l.length=l'.length:=by
  have:=h.len.symm.trans h'.len;simp only[Ag,Aj,AV.int.injEq,true_and] at this;omega
 refine aCc hl fun i hi=>?_;have a:=h.ld (i:=i) (by omega);have b:=h'.ld hi;rw[a] at b;simpa using b
noncomputable def aGw(S:St)(x:AV):List Int:=@dite _ (∃l,bN .i64 S x l) (Classical.propDecidable _) (fun h=>h.choose) (fun _=>[])
theorem aHJ{S:St}{x:AV}{l:List Int}(h:bN .i64 S x l):aGw S x=l:=by
 unfold aGw;rw[dif_pos ⟨l,h⟩];exact aIf (Exists.choose_spec (⟨l,h⟩:∃l,bN .i64 S x l)) h
noncomputable def ltX(dec:AV→List Int)(x y:AV):Bool:=decide (jF (dec x) (dec y))
theorem aKU(dec:AV→List Int):SWO (ltX dec) where
 irrefl x:=Aa fun h=>nN h
 trans x y z h1 h2:=Ab (qF (Dc h1) (Dc h2))
 ntrans x y z h1 h2:=Aa fun h3=>by
  have h1:=of_decide_eq_false h1;have h2:=of_decide_eq_false h2;rcases aA0 (dec y) (dec x) with e | e | e
  ·rw[←e] at h3;exact h2 h3
  ·exact h2 (qF e h3)
  ·exact h1 e
noncomputable def aNB(H:Has fns)(b n sz N:Nat)(o:Bool)(cs:List AV)(dec:AV→List Int)(S1:St)(hd:∀x∈cs,bN .i64 S1 x (dec x)∧cL x≠some b∧(dec x).length=N)(hn:n≤1000000000)(hN:N≤100000):Ctx fns false 1 where
 b:=b
 off:=0
 n:=n
 v:=.sl b 0 n n o
 opn:=o
 sz:=sz
 pre:=[]
 post:=[]
 cl:=fun x=>[x]
 P:=fun x=>x∈cs
 f:=.fn 41 [] []
 I:=fun S=>∀x∈cs,bN .i64 S x (dec x)
 lt:=ltX dec
 hpre:=rfl
 hcl:=by
  intro x hx;have h:=(hd x hx).1;exact⟨rfl,bN.self h,bN.cells h,rfl⟩
 hv:=fun _=>⟨_,_,rfl⟩
 hn:=hn
 hI:=fun S S' h hs x hx=>lT (h x hx) hs.1 fun c hc=>hs.2 c (aB8 (h x hx) hc) fun e=>(hd x hx).2.1 (by rw[hc,e])
 cmp:=by
  intro S x y h hx hy;refine aP (aHX H (h x hx) (h y hy) (by rw[(hd x hx).2.2,(hd y hy).2.2]) (by rw[(hd x hx).2.2];exact hN)) ?_;rintro _ S' ⟨hS,c,rfl,hc⟩;exact⟨hS,c,rfl,decide_eq_decide.2 hc⟩
structure aMG(C:Ctx fns false 1)(dec:AV→List Int)(S0:St)(v:AV)(n N:Nat):Prop where
 ev:C.v=v
 en:C.n=n
 ef:C.f= .fn 41 [] []
 elt:C.lt=ltX dec
 bb:S0.nx≤C.b
 at0:∃o,v= .sl C.b 0 n n o
 isl:∀X x,C.I X→C.P x→bN .i64 X x (dec x)
 len:∀x,C.P x→(dec x).length=N
 mem:∀X (e:Array AV),C.At X e→0<n→C.b<X.nx∧∃o s,X.h.get C.b=some (.cells e.toList o s)
theorem aE5{S0 S:St}{v:AV}{W:List (List Int)}{N:Nat}(H:Has fns)(h:kE S0 S v W)(hn:W.length≤1000000)(hW:∀w∈W,w.length=N)(hN:N≤100000):∃ (C:Ctx fns false 1) (dec:AV→List Int) (d:Array AV),aMG C dec S0 v W.length N∧C.On S S d∧d.toList.map dec=W:=by
 obtain⟨cs,g1,g2⟩:=h.ex;obtain⟨b,o,sz,rfl,k1,k2,k3⟩:=g1.at;have hcl:=g1.csl;have hel:∀ (j:Nat) (x:AV),cs[j]? =some x→bN .i64 S x (W.getD j [])∧cL x≠some b∧j<W.length:=fun j x hj=>by
  have hlt:=(Ai.1 hj).1;obtain⟨r,e1,e2,e3⟩:=g2.2 j (by omega);rw[hj] at e1;cases e1;exact⟨e2,fun e=>(e3 b e).2 rfl,by omega⟩
 have hd:∀x∈cs,bN .i64 S x (aGw S x)∧cL x≠some b∧(aGw S x).length=N:=fun x hx=>by
  obtain⟨j,hj⟩:=List.getElem?_of_mem hx;obtain⟨e1,e2,e3⟩:=hel j x hj;rw[aHJ e1];refine⟨e1,e2,hW _ ?_⟩;rw[Ad,Ac e3];exact Bh e3
 refine⟨aNB H b W.length sz N o cs (aGw S) S hd (by omega) hN,aGw S,cs.toArray,⟨rfl,rfl,rfl,rfl,k1,⟨o,rfl⟩,fun X x h1 h2=>h1 x h2,fun x hx=>(hd x hx).2.2,fun X e he hp=>?_⟩,Ctx.On.refl ⟨by simp [aNB,hcl],fun i hi=>?_,fun h0=>⟨k2,?_⟩⟩ (fun x hx=>(hd x hx).1),?_⟩
 ·obtain⟨m1,m2⟩:=he.2.2 hp;refine⟨m1,o,sz,?_⟩;have m2:X.h.get b=some (.cells ([]++e.toList.flatMap (fun x=>[x])++ []) o sz):=m2;show X.h.get b=_;rw[m2,Cm,Bs];simp
 ·have hi:i<W.length:=hi;have:=aKS cs.toArray (i:=i) (by simpa [hcl] using hi);rw[List.toList_toArray] at this;exact Bm this
 ·show S.h.get b=some (.cells ([]++cs.toArray.toList.flatMap (fun x=>[x])++ []) o sz);rw[k3,Cm,Bs,List.toList_toArray];simp
 ·rw[List.toList_toArray];refine List.ext_getElem? fun j=>?_;rw[Az];by_cases hj:j<W.length
  ·have hj2:j<cs.length:=by omega
   rw[Ac hj2,Ac hj];have:=aHJ (hel j _ (Ac hj2)).1;rw[Ad,Ac hj] at this;show some (aGw S cs[j])=_;rw[this];rfl
  ·rw[Ch (by omega),Ch (by omega)];rfl
theorem aMG.is{C:Ctx fns false 1}{dec:AV→List Int}{S0 S1 X:St}{v:AV}{n N:Nat}{e:Array AV}(R:aMG C dec S0 v n N)(hp:0<n)(on:C.On S1 X e):aN 1 kJ X v (e.toList.map dec):=by
 obtain⟨m1,o',s,m2⟩:=R.mem X e on.1 hp;obtain⟨o,ho⟩:=R.at0;have el:(e.toList.map dec).length=n:=by rw[Bc,Bw,on.1.1,R.en]
 refine .inr ⟨C.b,0,n,o,e.toList,by rw[el];exact ho,by rw[el];exact Ah _,m1,by unfold cS;rw[m2];rfl,fun i l hi=>?_⟩;rw[Az] at hi;obtain⟨x,hx,rfl⟩:=Ap.1 hi;refine⟨[x],rfl,fun j y hj=>?_,x,rfl,R.isl X x on.2.1 (on.1.all x (Bm hx))⟩;cases j with
 | zero=>
  cases hj;rw[An,Dn];exact hx
 | succ j=>simp at hj
theorem aIz{S0 S:St}{v:AV}{W:List (List Int)}{N:Nat}(H:Has fns)(hS:Same S0 S)(h:kE S0 S v W)(hn:W.length≤1000000)(hnd:W.Nodup)(hW:∀w∈W,w.length=N)(hN:N≤100000):fA fns (.fn 40 [] []) [v,.fn 41 [] []] S fun _ S'=>Same S0 S'∧∃W',W'.Perm W∧W'.Pairwise jF∧aN 1 kJ S' v W':=by
 obtain⟨cs,g1,_⟩:=h.ex;have hpos:=g1.pos;clear g1;obtain⟨C,dec,d,R,on0,hd⟩:=aE5 H h hn hW hN;have hds:d.size=W.length:=by rw[on0.1.1,R.en]
 have sp:=aCO (C:=C) H (by rw[R.elt];exact aKU _) on0.1 on0.2.1 (by rw[R.ev,R.en];exact h.len);rw[R.ev,R.ef] at sp;refine aP sp ?_;rintro _ S' ⟨e,on,pm,so⟩;rw[R.en] at pm so;rw[R.elt] at so;have hes:e.size=W.length:=by rw[on.1.1,R.en]
 have pm2:e.toList.Perm d.toList:=by
  have:=pm.2.2
  rwa [show d.extract 0 W.length=d by rw[←hds,Array.extract_size],show e.extract 0 W.length=e by rw[←hes,Array.extract_size]] at this
 have pmW:(e.toList.map dec).Perm W:=by
  have:=pm2.map dec
  rwa [hd] at this
 have ndE:(e.toList.map dec).Nodup:=pmW.nodup_iff.2 hnd;refine⟨bQ.same hS on.2.2 R.bb,e.toList.map dec,pmW,?_,R.is hpos on⟩;rw[Dg];intro i j hi hj hij;rw[Bc,Bw] at hi hj;have h5:=so i j (Cj _) hij (by omega);rw[Fj e j hj,Fj e i hi] at h5;have h6:¬jF (dec e[j]) (dec e[i]):=of_decide_eq_false h5;have h7:=(Dg.1 ndE) i j (by simpa using hi) (by simpa using hj) hij;simp only[List.getElem_map,Array.getElem_toList] at h7 ⊢;rcases aA0 (dec e[i]) (dec e[j]) with h8 | h8 | h8
 ·exact absurd h8 h7
 ·exact h8
 ·exact absurd h8 h6
theorem aCW{W:List (List Int)}{t:Nat}(h:t<W.length):W.getD t []∈W:=by
 rw[Ad,Ac h];exact Bh h
theorem aKH{A R:List (List Int)}{t:Nat}(h:t<A.length):(A++R).getD t []=A.getD t []:=by
 rw[Ad,Ba h,Ad]
theorem aJD{N:Nat}:(eM N).length=N∧∀x∈eM N,0≤x∧x<(N:Int):=by
 refine⟨by unfold eM;rw[Bc,Db],fun x hx=>?_⟩;unfold eM at hx;obtain⟨j,hj,rfl⟩:=Cy.1 hx;rw[Fa] at hj;omega
theorem vU{g:aW}{L:List (List Int)}(hL:∀m∈L,nK g m){t:Nat}{w:List Int}(hw:w∈cN (eM g.nodes.length) L t):w.length=g.nodes.length∧lF w g.nodes.length:=
 aA8 (n:=g.nodes.length) aJD (fun m hm=>⟨(hL m hm).M.1,(hL m hm).M.2⟩) w hw
theorem aHy{g:aW}{L:List (List Int)}(hL:∀m∈L,nK g m){t j:Nat}(ht:t<(cN (eM g.nodes.length) L t).length){w:List Int}(hw:w∈stepG ((cN (eM g.nodes.length) L t).getD t []) (L.take j) (cN (eM g.nodes.length) L t)):w.length=g.nodes.length∧lF w g.nodes.length:=by
 refine aAa (Q:=fun w=>w.length=g.nodes.length∧lF w g.nodes.length) (fun x hx=>vU hL hx) (fun m hm=>?_) w hw;have h0:=vU hL (aCW ht);have hm:=hL m (Dl hm);obtain⟨a,b⟩:=aA7 h0.2 hm.M.1 hm.M.2;exact⟨by rw[a,h0.1],b⟩
theorem aLK{n:Nat}(hn:n≤1000){W:List (List Int)}{m:List Int}(hW:∀w∈W,lF w n)(hm:lF m n):iU m∈W.map iU↔m∈W:=by
 constructor
 ·intro h;obtain⟨w,hw,e⟩:=Cy.1 h;rw[←aER (fun x hx=>(hW w hw x hx).1) (fun x hx=>(hm x hx).1) e];exact hw
 ·exact fun h=>Cy.2 ⟨m,h,rfl⟩
def aM1(S':St)(r:AV)(g:aW)(L:List (List Int)):Prop:=(fR g L≠0∧r= .tup [.nilsl,.int .i64 (fR g L)])∨(fR g L=0∧zJ (eM g.nodes.length) L 1000 none∧r= .tup [.nilsl,.int .i64 5])∨(fR g L=0∧∃W W' v,zJ (eM g.nodes.length) L 1000 (some W)∧W'.Perm W∧W'.Pairwise jF∧aN 1 kJ S' v W'∧r= .tup [v,.int .i64 0])
theorem aBm{k:IntKind}{S:St}{v:AV}{l:List Int}{mb:Nat}{es:List (AV×AV)}(h:bN k S v l)(hm:S.h.get mb=some (.map es)):cL v≠some mb:=fun e=>by
 rcases h with⟨_,rfl | rfl⟩ | ⟨b,off,cap,o,cs,rfl,_,_,h3,_⟩
 ·cases e
 ·cases e
 ·cases e;unfold cS at h3;rw[hm] at h3;cases h3
structure PgB(S0 X:St)(v:AV)(mb:Nat)(W:List (List Int)):Prop where
 same:Same S0 X
 grp:kE S0 X v W
 lm:S0.nx≤mb
 lm2:mb<X.nx
 map:X.h.get mb=some (.map (encS (W.map iU)))
section
variable {S0 X X':St}{v:AV}{mb:Nat}{W:List (List Int)}
theorem PgB.step(h:PgB S0 X v mb W)(hs:Same X X'):PgB S0 X' v mb W:=⟨h.same.trans hs,h.grp.step hs,h.lm,Ae h.lm2 hs.1,(hs.2 _ h.lm2).trans h.map⟩
theorem kE.off{es:List (AV×AV)}(h:kE S0 X v W)(hm:X.h.get mb=some (.map es)):cL v≠some mb:=fun e=>by
 obtain⟨_,_,o,s,cs,h1⟩:=h.blk e;rw[hm] at h1;cases h1
theorem kE.upd{es:List (AV×AV)}{b:Option AB}(h:kE S0 X v W)(hm:X.h.get mb=some (.map es)):kE S0 ⟨X.h.set mb b,X.nx⟩ v W:=by
 have ho:=h.off hm;obtain⟨cs,h1,h2⟩:=h.ex;have hh:∀c,c≠mb→(X.h.set mb b).get c=X.h.get c:=fun c hc=>by rw[T.get_set,if_neg hc]
 refine⟨cs,h1.move (Ah _) fun c hc=>hh c fun e=>ho (by rw[hc,e]),h2.1,fun j hj=>?_⟩;obtain⟨r,a1,a2,a3⟩:=h2.2 j hj;exact⟨r,a1,lT a2 (Ah _) fun c hc=>hh c fun e=>aBm a2 hm (by rw[hc,e]),a3⟩
theorem aJs{es:List (AV×AV)}{b:Option AB}{r:AV}{l:List Int}(h:bN .i64 X r l)(hm:X.h.get mb=some (.map es)):bN .i64 ⟨X.h.set mb b,X.nx⟩ r l:=
 lT h (Ah _) fun c hc=>by
  have:c≠mb:=fun e=>aBm h hm (by rw[hc,e]);simp only;rw[T.get_set,if_neg this]
theorem PgB.push{t m:Nat}{r:AV}{l:List Int}(h:PgB S0 X v mb W)(hm:S0.nx≤m)(hm2:m≤X.nx)(hold:∀c,cL v=some c→c<m)(hr:bN .i64 X r l)(hb:∀c,cL r=some c→m≤c)(h1:W.length+1≤1000)
  {Y:St} (hY:Same ⟨X.h.set mb (some (.map (encS (W.map iU++ [iU l])))),X.nx⟩ Y) (ht:Y.h.get t=some (.cells [r] false 0)):
  ∃v' X',iN 24 1 v (.sl t 0 1 1 false) Y=some (v',X')∧PgB S0 X' v' mb (W++ [l]):=by
 have g1:=(kE.upd (b:=some (.map (encS (W.map iU++ [iU l])))) h.grp h.map).step hY;have r1:=(aJs (b:=some (.map (encS (W.map iU++ [iU l])))) hr h.map).same hY;have hs:Same S0 Y:=⟨Ay h.same.1 hY.1,fun c hc=>by
  have h2:=hY.2 c (Ae hc h.same.1);simp only at h2;rw[T.get_set,if_neg (by have:=h.lm;omega)] at h2;exact h2.trans (h.same.2 c hc)⟩
 have hmY:Y.h.get mb=some (.map (encS (W.map iU++ [iU l]))):=by
  have h2:=hY.2 mb h.lm2;simp only at h2;rw[T.get_set,if_pos rfl] at h2;exact h2
 have hn:X.nx≤Y.nx:=hY.1;obtain⟨v',X',e,a1,a2,a3,a4⟩:=g1.push (bytes:=24) (t:=t) hs hm (by omega) hold r1 hb ht (by unfold room;omega) (by unfold room;omega);have hov:=g1.off hmY;refine⟨v',X',e,⟨⟨by have:=hs.1;omega,fun c hc=>?_⟩,a1,h.lm,by have:=h.lm2;omega,?_⟩⟩
 ·have hc2:=hs.1;rw[a4 c (by omega) fun e=>by have:=(g1.blk e).1;omega];exact hs.2 c hc
 ·rw[a4 mb (by have:=h.lm2;omega) hov,hmY,Ej];rfl
end
theorem aEe{S S':St}{v:AV}{l:List Int}{c:Nat}(h:gF S S' v l)(hc:cL v=some c):S.nx≤c∧c<S'.nx:=by
 obtain⟨b,rfl,h1,h2,_⟩:=h;cases hc;exact⟨h1,h2⟩
def aOh(S0:St)(mv:AV)(mb:Nat)(g:aW)(L:List (List Int))(t:Nat)(k:Nat)(A:bH)(X:St):Prop:=A.inr=false∧∃ (j:Nat) (v:AV),j+k=L.length∧PgB S0 X v mb (stepG ((cN (eM g.nodes.length) L t).getD t []) (L.take j) (cN (eM g.nodes.length) L t))∧(stepG ((cN (eM g.nodes.length) L t).getD t []) (L.take j) (cN (eM g.nodes.length) L t)).length≤1000∧aD 1 A.F=mv∧aD 8 A.F=v∧aD 9 A.F= .map mb∧aD 10 A.F= .int .i64 (t:Int)∧aD 47 A.F=mv∧aD 48 A.F= .int .i64 (L.length:Int)∧aD 49 A.F= .int .i64 (j:Int)
def aOH(S0:St)(mv:AV)(mb:Nat)(g:aW)(L:List (List Int))(k:Nat)(A:bH)(X:St):Prop:=A.inr=false∧∃ (t:Nat) (v:AV),t+k=1001∧PgB S0 X v mb (cN (eM g.nodes.length) L t)∧(∀s,s<t→s<(cN (eM g.nodes.length) L s).length)∧(∀s,s≤t→(cN (eM g.nodes.length) L s).length≤1000)∧aD 1 A.F=mv∧aD 8 A.F=v∧aD 9 A.F= .map mb∧aD 10 A.F= .int .i64 (t:Int)
theorem aE8{S:St}{nv iv mv:AV}{g:aW}{L:List (List Int)}(H:Has fns)(hn:aN 6 bT S nv g.nodes)(hi:aN 2 cV S iv g.infos)(hln:g.nodes.length≤1000)(hm:aN 1 kJ S mv L):
  fA fns (.fn 13 [] []) [.agg [.int .i64 g.players,nv,iv],mv] S fun r S'=>Same S S'∧aM1 S' r g L:=by
 refine bP H.f13 (by simp) ?_;simp only[↓sU,sD,rE,↓reduceIte,rA];refine bE ?_;refine dG (by simp only[↓sU,sD,rE,↓reduceIte,rA];exact bJ _) ?_;intro S1 s1 n1 g1;simp only[↓sU,sD,rE,↓reduceIte,rA];refine bE ?_;simp only[↓sU,sD,rE,↓reduceIte,rA,gG g1];refine aY ?_;simp only[↓sU,sD,rE,↓reduceIte,rA];refine aP (aDm H (aN.same (E:=bT) bI hn s1) (aN.same (E:=cV) cE hi s1) (by omega)) ?_;rintro _ S2 ⟨s2,p,rfl,hlook⟩;simp only[↓sU,sD,rE,↓reduceIte,rA,ex0,ex1];have s12:=s1.trans s2;refine eG ?_;simp only[↓sU,sD,rE,↓reduceIte,rA];by_cases h0:cM g=0;rotate_left
 ·have hE:fR g L=cM g:=by unfold fR;rw[if_pos h0]
  refine aM (by simp only[↓sU,sD,rE,↓reduceIte,rA,Ab (show cM g≠0 from h0)]) ?_;refine bE ?_;simp only[↓sU,sD,rE,↓reduceIte,rA];refine aO ?_;simp only[↓sU,sD,rE,↓reduceIte,rA];exact⟨s12,.inl ⟨by rw[hE];exact h0,by rw[hE]⟩⟩
 have hE:fR g L=if 16<L.length then 4 else iQ g L:=by unfold fR;rw[if_neg (fun h=>h h0)]
 refine aK (by simp only[↓sU,sD,rE,↓reduceIte,rA,Aa (show ¬cM g≠0 from fun h=>h h0)]) (aI ?_);try simp only[↓sU,sD,rE,↓reduceIte,rA]
 obtain⟨wb,plb,szb,pv0,TT,Z,rfl,hwb,hT,hTl,hpv,hB⟩:=hlook h0;have hn2:=aN.same (E:=bT) bI hn s12;have hi2:=aN.same (E:=cV) cE hi s12;have hm2:=aN.same (E:=kJ) firm_sl hm s12;refine eG ?_;simp only[↓sU,sD,rE,↓reduceIte,rA];refine aY ?_;simp only[↓sU,sD,rE,↓reduceIte,rA];refine aP (xE H h0 hn2 hi2 hm2 hT hTl hpv hB) ?_;rintro _ S3 ⟨s3,imv,rfl,_,_⟩;rw[←hE];simp only[↓sU,sD,rE,↓reduceIte,rA,ex0,ex1];have s13:=s12.trans s3;refine bE ?_;simp only[↓sU,sD,rE,↓reduceIte,rA];by_cases e0:fR g L=0;rotate_left
 ·refine aM (by simp only[↓sU,sD,rE,↓reduceIte,rA,Ab (show fR g L≠0 from e0)]) ?_;refine bE ?_;simp only[↓sU,sD,rE,↓reduceIte,rA];refine aO ?_;simp only[↓sU,sD,rE,↓reduceIte,rA];exact⟨s13,.inl ⟨e0,rfl⟩⟩
 refine aK (by simp only[↓sU,sD,rE,↓reduceIte,rA,Aa (show ¬fR g L≠0 from fun h=>h e0)]) (aI ?_);try simp only[↓sU,sD,rE,↓reduceIte,rA]
 obtain⟨_,hL16,hie⟩:=mY e0;have hAll:∀m∈L,nK g m:=fun m hm=>kF (lO hie m hm);have hm3:=aN.same (E:=kJ) firm_sl hm2 s3;refine bE ?_;simp only[↓aC,aB,rE,↓reduceIte,rA];refine aY ?_;simp only[↓aC,aB,rE,↓reduceIte,rA];refine aP (vN H (hB.w.same s3) (aN.same (E:=bT) bI hn2 s3) (by omega)) ?_;rintro id S4 ⟨hid,s4⟩;try simp only[↓aC,aB,rE,↓reduceIte,rA]
 refine fX (oP hid.is (by simp only[↓aC,aB,rE,↓reduceIte,rA])) ?_;intro S5 s5 n5 c5;try simp only[↓aC,aB,rE,↓reduceIte,rA]
 have hW5:kE S3 S5 (.sl S4.nx 0 1 1 false) [eM g.nodes.length]:=kE.one (hid.is.same s5) (fun c hc=>by have:=aEe hid hc;omega) c5 s4.1 (by omega);refine bE ?_;simp only[↓aC,aB,rE,↓reduceIte,rA];refine fX aKw ?_;intro S6 s6 n6 c6;have hW6:=hW5.step s6;obtain⟨xb,xq,a,xi,xs,xlt,xl⟩:=lW hW6.is (i:=0) (by simp);have xl:=xl S6 (Same.refl _);have xs:bN .i64 S6 a (eM g.nodes.length):=xs;have nz:eR (.int .i64 0)=some 0:=rfl;simp only[↓aC,aB,rE,↓reduceIte,rA,nz,aT,xi,xl];refine aY ?_;simp only[↓aC,aB,rE,↓reduceIte,rA];refine aP (aFH H xs (by rw[aJD.1];exact hln) fun x hx=>by have:=aJD.2 x hx;omega) ?_;rintro _ S7 ⟨rfl,s7⟩;try simp only[↓aC,aB,rE,↓reduceIte,rA]
 have c7:S7.h.get S5.nx=some (.map (encS [])):=(s7.2 _ (by omega)).trans c6;have s37:Same S3 S7:=((s4.trans s5).trans s6).trans s7;have l5:S3.nx≤S5.nx:=(s4.trans s5).1;have hW7:=hW6.step s7;refine fD (v:=.undef) (S1:=⟨S7.h.set S5.nx (some (.map (encS ([]++ [iU (eM g.nodes.length)])))),S7.nx⟩) (fun call=>by rw[aC1];simp only[↓aC,aB,rE,↓reduceIte,rA];exact aFW c7 (by simp)) ?_;have hP:PgB S3 ⟨S7.h.set S5.nx (some (.map (encS ([]++ [iU (eM g.nodes.length)])))),S7.nx⟩ (.sl S4.nx 0 1 1 false) S5.nx (cN (eM g.nodes.length) L 0):=
  ⟨⟨s37.1,fun c hc=>by simp only;rw[T.get_set,if_neg (by omega)];exact s37.2 c hc⟩,hW7.upd c7,l5,by have:=s7.1;simp only;omega,by simp only;rw[T.get_set,if_pos rfl];rfl⟩
 generalize (⟨S7.h.set S5.nx (some (.map (encS ([]++ [iU (eM g.nodes.length)])))),S7.nx⟩:St)=Y0 at hP ⊢;generalize S5.nx=mb at hP ⊢;generalize S4.nx=b0 at hP ⊢;clear hW7 hW6 hW5 xi xl xs xlt c7 c6 c5 hid hB hpv hlook;simp only[↓sU,sD,rE,↓reduceIte,rA];have hz0:∀s,s≤0→(cN (eM g.nodes.length) L s).length≤1000:=fun s hs=>by
  obtain rfl:s=0:=by omega
  show 1≤1000;omega
 refine aA (aS (Q:=fun o A' X=>(o= .normal∧A'.inr=false∧∃ (t:Nat) (v:AV),PgB S3 X v mb (cN (eM g.nodes.length) L t)∧zJ (eM g.nodes.length) L 1000 (some (cN (eM g.nodes.length) L t))∧(cN (eM g.nodes.length) L t).length≤1000∧aD 8 A'.F=v)∨(o= .ret∧Same S3 X∧zJ (eM g.nodes.length) L 1000 none∧aD 4 A'.F= .nilsl∧aD 5 A'.F= .int .i64 5)) (aA (aF ?_)) ?_)
 ·simp only[↓sU,sD,rE,↓reduceIte,rA];refine aJ (bB (aOH S3 mv mb g L) ?_ 1001 _ _ ⟨rfl,0,_,by omega,hP,fun s hs=>by omega,hz0,by simp only[↓sU,sD,rE,↓reduceIte,rA],by simp only[↓sU,sD,rE,↓reduceIte,rA],by simp only[↓sU,sD,rE,↓reduceIte,rA],by simp only[↓sU,sD,rE,↓reduceIte,rA];try rfl⟩);clear hP;rintro k ⟨F,inr⟩ X ⟨q0,t,v,htk,hP,hlt1,hle1,p1,p8,p9,p10⟩;simp only at q0 p1 p8 p9 p10;subst q0;refine eG ?_;simp only[↓sU,sD,rE,↓reduceIte,rA,p8,p10,hP.grp.len];by_cases htl:t<(cN (eM g.nodes.length) L t).length;rotate_left
  ·refine aK (by simp only[↓sU,sD,rE,↓reduceIte,rA,Aa (show ¬ (t:Int)<(((cN (eM g.nodes.length) L t).length:Nat):Int) by omega)]) (aU ?_);simp only[↓sU,sD,rE,↓reduceIte,rA];have hel:t=(cN (eM g.nodes.length) L t).length:=by
    rcases Eb t with e | e
    ·subst e;omega
    ·have h1:=hlt1 (t - 1) (by omega);have h2:=aDj (e:=eM g.nodes.length) (L:=L) (show t - 1≤t by omega);omega
   exact .inl ⟨t,v,hP,.inl ⟨t,rfl,hel,hlt1,hle1⟩,hle1 t (Ah _),by simp only[↓sU,sD,rE,↓reduceIte,rA,p8]⟩
  refine aM (by simp only[↓sU,sD,rE,↓reduceIte,rA,Ab (show(t:Int)<(((cN (eM g.nodes.length) L t).length:Nat):Int) by omega)]) (aI ?_);try simp only[↓sU,sD,rE,↓reduceIte,rA]
  have hlet:=hle1 t (Ah _);have w0:IntKind.i64.wrap ((t:Int)+1)=((t+1:Nat):Int):=by rw[wrap_i64 (by omega) (by omega)];omega
  refine aA (aS (Q:=fun o A' X=>(o= .normal∧aOh S3 mv mb g L t 0 A' X)∨(o= .ret∧Same S3 X∧zJ (eM g.nodes.length) L 1000 none∧aD 4 A'.F= .nilsl∧aD 5 A'.F= .int .i64 5)) (aJ (aA (aF ?_))) ?_)
  ·simp only[↓sU,sD,rE,↓reduceIte,rA,p1,(aN.same (E:=kJ) firm_sl hm3 hP.same).len,Ag];refine aJ (bB (aOh S3 mv mb g L t) ?_ L.length _ _ ⟨rfl,0,v,by omega,by rw[Bp];exact hP,by rw[Bp];exact hlet,by simp only[↓sU,sD,rE,↓reduceIte,rA,p1],by simp only[↓sU,sD,rE,↓reduceIte,rA,p8],by simp only[↓sU,sD,rE,↓reduceIte,rA,p9],by simp only[↓sU,sD,rE,↓reduceIte,rA,p10],by simp only[↓sU,sD,rE,↓reduceIte,rA],by simp only[↓sU,sD,rE,↓reduceIte,rA],by simp only[↓sU,sD,rE,↓reduceIte,rA];try rfl⟩);clear hP p1 p8 p9 p10;rintro k2 ⟨F2,inr2⟩ Y ⟨q0,j,v2,hjk,hQ,hle2,p1,p8,p9,p10,p47,p48,p49⟩;simp only at q0 p1 p8 p9 p10 p47 p48 p49;subst q0;refine bE ?_;simp only[↓sU,sD,rE,↓reduceIte,rA,p48,p49];by_cases hlt:j<L.length;rotate_left
   ·refine aA (aK (by simp only[↓sU,sD,rE,↓reduceIte,rA,Aa (show ¬ (j:Int)<((L.length:Nat):Int) by omega)]) (aU ?_));simp only[↓sU,sD,rE,↓reduceIte,rA];obtain rfl:k2=0:=by omega
    exact .inl ⟨rfl,j,v2,hjk,hQ,hle2,by refine⟨?_,?_,?_,?_,?_,?_,?_⟩<;>simp only[↓sU,sD,rE,↓reduceIte,rA,p1,p8,p9,p10,p47,p48,p49]⟩
   refine aA (aM (by simp only[↓sU,sD,rE,↓reduceIte,rA,Ab (show(j:Int)<((L.length:Nat):Int) by omega)]) (aI ?_));try simp only[↓sU,sD,rE,↓reduceIte,rA]
   have w1:IntKind.i64.wrap ((j:Int)+1)=((j+1:Nat):Int):=by rw[wrap_i64 (by omega) (by omega)];omega
   obtain⟨xb,xq,a,xi,xs,xlt,xl⟩:=lW hm3 hlt;have xl:=xl Y hQ.same;have hA:=hAll _ (aCW hlt);have hw:=vU hAll (aCW htl);have hall:∀w∈stepG ((cN (eM g.nodes.length) L t).getD t []) (L.take j) (cN (eM g.nodes.length) L t),lF w g.nodes.length:=fun w hw=>(aHy hAll htl hw).2;have hnx:=wW (w:=(cN (eM g.nodes.length) L t).getD t []) (W:=cN (eM g.nodes.length) L t) hlt;have hov:=aGx (w:=(cN (eM g.nodes.length) L t).getD t []) (W:=cN (eM g.nodes.length) L t) (M:=1000) hlt;have hpre:(stepG ((cN (eM g.nodes.length) L t).getD t []) (L.take j) (cN (eM g.nodes.length) L t)).getD t []=(cN (eM g.nodes.length) L t).getD t []∧t<(stepG ((cN (eM g.nodes.length) L t).getD t []) (L.take j) (cN (eM g.nodes.length) L t)).length:=by
    obtain⟨R,e⟩:=pQ (w:=(cN (eM g.nodes.length) L t).getD t []) (L:=L.take j) (W:=cN (eM g.nodes.length) L t);rw[e,aKH htl,Ak];exact⟨rfl,by omega⟩
   have hsuc:cN (eM g.nodes.length) L (t+1)=stepG ((cN (eM g.nodes.length) L t).getD t []) L (cN (eM g.nodes.length) L t):=by rw[nC,if_pos htl]
   rw[←hsuc] at hov;obtain⟨zb,zq,z,zi,zs,zlt,zl⟩:=lW hQ.grp.is hpre.2;have zl:=zl Y (Same.refl _);rw[hpre.1] at zs
   replace hpre:=hpre.2
   generalize hww:(cN (eM g.nodes.length) L t).getD t []=w at *;obtain⟨hpl,hpi⟩:=aA7 hw.2 hA.M.1 hA.M.2;rw[hw.1] at hpl;have hin:lF w (L.getD j []).length:=by rw[hA.M.1];exact hw.2
   have hms:bN .i64 Y a (L.getD j []):=xs.same hQ.same;obtain⟨W1,hW1⟩:∃W1,W1=stepG w (L.take (j+1)) (cN (eM g.nodes.length) L t):=⟨_,rfl⟩;rw[←hW1] at hnx;generalize stepG w (L.take j) (cN (eM g.nodes.length) L t)=W at *;generalize L.getD j []=m at *;refine aA (aS (Q:=fun o A' Z=>(o= .normal∧A'.inr=false∧∃v3,PgB S3 Z v3 mb W1∧W1.length≤1000∧aD 1 A'.F=mv∧aD 8 A'.F=v3∧aD 9 A'.F= .map mb∧aD 10 A'.F= .int .i64 (t:Int)∧aD 47 A'.F=mv∧aD 48 A'.F= .int .i64 (L.length:Int)∧aD 49 A'.F= .int .i64 (j:Int))∨(o= .ret∧Same S3 Z∧zJ (eM g.nodes.length) L 1000 none∧aD 4 A'.F= .nilsl∧aD 5 A'.F= .int .i64 5)) (aJ (aA (aF ?_))) ?_)
   ·simp only[↓sU,sD,rE,↓reduceIte,rA,p47,p49,aE,xi,xl];refine bE ?_;simp only[↓sU,sD,rE,↓reduceIte,rA,p8,p10,aE,zi,zl];refine aY ?_;simp only[↓sU,sD,rE,↓reduceIte,rA];refine aP (aIo H zs hms (by omega) hin) ?_;rintro r Y1 ⟨hr,y1⟩;try simp only[↓sU,sD,rE,↓reduceIte,rA]
    refine bE ?_;simp only[↓sU,sD,rE,↓reduceIte,rA];refine aY ?_;simp only[↓sU,sD,rE,↓reduceIte,rA];refine aP (aFH H hr.is (by omega) fun x hx=>by have:=hpi x hx;omega) ?_;rintro _ Y2 ⟨rfl,y2⟩;try simp only[↓sU,sD,rE,↓reduceIte,rA]
    have hQ2:=hQ.step (y1.trans y2);have hki:=aLK (n:=g.nodes.length) hln hall hpi;have hlk:∀F:Fr,aD 61 F= .map mb→aD 62 F= .str (iU (eS w m))→gS (.lookup (.p .str) (.bool false) false (.t 61) (.t 62)) F Y2.h=some (.bool (decide (iU (eS w m)∈W.map iU))):=fun F h1 h2=>aK4 hQ2.map h1 h2;refine eG ?_;simp only[↓sU,sD,rE,↓reduceIte,rA,p9];rw[hlk _ (by simp only[↓sU,sD,rE,↓reduceIte,rA]) (by simp only[↓sU,sD,rE,↓reduceIte,rA])];simp only[↓sU,sD,rE,↓reduceIte,rA];by_cases hmem:eS w m∈W
    ·have hst:W1=W:=by rw[hnx];unfold vB;rw[if_pos hmem]
     refine aM (by simp only[↓sU,sD,rE,↓reduceIte,rA,Ab (hki.2 hmem)]) (aU ?_);simp only[↓sU,sD,rE,↓reduceIte,rA];exact .inl ⟨v2,by rw[hst];exact hQ2,by rw[hst];exact hle2,by refine⟨?_,?_,?_,?_,?_,?_,?_⟩<;>simp only[↓sU,sD,rE,↓reduceIte,rA,p1,p8,p9,p10,p47,p48,p49]⟩
    have hst:W1=W++ [eS w m]:=by rw[hnx];unfold vB;rw[if_neg hmem]
    have hkn:iU (eS w m)∉W.map iU:=fun h=>hmem (hki.1 h);refine aK (by simp only[↓sU,sD,rE,↓reduceIte,rA,Aa hkn]) (aI ?_);try simp only[↓sU,sD,rE,↓reduceIte,rA]
    refine eG ?_;simp only[↓sU,sD,rE,↓reduceIte,rA,p8,hQ2.grp.len];by_cases h1000:W.length=1000
    ·refine aM (by simp only[↓sU,sD,rE,↓reduceIte,rA,Ab (show((W.length:Nat):Int)=1000 by omega)]) ?_;refine bE ?_;simp only[↓sU,sD,rE,↓reduceIte,rA];refine aO ?_;simp only[↓sU,sD,rE,↓reduceIte,rA];refine .inr ⟨hQ2.same,.inr ⟨rfl,t,fun s hs=>?_,hov h1000 hmem⟩⟩;rcases Bx s t with h | h
     ·exact hlt1 s h
     ·obtain rfl:s=t:=by omega
      exact htl
    refine aK (by simp only[↓sU,sD,rE,↓reduceIte,rA,Aa (show ¬ ((W.length:Nat):Int)=1000 by omega)]) (aI ?_);try simp only[↓sU,sD,rE,↓reduceIte,rA]
    refine bE ?_;simp only[↓sU,sD,rE,↓reduceIte,rA,p9];refine fD (v:=.undef) (S1:=⟨Y2.h.set mb (some (.map (encS (W.map iU++ [iU (eS w m)])))),Y2.nx⟩) (fun call=>by rw[aC1];simp only[↓sU,sD,rE,↓reduceIte,rA];exact aFW hQ2.map hkn) ?_;simp only[↓sU,sD,rE,↓reduceIte,rA];have hr2:=hr.is.same y2;refine aF ?_;simp only[↓aC,aB,rE,↓reduceIte,rA,p8];refine fX (oP (aJs (b:=some (.map (encS (W.map iU++ [iU (eS w m)])))) hr2 hQ2.map) (by simp only[↓aC,aB,rE,↓reduceIte,rA])) ?_;intro Y3 y3 m3 c3;have hyn:=(y1.trans y2).1;obtain⟨v3,Y4,eA,hQ4⟩:=hQ2.push (t:=Y2.nx) (m:=Y.nx) hQ.same.1 hyn (fun c hc=>(hQ.grp.blk hc).2.1) hr2 (fun c hc=>(aEe hr hc).1) (by omega) y3 c3;simp only[↓aC,aB,rE,↓reduceIte,rA,p8];refine fD (fun call=>by simp only[↓aC,aB,rE,↓reduceIte,rA,mL];exact eA) ?_;simp only[↓sU,sD,rE,↓reduceIte,rA];exact .inl ⟨v3,by rw[hst];exact hQ4,by rw[hst,Ak,Bz];omega,by refine⟨?_,?_,?_,?_,?_,?_,?_⟩<;>simp only[↓sU,sD,rE,↓reduceIte,rA,p1,p9,p10,p47,p48,p49]⟩
   rintro o ⟨F3,inr3⟩ Z3 (⟨rfl,q0,v3,hQ3,hl3,p1,p8,p9,p10,p47,p48,p49⟩ | ⟨rfl,h⟩);rotate_left
   ·simp only[↓sU,sD,rE,↓reduceIte,rA];exact .inr h
   simp only at q0 p1 p8 p9 p10 p47 p48 p49;subst q0;try simp only[↓sU,sD,rE,↓reduceIte,rA]
   refine aF ?_;simp only[↓sU,sD,rE,↓reduceIte,rA,p49,w1];exact⟨k2 - 1,by omega,rfl,j+1,v3,by omega,by rw[hww,←hW1];exact hQ3,by rw[hww,←hW1];exact hl3,by refine⟨?_,?_,?_,?_,?_,?_,?_⟩<;>simp only[↓sU,sD,rE,↓reduceIte,rA,p1,p8,p9,p10,p47,p48]⟩
  rintro o ⟨F2,inr2⟩ Y (⟨rfl,q0,j,v2,hjk,hQ,hle2,p1,p8,p9,p10,_,_,_⟩ | ⟨rfl,h⟩);rotate_left
  ·simp only[↓sU,sD,rE,↓reduceIte,rA];exact .inr h
  simp only at q0 p1 p8 p9 p10;subst q0;obtain rfl:j=L.length:=by omega
  have hsuc:cN (eM g.nodes.length) L (t+1)=stepG ((cN (eM g.nodes.length) L t).getD t []) L (cN (eM g.nodes.length) L t):=by rw[nC,if_pos htl]
  rw[Ea,←hsuc] at hQ hle2;try simp only[↓sU,sD,rE,↓reduceIte,rA]
  refine aF ?_;simp only[↓sU,sD,rE,↓reduceIte,rA,p10,w0];refine⟨k - 1,by omega,rfl,t+1,v2,by omega,hQ,fun s hs=>?_,fun s hs=>?_,by refine⟨?_,?_,?_,?_⟩<;>simp only[↓sU,sD,rE,↓reduceIte,rA,p1,p8,p9]⟩
  ·rcases Bx s t with h | h
   ·exact hlt1 s h
   ·obtain rfl:s=t:=by omega
    exact htl
  ·rcases Bx t s with h | h
   ·obtain rfl:s=t+1:=by omega
    exact hle2
   ·exact hle1 s h
 rintro o ⟨F,inr⟩ X (⟨rfl,q0,t,v,hP,hE2,hle,p8⟩ | ⟨rfl,hX,hE2,p4,p5⟩);rotate_left
 ·simp only at p4 p5;simp only[↓sU,sD,rE,↓reduceIte,rA,p4,p5];exact⟨s13.trans hX,.inr (.inl ⟨e0,hE2,rfl⟩)⟩
 simp only at q0 p8;subst q0;try simp only[↓sU,sD,rE,↓reduceIte,rA]
 refine bE ?_;simp only[↓sU,sD,rE,↓reduceIte,rA,p8];refine aY ?_;simp only[↓sU,sD,rE,↓reduceIte,rA];refine aP (aIz (N:=g.nodes.length) H hP.same hP.grp (by omega) rR (fun w hw=>(vU hAll hw).1) (by omega)) ?_;rintro _ Y ⟨hY,W',pm,so,is⟩;try simp only[↓sU,sD,rE,↓reduceIte,rA]
 refine bE ?_;simp only[↓sU,sD,rE,↓reduceIte,rA,p8];refine aO ?_;simp only[↓sU,sD,rE,↓reduceIte,rA];exact⟨s13.trans hY,.inr (.inr ⟨e0,_,W',v,hE2,pm,so,is,rfl⟩)⟩
end Go.Ev.Gl
namespace Go.Ev.Gl
open Go.Sort
variable {fns:T dE}
theorem tG{S:St}{n:Nat}(H:Has fns)(hn:n≤100000):fA fns (.fn 28 [] []) [.int .i64 (n:Int)] S fun r S'=>gF S S' r (eM n)∧Same S S':=by
 refine bP H.f28 (by simp) ?_;simp only[↓aC,aB,rE,↓reduceIte,rA];refine bE ?_;simp only[↓aC,aB,rE,↓reduceIte,rA];refine bE ?_;simp only[↓aC,aB,rE,↓reduceIte,rA];refine fX (mI (n:=n) (by simp only[↓aC,aB,rE,↓reduceIte,rA,aE]) (by simp only[↓aC,aB,rE,↓reduceIte,rA,aE]) (by unfold room;omega) (by unfold room;omega)) ?_;intro S1 s1 n1 c1;rw[lU] at c1;simp only[↓aC,aB,rE,↓reduceIte,rA];refine aA (aS (Q:=fun o A' X=>o= .normal∧sC S S.nx n (fun j=>(j:Int)) (fun F i=>aD 0 F= .int .i64 (n:Int)∧aD 3 F= .sl S.nx 0 n n false∧aD 4 F= .int .i64 (i:Int)) 0 A' X) (aA (aF ?_)) ?_)
 ·simp only[↓aC,aB,rE,↓reduceIte,rA];refine aJ (bB (sC S S.nx n (fun j=>(j:Int)) (fun F i=>aD 0 F= .int .i64 (n:Int)∧aD 3 F= .sl S.nx 0 n n false∧aD 4 F= .int .i64 (i:Int))) ?_ n _ _ ⟨rfl,s1,by omega,0,_,by omega,Ao ..,fun j hj=>by omega,c1,by simp only[↓aC,aB,rE,↓reduceIte,rA],by simp only[↓aC,aB,rE,↓reduceIte,rA],by simp only[↓aC,aB,rE,↓reduceIte,rA];try rfl⟩);rintro k ⟨F,inr⟩ X ⟨q0,hX,hb,i,l,hik,hl,hf,hc,p0,p3,p4⟩;simp only at q0 p0 p3 p4;subst q0;refine eG ?_;simp only[↓aC,aB,rE,↓reduceIte,rA,p0,p4];by_cases hlt:i<n
  ·refine aM (by simp only[↓aC,aB,rE,↓reduceIte,rA,Ab (show(i:Int)<(n:Int) by omega)]) (aI ?_);try simp only[↓aC,aB,rE,↓reduceIte,rA]
   have w1:IntKind.i64.wrap ((i:Int)+1)=((i+1:Nat):Int):=by rw[wrap_i64 (by omega) (by omega)];omega
   have hia:=dI (b:=S.nx) (o:=false) hlt;refine aA (aJ (aF ?_));simp only[↓aC,aB,rE,↓reduceIte,rA,p3,p4,aE,hia];refine fD (fun call=>by simp only[↓aC,aB,rE,↓reduceIte,rA,eJ,cI];exact oC (S:=X) hc (by rw[hl];exact hlt)) ?_;simp only[↓aC,aB,rE,↓reduceIte,rA];refine aF ?_;simp only[↓aC,aB,rE,↓reduceIte,rA,p4,w1];refine⟨k - 1,by omega,rfl,hX.put (Ah _) _,hb,i+1,l.set i (i:Int),by omega,by rw[Al];exact hl,fun j hj=>?_,by simp only;rw[T.get_set,if_pos rfl],by refine⟨?_,?_,?_⟩<;>simp only[↓aC,aB,rE,↓reduceIte,rA,p0,p3]⟩;rw[dP (by rw[hl];exact hlt)];split
   ·rename_i e;rw[e]
   ·exact hf j (by omega)
  ·refine aK (by simp only[↓aC,aB,rE,↓reduceIte,rA,Aa (show ¬ (i:Int)<(n:Int) by omega)]) (aU ?_);simp only[↓aC,aB,rE,↓reduceIte,rA];have hk0:k=0:=by omega
   subst hk0;exact⟨rfl,hX,hb,i,l,hik,hl,hf,hc,by refine⟨?_,?_,?_⟩<;>simp only[↓aC,aB,rE,↓reduceIte,rA,p0,p3,p4]⟩
 rintro o ⟨F,inr⟩ X ⟨rfl,q0,hX,hb,i,l,hik,hl,hf,hc,p0,p3,p4⟩;simp only at q0 p3;subst q0;obtain rfl:i=n:=by omega
 obtain rfl:l=eM i:=uM hl hf;try simp only[↓aC,aB,rE,↓reduceIte,rA]
 refine bE ?_;simp only[↓aC,aB,rE,↓reduceIte,rA,p3];refine aO ?_;simp only[↓aC,aB,rE,↓reduceIte,rA];exact⟨⟨S.nx,by rw[hl],Ah _,hb,hc⟩,hX⟩
def aNX(Y:St)(r mv v:AV)(W:List (List Int))(m:List Int)(t j:Nat)(k:Nat)(A:bH)(X:St):Prop:=A.inr=false∧Same Y X∧∃q,q+k=W.length∧aD 1 A.F=mv∧aD 7 A.F=v∧aD 8 A.F= .int .i64 (t:Int)∧aD 9 A.F= .int .i64 (j:Int)∧aD 10 A.F=r∧aD 11 A.F= .bool (decide (m∈W.take q))∧aD 12 A.F= .int .i64 (q:Int)
def aNi(S0:St)(mv:AV)(g:aW)(L:List (List Int))(t:Nat)(k:Nat)(A:bH)(X:St):Prop:=A.inr=false∧Same S0 X∧∃ (j:Nat) (v:AV),j+k=L.length∧kE S0 X v (stepG ((cN (eM g.nodes.length) L t).getD t []) (L.take j) (cN (eM g.nodes.length) L t))∧(stepG ((cN (eM g.nodes.length) L t).getD t []) (L.take j) (cN (eM g.nodes.length) L t)).length≤1000+j∧aD 1 A.F=mv∧aD 7 A.F=v∧aD 8 A.F= .int .i64 (t:Int)∧aD 9 A.F= .int .i64 (j:Int)
def aOV(S0:St)(mv:AV)(g:aW)(L:List (List Int))(k:Nat)(A:bH)(X:St):Prop:=A.inr=false∧Same S0 X∧∃ (t:Nat) (v:AV),t+k=1001∧kE S0 X v (cN (eM g.nodes.length) L t)∧(∀s,s<t→s<(cN (eM g.nodes.length) L s).length)∧(∀s,s≤t→(cN (eM g.nodes.length) L s).length≤1000)∧aD 1 A.F=mv∧aD 7 A.F=v∧aD 8 A.F= .int .i64 (t:Int)
def aN1(C:Ctx fns false 1)(dec:AV→List Int)(S1:St)(v:AV)(W:List (List Int))(k:Nat)(A:bH)(X:St):Prop:=A.inr=false∧∃ (i:Nat) (e:Array AV),i+k=W.length∧C.On S1 X e∧(e.toList.map dec).Perm W∧((e.toList.map dec).take i).Pairwise jF∧aD 7 A.F=v∧aD 13 A.F= .int .i64 (i:Int)
def aOK(C:Ctx fns false 1)(dec:AV→List Int)(S1:St)(v:AV)(W:List (List Int))(i:Nat)(k:Nat)(A:bH)(X:St):Prop:=A.inr=false∧k≤i∧∃e:Array AV,C.On S1 X e∧(e.toList.map dec).Perm W∧aKe (e.toList.map dec) i k∧aD 7 A.F=v∧aD 13 A.F= .int .i64 (i:Int)∧aD 14 A.F= .int .i64 (k:Int)
theorem aAZ{dec:AV→List Int}{e:Array AV}{i:Nat}(h:i<e.size):(e.toList.map dec).getD i []=dec e[i]! :=by
 rw[Ad,Az,aKS e h];rfl
theorem aHf{dec:AV→List Int}{e:Array AV}{k:Nat}(h:k+1<e.size):(swp e (k+1) k).toList.map dec=aIn (e.toList.map dec) k:=by
 unfold swp aIn;rw[aAZ h,aAZ (by omega),Dq,Dq,List.map_set,List.map_set]
end Go.Ev.Gl
namespace Go.Ev.Gl
open Go.Sort
variable {fns:T dE}
theorem aFX{S:St}{nv iv mv:AV}{g:aW}{L:List (List Int)}(H:Has fns)(hn:aN 6 bT S nv g.nodes)(hi:aN 2 cV S iv g.infos)(hln:g.nodes.length≤1000)(hm:aN 1 kJ S mv L):
  fA fns (.fn 12 [] []) [.agg [.int .i64 g.players,nv,iv],mv] S fun r S'=>Same S S'∧aM1 S' r g L:=by
 have snv:=aN.self hn;have lnv:=aN.len hn;refine bP H.f12 (by simp) ?_;simp only[↓sU,sD,rE,↓reduceIte,rA];refine bE ?_;refine dG (by simp only[↓sU,sD,rE,↓reduceIte,rA];exact bJ _) ?_;intro S1 s1 n1 g1;simp only[↓sU,sD,rE,↓reduceIte,rA];refine eG ?_;simp only[↓sU,sD,rE,↓reduceIte,rA,gG g1];refine aY ?_;simp only[↓sU,sD,rE,↓reduceIte,rA];refine aP (aAq H (aN.same (E:=bT) bI hn s1) (aN.same (E:=cV) cE hi s1) (by omega) (aN.same (E:=kJ) firm_sl hm s1)) ?_;rintro _ S2 ⟨rfl,s2⟩;try simp only[↓sU,sD,rE,↓reduceIte,rA]
 have s12:=s1.trans s2;refine bE ?_;simp only[↓sU,sD,rE,↓reduceIte,rA];by_cases e0:fR g L=0;rotate_left
 ·refine aM (by simp only[↓sU,sD,rE,↓reduceIte,rA,Ab (show fR g L≠0 from e0)]) ?_;refine bE ?_;simp only[↓sU,sD,rE,↓reduceIte,rA];refine aO ?_;simp only[↓sU,sD,rE,↓reduceIte,rA];exact⟨s12,.inl ⟨e0,rfl⟩⟩
 refine aK (by simp only[↓sU,sD,rE,↓reduceIte,rA,Aa (show ¬fR g L≠0 from fun h=>h e0)]) (aI ?_);try simp only[↓sU,sD,rE,↓reduceIte,rA]
 obtain⟨hf,hL16,hie⟩:=mY e0;have hAll:∀m∈L,nK g m:=fun m hm=>kF (lO hie m hm);have hm2:=aN.same (E:=kJ) firm_sl hm s12;have m2:=s2.1;have g2:S2.h.get S.nx=some (.cells [.int .i64 g.players,nv,iv] false 0):=(s2.2 _ (by omega)).trans g1;refine bE ?_;simp only[↓aC,aB,rE,↓reduceIte,rA,aH,aG,eF g2,lnv,Ag];refine aY ?_;simp only[↓aC,aB,rE,↓reduceIte,rA];refine aP (tG H (by omega)) ?_;rintro id S4 ⟨hid,s4⟩;try simp only[↓aC,aB,rE,↓reduceIte,rA]
 refine fX (oP hid.is (by simp only[↓aC,aB,rE,↓reduceIte,rA])) ?_;intro S5 s5 n5 c5;try simp only[↓sU,sD,rE,↓reduceIte,rA]
 have hP:kE S2 S5 (.sl S4.nx 0 1 1 false) (cN (eM g.nodes.length) L 0):=kE.one (hid.is.same s5) (fun c hc=>by have:=aEe hid hc;omega) c5 s4.1 (by omega);have s25:=s4.trans s5;generalize S4.nx=b0 at hP ⊢;clear c5 hid g2 g1;have hz0:∀s,s≤0→(cN (eM g.nodes.length) L s).length≤1000:=fun s hs=>by
  obtain rfl:s=0:=by omega
  show 1≤1000;omega
 try simp only[↓sU,sD,rE,↓reduceIte,rA]
 refine aA (aS (Q:=fun o A' X=>(o= .normal∧A'.inr=false∧Same S2 X∧∃ (t:Nat) (v:AV),kE S2 X v (cN (eM g.nodes.length) L t)∧zJ (eM g.nodes.length) L 1000 (some (cN (eM g.nodes.length) L t))∧(cN (eM g.nodes.length) L t).length≤1000∧aD 7 A'.F=v)∨(o= .ret∧Same S2 X∧zJ (eM g.nodes.length) L 1000 none∧aD 4 A'.F= .nilsl∧aD 5 A'.F= .int .i64 5)) (aA (aF ?_)) ?_)
 ·simp only[↓sU,sD,rE,↓reduceIte,rA];refine aJ (bB (aOV S2 mv g L) ?_ 1001 _ _ ⟨rfl,s25,0,_,by omega,hP,fun s hs=>by omega,hz0,by simp only[↓sU,sD,rE,↓reduceIte,rA],by simp only[↓sU,sD,rE,↓reduceIte,rA],by simp only[↓sU,sD,rE,↓reduceIte,rA];try rfl⟩);clear hP;rintro k ⟨F,inr⟩ X ⟨q0,hX,t,v,htk,hP,hlt1,hle1,p1,p7,p8⟩;simp only at q0 p1 p7 p8;subst q0;refine eG ?_;simp only[↓sU,sD,rE,↓reduceIte,rA,p7,p8,hP.len];by_cases htl:t<(cN (eM g.nodes.length) L t).length;rotate_left
  ·refine aK (by simp only[↓sU,sD,rE,↓reduceIte,rA,Aa (show ¬ (t:Int)<(((cN (eM g.nodes.length) L t).length:Nat):Int) by omega)]) (aU ?_);simp only[↓sU,sD,rE,↓reduceIte,rA];have hel:t=(cN (eM g.nodes.length) L t).length:=by
    rcases Eb t with e | e
    ·subst e;have:(cN (eM g.nodes.length) L 0).length=1:=rfl;omega
    ·have h1:=hlt1 (t - 1) (by omega);have h2:=aDj (e:=eM g.nodes.length) (L:=L) (show t - 1≤t by omega);omega
   exact .inl ⟨hX,t,v,hP,.inl ⟨t,rfl,hel,hlt1,hle1⟩,hle1 t (Ah _),by simp only[↓sU,sD,rE,↓reduceIte,rA,p7]⟩
  refine aM (by simp only[↓sU,sD,rE,↓reduceIte,rA,Ab (show(t:Int)<(((cN (eM g.nodes.length) L t).length:Nat):Int) by omega)]) (aI ?_);try simp only[↓sU,sD,rE,↓reduceIte,rA]
  have hlet:=hle1 t (Ah _);have w0:IntKind.i64.wrap ((t:Int)+1)=((t+1:Nat):Int):=by rw[wrap_i64 (by omega) (by omega)];omega
  have hsuc:cN (eM g.nodes.length) L (t+1)=stepG ((cN (eM g.nodes.length) L t).getD t []) L (cN (eM g.nodes.length) L t):=by rw[nC,if_pos htl]
  refine aA (aS (Q:=fun o A' X=>(o= .normal∧A'.inr=false∧Same S2 X∧∃v,kE S2 X v (cN (eM g.nodes.length) L (t+1))∧(cN (eM g.nodes.length) L (t+1)).length≤1000∧aD 1 A'.F=mv∧aD 7 A'.F=v∧aD 8 A'.F= .int .i64 (t:Int))∨(o= .ret∧Same S2 X∧zJ (eM g.nodes.length) L 1000 none∧aD 4 A'.F= .nilsl∧aD 5 A'.F= .int .i64 5)) (aJ (aA (aS (Q:=fun o A' X=>o= .normal∧aNi S2 mv g L t 0 A' X) (aA (aF ?_)) ?_))) ?_)
  ·simp only[↓sU,sD,rE,↓reduceIte,rA];refine aJ (bB (aNi S2 mv g L t) ?_ L.length _ _ ⟨rfl,hX,0,v,by omega,by rw[Bp];exact hP,by rw[Bp];exact hlet,by simp only[↓sU,sD,rE,↓reduceIte,rA,p1],by simp only[↓sU,sD,rE,↓reduceIte,rA,p7],by simp only[↓sU,sD,rE,↓reduceIte,rA,p8],by simp only[↓sU,sD,rE,↓reduceIte,rA];try rfl⟩);clear hP hX p1 p7 p8;rintro k2 ⟨F2,inr2⟩ Y ⟨q0,hY,j,v2,hjk,hQ,hle2,p1,p7,p8,p9⟩;simp only at q0 p1 p7 p8 p9;subst q0;refine eG ?_;simp only[↓sU,sD,rE,↓reduceIte,rA,p1,p9,(aN.same (E:=kJ) firm_sl hm2 hY).len,Ag];by_cases hlt:j<L.length;rotate_left
   ·refine aK (by simp only[↓sU,sD,rE,↓reduceIte,rA,Aa (show ¬ (j:Int)<((L.length:Nat):Int) by omega)]) (aU ?_);simp only[↓sU,sD,rE,↓reduceIte,rA];obtain rfl:k2=0:=by omega
    exact⟨rfl,hY,j,v2,hjk,hQ,hle2,by refine⟨?_,?_,?_,?_⟩<;>simp only[↓sU,sD,rE,↓reduceIte,rA,p1,p7,p8,p9]⟩
   refine aM (by simp only[↓sU,sD,rE,↓reduceIte,rA,Ab (show(j:Int)<((L.length:Nat):Int) by omega)]) (aI ?_);try simp only[↓sU,sD,rE,↓reduceIte,rA]
   have w1:IntKind.i64.wrap ((j:Int)+1)=((j+1:Nat):Int):=by rw[wrap_i64 (by omega) (by omega)];omega
   obtain⟨xb,xq,a,xi,xs,xlt,xl⟩:=lW hm2 hlt;have xl:=xl Y hY;have hA:=hAll _ (aCW hlt);have hw:=vU hAll (aCW htl);have hnx:=wW (w:=(cN (eM g.nodes.length) L t).getD t []) (W:=cN (eM g.nodes.length) L t) hlt;have hpre:(stepG ((cN (eM g.nodes.length) L t).getD t []) (L.take j) (cN (eM g.nodes.length) L t)).getD t []=(cN (eM g.nodes.length) L t).getD t []∧t<(stepG ((cN (eM g.nodes.length) L t).getD t []) (L.take j) (cN (eM g.nodes.length) L t)).length:=by
    obtain⟨R,e⟩:=pQ (w:=(cN (eM g.nodes.length) L t).getD t []) (L:=L.take j) (W:=cN (eM g.nodes.length) L t);rw[e,aKH htl,Ak];exact⟨rfl,by omega⟩
   have hall:∀w∈stepG ((cN (eM g.nodes.length) L t).getD t []) (L.take j) (cN (eM g.nodes.length) L t),w.length=g.nodes.length:=fun w hw=>(aHy hAll htl hw).1;obtain⟨zb,zq,z,zi,zs,zlt,zl⟩:=lW hQ.is hpre.2;have zl:=zl Y (Same.refl _);rw[hpre.1] at zs
   replace hpre:=hpre.2
   generalize hww:(cN (eM g.nodes.length) L t).getD t []=w at *;obtain⟨hpl,hpi⟩:=aA7 hw.2 hA.M.1 hA.M.2;rw[hw.1] at hpl;have hin:lF w (L.getD j []).length:=by rw[hA.M.1];exact hw.2
   have hms:bN .i64 Y a (L.getD j []):=xs.same hY;have sa:=bN.self xs;have sz:=bN.self zs;have hxb:xb<Y.nx:=Ae xlt hY.1;obtain⟨W1,hW1⟩:∃W1,W1=stepG w (L.take (j+1)) (cN (eM g.nodes.length) L t):=⟨_,rfl⟩;rw[←hW1] at hnx;generalize stepG w (L.take j) (cN (eM g.nodes.length) L t)=W at *;generalize L.getD j []=m at *;refine aA (aJ (aA (cR (fun _=>False) ?_)));intro X0 x0;simp only[↓sU,sD,rE,↓reduceIte,rA,p1,p7,p8,p9,Aq,aE,xi,xl,sa,hxb,zi,zl,sz,zlt];refine bX rfl ?_;simp only[↓sU,sD,rE,↓reduceIte,rA];refine aP (aGH H (zs.same x0) (hms.same x0) (by omega) hin) ?_;rintro r Y1 ⟨hr,y1⟩;refine⟨y1,?_⟩;try simp only[↓sU,sD,rE,↓reduceIte,rA]
   have y01:=x0.trans y1;have hQ1:=hQ.step y01;refine bE ?_;simp only[↓sU,sD,rE,↓reduceIte,rA];refine aA (aS (Q:=fun o A' Z=>o= .normal∧aNX Y1 r mv v2 W (eS w m) t j 0 A' Z) (aA (aF ?_)) ?_)
   ·simp only[↓sU,sD,rE,↓reduceIte,rA];refine aJ (bB (aNX Y1 r mv v2 W (eS w m) t j) ?_ W.length _ _ ⟨rfl,Same.refl _,0,by omega,by simp only[↓sU,sD,rE,↓reduceIte,rA,p1],by simp only[↓sU,sD,rE,↓reduceIte,rA,p7],by simp only[↓sU,sD,rE,↓reduceIte,rA,p8],by simp only[↓sU,sD,rE,↓reduceIte,rA,p9],by simp only[↓sU,sD,rE,↓reduceIte,rA],by simp only[↓sU,sD,rE,↓reduceIte,rA,Bp,List.not_mem_nil,decide_false],by simp only[↓sU,sD,rE,↓reduceIte,rA];try rfl⟩);rintro k3 ⟨F3,inr3⟩ Z ⟨q0,hZ,q,hqk,p1,p7,p8,p9,p10,p11,p12⟩;simp only at q0 p1 p7 p8 p9 p10 p11 p12;subst q0;have hQ2:=hQ1.step hZ;refine eG ?_;simp only[↓sU,sD,rE,↓reduceIte,rA,p7,p12,hQ2.len];by_cases hlq:q<W.length;rotate_left
    ·refine aK (by simp only[↓sU,sD,rE,↓reduceIte,rA,Aa (show ¬ (q:Int)<((W.length:Nat):Int) by omega)]) (aU ?_);simp only[↓sU,sD,rE,↓reduceIte,rA];obtain rfl:k3=0:=by omega
     exact⟨rfl,hZ,q,hqk,by refine⟨?_,?_,?_,?_,?_,?_,?_⟩<;>simp only[↓sU,sD,rE,↓reduceIte,rA,p1,p7,p8,p9,p10,p11,p12]⟩
    refine aM (by simp only[↓sU,sD,rE,↓reduceIte,rA,Ab (show(q:Int)<((W.length:Nat):Int) by omega)]) (aI ?_);try simp only[↓sU,sD,rE,↓reduceIte,rA]
    have w2:IntKind.i64.wrap ((q:Int)+1)=((q+1:Nat):Int):=by rw[wrap_i64 (by omega) (by omega)];omega
    refine aA (aJ (aF ?_));have htk:(eS w m∈W.take (q+1))↔(eS w m∈W.take q∨W.getD q []=eS w m):=by
     rw[aH5 hlq,Bv,Er];exact⟨fun h=>h.imp_right Eq.symm,fun h=>h.imp_right Eq.symm⟩
    by_cases hmq:eS w m∈W.take q
    ·rw[Ab hmq] at p11;simp only[↓sU,sD,rE,↓reduceIte,rA,p11];refine aF ?_;simp only[↓sU,sD,rE,↓reduceIte,rA,p12,w2];exact⟨k3 - 1,by omega,rfl,hZ,q+1,by omega,by simp only[↓sU,sD,rE,↓reduceIte,rA,p1],by simp only[↓sU,sD,rE,↓reduceIte,rA,p7],by simp only[↓sU,sD,rE,↓reduceIte,rA,p8],by simp only[↓sU,sD,rE,↓reduceIte,rA,p9],by simp only[↓sU,sD,rE,↓reduceIte,rA,p10],by simp only[↓sU,sD,rE,↓reduceIte,rA,Ab (htk.2 (.inl hmq))],by simp only[↓sU,sD,rE,↓reduceIte,rA]⟩
    ·rw[Aa hmq] at p11;obtain⟨ub,uq,u,ui,us,ult,ul⟩:=lW hQ2.is hlq;have ul:=ul Z (Same.refl _);simp only[↓sU,sD,rE,↓reduceIte,rA,p7,p10,p11,p12,aE,ui,ul];refine aY ?_;simp only[↓sU,sD,rE,↓reduceIte,rA];refine aP (mD H us (hr.is.same hZ) (by rw[hall _ (aCW hlq)];omega)) ?_;rintro _ Z2 ⟨rfl,hZ2⟩;try simp only[↓sU,sD,rE,↓reduceIte,rA]
     refine aF ?_;simp only[↓sU,sD,rE,↓reduceIte,rA,p12,w2];refine⟨k3 - 1,by omega,rfl,hZ.trans hZ2,q+1,by omega,by simp only[↓sU,sD,rE,↓reduceIte,rA,p1],by simp only[↓sU,sD,rE,↓reduceIte,rA,p7],by simp only[↓sU,sD,rE,↓reduceIte,rA,p8],by simp only[↓sU,sD,rE,↓reduceIte,rA,p9],by simp only[↓sU,sD,rE,↓reduceIte,rA,p10],?_,by simp only[↓sU,sD,rE,↓reduceIte,rA]⟩;simp only[↓sU,sD,rE,↓reduceIte,rA];exact Ey AV.bool (decide_eq_decide.2 ⟨fun h=>htk.2 (.inr h),fun h=>(htk.1 h).resolve_left hmq⟩)
   rintro o ⟨F3,inr3⟩ Z ⟨rfl,q0,hZ,q,hqk,p1,p7,p8,p9,p10,p11,p12⟩;simp only at q0 p1 p7 p8 p9 p10 p11 p12;subst q0;obtain rfl:q=W.length:=by omega
   rw[Ea] at p11;have hQ2:=hQ1.step hZ;have hyZ:=y01.trans hZ;try simp only[↓sU,sD,rE,↓reduceIte,rA]
   refine bE ?_;by_cases hmem:eS w m∈W
   ·have hst:W1=W:=by rw[hnx];unfold vB;rw[if_pos hmem]
    rw[Ab hmem] at p11;simp only[↓sU,sD,rE,↓reduceIte,rA,p11,dH,Bl];refine aK (by simp only[↓sU,sD,rE,↓reduceIte,rA]) (aI ?_);try simp only[↓sU,sD,rE,↓reduceIte,rA]
    refine aF ?_;simp only[↓sU,sD,rE,↓reduceIte,rA,p9,w1];refine⟨k2 - 1,by omega,rfl,hY.trans hyZ,j+1,v2,by omega,by rw[hww,←hW1,hst];exact hQ2,by rw[hww,←hW1,hst];omega,by refine⟨?_,?_,?_,?_⟩<;>simp only[↓sU,sD,rE,↓reduceIte,rA,p1,p7,p8]⟩
   ·have hst:W1=W++ [eS w m]:=by rw[hnx];unfold vB;rw[if_neg hmem]
    rw[Aa hmem] at p11;simp only[↓sU,sD,rE,↓reduceIte,rA,p11,dH,Bq];refine aM (by simp only[↓sU,sD,rE,↓reduceIte,rA]) (aF ?_);have hr2:=hr.is.same hZ;simp only[↓aC,aB,rE,↓reduceIte,rA,p7,p10];refine fX (oP hr2 (by simp only[↓aC,aB,rE,↓reduceIte,rA,p10])) ?_;intro Y3 y3 m3 c3;have hyn:=hyZ.1;have hx0:=x0.1;obtain⟨v3,Y4,eA,hQ4,e2,e3,e4⟩:=(hQ2.step y3).push (bytes:=24) (t:=Z.nx) (m:=Y.nx) ((hY.trans hyZ).trans y3) hY.1 (by omega) (fun c hc=>(hQ.blk hc).2.1) (hr2.same y3) (fun c hc=>by have:=(aEe hr hc).1;omega) c3 (by unfold room;omega) (by unfold room;omega);try simp only[↓aC,aB,rE,↓reduceIte,rA,p7,p10]
    refine fD (fun call=>by simp only[↓aC,aB,rE,↓reduceIte,rA,mL];exact eA) ?_;simp only[↓sU,sD,rE,↓reduceIte,rA];refine aF ?_;simp only[↓sU,sD,rE,↓reduceIte,rA,p9,w1];refine⟨k2 - 1,by omega,rfl,⟨by have:=hY.1;omega,fun c hc=>?_⟩,j+1,v3,by omega,by rw[hww,←hW1,hst];exact hQ4,by rw[hww,←hW1,hst,Ak,Bz];omega,by refine⟨?_,?_,?_,?_⟩<;>simp only[↓sU,sD,rE,↓reduceIte,rA,p1,p8]⟩;have hcY:=Ae hc hY.1;rw[e4 c (by omega) fun e=>by have:=(hQ.blk e).1;omega];exact((hY.trans hyZ).trans y3).2 c hc
  ·rintro o ⟨F2,inr2⟩ Y ⟨rfl,q0,hY,j,v2,hjk,hQ,hle2,p1,p7,p8,_⟩;simp only at q0 p1 p7 p8;subst q0;obtain rfl:j=L.length:=by omega
   rw[Ea,←hsuc] at hQ hle2;try simp only[↓sU,sD,rE,↓reduceIte,rA]
   refine bE ?_;simp only[↓sU,sD,rE,↓reduceIte,rA,p7,hQ.len];by_cases h1000:1000<(cN (eM g.nodes.length) L (t+1)).length
   ·refine aM (by simp only[↓sU,sD,rE,↓reduceIte,rA,Ab (show(((cN (eM g.nodes.length) L (t+1)).length:Nat):Int)>1000 by omega)]) ?_;refine bE ?_;simp only[↓sU,sD,rE,↓reduceIte,rA];refine aO ?_;simp only[↓sU,sD,rE,↓reduceIte,rA];refine .inr ⟨hY,.inr ⟨rfl,t,fun s hs=>?_,h1000⟩⟩;rcases Bx s t with h | h
    ·exact hlt1 s h
    ·obtain rfl:s=t:=by omega
     exact htl
   refine aK (by simp only[↓sU,sD,rE,↓reduceIte,rA,Aa (show ¬ (((cN (eM g.nodes.length) L (t+1)).length:Nat):Int)>1000 by omega)]) (aI ?_);try simp only[↓sU,sD,rE,↓reduceIte,rA]
   exact .inl ⟨hY,v2,hQ,by omega,by refine⟨?_,?_,?_⟩<;>simp only[↓sU,sD,rE,↓reduceIte,rA,p1,p7,p8]⟩
  rintro o ⟨F2,inr2⟩ Y (⟨rfl,q0,hY,v2,hQ,hle2,p1,p7,p8⟩ | ⟨rfl,h⟩);rotate_left
  ·exact .inr ⟨rfl,h⟩
  simp only at q0 p1 p7 p8;subst q0;try simp only[↓sU,sD,rE,↓reduceIte,rA]
  refine aF ?_;simp only[↓sU,sD,rE,↓reduceIte,rA,p8,w0];refine⟨k - 1,by omega,rfl,hY,t+1,v2,by omega,hQ,fun s hs=>?_,fun s hs=>?_,by refine⟨?_,?_,?_⟩<;>simp only[↓sU,sD,rE,↓reduceIte,rA,p1,p7]⟩
  ·rcases Bx s t with h | h
   ·exact hlt1 s h
   ·obtain rfl:s=t:=by omega
    exact htl
  ·rcases Bx t s with h | h
   ·obtain rfl:s=t+1:=by omega
    exact hle2
   ·exact hle1 s h
 rintro o ⟨F,inr⟩ X (⟨rfl,q0,hX,t,v,hP,hE2,hle,p7⟩ | ⟨rfl,hX,hE2,p4,p5⟩);rotate_left
 ·simp only at p4 p5;simp only[↓sU,sD,rE,↓reduceIte,rA,p4,p5];exact⟨s12.trans hX,.inr (.inl ⟨e0,hE2,rfl⟩)⟩
 simp only at q0 p7;subst q0;try simp only[↓sU,sD,rE,↓reduceIte,rA]
 obtain⟨C,dec,d,R,on0,hd⟩:=aE5 H hP (by omega) (fun w hw=>(vU hAll hw).1) (show g.nodes.length≤100000 by omega);have hnd:(cN (eM g.nodes.length) L t).Nodup:=rR;have hlen:=hP.len;have hpos:0<(cN (eM g.nodes.length) L t).length:=by
  obtain⟨cs,h1,_⟩:=hP.ex;exact h1.pos
 have hX2:∀ {Y:St} {e:Array AV},C.On X Y e→Same S2 Y:=fun on=>bQ.same hX on.2.2 R.bb;obtain⟨W,hW⟩:∃W,W=cN (eM g.nodes.length) L t:=⟨_,rfl⟩;rw[←hW] at hE2 hle R hd hnd hlen hpos;clear hW hP;have hCn:C.n=W.length:=R.en;refine aA (aS (Q:=fun o A' Y=>o= .normal∧aN1 C dec X v W 0 A' Y) (aA (aF ?_)) ?_)
 ·simp only[↓sU,sD,rE,↓reduceIte,rA];refine aJ (bB (aN1 C dec X v W) ?_ W.length _ _ ⟨rfl,0,d,by omega,on0,by rw[hd],by rw[Bp];exact List.Pairwise.nil,by simp only[↓sU,sD,rE,↓reduceIte,rA,p7],by simp only[↓sU,sD,rE,↓reduceIte,rA];try rfl⟩);clear p7;rintro k ⟨F,inr⟩ Y ⟨q0,i,e,hik,on,pm,so,p7,p13⟩;simp only at q0 p7 p13;subst q0;have hes:e.size=W.length:=by rw[on.1.1,R.en]
  refine eG ?_;simp only[↓sU,sD,rE,↓reduceIte,rA,p7,p13,hlen];by_cases hlt:i<W.length;rotate_left
  ·refine aK (by simp only[↓sU,sD,rE,↓reduceIte,rA,Aa (show ¬ (i:Int)<((W.length:Nat):Int) by omega)]) (aU ?_);simp only[↓sU,sD,rE,↓reduceIte,rA];obtain rfl:k=0:=by omega
   exact⟨rfl,i,e,hik,on,pm,so,by refine⟨?_,?_⟩<;>simp only[↓sU,sD,rE,↓reduceIte,rA,p7,p13]⟩
  refine aM (by simp only[↓sU,sD,rE,↓reduceIte,rA,Ab (show(i:Int)<((W.length:Nat):Int) by omega)]) (aI ?_);try simp only[↓sU,sD,rE,↓reduceIte,rA]
  have w0:IntKind.i64.wrap ((i:Int)+1)=((i+1:Nat):Int):=by rw[wrap_i64 (by omega) (by omega)];omega
  refine aA (aS (Q:=fun o A' Z=>o= .normal∧A'.inr=false∧∃e2:Array AV,C.On X Z e2∧(e2.toList.map dec).Perm W∧((e2.toList.map dec).take (i+1)).Pairwise jF∧aD 7 A'.F=v∧aD 13 A'.F= .int .i64 (i:Int)) (aJ (aA (aF ?_))) ?_)
  ·simp only[↓sU,sD,rE,↓reduceIte,rA,p13];refine aJ (bB (aOK C dec X v W i) ?_ i _ _ ⟨rfl,Ah _,e,on,pm,aIs (by rw[Bc,Bw];omega) so,by simp only[↓sU,sD,rE,↓reduceIte,rA,p7],by simp only[↓sU,sD,rE,↓reduceIte,rA,p13],by simp only[↓sU,sD,rE,↓reduceIte,rA];try rfl⟩);clear p7 p13 so pm on hes;rintro k2 ⟨F2,inr2⟩ Z ⟨q0,hki,e2,on2,pm2,ins,p7,p13,p14⟩;simp only at q0 p7 p13 p14;subst q0;have hnd2:(e2.toList.map dec).Nodup:=pm2.nodup_iff.2 hnd;have hes:e2.size=W.length:=by rw[on2.1.1,R.en]
   rcases k2 with _ | u
   ·refine aA (aA (cR (fun _=>False) ?_));intro X1 x1;simp only[↓sU,sD,rE,↓reduceIte,rA,p14,Aa (show ¬ ((0:Nat):Int)>0 by omega)];refine aK (by simp only[↓aC,aB,rE,↓reduceIte];rfl) (aU ?_);simp only[↓sU,sD,rE,↓reduceIte,rA];exact⟨e2,on2.step x1,pm2,aHo ins hnd2 (.inl rfl),by refine⟨?_,?_⟩<;>simp only[↓sU,sD,rE,↓reduceIte,rA,p7,p13]⟩
   have w1:IntKind.i64.wrap (((u+1:Nat):Int) - 1)=(u:Int):=iT (a:=u+1) (by omega) (by omega);rw[←R.ev] at p7;refine aA (aA (cR (fun _=>False) ?_));intro X1 x1;simp only[↓sU,sD,rE,↓reduceIte,rA,p7,p14,Ab (show((u+1:Nat):Int)>0 by omega),w1,aE,C.ia (i:=u+1) (by omega),C.ia (i:=u) (by omega),on2.1.ld (i:=u+1) (by omega),on2.1.ld (i:=u) (by omega),on2.1.self (i:=u+1) (by omega),on2.1.self (i:=u) (by omega),Ctx.old on2.1 (i:=u+1) (by omega),Ctx.old on2.1 (i:=u) (by omega)];refine bX rfl ?_;simp only[↓sU,sD,rE,↓reduceIte,rA];have on3:=on2.step x1;have r1:=on3.1.2.1 (u+1) (by omega);have r2:=on3.1.2.1 u (by omega);refine aP (aGZ H (R.isl _ _ on3.2.1 r1) (R.isl _ _ on3.2.1 r2) (by rw[R.len _ r1,R.len _ r2]) (by rw[R.len _ r1];omega)) ?_;rintro _ Y1 ⟨hY1,z,rfl,hz⟩;refine⟨hY1,?_⟩;try simp only[↓sU,sD,rE,↓reduceIte,rA]
   have on4:=on3.step hY1;rw[←aAZ (dec:=dec) (e:=e2) (i:=u+1) (by omega),←aAZ (dec:=dec) (e:=e2) (i:=u) (by omega)] at hz;cases z with
   | false=>
    refine aK (by simp only[↓aC,aB,rE,↓reduceIte]) (aU ?_);simp only[↓sU,sD,rE,↓reduceIte,rA];exact⟨e2,on4,pm2,aHo ins hnd2 (.inr fun h=>by have:=hz.2 h;cases this),by refine⟨?_,?_⟩<;>simp only[↓sU,sD,rE,↓reduceIte,rA,p7,R.ev,p13]⟩
   | true=>
    obtain⟨ins3,pm3⟩:=aJg ins (hz.1 rfl);refine aM (by simp only[↓aC,aB,rE,↓reduceIte]) (aI ?_);try simp only[↓aC,aB,rE,↓reduceIte]
    refine aA (aJ ?_);refine gK C (u+1) u 15 on4 (by omega) (by omega) rfl (by decide) (by decide) (by decide) ?_;simp only[↓aC,aB,rE,↓reduceIte,Bo,Bp,rA,p7,p14,w1,aE,C.ia (i:=u+1) (by omega),C.ia (i:=u) (by omega),on4.1.ld (i:=u+1) (by omega),on4.1.ld (i:=u) (by omega),on4.1.self (i:=u+1) (by omega),on4.1.self (i:=u) (by omega)];intro Z2 hZ2;refine aF ?_;simp only[↓aC,aB,rE,↓reduceIte,p14,w1];exact⟨u,by omega,rfl,by omega,_,hZ2,by rw[aHf (by omega)];exact pm3.trans pm2,by rw[aHf (by omega)];exact ins3,by refine⟨?_,?_,?_⟩<;>simp only[↓aC,aB,rE,↓reduceIte,p7,R.ev,p13]⟩
  rintro o ⟨F2,inr2⟩ Z ⟨rfl,q0,e2,on2,pm2,so2,p7,p13⟩;simp only at q0 p7 p13;subst q0;try simp only[↓sU,sD,rE,↓reduceIte,rA]
  refine aF ?_;simp only[↓sU,sD,rE,↓reduceIte,rA,p13,w0];exact⟨k - 1,by omega,rfl,i+1,e2,by omega,on2,pm2,so2,by refine⟨?_,?_⟩<;>simp only[↓sU,sD,rE,↓reduceIte,rA,p7]⟩
 rintro o ⟨F,inr⟩ Y ⟨rfl,q0,i,e,hik,on,pm,so,p7,p13⟩;simp only at q0 p7;subst q0;have hel:(e.toList.map dec).length=W.length:=by rw[Bc,Bw,on.1.1,R.en]
 rw[Ax (by omega)] at so;try simp only[↓sU,sD,rE,↓reduceIte,rA]
 refine bE ?_;simp only[↓sU,sD,rE,↓reduceIte,rA,p7];refine aO ?_;simp only[↓sU,sD,rE,↓reduceIte,rA];exact⟨s12.trans (hX2 on),.inr (.inr ⟨e0,W,_,v,hE2,pm,so,R.is hpos on,rfl⟩)⟩
end Go.Ev.Gl
