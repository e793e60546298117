import Derived.Test.YtdkehphobhnjoaaGl26
open Nat renaming reduceEqDiff -> rE, reduceAdd -> rA
set_option maxHeartbeats 0
set_option linter.unusedSimpArgs false
set_option linter.unusedVariables false
namespace Go.Ev.Gl
open Go.Sort
variable {fns:T dU}
noncomputable instance lexDec(a b:bu):Decidable (lQ a b):=Classical.propDecidable _
theorem aKB{S:St}{v:AV}{l l':bu}(h:bO .i64 S v l)(h':bO .i64 S v l'):l=l':=by
 have hl:l.length=l'.length:=by
  have:=h.len.symm.trans h'.len;simp only[Ah,Ao,AV.int.injEq,true_and] at this;omega
 refine aDT hl fun i hi=>?_;have a:=h.ld (i:=i) ay;have b:=h'.ld hi;rw[a] at b;simpa using b
noncomputable def aIE(S:St)(x:AV):bu:=@dite _ (∃l,bO .i64 S x l) (Classical.propDecidable _) (fun h=>h.choose) (fun _=>[])
theorem aJ2{S:St}{x:AV}{l:bu}(h:bO .i64 S x l):aIE S x=l:=by
 unfold aIE;rw[dif_pos ⟨l,h⟩];exact aKB (Exists.choose_spec (⟨l,h⟩:∃l,bO .i64 S x l)) h
noncomputable def ltX(dec:AV->bu)(x y:AV):Bool:=decide (lQ (dec x) (dec y))
theorem aN0(dec:AV->bu):SWO (ltX dec) where
 irrefl x:=Aa fun h=>oJ h
 trans x y z h1 h2:=Ab (tL (Ef h1) (Ef h2))
 ntrans x y z h1 h2:=Aa fun h3=>by
  have h1:=of_decide_eq_false h1;have h2:=of_decide_eq_false h2;rcases aCz (dec y) (dec x) with e | e | e
  ·rw[<-e] at h3;exact h2 h3
  ·exact h2 (tL e h3)
  ·exact h1 e
noncomputable def aQ6(H:Has fns)(b n sz N:Nat)(o:Bool)(cs:b6)(dec:AV->bu)(S1:St)(hd:∀x∈cs,bO .i64 S1 x (dec x)/\aX x≠some b/\(dec x).length=N)(hn:n<=1000000000)(hN:N<=100000):Ctx fns false 1 where
 b:=b
 off:=0
 n:=n
 v:=.sl b 0 n n o
 opn:=o
 sz:=sz
 pre:=[]
 post:=[]
 cl:=fun x=>[x]
 P:=fun x=>x∈cs
 f:=.fn 41 [] []
 I:=fun S=>∀x∈cs,bO .i64 S x (dec x)
 lt:=ltX dec
 hpre:=rfl
 hcl:=by
  intro x hx;have h:=(hd x hx).1;exact⟨rfl,bO.self h,bO.cells h,rfl⟩
 hv:=fun _=>⟨_,_,rfl⟩
 hn:=hn
 hI:=fun S S' h hs x hx=>fO (h x hx) hs.1 fun c hc=>hs.2 c (fM (h x hx) hc) fun e=>(hd x hx).2.1 (by rw[hc,e])
 cmp:=by
  intro S x y h hx hy;refine aQ (aKh H (h x hx) (h y hy) (by rw[(hd x hx).2.2,(hd y hy).2.2]) (by rw[(hd x hx).2.2];exact hN)) ?_;rintro _ S' ⟨hS,c,rfl,hc⟩;exact⟨hS,c,rfl,decide_eq_decide.2 hc⟩
structure aP0(C:Ctx fns false 1)(dec:AV->bu)(S0:St)(v:AV)(n N:Nat):Prop where
 ev:C.v=v
 en:C.n=n
 ef:C.f= .fn 41 [] []
 elt:C.lt=ltX dec
 bb:S0.nx<=C.b
 at0:∃o,v= .sl C.b 0 n n o
 isl:∀X x,C.I X->C.P x->bO .i64 X x (dec x)
 len:∀x,C.P x->(dec x).length=N
 mem:∀X (e:Array AV),C.At X e->0<n->C.b<X.nx/\∃o s,X.h.get C.b=some (.cells e.toList o s)
theorem aG4{S0 S:St}{v:AV}{W:bt}{N:Nat}(H:Has fns)(h:mV S0 S v W)(hn:W.length<=1000000)(hW:∀w∈W,w.length=N)(hN:N<=100000):∃ (C:Ctx fns false 1) (dec:AV->bu) (d:Array AV),aP0 C dec S0 v W.length N/\C.On S S d/\d.toList.map dec=W:=by
 have⟨cs,g1,g2⟩:=h.ex;obtain⟨b,o,sz,rfl,k1,k2,k3⟩:=g1.at;have hcl:=g1.csl;have hel:∀ (j:Nat) (x:AV),cs[j]? =some x->bO .i64 S x (W.getD j [])/\aX x≠some b/\j<W.length:=fun j x hj=>by
  have hlt:=(Aj.1 hj).1;have⟨r,e1,e2,e3⟩:=g2.2 j ay;rw[hj] at e1;cases e1;exact⟨e2,fun e=>(e3 b e).2 rfl,ay⟩
 have hd:∀x∈cs,bO .i64 S x (aIE S x)/\aX x≠some b/\(aIE S x).length=N:=fun x hx=>by
  have⟨j,hj⟩:=List.getElem?_of_mem hx;have⟨e1,e2,e3⟩:=hel j x hj;rw[aJ2 e1];refine⟨e1,e2,hW _ ?_⟩;rw[Ad,Ac e3];exact Bo e3
 refine⟨aQ6 H b W.length sz N o cs (aIE S) S hd ay hN,aIE S,cs.toArray,⟨rfl,rfl,rfl,rfl,k1,⟨o,rfl⟩,fun X x h1 h2=>h1 x h2,fun x hx=>(hd x hx).2.2,fun X e he hp=>?_⟩,Ctx.On.refl ⟨by simp [aQ6,hcl],fun i hi=>?_,fun h0=>⟨k2,?_⟩⟩ (fun x hx=>(hd x hx).1),?_⟩
 ·have⟨m1,m2⟩:=he.2.2 hp;refine⟨m1,o,sz,?_⟩;have m2:X.h.get b=some (.cells ([]++e.toList.flatMap (fun x=>[x])++ []) o sz):=m2;show X.h.get b=_;rw[m2,Bq,Bi];simp
 ·have hi:i<W.length:=hi;have:=aNY cs.toArray (i:=i) (by simpa [hcl] using hi);rw[List.toList_toArray] at this;exact Bu this
 ·show S.h.get b=some (.cells ([]++cs.toArray.toList.flatMap (fun x=>[x])++ []) o sz);rw[k3,Bq,Bi,List.toList_toArray];simp
 ·rw[List.toList_toArray];refine List.ext_getElem? fun j=>?_;rw[Bc];by_cases hj:j<W.length
  ·have hj2:j<cs.length:=by omega
   rw[Ac hj2,Ac hj];have:=aJ2 (hel j _ (Ac hj2)).1;rw[Ad,Ac hj] at this;show some (aIE S cs[j])=_;rw[this];rfl
  ·rw[Bz ay,Bz ay];rfl
theorem aP0.is{C:Ctx fns false 1}{dec:AV->bu}{S0 S1 X:St}{v:AV}{n N:Nat}{e:Array AV}(R:aP0 C dec S0 v n N)(hp:0<n)(on:C.On S1 X e):aP 1 pF X v (e.toList.map dec):=by
 have⟨m1,o',s,m2⟩:=R.mem X e on.1 hp;have⟨o,ho⟩:=R.at0;have el:(e.toList.map dec).length=n:=by rw[Ay,Cu,on.1.1,R.en]
 refine .inr ⟨C.b,0,n,o,e.toList,by rw[el];exact ho,by rw[el];exact Ag _,m1,by unfold cJ;rw[m2];rfl,fun i l hi=>?_⟩;rw[Bc] at hi;obtain⟨x,hx,rfl⟩:=Az.1 hi;refine⟨[x],rfl,fun j y hj=>?_,x,rfl,R.isl X x on.2.1 (on.1.all x (Bu hx))⟩;cases j with
 | zero=>
  cases hj;rw[An,Dm];exact hx
 | succ j=>simp at hj
theorem aKZ{S0 S:St}{v:AV}{W:bt}{N:Nat}(H:Has fns)(hS:Same S0 S)(h:mV S0 S v W)(hn:W.length<=1000000)(hnd:W.Nodup)(hW:∀w∈W,w.length=N)(hN:N<=100000):gH fns (.fn 40 [] []) [v,.fn 41 [] []] S fun _ S'=>Same S0 S'/\∃W',W'.Perm W/\W'.Pairwise lQ/\aP 1 pF S' v W':=by
 have⟨cs,g1,_⟩:=h.ex;have hpos:=g1.pos;clear g1;have⟨C,dec,d,R,on0,hd⟩:=aG4 H h hn hW hN;have hds:d.size=W.length:=by rw[on0.1.1,R.en]
 have sp:=aEx (C:=C) H (by rw[R.elt];exact aN0 _) on0.1 on0.2.1 (by rw[R.ev,R.en];exact h.len);rw[R.ev,R.ef] at sp;refine aQ sp ?_;rintro _ S' ⟨e,on,pm,so⟩;rw[R.en] at pm so;rw[R.elt] at so;have hes:e.size=W.length:=by rw[on.1.1,R.en]
 have pm2:e.toList.Perm d.toList:=by
  have:=pm.2.2
  rwa [show d.extract 0 W.length=d by rw[<-hds,Array.extract_size],show e.extract 0 W.length=e by rw[<-hes,Array.extract_size]] at this
 have pmW:(e.toList.map dec).Perm W:=by
  have:=pm2.map dec
  rwa [hd] at this
 have ndE:(e.toList.map dec).Nodup:=pmW.nodup_iff.2 hnd;refine⟨cC.same hS on.2.2 R.bb,e.toList.map dec,pmW,?_,R.is hpos on⟩;rw[Dw];intro i j hi hj hij;rw[Ay,Cu] at hi hj;have h5:=so i j (Da _) hij ay;rw[getElem!_pos e j hj,getElem!_pos e i hi] at h5;have h6:¬lQ (dec e[j]) (dec e[i]):=of_decide_eq_false h5;have h7:=(Dw.1 ndE) i j (by simpa using hi) (by simpa using hj) hij;simp only[List.getElem_map,Array.getElem_toList] at h7 ⊢;rcases aCz (dec e[i]) (dec e[j]) with h8 | h8 | h8
 ·exact absurd h8 h7
 ·exact h8
 ·exact absurd h8 h6
theorem uX{W:bt}{t:Nat}(h:t<W.length):W.getD t []∈W:=by
 rw[Ad,Ac h];exact Bo h
theorem aNH{A R:bt}{t:Nat}(h:t<A.length):(A++R).getD t []=A.getD t []:=by
 rw[Ad,Al h,Ad]
theorem aMb{N:Nat}:(eU N).length=N/\∀x∈eU N,0<=x/\x<(N:Int):=by
 refine⟨by unfold eU;rw[Ay,Dr],fun x hx=>?_⟩;unfold eU at hx;obtain⟨j,hj,rfl⟩:=Dl.1 hx;rw[Fb] at hj;omega
theorem aBc{g:bD}{L:bt}(hL:∀m∈L,gD g m){t:Nat}{w:bu}(hw:w∈cQ (eU g.bk.length) L t):w.length=g.bk.length/\nE w g.bk.length:=
 aCI (n:=g.bk.length) aMb (fun m hm=>⟨(hL m hm).M.1,(hL m hm).M.2⟩) w hw
theorem aJT{g:bD}{L:bt}(hL:∀m∈L,gD g m){t j:Nat}(ht:t<(cQ (eU g.bk.length) L t).length){w:bu}(hw:w∈stepG ((cQ (eU g.bk.length) L t).getD t []) (L.take j) (cQ (eU g.bk.length) L t)):w.length=g.bk.length/\nE w g.bk.length:=by
 refine tH (Q:=fun w=>w.length=g.bk.length/\nE w g.bk.length) (fun x hx=>aBc hL hx) (fun m hm=>?_) w hw;have h0:=aBc hL (uX ht);have hm:=hL m (Eb hm);have⟨a,b⟩:=aCH h0.2 hm.M.1 hm.M.2;exact⟨by rw[a,h0.1],b⟩
theorem aON{n:Nat}(hn:n<=1000){W:bt}{m:bu}(hW:∀w∈W,nE w n)(hm:nE m n):lA m∈W.map lA↔m∈W:=by
 constructor
 ·intro h;have⟨w,hw,e⟩:=Dl.1 h;rw[<-aGM (fun x hx=>(hW w hw x hx).1) (fun x hx=>(hm x hx).1) e];exact hw
 ·exact fun h=>Dl.2 ⟨m,h,rfl⟩
def aQs(S':St)(r:AV)(g:bD)(L:bt):Prop:=(jE g L≠0/\r= .tup [.cb,.int .i64 (jE g L)])\/(jE g L=0/\aBw (eU g.bk.length) L 1000 none/\r= .tup [.cb,.int .i64 5])\/(jE g L=0/\∃W W' v,aBw (eU g.bk.length) L 1000 (some W)/\W'.Perm W/\W'.Pairwise lQ/\aP 1 pF S' v W'/\r= .tup [v,.int .i64 0])
theorem aC1{k:IntKind}{S:St}{v:AV}{l:bu}{mb:Nat}{es:List (AV×AV)}(h:bO k S v l)(hm:S.h.get mb=some (.map es)):aX v≠some mb:=fun e=>by
 rcases h with⟨_,rfl | rfl⟩ | ⟨b,off,cap,o,cs,rfl,_,_,h3,_⟩
 ·cases e
 ·cases e
 ·cases e;unfold cJ at h3;rw[hm] at h3;cases h3
structure PgB(S0 X:St)(v:AV)(mb:Nat)(W:bt):Prop where
 same:Same S0 X
 grp:mV S0 X v W
 lm:S0.nx<=mb
 lm2:mb<X.nx
 map:X.h.get mb=some (.map (encS (W.map lA)))
section
variable {S0 X X':St}{v:AV}{mb:Nat}{W:bt}
theorem PgB.step(h:PgB S0 X v mb W)(hs:Same X X'):PgB S0 X' v mb W:=⟨h.same.trans hs,h.grp.step hs,h.lm,Ae h.lm2 hs.1,(hs.2 _ h.lm2).trans h.map⟩
theorem mV.off{es:List (AV×AV)}(h:mV S0 X v W)(hm:X.h.get mb=some (.map es)):aX v≠some mb:=fun e=>by
 have⟨_,_,o,s,cs,h1⟩:=h.blk e;rw[hm] at h1;cases h1
theorem mV.upd{es:List (AV×AV)}{b:Option AB}(h:mV S0 X v W)(hm:X.h.get mb=some (.map es)):mV S0 ⟨X.h.set mb b,X.nx⟩ v W:=by
 have ho:=h.off hm;have⟨cs,h1,h2⟩:=h.ex;have hh:∀c,c≠mb->(X.h.set mb b).get c=X.h.get c:=fun c hc=>by rw[dd,if_neg hc]
 refine⟨cs,h1.move (Ag _) fun c hc=>hh c fun e=>ho (by rw[hc,e]),h2.1,fun j hj=>?_⟩;have⟨r,a1,a2,a3⟩:=h2.2 j hj;exact⟨r,a1,fO a2 (Ag _) fun c hc=>hh c fun e=>aC1 a2 hm (by rw[hc,e]),a3⟩
theorem aLZ{es:List (AV×AV)}{b:Option AB}{r:AV}{l:bu}(h:bO .i64 X r l)(hm:X.h.get mb=some (.map es)):bO .i64 ⟨X.h.set mb b,X.nx⟩ r l:=
 fO h (Ag _) fun c hc=>by
  have:c≠mb:=fun e=>aC1 h hm (by rw[hc,e]);simp only;rw[dd,if_neg this]
theorem PgB.push{t m:Nat}{r:AV}{l:bu}(h:PgB S0 X v mb W)(hm:S0.nx<=m)(hm2:m<=X.nx)(hold:∀c,aX v=some c->c<m)(hr:bO .i64 X r l)(hb:∀c,aX r=some c->m<=c)(h1:W.length+1<=1000)
  {Y:St} (hY:Same ⟨X.h.set mb (some (.map (encS (W.map lA++ [lA l])))),X.nx⟩ Y) (ht:Y.h.get t=some (.cells [r] false 0)):
  ∃v' X',fN 24 1 v (.sl t 0 1 1 false) Y=some (v',X')/\PgB S0 X' v' mb (W++ [l]):=by
 have g1:=(mV.upd (b:=some (.map (encS (W.map lA++ [lA l])))) h.grp h.map).step hY;have r1:=(aLZ (b:=some (.map (encS (W.map lA++ [lA l])))) hr h.map).same hY;have hs:Same S0 Y:=⟨Au h.same.1 hY.1,fun c hc=>by
  have h2:=hY.2 c (Ae hc h.same.1);simp only at h2;rw[dd,if_neg (az h.lm)] at h2;exact h2.trans (h.same.2 c hc)⟩
 have hmY:Y.h.get mb=some (.map (encS (W.map lA++ [lA l]))):=by
  have h2:=hY.2 mb h.lm2;simp only at h2;rw[dd,if_pos rfl] at h2;exact h2
 have hn:X.nx<=Y.nx:=hY.1;have⟨v',X',e,a1,a2,a3,a4⟩:=g1.push (bytes:=24) (t:=t) hs hm ay hold r1 hb ht bf bf;have hov:=g1.off hmY;refine⟨v',X',e,⟨⟨az hs.1,fun c hc=>?_⟩,a1,h.lm,az h.lm2,?_⟩⟩
 ·have hc2:=hs.1;rw[a4 c ay fun e=>by have:=(g1.blk e).1;omega];exact hs.2 c hc
 ·rw[a4 mb (az h.lm2) hov,hmY,Dd];rfl
end
theorem aF3{S S':St}{v:AV}{l:bu}{c:Nat}(h:mG S S' v l)(hc:aX v=some c):S.nx<=c/\c<S'.nx:=by
 obtain⟨b,rfl,h1,h2,_⟩:=h;cases hc;exact⟨h1,h2⟩
def aRS(S0:St)(mv:AV)(mb:Nat)(g:bD)(L:bt)(t:Nat)(k:Nat)(A:bS)(X:St):Prop:=A.inr=false/\∃ (j:Nat) (v:AV),j+k=L.length/\PgB S0 X v mb (stepG ((cQ (eU g.bk.length) L t).getD t []) (L.take j) (cQ (eU g.bk.length) L t))/\(stepG ((cQ (eU g.bk.length) L t).getD t []) (L.take j) (cQ (eU g.bk.length) L t)).length<=1000/\aD 1 A.F=mv/\aD 8 A.F=v/\aD 9 A.F= .map mb/\aD 10 A.F= .int .i64 (t:Int)/\aD 47 A.F=mv/\aD 48 A.F= .int .i64 (L.length:Int)/\aD 49 A.F= .int .i64 (j:Int)
def aSn(S0:St)(mv:AV)(mb:Nat)(g:bD)(L:bt)(k:Nat)(A:bS)(X:St):Prop:=A.inr=false/\∃ (t:Nat) (v:AV),t+k=1001/\PgB S0 X v mb (cQ (eU g.bk.length) L t)/\(∀s,s<t->s<(cQ (eU g.bk.length) L s).length)/\(∀s,s<=t->(cQ (eU g.bk.length) L s).length<=1000)/\aD 1 A.F=mv/\aD 8 A.F=v/\aD 9 A.F= .map mb/\aD 10 A.F= .int .i64 (t:Int)
theorem aG7{S:St}{nv iv mv:AV}{g:bD}{L:bt}(H:Has fns)(hn:aP 6 cI S nv g.bk)(hi:aP 2 cW S iv g.bn)(hln:g.bk.length<=1000)(hm:aP 1 pF S mv L):
  gH fns (.fn 13 [] []) [.agg [.int .i64 g.bo,nv,iv],mv] S fun r S'=>Same S S'/\aQs S' r g L:=by
 refine cF H.f13 (by simp) ?_;refine af ?_;refine bQ ?_;refine dV (by refine af ?_;exact bL _) ?_;intro S1 s1 n1 g1;refine af ?_;refine bQ (cm (iT g1) ?_);refine bE (af ?_);refine aQ (xT H (aP.same (E:=cI) bT hn s1) (aP.same (E:=cW) cM hi s1) ay) ?_;rintro _ S2 ⟨s2,p,rfl,hlook⟩;refine df @ex0 @ex1 ?_;have s12:=s1.trans s2;refine fE (af ?_);by_cases h0:dB g=0;rotate_left
 ·have hE:jE g L=dB g:=by unfold jE;rw[if_pos h0]
  refine aM (fg (Ab (show dB g≠0 from h0))) ?_;refine bQ (af ?_);refine aR (af ?_);exact⟨s12,.inl ⟨by rw[hE];exact h0,by rw[hE]⟩⟩
 have hE:jE g L=if 16<L.length then 4 else kD g L:=by unfold jE;rw[if_neg (fun h=>h h0)]
 refine aK (fg (Aa (show ¬dB g≠0 from fun h=>h h0))) (aH ?_);refine af ?_;obtain⟨wb,plb,szb,pv0,TT,Z,rfl,hwb,hT,hTl,hpv,hB⟩:=hlook h0;have hn2:=aP.same (E:=cI) bT hn s12;have hi2:=aP.same (E:=cW) cM hi s12;have hm2:=aP.same (E:=pF) gL hm s12;refine fE (af ?_);refine bE (af ?_);refine aQ (aAf H h0 hn2 hi2 hm2 hT hTl hpv hB) ?_;rintro _ S3 ⟨s3,imv,rfl,_,_⟩;rw[<-hE];refine df @ex0 @ex1 ?_;have s13:=s12.trans s3;refine bQ (af ?_);by_cases e0:jE g L=0;rotate_left
 ·refine aM (fg (Ab (show jE g L≠0 from e0))) ?_;refine bQ (af ?_);refine aR (af ?_);exact⟨s13,.inl ⟨e0,rfl⟩⟩
 refine aK (fg (Aa (show ¬jE g L≠0 from fun h=>h e0))) (aH ?_);refine af ?_;have⟨_,hL16,hie⟩:=aES e0;have hAll:∀m∈L,gD g m:=fun m hm=>yU (xM hie m hm);have hm3:=aP.same (E:=pF) gL hm2 s3;refine bQ (aq ?_);refine bE (aq ?_);refine aQ (yK H (hB.w.same s3) (aP.same (E:=cI) bT hn2 s3) ay) ?_;rintro id S4 ⟨hid,s4⟩;refine gO (uK hid.is (ar)) ?_;intro S5 s5 n5 c5;refine aq ?_;have hW5:mV S3 S5 (.sl S4.nx 0 1 1 false) [eU g.bk.length]:=mV.one (hid.is.same s5) (fun c hc=>by have:=aF3 hid hc;omega) c5 s4.1 ay;refine bQ (aq ?_);refine gO aNs ?_;intro S6 s6 n6 c6;have hW6:=hW5.step s6;have⟨xb,xq,a,xi,xs,xlt,xl⟩:=jX hW6.is (i:=0) (by simp);have xl:=xl S6 (de _);have xs:bO .i64 S6 a (eU g.bk.length):=xs;have nz:fG (.int .i64 0)=some 0:=rfl;refine d8 nz @aN xi xl ?_;refine bE (aq ?_);refine aQ (aHM H xs (by rw[aMb.1];exact hln) fun x hx=>by have:=aMb.2 x hx;omega) ?_;rintro _ S7 ⟨rfl,s7⟩;have c7:S7.h.get S5.nx=some (.map (encS [])):=(s7.2 _ ay).trans c6;have s37:Same S3 S7:=((s4.trans s5).trans s6).trans s7;have l5:S3.nx<=S5.nx:=(s4.trans s5).1;have hW7:=hW6.step s7;refine fD (v:=.undef) (S1:=⟨S7.h.set S5.nx (some (.map (encS ([]++ [lA (eU g.bk.length)])))),S7.nx⟩) (fun call=>by rw[aER];refine aq ?_;exact aH7 c7 (by simp)) ?_;have hP:PgB S3 ⟨S7.h.set S5.nx (some (.map (encS ([]++ [lA (eU g.bk.length)])))),S7.nx⟩ (.sl S4.nx 0 1 1 false) S5.nx (cQ (eU g.bk.length) L 0):=
  ⟨⟨s37.1,fun c hc=>by simp only;rw[dd,if_neg ay];exact s37.2 c hc⟩,hW7.upd c7,l5,by have:=s7.1;simp only;omega,by simp only;rw[dd,if_pos rfl];rfl⟩
 generalize (⟨S7.h.set S5.nx (some (.map (encS ([]++ [lA (eU g.bk.length)])))),S7.nx⟩:St)=Y0 at hP ⊢;generalize S5.nx=mb at hP ⊢;generalize S4.nx=b0 at hP ⊢;clear hW7 hW6 hW5 xi xl xs xlt c7 c6 c5 hid hB hpv hlook;refine af ?_;have hz0:∀s,s<=0->(cQ (eU g.bk.length) L s).length<=1000:=fun s hs=>by
  obtain rfl:s=0:=by omega
  show 1<=1000;omega
 refine aA (aW (Q:=fun o A' X=>(o= .normal/\A'.inr=false/\∃ (t:Nat) (v:AV),PgB S3 X v mb (cQ (eU g.bk.length) L t)/\aBw (eU g.bk.length) L 1000 (some (cQ (eU g.bk.length) L t))/\(cQ (eU g.bk.length) L t).length<=1000/\aD 8 A'.F=v)\/(o= .ret/\Same S3 X/\aBw (eU g.bk.length) L 1000 none/\aD 4 A'.F= .cb/\aD 5 A'.F= .int .i64 5)) (aA (aG ?_)) ?_)
 ·refine af ?_;refine aL (bK (aSn S3 mv mb g L) ?_ 1001 _ _ ⟨rfl,0,_,ay,hP,fun s hs=>ay,hz0,ag,ag,ag,ah⟩);clear hP;rintro k ⟨F,inr⟩ X ⟨q0,t,v,htk,hP,hlt1,hle1,p1,p8,p9,p10⟩;simp only at q0 p1 p8 p9 p10;subst q0;refine fE (dh p8 p10 hP.grp.len ?_);by_cases htl:t<(cQ (eU g.bk.length) L t).length;rotate_left
  ·refine aK fe (bG ?_);refine af ?_;have hel:t=(cQ (eU g.bk.length) L t).length:=by
    rcases Bk t with e | e
    ·subst e;omega
    ·have h1:=hlt1 (t - 1) ay;have h2:=aE9 (e:=eU g.bk.length) (L:=L) (ay:t - 1<=t);omega
   exact .inl ⟨t,v,hP,.inl ⟨t,rfl,hel,hlt1,hle1⟩,hle1 t (Ag _),ai p8⟩
  refine aM fe (aH ?_);refine af ?_;have hlet:=hle1 t (Ag _);have w0:=dc t
  refine aA (aW (Q:=fun o A' X=>(o= .normal/\aRS S3 mv mb g L t 0 A' X)\/(o= .ret/\Same S3 X/\aBw (eU g.bk.length) L 1000 none/\aD 4 A'.F= .cb/\aD 5 A'.F= .int .i64 5)) (aL (aA (aG ?_))) ?_)
  ·refine dh p1 ((aP.same (E:=pF) gL hm3 hP.same).len) @Ah ?_;refine aL (bK (aRS S3 mv mb g L t) ?_ L.length _ _ ⟨rfl,0,v,ay,by rw[Bw];exact hP,by rw[Bw];exact hlet,ai p1,ai p8,ai p9,ai p10,ag,ag,ah⟩);clear hP p1 p8 p9 p10;rintro k2 ⟨F2,inr2⟩ Y ⟨q0,j,v2,hjk,hQ,hle2,p1,p8,p9,p10,p47,p48,p49⟩;simp only at q0 p1 p8 p9 p10 p47 p48 p49;subst q0;refine bQ (df p48 p49 ?_);by_cases hlt:j<L.length;rotate_left
   ·refine aA (aK fe (bG ?_));refine af ?_;obtain rfl:k2=0:=by omega
    exact .inl ⟨rfl,j,v2,hjk,hQ,hle2,by refine⟨?_,?_,?_,?_,?_,?_,?_⟩<;>simp only[↓sU,sD,rE,↓reduceIte,rA,p1,p8,p9,p10,p47,p48,p49]⟩
   refine aA (aM fe (aH ?_));refine af ?_;have w1:=dc j
   have⟨xb,xq,a,xi,xs,xlt,xl⟩:=jX hm3 hlt;have xl:=xl Y hQ.same;have hA:=hAll _ (uX hlt);have hw:=aBc hAll (uX htl);have hall:∀w∈stepG ((cQ (eU g.bk.length) L t).getD t []) (L.take j) (cQ (eU g.bk.length) L t),nE w g.bk.length:=fun w hw=>(aJT hAll htl hw).2;have hnx:=zU (w:=(cQ (eU g.bk.length) L t).getD t []) (W:=cQ (eU g.bk.length) L t) hlt;have hov:=aIG (w:=(cQ (eU g.bk.length) L t).getD t []) (W:=cQ (eU g.bk.length) L t) (M:=1000) hlt;have hpre:(stepG ((cQ (eU g.bk.length) L t).getD t []) (L.take j) (cQ (eU g.bk.length) L t)).getD t []=(cQ (eU g.bk.length) L t).getD t []/\t<(stepG ((cQ (eU g.bk.length) L t).getD t []) (L.take j) (cQ (eU g.bk.length) L t)).length:=by
    have⟨R,e⟩:=qC (w:=(cQ (eU g.bk.length) L t).getD t []) (L:=L.take j) (W:=cQ (eU g.bk.length) L t);rw[e,aNH htl,Ai];exact⟨rfl,ay⟩
   have hsuc:cQ (eU g.bk.length) L (t+1)=stepG ((cQ (eU g.bk.length) L t).getD t []) L (cQ (eU g.bk.length) L t):=by rw[lS,if_pos htl]
   rw[<-hsuc] at hov;have⟨zb,zq,z,zi,zs,zlt,zl⟩:=jX hQ.grp.is hpre.2;have zl:=zl Y (de _);rw[hpre.1] at zs
   replace hpre:=hpre.2
   generalize hww:(cQ (eU g.bk.length) L t).getD t []=w at *;have⟨hpl,hpi⟩:=aCH hw.2 hA.M.1 hA.M.2;rw[hw.1] at hpl;have hin:nE w (L.getD j []).length:=by rw[hA.M.1];exact hw.2
   have hms:bO .i64 Y a (L.getD j []):=xs.same hQ.same;obtain⟨W1,hW1⟩:∃W1,W1=stepG w (L.take (j+1)) (cQ (eU g.bk.length) L t):=⟨_,rfl⟩;rw[<-hW1] at hnx;generalize stepG w (L.take j) (cQ (eU g.bk.length) L t)=W at *;generalize L.getD j []=m at *;refine aA (aW (Q:=fun o A' Z=>(o= .normal/\A'.inr=false/\∃v3,PgB S3 Z v3 mb W1/\W1.length<=1000/\aD 1 A'.F=mv/\aD 8 A'.F=v3/\aD 9 A'.F= .map mb/\aD 10 A'.F= .int .i64 (t:Int)/\aD 47 A'.F=mv/\aD 48 A'.F= .int .i64 (L.length:Int)/\aD 49 A'.F= .int .i64 (j:Int))\/(o= .ret/\Same S3 Z/\aBw (eU g.bk.length) L 1000 none/\aD 4 A'.F= .cb/\aD 5 A'.F= .int .i64 5)) (aL (aA (aG ?_))) ?_)
   ·refine dt p47 p49 @aJ xi xl ?_;refine bQ (dt p8 p10 @aJ zi zl ?_);refine bE (af ?_);refine aQ (aEV H zs hms ay hin) ?_;rintro r Y1 ⟨hr,y1⟩;refine bQ (af ?_);refine bE (af ?_);refine aQ (aHM H hr.is ay fun x hx=>by have:=hpi x hx;omega) ?_;rintro _ Y2 ⟨rfl,y2⟩;have hQ2:=hQ.step (y1.trans y2);have hki:=aON (n:=g.bk.length) hln hall hpi;have hlk:∀F:Fr,aD 61 F= .map mb->aD 62 F= .str (lA (cA w m))->gT (.lookup (.p .str) (.bool false) false (.t 61) (.t 62)) F Y2.h=some (.bool (decide (lA (cA w m)∈W.map lA))):=fun F h1 h2=>aOd hQ2.map h1 h2;refine fE (cm p9 ?_);rw[hlk _ (ag) (ag)];refine af ?_;by_cases hmem:cA w m∈W
    ·have hst:W1=W:=by rw[hnx];unfold sQ;rw[if_pos hmem]
     refine aM (fg (Ab (hki.2 hmem))) (bG ?_);refine af ?_;exact .inl ⟨v2,by rw[hst];exact hQ2,by rw[hst];exact hle2,by refine⟨?_,?_,?_,?_,?_,?_,?_⟩<;>simp only[↓sU,sD,rE,↓reduceIte,rA,p1,p8,p9,p10,p47,p48,p49]⟩
    have hst:W1=W++ [cA w m]:=by rw[hnx];unfold sQ;rw[if_neg hmem]
    have hkn:lA (cA w m)∉W.map lA:=fun h=>hmem (hki.1 h);refine aK (fg (Aa hkn)) (aH ?_);refine af ?_;refine fE (df p8 hQ2.grp.len ?_);by_cases h1000:W.length=1000
    ·refine aM fe ?_;refine bQ (af ?_);refine aR (af ?_);refine .inr ⟨hQ2.same,.inr ⟨rfl,t,fun s hs=>?_,hov h1000 hmem⟩⟩;rcases Cd s t with h | h
     ·exact hlt1 s h
     ·obtain rfl:s=t:=by omega
      exact htl
    refine aK fe (aH ?_);refine af ?_;refine bQ (cm p9 ?_);refine fD (v:=.undef) (S1:=⟨Y2.h.set mb (some (.map (encS (W.map lA++ [lA (cA w m)])))),Y2.nx⟩) (fun call=>by rw[aER];refine af ?_;exact aH7 hQ2.map hkn) ?_;refine af ?_;have hr2:=hr.is.same y2;refine aG (dz p8 ?_);refine gO (uK (aLZ (b:=some (.map (encS (W.map lA++ [lA (cA w m)])))) hr2 hQ2.map) (ar)) ?_;intro Y3 y3 m3 c3;have hyn:=(y1.trans y2).1;have⟨v3,Y4,eA,hQ4⟩:=hQ2.push (t:=Y2.nx) (m:=Y.nx) hQ.same.1 hyn (fun c hc=>(hQ.grp.blk hc).2.1) hr2 (fun c hc=>(aF3 hr hc).1) ay y3 c3;refine dz p8 ?_;refine fD (fun call=>by refine dz @fY ?_;exact eA) ?_;refine af ?_;exact .inl ⟨v3,by rw[hst];exact hQ4,by rw[hst,Ai,Av];omega,by refine⟨?_,?_,?_,?_,?_,?_,?_⟩<;>simp only[↓sU,sD,rE,↓reduceIte,rA,p1,p9,p10,p47,p48,p49]⟩
   rintro o ⟨F3,inr3⟩ Z3 (⟨rfl,q0,v3,hQ3,hl3,p1,p8,p9,p10,p47,p48,p49⟩ | ⟨rfl,h⟩);rotate_left
   ·refine af ?_;exact .inr h
   simp only at q0 p1 p8 p9 p10 p47 p48 p49;subst q0;refine af ?_;refine aG (df p49 w1 ?_);exact⟨k2 - 1,ay,rfl,j+1,v3,ay,by rw[hww,<-hW1];exact hQ3,by rw[hww,<-hW1];exact hl3,by refine⟨?_,?_,?_,?_,?_,?_,?_⟩<;>simp only[↓sU,sD,rE,↓reduceIte,rA,p1,p8,p9,p10,p47,p48]⟩
  rintro o ⟨F2,inr2⟩ Y (⟨rfl,q0,j,v2,hjk,hQ,hle2,p1,p8,p9,p10,_,_,_⟩ | ⟨rfl,h⟩);rotate_left
  ·refine af ?_;exact .inr h
  simp only at q0 p1 p8 p9 p10;subst q0;obtain rfl:j=L.length:=by omega
  have hsuc:cQ (eU g.bk.length) L (t+1)=stepG ((cQ (eU g.bk.length) L t).getD t []) L (cQ (eU g.bk.length) L t):=by rw[lS,if_pos htl]
  rw[Ey,<-hsuc] at hQ hle2;refine af ?_;refine aG (df p10 w0 ?_);refine⟨k - 1,ay,rfl,t+1,v2,ay,hQ,fun s hs=>?_,fun s hs=>?_,by refine⟨?_,?_,?_,?_⟩<;>simp only[↓sU,sD,rE,↓reduceIte,rA,p1,p8,p9]⟩
  ·rcases Cd s t with h | h
   ·exact hlt1 s h
   ·obtain rfl:s=t:=by omega
    exact htl
  ·rcases Cd t s with h | h
   ·obtain rfl:s=t+1:=by omega
    exact hle2
   ·exact hle1 s h
 rintro o ⟨F,inr⟩ X (⟨rfl,q0,t,v,hP,hE2,hle,p8⟩ | ⟨rfl,hX,hE2,p4,p5⟩);rotate_left
 ·simp only at p4 p5;refine df p4 p5 ?_;exact⟨s13.trans hX,.inr (.inl ⟨e0,hE2,rfl⟩)⟩
 simp only at q0 p8;subst q0;refine af ?_;refine bQ (cm p8 ?_);refine bE (af ?_);refine aQ (aKZ (N:=g.bk.length) H hP.same hP.grp ay nB (fun w hw=>(aBc hAll hw).1) ay) ?_;rintro _ Y ⟨hY,W',pm,so,is⟩;refine bQ (cm p8 ?_);refine aR (af ?_);exact⟨s13.trans hY,.inr (.inr ⟨e0,_,W',v,hE2,pm,so,is,rfl⟩)⟩
end Go.Ev.Gl
namespace Go.Ev.Gl
open Go.Sort
variable {fns:T dU}
theorem aDg{S:St}{n:Nat}(H:Has fns)(hn:n<=100000):gH fns (.fn 28 [] []) [.int .i64 (n:Int)] S fun r S'=>mG S S' r (eU n)/\Same S S':=by
 refine cF H.f28 (by simp) ?_;refine aq ?_;refine bQ (aq ?_);refine bQ (aq ?_);refine gO (pG (n:=n) (fj @aJ) (fj @aJ) bf bf) ?_;intro S1 s1 n1 c1;rw[pN] at c1;refine aq ?_;refine aA (aW (Q:=fun o A' X=>o= .normal/\yG S S.nx n (fun j=>(j:Int)) (fun F i=>aD 0 F= .int .i64 (n:Int)/\aD 3 F= .sl S.nx 0 n n false/\aD 4 F= .int .i64 (i:Int)) 0 A' X) (aA (aG ?_)) ?_)
 ·refine aq ?_;refine aL (bK (yG S S.nx n (fun j=>(j:Int)) (fun F i=>aD 0 F= .int .i64 (n:Int)/\aD 3 F= .sl S.nx 0 n n false/\aD 4 F= .int .i64 (i:Int))) ?_ n _ _ ⟨rfl,s1,ay,0,_,ay,Aq ..,fun j hj=>ay,c1,ar,ar,by simp only[↓aC,aB,rE,↓reduceIte,rA];try rfl⟩);rintro k ⟨F,inr⟩ X ⟨q0,hX,hb,i,l,hik,hl,hf,hc,p0,p3,p4⟩;simp only at q0 p0 p3 p4;subst q0;refine fE (d6 p0 p4 ?_);by_cases hlt:i<n
  ·refine aM ff (aH ?_);refine aq ?_;have w1:=dc i
   have hia:=eX (b:=S.nx) (o:=false) hlt;refine aA (aL (aG ?_));refine d8 p3 p4 @aJ hia ?_;refine fD (fun call=>by refine d6 @dS @cH ?_;exact sP (S:=X) hc (by rw[hl];exact hlt)) ?_;refine aq ?_;refine aG (d6 p4 w1 ?_);refine⟨k - 1,ay,rfl,hX.put (Ag _) _,hb,i+1,l.set i (i:Int),ay,by rw[Ar];exact hl,fun j hj=>?_,fq,by refine⟨?_,?_,?_⟩<;>simp only[↓aC,aB,rE,↓reduceIte,rA,p0,p3]⟩;rw[gE (by rw[hl];exact hlt)];split
   ·rename_i e;rw[e]
   ·exact hf j ay
  ·refine aK ff (bG ?_);refine aq ?_;have hk0:k=0:=by omega
   subst hk0;exact⟨rfl,hX,hb,i,l,hik,hl,hf,hc,by refine⟨?_,?_,?_⟩<;>simp only[↓aC,aB,rE,↓reduceIte,rA,p0,p3,p4]⟩
 rintro o ⟨F,inr⟩ X ⟨rfl,q0,hX,hb,i,l,hik,hl,hf,hc,p0,p3,p4⟩;simp only at q0 p3;subst q0;obtain rfl:i=n:=by omega
 obtain rfl:l=eU i:=aBm hl hf;refine aq ?_;refine bQ (dz p3 ?_);refine aR (aq ?_);exact⟨⟨S.nx,by rw[hl],Ag _,hb,hc⟩,hX⟩
def aRw(Y:St)(r mv v:AV)(W:bt)(m:bu)(t j:Nat)(k:Nat)(A:bS)(X:St):Prop:=A.inr=false/\Same Y X/\∃q,q+k=W.length/\aD 1 A.F=mv/\aD 7 A.F=v/\aD 8 A.F= .int .i64 (t:Int)/\aD 9 A.F= .int .i64 (j:Int)/\aD 10 A.F=r/\aD 11 A.F= .bool (decide (m∈W.take q))/\aD 12 A.F= .int .i64 (q:Int)
def aQK(S0:St)(mv:AV)(g:bD)(L:bt)(t:Nat)(k:Nat)(A:bS)(X:St):Prop:=A.inr=false/\Same S0 X/\∃ (j:Nat) (v:AV),j+k=L.length/\mV S0 X v (stepG ((cQ (eU g.bk.length) L t).getD t []) (L.take j) (cQ (eU g.bk.length) L t))/\(stepG ((cQ (eU g.bk.length) L t).getD t []) (L.take j) (cQ (eU g.bk.length) L t)).length<=1000+j/\aD 1 A.F=mv/\aD 7 A.F=v/\aD 8 A.F= .int .i64 (t:Int)/\aD 9 A.F= .int .i64 (j:Int)
def aSG(S0:St)(mv:AV)(g:bD)(L:bt)(k:Nat)(A:bS)(X:St):Prop:=A.inr=false/\Same S0 X/\∃ (t:Nat) (v:AV),t+k=1001/\mV S0 X v (cQ (eU g.bk.length) L t)/\(∀s,s<t->s<(cQ (eU g.bk.length) L s).length)/\(∀s,s<=t->(cQ (eU g.bk.length) L s).length<=1000)/\aD 1 A.F=mv/\aD 7 A.F=v/\aD 8 A.F= .int .i64 (t:Int)
def aRA(C:Ctx fns false 1)(dec:AV->bu)(S1:St)(v:AV)(W:bt)(k:Nat)(A:bS)(X:St):Prop:=A.inr=false/\∃ (i:Nat) (e:Array AV),i+k=W.length/\C.On S1 X e/\(e.toList.map dec).Perm W/\((e.toList.map dec).take i).Pairwise lQ/\aD 7 A.F=v/\aD 13 A.F= .int .i64 (i:Int)
def aSr(C:Ctx fns false 1)(dec:AV->bu)(S1:St)(v:AV)(W:bt)(i:Nat)(k:Nat)(A:bS)(X:St):Prop:=A.inr=false/\k<=i/\∃e:Array AV,C.On S1 X e/\(e.toList.map dec).Perm W/\aM3 (e.toList.map dec) i k/\aD 7 A.F=v/\aD 13 A.F= .int .i64 (i:Int)/\aD 14 A.F= .int .i64 (k:Int)
theorem aCy{dec:AV->bu}{e:Array AV}{i:Nat}(h:i<e.size):(e.toList.map dec).getD i []=dec e[i]! :=by
 rw[Ad,Bc,aNY e h];rfl
theorem aJx{dec:AV->bu}{e:Array AV}{k:Nat}(h:k+1<e.size):(swp e (k+1) k).toList.map dec=aKP (e.toList.map dec) k:=by
 unfold swp aKP;rw[aCy h,aCy ay,Ed,Ed,List.map_set,List.map_set]
end Go.Ev.Gl
namespace Go.Ev.Gl
open Go.Sort
variable {fns:T dU}
theorem aH8{S:St}{nv iv mv:AV}{g:bD}{L:bt}(H:Has fns)(hn:aP 6 cI S nv g.bk)(hi:aP 2 cW S iv g.bn)(hln:g.bk.length<=1000)(hm:aP 1 pF S mv L):
  gH fns (.fn 12 [] []) [.agg [.int .i64 g.bo,nv,iv],mv] S fun r S'=>Same S S'/\aQs S' r g L:=by
 have snv:=aP.self hn;have lnv:=aP.len hn;refine cF H.f12 (by simp) ?_;refine af ?_;refine bQ ?_;refine dV (by refine af ?_;exact bL _) ?_;intro S1 s1 n1 g1;refine af ?_;refine fE (cm (iT g1) ?_);refine bE (af ?_);refine aQ (aGs H (aP.same (E:=cI) bT hn s1) (aP.same (E:=cW) cM hi s1) ay (aP.same (E:=pF) gL hm s1)) ?_;rintro _ S2 ⟨rfl,s2⟩;have s12:=s1.trans s2;refine bQ (af ?_);by_cases e0:jE g L=0;rotate_left
 ·refine aM (fg (Ab (show jE g L≠0 from e0))) ?_;refine bQ (af ?_);refine aR (af ?_);exact⟨s12,.inl ⟨e0,rfl⟩⟩
 refine aK (fg (Aa (show ¬jE g L≠0 from fun h=>h e0))) (aH ?_);refine af ?_;have⟨hf,hL16,hie⟩:=aES e0;have hAll:∀m∈L,gD g m:=fun m hm=>yU (xM hie m hm);have hm2:=aP.same (E:=pF) gL hm s12;have m2:=s2.1;have g2:S2.h.get S.nx=some (.cells [.int .i64 g.bo,nv,iv] false 0):=(s2.2 _ ay).trans g1;refine bQ (d9 @aF @aE (gI g2) lnv @Ah ?_);refine bE (aq ?_);refine aQ (aDg H ay) ?_;rintro id S4 ⟨hid,s4⟩;refine gO (uK hid.is (ar)) ?_;intro S5 s5 n5 c5;refine af ?_;have hP:mV S2 S5 (.sl S4.nx 0 1 1 false) (cQ (eU g.bk.length) L 0):=mV.one (hid.is.same s5) (fun c hc=>by have:=aF3 hid hc;omega) c5 s4.1 ay;have s25:=s4.trans s5;generalize S4.nx=b0 at hP ⊢;clear c5 hid g2 g1;have hz0:∀s,s<=0->(cQ (eU g.bk.length) L s).length<=1000:=fun s hs=>by
  obtain rfl:s=0:=by omega
  show 1<=1000;omega
 refine aA (aW (Q:=fun o A' X=>(o= .normal/\A'.inr=false/\Same S2 X/\∃ (t:Nat) (v:AV),mV S2 X v (cQ (eU g.bk.length) L t)/\aBw (eU g.bk.length) L 1000 (some (cQ (eU g.bk.length) L t))/\(cQ (eU g.bk.length) L t).length<=1000/\aD 7 A'.F=v)\/(o= .ret/\Same S2 X/\aBw (eU g.bk.length) L 1000 none/\aD 4 A'.F= .cb/\aD 5 A'.F= .int .i64 5)) (aA (aG ?_)) ?_)
 ·refine af ?_;refine aL (bK (aSG S2 mv g L) ?_ 1001 _ _ ⟨rfl,s25,0,_,ay,hP,fun s hs=>ay,hz0,ag,ag,ah⟩);clear hP;rintro k ⟨F,inr⟩ X ⟨q0,hX,t,v,htk,hP,hlt1,hle1,p1,p7,p8⟩;simp only at q0 p1 p7 p8;subst q0;refine fE (dh p7 p8 hP.len ?_);by_cases htl:t<(cQ (eU g.bk.length) L t).length;rotate_left
  ·refine aK fe (bG ?_);refine af ?_;have hel:t=(cQ (eU g.bk.length) L t).length:=by
    rcases Bk t with e | e
    ·subst e;have:(cQ (eU g.bk.length) L 0).length=1:=rfl;omega
    ·have h1:=hlt1 (t - 1) ay;have h2:=aE9 (e:=eU g.bk.length) (L:=L) (ay:t - 1<=t);omega
   exact .inl ⟨hX,t,v,hP,.inl ⟨t,rfl,hel,hlt1,hle1⟩,hle1 t (Ag _),ai p7⟩
  refine aM fe (aH ?_);refine af ?_;have hlet:=hle1 t (Ag _);have w0:=dc t
  have hsuc:cQ (eU g.bk.length) L (t+1)=stepG ((cQ (eU g.bk.length) L t).getD t []) L (cQ (eU g.bk.length) L t):=by rw[lS,if_pos htl]
  refine aA (aW (Q:=fun o A' X=>(o= .normal/\A'.inr=false/\Same S2 X/\∃v,mV S2 X v (cQ (eU g.bk.length) L (t+1))/\(cQ (eU g.bk.length) L (t+1)).length<=1000/\aD 1 A'.F=mv/\aD 7 A'.F=v/\aD 8 A'.F= .int .i64 (t:Int))\/(o= .ret/\Same S2 X/\aBw (eU g.bk.length) L 1000 none/\aD 4 A'.F= .cb/\aD 5 A'.F= .int .i64 5)) (aL (aA (aW (Q:=fun o A' X=>o= .normal/\aQK S2 mv g L t 0 A' X) (aA (aG ?_)) ?_))) ?_)
  ·refine af ?_;refine aL (bK (aQK S2 mv g L t) ?_ L.length _ _ ⟨rfl,hX,0,v,ay,by rw[Bw];exact hP,by rw[Bw];exact hlet,ai p1,ai p7,ai p8,ah⟩);clear hP hX p1 p7 p8;rintro k2 ⟨F2,inr2⟩ Y ⟨q0,hY,j,v2,hjk,hQ,hle2,p1,p7,p8,p9⟩;simp only at q0 p1 p7 p8 p9;subst q0;refine fE ?_;refine dk p1 p9 ((aP.same (E:=pF) gL hm2 hY).len) @Ah ?_;by_cases hlt:j<L.length;rotate_left
   ·refine aK fe (bG ?_);refine af ?_;obtain rfl:k2=0:=by omega
    exact⟨rfl,hY,j,v2,hjk,hQ,hle2,by refine⟨?_,?_,?_,?_⟩<;>simp only[↓sU,sD,rE,↓reduceIte,rA,p1,p7,p8,p9]⟩
   refine aM fe (aH ?_);refine af ?_;have w1:=dc j
   have⟨xb,xq,a,xi,xs,xlt,xl⟩:=jX hm2 hlt;have xl:=xl Y hY;have hA:=hAll _ (uX hlt);have hw:=aBc hAll (uX htl);have hnx:=zU (w:=(cQ (eU g.bk.length) L t).getD t []) (W:=cQ (eU g.bk.length) L t) hlt;have hpre:(stepG ((cQ (eU g.bk.length) L t).getD t []) (L.take j) (cQ (eU g.bk.length) L t)).getD t []=(cQ (eU g.bk.length) L t).getD t []/\t<(stepG ((cQ (eU g.bk.length) L t).getD t []) (L.take j) (cQ (eU g.bk.length) L t)).length:=by
    have⟨R,e⟩:=qC (w:=(cQ (eU g.bk.length) L t).getD t []) (L:=L.take j) (W:=cQ (eU g.bk.length) L t);rw[e,aNH htl,Ai];exact⟨rfl,ay⟩
   have hall:∀w∈stepG ((cQ (eU g.bk.length) L t).getD t []) (L.take j) (cQ (eU g.bk.length) L t),w.length=g.bk.length:=fun w hw=>(aJT hAll htl hw).1;have⟨zb,zq,z,zi,zs,zlt,zl⟩:=jX hQ.is hpre.2;have zl:=zl Y (de _);rw[hpre.1] at zs
   replace hpre:=hpre.2
   generalize hww:(cQ (eU g.bk.length) L t).getD t []=w at *;have⟨hpl,hpi⟩:=aCH hw.2 hA.M.1 hA.M.2;rw[hw.1] at hpl;have hin:nE w (L.getD j []).length:=by rw[hA.M.1];exact hw.2
   have hms:bO .i64 Y a (L.getD j []):=xs.same hY;have sa:=bO.self xs;have sz:=bO.self zs;have hxb:xb<Y.nx:=Ae xlt hY.1;obtain⟨W1,hW1⟩:∃W1,W1=stepG w (L.take (j+1)) (cQ (eU g.bk.length) L t):=⟨_,rfl⟩;rw[<-hW1] at hnx;generalize stepG w (L.take j) (cQ (eU g.bk.length) L t)=W at *;generalize L.getD j []=m at *;refine aA (aL (aA (dO (fun _=>False) ?_)));intro X0 x0;simp only[↓sU,sD,rE,↓reduceIte,rA,p1,p7,p8,p9,Ap,aJ,xi,xl,sa,hxb,zi,zl,sz,zlt];refine cL rfl ?_;refine af ?_;refine aQ (aIW H (zs.same x0) (hms.same x0) ay hin) ?_;rintro r Y1 ⟨hr,y1⟩;refine⟨y1,?_⟩;have y01:=x0.trans y1;have hQ1:=hQ.step y01;refine bQ (af ?_);refine aA (aW (Q:=fun o A' Z=>o= .normal/\aRw Y1 r mv v2 W (cA w m) t j 0 A' Z) (aA (aG ?_)) ?_)
   ·refine af ?_;refine aL (bK (aRw Y1 r mv v2 W (cA w m) t j) ?_ W.length _ _ ⟨rfl,de _,0,ay,ai p1,ai p7,ai p8,ai p9,ag,by simp only[↓sU,sD,rE,↓reduceIte,rA,Bw,List.not_mem_nil,decide_false],ah⟩);rintro k3 ⟨F3,inr3⟩ Z ⟨q0,hZ,q,hqk,p1,p7,p8,p9,p10,p11,p12⟩;simp only at q0 p1 p7 p8 p9 p10 p11 p12;subst q0;have hQ2:=hQ1.step hZ;refine fE (dh p7 p12 hQ2.len ?_);by_cases hlq:q<W.length;rotate_left
    ·refine aK fe (bG ?_);refine af ?_;obtain rfl:k3=0:=by omega
     exact⟨rfl,hZ,q,hqk,by refine⟨?_,?_,?_,?_,?_,?_,?_⟩<;>simp only[↓sU,sD,rE,↓reduceIte,rA,p1,p7,p8,p9,p10,p11,p12]⟩
    refine aM fe (aH ?_);refine af ?_;have w2:=dc q
    refine aA (aL (aG ?_));have htk:(cA w m∈W.take (q+1))↔(cA w m∈W.take q\/W.getD q []=cA w m):=by
     rw[aKo hlq,Bf,Ce];exact⟨fun h=>h.imp_right Eq.symm,fun h=>h.imp_right Eq.symm⟩
    by_cases hmq:cA w m∈W.take q
    ·rw[Ab hmq] at p11;refine cm p11 ?_;refine aG (df p12 w2 ?_);exact⟨k3 - 1,ay,rfl,hZ,q+1,ay,ai p1,ai p7,ai p8,ai p9,ai p10,fg (Ab (htk.2 (.inl hmq))),ag⟩
    ·rw[Aa hmq] at p11;have⟨ub,uq,u,ui,us,ult,ul⟩:=jX hQ2.is hlq;have ul:=ul Z (de _);refine dx p7 p10 p11 p12 @aJ ui ul ?_;refine bE (af ?_);refine aQ (oW H us (hr.is.same hZ) (by rw[hall _ (uX hlq)];omega)) ?_;rintro _ Z2 ⟨rfl,hZ2⟩;refine aG (df p12 w2 ?_);refine⟨k3 - 1,ay,rfl,hZ.trans hZ2,q+1,ay,ai p1,ai p7,ai p8,ai p9,ai p10,?_,ag⟩;refine af ?_;exact congrArg AV.bool (decide_eq_decide.2 ⟨fun h=>htk.2 (.inr h),fun h=>(htk.1 h).resolve_left hmq⟩)
   rintro o ⟨F3,inr3⟩ Z ⟨rfl,q0,hZ,q,hqk,p1,p7,p8,p9,p10,p11,p12⟩;simp only at q0 p1 p7 p8 p9 p10 p11 p12;subst q0;obtain rfl:q=W.length:=by omega
   rw[Ey] at p11;have hQ2:=hQ1.step hZ;have hyZ:=y01.trans hZ;refine af ?_;refine bQ ?_;by_cases hmem:cA w m∈W
   ·have hst:W1=W:=by rw[hnx];unfold sQ;rw[if_pos hmem]
    rw[Ab hmem] at p11;refine dh p11 @eF @Bt ?_;refine aK (ag) (aH ?_);refine af ?_;refine aG (df p9 w1 ?_);refine⟨k2 - 1,ay,rfl,hY.trans hyZ,j+1,v2,ay,by rw[hww,<-hW1,hst];exact hQ2,by rw[hww,<-hW1,hst];omega,by refine⟨?_,?_,?_,?_⟩<;>simp only[↓sU,sD,rE,↓reduceIte,rA,p1,p7,p8]⟩
   ·have hst:W1=W++ [cA w m]:=by rw[hnx];unfold sQ;rw[if_neg hmem]
    rw[Aa hmem] at p11;refine dh p11 @eF @Cb ?_;refine aM (ag) (aG ?_);have hr2:=hr.is.same hZ;refine d6 p7 p10 ?_;refine gO (uK hr2 (ax p10)) ?_;intro Y3 y3 m3 c3;have hyn:=hyZ.1;have hx0:=x0.1;have⟨v3,Y4,eA,hQ4,e2,e3,e4⟩:=(hQ2.step y3).push (bytes:=24) (t:=Z.nx) (m:=Y.nx) ((hY.trans hyZ).trans y3) hY.1 ay (fun c hc=>(hQ.blk hc).2.1) (hr2.same y3) (fun c hc=>by have:=(aF3 hr hc).1;omega) c3 bf bf;refine fD (fun call=>by refine dz @fY ?_;exact eA) ?_;refine af ?_;refine aG (df p9 w1 ?_);refine⟨k2 - 1,ay,rfl,⟨az hY.1,fun c hc=>?_⟩,j+1,v3,ay,by rw[hww,<-hW1,hst];exact hQ4,by rw[hww,<-hW1,hst,Ai,Av];omega,by refine⟨?_,?_,?_,?_⟩<;>simp only[↓sU,sD,rE,↓reduceIte,rA,p1,p8]⟩;have hcY:=Ae hc hY.1;rw[e4 c ay fun e=>by have:=(hQ.blk e).1;omega];exact((hY.trans hyZ).trans y3).2 c hc
  ·rintro o ⟨F2,inr2⟩ Y ⟨rfl,q0,hY,j,v2,hjk,hQ,hle2,p1,p7,p8,_⟩;simp only at q0 p1 p7 p8;subst q0;obtain rfl:j=L.length:=by omega
   rw[Ey,<-hsuc] at hQ hle2;refine af ?_;refine bQ (df p7 hQ.len ?_);by_cases h1000:1000<(cQ (eU g.bk.length) L (t+1)).length
   ·refine aM fe ?_;refine bQ (af ?_);refine aR (af ?_);refine .inr ⟨hY,.inr ⟨rfl,t,fun s hs=>?_,h1000⟩⟩;rcases Cd s t with h | h
    ·exact hlt1 s h
    ·obtain rfl:s=t:=by omega
     exact htl
   refine aK fe (aH ?_);refine af ?_;exact .inl ⟨hY,v2,hQ,ay,by refine⟨?_,?_,?_⟩<;>simp only[↓sU,sD,rE,↓reduceIte,rA,p1,p7,p8]⟩
  rintro o ⟨F2,inr2⟩ Y (⟨rfl,q0,hY,v2,hQ,hle2,p1,p7,p8⟩ | ⟨rfl,h⟩);rotate_left
  ·exact .inr ⟨rfl,h⟩
  simp only at q0 p1 p7 p8;subst q0;refine af ?_;refine aG (df p8 w0 ?_);refine⟨k - 1,ay,rfl,hY,t+1,v2,ay,hQ,fun s hs=>?_,fun s hs=>?_,by refine⟨?_,?_,?_⟩<;>simp only[↓sU,sD,rE,↓reduceIte,rA,p1,p7]⟩
  ·rcases Cd s t with h | h
   ·exact hlt1 s h
   ·obtain rfl:s=t:=by omega
    exact htl
  ·rcases Cd t s with h | h
   ·obtain rfl:s=t+1:=by omega
    exact hle2
   ·exact hle1 s h
 rintro o ⟨F,inr⟩ X (⟨rfl,q0,hX,t,v,hP,hE2,hle,p7⟩ | ⟨rfl,hX,hE2,p4,p5⟩);rotate_left
 ·simp only at p4 p5;refine df p4 p5 ?_;exact⟨s12.trans hX,.inr (.inl ⟨e0,hE2,rfl⟩)⟩
 simp only at q0 p7;subst q0;refine af ?_;have⟨C,dec,d,R,on0,hd⟩:=aG4 H hP ay (fun w hw=>(aBc hAll hw).1) (ay:g.bk.length<=100000);have hnd:(cQ (eU g.bk.length) L t).Nodup:=nB;have hlen:=hP.len;have hpos:0<(cQ (eU g.bk.length) L t).length:=by
  have⟨cs,h1,_⟩:=hP.ex;exact h1.pos
 have hX2:∀ {Y:St} {e:Array AV},C.On X Y e->Same S2 Y:=fun on=>cC.same hX on.2.2 R.bb;obtain⟨W,hW⟩:∃W,W=cQ (eU g.bk.length) L t:=⟨_,rfl⟩;rw[<-hW] at hE2 hle R hd hnd hlen hpos;clear hW hP;have hCn:C.n=W.length:=R.en;refine aA (aW (Q:=fun o A' Y=>o= .normal/\aRA C dec X v W 0 A' Y) (aA (aG ?_)) ?_)
 ·refine af ?_;refine aL (bK (aRA C dec X v W) ?_ W.length _ _ ⟨rfl,0,d,ay,on0,by rw[hd],by rw[Bw];exact List.Pairwise.nil,ai p7,ah⟩);clear p7;rintro k ⟨F,inr⟩ Y ⟨q0,i,e,hik,on,pm,so,p7,p13⟩;simp only at q0 p7 p13;subst q0;have hes:e.size=W.length:=by rw[on.1.1,R.en]
  refine fE (dh p7 p13 hlen ?_);by_cases hlt:i<W.length;rotate_left
  ·refine aK fe (bG ?_);refine af ?_;obtain rfl:k=0:=by omega
   exact⟨rfl,i,e,hik,on,pm,so,by refine⟨?_,?_⟩<;>simp only[↓sU,sD,rE,↓reduceIte,rA,p7,p13]⟩
  refine aM fe (aH ?_);refine af ?_;have w0:=dc i
  refine aA (aW (Q:=fun o A' Z=>o= .normal/\A'.inr=false/\∃e2:Array AV,C.On X Z e2/\(e2.toList.map dec).Perm W/\((e2.toList.map dec).take (i+1)).Pairwise lQ/\aD 7 A'.F=v/\aD 13 A'.F= .int .i64 (i:Int)) (aL (aA (aG ?_))) ?_)
  ·refine cm p13 ?_;refine aL (bK (aSr C dec X v W i) ?_ i _ _ ⟨rfl,Ag _,e,on,pm,aKT (by rw[Ay,Cu];omega) so,ai p7,ai p13,ah⟩);clear p7 p13 so pm on hes;rintro k2 ⟨F2,inr2⟩ Z ⟨q0,hki,e2,on2,pm2,ins,p7,p13,p14⟩;simp only at q0 p7 p13 p14;subst q0;have hnd2:(e2.toList.map dec).Nodup:=pm2.nodup_iff.2 hnd;have hes:e2.size=W.length:=by rw[on2.1.1,R.en]
   rcases k2 with _ | u
   ·refine aA (aA (dO (fun _=>False) ?_));intro X1 x1;refine df p14 (Aa (ay:¬ ((0:Nat):Int)>0)) ?_;refine aK (by simp only[↓aC,aB,rE,↓reduceIte];rfl) (bG ?_);refine af ?_;exact⟨e2,on2.step x1,pm2,aJF ins hnd2 (.inl rfl),by refine⟨?_,?_⟩<;>simp only[↓sU,sD,rE,↓reduceIte,rA,p7,p13]⟩
   have w1:IntKind.i64.wrap (((u+1:Nat):Int) - 1)=(u:Int):=kT (a:=u+1) ay ay;rw[<-R.ev] at p7;refine aA (aA (dO (fun _=>False) ?_));intro X1 x1;simp only[↓sU,sD,rE,↓reduceIte,rA,p7,p14,Ab (ay:((u+1:Nat):Int)>0),w1,aJ,C.ia (i:=u+1) ay,C.ia (i:=u) ay,on2.1.ld (i:=u+1) ay,on2.1.ld (i:=u) ay,on2.1.self (i:=u+1) ay,on2.1.self (i:=u) ay,Ctx.old on2.1 (i:=u+1) ay,Ctx.old on2.1 (i:=u) ay];refine cL rfl ?_;refine af ?_;have on3:=on2.step x1;have r1:=on3.1.2.1 (u+1) ay;have r2:=on3.1.2.1 u ay;refine aQ (aJd H (R.isl _ _ on3.2.1 r1) (R.isl _ _ on3.2.1 r2) (by rw[R.len _ r1,R.len _ r2]) (by rw[R.len _ r1];omega)) ?_;rintro _ Y1 ⟨hY1,z,rfl,hz⟩;refine⟨hY1,?_⟩;have on4:=on3.step hY1;rw[<-aCy (dec:=dec) (e:=e2) (i:=u+1) ay,<-aCy (dec:=dec) (e:=e2) (i:=u) ay] at hz;cases z with
   | false=>
    refine aK (ak) (bG ?_);refine af ?_;exact⟨e2,on4,pm2,aJF ins hnd2 (.inr fun h=>by have:=hz.2 h;cases this),by refine⟨?_,?_⟩<;>simp only[↓sU,sD,rE,↓reduceIte,rA,p7,R.ev,p13]⟩
   | true=>
    have⟨ins3,pm3⟩:=aLI ins (hz.1 rfl);refine aM (ak) (aH ?_);refine aj ?_;refine aA (aL ?_);refine jA C (u+1) u 15 on4 ay ay  rfl bg bg bg ?_;simp only[↓aC,aB,rE,↓reduceIte,Ca,Bw,rA,p7,p14,w1,aJ,C.ia (i:=u+1) ay,C.ia (i:=u) ay,on4.1.ld (i:=u+1) ay,on4.1.ld (i:=u) ay,on4.1.self (i:=u+1) ay,on4.1.self (i:=u) ay];intro Z2 hZ2;refine aG (eu p14 w1 ?_);exact⟨u,ay,rfl,ay,_,hZ2,by rw[aJx ay];exact pm3.trans pm2,by rw[aJx ay];exact ins3,by refine⟨?_,?_,?_⟩<;>simp only[↓aC,aB,rE,↓reduceIte,p7,R.ev,p13]⟩
  rintro o ⟨F2,inr2⟩ Z ⟨rfl,q0,e2,on2,pm2,so2,p7,p13⟩;simp only at q0 p7 p13;subst q0;refine af ?_;refine aG (df p13 w0 ?_);exact⟨k - 1,ay,rfl,i+1,e2,ay,on2,pm2,so2,by refine⟨?_,?_⟩<;>simp only[↓sU,sD,rE,↓reduceIte,rA,p7]⟩
 rintro o ⟨F,inr⟩ Y ⟨rfl,q0,i,e,hik,on,pm,so,p7,p13⟩;simp only at q0 p7;subst q0;have hel:(e.toList.map dec).length=W.length:=by rw[Ay,Cu,on.1.1,R.en]
 rw[Bb ay] at so;refine af ?_;refine bQ (cm p7 ?_);refine aR (af ?_);exact⟨s12.trans (hX2 on),.inr (.inr ⟨e0,W,_,v,hE2,pm,so,R.is hpos on,rfl⟩)⟩
end Go.Ev.Gl
