import Derived.Test.YtkklchgmpejobaaDoorGl11
open Nat renaming reduceEqDiff → rE, reduceAdd → rA
set_option maxHeartbeats 16000000
set_option linter.unusedSimpArgs false
set_option linter.unusedVariables false
namespace Go.Ev.Gl
variable {fns:T dB}
def aMZ(_:St)(cs:List AV)(x:Int):Prop:=cs= [.int .i64 x]
theorem aIZ:aFt aMZ:=fun h _=>h
theorem toG{S:St}{v:AV}{l:List Int}(h:cE .i64 S v l):aY 1 aMZ S v l:=by
 rcases h with h | ⟨b,off,cap,o,cs,rfl,hc,hb,hcs,hel⟩
 ·exact .inl h
 ·refine .inr ⟨b,off,cap,o,cs,rfl,hc,hb,hcs,fun i a hi=>⟨[.int .i64 a],rfl,fun j x hj=>?_,rfl⟩⟩;cases j with
  | zero=>simp at hj;subst hj;rw[Eb,Bv];exact hel i a hi
  | succ j=>simp at hj
theorem ofG{S:St}{v:AV}{l:List Int}(h:aY 1 aMZ S v l):cE .i64 S v l:=by
 rcases h with h | ⟨b,off,cap,o,cs,rfl,hc,hb,hcs,hel⟩
 ·exact .inl h
 ·refine .inr ⟨b,off,cap,o,cs,rfl,hc,hb,hcs,fun i a hi=>?_⟩;obtain⟨e,_,h2,h3⟩:=hel i a hi;have h3:e= [.int .i64 a]:=h3;subst h3;have:=h2 0 _ rfl;rw[Eb,Bv] at this;exact this
theorem aY.moveB{k:Nat}{α:Type}{E:St→List AV→α→Prop}{S S':St}{v:AV}{l:List α}(h:aY k E S v l)(hn:S.nx≤S'.nx)(hh:∀c,aS v=some c→S'.h.get c=S.h.get c)(hE:∀e a,E S e a→E S' e a):aY k E S' v l:=by
 rcases h with h | ⟨b,off,cap,o,cs,rfl,hc,hb,hcs,hel⟩
 ·exact .inl h
 ·refine .inr ⟨b,off,cap,o,cs,rfl,hc,Af hb hn,?_,fun i a hi=>?_⟩
  ·unfold cM;rw[hh b rfl];exact hcs
  ·obtain⟨e,e1,e2,e3⟩:=hel i a hi;exact⟨e,e1,e2,hE e a e3⟩
theorem aQD{k:Nat}{α:Type}{E:St→List AV→α→Prop}{S:St}{v:AV}{l:List α}(hk:0<k)(h:aY k E S v l):∃new,mE v=some l.length∧eH v S.h k l.length=some new∧∀i a,l[i]? =some a→∃e:List AV,e.length=k∧(∀ (j:Nat) (x:AV),e[j]? =some x→new[i * k+j]? =some x)∧E S e a:=by
 rcases h with⟨rfl,h⟩ | ⟨b,off,cap,o,cs,rfl,hc,hb,hcs,hel⟩
 ·rcases h with rfl | rfl<;>exact⟨[],rfl,rfl,fun i a hi=>by simp at hi⟩
 ·rcases Cd l.length with h0 | hp
  ·have hl:l= []:=Cc.1 h0;subst hl;refine⟨[],rfl,?_,fun i a hi=>by simp at hi⟩;show(aW (cM S.h b) fun cs=>cut cs off (0 * k))=_;rw[hcs,aJ,Es];unfold cut;rw[fF,fQ,if_pos (Cb _)];rfl
  ·have hle:off+l.length * k≤cs.length:=by
    obtain⟨e,e1,e2,_⟩:=hel (l.length - 1) _ (Ad (by omega));have:=e2 (k - 1) _ (Ad (by omega));have h3:=(Ae.1 this).1;have h4:(l.length - 1) * k+k=l.length * k:=by
     rw[←Dd];congr 1;omega
    omega
   refine⟨(cs.drop off).take (l.length * k),rfl,?_,fun i a hi=>?_⟩
   ·show(aW (cM S.h b) fun cs=>cut cs off (l.length * k))=_;rw[hcs,aJ];unfold cut;rw[fF,fQ,if_pos (by rw[Cy];omega)]
   ·obtain⟨e,e1,e2,e3⟩:=hel i a hi;refine⟨e,e1,fun j x hj=>?_,e3⟩;have hlt:=(Ae.1 hi).1;have hj1:=(Ae.1 hj).1;have h5:i * k+k≤l.length * k:=by
     rw[←Dd];exact Cq k hlt
    rw[Ei (by omega),Ee];have:=e2 j x hj;rw[Cr] at this;exact this
def Wr(X:St)(c:Nat):Prop:=∃cs o sz,X.h.get c=some (.cells cs o sz)
theorem Wr.eq{X X':St}{c:Nat}(h:Wr X c)(e:X'.h.get c=X.h.get c):Wr X' c:=by
 obtain⟨cs,o,sz,h⟩:=h;exact⟨cs,o,sz,e.trans h⟩
theorem aIu{k bytes b:Nat}{α:Type}{E:St→List AV→α→Prop}{S:St}{v:AV}{l:List α}(hE:aFt E)(hk:0<k)(hb:S.h.get b=some (.cells [] false 0))(hbl:b<S.nx)(h:aY k E S v l)(h1:l.length≤room)(h2:l.length * bytes≤room):
  ∃r S',gN bytes k (.sl b 0 0 0 false) v S=some (r,S')∧aY k E S' r l∧Same S S'∧(∀c,aS r=some c→c=b∨S.nx≤c)∧∀c,aS r=some c→Wr S' c:=by
 obtain⟨new,e1,e2,e3⟩:=aQD hk h;unfold gN;rw[e1,aJ,e2,aJ];show ∃r S',oL bytes k b 0 0 0 false l.length new S=some (r,S')∧_;unfold oL;rcases Cd l.length with h0 | hp
 ·have hl:l= []:=Cc.1 h0;subst hl;refine⟨.sl b 0 0 0 false,S,rfl,.inr ⟨b,0,0,false,[],rfl,Ag _,hbl,by unfold cM;rw[hb];rfl,fun i a hi=>by simp at hi⟩,Same.refl S,fun c hc=>?_,fun c hc=>?_⟩
  ·cases hc;exact .inl rfl
  ·cases hc;exact⟨_,_,_,hb⟩
 ·have e5:Nat.ble (0+l.length) 0=false:=by
   rw[Br];intro e;have:=Ao e;omega
  rw[e5,aR,Aj (by omega),aL,Aj (by rw[Ap];exact h2),aL,hb,aJ];have e4:cut ([]:List AV) 0 (0 * k)=some []:=by
   unfold cut;rw[fF,fQ,Es,if_pos (Cb _)];rfl
  show ∃r S',(aW (cut ([]:List AV) 0 (0 * k)) fun old=>bL false _ (grown S.h S.nx (0+l.length) k (vW old new)))=some (r,S')∧_;rw[e4,aJ,aR];refine⟨_,_,rfl,.inr ⟨S.nx,0,l.length,true,new,by rw[Ap],Ag _,by simp,?_,fun i a hi=>?_⟩,Same.alloc S _,fun c hc=>?_,fun c hc=>?_⟩
  ·unfold cM;simp only;rw[T.get_set,if_pos rfl];rfl
  ·obtain⟨e,a1,a2,a3⟩:=e3 i a hi;exact⟨e,a1,fun j x hj=>by rw[Ap];exact a2 j x hj,hE a3 (Same.alloc S _)⟩
  ·cases hc;exact .inr (Ag _)
  ·cases hc;exact⟨_,_,_,by simp only;rw[T.get_set,if_pos rfl]⟩
theorem aOE{k bytes b:Nat}{α:Type}{E:St→List AV→α→Prop}{S:St}{v:AV}{l:List α}(hE:aFt E)(hk:0<k)(hb:S.h.get b=some (.cells [] false 0))(hbl:b<S.nx)(h:aY k E S v l)(h1:l.length≤room)(h2:l.length * bytes≤room):
  ∃r S',gN bytes k (.sl b 0 0 0 false) v S=some (r,S')∧aY k E S' r l∧Same S S'∧∀c,aS r=some c→c=b∨S.nx≤c:=by
 obtain⟨r,S',a,b',c,d,_⟩:=aIu (bytes:=bytes) (E:=E) hE hk hb hbl h h1 h2;exact⟨r,S',a,b',c,d⟩
theorem aMu(p a:Int):eX .neq (.struct [(0,.int),(1,.int)]) (.agg [.int .i64 p,.int .i64 a]) (.agg [.int .i64 p,.int .i64 a])=some (.bool false):=by
 have e:∀z:Int,zF .int (.int .i64 z) (.int .i64 z)=some true:=fun z=>by
  show bL (keq .i64 .i64) (some (ieq z z)) none=_;rw[eG,aL,jO];simp
 show aW (eqs [(0,.int),(1,.int)] [.int .i64 p,.int .i64 a] [.int .i64 p,.int .i64 a]) (fun b=>some (AV.bool (bL b false true)))=_;have e0:nth [AV.int .i64 p,.int .i64 a] 0=some (.int .i64 p):=rfl;have e1:nth [AV.int .i64 p,.int .i64 a] 1=some (.int .i64 a):=rfl;simp only[eqs,e0,e1,e,aJ,aL]
def aP0(S:St)(a b:AV)(n:Nat)(k:Nat)(A:bR)(X:St):Prop:=A.inr=false∧Same S X∧∃i:Nat,i+k=n∧aD 0 A.F=a∧aD 1 A.F=b∧aD 5 A.F= .int .i64 (i:Int)
theorem aDi{S:St}{a b:AV}{l:List lR}(H:Has fns)(ha:aY 2 dM S a l)(hb:aY 2 dM S b l)(hl:l.length≤140737488355328):fP fns (.fn 30 [] []) [a,b] S fun r S'=>r= .bool true∧Same S S':=by
 refine cC H.f30 (by simp) ?_;simp only[↓aA,aB,rE,↓reduceIte,rA];refine cD ?_;simp only[↓aA,aB,rE,↓reduceIte,rA];refine jB ?_;simp only[↓aA,aB,rE,↓reduceIte,rA,ha.len,hb.len];refine aO (by simp only[↓aA,aB,rE,↓reduceIte,rA,Aa (show ¬ ((l.length:Nat):Int)≠((l.length:Nat):Int) from fun h=>h rfl)]) (aM ?_);try simp only[↓aA,aB,rE,↓reduceIte,rA]
 refine aC (bF (Q:=fun o A' X=>o= .normal∧A'.inr=false∧Same S X) (aC (aE ?_)) ?_)
 ·simp only[↓aA,aB,rE,↓reduceIte,rA];refine aP (cB (aP0 S a b l.length) ?_ l.length _ _ ⟨rfl,Same.refl _,0,by omega,by refine⟨?_,?_,?_⟩<;>simp only[↓aA,aB,rE,↓reduceIte,rA]⟩);rintro k ⟨F,inr⟩ X ⟨q0,hX,i,hik,p0,p1,p5⟩;simp only at q0 p0 p1 p5;subst q0;refine jB ?_;simp only[↓aA,aB,rE,↓reduceIte,rA,p0,p5,ha.len];by_cases hlt:i<l.length
  ·refine aT (by simp only[↓aA,aB,rE,↓reduceIte,rA,Ac (show(i:Int)<((l.length:Nat):Int) by omega)]) (aM ?_);try simp only[↓aA,aB,rE,↓reduceIte,rA]
   obtain⟨e1,b1,q1,ia,_,_,h1,la,_⟩:=aY.at (aY.same (E:=dM) dF ha hX) (by decide) (Ad hlt);obtain⟨e2,b2,q2,ib,_,_,h2,lb,_⟩:=aY.at (aY.same (E:=dM) dF hb hX) (by decide) (Ad hlt);have h1:e1= [.int .i64 l[i].player,.int .i64 l[i].actions]:=h1;have h2:e2= [.int .i64 l[i].player,.int .i64 l[i].actions]:=h2;subst h1;subst h2;have hsv:=aD4 (fV .i64 l[i].player) (fV .i64 l[i].actions);have sa:=aY.self ha;have sb:=aY.self hb;have w1:IntKind.i64.wrap ((i:Int)+1)=((i+1:Nat):Int):=by rw[wrap_i64 (by omega) (by omega)];omega
   refine aC (aP (aC (tF ?_)));simp only[↓aA,aB,rE,↓reduceIte,rA,p0,p1,p5,aK,ia,ib,la,lb,hsv,aMu,sa,sb];refine aO (by simp only[↓aA,aB,rE,↓reduceIte,rA]) (aM ?_);try simp only[↓aA,aB,rE,↓reduceIte,rA]
   refine aE ?_;simp only[↓aA,aB,rE,↓reduceIte,rA,p5,w1];exact⟨k - 1,by omega,rfl,hX.trans (Same.nx _ _),i+1,by omega,by refine⟨?_,?_,?_⟩<;>simp only[↓aA,aB,rE,↓reduceIte,rA,p0,p1]⟩
  ·refine aO (by simp only[↓aA,aB,rE,↓reduceIte,rA,Aa (show ¬ (i:Int)<((l.length:Nat):Int) by omega)]) (bN ?_);simp only[↓aA,aB,rE,↓reduceIte,rA];exact hX
 rintro o ⟨F,inr⟩ X ⟨rfl,q0,hX⟩;simp only at q0;subst q0;try simp only[↓aA,aB,rE,↓reduceIte,rA]
 refine cD ?_;simp only[↓aA,aB,rE,↓reduceIte,rA];refine aU ?_;simp only[↓aA,aB,rE,↓reduceIte,rA];exact hX
theorem aDe{S:St}{cs ds:List AV}{x:bS}(H:Has fns)(h1:dD S cs x)(h2:dD S ds x)(hb:x.next.length * 8≤140737488355328∧x.weights.length * 8≤140737488355328∧x.pay.length * 8≤140737488355328):fP fns (.fn 31 [] []) [.agg cs,.agg ds] S fun r S'=>r= .bool true∧Same S S':=by
 obtain⟨xa,xw,xp,rfl,hxa,hxw,hxp⟩:=h1;obtain⟨ya,yw,yp,rfl,hya,hyw,hyp⟩:=h2;obtain⟨b1,b2,b3⟩:=hb;refine cC H.f31 (by simp) ?_;simp only[↓aA,aB,rE,↓reduceIte,rA];refine cD ?_;refine dJ (by simp only[↓aA,aB,rE,↓reduceIte,rA];exact bK _) ?_;intro S1 s1 n1 c1;refine dJ (by simp only[↓aA,aB,rE,↓reduceIte,rA];exact bK _) ?_;intro S2 s2 n2 c2;simp only[↓aA,aB,rE,↓reduceIte,rA];have d1:S2.h.get S.nx=_:=(s2.2 _ (by omega)).trans c1;have sS:=s1.trans s2;have l1:S.nx<S2.nx:=by omega
 have l2:S1.nx<S2.nx:=by omega
 refine cD ?_;simp only[↓sU,sD,rE,↓reduceIte,rA,aG,aF,iN d1,iN c2,fY d1,fY c2,gR d1,gR c2,iO d1,iO c2,decide_true];refine bB ?_;simp only[↓sU,sD,rE,↓reduceIte,rA];refine aN (qO H (hxa.same sS) (hya.same sS) (by omega)) ?_;rintro _ S3 ⟨rfl,s3⟩;rw[Ac rfl];have d1':=(s3.2 _ l1).trans d1;have c2':=(s3.2 _ l2).trans c2;have sS3:=sS.trans s3;simp only[↓sU,sD,rE,↓reduceIte,rA,aG,aF,iM d1',iM c2'];refine bB ?_;simp only[↓sU,sD,rE,↓reduceIte,rA];refine aN (qO H (hxw.same sS3) (hyw.same sS3) (by omega)) ?_;rintro _ S4 ⟨rfl,s4⟩;rw[Ac rfl];have d1'':=(s4.2 _ (Af l1 s3.1)).trans d1';have c2'':=(s4.2 _ (Af l2 s3.1)).trans c2';have sS4:=sS3.trans s4;simp only[↓sU,sD,rE,↓reduceIte,rA,aG,aF,iY d1'',iY c2''];refine bB ?_;simp only[↓sU,sD,rE,↓reduceIte,rA];refine aN (qO H (hxp.same sS4) (hyp.same sS4) (by omega)) ?_;rintro _ S5 ⟨rfl,s5⟩;rw[Ac rfl];try simp only[↓sU,sD,rE,↓reduceIte,rA]
 refine aU ?_;try simp only[↓sU,sD,rE,↓reduceIte,rA]
 exact sS4.trans s5
theorem aIs{base:Nat}{suf:List AO}{Q:DS→Prop}:∀ {pre:List AO} {i:Nat} {D:DS},wZ fns pre i base D (fun D'=>wZ fns suf (i+pre.length) base D' Q)→wZ fns (pre++suf) i base D Q:=by
 intro pre i D h;obtain⟨n,D1,h1,k,D2,h2,h3⟩:=h;refine⟨max n k,D2,?_,h3⟩;have h1':=tA (jI fns (Ez n k)).call h1;have h2':=tA (jI fns (Ex n k)).call h2;clear h1 h2
 induction pre generalizing i D with
 | nil=>cases h1';exact h2'
 | cons o os ih=>
  show aW (qN o i base (ev fns (max n k)).call D) _=_;have h1'':aW (qN o i base (ev fns (max n k)).call D) (fun D'=>vA os (i+1) base (ev fns (max n k)).call D')=some D1:=h1';cases he:qN o i base (ev fns (max n k)).call D with
  | none=>rw[he] at h1'';cases h1''
  | some D'=>
   rw[he,aJ] at h1'';rw[aJ];exact ih h1'' (by rw[An] at h2';rw[show i+1+os.length=i+(os.length+1) by omega];exact h2')
def Low(K:Nat)(D:DS):Prop:=(∀e∈D.hs,e.1<K)∧∀l∈D.ls,l.i<K∧l.mask<2 ^ K
theorem aNw{call:eS}{o:AO}{i base K:Nat}{D D':DS}(h:qN o i base call D=some D')(hi:i<K)(hm:o.mask<2 ^ K)(hD:Low K D):Low K D':=by
 unfold qN at h;cases hw:eJ o.grd D.F with
 | false=>rw[hw,aR] at h;cases h;exact hD
 | true=>
  rw[hw,aL] at h;obtain⟨d,op,g,m⟩:=o;cases op with
  | q q=>
   have h:aW (hJ q D.F D.S.h) (fun v=>some (⟨cI d D.F v,D.S,D.ps,D.hs,bL (dE q) (⟨q,D.F,v,i,m⟩::D.ls) D.ls⟩:DS))=some D':=h;cases he:hJ q D.F D.S.h with
   | none=>rw[he] at h;cases h
   | some v=>
    rw[he,aJ] at h;cases h;refine⟨hD.1,fun l hl=>?_⟩;simp only at hl;cases hq:dE q with
    | false=>rw[hq,aR] at hl;exact hD.2 l hl
    | true=>
     rw[hq,aL] at hl;rcases Bl.1 hl with rfl | hl
     ·exact⟨hi,hm⟩
     ·exact hD.2 l hl
  | a a=>
   have h:aW (tE a D.F (base+i)) (fun r=>some (⟨cI d D.F r.1,D.S,⟨i,base+i,r.2⟩::D.ps,D.hs,D.ls⟩:DS))=some D':=h;cases he:tE a D.F (base+i) with
   | none=>rw[he] at h;cases h
   | some v=>rw[he,aJ] at h;cases h;exact hD
  | x x=>
   have h:bL (iH D.hs m) (aW (zN x call D.F ⟨(cG m D.ps D.S.h).2,D.S.nx⟩) fun r=>some (⟨cI d D.F r.1,r.2,(cG m D.ps D.S.h).1,(i,m,r.2.h)::D.hs,D.ls⟩:DS)) none=some D':=h;cases hl:iH D.hs m with
   | false=>rw[hl,aR] at h;cases h
   | true=>
    rw[hl,aL] at h;cases he:zN x call D.F ⟨(cG m D.ps D.S.h).2,D.S.nx⟩ with
    | none=>rw[he] at h;cases h
    | some v=>
     rw[he,aJ] at h;cases h;refine⟨fun e he=>?_,hD.2⟩;rcases Bl.1 he with rfl | he
     ·exact hi
     ·exact hD.1 e he
theorem aC9{call:eS}{base K:Nat}:∀ {l:List AO} {i:Nat} {D D':DS},vA l i base call D=some D'→i+l.length≤K→(∀o∈l,o.mask<2 ^ K)→Low K D→Low K D'
 | [],i,D,D',h,_,_,hD=>by cases h;exact hD
 | o::os,i,D,D',h,hi,hm,hD=>by
  have h:aW (qN o i base call D) (fun D'=>vA os (i+1) base call D')=some D':=h;rw[An] at hi;cases he:qN o i base call D with
  | none=>rw[he] at h;cases h
  | some D1=>
   rw[he,aJ] at h;exact aC9 h (by omega) (fun o ho=>hm o (Bw _ ho)) (aNw he (by omega) (hm o (Cn ..)) hD)
theorem aCn{W:Nat→Prop}{h0:T AB}{base K m:Nat}{h':T AB}{r:List (Nat×Nat×T AB)}{l:jQ}(h:cL l.v l.v=true∧aFf W base l.q l.F∧hJ l.q l.F h0=some l.v)(hl:l.i<K∧l.mask<2 ^ K)(hm:∀i,i<K→Nat.testBit m i=true):∀ {hs:List (Nat×Nat×T AB)} {h1:T AB},(∀e∈hs,∀b,b<base→¬W b→e.2.2.get b=h0.get b)→(∀b,b<base→¬W b→h1.get b=h0.get b)→fS l (hs++(K,m,h')::r) h1=true
 | [],h1,_,hh=>by
  have e1:nD l.v (hJ l.q l.F h1)=true:=by rw[h.2.1.ev hh,h.2.2];exact h.1
  have e2:Nat.testBit l.mask K=false:=Nat.testBit_lt_two_pow hl.2;show fS l ((K,m,h')::r) h1=true;unfold fS;rw[e2,aR,e1,aL,hm _ hl.1,aL]
 | (i,mm,h2)::rr,h1,hs,hh=>by
  have e1:nD l.v (hJ l.q l.F h1)=true:=by rw[h.2.1.ev hh,h.2.2];exact h.1
  have e2:fS l (rr++(K,m,h')::r) h2=true:=aCn h hl hm (fun e he=>hs e (by simp [he])) (hs (i,mm,h2) (by simp));show fS l ((i,mm,h2)::(rr++(K,m,h')::r)) h1=true;unfold fS;rw[e1,e2];cases Nat.testBit l.mask i<;>cases Nat.testBit mm l.i<;>rfl
theorem uE{W:Nat→Prop}{ops pre suf:List AO}{K:Nat}{A:bR}{S:St}{Q:Out→bR→St→Prop}{R:Fr→St→List iD→Prop}(he:ops=pre++suf)(hK:pre.length=K)(hm:(pre.all fun o=>decide (o.mask<2 ^ K))=true)
  (h:∀S1,Same S S1→S1.h=S.h→S1.nx=S.nx+ops.length→fW fns W S.h S.nx pre 0 A.F S1 [] none R)
  (h2:∀F S' ps hs ls,R F S' ps→(∀m,(∀i,i<K→Nat.testBit m i=true)→iH hs m=true)→(∀m h' r,(∀i,i<K→Nat.testBit m i=true)→fH S.h (hs.reverse++(K,m,h')::r) ls=true)→wZ fns suf K S.nx ⟨F,S',ps,hs,ls⟩ fun D'=>fH S.h D'.hs.reverse D'.ls=true∧Q .normal ⟨D'.F,A.inr⟩ ⟨(cG (2 ^ ops.length - 1) D'.ps D'.S.h).2,D'.S.nx⟩):mA fns (.drw ops) A S Q:=by
 refine wS ?_;obtain⟨n,D',e1,e2,e3⟩:=lB (fns:=fns) (i:=0) (D:=⟨A.F,⟨S.h,S.nx+ops.length⟩,[],[],[]⟩) (last:=none) ⟨fun _ _ _=>rfl,Dc _ _,fun e he=>(by cases he),fun l hl=>(by cases hl),fun p hp=>(by cases hp)⟩ rfl (h ⟨S.h,S.nx+ops.length⟩ (Same.nx S _) rfl rfl);have low:Low K D':=aC9 e1 (by omega) (fun o ho=>by have:=Dl.1 hm o ho;simpa using this) ⟨fun e he=>(by cases he),fun l hl=>(by cases hl)⟩;obtain⟨F,S',ps,hs,ls⟩:=D';have hh:=h2 F S' ps hs ls e2 (fun m hm=>by
  cases hs with
  | nil=>rfl
  | cons e r=>exact hm _ (low.1 e (Cn ..))) (fun m h' r hm=>nG fun l hl=>aCn (e3.lds l hl) (low.2 l hl) hm (fun e he=>e3.chain e (List.mem_reverse.1 he)) (fun _ _ _=>rfl))
 have:wZ fns ops 0 S.nx ⟨A.F,⟨S.h,S.nx+ops.length⟩,[],[],[]⟩ fun D'=>fH S.h D'.hs.reverse D'.ls=true∧Q .normal ⟨D'.F,A.inr⟩ ⟨(cG (2 ^ ops.length - 1) D'.ps D'.S.h).2,D'.S.nx⟩:=by
  subst he;refine aIs ⟨n,_,e1,?_⟩;rw[Ap,hK];exact hh
 exact this
def aPn(S:St)(ca cb:Option AB)(ga gb:Nat)(n:Nat)(k:Nat)(A:bR)(X:St):Prop:=A.inr=false∧Same S X∧ga<X.nx∧gb<X.nx∧X.h.get ga=ca∧X.h.get gb=cb∧∃i:Nat,i+k=n∧aD 2 A.F= .ptr ga 0∧aD 3 A.F= .ptr gb 0∧aD 5 A.F= .int .i64 (i:Int)
theorem vX{S:St}{nv iv mv jv:AV}{g:bM}(H:Has fns)(hn:aY 6 dD S nv g.nodes)(hi:aY 2 dM S iv g.infos)(hm:aY 6 dD S mv g.nodes)(hj:aY 2 dM S jv g.infos)(hT:aHk g)(hln:g.nodes.length≤100000):
  fP fns (.fn 15 [] []) [.agg [.int .i64 g.players,nv,iv],.agg [.int .i64 g.players,mv,jv]] S fun r S'=>r= .bool true∧Same S S':=by
 refine cC H.f15 (by simp) ?_;simp only[↓sU,sD,rE,↓reduceIte,rA];refine cD ?_;refine dJ (cs:=[.int .i64 g.players,nv,iv]) rfl ?_;intro S1 s1 n1 c1;refine dJ (cs:=[.int .i64 g.players,mv,jv]) rfl ?_;intro S2 s2 n2 c2;simp only[↓sU,sD,rE,↓reduceIte,rA];have d1:=(s2.2 _ (show S.nx<S1.nx by omega)).trans c1;have sS:=s1.trans s2;have l1:S.nx<S2.nx:=by omega
 have l2:S1.nx<S2.nx:=by omega
 refine jB ?_;simp only[↓sU,sD,rE,↓reduceIte,rA,aG,aF,xT d1,xT c2,fL d1,fL c2,xP d1,xP c2,hn.len,hm.len,ne_eq,Cg,decide_false];refine bB ?_;simp only[↓sU,sD,rE,↓reduceIte,rA];refine aN (aDi H (aY.same (E:=dM) dF hi sS) (aY.same (E:=dM) dF hj sS) (by have:=hT.1;omega)) ?_;rintro _ X ⟨rfl,hX⟩;have sX:=sS.trans hX;have dX:=(hX.2 _ l1).trans d1;have cX:=(hX.2 _ l2).trans c2;simp only[↓sU,sD,rE,↓reduceIte,rA,fJ,Bm];refine aO (by simp only[↓sU,sD,rE,↓reduceIte,rA]) (aM ?_);try simp only[↓sU,sD,rE,↓reduceIte,rA]
 refine aC (bF (Q:=fun o A' Z=>o= .normal∧A'.inr=false∧Same S Z) (aC (aE ?_)) ?_)
 ·simp only[↓sU,sD,rE,↓reduceIte,rA];refine aP (cB (aPn S (some (.cells [.int .i64 g.players,nv,iv] false 0)) (some (.cells [.int .i64 g.players,mv,jv] false 0)) S.nx S1.nx g.nodes.length) ?_ g.nodes.length _ _ ⟨rfl,sX,Af l1 hX.1,Af l2 hX.1,dX,cX,0,by omega,by refine⟨?_,?_,?_⟩<;>simp only[↓sU,sD,rE,↓reduceIte,rA]⟩);rintro k ⟨F,inr⟩ V ⟨q0,hV,la,lb,dV,cV,i,hik,p2,p3,p5⟩;simp only at q0 p2 p3 p5;subst q0;refine jB ?_;simp only[↓sU,sD,rE,↓reduceIte,rA,p2,p5,aG,aF,fL dV,hn.len];by_cases hlt:i<g.nodes.length;rotate_left
  ·refine aO (by simp only[↓sU,sD,rE,↓reduceIte,rA,Aa (show ¬ (i:Int)<((g.nodes.length:Nat):Int) by omega)]) (bN ?_);simp only[↓sU,sD,rE,↓reduceIte,rA];exact hV
  refine aT (by simp only[↓sU,sD,rE,↓reduceIte,rA,Ac (show(i:Int)<((g.nodes.length:Nat):Int) by omega)]) (aM ?_);try simp only[↓sU,sD,rE,↓reduceIte,rA]
  have hmem:nodeAt g i∈g.nodes:=Aw (eK hlt);obtain⟨_,bx,qx,iax,hbx,_,hex,ldx,_⟩:=aY.at (aY.same (E:=dD) cO hn hV) (by decide) (eK hlt);obtain⟨_,by',qy,iay,hby,_,hey,ldy,_⟩:=aY.at (aY.same (E:=dD) cO hm hV) (by decide) (eK hlt);have sx:∀ {cs},dD V cs (nodeAt g i)→cL (.agg cs) (.agg cs)=true:=fun {cs} h=>by
   obtain⟨xa,xw,xp,rfl,hxa,hxw,hxp⟩:=h;exact aA8 (fV ..) (fV ..) (fV ..) (cE.self hxa) (cE.self hxw) (cE.self hxp)
  have s1':=sx hex;have s2':=sx hey;have snv:=aY.self hn;have smv:=aY.self hm;have w0:IntKind.i64.wrap ((i:Int)+1)=((i+1:Nat):Int):=by rw[wrap_i64 (by omega) (by omega)];omega
  refine aC (aP (aC (dI (fun _=>False) ?_)));intro Y sY;simp only[↓sU,sD,rE,↓reduceIte,rA,p2,p3,p5,aG,aX,aF,fL dV,fL cV,la,lb,Aq,snv,smv,aK,iax,iay,ldx,ldy,hbx,hby,s1',s2'];refine cN rfl ?_;simp only[↓sU,sD,rE,↓reduceIte,rA];refine aN (aDe (x:=nodeAt g i) H (cO hex sY) (cO hey sY) (hT.2 _ hmem)) ?_;rintro _ Z ⟨rfl,hZ⟩;refine⟨hZ,?_⟩;have sVZ:=sY.trans hZ;try simp only[↓sU,sD,rE,↓reduceIte,rA,fJ,Bm]
  refine aO (by simp only[↓sU,sD,rE,↓reduceIte,rA]) (aM ?_);try simp only[↓sU,sD,rE,↓reduceIte,rA]
  refine aE ?_;simp only[↓sU,sD,rE,↓reduceIte,rA,p5,w0];exact⟨k - 1,by omega,rfl,hV.trans sVZ,Af la sVZ.1,Af lb sVZ.1,(sVZ.2 _ la).trans dV,(sVZ.2 _ lb).trans cV,i+1,by omega,by refine⟨?_,?_,?_⟩<;>simp only[↓sU,sD,rE,↓reduceIte,rA,p2,p3]⟩
 rintro o ⟨F,inr⟩ Z ⟨rfl,q0,hZ⟩;simp only at q0;subst q0;try simp only[↓sU,sD,rE,↓reduceIte,rA]
 refine cD ?_;simp only[↓sU,sD,rE,↓reduceIte,rA];refine aU ?_;simp only[↓sU,sD,rE,↓reduceIte,rA];exact hZ
theorem fG{S S':St}{v:AV}{l:List Int}(h:cE .i64 S v l)(hn:S.nx≤S'.nx)(hh:∀c,aS v=some c→S'.h.get c=S.h.get c):cE .i64 S' v l:=ofG (aY.moveB (toG h) hn hh fun _ _ h=>h)
def aBX(X:St)(P:Nat→Prop)(e:List AV)(a:bS):Prop:=∃xa xw xp,e= [.int .i64 a.kind,.int .i64 a.player,.int .i64 a.info,xa,xw,xp]∧cE .i64 X xa a.next∧cE .i64 X xw a.weights∧cE .i64 X xp a.pay∧∀c,(aS xa=some c∨aS xw=some c∨aS xp=some c)→P c
def mO(X:St)(P:Nat→Prop)(cs:List AV)(l:List bS):Prop:=cs.length=l.length * 6∧∀ (j:Nat) (a:bS),l[j]? =some a→∃e:List AV,e.length=6∧(∀ (q:Nat) (x:AV),e[q]? =some x→cs[j * 6+q]? =some x)∧aBX X P e a
theorem dL{k:IntKind}{X:St}{v:AV}{l:List Int}{c:Nat}(h:cE k X v l)(hc:aS v=some c):c<X.nx:=by
 rcases h with⟨_,rfl | rfl⟩ | ⟨b,off,cap,o,cs,rfl,_,hb,_⟩
 ·cases hc
 ·cases hc
 ·cases hc;exact hb
theorem aBX.move{X X':St}{P P':Nat→Prop}{e:List AV}{a:bS}(h:aBX X P e a)(hn:X.nx≤X'.nx)(hh:∀c,c<X.nx→P c→X'.h.get c=X.h.get c∧P' c):aBX X' P' e a:=by
 obtain⟨xa,xw,xp,rfl,h1,h2,h3,h4⟩:=h;refine⟨xa,xw,xp,rfl,fG h1 hn fun c hc=>(hh c (dL h1 hc) (h4 c (.inl hc))).1,fG h2 hn fun c hc=>(hh c (dL h2 hc) (h4 c (.inr (.inl hc)))).1,fG h3 hn fun c hc=>(hh c (dL h3 hc) (h4 c (.inr (.inr hc)))).1,fun c hc=>?_⟩;rcases hc with hc | hc | hc
 ·exact(hh c (dL h1 hc) (h4 c (.inl hc))).2
 ·exact(hh c (dL h2 hc) (h4 c (.inr (.inl hc)))).2
 ·exact(hh c (dL h3 hc) (h4 c (.inr (.inr hc)))).2
theorem mO.move{X X':St}{P P':Nat→Prop}{cs:List AV}{l:List bS}(h:mO X P cs l)(hn:X.nx≤X'.nx)(hh:∀c,c<X.nx→P c→X'.h.get c=X.h.get c∧P' c):mO X' P' cs l:=
 ⟨h.1,fun j a hj=>by
  obtain⟨e,e1,e2,e3⟩:=h.2 j a hj;exact⟨e,e1,e2,e3.move hn hh⟩⟩
theorem mO.push{X:St}{P:Nat→Prop}{cs e:List AV}{l:List bS}{a:bS}(h:mO X P cs l)(he:aBX X P e a):mO X P (cs++e) (l++ [a]):=by
 have hl:e.length=6:=by
  obtain⟨_,_,_,rfl,_⟩:=he;rfl
 refine⟨by rw[Ai,h.1,hl,Ai,Am,Du],fun j b hj=>?_⟩;rw[Dw] at hj;split at hj
 ·obtain⟨e',e1,e2,e3⟩:=h.2 j b hj;refine⟨e',e1,fun q x hq=>?_,e3⟩;have:=e2 q x hq;rw[Ay (Ae.1 this).1];exact this
 ·rename_i hlt;have hj0:j - l.length=0:=by
   rcases Cd (j - l.length) with h0 | h0
   ·exact h0
   ·obtain⟨q,hq⟩:=Nat.exists_eq_succ_of_ne_zero (Nat.pos_iff_ne_zero.1 h0);rw[hq] at hj;simp at hj
  rw[hj0] at hj;simp at hj;subst hj;have hjl:j=l.length:=by omega
  subst hjl;refine⟨e,hl,fun q x hq=>?_,he⟩;rw[Az (by rw[h.1];omega),h.1,Nat.add_sub_cancel_left];exact hq
theorem mO.is{X0 X:St}{P:Nat→Prop}{pv:AV}{cs:List AV}{l:List bS}(h:mO X P cs l)(hg:gQ 6 X0 X pv l.length cs):aY 6 dD X pv l:=by
 rcases hg with⟨rfl,h0,_⟩ | ⟨b,rfl,_,hb,hc,_⟩
 ·exact .inl ⟨Cc.1 h0,.inl rfl⟩
 ·refine .inr ⟨b,0,l.length,true,cs,rfl,Ag _,hb,by unfold cM;rw[hc];rfl,fun j a hj=>?_⟩;obtain⟨e,e1,e2,xa,xw,xp,h3,h4,h5,h6,_⟩:=h.2 j a hj;exact⟨e,e1,fun q x hq=>by rw[Ap];exact e2 q x hq,xa,xw,xp,h3,h4,h5,h6⟩
theorem aH6{t:Nat}{x:cK}{F:Fr}{id:Nat}{k p f xa xw xp z0 z1 z2 z3 z4 z5:AV}(hx:x.val F= .agg [k,p,f,xa,xw,xp]):tE (.bslice t 6 1 [z0,z1,z2,z3,z4,z5] [(0,x)]) F id=some (.sl id 0 1 1 false,.cells [k,p,f,xa,xw,xp] false 0):=by
 show(aW (fI (repeatL [z0,z1,z2,z3,z4,z5] 1) [(0 * 6,6,x.val F)]) fun cs=>some (AV.sl id 0 1 1 false,AB.cells cs false 0))=_;rw[hx];show(aW (aW (AV.cells (.agg [k,p,f,xa,xw,xp])) _) _)=_;rw[bK,aJ];rfl
theorem aQT{S:St}{t:Nat}{k p f xa xw xp:AV}{o:Bool}{sz:Nat}(h:S.h.get t=some (.cells [k,p,f,xa,xw,xp] o sz)):eH (.sl t 0 1 1 false) S.h 6 1=some [k,p,f,xa,xw,xp]:=by
 show aW (cM S.h t) (fun cs=>cut cs 0 (1 * 6))=_;unfold cM;rw[h];rfl
theorem gQ.appB{k n m bytes:Nat}{S0 S:St}{v x:AV}{cs new:List AV}(h:gQ k S0 S v n cs)(hS:Same S0 S)(hl:mE x=some m)(hs:eH x S.h k m=some new)(hn:new.length=m * k)(hm:0<m)(h1:n+m≤room)(h2:(n+m) * bytes≤room):
  ∃v' S',gN bytes k v x S=some (v',S')∧gQ k S0 S' v' (n+m) (cs++new)∧Same S0 S'∧S.nx≤S'.nx∧(∀c,c<S.nx→aS v≠some c→S'.h.get c=S.h.get c)∧aS v'=some S.nx:=by
 rcases h with⟨rfl,rfl,rfl⟩ | ⟨b,rfl,hb0,hb,hg,hc⟩
 ·refine⟨.sl S.nx 0 m m true,⟨S.h.set S.nx (some (.cells new true k)),S.nx+1⟩,?_,.inr ⟨S.nx,by rw[Ap],hS.1,by simp,?_,by rw[Ap];exact hn⟩,hS.trans (Same.alloc S _),by simp,fun c hc _=>(Same.alloc S _).2 c hc,rfl⟩
  ·show(aW (mE x) fun j=>aW (eH x S.h k j) fun new=>aDh .nilsl bytes k j new S)=_;rw[hl,aJ,hs,aJ];show rM bytes k m new S=_;unfold rM;rw[show Nat.beq m 0=false from Br.2 fun e=>by rw[Ax] at e;omega,aR,Aj (by omega),aL,Aj (by rw[Ap] at h2;exact h2),aL];rfl
  ·simp only;rw[T.get_set,if_pos rfl];rfl
 ·refine⟨.sl S.nx 0 (n+m) (n+m) true,⟨(S.h.set b none).set S.nx (some (.cells (cs++new) true k)),S.nx+1⟩,?_,.inr ⟨S.nx,rfl,hS.1,by simp,?_,by rw[Ai,hc,hn,Du]⟩,⟨Bb hS.1 (by simp),fun c hc=>?_⟩,by simp,fun c hc hne=>?_,rfl⟩
  ·show(aW (mE x) fun j=>aW (eH x S.h k j) fun new=>aDh (.sl b 0 n n true) bytes k j new S)=_;rw[hl,aJ,hs,aJ];show oL bytes k b 0 n n true m new S=_;unfold oL;have e2:Nat.ble (n+m) n=false:=by rw[Br];intro h;have:=Ao h;omega
   rw[e2,aR,Aj h1,aL,Aj h2,aL,hg,aJ];have e3:cut cs 0 (n * k)=some cs:=by
    unfold cut;rw[fF,fQ,Co,if_pos (by omega),Bg (by omega)]
   have e4:Nat.beq (0+n * k) (iW cs)=true:=by rw[dR,hc,Ax];omega
   have e5:Nat.beq k k=true:=Nat.beq_refl k;simp only[aBs,e3,aJ,aL,e4,e5,grown,fT]
  ·simp only;rw[T.get_set,if_pos rfl]
  ·simp only;have:=hS.1;rw[T.get_set,if_neg (by omega),T.get_set,if_neg (by omega)];exact hS.2 c hc
  ·simp only;have:c≠b:=fun e=>hne (by rw[e];rfl);rw[T.get_set,if_neg (by omega),T.get_set,if_neg this]
theorem aFT{W:Nat→Prop}{h0:T AB}{base:Nat}{m i:Nat}{l:List AO}{F:Fr}{S:St}{last:Option Nat}{Q:Fr→St→List iD→Prop}{n j id:Nat}{x v:cK}{cs cs':List AV}(ht:Nat.testBit m j=true)(h:lP last m=true)(hx:x.val F= .ptr id 0)(hv:(v.val F).cells=some cs')(h1:cs.length=n)(h2:cs'.length=n)(hid:base≤id)
  (hr:∀S1,bH id S S1→S1.nx=S.nx→S1.h.get id=some (.cells cs' false 0)→fW fns W h0 base l (i+1) F S1 [] (some i) Q):fW fns W h0 base (⟨none,.x (.st n x v),none,m⟩::l) i F S [⟨j,id,.cells cs false 0⟩] last Q:=by
 have hb:(⟨S.h.set id (some (.cells cs false 0)),S.nx⟩:St).h.get id=some (.cells cs false 0):=by simp only;rw[T.get_set,if_pos rfl]
 refine aAz (S1:=⟨(S.h.set id (some (.cells cs false 0))).set id (some (.cells cs' false 0)),S.nx⟩) h ?_ ⟨Ag _,fun c hc hw=>?_⟩ ?_
 ·rw[dS ht,hv,aJ,hx];exact aID hb h1 h2
 ·simp only;rw[dS ht,T.get_set,if_neg (by omega)]
 ·rw[dS ht];refine hr _ ⟨Ag _,fun c hc hne=>?_⟩ rfl ?_
  ·simp only;rw[T.get_set,if_neg hne,T.get_set,if_neg hne]
  ·simp only;rw[T.get_set,if_pos rfl]
theorem aEC{k:Nat}{α:Type}{E:St→List AV→α→Prop}{S:St}{v:AV}{l:List α}(h:aY k E S v l):v.cells=some [v]:=by
 rcases h with⟨_,rfl | rfl⟩ | ⟨b,off,cap,o,cs,rfl,_⟩<;>rfl
end Go.Ev.Gl
