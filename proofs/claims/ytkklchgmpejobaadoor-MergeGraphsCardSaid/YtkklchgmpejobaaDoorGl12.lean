import Derived.Test.YtkklchgmpejobaaDoorGl11
open Nat renaming reduceEqDiff → rE, reduceAdd → rA
set_option maxHeartbeats 16000000
set_option linter.unusedSimpArgs false
set_option linter.unusedVariables false
namespace Go.Ev.Gl
variable {fns:T cR}
def aDC(_:St)(cs:List AV)(x:Int):Prop:=cs= [.int .i64 x]
theorem nI:mI aDC:=fun h _=>h
theorem toG{S:St}{v:AV}{l:List Int}(h:bJ .i64 S v l):aN 1 aDC S v l:=by
 rcases h with h | ⟨b,off,cap,o,cs,rfl,hc,hb,hcs,hel⟩
 ·exact .inl h
 ·refine .inr ⟨b,off,cap,o,cs,rfl,hc,hb,hcs,fun i a hi=>⟨[.int .i64 a],rfl,fun j x hj=>?_,rfl⟩⟩;cases j with
  | zero=>simp at hj;subst hj;rw[Eb,Bj];exact hel i a hi
  | succ j=>simp at hj
theorem ofG{S:St}{v:AV}{l:List Int}(h:aN 1 aDC S v l):bJ .i64 S v l:=by
 rcases h with h | ⟨b,off,cap,o,cs,rfl,hc,hb,hcs,hel⟩
 ·exact .inl h
 ·refine .inr ⟨b,off,cap,o,cs,rfl,hc,hb,hcs,fun i a hi=>?_⟩;obtain⟨e,_,h2,h3⟩:=hel i a hi;have h3:e= [.int .i64 a]:=h3;subst h3;have:=h2 0 _ rfl;rw[Eb,Bj] at this;exact this
theorem aN.moveB{k:Nat}{α:Type}{E:St→List AV→α→Prop}{S S':St}{v:AV}{l:List α}(h:aN k E S v l)(hn:S.nx≤S'.nx)(hh:∀c,aY v=some c→S'.h.get c=S.h.get c)(hE:∀e a,E S e a→E S' e a):aN k E S' v l:=by
 rcases h with h | ⟨b,off,cap,o,cs,rfl,hc,hb,hcs,hel⟩
 ·exact .inl h
 ·refine .inr ⟨b,off,cap,o,cs,rfl,hc,Ae hb hn,?_,fun i a hi=>?_⟩
  ·unfold cK;rw[hh b rfl];exact hcs
  ·obtain⟨e,e1,e2,e3⟩:=hel i a hi;exact⟨e,e1,e2,hE e a e3⟩
theorem aN3{k:Nat}{α:Type}{E:St→List AV→α→Prop}{S:St}{v:AV}{l:List α}(hk:0<k)(h:aN k E S v l):∃new,sE v=some l.length∧fI v S.h k l.length=some new∧∀i a,l[i]? =some a→∃e:List AV,e.length=k∧(∀ (j:Nat) (x:AV),e[j]? =some x→new[i * k+j]? =some x)∧E S e a:=by
 rcases h with⟨rfl,h⟩ | ⟨b,off,cap,o,cs,rfl,hc,hb,hcs,hel⟩
 ·rcases h with rfl | rfl<;>exact⟨[],rfl,rfl,fun i a hi=>by simp at hi⟩
 ·rcases Eg l.length with h0 | hp
  ·have hl:l= []:=Cb.1 h0;subst hl;refine⟨[],rfl,?_,fun i a hi=>by simp at hi⟩;show(aW (cK S.h b) fun cs=>cut cs off (0 * k))=_;rw[hcs,aO,Fa];unfold cut;rw[fO,gC,if_pos (Cc _)];rfl
  ·have hle:off+l.length * k≤cs.length:=by
    obtain⟨e,e1,e2,_⟩:=hel (l.length - 1) _ (Ad (by omega));have:=e2 (k - 1) _ (Ad (by omega));have h3:=(Af.1 this).1;have h4:(l.length - 1) * k+k=l.length * k:=by
     rw[←Dm];congr 1;omega
    omega
   refine⟨(cs.drop off).take (l.length * k),rfl,?_,fun i a hi=>?_⟩
   ·show(aW (cK S.h b) fun cs=>cut cs off (l.length * k))=_;rw[hcs,aO];unfold cut;rw[fO,gC,if_pos (by rw[Cx];omega)]
   ·obtain⟨e,e1,e2,e3⟩:=hel i a hi;refine⟨e,e1,fun j x hj=>?_,e3⟩;have hlt:=(Af.1 hi).1;have hj1:=(Af.1 hj).1;have h5:i * k+k≤l.length * k:=by
     rw[←Dm];exact Nat.mul_le_mul_right k hlt
    rw[List.getElem?_take_of_lt (by omega),Es];have:=e2 j x hj;rw[Ch] at this;exact this
def Wr(X:St)(c:Nat):Prop:=∃cs o sz,X.h.get c=some (.cells cs o sz)
theorem Wr.eq{X X':St}{c:Nat}(h:Wr X c)(e:X'.h.get c=X.h.get c):Wr X' c:=by
 obtain⟨cs,o,sz,h⟩:=h;exact⟨cs,o,sz,e.trans h⟩
theorem qY{k bytes b:Nat}{α:Type}{E:St→List AV→α→Prop}{S:St}{v:AV}{l:List α}(hE:mI E)(hk:0<k)(hb:S.h.get b=some (.cells [] false 0))(hbl:b<S.nx)(h:aN k E S v l)(h1:l.length≤room)(h2:l.length * bytes≤room):
  ∃r S',jH bytes k (.sl b 0 0 0 false) v S=some (r,S')∧aN k E S' r l∧Same S S'∧(∀c,aY r=some c→c=b∨S.nx≤c)∧∀c,aY r=some c→Wr S' c:=by
 obtain⟨new,e1,e2,e3⟩:=aN3 hk h;unfold jH;rw[e1,aO,e2,aO];show ∃r S',aAM bytes k b 0 0 0 false l.length new S=some (r,S')∧_;unfold aAM;rcases Eg l.length with h0 | hp
 ·have hl:l= []:=Cb.1 h0;subst hl;refine⟨.sl b 0 0 0 false,S,rfl,.inr ⟨b,0,0,false,[],rfl,Ah _,hbl,by unfold cK;rw[hb];rfl,fun i a hi=>by simp at hi⟩,Same.refl S,fun c hc=>?_,fun c hc=>?_⟩
  ·cases hc;exact .inl rfl
  ·cases hc;exact⟨_,_,_,hb⟩
 ·have e5:Nat.ble (0+l.length) 0=false:=by
   rw[Cf];intro e;have:=Ao e;omega
  rw[e5,aT,Ak (by omega),aM,Ak (by rw[Aw];exact h2),aM,hb,aO];have e4:cut ([]:List AV) 0 (0 * k)=some []:=by
   unfold cut;rw[fO,gC,Fa,if_pos (Cc _)];rfl
  show ∃r S',(aW (cut ([]:List AV) 0 (0 * k)) fun old=>bG false _ (grown S.h S.nx (0+l.length) k (uA old new)))=some (r,S')∧_;rw[e4,aO,aT];refine⟨_,_,rfl,.inr ⟨S.nx,0,l.length,true,new,by rw[Aw],Ah _,by simp,?_,fun i a hi=>?_⟩,Same.alloc S _,fun c hc=>?_,fun c hc=>?_⟩
  ·unfold cK;simp only;rw[T.get_set,if_pos rfl];rfl
  ·obtain⟨e,a1,a2,a3⟩:=e3 i a hi;exact⟨e,a1,fun j x hj=>by rw[Aw];exact a2 j x hj,hE a3 (Same.alloc S _)⟩
  ·cases hc;exact .inr (Ah _)
  ·cases hc;exact⟨_,_,_,by simp only;rw[T.get_set,if_pos rfl]⟩
theorem aF5{k bytes b:Nat}{α:Type}{E:St→List AV→α→Prop}{S:St}{v:AV}{l:List α}(hE:mI E)(hk:0<k)(hb:S.h.get b=some (.cells [] false 0))(hbl:b<S.nx)(h:aN k E S v l)(h1:l.length≤room)(h2:l.length * bytes≤room):
  ∃r S',jH bytes k (.sl b 0 0 0 false) v S=some (r,S')∧aN k E S' r l∧Same S S'∧∀c,aY r=some c→c=b∨S.nx≤c:=by
 obtain⟨r,S',a,b',c,d,_⟩:=qY (bytes:=bytes) (E:=E) hE hk hb hbl h h1 h2;exact⟨r,S',a,b',c,d⟩
theorem aJf(p a:Int):eB .neq (.struct [(0,.int),(1,.int)]) (.agg [.int .i64 p,.int .i64 a]) (.agg [.int .i64 p,.int .i64 a])=some (.bool false):=by
 have e:∀z:Int,xH .int (.int .i64 z) (.int .i64 z)=some true:=fun z=>by
  show bG (keq .i64 .i64) (some (ieq z z)) none=_;rw[dK,aM,iD];simp
 show aW (eqs [(0,.int),(1,.int)] [.int .i64 p,.int .i64 a] [.int .i64 p,.int .i64 a]) (fun b=>some (AV.bool (bG b false true)))=_;have e0:nth [AV.int .i64 p,.int .i64 a] 0=some (.int .i64 p):=rfl;have e1:nth [AV.int .i64 p,.int .i64 a] 1=some (.int .i64 a):=rfl;simp only[eqs,e0,e1,e,aO,aM]
def aMK(S:St)(a b:AV)(n:Nat)(k:Nat)(A:bK)(X:St):Prop:=A.inr=false∧Same S X∧∃i:Nat,i+k=n∧aH 0 A.F=a∧aH 1 A.F=b∧aH 5 A.F= .int .i64 (i:Int)
theorem aBU{S:St}{a b:AV}{l:List aDc}(H:Has fns)(ha:aN 2 bZ S a l)(hb:aN 2 bZ S b l)(hl:l.length≤140737488355328):fH fns (.fn 30 [] []) [a,b] S fun r S'=>r= .bool true∧Same S S':=by
 refine bP H.f30 (by simp) ?_;simp only[↓aA,aB,rE,↓reduceIte,rA];refine bO ?_;simp only[↓aA,aB,rE,↓reduceIte,rA];refine fZ ?_;simp only[↓aA,aB,rE,↓reduceIte,rA,ha.len,hb.len];refine aL (by simp only[↓aA,aB,rE,↓reduceIte,rA,Aa (show ¬ ((l.length:Nat):Int)≠((l.length:Nat):Int) from fun h=>h rfl)]) (aJ ?_);try simp only[↓aA,aB,rE,↓reduceIte,rA]
 refine aC (aX (Q:=fun o A' X=>o= .normal∧A'.inr=false∧Same S X) (aC (aD ?_)) ?_)
 ·simp only[↓aA,aB,rE,↓reduceIte,rA];refine aK (bI (aMK S a b l.length) ?_ l.length _ _ ⟨rfl,Same.refl _,0,by omega,by refine⟨?_,?_,?_⟩<;>simp only[↓aA,aB,rE,↓reduceIte,rA]⟩);rintro k ⟨F,inr⟩ X ⟨q0,hX,i,hik,p0,p1,p5⟩;simp only at q0 p0 p1 p5;subst q0;refine fZ ?_;simp only[↓aA,aB,rE,↓reduceIte,rA,p0,p5,ha.len];by_cases hlt:i<l.length
  ·refine aQ (by simp only[↓aA,aB,rE,↓reduceIte,rA,Ab (show(i:Int)<((l.length:Nat):Int) by omega)]) (aJ ?_);try simp only[↓aA,aB,rE,↓reduceIte,rA]
   obtain⟨e1,b1,q1,ia,_,_,h1,la,_⟩:=aN.at (aN.same (E:=bZ) bQ ha hX) (by decide) (Ad hlt);obtain⟨e2,b2,q2,ib,_,_,h2,lb,_⟩:=aN.at (aN.same (E:=bZ) bQ hb hX) (by decide) (Ad hlt);have h1:e1= [.int .i64 l[i].player,.int .i64 l[i].actions]:=h1;have h2:e2= [.int .i64 l[i].player,.int .i64 l[i].actions]:=h2;subst h1;subst h2;have hsv:=aDa (eE .i64 l[i].player) (eE .i64 l[i].actions);have sa:=aN.self ha;have sb:=aN.self hb;have w1:IntKind.i64.wrap ((i:Int)+1)=((i+1:Nat):Int):=by rw[wrap_i64 (by omega) (by omega)];omega
   refine aC (aK (aC (sH ?_)));simp only[↓aA,aB,rE,↓reduceIte,rA,p0,p1,p5,aI,ia,ib,la,lb,hsv,aJf,sa,sb];refine aL (by simp only[↓aA,aB,rE,↓reduceIte,rA]) (aJ ?_);try simp only[↓aA,aB,rE,↓reduceIte,rA]
   refine aD ?_;simp only[↓aA,aB,rE,↓reduceIte,rA,p5,w1];exact⟨k - 1,by omega,rfl,hX.trans (Same.nx _ _),i+1,by omega,by refine⟨?_,?_,?_⟩<;>simp only[↓aA,aB,rE,↓reduceIte,rA,p0,p1]⟩
  ·refine aL (by simp only[↓aA,aB,rE,↓reduceIte,rA,Aa (show ¬ (i:Int)<((l.length:Nat):Int) by omega)]) (bC ?_);simp only[↓aA,aB,rE,↓reduceIte,rA];exact hX
 rintro o ⟨F,inr⟩ X ⟨rfl,q0,hX⟩;simp only at q0;subst q0;try simp only[↓aA,aB,rE,↓reduceIte,rA]
 refine bO ?_;simp only[↓aA,aB,rE,↓reduceIte,rA];refine aS ?_;simp only[↓aA,aB,rE,↓reduceIte,rA];exact hX
theorem aCC{S:St}{cs ds:List AV}{x:dD}(H:Has fns)(h1:bT S cs x)(h2:bT S ds x)(hb:x.next.length * 8≤140737488355328∧x.weights.length * 8≤140737488355328∧x.pay.length * 8≤140737488355328):fH fns (.fn 31 [] []) [.agg cs,.agg ds] S fun r S'=>r= .bool true∧Same S S':=by
 obtain⟨xa,xw,xp,rfl,hxa,hxw,hxp⟩:=h1;obtain⟨ya,yw,yp,rfl,hya,hyw,hyp⟩:=h2;obtain⟨b1,b2,b3⟩:=hb;refine bP H.f31 (by simp) ?_;simp only[↓aA,aB,rE,↓reduceIte,rA];refine bO ?_;refine cW (by simp only[↓aA,aB,rE,↓reduceIte,rA];exact bL _) ?_;intro S1 s1 n1 c1;refine cW (by simp only[↓aA,aB,rE,↓reduceIte,rA];exact bL _) ?_;intro S2 s2 n2 c2;simp only[↓aA,aB,rE,↓reduceIte,rA];have d1:S2.h.get S.nx=_:=(s2.2 _ (by omega)).trans c1;have sS:=s1.trans s2;have l1:S.nx<S2.nx:=by omega
 have l2:S1.nx<S2.nx:=by omega
 refine bO ?_;simp only[↓sU,sD,rE,↓reduceIte,rA,aF,aE,eY d1,eY c2,cO d1,cO c2,cL d1,cL c2,cN d1,cN c2,decide_true];refine aV ?_;simp only[↓sU,sD,rE,↓reduceIte,rA];refine aP (pE H (hxa.same sS) (hya.same sS) (by omega)) ?_;rintro _ S3 ⟨rfl,s3⟩;rw[Ab rfl];have d1':=(s3.2 _ l1).trans d1;have c2':=(s3.2 _ l2).trans c2;have sS3:=sS.trans s3;simp only[↓sU,sD,rE,↓reduceIte,rA,aF,aE,cQ d1',cQ c2'];refine aV ?_;simp only[↓sU,sD,rE,↓reduceIte,rA];refine aP (pE H (hxw.same sS3) (hyw.same sS3) (by omega)) ?_;rintro _ S4 ⟨rfl,s4⟩;rw[Ab rfl];have d1'':=(s4.2 _ (Ae l1 s3.1)).trans d1';have c2'':=(s4.2 _ (Ae l2 s3.1)).trans c2';have sS4:=sS3.trans s4;simp only[↓sU,sD,rE,↓reduceIte,rA,aF,aE,cP d1'',cP c2''];refine aV ?_;simp only[↓sU,sD,rE,↓reduceIte,rA];refine aP (pE H (hxp.same sS4) (hyp.same sS4) (by omega)) ?_;rintro _ S5 ⟨rfl,s5⟩;rw[Ab rfl];try simp only[↓sU,sD,rE,↓reduceIte,rA]
 refine aS ?_;try simp only[↓sU,sD,rE,↓reduceIte,rA]
 exact sS4.trans s5
theorem aKB{base:Nat}{suf:List AO}{Q:DS→Prop}:∀ {pre:List AO} {i:Nat} {D:DS},vU fns pre i base D (fun D'=>vU fns suf (i+pre.length) base D' Q)→vU fns (pre++suf) i base D Q:=by
 intro pre i D h;obtain⟨n,D1,h1,k,D2,h2,h3⟩:=h;refine⟨max n k,D2,?_,h3⟩;have h1':=qK (mD fns (Nat.le_max_left n k)).call h1;have h2':=qK (mD fns (Nat.le_max_right n k)).call h2;clear h1 h2
 induction pre generalizing i D with
 | nil=>cases h1';exact h2'
 | cons o os ih=>
  show aW (qO o i base (ev fns (max n k)).call D) _=_;have h1'':aW (qO o i base (ev fns (max n k)).call D) (fun D'=>vL os (i+1) base (ev fns (max n k)).call D')=some D1:=h1';cases he:qO o i base (ev fns (max n k)).call D with
  | none=>rw[he] at h1'';cases h1''
  | some D'=>
   rw[he,aO] at h1'';rw[aO];exact ih h1'' (by rw[Al] at h2';rw[show i+1+os.length=i+(os.length+1) by omega];exact h2')
def Low(K:Nat)(D:DS):Prop:=(∀e∈D.hs,e.1<K)∧∀l∈D.ls,l.i<K∧l.mask<2 ^ K
theorem aLm{call:dY}{o:AO}{i base K:Nat}{D D':DS}(h:qO o i base call D=some D')(hi:i<K)(hm:o.mask<2 ^ K)(hD:Low K D):Low K D':=by
 unfold qO at h;cases hw:dL o.grd D.F with
 | false=>rw[hw,aT] at h;cases h;exact hD
 | true=>
  rw[hw,aM] at h;obtain⟨d,op,g,m⟩:=o;cases op with
  | q q=>
   have h:aW (gB q D.F D.S.h) (fun v=>some (⟨bY d D.F v,D.S,D.ps,D.hs,bG (dE q) (⟨q,D.F,v,i,m⟩::D.ls) D.ls⟩:DS))=some D':=h;cases he:gB q D.F D.S.h with
   | none=>rw[he] at h;cases h
   | some v=>
    rw[he,aO] at h;cases h;refine⟨hD.1,fun l hl=>?_⟩;simp only at hl;cases hq:dE q with
    | false=>rw[hq,aT] at hl;exact hD.2 l hl
    | true=>
     rw[hq,aM] at hl;rcases Bf.1 hl with rfl | hl
     ·exact⟨hi,hm⟩
     ·exact hD.2 l hl
  | a a=>
   have h:aW (uP a D.F (base+i)) (fun r=>some (⟨bY d D.F r.1,D.S,⟨i,base+i,r.2⟩::D.ps,D.hs,D.ls⟩:DS))=some D':=h;cases he:uP a D.F (base+i) with
   | none=>rw[he] at h;cases h
   | some v=>rw[he,aO] at h;cases h;exact hD
  | x x=>
   have h:bG (iQ D.hs m) (aW (zF x call D.F ⟨(bV m D.ps D.S.h).2,D.S.nx⟩) fun r=>some (⟨bY d D.F r.1,r.2,(bV m D.ps D.S.h).1,(i,m,r.2.h)::D.hs,D.ls⟩:DS)) none=some D':=h;cases hl:iQ D.hs m with
   | false=>rw[hl,aT] at h;cases h
   | true=>
    rw[hl,aM] at h;cases he:zF x call D.F ⟨(bV m D.ps D.S.h).2,D.S.nx⟩ with
    | none=>rw[he] at h;cases h
    | some v=>
     rw[he,aO] at h;cases h;refine⟨fun e he=>?_,hD.2⟩;rcases Bf.1 he with rfl | he
     ·exact hi
     ·exact hD.1 e he
theorem aFn{call:dY}{base K:Nat}:∀ {l:List AO} {i:Nat} {D D':DS},vL l i base call D=some D'→i+l.length≤K→(∀o∈l,o.mask<2 ^ K)→Low K D→Low K D'
 | [],i,D,D',h,_,_,hD=>by cases h;exact hD
 | o::os,i,D,D',h,hi,hm,hD=>by
  have h:aW (qO o i base call D) (fun D'=>vL os (i+1) base call D')=some D':=h;rw[Al] at hi;cases he:qO o i base call D with
  | none=>rw[he] at h;cases h
  | some D1=>
   rw[he,aO] at h;exact aFn h (by omega) (fun o ho=>hm o (Cd _ ho)) (aLm he (by omega) (hm o (Dl ..)) hD)
theorem aCp{W:Nat→Prop}{h0:T AB}{base K m:Nat}{h':T AB}{r:List (Nat×Nat×T AB)}{l:jN}(h:bW l.v l.v=true∧aFD W base l.q l.F∧gB l.q l.F h0=some l.v)(hl:l.i<K∧l.mask<2 ^ K)(hm:∀i,i<K→Nat.testBit m i=true):∀ {hs:List (Nat×Nat×T AB)} {h1:T AB},(∀e∈hs,∀b,b<base→¬W b→e.2.2.get b=h0.get b)→(∀b,b<base→¬W b→h1.get b=h0.get b)→eC l (hs++(K,m,h')::r) h1=true
 | [],h1,_,hh=>by
  have e1:mO l.v (gB l.q l.F h1)=true:=by rw[h.2.1.ev hh,h.2.2];exact h.1
  have e2:Nat.testBit l.mask K=false:=Nat.testBit_lt_two_pow hl.2;show eC l ((K,m,h')::r) h1=true;unfold eC;rw[e2,aT,e1,aM,hm _ hl.1,aM]
 | (i,mm,h2)::rr,h1,hs,hh=>by
  have e1:mO l.v (gB l.q l.F h1)=true:=by rw[h.2.1.ev hh,h.2.2];exact h.1
  have e2:eC l (rr++(K,m,h')::r) h2=true:=aCp h hl hm (fun e he=>hs e (by simp [he])) (hs (i,mm,h2) (by simp));show eC l ((i,mm,h2)::(rr++(K,m,h')::r)) h1=true;unfold eC;rw[e1,e2];cases Nat.testBit l.mask i<;>cases Nat.testBit mm l.i<;>rfl
theorem aGR{W:Nat→Prop}{ops pre suf:List AO}{K:Nat}{A:bK}{S:St}{Q:Out→bK→St→Prop}{R:Fr→St→List iE→Prop}(he:ops=pre++suf)(hK:pre.length=K)(hm:(pre.all fun o=>decide (o.mask<2 ^ K))=true)
  (h:∀S1,Same S S1→S1.h=S.h→S1.nx=S.nx+ops.length→eS fns W S.h S.nx pre 0 A.F S1 [] none R)
  (h2:∀F S' ps hs ls,R F S' ps→(∀m,(∀i,i<K→Nat.testBit m i=true)→iQ hs m=true)→(∀m h' r,(∀i,i<K→Nat.testBit m i=true)→eO S.h (hs.reverse++(K,m,h')::r) ls=true)→vU fns suf K S.nx ⟨F,S',ps,hs,ls⟩ fun D'=>eO S.h D'.hs.reverse D'.ls=true∧Q .normal ⟨D'.F,A.inr⟩ ⟨(bV (2 ^ ops.length - 1) D'.ps D'.S.h).2,D'.S.nx⟩):oL fns (.drw ops) A S Q:=by
 refine rJ ?_;obtain⟨n,D',e1,e2,e3⟩:=lN (fns:=fns) (i:=0) (D:=⟨A.F,⟨S.h,S.nx+ops.length⟩,[],[],[]⟩) (last:=none) ⟨fun _ _ _=>rfl,Er _ _,fun e he=>(by cases he),fun l hl=>(by cases hl),fun p hp=>(by cases hp)⟩ rfl (h ⟨S.h,S.nx+ops.length⟩ (Same.nx S _) rfl rfl);have low:Low K D':=aFn e1 (by omega) (fun o ho=>by have:=Dk.1 hm o ho;simpa using this) ⟨fun e he=>(by cases he),fun l hl=>(by cases hl)⟩;obtain⟨F,S',ps,hs,ls⟩:=D';have hh:=h2 F S' ps hs ls e2 (fun m hm=>by
  cases hs with
  | nil=>rfl
  | cons e r=>exact hm _ (low.1 e (Dl ..))) (fun m h' r hm=>nL fun l hl=>aCp (e3.lds l hl) (low.2 l hl) hm (fun e he=>e3.chain e (List.mem_reverse.1 he)) (fun _ _ _=>rfl))
 have:vU fns ops 0 S.nx ⟨A.F,⟨S.h,S.nx+ops.length⟩,[],[],[]⟩ fun D'=>eO S.h D'.hs.reverse D'.ls=true∧Q .normal ⟨D'.F,A.inr⟩ ⟨(bV (2 ^ ops.length - 1) D'.ps D'.S.h).2,D'.S.nx⟩:=by
  subst he;refine aKB ⟨n,_,e1,?_⟩;rw[Aw,hK];exact hh
 exact this
def aNm(S:St)(ca cb:Option AB)(ga gb:Nat)(n:Nat)(k:Nat)(A:bK)(X:St):Prop:=A.inr=false∧Same S X∧ga<X.nx∧gb<X.nx∧X.h.get ga=ca∧X.h.get gb=cb∧∃i:Nat,i+k=n∧aH 2 A.F= .ptr ga 0∧aH 3 A.F= .ptr gb 0∧aH 5 A.F= .int .i64 (i:Int)
theorem uJ{S:St}{nv iv mv jv:AV}{g:aZ}(H:Has fns)(hn:aN 6 bT S nv g.nodes)(hi:aN 2 bZ S iv g.infos)(hm:aN 6 bT S mv g.nodes)(hj:aN 2 bZ S jv g.infos)(hT:aEg g)(hln:g.nodes.length≤100000):
  fH fns (.fn 15 [] []) [.agg [.int .i64 g.players,nv,iv],.agg [.int .i64 g.players,mv,jv]] S fun r S'=>r= .bool true∧Same S S':=by
 refine bP H.f15 (by simp) ?_;simp only[↓sU,sD,rE,↓reduceIte,rA];refine bO ?_;refine cW (cs:=[.int .i64 g.players,nv,iv]) rfl ?_;intro S1 s1 n1 c1;refine cW (cs:=[.int .i64 g.players,mv,jv]) rfl ?_;intro S2 s2 n2 c2;simp only[↓sU,sD,rE,↓reduceIte,rA];have d1:=(s2.2 _ (show S.nx<S1.nx by omega)).trans c1;have sS:=s1.trans s2;have l1:S.nx<S2.nx:=by omega
 have l2:S1.nx<S2.nx:=by omega
 refine fZ ?_;simp only[↓sU,sD,rE,↓reduceIte,rA,aF,aE,mG d1,mG c2,dO d1,dO c2,kN d1,kN c2,hn.len,hm.len,ne_eq,Ce,decide_false];refine aV ?_;simp only[↓sU,sD,rE,↓reduceIte,rA];refine aP (aBU H (aN.same (E:=bZ) bQ hi sS) (aN.same (E:=bZ) bQ hj sS) (by have:=hT.1;omega)) ?_;rintro _ X ⟨rfl,hX⟩;have sX:=sS.trans hX;have dX:=(hX.2 _ l1).trans d1;have cX:=(hX.2 _ l2).trans c2;simp only[↓sU,sD,rE,↓reduceIte,rA,eH,Bi];refine aL (by simp only[↓sU,sD,rE,↓reduceIte,rA]) (aJ ?_);try simp only[↓sU,sD,rE,↓reduceIte,rA]
 refine aC (aX (Q:=fun o A' Z=>o= .normal∧A'.inr=false∧Same S Z) (aC (aD ?_)) ?_)
 ·simp only[↓sU,sD,rE,↓reduceIte,rA];refine aK (bI (aNm S (some (.cells [.int .i64 g.players,nv,iv] false 0)) (some (.cells [.int .i64 g.players,mv,jv] false 0)) S.nx S1.nx g.nodes.length) ?_ g.nodes.length _ _ ⟨rfl,sX,Ae l1 hX.1,Ae l2 hX.1,dX,cX,0,by omega,by refine⟨?_,?_,?_⟩<;>simp only[↓sU,sD,rE,↓reduceIte,rA]⟩);rintro k ⟨F,inr⟩ V ⟨q0,hV,la,lb,dV,cV,i,hik,p2,p3,p5⟩;simp only at q0 p2 p3 p5;subst q0;refine fZ ?_;simp only[↓sU,sD,rE,↓reduceIte,rA,p2,p5,aF,aE,dO dV,hn.len];by_cases hlt:i<g.nodes.length;rotate_left
  ·refine aL (by simp only[↓sU,sD,rE,↓reduceIte,rA,Aa (show ¬ (i:Int)<((g.nodes.length:Nat):Int) by omega)]) (bC ?_);simp only[↓sU,sD,rE,↓reduceIte,rA];exact hV
  refine aQ (by simp only[↓sU,sD,rE,↓reduceIte,rA,Ab (show(i:Int)<((g.nodes.length:Nat):Int) by omega)]) (aJ ?_);try simp only[↓sU,sD,rE,↓reduceIte,rA]
  have hmem:nodeAt g i∈g.nodes:=Bc (dP hlt);obtain⟨_,bx,qx,iax,hbx,_,hex,ldx,_⟩:=aN.at (aN.same (E:=bT) bE hn hV) (by decide) (dP hlt);obtain⟨_,by',qy,iay,hby,_,hey,ldy,_⟩:=aN.at (aN.same (E:=bT) bE hm hV) (by decide) (dP hlt);have sx:∀ {cs},bT V cs (nodeAt g i)→bW (.agg cs) (.agg cs)=true:=fun {cs} h=>by
   obtain⟨xa,xw,xp,rfl,hxa,hxw,hxp⟩:=h;exact aAj (eE ..) (eE ..) (eE ..) (bJ.self hxa) (bJ.self hxw) (bJ.self hxp)
  have s1':=sx hex;have s2':=sx hey;have snv:=aN.self hn;have smv:=aN.self hm;have w0:IntKind.i64.wrap ((i:Int)+1)=((i+1:Nat):Int):=by rw[wrap_i64 (by omega) (by omega)];omega
  refine aC (aK (aC (dC (fun _=>False) ?_)));intro Y sY;simp only[↓sU,sD,rE,↓reduceIte,rA,p2,p3,p5,aF,aU,aE,dO dV,dO cV,la,lb,Au,snv,smv,aI,iax,iay,ldx,ldy,hbx,hby,s1',s2'];refine cF rfl ?_;simp only[↓sU,sD,rE,↓reduceIte,rA];refine aP (aCC (x:=nodeAt g i) H (bE hex sY) (bE hey sY) (hT.2 _ hmem)) ?_;rintro _ Z ⟨rfl,hZ⟩;refine⟨hZ,?_⟩;have sVZ:=sY.trans hZ;try simp only[↓sU,sD,rE,↓reduceIte,rA,eH,Bi]
  refine aL (by simp only[↓sU,sD,rE,↓reduceIte,rA]) (aJ ?_);try simp only[↓sU,sD,rE,↓reduceIte,rA]
  refine aD ?_;simp only[↓sU,sD,rE,↓reduceIte,rA,p5,w0];exact⟨k - 1,by omega,rfl,hV.trans sVZ,Ae la sVZ.1,Ae lb sVZ.1,(sVZ.2 _ la).trans dV,(sVZ.2 _ lb).trans cV,i+1,by omega,by refine⟨?_,?_,?_⟩<;>simp only[↓sU,sD,rE,↓reduceIte,rA,p2,p3]⟩
 rintro o ⟨F,inr⟩ Z ⟨rfl,q0,hZ⟩;simp only at q0;subst q0;try simp only[↓sU,sD,rE,↓reduceIte,rA]
 refine bO ?_;simp only[↓sU,sD,rE,↓reduceIte,rA];refine aS ?_;simp only[↓sU,sD,rE,↓reduceIte,rA];exact hZ
def aM9(W:St)(F:Fr)(nb:Nat)(l1 l2 l3:List Int)(F':Fr)(Z:St)(ps:List iE):Prop:=ps= []∧Same W Z∧(∀j,j<6→aH j F'=aH j F)∧aH 37 F'= .ptr nb (0+3)∧bJ .i64 Z (aH 28 F') l1∧bJ .i64 Z (aH 32 F') l2∧bJ .i64 Z (aH 36 F') l3∧(∀c,(aY (aH 28 F')=some c∨aY (aH 32 F')=some c∨aY (aH 36 F')=some c)→W.nx≤c)∧(∀c,aY (aH 28 F')=some c→aY (aH 32 F')≠some c∧aY (aH 36 F')≠some c)∧∀c,(aY (aH 28 F')=some c∨aY (aH 32 F')=some c∨aY (aH 36 F')=some c)→Wr Z c
theorem yB{α:Type}{k:Nat}{E:St→List AV→α→Prop}{S:St}{v:AV}{l:List α}{c:Nat}(h:aN k E S v l)(hc:aY v=some c):c<S.nx:=by
 rcases h with⟨_,rfl | rfl⟩ | ⟨b,off,cap,o,cs,rfl,_,hb,_⟩
 ·cases hc
 ·cases hc
 ·cases hc;exact hb
theorem dW{S S':St}{v:AV}{l:List Int}(h:bJ .i64 S v l)(hn:S.nx≤S'.nx)(hh:∀c,aY v=some c→S'.h.get c=S.h.get c):bJ .i64 S' v l:=ofG (aN.moveB (toG h) hn hh fun _ _ h=>h)
theorem aJM{W Y:St}{F:Fr}{nb:Nat}{k p f:AV}{xa xw xp:AV}{l1 l2 l3:List Int}(p5:aH 5 F= .ptr nb 0)(hb:W.h.get nb=some (.cells [k,p,f,xa,xw,xp] false 0))(lb:nb<W.nx)(h1:bJ .i64 W xa l1)(h2:bJ .i64 W xw l2)(h3:bJ .i64 W xp l3)(b1:l1.length * 8≤140737488355328)(b2:l2.length * 8≤140737488355328)(b3:l3.length * 8≤140737488355328)
  (hY:Same W Y) (nY:Y.nx=W.nx+18):eS fns (fun _=>False) W.h W.nx aKU 0 F Y [] none (aM9 W F nb l1 l2 l3):=by
 have s1:=bJ.self h1;have s2:=bJ.self h2;have s3:=bJ.self h3;unfold aKU;simp only[↓sU,sD,rE,↓reduceIte,rA,p5,aF,aU,aE,cN hb,lb,Au,s1,lK];obtain⟨U1,hU1⟩:∃U:St,U=⟨Y.h.set (W.nx+0) (some (.cells [] false 0)),Y.nx⟩:=⟨_,rfl⟩;have sU1:Same W U1:=by rw[hU1];exact⟨hY.1,fun c hc=>by simp only;rw[T.get_set,if_neg (by omega)];exact hY.2 c hc⟩
 have gU1:U1.h.get (W.nx+0)=some (.cells [] false 0):=by rw[hU1];simp only;rw[T.get_set,if_pos rfl]
 have nU1:U1.nx=W.nx+18:=by rw[hU1];exact nY
 obtain⟨r1,V1,e1,i1,v1,k1,w1⟩:=qY (bytes:=8) (E:=aDC) (l:=l1) nI Nat.one_pos gU1 (by omega) (toG (h1.same sU1)) (by unfold room;omega) (by unfold room;omega);refine lG rfl (by rw[cD rfl];simp only[↓sU,sD,rE,↓reduceIte,rA];rw[←hU1];exact e1) ?_ ?_
 ·rw[cD rfl,←hU1];exact⟨v1.1,fun c hc _=>v1.2 c (by omega)⟩
 rw[cD rfl];have sV1:=sU1.trans v1;simp only[↓sU,sD,rE,↓reduceIte,rA,p5,aF,aU,aE,cQ hb,lb,Au,s2,lK];obtain⟨U2,hU2⟩:∃U:St,U=⟨V1.h.set (W.nx+4) (some (.cells [] false 0)),V1.nx⟩:=⟨_,rfl⟩;have sU2:Same W U2:=by rw[hU2];exact⟨sV1.1,fun c hc=>by simp only;rw[T.get_set,if_neg (by omega)];exact sV1.2 c hc⟩
 have gU2:U2.h.get (W.nx+4)=some (.cells [] false 0):=by rw[hU2];simp only;rw[T.get_set,if_pos rfl]
 have nU2:U2.nx=V1.nx:=by rw[hU2]
 have nV1:=v1.1;have i1U:bJ .i64 U2 r1 l1:=dW (ofG i1) (by omega) fun c hc=>by
  rw[hU2];simp only;rw[T.get_set,if_neg (by rcases k1 c hc with h | h<;>omega)]
 obtain⟨r2,V2,e2,i2,v2,k2,w2⟩:=qY (bytes:=8) (E:=aDC) (l:=l2) nI Nat.one_pos gU2 (by omega) (toG (h2.same sU2)) (by unfold room;omega) (by unfold room;omega);refine lG rfl (by rw[cD rfl];simp only[↓sU,sD,rE,↓reduceIte,rA];rw[←hU2];exact e2) ?_ ?_
 ·rw[cD rfl,←hU2];exact⟨v2.1,fun c hc _=>v2.2 c (by omega)⟩
 rw[cD rfl];have sV2:=sU2.trans v2;have i1V:=i1U.same v2;simp only[↓sU,sD,rE,↓reduceIte,rA,p5,aF,aU,aE,cP hb,lb,Au,s3,lK];obtain⟨U3,hU3⟩:∃U:St,U=⟨V2.h.set (W.nx+8) (some (.cells [] false 0)),V2.nx⟩:=⟨_,rfl⟩;have sU3:Same W U3:=by rw[hU3];exact⟨sV2.1,fun c hc=>by simp only;rw[T.get_set,if_neg (by omega)];exact sV2.2 c hc⟩
 have gU3:U3.h.get (W.nx+8)=some (.cells [] false 0):=by rw[hU3];simp only;rw[T.get_set,if_pos rfl]
 have nU3:U3.nx=V2.nx:=by rw[hU3]
 have nV2:=v2.1;have i1W:bJ .i64 U3 r1 l1:=dW i1V (by omega) fun c hc=>by
  rw[hU3];simp only;rw[T.get_set,if_neg (by rcases k1 c hc with h | h<;>omega)]
 have i2W:bJ .i64 U3 r2 l2:=dW (ofG i2) (by omega) fun c hc=>by
  rw[hU3];simp only;rw[T.get_set,if_neg (by rcases k2 c hc with h | h<;>omega)]
 obtain⟨r3,V3,e3,i3,v3,k3,w3⟩:=qY (bytes:=8) (E:=aDC) (l:=l3) nI Nat.one_pos gU3 (by omega) (toG (h3.same sU3)) (by unfold room;omega) (by unfold room;omega);refine lG rfl (by rw[cD rfl];simp only[↓sU,sD,rE,↓reduceIte,rA];rw[←hU3];exact e3) ?_ ?_
 ·rw[cD rfl,←hU3];exact⟨v3.1,fun c hc _=>v3.2 c (by omega)⟩
 rw[cD rfl];simp only[↓sU,sD,rE,↓reduceIte,rA,p5,aF,aU,aE];refine⟨rfl,sU3.trans v3,fun j hj=>?_,by simp only[↓sU,sD,rE,↓reduceIte,rA],by simp only[↓sU,sD,rE,↓reduceIte,rA];exact i1W.same v3,by simp only[↓sU,sD,rE,↓reduceIte,rA];exact i2W.same v3,by simp only[↓sU,sD,rE,↓reduceIte,rA];exact ofG i3,fun c hc=>?_,fun c hc=>?_,fun c hc=>?_⟩
 ·have:j=0∨j=1∨j=2∨j=3∨j=4∨j=5:=by omega
  rcases this with rfl | rfl | rfl | rfl | rfl | rfl<;>simp only[↓sU,sD,rE,↓reduceIte,rA]
 ·simp only[↓sU,sD,rE,↓reduceIte,rA] at hc;rcases hc with h | h | h
  ·rcases k1 c h with h | h<;>omega
  ·rcases k2 c h with h | h<;>omega
  ·rcases k3 c h with h | h<;>omega
 ·simp only[↓sU,sD,rE,↓reduceIte,rA] at hc ⊢;have l1':=yB i1 hc;have l2':=fun h=>yB i2 (c:=c) h;rcases k1 c hc with h | h
  ·refine⟨fun e=>?_,fun e=>?_⟩
   ·rcases k2 c e with h | h<;>omega
   ·rcases k3 c e with h | h<;>omega
  ·refine⟨fun e=>?_,fun e=>?_⟩
   ·rcases k2 c e with h | h<;>omega
   ·rcases k3 c e with h | h<;>omega
 ·simp only[↓sU,sD,rE,↓reduceIte,rA] at hc;rcases hc with h | h | h
  ·refine((w1 c h).eq ?_);have:=yB i1 h;have q:=k1 c h;rw[v3.2 c (by omega),hU3];simp only;rw[T.get_set,if_neg (by omega),v2.2 c (by omega),hU2];simp only;rw[T.get_set,if_neg (by omega)]
  ·refine((w2 c h).eq ?_);have:=yB i2 h;have q:=k2 c h;rw[v3.2 c (by omega),hU3];simp only;rw[T.get_set,if_neg (by omega)]
  ·exact w3 c h
theorem aLh{ops:List AO}{W:St}{F:Fr}{inr:Bool}{nb:Nat}{k p f:AV}{xa xw xp:AV}{l1 l2 l3:List Int}{Q:Out→bK→St→Prop}(he:ops=aKU++aLX)(p5:aH 5 F= .ptr nb 0)(hb:W.h.get nb=some (.cells [k,p,f,xa,xw,xp] false 0))(lb:nb<W.nx)(h1:bJ .i64 W xa l1)(h2:bJ .i64 W xw l2)(h3:bJ .i64 W xp l3)(b1:l1.length * 8≤140737488355328)(b2:l2.length * 8≤140737488355328)(b3:l3.length * 8≤140737488355328)
  (hQ:∀F' Z r1 r2 r3,(∀j,j<6→aH j F'=aH j F)→bB nb W Z→Z.h.get nb=some (.cells [k,p,f,r1,r2,r3] false 0)→bJ .i64 Z r1 l1→bJ .i64 Z r2 l2→bJ .i64 Z r3 l3→(∀c,(aY r1=some c∨aY r2=some c∨aY r3=some c)→W.nx≤c)→(∀c,aY r1=some c→aY r2≠some c∧aY r3≠some c)→(∀c,(aY r1=some c∨aY r2=some c∨aY r3=some c)→Wr Z c)→Q .normal ⟨F',inr⟩ Z):oL fns (.drw ops) ⟨F,inr⟩ W Q:=by
 have hlen:ops.length=18:=by rw[he];rfl
 refine aGR (K:=13) (R:=aM9 W F nb l1 l2 l3) he rfl rfl (fun S1 s h n=>aJM p5 hb lb h1 h2 h3 b1 b2 b3 s (by rw[n,hlen])) ?_;rintro F' S' ps hs ls ⟨rfl,sZ,hk,p37,i1,i2,i3,hbk,hdj,hwr⟩ hlast hld;have p5':aH 5 F'= .ptr nb 0:=(hk 5 (by omega)).trans p5;have hb':=(sZ.2 _ lb).trans hb;generalize hr1:aH 28 F'=r1 at i1 hbk hdj hwr;generalize hr2:aH 32 F'=r2 at i2 hbk hdj hwr;generalize hr3:aH 36 F'=r3 at i3 hbk hdj hwr;have m1:∀i,i<13→Nat.testBit 8191 i=true:=by decide
 unfold aLX;refine oG (v:=.undef) (S1:=⟨S'.h.set nb (some (.cells [k,p,f,r1,xw,xp] false 0)),S'.nx⟩) (hlast _ m1) (fun call=>?_) ?_
 ·rw[dN];simp only[fB,p37,hr1,bR,bJ.cells i1,aO];exact stc (S:=S') hb' (by simp)
 simp only[lM,dH,aF,aE,aU,aT,fB,bR,eF,bN,p5',rE,↓reduceIte,rA];refine oG (v:=.undef) (S1:=⟨(S'.h.set nb (some (.cells [k,p,f,r1,xw,xp] false 0))).set nb (some (.cells [k,p,f,r1,r2,xp] false 0)),S'.nx⟩) (show Nat.testBit 32767 13=true by decide) (fun call=>?_) ?_
 ·rw[dN];simp only[fB,bN,rE,↓reduceIte,hr2,bR,bJ.cells i2,aO];exact stc (cs:=[k,p,f,r1,xw,xp]) (p:=4) (S:=⟨S'.h.set nb (some (.cells [k,p,f,r1,xw,xp] false 0)),S'.nx⟩) (by simp only;rw[T.get_set,if_pos rfl]) (by simp)
 simp only[lM,dH,aF,aE,aU,aT,fB,bR,eF,bN,p5',rE,↓reduceIte,rA];refine oG (v:=.undef) (S1:=⟨((S'.h.set nb (some (.cells [k,p,f,r1,xw,xp] false 0))).set nb (some (.cells [k,p,f,r1,r2,xp] false 0))).set nb (some (.cells [k,p,f,r1,r2,r3] false 0)),S'.nx⟩) (show Nat.testBit 131071 15=true by decide) (fun call=>?_) ?_
 ·rw[dN];simp only[fB,bN,rE,↓reduceIte,hr3,bR,bJ.cells i3,aO];exact stc (cs:=[k,p,f,r1,r2,xp]) (p:=5) (S:=⟨(S'.h.set nb (some (.cells [k,p,f,r1,xw,xp] false 0))).set nb (some (.cells [k,p,f,r1,r2,xp] false 0)),S'.nx⟩) (by simp only;rw[T.get_set,if_pos rfl]) (by simp)
 rw[jY];refine⟨?_,?_⟩
 ·simp only[Cz,Bg,Db,Bd,Be];exact hld _ _ _ m1
 ·simp only[bR,eF];have hne:∀ {v:AV} {l:List Int},bJ .i64 S' v l→(∀c,aY v=some c→W.nx≤c)→bJ .i64 ⟨((S'.h.set nb (some (.cells [k,p,f,r1,xw,xp] false 0))).set nb (some (.cells [k,p,f,r1,r2,xp] false 0))).set nb (some (.cells [k,p,f,r1,r2,r3] false 0)),S'.nx⟩ v l:=fun {v l} h hc=>dW h (Ah _) fun c hcc=>by
   have:=hc c hcc;simp only;rw[T.get_set,if_neg (by omega),T.get_set,if_neg (by omega),T.get_set,if_neg (by omega)]
  refine hQ _ _ r1 r2 r3 (fun j hj=>?_) ⟨sZ.1,fun c hc hn=>?_⟩ (by simp only;rw[T.get_set,if_pos rfl]) (hne i1 fun c hc=>hbk c (.inl hc)) (hne i2 fun c hc=>hbk c (.inr (.inl hc))) (hne i3 fun c hc=>hbk c (.inr (.inr hc))) hbk hdj (fun c hc=>(hwr c hc).eq (by have:=hbk c hc;simp only;rw[T.get_set,if_neg (by omega),T.get_set,if_neg (by omega),T.get_set,if_neg (by omega)]))
  ·rw[bN,if_neg (by omega),bN,if_neg (by omega)];exact hk j hj
  ·simp only;rw[T.get_set,if_neg hn,T.get_set,if_neg hn,T.get_set,if_neg hn];exact sZ.2 c hc
def aEs(X:St)(P:Nat→Prop)(e:List AV)(a:dD):Prop:=∃xa xw xp,e= [.int .i64 a.kind,.int .i64 a.player,.int .i64 a.info,xa,xw,xp]∧bJ .i64 X xa a.next∧bJ .i64 X xw a.weights∧bJ .i64 X xp a.pay∧∀c,(aY xa=some c∨aY xw=some c∨aY xp=some c)→P c
def fE(X:St)(P:Nat→Prop)(cs:List AV)(l:List dD):Prop:=cs.length=l.length * 6∧∀ (j:Nat) (a:dD),l[j]? =some a→∃e:List AV,e.length=6∧(∀ (q:Nat) (x:AV),e[q]? =some x→cs[j * 6+q]? =some x)∧aEs X P e a
theorem fM{k:IntKind}{X:St}{v:AV}{l:List Int}{c:Nat}(h:bJ k X v l)(hc:aY v=some c):c<X.nx:=by
 rcases h with⟨_,rfl | rfl⟩ | ⟨b,off,cap,o,cs,rfl,_,hb,_⟩
 ·cases hc
 ·cases hc
 ·cases hc;exact hb
theorem aEs.move{X X':St}{P P':Nat→Prop}{e:List AV}{a:dD}(h:aEs X P e a)(hn:X.nx≤X'.nx)(hh:∀c,c<X.nx→P c→X'.h.get c=X.h.get c∧P' c):aEs X' P' e a:=by
 obtain⟨xa,xw,xp,rfl,h1,h2,h3,h4⟩:=h;refine⟨xa,xw,xp,rfl,dW h1 hn fun c hc=>(hh c (fM h1 hc) (h4 c (.inl hc))).1,dW h2 hn fun c hc=>(hh c (fM h2 hc) (h4 c (.inr (.inl hc)))).1,dW h3 hn fun c hc=>(hh c (fM h3 hc) (h4 c (.inr (.inr hc)))).1,fun c hc=>?_⟩;rcases hc with hc | hc | hc
 ·exact(hh c (fM h1 hc) (h4 c (.inl hc))).2
 ·exact(hh c (fM h2 hc) (h4 c (.inr (.inl hc)))).2
 ·exact(hh c (fM h3 hc) (h4 c (.inr (.inr hc)))).2
theorem fE.move{X X':St}{P P':Nat→Prop}{cs:List AV}{l:List dD}(h:fE X P cs l)(hn:X.nx≤X'.nx)(hh:∀c,c<X.nx→P c→X'.h.get c=X.h.get c∧P' c):fE X' P' cs l:=
 ⟨h.1,fun j a hj=>by
  obtain⟨e,e1,e2,e3⟩:=h.2 j a hj;exact⟨e,e1,e2,e3.move hn hh⟩⟩
theorem fE.push{X:St}{P:Nat→Prop}{cs e:List AV}{l:List dD}{a:dD}(h:fE X P cs l)(he:aEs X P e a):fE X P (cs++e) (l++ [a]):=by
 have hl:e.length=6:=by
  obtain⟨_,_,_,rfl,_⟩:=he;rfl
 refine⟨by rw[Am,h.1,hl,Am,Cg,Em],fun j b hj=>?_⟩;rw[List.getElem?_append] at hj;split at hj
 ·obtain⟨e',e1,e2,e3⟩:=h.2 j b hj;refine⟨e',e1,fun q x hq=>?_,e3⟩;have:=e2 q x hq;rw[Bq (Af.1 this).1];exact this
 ·rename_i hlt;have hj0:j - l.length=0:=by
   rcases Eg (j - l.length) with h0 | h0
   ·exact h0
   ·obtain⟨q,hq⟩:=Nat.exists_eq_succ_of_ne_zero (Nat.pos_iff_ne_zero.1 h0);rw[hq] at hj;simp at hj
  rw[hj0] at hj;simp at hj;subst hj;have hjl:j=l.length:=by omega
  subst hjl;refine⟨e,hl,fun q x hq=>?_,he⟩;rw[Bo (by rw[h.1];omega),h.1,Nat.add_sub_cancel_left];exact hq
theorem fE.is{X0 X:St}{P:Nat→Prop}{pv:AV}{cs:List AV}{l:List dD}(h:fE X P cs l)(hg:gI 6 X0 X pv l.length cs):aN 6 bT X pv l:=by
 rcases hg with⟨rfl,h0,_⟩ | ⟨b,rfl,_,hb,hc,_⟩
 ·exact .inl ⟨Cb.1 h0,.inl rfl⟩
 ·refine .inr ⟨b,0,l.length,true,cs,rfl,Ah _,hb,by unfold cK;rw[hc];rfl,fun j a hj=>?_⟩;obtain⟨e,e1,e2,xa,xw,xp,h3,h4,h5,h6,_⟩:=h.2 j a hj;exact⟨e,e1,fun q x hq=>by rw[Aw];exact e2 q x hq,xa,xw,xp,h3,h4,h5,h6⟩
theorem aGx{t:Nat}{x:cC}{F:Fr}{id:Nat}{k p f xa xw xp z0 z1 z2 z3 z4 z5:AV}(hx:x.val F= .agg [k,p,f,xa,xw,xp]):uP (.bslice t 6 1 [z0,z1,z2,z3,z4,z5] [(0,x)]) F id=some (.sl id 0 1 1 false,.cells [k,p,f,xa,xw,xp] false 0):=by
 show(aW (fY (repeatL [z0,z1,z2,z3,z4,z5] 1) [(0 * 6,6,x.val F)]) fun cs=>some (AV.sl id 0 1 1 false,AB.cells cs false 0))=_;rw[hx];show(aW (aW (AV.cells (.agg [k,p,f,xa,xw,xp])) _) _)=_;rw[bL,aO];rfl
theorem aMf{S:St}{t:Nat}{k p f xa xw xp:AV}{o:Bool}{sz:Nat}(h:S.h.get t=some (.cells [k,p,f,xa,xw,xp] o sz)):fI (.sl t 0 1 1 false) S.h 6 1=some [k,p,f,xa,xw,xp]:=by
 show aW (cK S.h t) (fun cs=>cut cs 0 (1 * 6))=_;unfold cK;rw[h];rfl
theorem gI.appB{k n m bytes:Nat}{S0 S:St}{v x:AV}{cs new:List AV}(h:gI k S0 S v n cs)(hS:Same S0 S)(hl:sE x=some m)(hs:fI x S.h k m=some new)(hn:new.length=m * k)(hm:0<m)(h1:n+m≤room)(h2:(n+m) * bytes≤room):
  ∃v' S',jH bytes k v x S=some (v',S')∧gI k S0 S' v' (n+m) (cs++new)∧Same S0 S'∧S.nx≤S'.nx∧(∀c,c<S.nx→aY v≠some c→S'.h.get c=S.h.get c)∧aY v'=some S.nx:=by
 rcases h with⟨rfl,rfl,rfl⟩ | ⟨b,rfl,hb0,hb,hg,hc⟩
 ·refine⟨.sl S.nx 0 m m true,⟨S.h.set S.nx (some (.cells new true k)),S.nx+1⟩,?_,.inr ⟨S.nx,by rw[Aw],hS.1,by simp,?_,by rw[Aw];exact hn⟩,hS.trans (Same.alloc S _),by simp,fun c hc _=>(Same.alloc S _).2 c hc,rfl⟩
  ·show(aW (sE x) fun j=>aW (fI x S.h k j) fun new=>aHS .nilsl bytes k j new S)=_;rw[hl,aO,hs,aO];show aAB bytes k m new S=_;unfold aAB;rw[show Nat.beq m 0=false from Cf.2 fun e=>by rw[Aq] at e;omega,aT,Ak (by omega),aM,Ak (by rw[Aw] at h2;exact h2),aM];rfl
  ·simp only;rw[T.get_set,if_pos rfl];rfl
 ·refine⟨.sl S.nx 0 (n+m) (n+m) true,⟨(S.h.set b none).set S.nx (some (.cells (cs++new) true k)),S.nx+1⟩,?_,.inr ⟨S.nx,rfl,hS.1,by simp,?_,by rw[Am,hc,hn,Em]⟩,⟨Ax hS.1 (by simp),fun c hc=>?_⟩,by simp,fun c hc hne=>?_,rfl⟩
  ·show(aW (sE x) fun j=>aW (fI x S.h k j) fun new=>aHS (.sl b 0 n n true) bytes k j new S)=_;rw[hl,aO,hs,aO];show aAM bytes k b 0 n n true m new S=_;unfold aAM;have e2:Nat.ble (n+m) n=false:=by rw[Cf];intro h;have:=Ao h;omega
   rw[e2,aT,Ak h1,aM,Ak h2,aM,hg,aO];have e3:cut cs 0 (n * k)=some cs:=by
    unfold cut;rw[fO,gC,Co,if_pos (by omega),Bh (by omega)]
   have e4:Nat.beq (0+n * k) (iL cs)=true:=by rw[dI,hc,Aq];omega
   have e5:Nat.beq k k=true:=Nat.beq_refl k;simp only[aGU,e3,aO,aM,e4,e5,grown,fP]
  ·simp only;rw[T.get_set,if_pos rfl]
  ·simp only;have:=hS.1;rw[T.get_set,if_neg (by omega),T.get_set,if_neg (by omega)];exact hS.2 c hc
  ·simp only;have:c≠b:=fun e=>hne (by rw[e];rfl);rw[T.get_set,if_neg (by omega),T.get_set,if_neg this]
def aFq(cs:List AV)(n:Nat):Prop:=∀j,j<n→∀xa xw xp,cs[j * 6+3]? =some xa→cs[j * 6+4]? =some xw→cs[j * 6+5]? =some xp→∀c,aY xa=some c→aY xw≠some c∧aY xp≠some c
theorem aFq.push{cs:List AV}{n:Nat}{a0 a1 a2 r1 r2 r3:AV}(h:aFq cs n)(hl:cs.length=n * 6)(hd:∀c,aY r1=some c→aY r2≠some c∧aY r3≠some c):aFq (cs++ [a0,a1,a2,r1,r2,r3]) (n+1):=by
 intro j hj xa xw xp h1 h2 h3;by_cases e:j=n
 ·subst e;rw[Bo (by omega),hl,show j * 6+3 - j * 6=3 by omega] at h1;rw[Bo (by omega),hl,show j * 6+4 - j * 6=4 by omega] at h2;rw[Bo (by omega),hl,show j * 6+5 - j * 6=5 by omega] at h3;cases h1;cases h2;cases h3;exact hd
 ·rw[Bq (by omega)] at h1 h2 h3;exact h j (by omega) xa xw xp h1 h2 h3
def OgI(X0:St)(gb rb ob:Nat)(jv:AV)(g:aZ)(k:Nat)(A:bK)(X:St):Prop:=A.inr=false∧X0.nx≤X.nx∧(∀c,c<X0.nx→c≠ob→X.h.get c=X0.h.get c)∧∃ (i:Nat) (pv:AV) (cs:List AV),i+k=g.nodes.length∧X.h.get ob=some (.cells [.int .i64 g.players,pv,jv] false 0)∧gI 6 X0 X pv i cs∧fE X (fun c=>X0.nx≤c∧aY pv≠some c∧Wr X c) cs (g.nodes.take i)∧aFq cs i∧aH 1 A.F= .ptr gb 0∧aH 2 A.F= .ptr rb 0∧aH 3 A.F= .ptr ob 0∧aH 4 A.F= .int .i64 (i:Int)
theorem uO{W:Nat→Prop}{h0:T AB}{base:Nat}{m i:Nat}{l:List AO}{F:Fr}{S:St}{last:Option Nat}{Q:Fr→St→List iE→Prop}{n j id:Nat}{x v:cC}{cs cs':List AV}(ht:Nat.testBit m j=true)(h:kF last m=true)(hx:x.val F= .ptr id 0)(hv:(v.val F).cells=some cs')(h1:cs.length=n)(h2:cs'.length=n)(hid:base≤id)
  (hr:∀S1,bB id S S1→S1.nx=S.nx→S1.h.get id=some (.cells cs' false 0)→eS fns W h0 base l (i+1) F S1 [] (some i) Q):eS fns W h0 base (⟨none,.x (.st n x v),none,m⟩::l) i F S [⟨j,id,.cells cs false 0⟩] last Q:=by
 have hb:(⟨S.h.set id (some (.cells cs false 0)),S.nx⟩:St).h.get id=some (.cells cs false 0):=by simp only;rw[T.get_set,if_pos rfl]
 refine rF (S1:=⟨(S.h.set id (some (.cells cs false 0))).set id (some (.cells cs' false 0)),S.nx⟩) h ?_ ⟨Ah _,fun c hc hw=>?_⟩ ?_
 ·rw[cD ht,hv,aO,hx];exact aHj hb h1 h2
 ·simp only;rw[cD ht,T.get_set,if_neg (by omega)]
 ·rw[cD ht];refine hr _ ⟨Ah _,fun c hc hne=>?_⟩ rfl ?_
  ·simp only;rw[T.get_set,if_neg hne,T.get_set,if_neg hne]
  ·simp only;rw[T.get_set,if_pos rfl]
theorem aMB{F:Fr}{h:Ev.T AB}{ps:Int}{r:AV}(h7:aH 7 F= .int .i64 ps)(h11:aH 11 F=r)(hr:r.cells=some [r]):gB (.build [.int .i64 0,.nilsl,.nilsl] [(0,1,.t 7),(2,1,.t 11)]) F h=some (.agg [.int .i64 ps,.nilsl,r]):=by
 show(aW (fY _ (fF F [(0,1,.t 7),(2,1,.t 11)])) fun cs=>some (AV.agg cs))=_;simp only[fF,show(cC.t 7).val F= .int .i64 ps from h7,show(cC.t 11).val F=r from h11,fY,cS,hr,aO];rfl
theorem aAf{k:Nat}{α:Type}{E:St→List AV→α→Prop}{S:St}{v:AV}{l:List α}(h:aN k E S v l):v.cells=some [v]:=by
 rcases h with⟨_,rfl | rfl⟩ | ⟨b,off,cap,o,cs,rfl,_⟩<;>rfl
theorem aHY{S:St}{nv iv:AV}{g:aZ}(H:Has fns)(hn:aN 6 bT S nv g.nodes)(hi:aN 2 bZ S iv g.infos)(hT:aEg g)(hln:g.nodes.length≤100000):
  fH fns (.fn 6 [] []) [.agg [.int .i64 g.players,nv,iv]] S fun r X=>Same S X∧∃mv jv nz cs,r= .agg [.int .i64 g.players,mv,jv]∧S.nx≤nz∧gI 6 ⟨X.h,nz⟩ X mv g.nodes.length cs∧fE X (fun c=>S.nx≤c∧aY mv≠some c∧Wr X c) cs g.nodes∧aFq cs g.nodes.length∧aN 2 bZ X jv g.infos:=by
 refine bP H.f6 (by simp) ?_;simp only[↓aA,aB,rE,↓reduceIte,rA];refine bO ?_;refine cW (cs:=[.int .i64 g.players,nv,iv]) rfl ?_;intro S1 s1 n1 c1;refine dB ?_;intro S2 s2 n2 c2;simp only[↓aA,aB,rE,↓reduceIte,rA];have d1:=(s2.2 _ (show S.nx<S1.nx by omega)).trans c1;have sS:=s1.trans s2;have lt1:S.nx<S2.nx:=by omega
 have siv:=aN.self hi;have hib:=hT.1;refine aC (iN (fun _=>False) ?_);intro Y sY hY nY;simp only[Al,Az,rA] at nY;simp only[↓sU,sD,rE,↓reduceIte,rA,aF,aU,aE,mG d1,kN d1,lt1,Au,siv,lK];obtain⟨U,hU⟩:∃U:St,U=⟨Y.h.set (S2.nx+2) (some (.cells [] false 0)),Y.nx⟩:=⟨_,rfl⟩;have sUx:Same S2 U:=by rw[hU];exact⟨sY.1,fun c hc=>by simp only;rw[T.get_set,if_neg (by omega)];exact sY.2 c hc⟩
 have gU:U.h.get (S2.nx+2)=some (.cells [] false 0):=by rw[hU];simp only;rw[T.get_set,if_pos rfl]
 have nU:U.nx=S2.nx+9:=by rw[hU];exact nY
 obtain⟨jv,V,e1,i1,v1,k1⟩:=aF5 (k:=2) (bytes:=16) (E:=bZ) (l:=g.infos) bQ (by decide) gU (by omega) (aN.same (E:=bZ) bQ hi (sS.trans sUx)) (by unfold room;omega) (by unfold room;omega);have nV:=v1.1;refine lG rfl (by rw[cD rfl];simp only[↓sU,sD,rE,↓reduceIte,rA];rw[←hU];exact e1) ?_ ?_
 ·rw[cD rfl,←hU];exact⟨v1.1,fun c hc _=>v1.2 c (by omega)⟩
 rw[cD rfl];simp only[↓sU,sD,rE,↓reduceIte,rA,lI];rw[aMB (ps:=g.players) (r:=jv) (by simp only[↓sU,sD,rE,↓reduceIte,rA]) (by simp only[↓sU,sD,rE,↓reduceIte,rA]) (aAf i1)];simp only[↓sU,sD,rE,↓reduceIte,rA,qL,eK,rA];refine uO (by rfl) rfl (by simp only[↓sU,sD,rE,↓reduceIte,rA]) (by simp only[↓sU,sD,rE,↓reduceIte,rA,bL];rfl) rfl rfl (by omega) ?_;intro Z z nZ gZ;have sZ:Same S2 Z:=by exact z.same (sUx.trans v1) (by omega)
 have hjb:∀c,aY jv=some c→c≠S2.nx+7:=fun c hc=>by rcases k1 c hc with h | h<;>omega
 have iZ:aN 2 bZ Z jv g.infos:=aN.moveB i1 z.1 (fun c hc=>z.2 c (by
  rcases i1 with⟨_,rfl | rfl⟩ | ⟨b,off,cap,o,cs,rfl,_,hb,_⟩
  ·cases hc
  ·cases hc
  ·cases hc;exact hb) (hjb c hc)) fun _ _ h=>h
 simp only[↓sU,sD,rE,↓reduceIte,rA];have ob7:S2.nx+7<Z.nx:=by omega
 have gbZ:=(sZ.2 _ lt1).trans d1;have rbZ:=(sZ.2 _ (show S1.nx<S2.nx by omega)).trans c2;have hjl:∀c,aY jv=some c→c<Z.nx:=fun c hc=>by
  rcases iZ with⟨_,rfl | rfl⟩ | ⟨b,off,cap,o,cs,rfl,_,hb,_⟩
  ·cases hc
  ·cases hc
  ·cases hc;exact hb
 have sSZ:=sS.trans sZ;refine aC (aX (Q:=fun o A' X=>o= .normal∧OgI Z S.nx S1.nx (S2.nx+7) jv g 0 A' X) (aC (aD ?_)) ?_)
 ·simp only[↓sU,sD,rE,↓reduceIte,rA];refine aK (bI (OgI Z S.nx S1.nx (S2.nx+7) jv g) ?_ g.nodes.length _ _ ⟨rfl,Ah _,fun _ _ _=>rfl,0,.nilsl,[],by omega,gZ,.inl ⟨rfl,rfl,rfl⟩,⟨rfl,fun j a hj=>by simp at hj⟩,fun j hj=>absurd hj (Nat.not_lt_zero j),by refine⟨?_,?_,?_,?_⟩<;>simp only[↓sU,sD,rE,↓reduceIte,rA]⟩);rintro k ⟨F,inr⟩ X ⟨q0,nX,hR,i,pv,cs,hik,hob,hg,hB,hD,p1,p2,p3,p4⟩;simp only at q0 p1 p2 p3 p4;subst q0;have gbX:=(hR S.nx (by omega) (by omega)).trans gbZ;have sSX:Same S X:=⟨Ax sSZ.1 nX,fun c hc=>(hR c (by have:=sSZ.1;omega) (by omega)).trans (sSZ.2 c hc)⟩;refine fZ ?_;simp only[↓sU,sD,rE,↓reduceIte,rA,p1,p4,aF,aE,dO gbX,hn.len];by_cases hlt:i<g.nodes.length;rotate_left
  ·refine aL (by simp only[↓sU,sD,rE,↓reduceIte,rA,Aa (show ¬ (i:Int)<((g.nodes.length:Nat):Int) by omega)]) (bC ?_);simp only[↓sU,sD,rE,↓reduceIte,rA];obtain rfl:k=0:=by omega
   exact⟨rfl,nX,hR,i,pv,cs,hik,hob,hg,hB,hD,by refine⟨?_,?_,?_,?_⟩<;>simp only[↓sU,sD,rE,↓reduceIte,rA,p1,p2,p3,p4]⟩
  refine aQ (by simp only[↓sU,sD,rE,↓reduceIte,rA,Ab (show(i:Int)<((g.nodes.length:Nat):Int) by omega)]) (aJ ?_);try simp only[↓sU,sD,rE,↓reduceIte,rA]
  obtain⟨t1,t2,t3⟩:=hT.2 _ (Bc (dP hlt));obtain⟨_,bx,qx,hiax,hbx,_,⟨xa,xw,xp,rfl,hxa,hxw,hxp⟩,hldx,_⟩:=aN.at (aN.same (E:=bT) bE hn sSX) (by decide) (dP hlt);have w0:IntKind.i64.wrap ((i:Int)+1)=((i+1:Nat):Int):=by rw[wrap_i64 (by omega) (by omega)];omega
  refine aC (aK (aC (aD ?_)));simp only[↓aA,aB,rE,↓reduceIte,rA,p1,p4,aF,aE,dO gbX,aI,hiax,hldx];refine dB ?_;intro W1 v1' k1' h1';refine gH (b:=X.nx) (by simp only[↓aA,aB,rE,↓reduceIte,rA]) (by simp only[↓aA,aB,rE,↓reduceIte,rA];exact bL _) h1' rfl rfl ?_;intro W v2 k2 h2;simp only[↓aA,aB,rE,↓reduceIte,rA];have sXW:Same X W:=v2.same v1' (Ah _);have lxW:X.nx<W.nx:=by omega
  refine aC (aLh rfl (by simp only[↓aA,aB,rE,↓reduceIte,rA]) h2 lxW (hxa.same sXW) (hxw.same sXW) (hxp.same sXW) t1 t2 t3 ?_);intro F' Y2 r1 r2 r3 hk sY2 hnb i1' i2' i3' hbk hdj hwr;have q1:aH 1 F'= .ptr S.nx 0:=(hk 1 (by omega)).trans (by simp only[↓aA,aB,rE,↓reduceIte,rA,p1]);have q2:aH 2 F'= .ptr S1.nx 0:=(hk 2 (by omega)).trans (by simp only[↓aA,aB,rE,↓reduceIte,rA,p2]);have q3:aH 3 F'= .ptr (S2.nx+7) 0:=(hk 3 (by omega)).trans (by simp only[↓aA,aB,rE,↓reduceIte,rA,p3]);have q4:aH 4 F'= .int .i64 (i:Int):=(hk 4 (by omega)).trans (by simp only[↓aA,aB,rE,↓reduceIte,rA,p4]);have q5:aH 5 F'= .ptr X.nx 0:=(hk 5 (by omega)).trans (by simp only[↓aA,aB,rE,↓reduceIte,rA]);clear hk p1 p2 p3 p4;have nY2:=sY2.1;have old:∀c,c<X.nx→Y2.h.get c=X.h.get c:=fun c hc=>(sY2.2 c (by omega) (by omega)).trans (sXW.2 c hc);have obY:=(old _ (show S2.nx+7<X.nx by omega)).trans hob;have hgY:gI 6 Z Y2 pv i cs:=hg.move (by omega) fun c hc=>old c (hg.blk hc).2.1;have hBY:fE Y2 (fun c=>Z.nx≤c∧aY pv≠some c∧Wr Y2 c) cs (g.nodes.take i):=hB.move (by omega) fun c hc hP=>⟨old c hc,hP.1,hP.2.1,hP.2.2.eq (old c hc)⟩;have heY:aEs Y2 (fun c=>W.nx≤c∧Wr Y2 c) [.int .i64 (nodeAt g i).kind,.int .i64 (nodeAt g i).player,.int .i64 (nodeAt g i).info,r1,r2,r3] (nodeAt g i):=⟨r1,r2,r3,rfl,i1',i2',i3',fun c hc=>⟨hbk c hc,hwr c hc⟩⟩;refine aD ?_;simp only[↓aA,aB,rE,↓reduceIte,rA,q3,q5,aF,aE,dO obY,ldN hnb];refine fU (aGx (k:=.int .i64 (nodeAt g i).kind) (p:=.int .i64 (nodeAt g i).player) (f:=.int .i64 (nodeAt g i).info) (xa:=r1) (xw:=r2) (xp:=r3) (by simp only[↓aA,aB,rE,↓reduceIte,rA])) ?_;intro U2 u1 m1 g1;obtain⟨pv',U',eA,gA,sA,nA,rA,bA⟩:=gI.appB (k:=6) (m:=1) (bytes:=96) (S0:=⟨U2.h,Z.nx⟩) (show gI 6 ⟨U2.h,Z.nx⟩ U2 pv i cs from hgY.step u1) ⟨by show Z.nx≤U2.nx;omega,fun _ _=>rfl⟩ rfl (aMf g1) rfl (by omega) (by unfold room;omega) (by unfold room;omega);try simp only[↓aA,aB,rE,↓reduceIte,rA]
  refine eZ (fun call=>by simp only[↓aA,aB,rE,↓reduceIte,rA,iG];exact eA) ?_;have hoff:=hgY.off obY;have obU:=(rA _ (by omega) hoff).trans ((u1.2 _ (by omega)).trans obY);have hcl:=gA.cells;simp only[↓aA,aB,rE,↓reduceIte,rA,q3,aF,aE];refine eZ (fun call=>by simp only[↓aA,aB,rE,↓reduceIte,rA,dN,hcl,aO];exact stc (cs:=[.int .i64 g.players,pv,jv]) (p:=1) (S:=U') obU (by simp)) ?_;simp only[↓aA,aB,rE,↓reduceIte,rA];refine aD ?_;simp only[↓sU,sD,rE,↓reduceIte,rA,q4,w0];have fin:∀c,c≠S2.nx+7→c<Y2.nx→aY pv≠some c→(U'.h.set (S2.nx+7) (some (.cells ([.int .i64 g.players,pv,jv].set 1 pv') false 0))).get c=Y2.h.get c:=fun c h1 h2 h3=>by
   rw[T.get_set,if_neg h1,rA c (by omega) h3,u1.2 c h2]
  refine⟨k - 1,by omega,rfl,by show Z.nx≤U'.nx;omega,fun c hc hne=>(fin c hne (by omega) fun e=>by have:=(hgY.blk e).1;omega).trans ((old c (by omega)).trans (hR c hc hne)),i+1,pv',_,by omega,by simp only;rw[T.get_set,if_pos rfl];rfl,gI.move (S:=U') (by exact gA) (Ah _) fun c hc=>?_,?_,hD.push (by rw[hB.1,Ca,Nat.min_eq_left (Nat.le_of_lt hlt)]) hdj,by refine⟨?_,?_,?_,?_⟩<;>simp only[↓sU,sD,rE,↓reduceIte,rA,q1,q2,q3]⟩
  ·simp only;rw[T.get_set,if_neg (by rw[bA] at hc;cases hc;omega)]
  ·rw[Bt,dP hlt];refine fE.push (hBY.move (by show Y2.nx≤U'.nx;omega) fun c hc hP=>have e:=fin c (by have:=hP.1;omega) hc hP.2.1;⟨e,hP.1,fun e=>by rw[bA] at e;cases e;omega,hP.2.2.eq e⟩) (heY.move (by show Y2.nx≤U'.nx;omega) fun c hc hP=>have e:=fin c (by have:=hP.1;omega) hc (fun e=>by have:=hP.1;have:=(hg.blk e).2.1;omega);⟨e,by have:=hP.1;omega,fun e=>by rw[bA] at e;cases e;omega,hP.2.eq e⟩)
 rintro o ⟨F,inr⟩ X ⟨rfl,q0,nX,hR,i,pv,cs,hik,hob,hg,hB,hD,p1,p2,p3,p4⟩;simp only at q0 p1 p2 p3 p4;subst q0;obtain rfl:i=g.nodes.length:=by omega
 rw[Cn] at hB;have rbX:=(hR S1.nx (by omega) (by omega)).trans rbZ;have sSX:Same S X:=⟨Ax sSZ.1 nX,fun c hc=>(hR c (by have:=sSZ.1;omega) (by omega)).trans (sSZ.2 c hc)⟩;have iX:aN 2 bZ X jv g.infos:=aN.moveB iZ nX (fun c hc=>hR c (hjl c hc) (hjb c hc)) fun _ _ h=>h;try simp only[↓aA,aB,rE,↓reduceIte,rA]
 refine bO ?_;simp only[↓aA,aB,rE,↓reduceIte,rA,p2,p3,ld3 hob];refine gH (b:=S1.nx) (cs':=[.int .i64 g.players,pv,jv]) (by simp only[↓aA,aB,rE,↓reduceIte,rA,p2]) (by simp only[↓aA,aB,rE,↓reduceIte,rA];exact bL _) rbX rfl rfl ?_;intro X' x' n' g';simp only[↓aA,aB,rE,↓reduceIte,rA];refine aS ?_;have sX':Same S X':=x'.same sSX (by omega);have nX':=x'.1;have gX':gI 6 Z X' pv g.nodes.length cs:=hg.move nX' fun c hc=>x'.2 c (hg.blk hc).2.1 (by have:=(hg.blk hc).1;omega);have bX':fE X' (fun c=>Z.nx≤c∧aY pv≠some c∧Wr X' c) cs g.nodes:=hB.move nX' fun c hc hP=>have e:=x'.2 c hc (by have:=hP.1;omega);⟨e,hP.1,hP.2.1,hP.2.2.eq e⟩;have jX':aN 2 bZ X' jv g.infos:=aN.moveB iX nX' (fun c hc=>x'.2 c (Ae (hjl c hc) nX) (by rcases k1 c hc with h | h<;>omega)) fun _ _ h=>h;simp only[↓aA,aB,rE,↓reduceIte,rA,p2,gL,ld3 g'];exact⟨sX',pv,jv,Z.nx,cs,rfl,by have:=sSZ.1;omega,gX',bX'.move (Ah _) (fun c _ hP=>⟨rfl,by have:=sSZ.1;omega,hP.2⟩),hD,jX'⟩
theorem aJX{S:St}{nv iv:AV}{g:aZ}(H:Has fns)(hn:aN 6 bT S nv g.nodes)(hi:aN 2 bZ S iv g.infos)(hT:aEg g)(hln:g.nodes.length≤100000):
  fH fns (.fn 6 [] []) [.agg [.int .i64 g.players,nv,iv]] S fun r X=>Same S X∧∃mv jv,r= .agg [.int .i64 g.players,mv,jv]∧aN 6 bT X mv g.nodes∧aN 2 bZ X jv g.infos:=
 aP (aHY H hn hi hT hln) fun _ _ h=>by
  obtain⟨a,mv,jv,nz,cs,b,_,c,d,_,e⟩:=h;exact⟨a,mv,jv,b,d.is c,e⟩
end Go.Ev.Gl
