import Derived.Test.YtkklchgmpejobaaGreatDoorGl11
open Nat renaming reduceEqDiff → rE, reduceAdd → rA
set_option maxHeartbeats 16000000
set_option linter.unusedSimpArgs false
set_option linter.unusedVariables false
namespace Go.Ev.Gl
variable {fns:T cW}
def aHt(_:St)(cs:List AV)(x:Int):Prop:=cs= [.int .i64 x]
theorem tA:oO aHt:=fun h _=>h
theorem toG{S:St}{v:AV}{l:List Int}(h:bI .i64 S v l):aQ 1 aHt S v l:=by
 rcases h with h | ⟨b,off,cap,o,cs,rfl,hc,hb,hcs,hel⟩
 ·exact .inl h
 ·refine .inr ⟨b,off,cap,o,cs,rfl,hc,hb,hcs,fun i a hi=>⟨[.int .i64 a],rfl,fun j x hj=>?_,rfl⟩⟩;cases j with
  | zero=>simp at hj;subst hj;rw[En,Br];exact hel i a hi
  | succ j=>simp at hj
theorem ofG{S:St}{v:AV}{l:List Int}(h:aQ 1 aHt S v l):bI .i64 S v l:=by
 rcases h with h | ⟨b,off,cap,o,cs,rfl,hc,hb,hcs,hel⟩
 ·exact .inl h
 ·refine .inr ⟨b,off,cap,o,cs,rfl,hc,hb,hcs,fun i a hi=>?_⟩;obtain⟨e,_,h2,h3⟩:=hel i a hi;have h3:e= [.int .i64 a]:=h3;subst h3;have:=h2 0 _ rfl;rw[En,Br] at this;exact this
theorem aQ.moveB{k:Nat}{α:Type}{E:St→List AV→α→Prop}{S S':St}{v:AV}{l:List α}(h:aQ k E S v l)(hn:S.nx≤S'.nx)(hh:∀c,aX v=some c→S'.h.get c=S.h.get c)(hE:∀e a,E S e a→E S' e a):aQ k E S' v l:=by
 rcases h with h | ⟨b,off,cap,o,cs,rfl,hc,hb,hcs,hel⟩
 ·exact .inl h
 ·refine .inr ⟨b,off,cap,o,cs,rfl,hc,Ae hb hn,?_,fun i a hi=>?_⟩
  ·unfold cK;rw[hh b rfl];exact hcs
  ·obtain⟨e,e1,e2,e3⟩:=hel i a hi;exact⟨e,e1,e2,hE e a e3⟩
theorem aQO{k:Nat}{α:Type}{E:St→List AV→α→Prop}{S:St}{v:AV}{l:List α}(hk:0<k)(h:aQ k E S v l):∃new,oC v=some l.length∧eU v S.h k l.length=some new∧∀i a,l[i]? =some a→∃e:List AV,e.length=k∧(∀ (j:Nat) (x:AV),e[j]? =some x→new[i * k+j]? =some x)∧E S e a:=by
 rcases h with⟨rfl,h⟩ | ⟨b,off,cap,o,cs,rfl,hc,hb,hcs,hel⟩
 ·rcases h with rfl | rfl<;>exact⟨[],rfl,rfl,fun i a hi=>by simp at hi⟩
 ·rcases Dt l.length with h0 | hp
  ·have hl:l= []:=Cg.1 h0;subst hl;refine⟨[],rfl,?_,fun i a hi=>by simp at hi⟩;show(aZ (cK S.h b) fun cs=>cut cs off (0 * k))=_;rw[hcs,aM,Ff];unfold cut;rw[fO,gJ,if_pos (Cj _)];rfl
  ·have hle:off+l.length * k≤cs.length:=by
    obtain⟨e,e1,e2,_⟩:=hel (l.length - 1) _ (Ad (by omega));have:=e2 (k - 1) _ (Ad (by omega));have h3:=(Af.1 this).1;have h4:(l.length - 1) * k+k=l.length * k:=by
     rw[←Dq];congr 1;omega
    omega
   refine⟨(cs.drop off).take (l.length * k),rfl,?_,fun i a hi=>?_⟩
   ·show(aZ (cK S.h b) fun cs=>cut cs off (l.length * k))=_;rw[hcs,aM];unfold cut;rw[fO,gJ,if_pos (by rw[Dl];omega)]
   ·obtain⟨e,e1,e2,e3⟩:=hel i a hi;refine⟨e,e1,fun j x hj=>?_,e3⟩;have hlt:=(Af.1 hi).1;have hj1:=(Af.1 hj).1;have h5:i * k+k≤l.length * k:=by
     rw[←Dq];exact Dh k hlt
    rw[Ey (by omega),Er];have:=e2 j x hj;rw[Ck] at this;exact this
def Wr(X:St)(c:Nat):Prop:=∃cs o sz,X.h.get c=some (.cells cs o sz)
theorem Wr.eq{X X':St}{c:Nat}(h:Wr X c)(e:X'.h.get c=X.h.get c):Wr X' c:=by
 obtain⟨cs,o,sz,h⟩:=h;exact⟨cs,o,sz,e.trans h⟩
theorem yA{k bytes b:Nat}{α:Type}{E:St→List AV→α→Prop}{S:St}{v:AV}{l:List α}(hE:oO E)(hk:0<k)(hb:S.h.get b=some (.cells [] false 0))(hbl:b<S.nx)(h:aQ k E S v l)(h1:l.length≤room)(h2:l.length * bytes≤room):
  ∃r S',jK bytes k (.sl b 0 0 0 false) v S=some (r,S')∧aQ k E S' r l∧Same S S'∧(∀c,aX r=some c→c=b∨S.nx≤c)∧∀c,aX r=some c→Wr S' c:=by
 obtain⟨new,e1,e2,e3⟩:=aQO hk h;unfold jK;rw[e1,aM,e2,aM];show ∃r S',vL bytes k b 0 0 0 false l.length new S=some (r,S')∧_;unfold vL;rcases Dt l.length with h0 | hp
 ·have hl:l= []:=Cg.1 h0;subst hl;refine⟨.sl b 0 0 0 false,S,rfl,.inr ⟨b,0,0,false,[],rfl,Ah _,hbl,by unfold cK;rw[hb];rfl,fun i a hi=>by simp at hi⟩,Same.refl S,fun c hc=>?_,fun c hc=>?_⟩
  ·cases hc;exact .inl rfl
  ·cases hc;exact⟨_,_,_,hb⟩
 ·have e5:Nat.ble (0+l.length) 0=false:=by
   rw[Ch];intro e;have:=Ar e;omega
  rw[e5,aU,Aj (by omega),aP,Aj (by rw[Av];exact h2),aP,hb,aM];have e4:cut ([]:List AV) 0 (0 * k)=some []:=by
   unfold cut;rw[fO,gJ,Ff,if_pos (Cj _)];rfl
  show ∃r S',(aZ (cut ([]:List AV) 0 (0 * k)) fun old=>bK false _ (grown S.h S.nx (0+l.length) k (wJ old new)))=some (r,S')∧_;rw[e4,aM,aU];refine⟨_,_,rfl,.inr ⟨S.nx,0,l.length,true,new,by rw[Av],Ah _,by simp,?_,fun i a hi=>?_⟩,Same.alloc S _,fun c hc=>?_,fun c hc=>?_⟩
  ·unfold cK;simp only;rw[T.get_set,if_pos rfl];rfl
  ·obtain⟨e,a1,a2,a3⟩:=e3 i a hi;exact⟨e,a1,fun j x hj=>by rw[Av];exact a2 j x hj,hE a3 (Same.alloc S _)⟩
  ·cases hc;exact .inr (Ah _)
  ·cases hc;exact⟨_,_,_,by simp only;rw[T.get_set,if_pos rfl]⟩
theorem aIg{k bytes b:Nat}{α:Type}{E:St→List AV→α→Prop}{S:St}{v:AV}{l:List α}(hE:oO E)(hk:0<k)(hb:S.h.get b=some (.cells [] false 0))(hbl:b<S.nx)(h:aQ k E S v l)(h1:l.length≤room)(h2:l.length * bytes≤room):
  ∃r S',jK bytes k (.sl b 0 0 0 false) v S=some (r,S')∧aQ k E S' r l∧Same S S'∧∀c,aX r=some c→c=b∨S.nx≤c:=by
 obtain⟨r,S',a,b',c,d,_⟩:=yA (bytes:=bytes) (E:=E) hE hk hb hbl h h1 h2;exact⟨r,S',a,b',c,d⟩
theorem aKP(p a:Int):eY .neq (.struct [(0,.int),(1,.int)]) (.agg [.int .i64 p,.int .i64 a]) (.agg [.int .i64 p,.int .i64 a])=some (.bool false):=by
 have e:∀z:Int,zI .int (.int .i64 z) (.int .i64 z)=some true:=fun z=>by
  show bK (keq .i64 .i64) (some (ieq z z)) none=_;rw[eI,aP,kG];simp
 show aZ (eqs [(0,.int),(1,.int)] [.int .i64 p,.int .i64 a] [.int .i64 p,.int .i64 a]) (fun b=>some (AV.bool (bK b false true)))=_;have e0:nth [AV.int .i64 p,.int .i64 a] 0=some (.int .i64 p):=rfl;have e1:nth [AV.int .i64 p,.int .i64 a] 1=some (.int .i64 a):=rfl;simp only[eqs,e0,e1,e,aM,aP]
def aPv(S:St)(a b:AV)(n:Nat)(k:Nat)(A:bH)(X:St):Prop:=A.inr=false∧Same S X∧∃i:Nat,i+k=n∧aH 0 A.F=a∧aH 1 A.F=b∧aH 5 A.F= .int .i64 (i:Int)
theorem wD{S:St}{a b:AV}{l:List zA}(H:Has fns)(ha:aQ 2 dI S a l)(hb:aQ 2 dI S b l)(hl:l.length≤140737488355328):fB fns (.fn 41 [] []) [a,b] S fun r S'=>r= .bool true∧Same S S':=by
 refine bN H.f41 (by simp) ?_;simp only[↓aB,aA,rE,↓reduceIte,rA];refine bL ?_;simp only[↓aB,aA,rE,↓reduceIte,rA];refine fY ?_;simp only[↓aB,aA,rE,↓reduceIte,rA,ha.len,hb.len];refine aL (by simp only[↓aB,aA,rE,↓reduceIte,rA,Aa (show ¬ ((l.length:Nat):Int)≠((l.length:Nat):Int) from fun h=>h rfl)]) (aI ?_);try simp only[↓aB,aA,rE,↓reduceIte,rA]
 refine aC (aT (Q:=fun o A' X=>o= .normal∧A'.inr=false∧Same S X) (aC (aF ?_)) ?_)
 ·simp only[↓aB,aA,rE,↓reduceIte,rA];refine aK (bG (aPv S a b l.length) ?_ l.length _ _ ⟨rfl,Same.refl _,0,by omega,by refine⟨?_,?_,?_⟩<;>simp only[↓aB,aA,rE,↓reduceIte,rA]⟩);rintro k ⟨F,inr⟩ X ⟨q0,hX,i,hik,p0,p1,p5⟩;simp only at q0 p0 p1 p5;subst q0;refine fY ?_;simp only[↓aB,aA,rE,↓reduceIte,rA,p0,p5,ha.len];by_cases hlt:i<l.length
  ·refine aN (by simp only[↓aB,aA,rE,↓reduceIte,rA,Ab (show(i:Int)<((l.length:Nat):Int) by omega)]) (aI ?_);try simp only[↓aB,aA,rE,↓reduceIte,rA]
   obtain⟨e1,b1,q1,ia,_,_,h1,la,_⟩:=aQ.at (aQ.same (E:=dI) cR ha hX) (by decide) (Ad hlt);obtain⟨e2,b2,q2,ib,_,_,h2,lb,_⟩:=aQ.at (aQ.same (E:=dI) cR hb hX) (by decide) (Ad hlt);have h1:e1= [.int .i64 l[i].player,.int .i64 l[i].actions]:=h1;have h2:e2= [.int .i64 l[i].player,.int .i64 l[i].actions]:=h2;subst h1;subst h2;have hsv:=aEU (dG .i64 l[i].player) (dG .i64 l[i].actions);have sa:=aQ.self ha;have sb:=aQ.self hb;have w1:IntKind.i64.wrap ((i:Int)+1)=((i+1:Nat):Int):=by rw[wrap_i64 (by omega) (by omega)];omega
   refine aC (aK (aC (qV ?_)));simp only[↓aB,aA,rE,↓reduceIte,rA,p0,p1,p5,aG,ia,ib,la,lb,hsv,aKP,sa,sb];refine aL (by simp only[↓aB,aA,rE,↓reduceIte,rA]) (aI ?_);try simp only[↓aB,aA,rE,↓reduceIte,rA]
   refine aF ?_;simp only[↓aB,aA,rE,↓reduceIte,rA,p5,w1];exact⟨k - 1,by omega,rfl,hX.trans (Same.nx _ _),i+1,by omega,by refine⟨?_,?_,?_⟩<;>simp only[↓aB,aA,rE,↓reduceIte,rA,p0,p1]⟩
  ·refine aL (by simp only[↓aB,aA,rE,↓reduceIte,rA,Aa (show ¬ (i:Int)<((l.length:Nat):Int) by omega)]) (bD ?_);simp only[↓aB,aA,rE,↓reduceIte,rA];exact hX
 rintro o ⟨F,inr⟩ X ⟨rfl,q0,hX⟩;simp only at q0;subst q0;try simp only[↓aB,aA,rE,↓reduceIte,rA]
 refine bL ?_;simp only[↓aB,aA,rE,↓reduceIte,rA];refine aR ?_;simp only[↓aB,aA,rE,↓reduceIte,rA];exact hX
theorem aC5{S:St}{cs ds:List AV}{x:bO}(H:Has fns)(h1:cC S cs x)(h2:cC S ds x)(hb:x.next.length * 8≤140737488355328∧x.weights.length * 8≤140737488355328∧x.pay.length * 8≤140737488355328):fB fns (.fn 24 [] []) [.agg cs,.agg ds] S fun r S'=>r= .bool true∧Same S S':=by
 obtain⟨xa,xw,xp,rfl,hxa,hxw,hxp⟩:=h1;obtain⟨ya,yw,yp,rfl,hya,hyw,hyp⟩:=h2;obtain⟨b1,b2,b3⟩:=hb;refine bN H.f24 (by simp) ?_;simp only[↓aB,aA,rE,↓reduceIte,rA];refine bL ?_;refine cL (by simp only[↓aB,aA,rE,↓reduceIte,rA];exact bE _) ?_;intro S1 s1 n1 c1;refine cL (by simp only[↓aB,aA,rE,↓reduceIte,rA];exact bE _) ?_;intro S2 s2 n2 c2;simp only[↓aB,aA,rE,↓reduceIte,rA];have d1:S2.h.get S.nx=_:=(s2.2 _ (by omega)).trans c1;have sS:=s1.trans s2;have l1:S.nx<S2.nx:=by omega
 have l2:S1.nx<S2.nx:=by omega
 refine bL ?_;simp only[↓sU,sD,rE,↓reduceIte,rA,aE,aD,eB d1,eB c2,cO d1,cO c2,cP d1,cP c2,dD d1,dD c2,decide_true];refine aY ?_;simp only[↓sU,sD,rE,↓reduceIte,rA];refine aO (jX H (hxa.same sS) (hya.same sS) (by omega)) ?_;rintro _ S3 ⟨rfl,s3⟩;rw[Ab rfl];have d1':=(s3.2 _ l1).trans d1;have c2':=(s3.2 _ l2).trans c2;have sS3:=sS.trans s3;simp only[↓sU,sD,rE,↓reduceIte,rA,aE,aD,dH d1',dH c2'];refine aY ?_;simp only[↓sU,sD,rE,↓reduceIte,rA];refine aO (jX H (hxw.same sS3) (hyw.same sS3) (by omega)) ?_;rintro _ S4 ⟨rfl,s4⟩;rw[Ab rfl];have d1'':=(s4.2 _ (Ae l1 s3.1)).trans d1';have c2'':=(s4.2 _ (Ae l2 s3.1)).trans c2';have sS4:=sS3.trans s4;simp only[↓sU,sD,rE,↓reduceIte,rA,aE,aD,dE d1'',dE c2''];refine aY ?_;simp only[↓sU,sD,rE,↓reduceIte,rA];refine aO (jX H (hxp.same sS4) (hyp.same sS4) (by omega)) ?_;rintro _ S5 ⟨rfl,s5⟩;rw[Ab rfl];try simp only[↓sU,sD,rE,↓reduceIte,rA]
 refine aR ?_;try simp only[↓sU,sD,rE,↓reduceIte,rA]
 exact sS4.trans s5
theorem aNC{base:Nat}{suf:List AO}{Q:DS→Prop}:∀ {pre:List AO} {i:Nat} {D:DS},yV fns pre i base D (fun D'=>yV fns suf (i+pre.length) base D' Q)→yV fns (pre++suf) i base D Q:=by
 intro pre i D h;obtain⟨n,D1,h1,k,D2,h2,h3⟩:=h;refine⟨max n k,D2,?_,h3⟩;have h1':=tQ (jO fns (Ew n k)).call h1;have h2':=tQ (jO fns (Eq n k)).call h2;clear h1 h2
 induction pre generalizing i D with
 | nil=>cases h1';exact h2'
 | cons o os ih=>
  show aZ (tW o i base (ev fns (max n k)).call D) _=_;have h1'':aZ (tW o i base (ev fns (max n k)).call D) (fun D'=>yP os (i+1) base (ev fns (max n k)).call D')=some D1:=h1';cases he:tW o i base (ev fns (max n k)).call D with
  | none=>rw[he] at h1'';cases h1''
  | some D'=>
   rw[he,aM] at h1'';rw[aM];exact ih h1'' (by rw[Am] at h2';rw[show i+1+os.length=i+(os.length+1) by omega];exact h2')
def Low(K:Nat)(D:DS):Prop:=(∀e∈D.hs,e.1<K)∧∀l∈D.ls,l.i<K∧l.mask<2 ^ K
theorem aMT{call:eR}{o:AO}{i base K:Nat}{D D':DS}(h:tW o i base call D=some D')(hi:i<K)(hm:o.mask<2 ^ K)(hD:Low K D):Low K D':=by
 unfold tW at h;cases hw:eG o.grd D.F with
 | false=>rw[hw,aU] at h;cases h;exact hD
 | true=>
  rw[hw,aP] at h;obtain⟨d,op,g,m⟩:=o;cases op with
  | q q=>
   have h:aZ (gT q D.F D.S.h) (fun v=>some (⟨cB d D.F v,D.S,D.ps,D.hs,bK (dO q) (⟨q,D.F,v,i,m⟩::D.ls) D.ls⟩:DS))=some D':=h;cases he:gT q D.F D.S.h with
   | none=>rw[he] at h;cases h
   | some v=>
    rw[he,aM] at h;cases h;refine⟨hD.1,fun l hl=>?_⟩;simp only at hl;cases hq:dO q with
    | false=>rw[hq,aU] at hl;exact hD.2 l hl
    | true=>
     rw[hq,aP] at hl;rcases Bq.1 hl with rfl | hl
     ·exact⟨hi,hm⟩
     ·exact hD.2 l hl
  | a a=>
   have h:aZ (xL a D.F (base+i)) (fun r=>some (⟨cB d D.F r.1,D.S,⟨i,base+i,r.2⟩::D.ps,D.hs,D.ls⟩:DS))=some D':=h;cases he:xL a D.F (base+i) with
   | none=>rw[he] at h;cases h
   | some v=>rw[he,aM] at h;cases h;exact hD
  | x x=>
   have h:bK (kD D.hs m) (aZ (evX x call D.F ⟨(cA m D.ps D.S.h).2,D.S.nx⟩) fun r=>some (⟨cB d D.F r.1,r.2,(cA m D.ps D.S.h).1,(i,m,r.2.h)::D.hs,D.ls⟩:DS)) none=some D':=h;cases hl:kD D.hs m with
   | false=>rw[hl,aU] at h;cases h
   | true=>
    rw[hl,aP] at h;cases he:evX x call D.F ⟨(cA m D.ps D.S.h).2,D.S.nx⟩ with
    | none=>rw[he] at h;cases h
    | some v=>
     rw[he,aM] at h;cases h;refine⟨fun e he=>?_,hD.2⟩;rcases Bq.1 he with rfl | he
     ·exact hi
     ·exact hD.1 e he
theorem aGz{call:eR}{base K:Nat}:∀ {l:List AO} {i:Nat} {D D':DS},yP l i base call D=some D'→i+l.length≤K→(∀o∈l,o.mask<2 ^ K)→Low K D→Low K D'
 | [],i,D,D',h,_,_,hD=>by cases h;exact hD
 | o::os,i,D,D',h,hi,hm,hD=>by
  have h:aZ (tW o i base call D) (fun D'=>yP os (i+1) base call D')=some D':=h;rw[Am] at hi;cases he:tW o i base call D with
  | none=>rw[he] at h;cases h
  | some D1=>
   rw[he,aM] at h;exact aGz h (by omega) (fun o ho=>hm o (Cl _ ho)) (aMT he (by omega) (hm o (Ed ..)) hD)
theorem aDR{W:Nat→Prop}{h0:T AB}{base K m:Nat}{h':T AB}{r:List (Nat×Nat×T AB)}{l:lG}(h:bW l.v l.v=true∧aHe W base l.q l.F∧gT l.q l.F h0=some l.v)(hl:l.i<K∧l.mask<2 ^ K)(hm:∀i,i<K→Nat.testBit m i=true):∀ {hs:List (Nat×Nat×T AB)} {h1:T AB},(∀e∈hs,∀b,b<base→¬W b→e.2.2.get b=h0.get b)→(∀b,b<base→¬W b→h1.get b=h0.get b)→fA l (hs++(K,m,h')::r) h1=true
 | [],h1,_,hh=>by
  have e1:pD l.v (gT l.q l.F h1)=true:=by rw[h.2.1.ev hh,h.2.2];exact h.1
  have e2:Nat.testBit l.mask K=false:=Nat.testBit_lt_two_pow hl.2;show fA l ((K,m,h')::r) h1=true;unfold fA;rw[e2,aU,e1,aP,hm _ hl.1,aP]
 | (i,mm,h2)::rr,h1,hs,hh=>by
  have e1:pD l.v (gT l.q l.F h1)=true:=by rw[h.2.1.ev hh,h.2.2];exact h.1
  have e2:fA l (rr++(K,m,h')::r) h2=true:=aDR h hl hm (fun e he=>hs e (by simp [he])) (hs (i,mm,h2) (by simp));show fA l ((i,mm,h2)::(rr++(K,m,h')::r)) h1=true;unfold fA;rw[e1,e2];cases Nat.testBit l.mask i<;>cases Nat.testBit mm l.i<;>rfl
theorem aCQ{W:Nat→Prop}{ops pre suf:List AO}{K:Nat}{A:bH}{S:St}{Q:Out→bH→St→Prop}{R:Fr→St→List jQ→Prop}(he:ops=pre++suf)(hK:pre.length=K)(hm:(pre.all fun o=>decide (o.mask<2 ^ K))=true)
  (h:∀S1,Same S S1→S1.h=S.h→S1.nx=S.nx+ops.length→fS fns W S.h S.nx pre 0 A.F S1 [] none R)
  (h2:∀F S' ps hs ls,R F S' ps→(∀m,(∀i,i<K→Nat.testBit m i=true)→kD hs m=true)→(∀m h' r,(∀i,i<K→Nat.testBit m i=true)→fM S.h (hs.reverse++(K,m,h')::r) ls=true)→yV fns suf K S.nx ⟨F,S',ps,hs,ls⟩ fun D'=>fM S.h D'.hs.reverse D'.ls=true∧Q .normal ⟨D'.F,A.inr⟩ ⟨(cA (2 ^ ops.length - 1) D'.ps D'.S.h).2,D'.S.nx⟩):nO fns (.drw ops) A S Q:=by
 refine uO ?_;obtain⟨n,D',e1,e2,e3⟩:=mV (fns:=fns) (i:=0) (D:=⟨A.F,⟨S.h,S.nx+ops.length⟩,[],[],[]⟩) (last:=none) ⟨fun _ _ _=>rfl,Fd _ _,fun e he=>(by cases he),fun l hl=>(by cases hl),fun p hp=>(by cases hp)⟩ rfl (h ⟨S.h,S.nx+ops.length⟩ (Same.nx S _) rfl rfl);have low:Low K D':=aGz e1 (by omega) (fun o ho=>by have:=Ec.1 hm o ho;simpa using this) ⟨fun e he=>(by cases he),fun l hl=>(by cases hl)⟩;obtain⟨F,S',ps,hs,ls⟩:=D';have hh:=h2 F S' ps hs ls e2 (fun m hm=>by
  cases hs with
  | nil=>rfl
  | cons e r=>exact hm _ (low.1 e (Ed ..))) (fun m h' r hm=>qH fun l hl=>aDR (e3.lds l hl) (low.2 l hl) hm (fun e he=>e3.chain e (List.mem_reverse.1 he)) (fun _ _ _=>rfl))
 have:yV fns ops 0 S.nx ⟨A.F,⟨S.h,S.nx+ops.length⟩,[],[],[]⟩ fun D'=>fM S.h D'.hs.reverse D'.ls=true∧Q .normal ⟨D'.F,A.inr⟩ ⟨(cA (2 ^ ops.length - 1) D'.ps D'.S.h).2,D'.S.nx⟩:=by
  subst he;refine aNC ⟨n,_,e1,?_⟩;rw[Av,hK];exact hh
 exact this
def aP1(S:St)(ca cb:Option AB)(ga gb:Nat)(n:Nat)(k:Nat)(A:bH)(X:St):Prop:=A.inr=false∧Same S X∧ga<X.nx∧gb<X.nx∧X.h.get ga=ca∧X.h.get gb=cb∧∃i:Nat,i+k=n∧aH 2 A.F= .ptr ga 0∧aH 3 A.F= .ptr gb 0∧aH 5 A.F= .int .i64 (i:Int)
theorem aDa{S:St}{nv iv mv jv:AV}{g:bC}(H:Has fns)(hn:aQ 6 cC S nv g.nodes)(hi:aQ 2 dI S iv g.infos)(hm:aQ 6 cC S mv g.nodes)(hj:aQ 2 dI S jv g.infos)(hT:tZ g)(hln:g.nodes.length≤100000):
  fB fns (.fn 22 [] []) [.agg [.int .i64 g.players,nv,iv],.agg [.int .i64 g.players,mv,jv]] S fun r S'=>r= .bool true∧Same S S':=by
 refine bN H.f22 (by simp) ?_;simp only[↓sU,sD,rE,↓reduceIte,rA];refine bL ?_;refine cL (cs:=[.int .i64 g.players,nv,iv]) rfl ?_;intro S1 s1 n1 c1;refine cL (cs:=[.int .i64 g.players,mv,jv]) rfl ?_;intro S2 s2 n2 c2;simp only[↓sU,sD,rE,↓reduceIte,rA];have d1:=(s2.2 _ (show S.nx<S1.nx by omega)).trans c1;have sS:=s1.trans s2;have l1:S.nx<S2.nx:=by omega
 have l2:S1.nx<S2.nx:=by omega
 refine fY ?_;simp only[↓sU,sD,rE,↓reduceIte,rA,aE,aD,lC d1,lC c2,cN d1,cN c2,jD d1,jD c2,hn.len,hm.len,ne_eq,Bz,decide_false];refine aY ?_;simp only[↓sU,sD,rE,↓reduceIte,rA];refine aO (wD H (aQ.same (E:=dI) cR hi sS) (aQ.same (E:=dI) cR hj sS) (by have:=hT.1;omega)) ?_;rintro _ X ⟨rfl,hX⟩;have sX:=sS.trans hX;have dX:=(hX.2 _ l1).trans d1;have cX:=(hX.2 _ l2).trans c2;simp only[↓sU,sD,rE,↓reduceIte,rA,eC,Bd];refine aL (by simp only[↓sU,sD,rE,↓reduceIte,rA]) (aI ?_);try simp only[↓sU,sD,rE,↓reduceIte,rA]
 refine aC (aT (Q:=fun o A' Z=>o= .normal∧A'.inr=false∧Same S Z) (aC (aF ?_)) ?_)
 ·simp only[↓sU,sD,rE,↓reduceIte,rA];refine aK (bG (aP1 S (some (.cells [.int .i64 g.players,nv,iv] false 0)) (some (.cells [.int .i64 g.players,mv,jv] false 0)) S.nx S1.nx g.nodes.length) ?_ g.nodes.length _ _ ⟨rfl,sX,Ae l1 hX.1,Ae l2 hX.1,dX,cX,0,by omega,by refine⟨?_,?_,?_⟩<;>simp only[↓sU,sD,rE,↓reduceIte,rA]⟩);rintro k ⟨F,inr⟩ V ⟨q0,hV,la,lb,dV,cV,i,hik,p2,p3,p5⟩;simp only at q0 p2 p3 p5;subst q0;refine fY ?_;simp only[↓sU,sD,rE,↓reduceIte,rA,p2,p5,aE,aD,cN dV,hn.len];by_cases hlt:i<g.nodes.length;rotate_left
  ·refine aL (by simp only[↓sU,sD,rE,↓reduceIte,rA,Aa (show ¬ (i:Int)<((g.nodes.length:Nat):Int) by omega)]) (bD ?_);simp only[↓sU,sD,rE,↓reduceIte,rA];exact hV
  refine aN (by simp only[↓sU,sD,rE,↓reduceIte,rA,Ab (show(i:Int)<((g.nodes.length:Nat):Int) by omega)]) (aI ?_);try simp only[↓sU,sD,rE,↓reduceIte,rA]
  have hmem:nodeAt g i∈g.nodes:=Ao (cM hlt);obtain⟨_,bx,qx,iax,hbx,_,hex,ldx,_⟩:=aQ.at (aQ.same (E:=cC) bR hn hV) (by decide) (cM hlt);obtain⟨_,by',qy,iay,hby,_,hey,ldy,_⟩:=aQ.at (aQ.same (E:=cC) bR hm hV) (by decide) (cM hlt);have sx:∀ {cs},cC V cs (nodeAt g i)→bW (.agg cs) (.agg cs)=true:=fun {cs} h=>by
   obtain⟨xa,xw,xp,rfl,hxa,hxw,hxp⟩:=h;exact tM (dG ..) (dG ..) (dG ..) (bI.self hxa) (bI.self hxw) (bI.self hxp)
  have s1':=sx hex;have s2':=sx hey;have snv:=aQ.self hn;have smv:=aQ.self hm;have w0:IntKind.i64.wrap ((i:Int)+1)=((i+1:Nat):Int):=by rw[wrap_i64 (by omega) (by omega)];omega
  refine aC (aK (aC (dM (fun _=>False) ?_)));intro Y sY;simp only[↓sU,sD,rE,↓reduceIte,rA,p2,p3,p5,aE,aW,aD,cN dV,cN cV,la,lb,An,snv,smv,aG,iax,iay,ldx,ldy,hbx,hby,s1',s2'];refine bS rfl ?_;simp only[↓sU,sD,rE,↓reduceIte,rA];refine aO (aC5 (x:=nodeAt g i) H (bR hex sY) (bR hey sY) (hT.2 _ hmem)) ?_;rintro _ Z ⟨rfl,hZ⟩;refine⟨hZ,?_⟩;have sVZ:=sY.trans hZ;try simp only[↓sU,sD,rE,↓reduceIte,rA,eC,Bd]
  refine aL (by simp only[↓sU,sD,rE,↓reduceIte,rA]) (aI ?_);try simp only[↓sU,sD,rE,↓reduceIte,rA]
  refine aF ?_;simp only[↓sU,sD,rE,↓reduceIte,rA,p5,w0];exact⟨k - 1,by omega,rfl,hV.trans sVZ,Ae la sVZ.1,Ae lb sVZ.1,(sVZ.2 _ la).trans dV,(sVZ.2 _ lb).trans cV,i+1,by omega,by refine⟨?_,?_,?_⟩<;>simp only[↓sU,sD,rE,↓reduceIte,rA,p2,p3]⟩
 rintro o ⟨F,inr⟩ Z ⟨rfl,q0,hZ⟩;simp only at q0;subst q0;try simp only[↓sU,sD,rE,↓reduceIte,rA]
 refine bL ?_;simp only[↓sU,sD,rE,↓reduceIte,rA];refine aR ?_;simp only[↓sU,sD,rE,↓reduceIte,rA];exact hZ
theorem dJ{S S':St}{v:AV}{l:List Int}(h:bI .i64 S v l)(hn:S.nx≤S'.nx)(hh:∀c,aX v=some c→S'.h.get c=S.h.get c):bI .i64 S' v l:=ofG (aQ.moveB (toG h) hn hh fun _ _ h=>h)
def aH4(X:St)(P:Nat→Prop)(e:List AV)(a:bO):Prop:=∃xa xw xp,e= [.int .i64 a.kind,.int .i64 a.player,.int .i64 a.info,xa,xw,xp]∧bI .i64 X xa a.next∧bI .i64 X xw a.weights∧bI .i64 X xp a.pay∧∀c,(aX xa=some c∨aX xw=some c∨aX xp=some c)→P c
def iI(X:St)(P:Nat→Prop)(cs:List AV)(l:List bO):Prop:=cs.length=l.length * 6∧∀ (j:Nat) (a:bO),l[j]? =some a→∃e:List AV,e.length=6∧(∀ (q:Nat) (x:AV),e[q]? =some x→cs[j * 6+q]? =some x)∧aH4 X P e a
theorem dP{k:IntKind}{X:St}{v:AV}{l:List Int}{c:Nat}(h:bI k X v l)(hc:aX v=some c):c<X.nx:=by
 rcases h with⟨_,rfl | rfl⟩ | ⟨b,off,cap,o,cs,rfl,_,hb,_⟩
 ·cases hc
 ·cases hc
 ·cases hc;exact hb
theorem aH4.move{X X':St}{P P':Nat→Prop}{e:List AV}{a:bO}(h:aH4 X P e a)(hn:X.nx≤X'.nx)(hh:∀c,c<X.nx→P c→X'.h.get c=X.h.get c∧P' c):aH4 X' P' e a:=by
 obtain⟨xa,xw,xp,rfl,h1,h2,h3,h4⟩:=h;refine⟨xa,xw,xp,rfl,dJ h1 hn fun c hc=>(hh c (dP h1 hc) (h4 c (.inl hc))).1,dJ h2 hn fun c hc=>(hh c (dP h2 hc) (h4 c (.inr (.inl hc)))).1,dJ h3 hn fun c hc=>(hh c (dP h3 hc) (h4 c (.inr (.inr hc)))).1,fun c hc=>?_⟩;rcases hc with hc | hc | hc
 ·exact(hh c (dP h1 hc) (h4 c (.inl hc))).2
 ·exact(hh c (dP h2 hc) (h4 c (.inr (.inl hc)))).2
 ·exact(hh c (dP h3 hc) (h4 c (.inr (.inr hc)))).2
theorem iI.move{X X':St}{P P':Nat→Prop}{cs:List AV}{l:List bO}(h:iI X P cs l)(hn:X.nx≤X'.nx)(hh:∀c,c<X.nx→P c→X'.h.get c=X.h.get c∧P' c):iI X' P' cs l:=
 ⟨h.1,fun j a hj=>by
  obtain⟨e,e1,e2,e3⟩:=h.2 j a hj;exact⟨e,e1,e2,e3.move hn hh⟩⟩
theorem iI.push{X:St}{P:Nat→Prop}{cs e:List AV}{l:List bO}{a:bO}(h:iI X P cs l)(he:aH4 X P e a):iI X P (cs++e) (l++ [a]):=by
 have hl:e.length=6:=by
  obtain⟨_,_,_,rfl,_⟩:=he;rfl
 refine⟨by rw[Al,h.1,hl,Al,Bm,Dz],fun j b hj=>?_⟩;rw[Di] at hj;split at hj
 ·obtain⟨e',e1,e2,e3⟩:=h.2 j b hj;refine⟨e',e1,fun q x hq=>?_,e3⟩;have:=e2 q x hq;rw[Bu (Af.1 this).1];exact this
 ·rename_i hlt;have hj0:j - l.length=0:=by
   rcases Dt (j - l.length) with h0 | h0
   ·exact h0
   ·obtain⟨q,hq⟩:=Nat.exists_eq_succ_of_ne_zero (Nat.pos_iff_ne_zero.1 h0);rw[hq] at hj;simp at hj
  rw[hj0] at hj;simp at hj;subst hj;have hjl:j=l.length:=by omega
  subst hjl;refine⟨e,hl,fun q x hq=>?_,he⟩;rw[Bh (by rw[h.1];omega),h.1,Nat.add_sub_cancel_left];exact hq
theorem iI.is{X0 X:St}{P:Nat→Prop}{pv:AV}{cs:List AV}{l:List bO}(h:iI X P cs l)(hg:iD 6 X0 X pv l.length cs):aQ 6 cC X pv l:=by
 rcases hg with⟨rfl,h0,_⟩ | ⟨b,rfl,_,hb,hc,_⟩
 ·exact .inl ⟨Cg.1 h0,.inl rfl⟩
 ·refine .inr ⟨b,0,l.length,true,cs,rfl,Ah _,hb,by unfold cK;rw[hc];rfl,fun j a hj=>?_⟩;obtain⟨e,e1,e2,xa,xw,xp,h3,h4,h5,h6,_⟩:=h.2 j a hj;exact⟨e,e1,fun q x hq=>by rw[Av];exact e2 q x hq,xa,xw,xp,h3,h4,h5,h6⟩
theorem aF2{t:Nat}{x:cF}{F:Fr}{id:Nat}{k p f xa xw xp z0 z1 z2 z3 z4 z5:AV}(hx:x.val F= .agg [k,p,f,xa,xw,xp]):xL (.bslice t 6 1 [z0,z1,z2,z3,z4,z5] [(0,x)]) F id=some (.sl id 0 1 1 false,.cells [k,p,f,xa,xw,xp] false 0):=by
 show(aZ (gM (repeatL [z0,z1,z2,z3,z4,z5] 1) [(0 * 6,6,x.val F)]) fun cs=>some (AV.sl id 0 1 1 false,AB.cells cs false 0))=_;rw[hx];show(aZ (aZ (AV.cells (.agg [k,p,f,xa,xw,xp])) _) _)=_;rw[bE,aM];rfl
theorem aOO{S:St}{t:Nat}{k p f xa xw xp:AV}{o:Bool}{sz:Nat}(h:S.h.get t=some (.cells [k,p,f,xa,xw,xp] o sz)):eU (.sl t 0 1 1 false) S.h 6 1=some [k,p,f,xa,xw,xp]:=by
 show aZ (cK S.h t) (fun cs=>cut cs 0 (1 * 6))=_;unfold cK;rw[h];rfl
theorem iD.appB{k n m bytes:Nat}{S0 S:St}{v x:AV}{cs new:List AV}(h:iD k S0 S v n cs)(hS:Same S0 S)(hl:oC x=some m)(hs:eU x S.h k m=some new)(hn:new.length=m * k)(hm:0<m)(h1:n+m≤room)(h2:(n+m) * bytes≤room):
  ∃v' S',jK bytes k v x S=some (v',S')∧iD k S0 S' v' (n+m) (cs++new)∧Same S0 S'∧S.nx≤S'.nx∧(∀c,c<S.nx→aX v≠some c→S'.h.get c=S.h.get c)∧aX v'=some S.nx:=by
 rcases h with⟨rfl,rfl,rfl⟩ | ⟨b,rfl,hb0,hb,hg,hc⟩
 ·refine⟨.sl S.nx 0 m m true,⟨S.h.set S.nx (some (.cells new true k)),S.nx+1⟩,?_,.inr ⟨S.nx,by rw[Av],hS.1,by simp,?_,by rw[Av];exact hn⟩,hS.trans (Same.alloc S _),by simp,fun c hc _=>(Same.alloc S _).2 c hc,rfl⟩
  ·show(aZ (oC x) fun j=>aZ (eU x S.h k j) fun new=>aE9 .nilsl bytes k j new S)=_;rw[hl,aM,hs,aM];show wY bytes k m new S=_;unfold wY;rw[show Nat.beq m 0=false from Ch.2 fun e=>by rw[Aw] at e;omega,aU,Aj (by omega),aP,Aj (by rw[Av] at h2;exact h2),aP];rfl
  ·simp only;rw[T.get_set,if_pos rfl];rfl
 ·refine⟨.sl S.nx 0 (n+m) (n+m) true,⟨(S.h.set b none).set S.nx (some (.cells (cs++new) true k)),S.nx+1⟩,?_,.inr ⟨S.nx,rfl,hS.1,by simp,?_,by rw[Al,hc,hn,Dz]⟩,⟨Ba hS.1 (by simp),fun c hc=>?_⟩,by simp,fun c hc hne=>?_,rfl⟩
  ·show(aZ (oC x) fun j=>aZ (eU x S.h k j) fun new=>aE9 (.sl b 0 n n true) bytes k j new S)=_;rw[hl,aM,hs,aM];show vL bytes k b 0 n n true m new S=_;unfold vL;have e2:Nat.ble (n+m) n=false:=by rw[Ch];intro h;have:=Ar h;omega
   rw[e2,aU,Aj h1,aP,Aj h2,aP,hg,aM];have e3:cut cs 0 (n * k)=some cs:=by
    unfold cut;rw[fO,gJ,Cn,if_pos (by omega),Ay (by omega)]
   have e4:Nat.beq (0+n * k) (jJ cs)=true:=by rw[dZ,hc,Aw];omega
   have e5:Nat.beq k k=true:=Nat.beq_refl k;simp only[aGd,e3,aM,aP,e4,e5,grown,gD]
  ·simp only;rw[T.get_set,if_pos rfl]
  ·simp only;have:=hS.1;rw[T.get_set,if_neg (by omega),T.get_set,if_neg (by omega)];exact hS.2 c hc
  ·simp only;have:c≠b:=fun e=>hne (by rw[e];rfl);rw[T.get_set,if_neg (by omega),T.get_set,if_neg this]
theorem tK{W:Nat→Prop}{h0:T AB}{base:Nat}{m i:Nat}{l:List AO}{F:Fr}{S:St}{last:Option Nat}{Q:Fr→St→List jQ→Prop}{n j id:Nat}{x v:cF}{cs cs':List AV}(ht:Nat.testBit m j=true)(h:mE last m=true)(hx:x.val F= .ptr id 0)(hv:(v.val F).cells=some cs')(h1:cs.length=n)(h2:cs'.length=n)(hid:base≤id)
  (hr:∀S1,bB id S S1→S1.nx=S.nx→S1.h.get id=some (.cells cs' false 0)→fS fns W h0 base l (i+1) F S1 [] (some i) Q):fS fns W h0 base (⟨none,.x (.st n x v),none,m⟩::l) i F S [⟨j,id,.cells cs false 0⟩] last Q:=by
 have hb:(⟨S.h.set id (some (.cells cs false 0)),S.nx⟩:St).h.get id=some (.cells cs false 0):=by simp only;rw[T.get_set,if_pos rfl]
 refine uN (S1:=⟨(S.h.set id (some (.cells cs false 0))).set id (some (.cells cs' false 0)),S.nx⟩) h ?_ ⟨Ah _,fun c hc hw=>?_⟩ ?_
 ·rw[cJ ht,hv,aM,hx];exact aIF hb h1 h2
 ·simp only;rw[cJ ht,T.get_set,if_neg (by omega)]
 ·rw[cJ ht];refine hr _ ⟨Ah _,fun c hc hne=>?_⟩ rfl ?_
  ·simp only;rw[T.get_set,if_neg hne,T.get_set,if_neg hne]
  ·simp only;rw[T.get_set,if_pos rfl]
theorem yG{k:Nat}{α:Type}{E:St→List AV→α→Prop}{S:St}{v:AV}{l:List α}(h:aQ k E S v l):v.cells=some [v]:=by
 rcases h with⟨_,rfl | rfl⟩ | ⟨b,off,cap,o,cs,rfl,_⟩<;>rfl
end Go.Ev.Gl
