import Derived.Test.YtoojnpjgnnpllaaGl11
open Nat renaming reduceEqDiff → rE, reduceAdd → rA
set_option maxHeartbeats 16000000
set_option linter.unusedSimpArgs false
set_option linter.unusedVariables false
namespace Go.Ev.Gl
variable {fns:T eG}
theorem oJ{g:aR}{i:Nat}(hi:i<g.infos.length):g.infos[i]? =some (infoAt g (i:Int)):=by
 unfold infoAt;rw[Ba,Ad,Ab hi];rfl
def aPA(_:St)(cs:List AV)(x:Int):Prop:=cs= [.int .i64 x]
theorem toG{S:St}{v:AV}{l:List Int}(h:bK .i64 S v l):aH 1 aPA S v l:=by
 rcases h with h | ⟨b,off,cap,o,cs,rfl,hc,hb,hcs,hel⟩
 ·exact .inl h
 ·refine .inr ⟨b,off,cap,o,cs,rfl,hc,hb,hcs,fun i a hi=>⟨[.int .i64 a],rfl,fun j x hj=>?_,rfl⟩⟩;cases j with
  | zero=>simp at hj;subst hj;rw[Dh,Br];exact hel i a hi
  | succ j=>simp at hj
theorem ofG{S:St}{v:AV}{l:List Int}(h:aH 1 aPA S v l):bK .i64 S v l:=by
 rcases h with h | ⟨b,off,cap,o,cs,rfl,hc,hb,hcs,hel⟩
 ·exact .inl h
 ·refine .inr ⟨b,off,cap,o,cs,rfl,hc,hb,hcs,fun i a hi=>?_⟩;obtain⟨e,_,h2,h3⟩:=hel i a hi;have h3:e= [.int .i64 a]:=h3;subst h3;have:=h2 0 _ rfl;rw[Dh,Br] at this;exact this
theorem aH.moveB{k:Nat}{α:Type}{E:St→List AV→α→Prop}{S S':St}{v:AV}{l:List α}(h:aH k E S v l)(hn:S.nx≤S'.nx)(hh:∀c,bD v=some c→S'.h.get c=S.h.get c)(hE:∀e a,E S e a→E S' e a):aH k E S' v l:=by
 rcases h with h | ⟨b,off,cap,o,cs,rfl,hc,hb,hcs,hel⟩
 ·exact .inl h
 ·refine .inr ⟨b,off,cap,o,cs,rfl,hc,Ae hb hn,?_,fun i a hi=>?_⟩
  ·unfold cN;rw[hh b rfl];exact hcs
  ·obtain⟨e,e1,e2,e3⟩:=hel i a hi;exact⟨e,e1,e2,hE e a e3⟩
theorem aK5(p a:Int):pO .neq (.struct [(0,.int),(1,.int)]) (.agg [.int .i64 p,.int .i64 a]) (.agg [.int .i64 p,.int .i64 a])=some (.bool false):=by
 have e:∀z:Int,vZ .int (.int .i64 z) (.int .i64 z)=some true:=fun z=>by
  show bN (keq .i64 .i64) (some (ieq z z)) none=_;rw[fC,aQ,iL];simp
 show aZ (eqs [(0,.int),(1,.int)] [.int .i64 p,.int .i64 a] [.int .i64 p,.int .i64 a]) (fun b=>some (AV.bool (bN b false true)))=_;have e0:nth [AV.int .i64 p,.int .i64 a] 0=some (.int .i64 p):=rfl;have e1:nth [AV.int .i64 p,.int .i64 a] 1=some (.int .i64 a):=rfl;simp only[eqs,e0,e1,e,aK,aQ]
def aPL(S:St)(a b:AV)(n:Nat)(k:Nat)(A:bH)(X:St):Prop:=A.inr=false∧Same S X∧∃i:Nat,i+k=n∧aB 0 A.F=a∧aB 1 A.F=b∧aB 5 A.F= .int .i64 (i:Int)
theorem aDi{S:St}{a b:AV}{l:List aAp}(H:Has fns)(ha:aH 2 cA S a l)(hb:aH 2 cA S b l)(hl:l.length≤140737488355328):gH fns (.fn 93 [] []) [a,b] S fun r S'=>r= .bool true∧Same S S':=by
 refine cI H.f93 (by simp) ?_;simp only[↓aF,aE,rE,↓reduceIte,rA];refine bQ ?_;simp only[↓aF,aE,rE,↓reduceIte,rA];refine gC ?_;simp only[↓aF,aE,rE,↓reduceIte,rA,ha.len,hb.len];refine aN (by simp only[↓aF,aE,rE,↓reduceIte,rA,Aa (show ¬ ((l.length:Nat):Int)≠((l.length:Nat):Int) from fun h=>h rfl)]) (aI ?_);try simp only[↓aF,aE,rE,↓reduceIte,rA]
 refine aA (aY (Q:=fun o A' X=>o= .normal∧A'.inr=false∧Same S X) (aA (aJ ?_)) ?_)
 ·simp only[↓aF,aE,rE,↓reduceIte,rA];refine aL (bL (aPL S a b l.length) ?_ l.length _ _ ⟨rfl,Same.refl _,0,by omega,by refine⟨?_,?_,?_⟩<;>simp only[↓aF,aE,rE,↓reduceIte,rA]⟩);rintro k ⟨F,inr⟩ X ⟨q0,hX,i,hik,p0,p1,p5⟩;simp only at q0 p0 p1 p5;subst q0;refine gC ?_;simp only[↓aF,aE,rE,↓reduceIte,rA,p0,p5,ha.len];by_cases hlt:i<l.length
  ·refine aO (by simp only[↓aF,aE,rE,↓reduceIte,rA,Ac (show(i:Int)<((l.length:Nat):Int) by omega)]) (aI ?_);try simp only[↓aF,aE,rE,↓reduceIte,rA]
   obtain⟨e1,b1,q1,ia,_,_,h1,la,_⟩:=aH.at (aH.same (E:=cA) bO ha hX) (by decide) (Ab hlt);obtain⟨e2,b2,q2,ib,_,_,h2,lb,_⟩:=aH.at (aH.same (E:=cA) bO hb hX) (by decide) (Ab hlt);have h1:e1= [.int .i64 l[i].player,.int .i64 l[i].actions]:=h1;have h2:e2= [.int .i64 l[i].player,.int .i64 l[i].actions]:=h2;subst h1;subst h2;have hsv:=wJ (cS .i64 l[i].player) (cS .i64 l[i].actions);have sa:=aH.self ha;have sb:=aH.self hb;have w1:IntKind.i64.wrap ((i:Int)+1)=((i+1:Nat):Int):=by rw[wrap_i64 (by omega) (by omega)];omega
   refine aA (aL (aA (gP ?_)));simp only[↓aF,aE,rE,↓reduceIte,rA,p0,p1,p5,aG,ia,ib,la,lb,hsv,aK5,sa,sb];refine aN (by simp only[↓aF,aE,rE,↓reduceIte,rA]) (aI ?_);try simp only[↓aF,aE,rE,↓reduceIte,rA]
   refine aJ ?_;simp only[↓aF,aE,rE,↓reduceIte,rA,p5,w1];exact⟨k - 1,by omega,rfl,hX.trans (Same.nx _ _),i+1,by omega,by refine⟨?_,?_,?_⟩<;>simp only[↓aF,aE,rE,↓reduceIte,rA,p0,p1]⟩
  ·refine aN (by simp only[↓aF,aE,rE,↓reduceIte,rA,Aa (show ¬ (i:Int)<((l.length:Nat):Int) by omega)]) (bM ?_);simp only[↓aF,aE,rE,↓reduceIte,rA];exact hX
 rintro o ⟨F,inr⟩ X ⟨rfl,q0,hX⟩;simp only at q0;subst q0;try simp only[↓aF,aE,rE,↓reduceIte,rA]
 refine bQ ?_;simp only[↓aF,aE,rE,↓reduceIte,rA];refine aS ?_;simp only[↓aF,aE,rE,↓reduceIte,rA];exact hX
theorem aDl{S:St}{cs ds:List AV}{x:dG}(H:Has fns)(h1:bP S cs x)(h2:bP S ds x)(hb:x.next.length * 8≤140737488355328∧x.weights.length * 8≤140737488355328∧x.pay.length * 8≤140737488355328):gH fns (.fn 94 [] []) [.agg cs,.agg ds] S fun r S'=>r= .bool true∧Same S S':=by
 obtain⟨xa,xw,xp,rfl,hxa,hxw,hxp⟩:=h1;obtain⟨ya,yw,yp,rfl,hya,hyw,hyp⟩:=h2;obtain⟨b1,b2,b3⟩:=hb;refine cI H.f94 (by simp) ?_;simp only[↓aF,aE,rE,↓reduceIte,rA];refine bQ ?_;refine cM (by simp only[↓aF,aE,rE,↓reduceIte,rA];exact bB _) ?_;intro S1 s1 n1 c1;refine cM (by simp only[↓aF,aE,rE,↓reduceIte,rA];exact bB _) ?_;intro S2 s2 n2 c2;simp only[↓aF,aE,rE,↓reduceIte,rA];have d1:S2.h.get S.nx=_:=(s2.2 _ (by omega)).trans c1;have sS:=s1.trans s2;have l1:S.nx<S2.nx:=by omega
 have l2:S1.nx<S2.nx:=by omega
 refine bQ ?_;simp only[↓sU,sD,rE,↓reduceIte,rA,aC,aD,eC d1,eC c2,dE d1,dE c2,cQ d1,cQ c2,cT d1,cT c2,decide_true];refine bG ?_;simp only[↓sU,sD,rE,↓reduceIte,rA];refine aX (qQ H (hxa.same sS) (hya.same sS) (by omega)) ?_;rintro _ S3 ⟨rfl,s3⟩;rw[Ac rfl];have d1':=(s3.2 _ l1).trans d1;have c2':=(s3.2 _ l2).trans c2;have sS3:=sS.trans s3;simp only[↓sU,sD,rE,↓reduceIte,rA,aC,aD,dC d1',dC c2'];refine bG ?_;simp only[↓sU,sD,rE,↓reduceIte,rA];refine aX (qQ H (hxw.same sS3) (hyw.same sS3) (by omega)) ?_;rintro _ S4 ⟨rfl,s4⟩;rw[Ac rfl];have d1'':=(s4.2 _ (Ae l1 s3.1)).trans d1';have c2'':=(s4.2 _ (Ae l2 s3.1)).trans c2';have sS4:=sS3.trans s4;simp only[↓sU,sD,rE,↓reduceIte,rA,aC,aD,dM d1'',dM c2''];refine bG ?_;simp only[↓sU,sD,rE,↓reduceIte,rA];refine aX (qQ H (hxp.same sS4) (hyp.same sS4) (by omega)) ?_;rintro _ S5 ⟨rfl,s5⟩;rw[Ac rfl];try simp only[↓sU,sD,rE,↓reduceIte,rA]
 refine aS ?_;try simp only[↓sU,sD,rE,↓reduceIte,rA]
 exact sS4.trans s5
theorem aIp{base:Nat}{suf:List AO}{Q:DS→Prop}:∀ {pre:List AO} {i:Nat} {D:DS},yG fns pre i base D (fun D'=>yG fns suf (i+pre.length) base D' Q)→yG fns (pre++suf) i base D Q:=by
 intro pre i D h;obtain⟨n,D1,h1,k,D2,h2,h3⟩:=h;refine⟨max n k,D2,?_,h3⟩;have h1':=sQ (jM fns (El n k)).call h1;have h2':=sQ (jM fns (Eg n k)).call h2;clear h1 h2
 induction pre generalizing i D with
 | nil=>cases h1';exact h2'
 | cons o os ih=>
  show aZ (rT o i base (ev fns (max n k)).call D) _=_;have h1'':aZ (rT o i base (ev fns (max n k)).call D) (fun D'=>uQ os (i+1) base (ev fns (max n k)).call D')=some D1:=h1';cases he:rT o i base (ev fns (max n k)).call D with
  | none=>rw[he] at h1'';cases h1''
  | some D'=>
   rw[he,aK] at h1'';rw[aK];exact ih h1'' (by rw[Ay] at h2';rw[show i+1+os.length=i+(os.length+1) by omega];exact h2')
def Low(K:Nat)(D:DS):Prop:=(∀e∈D.hs,e.1<K)∧∀l∈D.ls,l.i<K∧l.mask<2 ^ K
theorem aMx{call:eQ}{o:AO}{i base K:Nat}{D D':DS}(h:rT o i base call D=some D')(hi:i<K)(hm:o.mask<2 ^ K)(hD:Low K D):Low K D':=by
 unfold rT at h;cases hw:eM o.grd D.F with
 | false=>rw[hw,aW] at h;cases h;exact hD
 | true=>
  rw[hw,aQ] at h;obtain⟨d,op,g,m⟩:=o;cases op with
  | q q=>
   have h:aZ (fV q D.F D.S.h) (fun v=>some (⟨cK d D.F v,D.S,D.ps,D.hs,bN (dI q) (⟨q,D.F,v,i,m⟩::D.ls) D.ls⟩:DS))=some D':=h;cases he:fV q D.F D.S.h with
   | none=>rw[he] at h;cases h
   | some v=>
    rw[he,aK] at h;cases h;refine⟨hD.1,fun l hl=>?_⟩;simp only at hl;cases hq:dI q with
    | false=>rw[hq,aW] at hl;exact hD.2 l hl
    | true=>
     rw[hq,aQ] at hl;rcases Bm.1 hl with rfl | hl
     ·exact⟨hi,hm⟩
     ·exact hD.2 l hl
  | a a=>
   have h:aZ (uL a D.F (base+i)) (fun r=>some (⟨cK d D.F r.1,D.S,⟨i,base+i,r.2⟩::D.ps,D.hs,D.ls⟩:DS))=some D':=h;cases he:uL a D.F (base+i) with
   | none=>rw[he] at h;cases h
   | some v=>rw[he,aK] at h;cases h;exact hD
  | x x=>
   have h:bN (iY D.hs m) (aZ (zB x call D.F ⟨(cF m D.ps D.S.h).2,D.S.nx⟩) fun r=>some (⟨cK d D.F r.1,r.2,(cF m D.ps D.S.h).1,(i,m,r.2.h)::D.hs,D.ls⟩:DS)) none=some D':=h;cases hl:iY D.hs m with
   | false=>rw[hl,aW] at h;cases h
   | true=>
    rw[hl,aQ] at h;cases he:zB x call D.F ⟨(cF m D.ps D.S.h).2,D.S.nx⟩ with
    | none=>rw[he] at h;cases h
    | some v=>
     rw[he,aK] at h;cases h;refine⟨fun e he=>?_,hD.2⟩;rcases Bm.1 he with rfl | he
     ·exact hi
     ·exact hD.1 e he
theorem aDK{call:eQ}{base K:Nat}:∀ {l:List AO} {i:Nat} {D D':DS},uQ l i base call D=some D'→i+l.length≤K→(∀o∈l,o.mask<2 ^ K)→Low K D→Low K D'
 | [],i,D,D',h,_,_,hD=>by cases h;exact hD
 | o::os,i,D,D',h,hi,hm,hD=>by
  have h:aZ (rT o i base call D) (fun D'=>uQ os (i+1) base call D')=some D':=h;rw[Ay] at hi;cases he:rT o i base call D with
  | none=>rw[he] at h;cases h
  | some D1=>
   rw[he,aK] at h;exact aDK h (by omega) (fun o ho=>hm o (Bj _ ho)) (aMx he (by omega) (hm o (Bu ..)) hD)
theorem aCd{W:Nat→Prop}{h0:T AB}{base K m:Nat}{h':T AB}{r:List (Nat×Nat×T AB)}{l:lS}(h:cC l.v l.v=true∧aAr W base l.q l.F∧fV l.q l.F h0=some l.v)(hl:l.i<K∧l.mask<2 ^ K)(hm:∀i,i<K→Nat.testBit m i=true):∀ {hs:List (Nat×Nat×T AB)} {h1:T AB},(∀e∈hs,∀b,b<base→¬W b→e.2.2.get b=h0.get b)→(∀b,b<base→¬W b→h1.get b=h0.get b)→eI l (hs++(K,m,h')::r) h1=true
 | [],h1,_,hh=>by
  have e1:oW l.v (fV l.q l.F h1)=true:=by rw[h.2.1.ev hh,h.2.2];exact h.1
  have e2:Nat.testBit l.mask K=false:=Nat.testBit_lt_two_pow hl.2;show eI l ((K,m,h')::r) h1=true;unfold eI;rw[e2,aW,e1,aQ,hm _ hl.1,aQ]
 | (i,mm,h2)::rr,h1,hs,hh=>by
  have e1:oW l.v (fV l.q l.F h1)=true:=by rw[h.2.1.ev hh,h.2.2];exact h.1
  have e2:eI l (rr++(K,m,h')::r) h2=true:=aCd h hl hm (fun e he=>hs e (by simp [he])) (hs (i,mm,h2) (by simp));show eI l ((i,mm,h2)::(rr++(K,m,h')::r)) h1=true;unfold eI;rw[e1,e2];cases Nat.testBit l.mask i<;>cases Nat.testBit mm l.i<;>rfl
theorem nQ{W:Nat→Prop}{ops pre suf:List AO}{K:Nat}{A:bH}{S:St}{Q:Out→bH→St→Prop}{R:Fr→St→List iJ→Prop}(he:ops=pre++suf)(hK:pre.length=K)(hm:(pre.all fun o=>decide (o.mask<2 ^ K))=true)
  (h:∀S1,Same S S1→S1.h=S.h→S1.nx=S.nx+ops.length→fK fns W S.h S.nx pre 0 A.F S1 [] none R)
  (h2:∀F S' ps hs ls,R F S' ps→(∀m,(∀i,i<K→Nat.testBit m i=true)→iY hs m=true)→(∀m h' r,(∀i,i<K→Nat.testBit m i=true)→fN S.h (hs.reverse++(K,m,h')::r) ls=true)→yG fns suf K S.nx ⟨F,S',ps,hs,ls⟩ fun D'=>fN S.h D'.hs.reverse D'.ls=true∧Q .normal ⟨D'.F,A.inr⟩ ⟨(cF (2 ^ ops.length - 1) D'.ps D'.S.h).2,D'.S.nx⟩):iH fns (.drw ops) A S Q:=by
 refine qO ?_;obtain⟨n,D',e1,e2,e3⟩:=lG (fns:=fns) (i:=0) (D:=⟨A.F,⟨S.h,S.nx+ops.length⟩,[],[],[]⟩) (last:=none) ⟨fun _ _ _=>rfl,Av _ _,fun e he=>(by cases he),fun l hl=>(by cases hl),fun p hp=>(by cases hp)⟩ rfl (h ⟨S.h,S.nx+ops.length⟩ (Same.nx S _) rfl rfl);have low:Low K D':=aDK e1 (by omega) (fun o ho=>by have:=Cv.1 hm o ho;simpa using this) ⟨fun e he=>(by cases he),fun l hl=>(by cases hl)⟩;obtain⟨F,S',ps,hs,ls⟩:=D';have hh:=h2 F S' ps hs ls e2 (fun m hm=>by
  cases hs with
  | nil=>rfl
  | cons e r=>exact hm _ (low.1 e (Bu ..))) (fun m h' r hm=>nH fun l hl=>aCd (e3.lds l hl) (low.2 l hl) hm (fun e he=>e3.chain e (List.mem_reverse.1 he)) (fun _ _ _=>rfl))
 have:yG fns ops 0 S.nx ⟨A.F,⟨S.h,S.nx+ops.length⟩,[],[],[]⟩ fun D'=>fN S.h D'.hs.reverse D'.ls=true∧Q .normal ⟨D'.F,A.inr⟩ ⟨(cF (2 ^ ops.length - 1) D'.ps D'.S.h).2,D'.S.nx⟩:=by
  subst he;refine aIp ⟨n,_,e1,?_⟩;rw[Ao,hK];exact hh
 exact this
def aPi(S:St)(ca cb:Option AB)(ga gb:Nat)(n:Nat)(k:Nat)(A:bH)(X:St):Prop:=A.inr=false∧Same S X∧ga<X.nx∧gb<X.nx∧X.h.get ga=ca∧X.h.get gb=cb∧∃i:Nat,i+k=n∧aB 2 A.F= .ptr ga 0∧aB 3 A.F= .ptr gb 0∧aB 5 A.F= .int .i64 (i:Int)
theorem aCf{S:St}{nv iv mv jv:AV}{g:aR}(H:Has fns)(hn:aH 6 bP S nv g.nodes)(hi:aH 2 cA S iv g.infos)(hm:aH 6 bP S mv g.nodes)(hj:aH 2 cA S jv g.infos)(hT:aK7 g)(hln:g.nodes.length≤100000):
  gH fns (.fn 46 [] []) [.agg [.int .i64 g.players,nv,iv],.agg [.int .i64 g.players,mv,jv]] S fun r S'=>r= .bool true∧Same S S':=by
 refine cI H.f46 (by simp) ?_;simp only[↓sU,sD,rE,↓reduceIte,rA];refine bQ ?_;refine cM (cs:=[.int .i64 g.players,nv,iv]) rfl ?_;intro S1 s1 n1 c1;refine cM (cs:=[.int .i64 g.players,mv,jv]) rfl ?_;intro S2 s2 n2 c2;simp only[↓sU,sD,rE,↓reduceIte,rA];have d1:=(s2.2 _ (show S.nx<S1.nx by omega)).trans c1;have sS:=s1.trans s2;have l1:S.nx<S2.nx:=by omega
 have l2:S1.nx<S2.nx:=by omega
 refine gC ?_;simp only[↓sU,sD,rE,↓reduceIte,rA,aC,aD,oY d1,oY c2,eY d1,eY c2,gG d1,gG c2,hn.len,hm.len,ne_eq,Cl,decide_false];refine bG ?_;simp only[↓sU,sD,rE,↓reduceIte,rA];refine aX (aDi H (aH.same (E:=cA) bO hi sS) (aH.same (E:=cA) bO hj sS) (by have:=hT.1;omega)) ?_;rintro _ X ⟨rfl,hX⟩;have sX:=sS.trans hX;have dX:=(hX.2 _ l1).trans d1;have cX:=(hX.2 _ l2).trans c2;simp only[↓sU,sD,rE,↓reduceIte,rA,gE,Cz];refine aN (by simp only[↓sU,sD,rE,↓reduceIte,rA]) (aI ?_);try simp only[↓sU,sD,rE,↓reduceIte,rA]
 refine aA (aY (Q:=fun o A' Z=>o= .normal∧A'.inr=false∧Same S Z) (aA (aJ ?_)) ?_)
 ·simp only[↓sU,sD,rE,↓reduceIte,rA];refine aL (bL (aPi S (some (.cells [.int .i64 g.players,nv,iv] false 0)) (some (.cells [.int .i64 g.players,mv,jv] false 0)) S.nx S1.nx g.nodes.length) ?_ g.nodes.length _ _ ⟨rfl,sX,Ae l1 hX.1,Ae l2 hX.1,dX,cX,0,by omega,by refine⟨?_,?_,?_⟩<;>simp only[↓sU,sD,rE,↓reduceIte,rA]⟩);rintro k ⟨F,inr⟩ V ⟨q0,hV,la,lb,dV,cV,i,hik,p2,p3,p5⟩;simp only at q0 p2 p3 p5;subst q0;refine gC ?_;simp only[↓sU,sD,rE,↓reduceIte,rA,p2,p5,aC,aD,eY dV,hn.len];by_cases hlt:i<g.nodes.length;rotate_left
  ·refine aN (by simp only[↓sU,sD,rE,↓reduceIte,rA,Aa (show ¬ (i:Int)<((g.nodes.length:Nat):Int) by omega)]) (bM ?_);simp only[↓sU,sD,rE,↓reduceIte,rA];exact hV
  refine aO (by simp only[↓sU,sD,rE,↓reduceIte,rA,Ac (show(i:Int)<((g.nodes.length:Nat):Int) by omega)]) (aI ?_);try simp only[↓sU,sD,rE,↓reduceIte,rA]
  have hmem:nodeAt g i∈g.nodes:=Bc (eR hlt);obtain⟨_,bx,qx,iax,hbx,_,hex,ldx,_⟩:=aH.at (aH.same (E:=bP) bF hn hV) (by decide) (eR hlt);obtain⟨_,by',qy,iay,hby,_,hey,ldy,_⟩:=aH.at (aH.same (E:=bP) bF hm hV) (by decide) (eR hlt);have sx:∀ {cs},bP V cs (nodeAt g i)→cC (.agg cs) (.agg cs)=true:=fun {cs} h=>by
   obtain⟨xa,xw,xp,rfl,hxa,hxw,hxp⟩:=h;exact wQ (cS ..) (cS ..) (cS ..) (bK.self hxa) (bK.self hxw) (bK.self hxp)
  have s1':=sx hex;have s2':=sx hey;have snv:=aH.self hn;have smv:=aH.self hm;have w0:IntKind.i64.wrap ((i:Int)+1)=((i+1:Nat):Int):=by rw[wrap_i64 (by omega) (by omega)];omega
  refine aA (aL (aA (iE (fun _=>False) ?_)));intro Y sY;simp only[↓sU,sD,rE,↓reduceIte,rA,p2,p3,p5,aC,aU,aD,eY dV,eY cV,la,lb,Al,snv,smv,aG,iax,iay,ldx,ldy,hbx,hby,s1',s2'];refine dS rfl ?_;simp only[↓sU,sD,rE,↓reduceIte,rA];refine aX (aDl (x:=nodeAt g i) H (bF hex sY) (bF hey sY) (hT.2 _ hmem)) ?_;rintro _ Z ⟨rfl,hZ⟩;refine⟨hZ,?_⟩;have sVZ:=sY.trans hZ;try simp only[↓sU,sD,rE,↓reduceIte,rA,gE,Cz]
  refine aN (by simp only[↓sU,sD,rE,↓reduceIte,rA]) (aI ?_);try simp only[↓sU,sD,rE,↓reduceIte,rA]
  refine aJ ?_;simp only[↓sU,sD,rE,↓reduceIte,rA,p5,w0];exact⟨k - 1,by omega,rfl,hV.trans sVZ,Ae la sVZ.1,Ae lb sVZ.1,(sVZ.2 _ la).trans dV,(sVZ.2 _ lb).trans cV,i+1,by omega,by refine⟨?_,?_,?_⟩<;>simp only[↓sU,sD,rE,↓reduceIte,rA,p2,p3]⟩
 rintro o ⟨F,inr⟩ Z ⟨rfl,q0,hZ⟩;simp only at q0;subst q0;try simp only[↓sU,sD,rE,↓reduceIte,rA]
 refine bQ ?_;simp only[↓sU,sD,rE,↓reduceIte,rA];refine aS ?_;simp only[↓sU,sD,rE,↓reduceIte,rA];exact hZ
theorem eO{S S':St}{v:AV}{l:List Int}(h:bK .i64 S v l)(hn:S.nx≤S'.nx)(hh:∀c,bD v=some c→S'.h.get c=S.h.get c):bK .i64 S' v l:=ofG (aH.moveB (toG h) hn hh fun _ _ h=>h)
theorem fE{k:IntKind}{X:St}{v:AV}{l:List Int}{c:Nat}(h:bK k X v l)(hc:bD v=some c):c<X.nx:=by
 rcases h with⟨_,rfl | rfl⟩ | ⟨b,off,cap,o,cs,rfl,_,hb,_⟩
 ·cases hc
 ·cases hc
 ·cases hc;exact hb
theorem aKS{t:Nat}{x:cL}{F:Fr}{id:Nat}{k p f xa xw xp z0 z1 z2 z3 z4 z5:AV}(hx:x.val F= .agg [k,p,f,xa,xw,xp]):uL (.bslice t 6 1 [z0,z1,z2,z3,z4,z5] [(0,x)]) F id=some (.sl id 0 1 1 false,.cells [k,p,f,xa,xw,xp] false 0):=by
 show(aZ (eS (repeatL [z0,z1,z2,z3,z4,z5] 1) [(0 * 6,6,x.val F)]) fun cs=>some (AV.sl id 0 1 1 false,AB.cells cs false 0))=_;rw[hx];show(aZ (aZ (AV.cells (.agg [k,p,f,xa,xw,xp])) _) _)=_;rw[bB,aK];rfl
theorem aAU{k:Nat}{α:Type}{E:St→List AV→α→Prop}{S:St}{v:AV}{l:List α}(h:aH k E S v l):v.cells=some [v]:=by
 rcases h with⟨_,rfl | rfl⟩ | ⟨b,off,cap,o,cs,rfl,_⟩<;>rfl
end Go.Ev.Gl
