import Derived.Test.YtoojnpjgnnpllaaGl7
open Nat renaming reduceEqDiff -> rE, reduceAdd -> rA
set_option maxHeartbeats 0
set_option linter.unusedSimpArgs false
set_option linter.unusedVariables false
namespace Go.Ev.Gl
variable {fns:T dY}
def aQ7(S:St)(a b:AV)(l m:ba)(k:Nat)(A:bG)(X:St):Prop:=A.inr=false/\Same S X/\∃i,i+k=l.length/\l.take i=m.take i/\aD 0 A.F=a/\aD 1 A.F=b/\aD 5 A.F= .int .i64 (i:Int)
theorem aHl{S:St}{a b:AV}{l m:ba}(H:Has fns)(ha:bI .i64 S a l)(hb:bI .i64 S b m)(hl:l.length<=140737488355328):fZ fns (.fn 19 [] []) [a,b] S fun r S'=>r= .bool (decide (l=m))/\Same S S':=by
 refine cF H.f19 (by simp) ?_;refine am ?_;refine bO (am ?_);refine fC (dz ha.len hb.len @Ah ?_);by_cases hlm:l.length=m.length;rotate_left
 ·rw[Aa (show ¬l=m from fun e=>hlm (by rw[e]))];refine aN (by simp only[↓aF,aG,rE,↓reduceIte,rA,Ac (show(l.length:Int)≠(m.length:Int) by omega)]) ?_;refine bO (am ?_);refine aP (am ?_);exact dk _
 refine aM (by simp only[↓aF,aG,rE,↓reduceIte,rA,Aa (show ¬ (l.length:Int)≠(m.length:Int) by omega)]) (aI ?_);try refine am ?_
 refine aA (aX (Q:=fun o A' X=>(o= .normal/\aQ7 S a b l m 0 A' X)\/(o= .ret/\Same S X/\l≠m/\aD 4 A'.F= .bool false)) (aA (aJ ?_)) ?_)
 ·refine am ?_;refine aK (bH (aQ7 S a b l m) ?_ l.length _ _ ⟨rfl,dk _,0,ar,rfl,by refine⟨?_,?_,?_⟩<;>simp only[↓aF,aG,rE,↓reduceIte,rA]⟩);rintro k ⟨F,inr⟩ X ⟨q0,hX,i,hik,he,p0,p1,p5⟩;simp only at q0 p0 p1 p5;subst q0;refine fC (ed p0 p5 ha.len @Ah ?_);by_cases hlt:i<l.length
  ·refine aN (by simp only[↓aF,aG,rE,↓reduceIte,rA,Ac (show(i:Int)<(l.length:Int) by omega)]) (aI ?_);try refine am ?_
   have hltm:i<m.length:=by omega
   have ia:=(ha.same hX).cp hlt;have la:=(ha.same hX).ld hlt;have ib:=(hb.same hX).cp hltm;have lb:=(hb.same hX).ld hltm;have w1:=dh i
   refine aA (aK (aA (gD ?_)));refine ew p0 p1 p5 @aH ia ib la lb ?_;have el:l.getD i 0=l[i]:=by rw[Ad,Ab hlt];rfl
   have em:m.getD i 0=m[i]:=by rw[Ad,Ab hltm];rfl
   by_cases hx:l.getD i 0=m.getD i 0
   ·refine aM (by simp only[↓aF,aG,rE,↓reduceIte,rA,Aa (show ¬l.getD i 0≠m.getD i 0 from fun h=>h hx)]) (aI ?_);try refine am ?_
    refine aJ (dy p5 w1 ?_);refine⟨k - 1,ar,rfl,hX.trans (Same.nx _ _),i+1,ar,?_,by refine⟨?_,?_,?_⟩<;>simp only[↓aF,aG,rE,↓reduceIte,rA,p0,p1]⟩;rw[Bn,Bn,he,Ab hlt,Ab hltm,<-el,<-em,hx]
   ·refine aN (by simp only[↓aF,aG,rE,↓reduceIte,rA,Ac (show l.getD i 0≠m.getD i 0 from hx)]) ?_;refine bO (am ?_);refine aP (am ?_);exact .inr ⟨hX.trans (Same.nx _ _),fun e=>hx (by rw[e])⟩
  ·refine aM (by simp only[↓aF,aG,rE,↓reduceIte,rA,Aa (show ¬ (i:Int)<(l.length:Int) by omega)]) (bJ ?_);refine am ?_;have hk0:k=0:=by omega
   subst hk0;exact .inl ⟨rfl,hX,i,hik,he,by refine⟨?_,?_,?_⟩<;>simp only[↓aF,aG,rE,↓reduceIte,rA,p0,p1,p5]⟩
 rintro o ⟨F,inr⟩ X (⟨rfl,q0,hX,i,hik,he,p0,p1,p5⟩ | ⟨rfl,hX,hne,p4⟩);rotate_left
 ·simp only at p4;refine dx p4 ?_;rw[Aa hne];exact⟨rfl,hX⟩
 simp only at q0;subst q0;rw[Bb ar,Bb ar] at he;rw[Ac he];try refine am ?_
 refine bO (am ?_);refine aP (am ?_);exact hX
theorem aHf{S:St}{a b:AV}{l m:ba}(H:Has fns)(ha:bI .i64 S a l)(hb:bI .i64 S b m)(hl:l.length<=10000000):fZ fns (.fn 19 [] []) [a,b] S fun r S'=>r= .bool (decide (l=m))/\Same S S':=
 aHl H ha hb ar
def oH(S S':St)(v:AV)(l:ba):Prop:=∃b,v= .sl b 0 l.length l.length false/\S.nx<=b/\b<S'.nx/\S'.h.get b=some (.cells (aU l) false 0)
theorem oH.is{S S':St}{v:AV}{l:ba}(h:oH S S' v l):bI .i64 S' v l:=by
 obtain⟨b,rfl,h1,h2,h3⟩:=h;exact aDk h3 h2 rfl
theorem oH.same{S S' S'':St}{v:AV}{l:ba}(h:oH S S' v l)(hs:Same S' S''):oH S S'' v l:=by
 have⟨b,h0,h1,h2,h3⟩:=h;exact⟨b,h0,h1,Ae h2 hs.1,(hs.2 _ h2).trans h3⟩
theorem qJ(n:Nat):repeatL [AV.int .i64 0] n=aU (List.replicate n 0):=by rw[repeatL_one];simp [aU]
theorem aJZ{l m:ba}(hl:l.length=m.length)(h:∀j,j<m.length->l.getD j 0=m.getD j 0):l=m:=by
 refine Dp hl fun j j1 j2=>?_;have:=h j j2;rw[Ad,Ad,Ab j1,Ab j2] at this;exact this
def aJI(S:St)(rb n:Nat)(f:Nat->Int)(P:Fr->Nat->Prop)(k:Nat)(A:bG)(X:St):Prop:=A.inr=false/\Same S X/\rb<X.nx/\∃ (i:Nat) (l:ba),i+k=n/\l.length=n/\(∀j,j<i->l.getD j 0=f j)/\X.h.get rb=some (.cells (aU l) false 0)/\P A.F i
theorem vM{S:St}{n:Nat}(H:Has fns)(hn:n<=1000000):fZ fns (.fn 155 [] []) [.int .i64 (n:Int)] S fun r S'=>oH S S' r (List.replicate n (-1))/\Same S S':=by
 refine cF H.f155 (by simp) ?_;refine am ?_;refine bO (am ?_);refine bO (am ?_);refine fN (lN (n:=n) (by simp only[↓aF,aG,rE,↓reduceIte,rA,aH]) (by simp only[↓aF,aG,rE,↓reduceIte,rA,aH]) ax ax) ?_;intro S1 s1 n1 c1;rw[qJ] at c1;refine am ?_;refine aA (aX (Q:=fun o A' X=>o= .normal/\aJI S S.nx n (fun _=> -1) (fun F i=>aD 3 F= .sl S.nx 0 n n false/\aD 8 F= .int .i64 (n:Int)/\aD 9 F= .int .i64 (i:Int)) 0 A' X) (aA (aJ ?_)) ?_)
 ·have e0:jJ (.sl S.nx 0 n n false)=some (.int .i64 (n:Int)):=rfl;refine dx e0 ?_;refine aK (bH (aJI S S.nx n (fun _=> -1) (fun F i=>aD 3 F= .sl S.nx 0 n n false/\aD 8 F= .int .i64 (n:Int)/\aD 9 F= .int .i64 (i:Int))) ?_ n _ _ ⟨rfl,s1,ar,0,_,ar,Au ..,fun j hj=>ar,c1,by refine⟨?_,?_,?_⟩<;>simp only[↓aF,aG,rE,↓reduceIte,rA]⟩);rintro k ⟨F,inr⟩ X ⟨q0,hX,hb,i,l,hik,hl,hf,hc,p3,p8,p9⟩;simp only at q0 p3 p8 p9;subst q0;refine bO (dy p8 p9 ?_);by_cases hlt:i<n
  ·refine aA (aN (by simp only[↓aF,aG,rE,↓reduceIte,rA,Ac (show(i:Int)<(n:Int) by omega)]) (aI ?_));try refine am ?_
   have w1:=dh i
   have hia:=dR (b:=S.nx) (o:=false) hlt;refine aA (aK (aA (aJ ?_)));refine dx p9 ?_;refine aJ (dz p3 @aH hia ?_);rw[show Int.negSucc 0=(-1:Int) from rfl];refine fI (fun call=>by refine dy @dS @cR ?_;exact sM (S:=X) hc (by rw[hl];exact hlt)) ?_;refine am ?_;refine aJ (dy p9 w1 ?_);refine⟨k - 1,ar,rfl,hX.put (Ag _) _,hb,i+1,l.set i (-1),ar,by rw[Aq];exact hl,fun j hj=>?_,fk,by refine⟨?_,?_,?_⟩<;>simp only[↓aF,aG,rE,↓reduceIte,rA,p3,p8]⟩;rw[gJ (by rw[hl];exact hlt)];split
   ·rfl
   ·exact hf j ar
  ·refine aA (aM (by simp only[↓aF,aG,rE,↓reduceIte,rA,Aa (show ¬ (i:Int)<(n:Int) by omega)]) (bJ ?_));refine am ?_;have hk0:k=0:=by omega
   subst hk0;exact⟨rfl,hX,hb,i,l,hik,hl,hf,hc,by refine⟨?_,?_,?_⟩<;>simp only[↓aF,aG,rE,↓reduceIte,rA,p3,p8,p9]⟩
 rintro o ⟨F,inr⟩ X ⟨rfl,q0,hX,hb,i,l,hik,hl,hf,hc,p3,p8,p9⟩;simp only at q0 p3;subst q0;have el:l=List.replicate n (-1):=aJZ (by rw[hl,Au]) fun j hj=>by
  rw[Au] at hj;rw[hf j ar,Ad,Ch,if_pos hj];rfl
 subst el;try refine am ?_
 refine bO (dx p3 ?_);refine aP (am ?_);exact⟨⟨S.nx,by rw[Au],Ag _,hb,hc⟩,hX⟩
def xA(a:ba)(n:Nat):Prop:=∀x∈a,0<=x/\x<n
def mO:ba->Nat->Int->Int
 | [],_,_=> -1
 | x::l,s,c=>if x=c then(s:Int) else mO l (s+1) c
theorem sC{c:Int}:∀ {l:ba} {s:Nat},(mO l s c= -1/\c∉l)\/∃k,mO l s c=((s+k:Nat):Int)/\l[k]? =some c/\∀j,j<k->l[j]? ≠some c
 | [],s=>.inl ⟨rfl,by simp⟩
 | x::l,s=>by
  simp only[mO];by_cases h:x=c
  ·rw[if_pos h];exact .inr ⟨0,rfl,by rw[h];rfl,fun j hj=>ar⟩
  ·rw[if_neg h];rcases sC (c:=c) (l:=l) (s:=s+1) with⟨h1,h2⟩ | ⟨k,h1,h2,h3⟩
   ·exact .inl ⟨h1,by rw[Bs];rintro(e | e);exact h e.symm;exact h2 e⟩
   ·refine .inr ⟨k+1,by rw[h1];congr 1;omega,h2,fun j hj=>?_⟩;cases j with
    | zero=>simp only[List.getElem?_cons_zero,ne_eq,Ap];exact h
    | succ j=>rw[Eb];exact h3 j ar
def aR9(S:St)(nb:Nat)(c:Int)(l:ba)(k:Nat)(A:bG)(X:St):Prop:=A.inr=false/\Same S X/\∃i,i+k=l.length/\mO l 0 c=mO (l.drop i) i c/\aD 1 A.F= .int .i64 c/\aD 2 A.F= .ptr nb 0/\aD 5 A.F= .int .i64 (i:Int)
theorem aI2{S:St}{cs:bf}{x:dP}{c:Int}(H:Has fns)(hx:bX S cs x)(hl:x.next.length<=100000):fZ fns (.fn 120 [] []) [.agg cs,.int .i64 c] S fun r S'=>r= .int .i64 (mO x.next 0 c)/\Same S S':=by
 obtain⟨a,bb,cc,rfl,ha,_,_⟩:=hx;refine cF H.f120 (by simp) ?_;refine ae ?_;refine bO ?_;refine cI (by refine ae ?_;exact aY _) ?_;intro S1 s1 n1 c1;refine ae ?_;have lb:S.nx<S1.nx:=by omega
 refine aA (aX (Q:=fun o A' X=>(o= .normal/\aR9 S1 S.nx c x.next 0 A' X)\/(o= .ret/\Same S1 X/\aD 4 A'.F= .int .i64 (mO x.next 0 c))) (aA (aJ ?_)) ?_)
 ·refine am ?_;refine aK (bH (aR9 S1 S.nx c x.next) ?_ x.next.length _ _ ⟨rfl,dk _,0,ar,rfl,by refine⟨?_,?_,?_⟩<;>simp only[↓aF,aG,rE,↓reduceIte,rA]⟩);rintro k ⟨F,inr⟩ X ⟨q0,hX,i,hik,he,p1,p2,p5⟩;simp only at q0 p1 p2 p5;subst q0;have cX:X.h.get S.nx=some (.cells [.int .i64 x.kind,.int .i64 x.player,.int .i64 x.info,a,bb,cc] false 0):=by rw[hX.2 _ lb];exact c1
  have haX:=ha.same (s1.trans hX);refine fC (eu p2 p5 @aC @aB (dC cX) ha.len @Ah ?_);by_cases hlt:i<x.next.length
  ·refine aN (by simp only[↓aF,aG,rE,↓reduceIte,rA,Ac (show(i:Int)<(x.next.length:Int) by omega)]) (aI ?_);try refine am ?_
   have ia:=haX.cp hlt;have la:=haX.ld hlt;have el:x.next.getD i 0=x.next[i]:=by rw[Ad,Ab hlt];rfl
   have hdrop:x.next.drop i=x.next[i]::x.next.drop (i+1):=Bw hlt;have w1:=dh i
   rw[hdrop] at he;simp only[mO] at he;rw[el] at la;refine aA (aK (aA (aJ ?_)));simp only[↓aF,aG,rE,↓reduceIte,rA,p1,p2,p5,aC,aB,dC cX,aH,ia,la];by_cases hc:x.next[i]=c
   ·rw[if_pos hc] at he;refine aN (by simp only[↓aF,aG,rE,↓reduceIte,rA,Ac hc]) ?_;refine bO (dx p5 ?_);refine aP (am ?_);exact .inr ⟨hX,by rw[he]⟩
   ·rw[if_neg hc] at he;refine aM (by simp only[↓aF,aG,rE,↓reduceIte,rA,Aa hc]) (aI ?_);try refine am ?_
    refine aJ (dy p5 w1 ?_);exact⟨k - 1,ar,rfl,hX,i+1,ar,he,by refine⟨?_,?_,?_⟩<;>simp only[↓aF,aG,rE,↓reduceIte,rA,p1,p2]⟩
  ·refine aM (by simp only[↓aF,aG,rE,↓reduceIte,rA,Aa (show ¬ (i:Int)<(x.next.length:Int) by omega)]) (bJ ?_);refine am ?_;have hk0:k=0:=by omega
   subst hk0;exact .inl ⟨rfl,hX,i,hik,he,by refine⟨?_,?_,?_⟩<;>simp only[↓aF,aG,rE,↓reduceIte,rA,p1,p2,p5]⟩
 rintro o ⟨F,inr⟩ X (⟨rfl,q0,hX,i,hik,he,p1,p2,p5⟩ | ⟨rfl,hX,p4⟩);rotate_left
 ·simp only at p4;refine dx p4 ?_;exact s1.trans hX
 simp only at q0;subst q0;rw[Cn ar] at he;try refine am ?_
 refine bO (am ?_);refine aP (am ?_);exact⟨by rw[he];rfl,s1.trans hX⟩
def aPC(h:T AB)(K:Nat)(l:mR):Prop:=qI l.v (gM l.q l.F h)=true/\l.i<K/\Nat.testBit l.mask K=false
theorem aA5{h:T AB}{base K:Nat}{rest:List AO}{Q:DS->Prop}:∀ {pre:List AO} {i:Nat} {F:Fr} {S:St} {ls:List mR},S.h=h->i+pre.length=K->(∀o∈pre,Nat.testBit o.mask K=false)->(∀l∈ls,aPC h K l)->
  oL pre F h (fun F'=>∀ls',(∀l∈ls',aPC h K l)->zU fns rest K base ⟨F',S,[],[],ls'⟩ Q)->zU fns (pre++rest) i base ⟨F,S,[],[],ls⟩ Q
 | [],i,F,S,ls,h1,h2,_,h4,hr=>by
  simp only[Bq,Br] at h2;subst h2;exact hr ls h4
 | ⟨d,.q q,g,m⟩::l,i,F,S,ls,h1,h2,h3,h4,hr=>by
  simp only[oL] at hr;have h2':i+1+l.length=K:=by rw[Ax] at h2;omega
  have h3':∀o∈l,Nat.testBit o.mask K=false:=fun o ho=>h3 o (Bk _ ho);have hm:Nat.testBit m K=false:=h3 _ (Bv ..);have go:∀ (_:lL (gM q F h) fun v=>(dN q=true->cE v v=true)/\oL l (cM d F v) h (fun F'=>∀ls',(∀l∈ls',aPC h K l)->zU fns rest K base ⟨F',S,[],[],ls'⟩ Q)),zU fns (⟨d,.q q,none,m⟩::(l++rest)) i base ⟨F,S,[],[],ls⟩ Q:=by
   rintro⟨v,hv,hs,hr⟩;rw[lM];subst h1;refine⟨v,hv,aA5 rfl h2' h3' ?_ hr⟩;cases hq:dN q with
   | false=>exact h4
   | true=>
    rw[aR];intro l' hl';rcases Bs.1 hl' with rfl | hl'
    ·refine⟨?_,by show i<K;omega,hm⟩;show qI v (gM q F S.h)=true;rw[hv,jO];exact hs hq
    ·exact h4 _ hl'
  cases g with
  | none=>exact go (by rw[if_pos (show eS none F=true from rfl)] at hr;exact hr)
  | some g=>
   have⟨s,b⟩:=g;by_cases hw:eS (some (s,b)) F=true
   ·rw[if_pos hw] at hr;have⟨n,D',e1,e2⟩:=go hr;refine⟨n,D',?_,e2⟩;have:tW ⟨d,.q q,some (s,b),m⟩ i base (ev fns n).call ⟨F,S,[],[],ls⟩=tW ⟨d,.q q,none,m⟩ i base (ev fns n).call ⟨F,S,[],[],ls⟩:=by
     show bQ (eS (some (s,b)) F) _ _=bQ true _ _;rw[hw];rfl
    show bC (tW ⟨d,.q q,some (s,b),m⟩ i base (ev fns n).call ⟨F,S,[],[],ls⟩) _=_;rw[this];exact e1
   ·rw[if_neg hw] at hr;have⟨n,D',e1,e2⟩:=aA5 (i:=i+1) (F:=cM d F .undef) (ls:=ls) h1 h2' h3' h4 hr;refine⟨n,D',?_,e2⟩;have:tW ⟨d,.q q,some (s,b),m⟩ i base (ev fns n).call ⟨F,S,[],[],ls⟩=some ⟨cM d F .undef,S,[],[],ls⟩:=by
     show bQ (eS (some (s,b)) F) _ _=_;rw[show eS (some (s,b)) F=false by simpa using hw];rfl
    show bC (tW ⟨d,.q q,some (s,b),m⟩ i base (ev fns n).call ⟨F,S,[],[],ls⟩) _=_;rw[this];exact e1
 | ⟨d,.a a,g,m⟩::l,i,F,S,ls,h1,h2,h3,h4,hr=>by cases hr
 | ⟨d,.x a,g,m⟩::l,i,F,S,ls,h1,h2,h3,h4,hr=>by cases hr
theorem aOs{ops pre:List AO}{K m n:Nat}{x v:cO}{A:bG}{S:St}{Q:Out->bG->St->Prop}(he:ops=pre++ [⟨none,.x (.st n x v),none,m⟩])(hK:pre.length=K)(h3:∀o∈pre,Nat.testBit o.mask K=false)(hm:∀i,i<K->Nat.testBit m i=true)
  (h:oL pre A.F S.h fun F'=>∃S1,bC (v.val F').cells (fun cs=>sO (x.val F') n cs ⟨S.h,S.nx+(K+1)⟩)=some (.undef,S1)/\Q .normal ⟨F',A.inr⟩ S1):iM fns (.drw ops) A S Q:=by
 subst he;have hlen:(pre++ [(⟨none,.x (.st n x v),none,m⟩:AO)]).length=K+1:=by simp [hK]
 refine tI ?_;rw[hlen];refine aA5 (h:=S.h) (K:=K) (pre:=pre) (i:=0) rfl ar h3 (fun l hl=>by cases hl) ?_;have mono:∀ {P P':Fr->Prop},(∀F,P F->P' F)->∀ (l:List AO) (F:Fr),oL l F S.h P->oL l F S.h P':=fun {P P'} hP l=>by
  induction l with
  | nil=>intro F h;exact hP F h
  | cons o l ih=>
   intro F h;have⟨d,op,g,mm⟩:=o;cases op with
   | q q=>
    simp only[oL] at h ⊢;split at h
    ·rename_i hw;rw[if_pos hw];have⟨w,hw1,hw2,hw3⟩:=h;exact⟨w,hw1,hw2,ih _ hw3⟩
    ·rename_i hw;rw[if_neg hw];exact ih _ h
   | a a=>cases h
   | x a=>cases h
 refine mono ?_ pre A.F h;rintro F' ⟨S1,e1,hQ⟩ ls hls;refine jZ (v:=.undef) (S1:=S1) rfl (fun call=>by rw[dS];exact e1) ?_;rw[gG];refine⟨?_,?_⟩
 ·simp only[Bz,List.reverse_nil,Cg];refine oR fun l hl=>?_;have⟨h1,h2,h4⟩:=hls l hl;unfold eI;rw[h4,bB,h1,aR,hm _ h2,aR]
 ·exact hQ
def mF(T:List dM)(j:Nat):Option Int:=(T[j]?).map (·.1)
def CF(nx:Nat->ba)(a:Nat)(T:List dM):Prop:=∀j,j<T.length->∀c∈nx (a+j),((a+j:Nat):Int)<c/\c<((a+T.length:Nat):Int)/\mF T (c.toNat - a)=some ((a+j:Nat):Int)
def PF(nx:Nat->ba)(a:Nat)(T:List dM)(j:Nat):Prop:=∃q,q<j/\mF T j=some ((a+q:Nat):Int)/\((a+j:Nat):Int)∈nx (a+q)
def aKC(nx:Nat->ba)(a:Nat)(T:List dM):Prop:=∀j,j<T.length->(nx (a+j)).Pairwise (· < ·)
structure WF(nx:Nat->ba)(a:Nat)(p:Int)(T:List dM):Prop where
 pos:0<T.length
 root:mF T 0=some p
 cf:CF nx a T
 pf:∀j,0<j->j<T.length->PF nx a T j
 inc:aKC nx a T
structure KF(nx:Nat->ba)(r:Nat)(p:Int)(l:ba)(L:List dM):Prop where
 cf:CF nx r L
 kid:∀c∈l,((r:Nat):Int)<=c/\c<((r+L.length:Nat):Int)/\mF L (c.toNat - r)=some p
 pf:∀j,j<L.length->(mF L j=some p/\((r+j:Nat):Int)∈l)\/PF nx r L j
 inc:aKC nx r L
 up:l.Pairwise (· < ·)
theorem uZ{L1 L2:List dM}{j:Nat}(h:j<L1.length):mF (L1++L2) j=mF L1 j:=by unfold mF;rw[Bg h]
theorem tE{L1 L2:List dM}{j:Nat}(h:L1.length<=j):mF (L1++L2) j=mF L2 (j - L1.length):=by unfold mF;rw[Be h]
theorem CF.append{nx:Nat->ba}{r:Nat}{L1 L2:List dM}(h1:CF nx r L1)(h2:CF nx (r+L1.length) L2):CF nx r (L1++L2):=fun j hj c hc=>by
 rw[Ao] at hj ⊢;by_cases h:j<L1.length
 ·have⟨a,b,d⟩:=h1 j h c hc;exact⟨a,ar,by rw[uZ ar];exact d⟩
 ·have e:r+j=r+L1.length+(j - L1.length):=by omega
  rw[e] at hc;have⟨a,b,d⟩:=h2 (j - L1.length) ar c hc;refine⟨ar,ar,?_⟩;rw[tE ar,show c.toNat - r - L1.length=c.toNat - (r+L1.length) by omega,d,e]
theorem PF.left{nx:Nat->ba}{r j:Nat}{L1 L2:List dM}(h:PF nx r L1 j)(hj:j<L1.length):PF nx r (L1++L2) j:=by
 have⟨q,h1,h2,h3⟩:=h;exact⟨q,h1,by rw[uZ hj];exact h2,h3⟩
theorem PF.right{nx:Nat->ba}{r j:Nat}{L1 L2:List dM}(h:PF nx (r+L1.length) L2 (j - L1.length))(hj:L1.length<=j):PF nx r (L1++L2) j:=by
 have⟨q,h1,h2,h3⟩:=h;refine⟨L1.length+q,ar,?_,?_⟩
 ·rw[tE hj,h2,show r+L1.length+q=r+(L1.length+q) by omega]
 ·rw[show r+(L1.length+q)=r+L1.length+q by omega,show r+j=r+L1.length+(j - L1.length) by omega];exact h3
theorem aKC.append{nx:Nat->ba}{r:Nat}{L1 L2:List dM}(h1:aKC nx r L1)(h2:aKC nx (r+L1.length) L2):aKC nx r (L1++L2):=fun j hj=>by
 rw[Ao] at hj;by_cases h:j<L1.length
 ·exact h1 j h
 ·rw[show r+j=r+L1.length+(j - L1.length) by omega];exact h2 (j - L1.length) ar
theorem aC5{rec:Nat->Option (List dM)}{nx:Nat->ba}{p:Int}(hr:∀r L,rec r=some L->WF nx r p L):∀ {l:ba} {r:Nat} {L:List dM},jK rec l r=some L->KF nx r p l L
 | [],r,L,h=>by
  simp only[jK,Ap] at h;subst h;exact⟨fun j hj=>by simp at hj,fun c hc=>by simp at hc,fun j hj=>by simp at hj,fun j hj=>by simp at hj,.nil⟩
 | c::l,r,L,h=>by
  simp only[jK] at h;split at h
  ·rename_i hc;have⟨L1,h1,h2⟩:=Cz.1 h;obtain⟨L2,h3,rfl⟩:=Aw.1 h2;have w:=hr r L1 h1;have k:=aC5 hr h3;have hp:=w.pos;refine⟨w.cf.append k.cf,fun c' hc'=>?_,fun j hj=>?_,w.inc.append k.inc,?_⟩
   ·rw[Ao];rcases Bs.1 hc' with rfl | hc'
    ·rw[hc];refine⟨ar,ar,?_⟩;rw[show((r:Int)).toNat - r=0 by omega,uZ hp];exact w.root
    ·have⟨a,b,d⟩:=k.kid c' hc';refine⟨ar,ar,?_⟩;rw[tE ar,show c'.toNat - r - L1.length=c'.toNat - (r+L1.length) by omega];exact d
   ·rw[Ao] at hj;by_cases h:j<L1.length
    ·by_cases j0:j=0
     ·subst j0;exact .inl ⟨by rw[uZ h];exact w.root,by rw[Br,hc];exact Bv ..⟩
     ·exact .inr ((w.pf j ar h).left h)
    ·rcases k.pf (j - L1.length) ar with⟨h4,h5⟩ | h4
     ·exact .inl ⟨by rw[tE ar];exact h4,Bk _ (by rw[show r+j=r+L1.length+(j - L1.length) by omega];exact h5)⟩
     ·exact .inr (PF.right h4 ar)
   ·refine List.pairwise_cons.2 ⟨fun c' hc'=>?_,k.up⟩;have:=(k.kid c' hc').1;omega
  ·cases h
theorem rJ{N:Nat}{nx:Nat->ba}:∀ {f at_:Nat} {p d:Int} {T:List dM},fW N nx f at_ p d=some T->WF nx at_ p T
 | 0,at_,p,d,T,h=>by cases h
 | f+1,at_,p,d,T,h=>by
  simp only[fW] at h;split at h
  ·obtain⟨L,h1,rfl⟩:=Aw.1 h;have k:=aC5 (p:=(at_:Int)) (fun r L hr=>rJ hr) h1;have ps:∀j,mF ((p,d,((at_+L.length:Nat):Int))::L) (j+1)=mF L j:=fun j=>by unfold mF;rw[Eb]
   refine⟨by simp,rfl,fun j hj c hc=>?_,fun j j0 hj=>?_,fun j hj=>?_⟩
   ·rw[Ax] at hj ⊢;cases j with
    | zero=>
     rw[Br] at hc ⊢;have⟨a,b,e⟩:=k.kid c hc;refine⟨ar,ar,?_⟩;rw[show c.toNat - at_=(c.toNat - (at_+1))+1 by omega,ps];exact e
    | succ j=>
     rw[show at_+(j+1)=at_+1+j by omega] at hc ⊢;have⟨a,b,e⟩:=k.cf j ar c hc;refine⟨ar,ar,?_⟩;rw[show c.toNat - at_=(c.toNat - (at_+1))+1 by omega,ps];exact e
   ·rw[Ax] at hj;cases j with
    | zero=>omega
    | succ j=>
     rcases k.pf j ar with⟨a,b⟩ | ⟨q,a,b,e⟩
     ·exact⟨0,ar,by rw[ps,a];rfl,by rw[Br,show at_+(j+1)=at_+1+j by omega];exact b⟩
     ·refine⟨q+1,ar,?_,?_⟩
      ·rw[ps,b,show at_+1+q=at_+(q+1) by omega]
      ·rw[show at_+(q+1)=at_+1+q by omega,show at_+(j+1)=at_+1+j by omega];exact e
   ·rw[Ax] at hj;cases j with
    | zero=>exact k.up
    | succ j=>
     rw[show at_+(j+1)=at_+1+j by omega];exact k.inc j ar
  ·cases h
theorem aHJ{ops pre:List AO}{K m n:Nat}{x v:cO}{A:bG}{S:St}{Q:Out->bG->St->Prop}(he:ops=pre++ [⟨none,.x (.st n x v),none,m⟩])(hK:pre.length=K)(h3:(pre.all fun o=> !Nat.testBit o.mask K)=true)(hm:((List.range K).all fun i=>Nat.testBit m i)=true)
  (h:oL pre A.F S.h fun F'=>∃S1,bC (v.val F').cells (fun cs=>sO (x.val F') n cs ⟨S.h,S.nx+(K+1)⟩)=some (.undef,S1)/\Q .normal ⟨F',A.inr⟩ S1):iM fns (.drw ops) A S Q:=by
 refine aOs he hK (fun o ho=>?_) (fun i hi=>?_) h
 ·have:=Di.1 h3 o ho;simpa using this
 ·exact Di.1 hm i (Da.2 hi)
theorem aKn{W:Nat->Prop}{h0:T AB}{base i:Nat}{l:List AO}{F:Fr}{S:St}{ps:List iQ}{last:Option Nat}{Q:Fr->St->List iQ->Prop}{d:Option Nat}{t:Nat}{x:cO}{cs:bf}(hx:(x.val F).cells=some cs)
  (hr:fF fns W h0 base l (i+1) (cM d F (.ptr (base+i) 0)) S (⟨i,base+i,.cells cs false 0⟩::ps) last Q):aHO fns W h0 base (uW (.box t x) F (base+i)) d l i F S ps last Q:=by
 rw[aJK,hx,aL,mM];exact hr
theorem bI.cells{k:IntKind}{S:St}{v:AV}{l:ba}(h:bI k S v l):v.cells=some [v]:=by
 rcases h with⟨_,rfl | rfl⟩ | ⟨b,off,cap,o,cs,rfl,_⟩<;>rfl
def aCK:ba->Nat->ba->ba
 | [],_,r=>r
 | c::l,s,r=>aCK l (s+1) (r.set c.toNat (s:Int))
def aEv(g:aS):Nat->ba->ba
 | 0,r=>r
 | i+1,r=>aEv g i (aCK (eB g i) 0 r)
def lO(g:aS):ba:=aEv g g.bh.length (List.replicate g.bh.length 0)
structure jF(S:St)(wb plb szb:Nat)(pv nv iv:AV)(g:aS)(R Z:ba):Prop where
 w:wI S wb g.bo nv iv pv (.sl plb 0 g.bh.length g.bh.length false) (.sl szb 0 g.bh.length g.bh.length false)
 gp:S.h.get plb=some (.cells (aU R) false 0)
 gz:S.h.get szb=some (.cells (aU Z) false 0)
 lp:R.length=g.bh.length
 lz:Z.length=g.bh.length
 bp:plb<S.nx
 bz:szb<S.nx
theorem jF.setZ{X:St}{wb plb szb n:Nat}{pv nv iv:AV}{g:aS}{R Z Z':ba}(h:jF X wb plb szb pv nv iv g R Z)(n1:wb≠szb)(n2:plb≠szb)(hn:X.nx<=n)(hZ:Z'.length=g.bh.length):jF ⟨X.h.set szb (some (.cells (aU Z') false 0)),n⟩ wb plb szb pv nv iv g R Z':=
 ⟨⟨by simp only;rw[di,if_neg n1];exact h.w.1,Ae h.w.2 hn⟩,by simp only;rw[di,if_neg n2];exact h.gp,fk,h.lp,hZ,Ae h.bp hn,Ae h.bz hn⟩
theorem jF.setP{X:St}{wb plb szb n:Nat}{pv nv iv:AV}{g:aS}{R R' Z:ba}(h:jF X wb plb szb pv nv iv g R Z)(n1:wb≠plb)(n2:plb≠szb)(hn:X.nx<=n)(hR:R'.length=g.bh.length):jF ⟨X.h.set plb (some (.cells (aU R') false 0)),n⟩ wb plb szb pv nv iv g R' Z:=
 ⟨⟨by simp only;rw[di,if_neg n1];exact h.w.1,Ae h.w.2 hn⟩,fk,by simp only;rw[di,if_neg (Bt n2)];exact h.gz,hR,h.lz,Ae h.bp hn,Ae h.bz hn⟩
theorem sK.put{plb szb:Nat}{S X:St}{n b:Nat}{v:Option AB}(h:sK plb szb szb S X)(hb:b=plb\/b=szb)(hn:X.nx<=n):sK plb szb szb S ⟨X.h.set b v,n⟩:=⟨Al h.1 hn,fun c hc h1 h2 h3=>by
 simp only;rw[di,if_neg (by rcases hb with rfl | rfl<;>assumption)];exact h.2 c hc h1 h2 h3⟩
theorem aKM{P:Ev.T AB->Prop}{h:Ev.T AB}{b1 b2 b3:Nat}{c1 z:Option AB}(n1:b1≠b2)(n2:b1≠b3)(n3:b2≠b3)(H:∀h':Ev.T AB,h'.get b1=c1->h'.get b2=z->h'.get b3=z->(∀c,c≠b1->c≠b2->c≠b3->h'.get c=h.get c)->P h'):P (((h.set b1 c1).set b2 z).set b3 z):=by
 refine H _ ?_ ?_ ?_ fun c h1 h2 h3=>?_
 ·rw[di,if_neg n2,di,if_neg n1,di,if_pos rfl]
 ·rw[di,if_neg n3,di,if_pos rfl]
 ·rw[di,if_pos rfl]
 ·rw[di,if_neg h3,di,if_neg h2,di,if_neg h1]
theorem aJJ{hi:Int}:∀ {l:ba} {lo:Int},l.Pairwise (· < ·)->(∀c∈l,lo<=c/\c<hi)->l.length<=(hi - lo).toNat
 | [],lo,_,_=>by simp
 | c::l,lo,h,hb=>by
  have⟨h1,h2⟩:=List.pairwise_cons.1 h;have hc:=hb c (Bv ..);have:=aJJ (lo:=c+1) h2 fun c' hc'=>⟨by have:=h1 c' hc';omega,(hb c' (Bk _ hc')).2⟩;rw[Ax];omega
noncomputable def aOB:List AO:=[mt 47 7,
om 48 1 (.ch (.t 47)),
om 49 3 (.cw 5 (.t 48)),
om 50 7 (ld 49),
mt 51 4,
mt 52 8,
om 53 48 (.cp (.slice 1) (.t 51) (.t 52)),
om 54 112 (ld 53),
om 55 255 (.cp (.slice 1) (.t 50) (.t 54)),
om 56 511 (ld 55),
mt 57 7,
om 58 1024 (.ch (.t 57)),
om 59 3072 (.cw 5 (.t 58)),
om 60 7168 (ld 59),
mt 61 8,
om 62 31744 (.cp (.slice 1) (.t 60) (.t 61)),
om 63 64512 (ld 62),
om 64 131071 (bi .add (.t 56) (.t 63)),
om 65 262143 (.cp (.slice 1) (.t 50) (.t 54))]
def szS(T:List dM)(i:Nat)(Z:ba):ba:=if 0<i then(Z.set i (IntKind.i64.wrap (Z.getD i 0+1))).set ((T.map fun t:dM=>t.1).getD i 0).toNat (IntKind.i64.wrap ((Z.set i (IntKind.i64.wrap (Z.getD i 0+1))).getD ((T.map fun t:dM=>t.1).getD i 0).toNat 0+(Z.set i (IntKind.i64.wrap (Z.getD i 0+1))).getD i 0)) else Z.set i (IntKind.i64.wrap (Z.getD i 0+1))
def szG(T:List dM):Nat->ba->ba
 | 0,Z=>Z
 | i+1,Z=>szG T i (szS T i Z)
def szL(T:List dM)(n:Nat):ba:=szG T n (List.replicate n 0)
def aQH(Z0:St)(gb wb plb szb:Nat)(pv nv iv:AV)(g:aS)(T:List dM)(k:Nat)(A:bG)(X:St):Prop:=A.inr=false/\sK plb szb szb Z0 X/\∃R Z,jF X wb plb szb pv nv iv g R Z/\k<=g.bh.length/\aEv g k R=lO g/\szG T k Z=szL T g.bh.length/\aD 1 A.F= .ptr gb 0/\aD 4 A.F=pv/\aD 7 A.F= .ptr wb 0/\aD 8 A.F= .int .i64 ((k:Int) - 1)
def aRs(Z0:St)(gb wb plb szb:Nat)(pv nv iv a:AV)(g:aS)(i:Nat)(next Z:ba)(k:Nat)(A:bG)(X:St):Prop:=A.inr=false/\sK plb szb szb Z0 X/\∃j R,jF X wb plb szb pv nv iv g R Z/\j+k=next.length/\aEv g i (aCK (next.drop j) j R)=lO g/\aD 1 A.F= .ptr gb 0/\aD 4 A.F=pv/\aD 7 A.F= .ptr wb 0/\aD 8 A.F= .int .i64 (i:Int)/\aD 71 A.F=a/\aD 72 A.F= .int .i64 (next.length:Int)/\aD 73 A.F= .int .i64 (j:Int)
def aP8(S S':St)(p nv iv:AV)(g:aS):Prop:=∃ (wb plb szb:Nat) (pv:AV) (T:List dM) (Z:ba),p= .ptr wb 0/\S.nx<=wb/\iN g=some T/\T.length=g.bh.length/\bI .i64 S' pv (T.map (·.1))/\jF S' wb plb szb pv nv iv g (lO g) Z
def aOg(S S':St)(p nv iv:AV)(g:aS):Prop:=∃ (wb plb szb:Nat) (pv:AV) (T:List dM),p= .ptr wb 0/\S.nx<=wb/\iN g=some T/\T.length=g.bh.length/\bI .i64 S' pv (T.map (·.1))/\jF S' wb plb szb pv nv iv g (lO g) (szL T g.bh.length)
theorem aIA{S:St}{nv iv:AV}{g:aS}(H:Has fns)(hn:aE 6 bX S nv g.bh)(hi:aE 2 bP S iv g.bj)(hln:g.bh.length<=100000):
  fZ fns (.fn 68 [] []) [.agg [.int .i64 g.bo,nv,iv]] S fun r S'=>Same S S'/\∃p,r= .tup [p,.int .i64 (cT g)]/\(cT g=0->aOg S S' p nv iv g):=by
 refine cF H.f68 (by simp) ?_;refine ae ?_;refine bO ?_;refine cI (by refine ae ?_;exact aY _) ?_;intro S1 s1 n1 c1;refine ae ?_;refine bO (dm (eJ c1) ?_);refine bD (ae ?_);refine aW (aFZ H (aE.same (E:=bX) bL hn s1) (aE.same (E:=bP) bK hi s1) hln) ?_;rintro _ X ⟨pv,rfl,hX,hP⟩;refine dn @rN @sA ?_;refine fC (ae ?_);by_cases h0:cT g=0;rotate_left
 ·refine aN (by simp only[↓sU,sD,rE,↓reduceIte,rA,Ac (show cT g≠0 from h0)]) ?_;refine bO (ae ?_);refine aP (ae ?_);exact⟨s1.trans hX,_,rfl,fun h=>absurd h h0⟩
 refine aM (by simp only[↓sU,sD,rE,↓reduceIte,rA,Aa (show ¬cT g≠0 from fun h=>h h0)]) (aI ?_);try refine ae ?_
 have⟨T,hT,hTl,hpv⟩:=hP.2 h0;have hwf:=rJ (show fW g.bh.length (eB g) (g.bh.length+1) 0 (-1) 0=some T from hT);have sX:=s1.trans hX;have lgX:S.nx<X.nx:=by have:=hX.1;omega
 have cX:X.h.get S.nx=some (.cells [.int .i64 g.bo,nv,iv] false 0):=by rw[hX.2 _ ar];exact c1
 have sn:=aE.self hn;have si:=aE.self hi;have sg:=uK (dH .i64 g.bo) sn si;refine bO (dq @aC @aB (fR cX) hn.len ?_);refine aA (nS (fun _=>False) ?_);intro X1 x1 hx1 hm1;have hbd:∀ (F:Fr) (h:Ev.T AB) (x y:AV),aD 22 F= .agg [.int .i64 g.bo,nv,iv]->aD 23 F=pv->aD 25 F=x->aD 27 F=y->x.cells=some [x]->y.cells=some [y]->gM (.build [.int .i64 0,.bw,.bw,.bw,.bw,.bw] [(0,3,.t 22),(3,1,.t 23),(4,1,.t 25),(5,1,.t 27)]) F h=some (.agg [.int .i64 g.bo,nv,iv,pv,x,y]):=fun F h x y h1 h2 h3 h4 h5 h6=>by
  show(bC (eQ _ (eH F [(0,3,.t 22),(3,1,.t 23),(4,1,.t 25),(5,1,.t 27)])) fun cs=>some (AV.agg cs))=_;simp only[eH,show(cO.t 22).val F= .agg [.int .i64 g.bo,nv,iv] from h1,show(cO.t 23).val F=pv from h2,show(cO.t 25).val F=x from h3,show(cO.t 27).val F=y from h4,eQ,bI.cells hpv,h5,h6,aY,aL];rfl
 refine du @aC @aQ @aB (eJ cX) lgX @Ak sg ?_;refine pN (n:=g.bh.length) (by simp only[↓sU,sD,rE,↓reduceIte,rA,aH]) (by simp only[↓sU,sD,rE,↓reduceIte,rA,aH]) ax ax  ?_;refine ae ?_;refine pN (n:=g.bh.length) (by simp only[↓sU,sD,rE,↓reduceIte,rA,aH]) (by simp only[↓sU,sD,rE,↓reduceIte,rA,aH]) ax ax  ?_;have hbd':=fun(F:Fr) (h:Ev.T AB) h1 h2 h3 h4=>hbd F h (.sl (X.nx+3) 0 g.bh.length g.bh.length false) (.sl (X.nx+5) 0 g.bh.length g.bh.length false) h1 h2 h3 h4 rfl rfl;refine dn @iW hbd' ?_;refine aKn (cs:=[.int .i64 g.bo,nv,iv,pv,.sl (X.nx+3) 0 g.bh.length g.bh.length false,.sl (X.nx+5) 0 g.bh.length g.bh.length false]) (by refine ae ?_;exact aY _) ?_;refine ae ?_;rw[qJ,fD (show Nat.testBit (2 ^ 9 - 1) 7=true by decide),fD (show Nat.testBit (2 ^ 9 - 1) 5=true by decide),fD (show Nat.testBit (2 ^ 9 - 1) 3=true by decide),bF];refine aKM (P:=fun h'=>iM fns _ _ ⟨h',X1.nx⟩ _) ar ar ar ?_;intro Zh gw g5 g3 gr;have hm1:X1.nx=X.nx+9:=hm1;have sZ:Same S ⟨Zh,X1.nx⟩:=⟨by show S.nx<=X1.nx;have:=sX.1;omega,fun c hc=>by
  have:=sX.1;show Zh.get c=S.h.get c;rw[gr c ar ar ar,hx1];exact sX.2 c hc⟩
 have cZ:Zh.get S.nx=some (.cells [.int .i64 g.bo,nv,iv] false 0):=by
  rw[gr _ ar ar ar,hx1];exact cX
 have hB:jF ⟨Zh,X1.nx⟩ (X.nx+7) (X.nx+3) (X.nx+5) pv nv iv g (List.replicate g.bh.length 0) (List.replicate g.bh.length 0):=⟨⟨gw,by show X.nx+7<X1.nx;omega⟩,g3,g5,Au ..,Au ..,by show _<X1.nx;omega,by show _<X1.nx;omega⟩;have sXZ:Same X ⟨Zh,X1.nx⟩:=⟨by show X.nx<=X1.nx;omega,fun c hc=>by
  show Zh.get c=X.h.get c;rw[gr c ar ar ar,hx1]⟩
 have lwS:=sX.1;generalize hZ:(⟨Zh,X1.nx⟩:St)=Z0 at *;have cZ:Z0.h.get S.nx=some (.cells [.int .i64 g.bo,nv,iv] false 0):=by rw[<-hZ];exact cZ
 have lgZ:S.nx<Z0.nx:=Ae lgX sXZ.1;have n73:X.nx+7≠X.nx+3:=by omega
 have n75:X.nx+7≠X.nx+5:=by omega
 have n35:X.nx+3≠X.nx+5:=by omega
 have ng3:S.nx≠X.nx+3:=by omega
 have ng5:S.nx≠X.nx+5:=by omega
 have l3:S.nx<=X.nx+3:=by omega
 have l5:S.nx<=X.nx+5:=by omega
 have l7:S.nx<=X.nx+7:=by omega
 have lx3:X.nx<=X.nx+3:=by omega
 have lx5:X.nx<=X.nx+5:=by omega
 generalize hb7:X.nx+7=wb at *;generalize hb3:X.nx+3=plb at *;generalize hb5:X.nx+5=szb at *;have hcr:∀i,i<g.bh.length->∀c∈eB g i,(i:Int)<c/\c<(g.bh.length:Int):=fun i hi c hc=>by
  have:=hwf.cf i ar c (by rw[An];exact hc);omega
 have hpr:∀i,0<i->i<g.bh.length->∃q:Nat,q<i/\(T.map (·.1)).getD i 0=(q:Int):=fun i h1 h2=>by
  have⟨q,a,b,_⟩:=hwf.pf i h1 ar;refine⟨q,a,?_⟩;rw[Ad,Am];unfold mF at b;rw[b,An];rfl
 have hN:g.bh.length<=100000:=hln;have w0:IntKind.i64.wrap ((g.bh.length:Int) - 1)=(g.bh.length:Int) - 1:=wrap_i64 ar ar;refine aA (aX (Q:=fun o A' Y=>o= .normal/\aQH Z0 S.nx wb plb szb pv nv iv g T 0 A' Y) (aA (aJ ?_)) ?_)
 ·refine dx w0 ?_;refine aK (bH (aQH Z0 S.nx wb plb szb pv nv iv g T) ?_ g.bh.length _ _ ⟨rfl,sK.refl _ _ _ _,_,_,hB,Ag _,rfl,rfl,by refine⟨?_,?_,?_,?_⟩<;>simp only[↓aF,aG,rE,↓reduceIte,rA]⟩);rintro k ⟨F,inr⟩ Y ⟨q0,hY,R,Z,hB,hkN,hpl,hsz,p1,p4,p7,p8⟩;simp only at q0 p1 p4 p7 p8;subst q0;refine fC (dx p8 ?_);by_cases hk:0<k
  ·refine aN (by simp only[↓aF,aG,rE,↓reduceIte,rA,Ac (show(0:Int)<=(k:Int) - 1 by omega)]) (aI ?_);try refine am ?_
   obtain⟨i,rfl⟩:∃i,k=i+1:=⟨k - 1,ar⟩;have e1:(((i+1:Nat):Int)) - 1=(i:Int):=by omega
   rw[e1] at p8;have hlt:i<g.bh.length:=by omega
   have hia:=dR (b:=szb) (o:=false) hlt;have hltZ:i<Z.length:=by rw[hB.lz];exact hlt
   have hz0:=dI (p:=i) (x:=.int .i64 (Z.getD i 0)) hB.gz (by unfold aU;rw[Am,Ab hltZ,Ad,Ab hltZ];rfl);refine aA (aK (aA (aJ ?_)));simp only[↓aF,aG,rE,↓reduceIte,rA,p7,p8,bN,bM,aC,aB,dZ hB.w.1,aH,hia,hz0];refine fI (fun call=>by refine dy @dS @cR ?_;exact sM (S:=Y) hB.gz hltZ) ?_;refine am ?_;have hS:szS T i Z=if 0<i then(Z.set i (IntKind.i64.wrap (Z.getD i 0+1))).set ((T.map fun t:dM=>t.1).getD i 0).toNat (IntKind.i64.wrap ((Z.set i (IntKind.i64.wrap (Z.getD i 0+1))).getD ((T.map fun t:dM=>t.1).getD i 0).toNat 0+(Z.set i (IntKind.i64.wrap (Z.getD i 0+1))).getD i 0)) else Z.set i (IntKind.i64.wrap (Z.getD i 0+1)):=rfl;have hsz:szG T i (szS T i Z)=szL T g.bh.length:=hsz;generalize szS T i Z=ZS at hS hsz;have hB1:=hB.setZ (Z':=Z.set i (IntKind.i64.wrap (Z.getD i 0+1))) n75 n35 (Ag _) (by rw[Aq];exact hB.lz);have hY1:=hY.put (b:=szb) (v:=some (.cells (aU (Z.set i (IntKind.i64.wrap (Z.getD i 0+1)))) false 0)) (.inr rfl) (Ag Y.nx);generalize (⟨Y.h.set szb (some (.cells (aU (Z.set i (IntKind.i64.wrap (Z.getD i 0+1)))) false 0)),Y.nx⟩:St)=Y1 at *;generalize Z.set i (IntKind.i64.wrap (Z.getD i 0+1))=Z1 at *;clear hz0 hltZ hB hY;have sXY:Same X Y1:=hY1.same sXZ lx3 lx5 lx5;have hltZ:i<Z1.length:=by rw[hB1.lz];exact hlt
   have ldz:∀j,j<g.bh.length->dT (.ptr szb j) false 1 Y1.h=some (.int .i64 (Z1.getD j 0)):=fun j hj=>dI hB1.gz (by
    have hj':j<Z1.length:=by rw[hB1.lz];exact hj
    unfold aU;rw[Am,Ab hj',Ad,Ab hj'];rfl)
   refine aA (aX (Q:=fun o A' Y'=>o= .normal/\A'.inr=false/\sK plb szb szb Z0 Y'/\jF Y' wb plb szb pv nv iv g R ZS/\aD 1 A'.F= .ptr S.nx 0/\aD 4 A'.F=pv/\aD 7 A'.F= .ptr wb 0/\aD 8 A'.F= .int .i64 (i:Int)) (aA (aJ ?_)) ?_)
   ·refine dx p8 ?_;by_cases hi0:0<i
    ·refine aN (by simp only[↓aF,aG,rE,↓reduceIte,rA,Ac (show(0:Int)<(i:Int) by omega)]) ?_;have⟨q,hq,hqv⟩:=hpr i hi0 hlt;have hltP:i<(T.map (·.1)).length:=by rw[Aj];omega
     have iap:=(hpv.same sXY).cp hltP;have lap:=(hpv.same sXY).ld hltP;rw[hqv] at lap;have hiq:=dR (b:=szb) (N:=g.bh.length) (o:=false) (show q<g.bh.length by omega);have lq:=ldz q ar;have li:=ldz i hlt;rw[if_pos hi0,hqv,Az] at hS;subst hS;refine aHJ (pre:=aOB) (K:=19) (m:=524287) (n:=1) (x:=.t 65) (v:=.t 64) rfl rfl rfl rfl ?_;unfold aOB;simp only[↓aF,aG,rE,↓reduceIte,rA,p4,p7,p8,bN,cD,bM,aC,aQ,aB,dZ hB1.w.1,aH,iap,lap,hiq,lq,hia,li];simp only[cR,aL];exact⟨_,sM (S:=⟨Y1.h,Y1.nx+20⟩) hB1.gz (by rw[hB1.lz];omega),hY1.put (.inr rfl) (Ba _ _),hB1.setZ n75 n35 (Ba _ _) (by rw[Aq];exact hB1.lz),p1⟩
    ·refine aM (by simp only[↓aF,aG,rE,↓reduceIte,rA,Aa (show ¬ (0:Int)<(i:Int) by omega)]) (aI ?_);try refine am ?_
     rw[if_neg hi0] at hS;subst hS;exact⟨hY1,hB1,by refine⟨?_,?_,?_,?_⟩<;>simp only[↓aF,aG,rE,↓reduceIte,rA,p1,p4,p7,p8]⟩
   clear p1 p4 p7 p8 ldz hltZ hY1 hB1 sXY;rintro o ⟨F,inr⟩ Y2 ⟨rfl,q0,hY2,hB2,p1,p4,p7,p8⟩;simp only at q0 p1 p4 p7 p8;subst q0;try refine am ?_
   have sSY:Same S Y2:=hY2.same sZ l3 l5 l5;have cY:Y2.h.get S.nx=some (.cells [.int .i64 g.bo,nv,iv] false 0):=by rw[hY2.2 _ lgZ ng3 ng5 ng5];exact cZ
   obtain⟨x,hx⟩:∃x,g.bh[i]? =some x:=⟨_,Ab hlt⟩;have hnx:=aAA hx;obtain⟨e,b,q,hian,hb,he,⟨a,bb,cc,rfl,ha,_,_⟩,_,hlf⟩:=aE.at hn ay hx;have hl3:=hlf 3 a rfl;rw[<-iA sSY hb] at hl3;have hcx:=hcr i hlt;rw[hnx] at hcx;have hpl:aEv g i (aCK x.next 0 R)=lO g:=by rw[<-hnx];exact hpl
   have hxl:x.next.length<=100000:=by
    have hinc:=hwf.inc i ar;rw[An,hnx] at hinc;have:=aJJ (lo:=0) hinc fun c hc=>⟨by have:=(hcx c hc).1;omega,(hcx c hc).2⟩;omega
   refine bO ?_;simp only[↓aF,aG,rE,↓reduceIte,rA,p1,p8,aC,aB,fR cY,aH,hian,hl3,ha.len,Ah];refine aX (Q:=fun o A' Y'=>o= .normal/\aRs Z0 S.nx wb plb szb pv nv iv a g i x.next ZS 0 A' Y') ?_ ?_
   ·refine aK (bH (aRs Z0 S.nx wb plb szb pv nv iv a g i x.next ZS) ?_ x.next.length _ _ ⟨rfl,hY2,0,R,hB2,ar,hpl,by refine⟨?_,?_,?_,?_,?_,?_,?_⟩<;>simp only[↓aF,aG,rE,↓reduceIte,rA,p1,p4,p7,p8]⟩);clear p1 p4 p7 p8 hpl cY hian hb hl3 hlf hB2 hY2 sSY;rintro k ⟨F,inr⟩ W ⟨q0,hW,j,R,hB,hjk,hpl,p1,p4,p7,p8,p71,p72,p73⟩;simp only at q0 p1 p4 p7 p8 p71 p72 p73;subst q0;refine bO (dy p72 p73 ?_);by_cases hj:j<x.next.length
    ·refine aA (aN (by simp only[↓aF,aG,rE,↓reduceIte,rA,Ac (show(j:Int)<(x.next.length:Int) by omega)]) (aI ?_));try refine am ?_
     have sSW:Same S W:=hW.same sZ l3 l5 l5;have haW:=ha.same sSW;have iaj:=haW.cp hj;have laj:=haW.ld hj;have hdr:x.next.drop j=x.next[j]::x.next.drop (j+1):=Bw hj;have hgd:x.next.getD j 0=x.next[j]:=by rw[Ad,Ab hj];rfl
     rw[hgd] at laj;rw[hdr] at hpl;have⟨c0,c1'⟩:=hcx _ (Bo hj);generalize x.next[j]=c at *;obtain⟨m,rfl⟩:∃m:Nat,c=(m:Int):=⟨c.toNat,ar⟩;have hm:m<g.bh.length:=by omega
     have hiam:=dR (b:=plb) (o:=false) hm;have w1:=dh j
     refine aA (aK (aA (aJ ?_)));refine ef p71 p73 @aH iaj laj ?_;refine aJ (ew p7 @bN @bM @aC @aB (dF hB.w.1) @aH hiam ?_);refine fI (fun call=>by refine dy @dS @cR ?_;exact sM (S:=W) hB.gp (by rw[hB.lp];exact hm)) ?_;refine am ?_;refine aJ ?_;simp only[↓aF,aG,rE,↓reduceIte,rA,p73,w1];simp only[aCK,Az] at hpl;exact⟨k - 1,ar,rfl,hW.put (.inl rfl) (Ag _),j+1,R.set m (j:Int),hB.setP n73 n35 (Ag _) (by rw[Aq];exact hB.lp),ar,hpl,by refine⟨?_,?_,?_,?_,?_,?_,?_⟩<;>simp only[↓aF,aG,rE,↓reduceIte,rA,p1,p4,p7,p8,p71,p72]⟩
    ·refine aA (aM (by simp only[↓aF,aG,rE,↓reduceIte,rA,Aa (show ¬ (j:Int)<(x.next.length:Int) by omega)]) (bJ ?_));refine am ?_;have hk0:k=0:=by omega
     subst hk0;exact⟨rfl,hW,j,R,hB,hjk,hpl,by refine⟨?_,?_,?_,?_,?_,?_,?_⟩<;>simp only[↓aF,aG,rE,↓reduceIte,rA,p1,p4,p7,p8,p71,p72,p73]⟩
   clear p1 p4 p7 p8;rintro o ⟨F,inr⟩ W ⟨rfl,q0,hW,j,R3,hB3,hjk,hpl3,p1,p4,p7,p8,p71,p72,p73⟩;simp only at q0 p1 p4 p7 p8;subst q0;rw[Cn ar] at hpl3;have w2:IntKind.i64.wrap ((i:Int) - 1)=(i:Int) - 1:=wrap_i64 ar ar;try refine am ?_
   refine aJ (dy p8 w2 ?_);exact⟨i,ar,rfl,hW,R3,ZS,hB3,ar,hpl3,hsz,by refine⟨?_,?_,?_,?_⟩<;>simp only[↓aF,aG,rE,↓reduceIte,rA,p1,p4,p7]⟩
  ·refine aM (by simp only[↓aF,aG,rE,↓reduceIte,rA,Aa (show ¬ (0:Int)<=(k:Int) - 1 by omega)]) (bJ ?_);refine am ?_;have hk0:k=0:=by omega
   subst hk0;exact⟨rfl,hY,R,Z,hB,hkN,hpl,hsz,by refine⟨?_,?_,?_,?_⟩<;>simp only[↓aF,aG,rE,↓reduceIte,rA,p1,p4,p7,p8]⟩
 rintro o ⟨F,inr⟩ Y ⟨rfl,q0,hY,R,Z,hB,hkN,hpl,hsz,p1,p4,p7,p8⟩;simp only at q0 p7;subst q0;have hpl:R=lO g:=hpl;subst hpl;have hsz:Z=szL T g.bh.length:=hsz;subst hsz;try refine am ?_
 refine bO (dx p7 ?_);refine aP (am ?_);rw[h0];have sXY:Same X Y:=hY.same sXZ lx3 lx5 lx5;exact⟨sX.trans sXY,_,rfl,fun _=>⟨wb,plb,szb,pv,T,rfl,l7,hT,hTl,hpv.same sXY,hB⟩⟩
theorem aBX{S:St}{nv iv:AV}{g:aS}(H:Has fns)(hn:aE 6 bX S nv g.bh)(hi:aE 2 bP S iv g.bj)(hln:g.bh.length<=100000):
  fZ fns (.fn 68 [] []) [.agg [.int .i64 g.bo,nv,iv]] S fun r S'=>Same S S'/\∃p,r= .tup [p,.int .i64 (cT g)]/\(cT g=0->aP8 S S' p nv iv g):=by
 refine aW (aIA H hn hi hln) fun r S' h=>?_;have⟨h1,p,h2,h3⟩:=h;refine⟨h1,p,h2,fun h0=>?_⟩;have⟨wb,plb,szb,pv,T,a,b,c,d,e,f⟩:=h3 h0;exact⟨wb,plb,szb,pv,T,_,a,b,c,d,e,f⟩
def aCG(m:ba):Prop:=∃i k,k<i/\i<m.length/\m.getD i 0=m.getD k 0
open Classical in
noncomputable def jE(n:Nat)(m:ba)(ok:Prop):Int:=if m.length≠n then 10 else if ¬xA m n then 2 else if aCG m then 8 else if ok then 0 else 3
def CkR(S1:St)(gb:Nat)(mv:AV)(n:Nat)(m:ba)(k:Nat)(A:bG)(X:St):Prop:=A.inr=false/\Same S1 X/\∃i,i+k=n/\(∀j,j<i->0<=m.getD j 0/\m.getD j 0<n)/\aD 1 A.F=mv/\aD 2 A.F= .ptr gb 0/\aD 5 A.F= .int .i64 (n:Int)/\aD 6 A.F= .int .i64 (i:Int)
def CkD(S1:St)(gb:Nat)(mv:AV)(n:Nat)(m:ba)(k:Nat)(A:bG)(X:St):Prop:=A.inr=false/\Same S1 X/\∃i,i+k=n/\(∀j l,l<j->j<i->m.getD j 0≠m.getD l 0)/\aD 1 A.F=mv/\aD 2 A.F= .ptr gb 0/\aD 5 A.F= .int .i64 (n:Int)/\aD 7 A.F= .int .i64 (i:Int)
def CkE(S1:St)(gb:Nat)(mv:AV)(n i:Nat)(m:ba)(k:Nat)(A:bG)(X:St):Prop:=A.inr=false/\Same S1 X/\∃l,l+k=i/\(∀j,j<l->m.getD i 0≠m.getD j 0)/\aD 1 A.F=mv/\aD 2 A.F= .ptr gb 0/\aD 5 A.F= .int .i64 (n:Int)/\aD 7 A.F= .int .i64 (i:Int)/\aD 8 A.F= .int .i64 (l:Int)
theorem aCx{S:St}{nv iv mv:AV}{g:aS}{m:ba}{ok:Prop}(H:Has fns)(hn:aE 6 bX S nv g.bh)(hm:bI .i64 S mv m)(hln:g.bh.length<=100000)
  (himg:m.length=g.bh.length->xA m g.bh.length->¬aCG m->∀S',Same S S'->fZ fns (.fn 72 [] []) [.agg [.int .i64 g.bo,nv,iv],mv] S' fun r S''=>Same S' S''/\∃a b t,r= .tup [a,b,.bool t]/\(t=true↔ok)):
  fZ fns (.fn 73 [] []) [.agg [.int .i64 g.bo,nv,iv],mv] S fun r S'=>r= .int .i64 (jE g.bh.length m ok)/\Same S S':=by
 refine cF H.f73 (by simp) ?_;refine ae ?_;refine bO ?_;refine cI (by refine ae ?_;exact aY _) ?_;intro S1 s1 n1 c1;refine ae ?_;have lg1:S.nx<S1.nx:=by omega
 refine bO (dq @aC @aB (fR c1) hn.len ?_);refine fC (dn hm.len @Ah ?_);by_cases hlen:m.length=g.bh.length;rotate_left
 ·refine aN (by simp only[↓sU,sD,rE,↓reduceIte,rA,Ac (show(m.length:Int)≠(g.bh.length:Int) by omega)]) ?_;refine bO (ae ?_);refine aP ?_;simp only[↓sU,sD,rE,↓reduceIte,rA];unfold jE;rw[if_pos hlen];exact⟨rfl,s1⟩
 refine aM (by simp only[↓sU,sD,rE,↓reduceIte,rA,Aa (show ¬ (m.length:Int)≠(g.bh.length:Int) by omega)]) (aI ?_);try refine ae ?_
 unfold jE;rw[if_neg (fun h=>h hlen)];refine aA (aX (Q:=fun o A' X=>(o= .normal/\CkR S1 S.nx mv g.bh.length m 0 A' X)\/(o= .ret/\Same S1 X/\¬xA m g.bh.length/\aD 4 A'.F= .int .i64 2)) (aA (aJ ?_)) ?_)
 ·refine am ?_;refine aK (bH (CkR S1 S.nx mv g.bh.length m) ?_ g.bh.length _ _ ⟨rfl,dk _,0,ar,fun j hj=>ar,by refine⟨?_,?_,?_,?_⟩<;>simp only[↓aF,aG,rE,↓reduceIte,rA]⟩);rintro k ⟨F,inr⟩ X ⟨q0,hX,i,hik,hr,p1,p2,p5,p6⟩;simp only at q0 p1 p2 p5 p6;subst q0;refine fC (dy p5 p6 ?_);by_cases hlt:i<g.bh.length
  ·refine aN (by simp only[↓aF,aG,rE,↓reduceIte,rA,Ac (show(i:Int)<(g.bh.length:Int) by omega)]) (aI ?_);try refine am ?_
   have hmX:=hm.same (s1.trans hX);have ia:=hmX.cp (show i<m.length by omega);have la:=hmX.ld (show i<m.length by omega);have hmem:m.getD i 0∈m:=by rw[Ad,Ab (show i<m.length by omega)];exact Bo _
   have w1:=dh i
   refine aA (aK (aA (aX (Q:=fun o A' Y=>o= .normal/\A'.inr=false/\Y=X/\aD 1 A'.F=mv/\aD 2 A'.F= .ptr S.nx 0/\aD 5 A'.F= .int .i64 (g.bh.length:Int)/\aD 6 A'.F= .int .i64 (i:Int)/\aD 36 A'.F= .bool (decide (m.getD i 0<0\/(g.bh.length:Int)<=m.getD i 0))) (aJ ?_) ?_)))
   ·by_cases h1:m.getD i 0<0
    ·rw[Ac (show m.getD i 0<0\/(g.bh.length:Int)<=m.getD i 0 from .inl h1)];simp only[↓aF,aG,rE,↓reduceIte,rA,p1,p2,p5,p6,aH,ia,la,Ac h1]
    ·by_cases h2:(g.bh.length:Int)<=m.getD i 0
     ·rw[Ac (show m.getD i 0<0\/(g.bh.length:Int)<=m.getD i 0 from .inr h2)];simp only[↓aF,aG,rE,↓reduceIte,rA,p1,p2,p5,p6,aH,ia,la,Aa h1,Ac h2]
     ·rw[Aa (show ¬ (m.getD i 0<0\/(g.bh.length:Int)<=m.getD i 0) by omega)];simp only[↓aF,aG,rE,↓reduceIte,rA,p1,p2,p5,p6,aH,ia,la,Aa h1,Aa h2]
   clear p1 p2 p5 p6;rintro o ⟨F,inr⟩ Y ⟨rfl,q0,hYX,p1,p2,p5,p6,pb⟩;simp only at q0 p1 p2 p5 p6 pb;subst q0;rw[hYX];try refine am ?_
   by_cases hbad:m.getD i 0<0\/(g.bh.length:Int)<=m.getD i 0
   ·refine aN (by simp only[↓aF,aG,rE,↓reduceIte,rA,pb,Ac hbad]) ?_;refine bO (am ?_);refine aP (am ?_);exact .inr ⟨hX,fun h=>by have:=h _ hmem;omega⟩
   ·refine aM (by simp only[↓aF,aG,rE,↓reduceIte,rA,pb,Aa hbad]) (aI ?_);try refine am ?_
    refine aJ (dy p6 w1 ?_);refine⟨k - 1,ar,rfl,hX,i+1,ar,fun j hj=>?_,by refine⟨?_,?_,?_,?_⟩<;>simp only[↓aF,aG,rE,↓reduceIte,rA,p1,p2,p5]⟩;by_cases hji:j=i
    ·rw[hji];omega
    ·exact hr j ar
  ·refine aM (by simp only[↓aF,aG,rE,↓reduceIte,rA,Aa (show ¬ (i:Int)<(g.bh.length:Int) by omega)]) (bJ ?_);refine am ?_;have hk0:k=0:=by omega
   subst hk0;exact .inl ⟨rfl,hX,i,hik,hr,by refine⟨?_,?_,?_,?_⟩<;>simp only[↓aF,aG,rE,↓reduceIte,rA,p1,p2,p5,p6]⟩
 rintro o ⟨F,inr⟩ X (⟨rfl,q0,hX,i,hik,hr,p1,p2,p5,p6⟩ | ⟨rfl,hX,hno,p4⟩);rotate_left
 ·simp only at p4;refine dx p4 ?_;rw[if_pos hno];exact⟨rfl,s1.trans hX⟩
 simp only at q0 p1 p2 p5;subst q0;have hin:xA m g.bh.length:=fun x hx=>by
  obtain⟨j,hj,rfl⟩:=Ey.1 hx;have:=hr j ar;rw[Ad,Ab hj] at this;exact this
 rw[if_neg (fun h=>h hin)];clear p6 hik hr i;try refine am ?_
 refine aA (aX (Q:=fun o A' Y=>(o= .normal/\CkD X S.nx mv g.bh.length m 0 A' Y)\/(o= .ret/\Same X Y/\aCG m/\aD 4 A'.F= .int .i64 8)) (aA (aJ ?_)) ?_)
 ·refine am ?_;refine aK (bH (CkD X S.nx mv g.bh.length m) ?_ g.bh.length _ _ ⟨rfl,dk _,0,ar,fun j l _ hj=>ar,by refine⟨?_,?_,?_,?_⟩<;>simp only[↓aF,aG,rE,↓reduceIte,rA,p1,p2,p5]⟩);clear p1 p2 p5;rintro k ⟨F,inr⟩ Y ⟨q0,hY,i,hik,hr,p1,p2,p5,p7⟩;simp only at q0 p1 p2 p5 p7;subst q0;refine fC (dy p5 p7 ?_);by_cases hlt:i<g.bh.length
  ·refine aN (by simp only[↓aF,aG,rE,↓reduceIte,rA,Ac (show(i:Int)<(g.bh.length:Int) by omega)]) (aI ?_);try refine am ?_
   have w1:=dh i
   refine aA (aK (aA (aJ ?_)));refine am ?_;refine aX (Q:=fun o A' W=>(o= .normal/\CkE Y S.nx mv g.bh.length i m 0 A' W)\/(o= .ret/\Same Y W/\aCG m/\aD 4 A'.F= .int .i64 8)) (aK (bH (CkE Y S.nx mv g.bh.length i m) ?_ i _ _ ⟨rfl,dk _,0,ar,fun j hj=>ar,by refine⟨?_,?_,?_,?_,?_⟩<;>simp only[↓aF,aG,rE,↓reduceIte,rA,p1,p2,p5,p7]⟩)) ?_
   ·clear p1 p2 p5 p7;rintro k ⟨F,inr⟩ W ⟨q0,hW,l,hlk,hd,p1,p2,p5,p7,p8⟩;simp only at q0 p1 p2 p5 p7 p8;subst q0;refine fC (dy p7 p8 ?_);by_cases hl:l<i
    ·refine aN (by simp only[↓aF,aG,rE,↓reduceIte,rA,Ac (show(l:Int)<(i:Int) by omega)]) (aI ?_);try refine am ?_
     have hmW:=hm.same (s1.trans (hX.trans (hY.trans hW)));have ia:=hmW.cp (show i<m.length by omega);have la:=hmW.ld (show i<m.length by omega);have ib:=hmW.cp (show l<m.length by omega);have lb:=hmW.ld (show l<m.length by omega);have w2:=dh l
     refine aA (aK (aA (gD ?_)));refine ew p1 p7 p8 @aH ia la ib lb ?_;by_cases he:m.getD i 0=m.getD l 0
     ·refine aN (by simp only[↓aF,aG,rE,↓reduceIte,rA,Ac he]) ?_;refine bO (am ?_);refine aP (am ?_);exact .inr ⟨hW.trans (Same.nx _ _),i,l,hl,ar,he⟩
     ·refine aM (by simp only[↓aF,aG,rE,↓reduceIte,rA,Aa he]) (aI ?_);try refine am ?_
      refine aJ (dy p8 w2 ?_);refine⟨k - 1,ar,rfl,hW.trans (Same.nx _ _),l+1,ar,fun j hj=>?_,by refine⟨?_,?_,?_,?_,?_⟩<;>simp only[↓aF,aG,rE,↓reduceIte,rA,p1,p2,p5,p7]⟩;by_cases hjl:j=l
      ·rw[hjl];exact he
      ·exact hd j ar
    ·refine aM (by simp only[↓aF,aG,rE,↓reduceIte,rA,Aa (show ¬ (l:Int)<(i:Int) by omega)]) (bJ ?_);refine am ?_;have hk0:k=0:=by omega
     subst hk0;exact .inl ⟨rfl,hW,l,hlk,hd,by refine⟨?_,?_,?_,?_,?_⟩<;>simp only[↓aF,aG,rE,↓reduceIte,rA,p1,p2,p5,p7,p8]⟩
   clear p1 p2 p5 p7;rintro o ⟨F,inr⟩ W (⟨rfl,q0,hW,l,hlk,hd,p1,p2,p5,p7,p8⟩ | ⟨rfl,hW,hdup,p4⟩)
   ·simp only at q0 p1 p2 p5 p7;subst q0;try refine am ?_
    refine aJ (dy p7 w1 ?_);refine⟨k - 1,ar,rfl,hY.trans hW,i+1,ar,fun j l' hl' hj=>?_,by refine⟨?_,?_,?_,?_⟩<;>simp only[↓aF,aG,rE,↓reduceIte,rA,p1,p2,p5]⟩;by_cases hji:j=i
    ·rw[hji];exact hd l' ar
    ·exact hr j l' hl' ar
   ·simp only at p4;refine am ?_;exact .inr ⟨hY.trans hW,hdup,p4⟩
  ·refine aM (by simp only[↓aF,aG,rE,↓reduceIte,rA,Aa (show ¬ (i:Int)<(g.bh.length:Int) by omega)]) (bJ ?_);refine am ?_;have hk0:k=0:=by omega
   subst hk0;exact .inl ⟨rfl,hY,i,hik,hr,by refine⟨?_,?_,?_,?_⟩<;>simp only[↓aF,aG,rE,↓reduceIte,rA,p1,p2,p5,p7]⟩
 clear p1 p2 p5;rintro o ⟨F,inr⟩ Y (⟨rfl,q0,hY,i,hik,hr,p1,p2,p5,p7⟩ | ⟨rfl,hY,hdup,p4⟩);rotate_left
 ·simp only at p4;refine dx p4 ?_;rw[if_pos hdup];exact⟨rfl,s1.trans (hX.trans hY)⟩
 simp only at q0 p1 p2;subst q0;have hnd:¬aCG m:=fun⟨i',k',h1,h2,h3⟩=>hr i' k' h1 ar h3;rw[if_neg hnd];have sY:=s1.trans (hX.trans hY);have cY:Y.h.get S.nx=some (.cells [.int .i64 g.bo,nv,iv] false 0):=by rw[(hX.trans hY).2 _ lg1];exact c1
 try refine am ?_
 refine fC (dz p1 p2 (eJ cY) ?_);refine bD (am ?_);refine aW (himg hlen hin hnd Y sY) ?_;rintro _ Z ⟨hZ,a,b,t,rfl,ht⟩;have ex2:kC (.tup [a,b,.bool t]) 2=some (.bool t):=rfl;refine dz @rN @sA @ex2 ?_;refine bO (dx @eM ?_);cases t with
 | false=>
  rw[if_neg (fun h=>by have:=ht.2 h;cases this)];refine aN (by simp only[↓aF,aG,rE,↓reduceIte,rA];rfl) ?_;refine bO (am ?_);refine aP (am ?_);exact sY.trans hZ
 | true=>
  rw[if_pos (ht.1 rfl)];refine aM (by simp only[↓aF,aG,rE,↓reduceIte,rA];rfl) (aI ?_);try refine am ?_
  refine bO (am ?_);refine aP (am ?_);exact sY.trans hZ
def aQG(S1:St)(mv:AV)(w e:Nat)(n:Nat)(m:ba)(k:Nat)(A:bG)(X:St):Prop:=A.inr=false/\Same S1 X/\∃i,i+k=m.length/\(∀j,j<i->0<=m.getD j 0/\m.getD j 0<n)/\aD 0 A.F= .ptr w 0/\aD 1 A.F=mv/\aD 4 A.F= .ptr e 0/\aD 6 A.F= .int .i64 (n:Int)/\aD 25 A.F=mv/\aD 26 A.F= .int .i64 (m.length:Int)/\aD 27 A.F= .int .i64 (i:Int)
def aRZ(X1:St)(mv:AV)(w e sb n:Nat)(m:ba)(k:Nat)(A:bG)(X:St):Prop:=A.inr=false/\bT sb X1 X/\sb<X.nx/\∃i cs,i+k=m.length/\X.h.get sb=some (.cells cs false 0)/\cs.length=n/\(∀v,v<n->cs[v]? =some (.bool (decide (∃j,j<i/\m.getD j 0=(v:Int)))))/\(∀j l,l<j->j<i->m.getD j 0≠m.getD l 0)/\aD 0 A.F= .ptr w 0/\aD 1 A.F=mv/\aD 4 A.F= .ptr e 0/\aD 9 A.F= .sl sb 0 n n false/\aD 42 A.F=mv/\aD 43 A.F= .int .i64 (m.length:Int)/\aD 44 A.F= .int .i64 (i:Int)
theorem zP{S:St}{wb:Nat}{nv iv pv plv szv mv:AV}{g:aS}{m:ba}{ok:Prop}{P:St->St->AV->AV->Prop}(H:Has fns)(hP:∀ {S0 S1 S2:St} {x y:AV},P S0 S1 x y->S1.nx<=S2.nx->(∀c,S0.nx<=c->c<S1.nx->S2.h.get c=S1.h.get c)->P S0 S2 x y)(hW:wI S wb g.bo nv iv pv plv szv)(hn:aE 6 bX S nv g.bh)(hm:bI .i64 S mv m)(hln:g.bh.length<=100000)
  (himg:m.length=g.bh.length->xA m g.bh.length->¬aCG m->∀S',Same S S'->fZ fns (.fn 116 [] []) [.ptr wb 0,mv] S' fun r S''=>Same S' S''/\∃x y t,r= .tup [.agg [x,y],.bool t]/\(t=true↔ok)/\(t=true->P S' S'' x y)):
  fZ fns (.fn 69 [] []) [.ptr wb 0,mv] S fun r S'=>Same S S'/\∃x y,r= .tup [.agg [x,y],.int .i64 (jE g.bh.length m ok)]/\(jE g.bh.length m ok=0->∃S0,S.nx<=S0.nx/\P S0 S' x y)/\(jE g.bh.length m ok≠0->x= .bw/\y= .bw):=by
 have hb0:∀ (F:Fr) (h:Ev.T AB),gM (.build [.bw,.bw] []) F h=some (.agg [.bw,.bw]):=fun _ _=>rfl;refine cF H.f69 (by simp) ?_;refine am ?_;refine bO ?_;refine cA ?_;intro S1 s1 n1 c1;refine am ?_;have lw:=hW.2;have hW1:=hW.same s1;have le:S.nx<S1.nx:=by omega
 refine bO (ej @bN @bM @aC @aB (dK hW1.1) hn.len ?_);refine fC (dy hm.len @Ah ?_);by_cases hlen:m.length=g.bh.length;rotate_left
 ·have hE:jE g.bh.length m ok=10:=by unfold jE;rw[if_pos hlen]
  rw[hE];refine aN (by simp only[↓aF,aG,rE,↓reduceIte,rA,Ac (show(m.length:Int)≠(g.bh.length:Int) by omega)]) ?_;refine bO (dx hb0 ?_);refine cQ (b:=S.nx) (ap) (by refine am ?_;exact aY _) c1 rfl rfl ?_;intro S2 s2 n2 c2;refine am ?_;have ld2:=jM (n:=2) c2 rfl;refine aP (dy @dJ ld2 ?_);exact⟨s2.same s1 (Ag _),_,_,rfl,fun h=>absurd h ay,fun _=>⟨rfl,rfl⟩⟩
 refine aM (by simp only[↓aF,aG,rE,↓reduceIte,rA,Aa (show ¬ (m.length:Int)≠(g.bh.length:Int) by omega)]) (aI ?_);try refine am ?_
 refine aA (aX (Q:=fun o A' X=>(o= .normal/\aQG S1 mv wb S.nx g.bh.length m 0 A' X)\/(o= .ret/\bT S.nx S1 X/\X.h.get S.nx=some (.cells [.bw,.bw] false 0)/\¬xA m g.bh.length/\aD 4 A'.F= .ptr S.nx 0/\aD 5 A'.F= .int .i64 2)) (aA (aJ ?_)) ?_)
 ·refine dy hm.len @Ah ?_;refine aK (bH (aQG S1 mv wb S.nx g.bh.length m) ?_ m.length _ _ ⟨rfl,dk _,0,ar,fun j hj=>ar,by refine⟨?_,?_,?_,?_,?_,?_,?_⟩<;>simp only[↓aF,aG,rE,↓reduceIte,rA]⟩);rintro k ⟨F,inr⟩ X ⟨q0,hX,i,hik,hr,p0,p1,p4,p6,p25,p26,p27⟩;simp only at q0 p0 p1 p4 p6 p25 p26 p27;subst q0;refine bO (dy p26 p27 ?_);by_cases hlt:i<m.length
  ·refine aA (aN (by simp only[↓aF,aG,rE,↓reduceIte,rA,Ac (show(i:Int)<(m.length:Int) by omega)]) (aI ?_));try refine am ?_
   have hmX:=hm.same (s1.trans hX);have ia:=hmX.cp hlt;have la:=hmX.ld hlt;have hmem:m.getD i 0∈m:=by rw[Ad,Ab hlt];exact Bo _
   have cX:X.h.get S.nx=some (.cells [.bw,.bw] false 0):=by rw[hX.2 _ le];exact c1
   have w1:=dh i
   refine aA (aK (aA (aJ ?_)));refine ef p25 p27 @aH ia la ?_;refine aA (aX (Q:=fun o A' Y=>o= .normal/\A'.inr=false/\Y=X/\aD 0 A'.F= .ptr wb 0/\aD 1 A'.F=mv/\aD 4 A'.F= .ptr S.nx 0/\aD 6 A'.F= .int .i64 (g.bh.length:Int)/\aD 25 A'.F=mv/\aD 26 A'.F= .int .i64 (m.length:Int)/\aD 27 A'.F= .int .i64 (i:Int)/\aD 37 A'.F= .bool (decide (m.getD i 0<0\/(g.bh.length:Int)<=m.getD i 0))) (aJ ?_) ?_)
   ·by_cases h1:m.getD i 0<0
    ·rw[Ac (show m.getD i 0<0\/(g.bh.length:Int)<=m.getD i 0 from .inl h1)];simp only[↓aF,aG,rE,↓reduceIte,rA,p0,p1,p4,p6,p25,p26,p27,Ac h1]
    ·by_cases h2:(g.bh.length:Int)<=m.getD i 0
     ·rw[Ac (show m.getD i 0<0\/(g.bh.length:Int)<=m.getD i 0 from .inr h2)];simp only[↓aF,aG,rE,↓reduceIte,rA,p0,p1,p4,p6,p25,p26,p27,Aa h1,Ac h2]
     ·rw[Aa (show ¬ (m.getD i 0<0\/(g.bh.length:Int)<=m.getD i 0) by omega)];simp only[↓aF,aG,rE,↓reduceIte,rA,p0,p1,p4,p6,p25,p26,p27,Aa h1,Aa h2]
   clear p0 p1 p4 p6 p25 p26 p27;rintro o ⟨F,inr⟩ Y ⟨rfl,q0,hYX,p0,p1,p4,p6,p25,p26,p27,pb⟩;simp only at q0 p0 p1 p4 p6 p25 p26 p27 pb;subst q0;rw[hYX];try refine am ?_
   by_cases hbad:m.getD i 0<0\/(g.bh.length:Int)<=m.getD i 0
   ·refine aN (by simp only[↓aF,aG,rE,↓reduceIte,rA,pb,Ac hbad]) ?_;refine bO (dx hb0 ?_);refine cQ (b:=S.nx) (aq p4) (by refine am ?_;exact aY _) cX rfl rfl ?_;intro X2 x2 m2 d2;refine am ?_;refine aP (dx p4 ?_);exact .inr ⟨⟨Al hX.1 x2.1,fun c hc hne=>by rw[x2.2 _ (Ae hc hX.1) hne,hX.2 _ hc]⟩,d2,fun h=>by have:=h _ hmem;omega⟩
   ·refine aM (by simp only[↓aF,aG,rE,↓reduceIte,rA,pb,Aa hbad]) (aI ?_);try refine am ?_
    refine aJ (dy p27 w1 ?_);refine⟨k - 1,ar,rfl,hX,i+1,ar,fun j hj=>?_,by refine⟨?_,?_,?_,?_,?_,?_,?_⟩<;>simp only[↓aF,aG,rE,↓reduceIte,rA,p0,p1,p4,p6,p25,p26]⟩;by_cases hji:j=i
    ·rw[hji];omega
    ·exact hr j ar
  ·refine aA (aM (by simp only[↓aF,aG,rE,↓reduceIte,rA,Aa (show ¬ (i:Int)<(m.length:Int) by omega)]) (bJ ?_));refine am ?_;have hk0:k=0:=by omega
   subst hk0;exact .inl ⟨rfl,hX,i,hik,hr,by refine⟨?_,?_,?_,?_,?_,?_,?_⟩<;>simp only[↓aF,aG,rE,↓reduceIte,rA,p0,p1,p4,p6,p25,p26,p27]⟩
 rintro o ⟨F,inr⟩ X (⟨rfl,q0,hX,i,hik,hr,p0,p1,p4,p6,p25,p26,p27⟩ | ⟨rfl,hX,cX,hno,p4,p5⟩);rotate_left
 ·have hE:jE g.bh.length m ok=2:=by unfold jE;rw[if_neg (fun h=>h hlen),if_pos hno]
  rw[hE];simp only at p4 p5;have ld2:=jM (n:=2) cX rfl;refine ed @dJ p4 p5 ld2 ?_;exact⟨⟨Al s1.1 hX.1,fun c hc=>by rw[hX.2 _ (Ae hc s1.1) ar,s1.2 _ hc]⟩,_,_,rfl,fun h=>absurd h ay,fun _=>⟨rfl,rfl⟩⟩
 simp only at q0 p0 p1 p4 p6;subst q0;have hin:xA m g.bh.length:=fun x hx=>by
  obtain⟨j,hj,rfl⟩:=Ey.1 hx;have:=hr j ar;rw[Ad,Ab hj] at this;exact this
 clear p25 p26 p27 hik hr i;have sX:=s1.trans hX;have leX:S.nx<X.nx:=Ae le hX.1;have cX:X.h.get S.nx=some (.cells [.bw,.bw] false 0):=by rw[hX.2 _ le];exact c1
 try refine am ?_
 refine bO (dx p6 ?_);refine fN (lN (n:=g.bh.length) (by simp only[↓aF,aG,rE,↓reduceIte,rA,aH]) (by simp only[↓aF,aG,rE,↓reduceIte,rA,aH]) ax ax) ?_;intro X1 x1 m1 d1;rw[repeatL_one] at d1;refine am ?_;have sX1:=sX.trans x1;refine aA (aX (Q:=fun o A' Y=>(o= .normal/\aRZ X1 mv wb S.nx X.nx g.bh.length m 0 A' Y)\/(o= .ret/\Same S Y/\Y.h.get S.nx=some (.cells [.bw,.bw] false 0)/\aCG m/\aD 4 A'.F= .ptr S.nx 0/\aD 5 A'.F= .int .i64 8)) (aA (aJ ?_)) ?_)
 ·refine dz p1 hm.len @Ah ?_;refine aK (bH (aRZ X1 mv wb S.nx X.nx g.bh.length m) ?_ m.length _ _ ⟨rfl,bT.refl _ _,ar,0,_,ar,d1,Au ..,fun v hv=>?_,fun j l _ hj=>ar,by refine⟨?_,?_,?_,?_,?_,?_,?_⟩<;>simp only[↓aF,aG,rE,↓reduceIte,rA,p0,p1,p4]⟩);rotate_left
  ·rw[Ch,if_pos hv,Aa (fun⟨j,hj,_⟩=>ar)]
  clear p0 p1 p4 p6;rintro k ⟨F,inr⟩ Y ⟨q0,hY,hsb,i,cs,hik,hg,hcs,hse,hnd,p0,p1,p4,p9,p42,p43,p44⟩;simp only at q0 p0 p1 p4 p9 p42 p43 p44;subst q0;refine bO (dy p43 p44 ?_);by_cases hlt:i<m.length
  ·refine aA (aN (by simp only[↓aF,aG,rE,↓reduceIte,rA,Ac (show(i:Int)<(m.length:Int) by omega)]) (aI ?_));try refine am ?_
   have lX1:X.nx<X1.nx:=by omega
   have sY:Same S Y:=⟨Al sX1.1 hY.1,fun c hc=>by rw[hY.2 _ (Ae hc sX1.1) ar];exact sX1.2 _ hc⟩;have cY:Y.h.get S.nx=some (.cells [.bw,.bw] false 0):=by rw[hY.2 _ ar ar,x1.2 _ leX];exact cX
   have hmY:=hm.same sY;have ia:=hmY.cp hlt;have la:=hmY.ld hlt;have hmem:m.getD i 0∈m:=by rw[Ad,Ab hlt];exact Bo _
   have w1:=dh i
   have⟨v0,v1⟩:=hin _ hmem;generalize hvv:m.getD i 0=v at *;obtain⟨u,rfl⟩:∃u:Nat,v=(u:Int):=⟨v.toNat,ar⟩;have hu:u<g.bh.length:=by omega
   have hia:=dR (b:=X.nx) (o:=false) hu;have hlu:=dI hg (hse u hu);refine aA (aK (aA (aJ ?_)));refine ef p42 p44 @aH ia la ?_;refine fC (ed p9 @aH hia hlu ?_);by_cases hd:∃j,j<i/\m.getD j 0=(u:Int)
   ·refine aN (by simp only[↓aF,aG,rE,↓reduceIte,rA,Ac hd]) ?_;refine bO (dx hb0 ?_);refine cQ (b:=S.nx) (aq p4) (by refine am ?_;exact aY _) cY rfl rfl ?_;intro X2 x2 m2 d2;refine am ?_;refine aP (dx p4 ?_);have⟨j,hj,hjv⟩:=hd;exact .inr ⟨⟨Al sY.1 x2.1,fun c hc=>by rw[x2.2 _ (Ae hc sY.1) ar,sY.2 _ hc]⟩,d2,i,j,hj,hlt,by rw[hvv,hjv]⟩
   ·refine aM (by simp only[↓aF,aG,rE,↓reduceIte,rA,Aa hd]) (aI ?_);try refine am ?_
    refine aJ (dz p9 @aH hia ?_);refine fI (fun call=>by refine dx @dS ?_;exact stc (S:=Y) (w:=.bool true) hg (by rw[hcs];exact hu)) ?_;refine am ?_;refine aJ (dy p44 w1 ?_);refine⟨k - 1,ar,rfl,hY.put _,hsb,i+1,cs.set u (.bool true),ar,fk,by rw[Aq];exact hcs,fun v hv=>?_,fun j l hl hj=>?_,by refine⟨?_,?_,?_,?_,?_,?_,?_⟩<;>simp only[↓aF,aG,rE,↓reduceIte,rA,p0,p1,p4,p9,p42,p43]⟩
    ·rw[Cu];split
     ·rename_i e;rw[if_pos (by rw[hcs];exact hu),Ac (show ∃j,j<i+1/\m.getD j 0=(v:Int) from⟨i,ar,by rw[hvv,e]⟩)]
     ·rename_i e;rw[hse v hv];congr 2;rw[Cl,Cf,Cf];constructor
      ·rintro⟨j,h1,h2⟩;exact⟨j,ar,h2⟩
      ·rintro⟨j,h1,h2⟩;refine⟨j,?_,h2⟩;by_cases hji:j=i
       ·rw[hji,hvv] at h2;omega
       ·omega
    ·by_cases hji:j=i
     ·rw[hji,hvv];exact fun h=>hd ⟨l,ar,h.symm⟩
     ·exact hnd j l hl ar
  ·refine aA (aM (by simp only[↓aF,aG,rE,↓reduceIte,rA,Aa (show ¬ (i:Int)<(m.length:Int) by omega)]) (bJ ?_));refine am ?_;have hk0:k=0:=by omega
   subst hk0;exact .inl ⟨rfl,hY,hsb,i,cs,hik,hg,hcs,hse,hnd,by refine⟨?_,?_,?_,?_,?_,?_,?_⟩<;>simp only[↓aF,aG,rE,↓reduceIte,rA,p0,p1,p4,p9,p42,p43,p44]⟩
 clear p0 p1 p4 p6;rintro o ⟨F,inr⟩ Y (⟨rfl,q0,hY,hsb,i,cs,hik,hg,hcs,hse,hnd,p0,p1,p4,p9,p42,p43,p44⟩ | ⟨rfl,sY,cY,hdup,p4,p5⟩);rotate_left
 ·have hE:jE g.bh.length m ok=8:=by unfold jE;rw[if_neg (fun h=>h hlen),if_neg (fun h=>h hin),if_pos hdup]
  rw[hE];simp only at p4 p5;have ld2:=jM (n:=2) cY rfl;refine ed @dJ p4 p5 ld2 ?_;exact⟨sY,_,_,rfl,fun h=>absurd h ay,fun _=>⟨rfl,rfl⟩⟩
 simp only at q0 p0 p1 p4;subst q0;have hnd':¬aCG m:=fun⟨i',k',h1,h2,h3⟩=>hnd i' k' h1 ar h3;have lX1:X.nx<X1.nx:=by omega
 have sY:Same S Y:=⟨Al sX1.1 hY.1,fun c hc=>by rw[hY.2 _ (Ae hc sX1.1) ar];exact sX1.2 _ hc⟩;have cY:Y.h.get S.nx=some (.cells [.bw,.bw] false 0):=by rw[hY.2 _ ar ar,x1.2 _ leX];exact cX
 have leY:S.nx<Y.nx:=by have:=hY.1;omega
 have hE0:ok->jE g.bh.length m ok=0:=fun hk=>by unfold jE;rw[if_neg (fun h=>h hlen),if_neg (fun h=>h hin),if_neg hnd',if_pos hk]
 have hE3:¬ok->jE g.bh.length m ok=3:=fun hk=>by unfold jE;rw[if_neg (fun h=>h hlen),if_neg (fun h=>h hin),if_neg hnd',if_neg hk]
 try refine am ?_
 refine fC (dy p0 p1 ?_);refine bD (am ?_);refine aW (himg hlen hin hnd' Y sY) ?_;rintro _ Z ⟨hZ,x,y,t,rfl,ht,htP⟩;refine dy @rN @sA ?_;refine cA ?_;intro Z1 z1 k1 e1;refine cQ (b:=Z.nx) (ap) (by refine am ?_;exact aY _) e1 rfl rfl ?_;intro Z2 z2 k2 e2;refine am ?_;have sZ2:Same Z Z2:=z2.same z1 (Ag _);have sSZ2:=(sY.trans hZ).trans sZ2;have cZ2:Z2.h.get S.nx=some (.cells [.bw,.bw] false 0):=by rw[(hZ.trans sZ2).2 _ leY];exact cY
 have lZ2:S.nx<Z2.nx:=Ae leY (hZ.trans sZ2).1;have ldim:=jM (n:=2) e2 rfl;refine bO (am ?_);cases t with
 | true=>
  rw[hE0 (ht.1 rfl)];refine aN (ap) ?_;refine bO (dx ldim ?_);refine cQ (b:=S.nx) (aq p4) (by refine am ?_;exact aY _) cZ2 rfl rfl ?_;intro Z3 z3 k3 e3;refine am ?_;have ld3:=jM (n:=2) e3 rfl;refine aP (dz @dJ p4 @ld3 ?_);refine⟨⟨Al sSZ2.1 z3.1,fun c hc=>by rw[z3.2 _ (Ae hc sSZ2.1) ar,sSZ2.2 _ hc]⟩,x,y,rfl,⟨Y,sY.1,hP (htP rfl) (Al sZ2.1 z3.1) fun c h1 h2=>?_⟩,fun h=>absurd rfl h⟩;rw[z3.2 _ (Ae h2 sZ2.1) ar,sZ2.2 _ h2]
 | false=>
  rw[hE3 (fun h=>by have:=ht.2 h;cases this)];refine aM (ap) (aI ?_);try refine am ?_
  refine bO (dx hb0 ?_);refine cQ (b:=S.nx) (aq p4) (by refine am ?_;exact aY _) cZ2 rfl rfl ?_;intro Z3 z3 k3 e3;refine am ?_;have ld3:=jM (n:=2) e3 rfl;refine aP (dz @dJ p4 @ld3 ?_);exact⟨⟨Al sSZ2.1 z3.1,fun c hc=>by rw[z3.2 _ (Ae hc sSZ2.1) ar,sSZ2.2 _ hc]⟩,_,_,rfl,fun h=>absurd h ay,fun _=>⟨rfl,rfl⟩⟩
theorem aId:∀ (l:ba) (s:Nat) (r:ba),(aCK l s r).length=r.length
 | [],_,_=>rfl
 | c::l,s,r=>by simp only[aCK];rw[aId l,Aq]
theorem aEM{v:Nat}:∀ (l:ba) (s:Nat) (r:ba),(∀c∈l,c.toNat≠v)->(aCK l s r).getD v 0=r.getD v 0
 | [],_,_,_=>rfl
 | c::l,s,r,h=>by
  simp only[aCK];rw[aEM l _ _ fun c' hc'=>h c' (Bk _ hc')];have hne:=h c (Bv ..);rw[Ad,Cu,if_neg hne,Ad]
theorem aJk{k:Nat}{c:Int}:∀ (l:ba) (s:Nat) (r:ba),l.Pairwise (· < ·)->(∀c∈l,0<=c)->l[k]? =some c->c.toNat<r.length->(aCK l s r).getD c.toNat 0=((s+k:Nat):Int)
 | [],_,_,_,_,h,_=>by simp at h
 | x::l,s,r,hi,h0,hk,hr=>by
  have⟨h1,h2⟩:=List.pairwise_cons.1 hi;simp only[aCK];cases k with
  | zero=>
   rw[List.getElem?_cons_zero] at hk;cases hk;rw[aEM l _ _ fun c' hc'=>by
    have:=h1 c' hc';have:=h0 c (Bv ..);omega,gJ hr,if_pos rfl,Br]
  | succ k=>
   rw[Eb] at hk;rw[aJk l (s+1) _ h2 (fun c' hc'=>h0 c' (Bk _ hc')) hk (by rw[Aq];exact hr)];congr 1;omega
theorem aIa{g:aS}{v:Nat}:∀ (i:Nat) (r:ba),(∀j,j<i->∀c∈eB g j,c.toNat≠v)->(aEv g i r).getD v 0=r.getD v 0
 | 0,_,_=>rfl
 | i+1,r,h=>by
  simp only[aEv];rw[aIa i _ fun j hj=>h j ar,aEM _ _ _ (h i ar)]
theorem aIe{g:aS}{i:Nat}:∀ (n:Nat) (r:ba),i<=n->∃r1,r1.length=r.length/\aEv g n r=aEv g i r1
 | 0,r,h=>⟨r,rfl,by rw[show i=0 by omega]⟩
 | n+1,r,h=>by
  by_cases e:i=n+1
  ·exact⟨r,rfl,by rw[e]⟩
  ·obtain⟨r1,h1,h2⟩:=aIe (i:=i) n (aCK (eB g n) 0 r) ar;exact⟨r1,by rw[h1,aId],by simp only[aEv];exact h2⟩
theorem aIz{g:aS}{T:List dM}(hw:WF (eB g) 0 (-1) T)(hT:T.length=g.bh.length){i k:Nat}{c:Int}(hi:i<g.bh.length)(hk:(eB g i)[k]? =some c):(lO g).getD c.toNat 0=(k:Int):=by
 have cf:∀j,j<g.bh.length->∀c∈eB g j,(j:Int)<c/\c<(g.bh.length:Int)/\mF T c.toNat=some (j:Int):=fun j hj c hc=>by
  have⟨a,b,e⟩:=hw.cf j ar c (by rw[An];exact hc);rw[An] at a b e;exact⟨a,ar,e⟩
 have hc:=Ar hk;have⟨c1,c2,c3⟩:=cf i hi c hc;unfold lO;have⟨r1,h1,h2⟩:=aIe (g:=g) (i:=i+1) g.bh.length (List.replicate g.bh.length 0) ar;rw[Au] at h1;rw[h2];simp only[aEv];rw[aIa i _ fun j hj c' hc' e=>?_,aJk _ _ _ ?_ (fun c' hc'=>by have:=(cf i hi c' hc').1;omega) hk (by rw[h1];omega),An]
 ·have:=hw.inc i ar;rw[An] at this;exact this
 ·have h3:=(cf j ar c' hc').2.2;rw[e,c3] at h3;have:=Bp h3;omega
end Go.Ev.Gl
