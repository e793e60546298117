import Derived.Test.YtdkehphobhnjoaaGl18
open Nat renaming reduceEqDiff → rE, reduceAdd → rA
set_option maxHeartbeats 16000000
set_option linter.unusedSimpArgs false
set_option linter.unusedVariables false
namespace Go.Ev.Gl
variable {fns:T dE}
section
variable {g:aW}{c:List Int}{pr W:Nat→Nat}{z:Nat}
end
structure nK(g:aW)(m:List Int):Prop where
 M:xI g m
 nd:¬aDq m
 A:fT g m
section
variable {g:aW}{a b c m:List Int}
theorem nK.e(h:nK g m):iL g.nodes.length m (fT g m)=0:=by
 unfold iL;rw[if_neg (fun e=>e h.M.len),if_neg (fun e=>e h.M.inn),if_neg h.nd,if_pos h.A]
theorem aLU(hl:m.length=g.nodes.length)(h:∀i,i<g.nodes.length→0≤m.getD i 0∧m.getD i 0<(g.nodes.length:Int)):xI g m:=⟨hl,fun x hx=>by
 obtain⟨j,hj,rfl⟩:=Ee.1 hx;have:=h j (by omega)
 rwa [Ad,Ac hj] at this⟩
theorem aIG{l:List Int}{x:Int}(h:0≤iJ l 0 x):(iJ l 0 x).toNat<l.length∧l.getD (iJ l 0 x).toNat 0=x:=by
 rcases lS (c:=x) (l:=l) (s:=0) with⟨h1,_⟩ | ⟨k,h1,h2,_⟩
 ·omega
 ·have e:(iJ l 0 x).toNat=k:=by omega
  rw[e];exact⟨(Ai.1 h2).1,by rw[Ad,h2];rfl⟩
def aID(g:aW)(m:List Int):Prop:=∀i,i<g.nodes.length→eB m (eB m i)=i
end
def lE(j:Int):List cC→Nat→Nat
 | [],_=>0
 | t::L,a=>(if t.1=j then(t.2.2+1 - (a:Int)).toNat else 0)+lE j L (a+1)
theorem tJ{j:Int}:∀ {L M:List cC} {a:Nat},lE j (L++M) a=lE j L a+lE j M (a+L.length)
 | [],M,a=>by show lE j M a=0+lE j M (a+0);rw[An];rfl
 | t::L,M,a=>by
  show _+lE j (L++M) (a+1)=_+lE j L (a+1)+lE j M (a+(L.length+1));rw[tJ (L:=L),show a+1+L.length=a+(L.length+1) by omega,Cr]
theorem qG{j:Int}:∀ {L:List cC} {a:Nat},(∀t∈L,t.1≠j)→lE j L a=0
 | [],_,_=>rfl
 | t::L,a,h=>by
  show(if t.1=j then _ else 0)+lE j L (a+1)=0;rw[if_neg (h t (Bt ..)),qG fun t ht=>h t (Bn _ ht)]
structure KZ(r:Nat)(p:Int)(L:List cC):Prop where
 par:∀t∈L,t.1=p∨((r:Int)≤t.1∧t.1<((r+L.length:Nat):Int))
 sz:∀ (j:Nat) (t:cC),L[j]? =some t→t.2.2=((r+j+lE ((r+j:Nat):Int) L r:Nat):Int)∧t.2.2<((r+L.length:Nat):Int)
 all:lE p L r=L.length
 nest:∀ (j q:Nat) (t u:cC),L[j]? =some t→L[q]? =some u→j<q→((r+q:Nat):Int)≤t.2.2→((r+j:Nat):Int)≤u.1
theorem KZ.nil{r:Nat}{p:Int}:KZ r p []:=⟨fun t ht=>(by cases ht),fun j t h=>(by simp at h),rfl,fun j q t u h=>(by simp at h)⟩
theorem KZ.app{r:Nat}{p:Int}{L M:List cC}(hp:p<(r:Int))(h1:KZ r p L)(h2:KZ (r+L.length) p M):KZ r p (L++M):=by
 refine⟨fun t ht=>?_,fun j t hj=>?_,by rw[tJ,h1.all,h2.all,Ak],fun j q t u hj hq hlt hle=>?_⟩
 ·rw[Ak];rcases Bv.1 ht with h | h
  ·rcases h1.par t h with e | e
   ·exact .inl e
   ·exact .inr (by omega)
  ·rcases h2.par t h with e | e
   ·exact .inl e
   ·exact .inr (by omega)
 ·rw[Ak,tJ];by_cases hlt:j<L.length
  ·rw[Ba hlt] at hj;obtain⟨a,b⟩:=h1.sz j t hj;rw[qG (L:=M) fun t ht=>by
    rcases h2.par t ht with e | e
    ·omega
    ·omega,Bj]
   exact⟨a,by omega⟩
  ·rw[Av (by omega)] at hj;obtain⟨a,b⟩:=h2.sz (j - L.length) t hj;rw[show r+L.length+(j - L.length)=r+j by omega] at a;rw[qG (L:=L) fun t ht=>by
    rcases h1.par t ht with e | e
    ·omega
    ·omega,An]
   exact⟨a,by omega⟩
 ·by_cases hj1:j<L.length
  ·rw[Ba hj1] at hj;have:=(h1.sz j t hj).2;rw[Ba (by omega)] at hq;exact h1.nest j q t u hj hq hlt hle
  ·rw[Av (by omega)] at hj hq;have:=h2.nest _ _ t u hj hq (by omega) (by rw[show r+L.length+(q - L.length)=r+q by omega];exact hle)
   rwa [show r+L.length+(j - L.length)=r+j by omega] at this
theorem aA5{rec:Nat→Option (List cC)}{p:Int}(hr:∀ (r:Nat) (L:List cC),p<(r:Int)→rec r=some L→KZ r p L):∀ {l:List Int} {r:Nat} {L:List cC},p<(r:Int)→fW rec l r=some L→KZ r p L
 | [],r,L,_,h=>by
  have h:some []=some L:=h;cases h;exact KZ.nil
 | c::l,r,L,hp,h=>by
  simp only[fW] at h;split at h
  ·obtain⟨L1,h1,h2⟩:=Cw.1 h;obtain⟨L2,h3,rfl⟩:=Ap.1 h2;exact(hr r L1 hp h1).app hp (aA5 hr (by omega) h3)
  ·cases h
theorem mS{N:Nat}{nx:Nat→List Int}:∀ {f at_:Nat} {p d:Int} {T:List cC},p<(at_:Int)→eE N nx f at_ p d=some T→KZ at_ p T
 | 0,_,_,_,_,_,h=>by cases h
 | f+1,at_,p,d,T,hp,h=>by
  simp only[eE] at h;split at h
  ·obtain⟨L,h1,rfl⟩:=Ap.1 h;have k:=aA5 (p:=(at_:Int)) (fun r L hr hL=>mS hr hL) (by omega) h1;refine⟨fun t ht=>?_,fun j t hj=>?_,?_,fun j q t u hj hq hlt hle=>?_⟩
   ·rw[Au];rcases Bg.1 ht with rfl | ht
    ·exact .inl rfl
    ·rcases k.par t ht with e | e
     ·exact .inr (by omega)
     ·exact .inr (by omega)
   ·rw[Au];cases j with
    | zero=>
     cases hj;rw[Bj];show((at_+L.length:Nat):Int)=((at_+((if p=((at_:Nat):Int) then _ else 0)+lE _ L (at_+1)):Nat):Int)∧_;rw[if_neg (by omega),An,k.all];exact⟨rfl,by show((at_+L.length:Nat):Int)<_;omega⟩
    | succ j=>
     obtain⟨a,b⟩:=k.sz j t hj;show t.2.2=((at_+(j+1)+((if p=((at_+(j+1):Nat):Int) then _ else 0)+lE _ L (at_+1)):Nat):Int)∧_;rw[if_neg (by omega),An,a,show at_+1+j=at_+(j+1) by omega];exact⟨rfl,by rw[←show at_+1+j=at_+(j+1) by omega,←a];omega⟩
   ·show(if p=p then(((at_+L.length:Nat):Int)+1 - (at_:Int)).toNat else 0)+lE p L (at_+1)=L.length+1;rw[if_pos rfl,qG fun t ht=>by
     rcases k.par t ht with e | e
     ·omega
     ·omega]
    omega
   ·obtain⟨q,rfl⟩:∃q',q=q'+1:=⟨q - 1,by omega⟩;cases j with
    | zero=>
     have hq':L[q]? =some u:=hq;rcases k.par u (Bm hq') with e | e
     ·omega
     ·omega
    | succ j=>
     have hj':L[j]? =some t:=hj;have hq':L[q]? =some u:=hq;have:=k.nest j q t u hj' hq' (by omega) (by rw[show at_+1+q=at_+(q+1) by omega];exact hle)
     rwa [show at_+1+j=at_+(j+1) by omega] at this
  ·cases h
def cW(T:List cC)(i:Nat):Nat:=match T[i]? with | some t=>(t.2.2+1 - (i:Int)).toNat | none=>0
section
variable {T:List cC}
theorem uX(k:KZ 0 (-1) T){i:Nat}(hi:i<T.length):cW T i=1+lE (i:Int) T 0∧cW T i≤T.length∧i+cW T i≤T.length:=by
 obtain⟨a,b⟩:=k.sz i T[i] (Ac hi);have e:cW T i=(T[i].2.2+1 - (i:Int)).toNat:=by unfold cW;rw[Ac hi]
 rw[An] at a b;omega
def SzI(T:List cC)(i:Nat)(Z:List Int):Prop:=Z.length=T.length∧∀j,j<T.length→Z.getD j 0=if i≤j then((cW T j:Nat):Int) else((lE (j:Int) (T.drop i) i:Nat):Int)
theorem aMV(k:KZ 0 (-1) T)(hN:T.length≤100000)(hpar:∀ (j:Nat) (t:cC),T[j]? =some t→t.1<(j:Int)∧(0<j→0≤t.1)){i:Nat}{Z:List Int}(hi:i<T.length)(h:SzI T (i+1) Z):SzI T i (szS T i Z):=by
 obtain⟨hl,hz⟩:=h;have hT:=Ac hi;obtain⟨p1,p2⟩:=hpar i T[i] hT;have hdrop:T.drop i=T[i]::T.drop (i+1):=Br hi;have hsp:=fun j:Nat=>show lE (j:Int) (T.drop i) i=(if T[i].1=(j:Int) then cW T i else 0)+lE (j:Int) (T.drop (i+1)) (i+1) by
  rw[hdrop];have e:cW T i=(T[i].2.2+1 - (i:Int)).toNat:=by unfold cW;rw[hT]
  rw[e];rfl
 have htk:∀j,i≤j→lE (j:Int) T 0=lE (j:Int) (T.drop (i+1)) (i+1):=fun j hij=>by
  conv=>lhs;rw[←Cq (i+1) T]
  rw[tJ,Ca,show min (i+1) T.length=i+1 by omega,An,qG (L:=T.take (i+1)),An];intro t ht;obtain⟨q,hq,rfl⟩:=Ee.1 ht;rw[Ca] at hq;rw[List.getElem_take];have:=(hpar q T[q] (Ac (by omega))).1;omega
 have e1:=uX k hi;rw[htk i (Ah _)] at e1;have hzi:=hz i hi;rw[if_neg (by omega)] at hzi;have hw:IntKind.i64.wrap (Z.getD i 0+1)=((cW T i:Nat):Int):=by rw[hzi,wrap_i64 (by omega) (by omega)];omega
 unfold szS;rw[hw];have hset:∀j,(Z.set i ((cW T i:Nat):Int)).getD j 0=if j=i then((cW T i:Nat):Int) else Z.getD j 0:=fun j=>dP (by omega);by_cases h0:0<i
 ·rw[if_pos h0];obtain⟨q,hq⟩:∃q:Nat,T[i].1=(q:Int):=⟨T[i].1.toNat,by have:=p2 h0;omega⟩;have hqi:q<i:=by omega
  have hpm:(T.map fun t:cC=>t.1).getD i 0=(q:Int):=by rw[Ad,Az,hT,←hq];rfl
  rw[hpm,Bf,hset q,if_neg (by omega),hset i,if_pos rfl];have hzq:=hz q (by omega);rw[if_neg (by omega)] at hzq;have hb:lE (q:Int) (T.drop i) i≤T.length:=by
   have e2:=uX k (show q<T.length by omega);have:lE (q:Int) (T.drop i) i≤lE (q:Int) T 0:=by
    conv=>rhs;rw[←Cq i T]
    rw[tJ,Ca,show min i T.length=i by omega,An];omega
   omega
  have hsq:=hsp q;rw[if_pos hq] at hsq;have hw2:IntKind.i64.wrap (Z.getD q 0+((cW T i:Nat):Int))=((lE (q:Int) (T.drop i) i:Nat):Int):=by rw[hzq,wrap_i64 (by omega) (by omega)];omega
  rw[hw2];refine⟨by rw[Al,Al];exact hl,fun j hj=>?_⟩;rw[dP (by rw[Al];omega),hset j];by_cases ej:j=q
  ·rw[if_pos ej,if_neg (by omega),ej]
  ·rw[if_neg ej];by_cases eji:j=i
   ·rw[if_pos eji,if_pos (by omega),eji]
   ·rw[if_neg eji,hz j hj];by_cases hij:i≤j
    ·rw[if_pos (by omega),if_pos hij]
    ·rw[if_neg (by omega),if_neg hij,hsp j,if_neg (by omega),An]
 ·rw[if_neg h0];refine⟨by rw[Al];exact hl,fun j hj=>?_⟩;rw[hset j];by_cases eji:j=i
  ·rw[if_pos eji,if_pos (by omega),eji]
  ·rw[if_neg eji,hz j hj,if_pos (by omega),if_pos (by omega)]
theorem aJd(k:KZ 0 (-1) T)(hN:T.length≤100000)(hpar:∀ (j:Nat) (t:cC),T[j]? =some t→t.1<(j:Int)∧(0<j→0≤t.1)):∀ {i:Nat} {Z:List Int},i≤T.length→SzI T i Z→SzI T 0 (szG T i Z)
 | 0,Z,_,h=>h
 | i+1,Z,hi,h=>aJd k hN hpar (i:=i) (Z:=szS T i Z) (by omega) (aMV k hN hpar (by omega) h)
theorem yG{g:aW}(hT:eK g=some T)(hl:T.length=g.nodes.length)(hN:g.nodes.length≤100000){i:Nat}(hi:i<g.nodes.length):(szL T g.nodes.length).getD i 0=((cW T i:Nat):Int)∧1≤cW T i∧i+cW T i≤g.nodes.length:=by
 have hw:eE g.nodes.length (dB g) (g.nodes.length+1) 0 (-1) 0=some T:=hT;have k:=mS (by decide) hw;have hf:=iC hw;have hpar:∀ (j:Nat) (t:cC),T[j]? =some t→t.1<(j:Int)∧(0<j→0≤t.1):=fun j t hj=>by
  have hlt:=(Ai.1 hj).1;rcases Eb j with h0 | h0
  ·subst h0;have:=hf.root;unfold gP at this;rw[hj] at this;have e:t.1= -1:=Bk this;exact⟨by omega,fun h=>absurd h (Nat.lt_irrefl 0)⟩
  ·obtain⟨q,a,b,_⟩:=hf.pf j h0 hlt;unfold gP at b;rw[hj] at b;have e:t.1=((0+q:Nat):Int):=Bk b;exact⟨by omega,fun _=>by omega⟩
 have h0:SzI T T.length (List.replicate g.nodes.length 0):=⟨by rw[Ao,hl],fun j hj=>by
  rw[if_neg (by omega),Cc (Ah _),aIE (by omega)];rfl⟩
 have h1:=(aJd k (by omega) hpar (Ah _) h0).2 i (by omega);rw[if_pos (Cj _),hl] at h1;obtain⟨e1,e2,e3⟩:=uX k (show i<T.length by omega);exact⟨h1,by omega,by omega⟩
theorem aCv{g:aW}(hT:eK g=some T)(hl:T.length=g.nodes.length){i p q:Nat}(hi:i<g.nodes.length)(hpq:p<q)(hq:q<(nodeAt g i).next.length)(hN:g.nodes.length≤100000):((nodeAt g i).next.getD p 0).toNat+cW T ((nodeAt g i).next.getD p 0).toNat≤((nodeAt g i).next.getD q 0).toNat:=by
 have hw:eE g.nodes.length (dB g) (g.nodes.length+1) 0 (-1) 0=some T:=hT;have k:=mS (by decide) hw;have hf:=iC hw;have hnx:dB g (0+i)=(nodeAt g i).next:=by rw[An];exact fO g i
 have mem:=fun t (ht:t<(nodeAt g i).next.length)=>show(nodeAt g i).next.getD t 0∈dB g (0+i) by
  rw[hnx,Ad,Ac ht];exact Bh ht
 have hinc:=hf.inc i (by omega);rw[hnx] at hinc;have hlt:(nodeAt g i).next.getD p 0<(nodeAt g i).next.getD q 0:=by
  have:=Dg.1 hinc p q (by omega) hq hpq;rw[Ad,Ac (show p<(nodeAt g i).next.length by omega),Ad,Ac hq];exact this
 obtain⟨a1,a2,a3⟩:=hf.cf i (by omega) _ (mem p (by omega));obtain⟨b1,b2,b3⟩:=hf.cf i (by omega) _ (mem q hq);obtain⟨x,hx⟩:∃x:Nat,(nodeAt g i).next.getD p 0=(x:Int):=⟨_,(En (by omega)).symm⟩;obtain⟨y,hy⟩:∃y:Nat,(nodeAt g i).next.getD q 0=(y:Int):=⟨_,(En (by omega)).symm⟩;rw[hx] at a1 a2 a3 hlt;rw[hy] at b1 b2 b3 hlt;rw[hx,hy,Bf,Bf];have hxT:T[x]? =some T[x]:=Ac (by omega);have hyT:T[y]? =some T[y]:=Ac (by omega);have hpar:T[y].1=(i:Int):=by
  unfold gP at b3;rw[Bf,Fc,hyT] at b3;have e:T[y].1=((0+i:Nat):Int):=Bk b3;omega
 have e:cW T x=(T[x].2.2+1 - (x:Int)).toNat:=by unfold cW;rw[hxT]
 rw[e];rcases Int.lt_or_le T[x].2.2 (y:Int) with h | h
 ·omega
 ·have:=k.nest x y _ _ hxT hyT (by omega) (by rw[An];exact h);omega
end
def eM(n:Nat):List Int:=(List.range n).map fun j:Nat=>(j:Int)
theorem mV{n j:Nat}{f:Nat→Int}(h:j<n):((List.range n).map f).getD j 0=f j:=by
 rw[Ad,Az,Cn h];rfl
theorem uM{n:Nat}{f:Nat→Int}{l:List Int}(hl:l.length=n)(h:∀j,j<n→l.getD j 0=f j):l=(List.range n).map f:=
 pV (by rw[hl,Bc,Db]) fun j hj=>by rw[h j (by omega),mV (by omega)]
def swF(a b n j:Nat):Nat:=if a≤j∧j<a+n then j - a+b else if b≤j∧j<b+n then j - b+a else j
def sL(N a b n:Nat):List Int:=(List.range N).map fun j:Nat=>((swF a b n j:Nat):Int)
theorem vN{S:St}{wb:Nat}{nv iv pv plv szv:AV}{g:aW}(H:Has fns)(hW:qJ S wb g.players nv iv pv plv szv)(hn:aN 6 bT S nv g.nodes)(hN:g.nodes.length≤100000):fA fns (.fn 37 [] []) [.ptr wb 0] S fun r S'=>gF S S' r (eM g.nodes.length)∧Same S S':=by
 refine bP H.f37 (by simp) ?_;simp only[↓aC,aB,rE,↓reduceIte,rA];refine bE ?_;simp only[↓aC,aB,rE,↓reduceIte,rA];refine bE ?_;simp only[↓aC,aB,rE,↓reduceIte,rA,bF,bG,aH,aG,cT hW.1,hn.len];refine fX (mI (n:=g.nodes.length) (by simp only[↓aC,aB,rE,↓reduceIte,rA,aE]) (by simp only[↓aC,aB,rE,↓reduceIte,rA,aE]) (by unfold room;omega) (by unfold room;omega)) ?_;intro S1 s1 n1 c1;rw[lU] at c1;simp only[↓aC,aB,rE,↓reduceIte,rA];generalize g.nodes.length=n at *;refine aA (aS (Q:=fun o A' X=>o= .normal∧sC S S.nx n (fun j=>(j:Int)) (fun F i=>aD 3 F= .sl S.nx 0 n n false∧aD 13 F= .int .i64 (n:Int)∧aD 14 F= .int .i64 (i:Int)) 0 A' X) (aA (aF ?_)) ?_)
 ·have e0:gW (.sl S.nx 0 n n false)=some (.int .i64 (n:Int)):=rfl;simp only[↓aC,aB,rE,↓reduceIte,rA,e0];refine aJ (bB (sC S S.nx n (fun j=>(j:Int)) (fun F i=>aD 3 F= .sl S.nx 0 n n false∧aD 13 F= .int .i64 (n:Int)∧aD 14 F= .int .i64 (i:Int))) ?_ n _ _ ⟨rfl,s1,by omega,0,_,by omega,Ao ..,fun j hj=>by omega,c1,by simp only[↓aC,aB,rE,↓reduceIte,rA],by simp only[↓aC,aB,rE,↓reduceIte,rA],by simp only[↓aC,aB,rE,↓reduceIte,rA];try rfl⟩);rintro k ⟨F,inr⟩ X ⟨q0,hX,hb,i,l,hik,hl,hf,hc,p3,p8,p9⟩;simp only at q0 p3 p8 p9;subst q0;refine bE ?_;simp only[↓aC,aB,rE,↓reduceIte,rA,p8,p9];by_cases hlt:i<n
  ·refine aA (aM (by simp only[↓aC,aB,rE,↓reduceIte,rA,Ab (show(i:Int)<(n:Int) by omega)]) (aI ?_));try simp only[↓aC,aB,rE,↓reduceIte,rA]
   have w1:IntKind.i64.wrap ((i:Int)+1)=((i+1:Nat):Int):=by rw[wrap_i64 (by omega) (by omega)];omega
   have hia:=dI (b:=S.nx) (o:=false) hlt;refine aA (aJ (aA (aF ?_)));simp only[↓aC,aB,rE,↓reduceIte,rA,p9];refine aF ?_;simp only[↓aC,aB,rE,↓reduceIte,rA,p3,aE,hia];refine fD (fun call=>by simp only[↓aC,aB,rE,↓reduceIte,rA,eJ,cI];exact oC (S:=X) hc (by rw[hl];exact hlt)) ?_;simp only[↓aC,aB,rE,↓reduceIte,rA];refine aF ?_;simp only[↓aC,aB,rE,↓reduceIte,rA,p9,w1];refine⟨k - 1,by omega,rfl,hX.put (Ah _) _,hb,i+1,l.set i (i:Int),by omega,by rw[Al];exact hl,fun j hj=>?_,by simp only;rw[T.get_set,if_pos rfl],by refine⟨?_,?_,?_⟩<;>simp only[↓aC,aB,rE,↓reduceIte,rA,p3,p8]⟩;rw[dP (by rw[hl];exact hlt)];split
   ·rename_i e;rw[e]
   ·exact hf j (by omega)
  ·refine aA (aK (by simp only[↓aC,aB,rE,↓reduceIte,rA,Aa (show ¬ (i:Int)<(n:Int) by omega)]) (aU ?_));simp only[↓aC,aB,rE,↓reduceIte,rA];have hk0:k=0:=by omega
   subst hk0;exact⟨rfl,hX,hb,i,l,hik,hl,hf,hc,by refine⟨?_,?_,?_⟩<;>simp only[↓aC,aB,rE,↓reduceIte,rA,p3,p8,p9]⟩
 rintro o ⟨F,inr⟩ X ⟨rfl,q0,hX,hb,i,l,hik,hl,hf,hc,p3,p8,p9⟩;simp only at q0 p3;subst q0;obtain rfl:i=n:=by omega
 obtain rfl:l=eM i:=uM hl hf;try simp only[↓aC,aB,rE,↓reduceIte,rA]
 refine bE ?_;simp only[↓aC,aB,rE,↓reduceIte,rA,p3];refine aO ?_;simp only[↓aC,aB,rE,↓reduceIte,rA];exact⟨⟨S.nx,by rw[hl],Ah _,hb,hc⟩,hX⟩
def aNH(S1:St)(wb rb N a b n:Nat)(k:Nat)(A:bH)(X:St):Prop:=A.inr=false∧Same S1 X∧rb<X.nx∧∃ (t:Nat) (l:List Int),t+k=n∧l.length=N∧(∀j,j<N→l.getD j 0=((swF a b t j:Nat):Int))∧X.h.get rb=some (.cells (bC l) false 0)∧aD 1 A.F= .int .i64 (a:Int)∧aD 2 A.F= .int .i64 (b:Int)∧aD 7 A.F= .sl rb 0 N N false∧aD 17 A.F= .int .i64 (n:Int)∧aD 18 A.F= .int .i64 (t:Int)
theorem aIe{S:St}{wb plb szb a b n:Nat}{nv iv pv:AV}{g:aW}{R Z:List Int}(H:Has fns)(hB:gD S wb plb szb pv nv iv g R Z)(hn:aN 6 bT S nv g.nodes)(hN:g.nodes.length≤100000)(hz:Z.getD a 0=(n:Int))(hab:a+n≤b)(hbn:b+n≤g.nodes.length)(ha:a<g.nodes.length):fA fns (.fn 24 [] []) [.ptr wb 0,.int .i64 (a:Int),.int .i64 (b:Int)] S fun r S'=>gF S S' r (sL g.nodes.length a b n)∧Same S S':=by
 refine bP H.f24 (by simp) ?_;simp only[↓sU,sD,rE,↓reduceIte,rA];refine bE ?_;simp only[↓sU,sD,rE,↓reduceIte,rA];refine bE ?_;simp only[↓sU,sD,rE,↓reduceIte,rA];refine aY ?_;simp only[↓sU,sD,rE,↓reduceIte,rA];refine aP (vN H hB.w hn hN) ?_;rintro r S1 ⟨⟨rb,rfl,r1,r2,r3⟩,s1⟩;try simp only[↓sU,sD,rE,↓reduceIte,rA]
 have hlen:(eM g.nodes.length).length=g.nodes.length:=by unfold eM;rw[Bc,Db]
 rw[hlen];have hW1:=hB.w.same s1;have gz1:=(s1.2 _ hB.bz).trans hB.gz;have hia:=dI (b:=szb) (o:=false) ha;have hla:=vE gz1 (p:=a) (by rw[hB.lz];exact ha);rw[hz] at hla;refine eG ?_;simp only[↓sU,sD,rE,↓reduceIte,rA,bF,bG,aH,aG,dF hW1.1,aE,hia,hla];refine aS (Q:=fun o A' X=>o= .normal∧aNH S wb rb g.nodes.length a b n 0 A' X) (aJ (bB (aNH S wb rb g.nodes.length a b n) ?_ n _ _ ⟨rfl,s1,r2,0,_,by omega,hlen,fun j hj=>by unfold eM swF;rw[mV hj,if_neg (by omega),if_neg (by omega)],r3,by simp only[↓sU,sD,rE,↓reduceIte,rA],by simp only[↓sU,sD,rE,↓reduceIte,rA],by simp only[↓sU,sD,rE,↓reduceIte,rA],by simp only[↓sU,sD,rE,↓reduceIte,rA],by simp only[↓sU,sD,rE,↓reduceIte,rA];try rfl⟩)) ?_;rotate_left
 ·rintro o ⟨F,inr⟩ X ⟨rfl,q0,sX,hb,t,l,htk,hl,hf,gX,p1,p2,p7,p17,p18⟩;simp only at q0 p7;subst q0;obtain rfl:t=n:=by omega
  obtain rfl:l=sL g.nodes.length a b t:=uM hl hf;try simp only[↓sU,sD,rE,↓reduceIte,rA]
  refine bE ?_;simp only[↓sU,sD,rE,↓reduceIte,rA,p7];refine aO ?_;simp only[↓sU,sD,rE,↓reduceIte,rA];exact⟨⟨rb,by rw[hl],r1,hb,gX⟩,sX⟩
 clear hla hia gz1 hW1 r3 r2 s1;rintro k ⟨F,inr⟩ X ⟨q0,sX,hb,t,l,htk,hl,hf,gX,p1,p2,p7,p17,p18⟩;simp only at q0 p1 p2 p7 p17 p18;subst q0;refine bE ?_;simp only[↓sU,sD,rE,↓reduceIte,rA,p17,p18];by_cases hlt:t<n;rotate_left
 ·refine aA (aK (by simp only[↓sU,sD,rE,↓reduceIte,rA,Aa (show ¬ (t:Int)<(n:Int) by omega)]) (aU ?_));simp only[↓sU,sD,rE,↓reduceIte,rA];obtain rfl:k=0:=by omega
  exact⟨rfl,sX,hb,t,l,htk,hl,hf,gX,by refine⟨?_,?_,?_,?_,?_⟩<;>simp only[↓sU,sD,rE,↓reduceIte,rA,p1,p2,p7,p17,p18]⟩
 refine aA (aM (by simp only[↓sU,sD,rE,↓reduceIte,rA,Ab (show(t:Int)<(n:Int) by omega)]) (aI ?_));try simp only[↓sU,sD,rE,↓reduceIte,rA]
 have w1:IntKind.i64.wrap ((t:Int)+1)=((t+1:Nat):Int):=by rw[wrap_i64 (by omega) (by omega)];omega
 have wa:IntKind.i64.wrap ((a:Int)+(t:Int))=((a+t:Nat):Int):=by rw[wrap_i64 (by omega) (by omega)];omega
 have wb':IntKind.i64.wrap ((b:Int)+(t:Int))=((b+t:Nat):Int):=by rw[wrap_i64 (by omega) (by omega)];omega
 have ia:=dI (b:=rb) (N:=g.nodes.length) (o:=false) (show a+t<g.nodes.length by omega);have ib:=dI (b:=rb) (N:=g.nodes.length) (o:=false) (show b+t<g.nodes.length by omega);refine aA (aJ (aA (aF ?_)));simp only[↓sU,sD,rE,↓reduceIte,rA,p18];refine aF ?_;simp only[↓sU,sD,rE,↓reduceIte,rA,p1,p2,p7,aE,wa,wb',ia];refine fD (v:=.undef) (S1:=⟨X.h.set rb (some (.cells (bC (l.set (a+t) ((b+t:Nat):Int))) false 0)),X.nx⟩) (fun call=>by simp only[↓sU,sD,rE,↓reduceIte,rA,eJ,cI];exact oC gX (by omega)) ?_;simp only[↓sU,sD,rE,↓reduceIte,rA,aE,ib];refine fD (v:=.undef) (S1:=⟨(X.h.set rb (some (.cells (bC (l.set (a+t) ((b+t:Nat):Int))) false 0))).set rb (some (.cells (bC ((l.set (a+t) ((b+t:Nat):Int)).set (b+t) ((a+t:Nat):Int))) false 0)),X.nx⟩) (fun call=>by simp only[↓sU,sD,rE,↓reduceIte,rA,eJ,cI];exact oC (S:=⟨X.h.set rb (some (.cells (bC (l.set (a+t) ((b+t:Nat):Int))) false 0)),X.nx⟩) (l:=l.set (a+t) ((b+t:Nat):Int)) (o:=false) (sz:=0) (by simp only;rw[T.get_set,if_pos rfl]) (by rw[Al];omega)) ?_;simp only[↓sU,sD,rE,↓reduceIte,rA];refine aF ?_;simp only[↓sU,sD,rE,↓reduceIte,rA,p18,w1];refine⟨k - 1,by omega,rfl,⟨sX.1,fun c hc=>by simp only;rw[T.get_set,if_neg (by omega),T.get_set,if_neg (by omega)];exact sX.2 c hc⟩,hb,t+1,(l.set (a+t) ((b+t:Nat):Int)).set (b+t) ((a+t:Nat):Int),by omega,by rw[Al,Al];exact hl,fun j hj=>?_,by simp only;rw[T.get_set,if_pos rfl],by refine⟨?_,?_,?_,?_,?_⟩<;>simp only[↓sU,sD,rE,↓reduceIte,rA,p1,p2,p7,p17]⟩;rw[dP (by rw[Al];omega),dP (by omega)];unfold swF;by_cases e1:j=b+t
 ·rw[if_pos e1,if_neg (by omega),if_pos (by omega)];omega
 ·rw[if_neg e1];by_cases e2:j=a+t
  ·rw[if_pos e2,if_pos (by omega)];omega
  ·rw[if_neg e2,hf j hj];unfold swF;by_cases e3:a≤j∧j<a+t
   ·rw[if_pos e3,if_pos (show a≤j∧j<a+(t+1) by omega)]
   ·rw[if_neg e3,if_neg (show ¬ (a≤j∧j<a+(t+1)) by omega)];by_cases e4:b≤j∧j<b+t
    ·rw[if_pos e4,if_pos (show b≤j∧j<b+(t+1) by omega)]
    ·rw[if_neg e4,if_neg (show ¬ (b≤j∧j<b+(t+1)) by omega)]
theorem aDP{X:St}{pa pb:Nat}{a b x y:Int}(H:Has fns)(ga:X.h.get pa=some (.cells [.int .i64 a] false 0))(gb:X.h.get pb=some (.cells [.int .i64 b] false 0))(ha:0≤a∧a≤1000000)(hb:0≤b∧b≤1000000)(hx:0≤x∧x≤1000000)(hy:0≤y∧y≤1000000):fA fns (.fn 47 [] [.ptr pa 0,.ptr pb 0]) [.int .i64 x,.int .i64 y] X fun r X'=>r= .bool (decide (x - a=y - b))∧Same X X':=by
 have la:=fN (p:=0) ga rfl;have lb:=fN (p:=0) gb rfl;have w1:IntKind.i64.wrap (x - a)=x - a:=wrap_i64 (by omega) (by omega);have w2:IntKind.i64.wrap (y - b)=y - b:=wrap_i64 (by omega) (by omega);refine bP H.f47 (by simp) ?_;simp only[↓sU,sD,rE,↓reduceIte,rA];refine bE ?_;simp only[↓sU,sD,rE,↓reduceIte,rA];refine bE ?_;simp only[↓sU,sD,rE,↓reduceIte,rA,la,lb,w1,w2];refine aO ?_;simp only[↓sU,sD,rE,↓reduceIte,rA];exact Same.refl _
def shP(a b:Int)(l m:List Int):Prop:=l.length=m.length∧∀k,k<l.length→l.getD k 0 - a=m.getD k 0 - b
def aOj(S:St)(av bv f:AV)(a b:Int)(l m:List Int)(k:Nat)(A:bH)(X:St):Prop:=A.inr=false∧Same S X∧∃i,i+k=l.length∧(∀j,j<i→l.getD j 0 - a=m.getD j 0 - b)∧aD 1 A.F=bv∧aD 2 A.F=f∧aD 15 A.F=av∧aD 16 A.F= .int .i64 ((l.length:Nat):Int)∧aD 17 A.F= .int .i64 (i:Int)
theorem aEG{S:St}{av bv:AV}{pa pb:Nat}{a b:Int}{l m:List Int}(H:Has fns)(hl:bN .i64 S av l)(hm:bN .i64 S bv m)(ga:S.h.get pa=some (.cells [.int .i64 a] false 0))(gb:S.h.get pb=some (.cells [.int .i64 b] false 0))(lpa:pa<S.nx)(lpb:pb<S.nx)(ha:0≤a∧a≤1000000)(hb:0≤b∧b≤1000000)(hx:∀j,j<l.length→0≤l.getD j 0∧l.getD j 0≤1000000)(hy:∀j,j<m.length→0≤m.getD j 0∧m.getD j 0≤1000000)(hll:l.length≤10000000):
  fA fns (.fn 49 [] []) [av,bv,.fn 47 [] [.ptr pa 0,.ptr pb 0]] S fun r S'=>Same S S'∧∃t,r= .bool t∧(t=true↔shP a b l m):=by
 have sav:=bN.self hl;refine bP H.f49 (by simp) ?_;simp only[↓sU,sD,rE,↓reduceIte,rA];refine bE ?_;simp only[↓sU,sD,rE,↓reduceIte,rA];refine eG ?_;simp only[↓sU,sD,rE,↓reduceIte,rA,hl.len,hm.len,Ag];by_cases hlm:l.length=m.length;rotate_left
 ·refine aM (by simp only[↓sU,sD,rE,↓reduceIte,rA,Ab (show((l.length:Nat):Int)≠((m.length:Nat):Int) by omega)]) ?_;refine bE ?_;simp only[↓sU,sD,rE,↓reduceIte,rA];refine aO ?_;simp only[↓sU,sD,rE,↓reduceIte,rA];exact⟨Same.refl _,false,rfl,fun h=>(by cases h),fun h=>absurd h.1 hlm⟩
 refine aK (by simp only[↓sU,sD,rE,↓reduceIte,rA,Aa (show ¬ ((l.length:Nat):Int)≠((m.length:Nat):Int) by omega)]) (aI ?_);try simp only[↓sU,sD,rE,↓reduceIte,rA]
 refine aA (aS (Q:=fun o A' X=>(o= .normal∧aOj S av bv (.fn 47 [] [.ptr pa 0,.ptr pb 0]) a b l m 0 A' X)∨(o= .ret∧Same S X∧¬shP a b l m∧aD 6 A'.F= .bool false)) (aA (aF ?_)) ?_);rotate_left
 ·rintro o ⟨F,inr⟩ X (⟨rfl,q0,hX,i,hik,he,_⟩ | ⟨rfl,hX,hne,p6⟩)
  ·simp only at q0;subst q0;obtain rfl:i=l.length:=by omega
   try simp only[↓sU,sD,rE,↓reduceIte,rA]
   refine bE ?_;simp only[↓sU,sD,rE,↓reduceIte,rA];refine aO ?_;simp only[↓sU,sD,rE,↓reduceIte,rA];exact⟨hX,true,rfl,fun _=>⟨hlm,he⟩,fun _=>rfl⟩
  ·simp only at p6;simp only[↓sU,sD,rE,↓reduceIte,rA,p6];exact⟨hX,false,rfl,fun h=>(by cases h),fun h=>absurd h hne⟩
 simp only[↓sU,sD,rE,↓reduceIte,rA,hl.len,Ag];refine aJ (bB (aOj S av bv (.fn 47 [] [.ptr pa 0,.ptr pb 0]) a b l m) ?_ l.length _ _ ⟨rfl,Same.refl _,0,by omega,fun j hj=>absurd hj (Ce j),by simp only[↓sU,sD,rE,↓reduceIte,rA],by simp only[↓sU,sD,rE,↓reduceIte,rA],by simp only[↓sU,sD,rE,↓reduceIte,rA],by simp only[↓sU,sD,rE,↓reduceIte,rA],by simp only[↓sU,sD,rE,↓reduceIte,rA];try rfl⟩);rintro k ⟨F,inr⟩ X ⟨q0,hX,i,hik,he,p1,p2,p15,p16,p17⟩;simp only at q0 p1 p2 p15 p16 p17;subst q0;refine bE ?_;simp only[↓sU,sD,rE,↓reduceIte,rA,p16,p17];by_cases hlt:i<l.length;rotate_left
 ·refine aA (aK (by simp only[↓sU,sD,rE,↓reduceIte,rA,Aa (show ¬ (i:Int)<((l.length:Nat):Int) by omega)]) (aU ?_));simp only[↓sU,sD,rE,↓reduceIte,rA];obtain rfl:k=0:=by omega
  exact .inl ⟨rfl,hX,i,hik,he,by refine⟨?_,?_,?_,?_,?_⟩<;>simp only[↓sU,sD,rE,↓reduceIte,rA,p1,p2,p15,p16,p17]⟩
 refine aA (aM (by simp only[↓sU,sD,rE,↓reduceIte,rA,Ab (show(i:Int)<((l.length:Nat):Int) by omega)]) (aI ?_));try simp only[↓sU,sD,rE,↓reduceIte,rA]
 have hltm:i<m.length:=by omega
 have ia:=(hl.same hX).iaddr hlt;have la:=(hl.same hX).ld hlt;have ib:=(hm.same hX).iaddr hltm;have lb:=(hm.same hX).ld hltm;have w1:IntKind.i64.wrap ((i:Int)+1)=((i+1:Nat):Int):=by rw[wrap_i64 (by omega) (by omega)];omega
 refine aA (aJ (aA (aF ?_)));simp only[↓sU,sD,rE,↓reduceIte,rA,p15,p17,aE,ia,la];refine bE ?_;simp only[↓sU,sD,rE,↓reduceIte,rA,p1,aE,ib,lb];refine bE ?_;simp only[↓sU,sD,rE,↓reduceIte,rA,p2];refine aY ?_;simp only[↓sU,sD,rE,↓reduceIte,rA,p2];refine aP (aDP H ((hX.2 _ lpa).trans ga) ((hX.2 _ lpb).trans gb) ha hb (hx i hlt) (hy i hltm)) ?_;rintro _ Y ⟨rfl,hY⟩;have sY:=hX.trans hY;simp only[↓sU,sD,rE,↓reduceIte,rA,dH];by_cases hc:l.getD i 0 - a=m.getD i 0 - b
 ·refine aK (by simp only[↓sU,sD,rE,↓reduceIte,rA,Ab hc,Bl]) (aI ?_);try simp only[↓sU,sD,rE,↓reduceIte,rA]
  refine aF ?_;simp only[↓sU,sD,rE,↓reduceIte,rA,p17,w1];exact⟨k - 1,by omega,rfl,sY,i+1,by omega,fun j hj=>by
   by_cases e:j=i
   ·rw[e];exact hc
   ·exact he j (by omega),by refine⟨?_,?_,?_,?_,?_⟩<;>simp only[↓sU,sD,rE,↓reduceIte,rA,p1,p2,p15,p16]⟩
 ·refine aM (by simp only[↓sU,sD,rE,↓reduceIte,rA,Aa hc,Bq]) ?_;refine bE ?_;simp only[↓sU,sD,rE,↓reduceIte,rA];refine aO ?_;simp only[↓sU,sD,rE,↓reduceIte,rA];exact .inr ⟨sY,fun h=>hc (h.2 i hlt)⟩
def aHA(a b:Int)(x y:dW):Prop:=x.kind=y.kind∧x.player=y.player∧x.pay=y.pay∧x.weights=y.weights∧shP a b x.next y.next
def aAh(g:aW)(T:List cC)(a b:Nat):Prop:=cW T a=cW T b∧∀t,t<cW T a→aHA (a:Int) (b:Int) (nodeAt g (a+t)) (nodeAt g (b+t))
def aNk(S2:St)(wb pa pb:Nat)(g:aW)(T:List cC)(a b:Nat)(k:Nat)(A:bH)(X:St):Prop:=A.inr=false∧Same S2 X∧∃t,t+k=cW T a∧(∀j,j<t→aHA (a:Int) (b:Int) (nodeAt g (a+j)) (nodeAt g (b+j)))∧aD 0 A.F= .ptr wb 0∧aD 4 A.F= .ptr pa 0∧aD 5 A.F= .ptr pb 0∧aD 7 A.F= .fn 47 [] [.ptr pa 0,.ptr pb 0]∧aD 33 A.F= .int .i64 ((cW T a:Nat):Int)∧aD 34 A.F= .int .i64 (t:Int)
theorem aFr{S:St}{wb plb szb a b:Nat}{nv iv pv:AV}{g:aW}{T:List cC}(H:Has fns)(G:fC g)(hT:eK g=some T)(hTl:T.length=g.nodes.length)(hB:gD S wb plb szb pv nv iv g (jM g) (szL T g.nodes.length))(hn:aN 6 bT S nv g.nodes)(ha:a<g.nodes.length)(hb:b<g.nodes.length)(hwl:∀i,i<g.nodes.length→(nodeAt g i).weights.length≤1000):
  fA fns (.fn 23 [] []) [.ptr wb 0,.int .i64 (a:Int),.int .i64 (b:Int)] S fun r S'=>Same S S'∧∃t,r= .bool t∧(t=true↔aAh g T a b):=by
 have hN2:=G.n2;obtain⟨za,za1,za2⟩:=yG hT hTl (by omega) ha;obtain⟨zb,zb1,zb2⟩:=yG hT hTl (by omega) hb;have snv:=aN.self hn;refine bP H.f23 (by simp) ?_;simp only[↓sU,sD,rE,↓reduceIte,rA];refine bE ?_;refine dG (cs:=[.int .i64 (a:Int)]) rfl ?_;intro S1 s1 n1 g1;refine dG (cs:=[.int .i64 (b:Int)]) rfl ?_;intro S2 s2 n2 g2;have g1':=(s2.2 _ (show S.nx<S1.nx by omega)).trans g1;have s12:=s1.trans s2;simp only[↓sU,sD,rE,↓reduceIte,rA];have hW2:=hB.w.same s12;have gz2:=(s12.2 _ hB.bz).trans hB.gz;have hia:=dI (b:=szb) (o:=false) ha;have hla:=vE gz2 (p:=a) (by rw[hB.lz];exact ha);have hib:=dI (b:=szb) (o:=false) hb;have hlb:=vE gz2 (p:=b) (by rw[hB.lz];exact hb);rw[za] at hla;rw[zb] at hlb;have l4:=fN (p:=0) g1' rfl;have l5:=fN (p:=0) g2 rfl;refine aA (aA (gJ ?_));simp only[↓sU,sD,rE,↓reduceIte,rA,bF,bO,bG,aH,aX,aG,dF hW2.1,l4,l5,aE,hia,hla,hib,hlb];by_cases hsz:cW T a=cW T b;rotate_left
 ·refine aM (by simp only[↓sU,sD,rE,↓reduceIte,rA,Ab (show((cW T a:Nat):Int)≠((cW T b:Nat):Int) by omega)]) ?_;refine bE ?_;simp only[↓sU,sD,rE,↓reduceIte,rA];refine aO ?_;simp only[↓sU,sD,rE,↓reduceIte,rA];exact⟨s12.trans (Same.nx _ _),false,rfl,fun h=>(by cases h),fun h=>absurd h.1 hsz⟩
 refine aK (by simp only[↓sU,sD,rE,↓reduceIte,rA,Aa (show ¬ ((cW T a:Nat):Int)≠((cW T b:Nat):Int) by omega)]) (aI ?_);try simp only[↓sU,sD,rE,↓reduceIte,rA]
 have hmk:∀ (F:Fr) (h:Ev.T AB),aD 4 F= .ptr S.nx 0→aD 5 F= .ptr S1.nx 0→gS (.mkFunc 47 [] [.t 4,.t 5]) F h=some (.fn 47 [] [.ptr S.nx 0,.ptr S1.nx 0]):=fun F h h1 h2=>by
  show some (AV.fn _ (cO [] F) (cO [.t 4,.t 5] F))=_;simp only[cO,lA,h1,h2]
 refine bE ?_;simp only[↓sU,sD,rE,↓reduceIte,rA,hmk];refine aA (aS (Q:=fun o A' X=>(o= .normal∧aNk S2 wb S.nx S1.nx g T a b 0 A' X)∨(o= .ret∧Same S2 X∧¬aAh g T a b∧aD 6 A'.F= .bool false)) (aA (gJ ?_)) ?_);rotate_left
 ·rintro o ⟨F,inr⟩ X (⟨rfl,q0,hX,t,htk,he,_⟩ | ⟨rfl,hX,hne,p6⟩)
  ·simp only at q0;subst q0;obtain rfl:t=cW T a:=by omega
   try simp only[↓sU,sD,rE,↓reduceIte,rA]
   refine bE ?_;simp only[↓sU,sD,rE,↓reduceIte,rA];refine aO ?_;simp only[↓sU,sD,rE,↓reduceIte,rA];exact⟨s12.trans hX,true,rfl,fun _=>⟨hsz,he⟩,fun _=>rfl⟩
  ·simp only at p6;simp only[↓sU,sD,rE,↓reduceIte,rA,p6];exact⟨s12.trans hX,false,rfl,fun h=>(by cases h),fun h=>absurd h hne⟩
 simp only[↓sU,sD,rE,↓reduceIte,rA,bF,bO,bG,aH,aX,aG,dF hW2.1,l4,l5,aE,hia,hla];refine aJ (bB (aNk S2 wb S.nx S1.nx g T a b) ?_ (cW T a) _ _ ⟨rfl,?_,0,by omega,fun j hj=>absurd hj (Ce j),by simp only[↓sU,sD,rE,↓reduceIte,rA],by simp only[↓sU,sD,rE,↓reduceIte,rA],by simp only[↓sU,sD,rE,↓reduceIte,rA],by simp only[↓sU,sD,rE,↓reduceIte,rA];try rfl,by simp only[↓sU,sD,rE,↓reduceIte,rA];try rfl,by simp only[↓sU,sD,rE,↓reduceIte,rA];try rfl⟩);rotate_left
 ·first | exact Same.nx _ _ | exact(Same.nx _ _).trans (Same.nx _ _) | skip
 clear l4 l5 hla hlb hia hib gz2 hW2 hmk;rintro k ⟨F,inr⟩ X ⟨q0,hX,t,htk,he,p0,p4,p5,p7,p33,p34⟩;simp only at q0 p0 p4 p5 p7 p33 p34;subst q0;refine bE ?_;simp only[↓sU,sD,rE,↓reduceIte,rA,p33,p34];by_cases hlt:t<cW T a;rotate_left
 ·refine aA (aK (by simp only[↓sU,sD,rE,↓reduceIte,rA,Aa (show ¬ (t:Int)<((cW T a:Nat):Int) by omega)]) (aU ?_));simp only[↓sU,sD,rE,↓reduceIte,rA];obtain rfl:k=0:=by omega
  exact .inl ⟨rfl,hX,t,htk,he,by refine⟨?_,?_,?_,?_,?_,?_⟩<;>simp only[↓sU,sD,rE,↓reduceIte,rA,p0,p4,p5,p7,p33,p34]⟩
 refine aA (aM (by simp only[↓sU,sD,rE,↓reduceIte,rA,Ab (show(t:Int)<((cW T a:Nat):Int) by omega)]) (aI ?_));try simp only[↓sU,sD,rE,↓reduceIte,rA]
 have hat:a+t<g.nodes.length:=by omega
 have hbt:b+t<g.nodes.length:=by omega
 have w1:IntKind.i64.wrap ((t:Int)+1)=((t+1:Nat):Int):=by rw[wrap_i64 (by omega) (by omega)];omega
 have wa:IntKind.i64.wrap ((a:Int)+(t:Int))=((a+t:Nat):Int):=by rw[wrap_i64 (by omega) (by omega)];omega
 have wb':IntKind.i64.wrap ((b:Int)+(t:Int))=((b+t:Nat):Int):=by rw[wrap_i64 (by omega) (by omega)];omega
 have sX:=s12.trans hX;have hnX:=aN.same (E:=bT) bI hn sX;have hWX:=hB.w.same sX;have g4:=(hX.2 _ (show S.nx<S2.nx by omega)).trans g1';have g5:=(hX.2 _ (show S1.nx<S2.nx by omega)).trans g2;have l4:=fN (p:=0) g4 rfl;have l5:=fN (p:=0) g5 rfl;have lwX:wb<X.nx:=Ae hB.w.2 sX.1;have m2:=hX.1;obtain⟨_,bx,qx,hiax,hbx,_,⟨xa,xw,xp,rfl,hxa,hxw,hxp⟩,hldx,_⟩:=aN.at hnX (by decide) (eC hat);obtain⟨_,by',qy,hiay,hby,_,⟨ya,yw,yp,rfl,hya,hyw,hyp⟩,hldy,_⟩:=aN.at hnX (by decide) (eC hbt);have sx:=pM (x0:=(nodeAt g (a+t)).kind) (x1:=(nodeAt g (a+t)).player) (x2:=(nodeAt g (a+t)).info) (k:=.i64) (bN.self hxa) (bN.self hxw) (bN.self hxp);have sy:=pM (x0:=(nodeAt g (b+t)).kind) (x1:=(nodeAt g (b+t)).player) (x2:=(nodeAt g (b+t)).info) (k:=.i64) (bN.self hya) (bN.self hyw) (bN.self hyp);have l4X:S.nx<X.nx:=by omega
 have l5X:S1.nx<X.nx:=by omega
 refine aA (aJ (aA (aF ?_)));simp only[↓sU,sD,rE,↓reduceIte,rA,p34];refine aA (qS (fun _=>False) ?_);simp only[↓sU,sD,rE,↓reduceIte,rA,p0,p4,p5,Aq,bF,bO,bG,aH,aX,aG,cT hWX.1,lwX,snv,l4,l5,l4X,l5X,dJ,wa,wb',aE,hiax,hldx,sx,hbx,hiay,hldy,sy,hby,uW];refine aGX (n:=6) rfl rfl rfl (by simp only[↓sU,sD,rE,↓reduceIte,rA]) (by simp only[↓sU,sD,rE,↓reduceIte,rA]) (by simp only[↓sU,sD,rE,↓reduceIte,rA];exact bJ _) (by simp only[↓sU,sD,rE,↓reduceIte,rA];exact bJ _) rfl rfl rfl (by omega) (by omega) (by omega) ?_;intro X1 hX1n hgx hgy hX1;rw[cK];have hX1n:X1.nx=X.nx+24:=hX1n;have sX1:Same X X1:=⟨by omega,fun c hc=>hX1 c (by omega) (by omega)⟩;show mA fns _ _ X1 _;have hxa1:=hxa.same sX1;have hya1:=hya.same sX1;have hxw1:=hxw.same sX1;have hyw1:=hyw.same sX1;have hxp1:=hxp.same sX1;have hyp1:=hyp.same sX1;have g41:=(sX1.2 _ l4X).trans g4;have g51:=(sX1.2 _ l5X).trans g5;refine aA (aS (Q:=fun o A' Y=>o= .normal∧A'.inr=false∧Same X1 Y∧aD 0 A'.F= .ptr wb 0∧aD 4 A'.F= .ptr S.nx 0∧aD 5 A'.F= .ptr S1.nx 0∧aD 7 A'.F= .fn 47 [] [.ptr S.nx 0,.ptr S1.nx 0]∧aD 33 A'.F= .int .i64 ((cW T a:Nat):Int)∧aD 34 A'.F= .int .i64 (t:Int)∧∃u,aD 93 A'.F= .bool u∧(u=true↔¬aHA (a:Int) (b:Int) (nodeAt g (a+t)) (nodeAt g (b+t)))) (aF ?_) ?_);rotate_left
 ·clear p0 p4 p5 p7 p33 p34;rintro o ⟨F,inr⟩ Y ⟨rfl,q0,hY,p0,p4,p5,p7,p33,p34,u,p93,hu⟩;simp only at q0 p0 p4 p5 p7 p33 p34 p93;subst q0;have sY:=(hX.trans sX1).trans hY;try simp only[↓sU,sD,rE,↓reduceIte,rA]
  cases u with
  | true=>
   refine aM (by simp only[↓sU,sD,rE,↓reduceIte,rA,p93]) ?_;refine bE ?_;simp only[↓sU,sD,rE,↓reduceIte,rA];refine aO ?_;simp only[↓sU,sD,rE,↓reduceIte,rA];exact .inr ⟨sY,fun h=>hu.1 rfl (h.2 t hlt)⟩
  | false=>
   have hlk:aHA (a:Int) (b:Int) (nodeAt g (a+t)) (nodeAt g (b+t)):=Classical.byContradiction fun h=>by have:=hu.2 h;cases this
   refine aK (by simp only[↓sU,sD,rE,↓reduceIte,rA,p93]) (aI ?_);try simp only[↓sU,sD,rE,↓reduceIte,rA]
   refine aF ?_;simp only[↓sU,sD,rE,↓reduceIte,rA,p34,w1];exact⟨k - 1,by omega,rfl,sY,t+1,by omega,fun j hj=>by
    by_cases e:j=t
    ·rw[e];exact hlk
    ·exact he j (by omega),by refine⟨?_,?_,?_,?_,?_,?_⟩<;>simp only[↓sU,sD,rE,↓reduceIte,rA,p0,p4,p5,p7,p33]⟩
 by_cases c1:(nodeAt g (a+t)).kind=(nodeAt g (b+t)).kind;rotate_left
 ·simp only[↓sU,sD,rE,↓reduceIte,rA,p0,p4,p5,p7,p33,p34,aH,aG,dK hgx,dK hgy,Ab (show(nodeAt g (a+t)).kind≠(nodeAt g (b+t)).kind from c1)];exact⟨Same.refl _,true,rfl,fun _ h=>c1 h.1,fun _=>rfl⟩
 have c1':=Aa (show ¬ (nodeAt g (a+t)).kind≠(nodeAt g (b+t)).kind from fun h=>h c1);by_cases c2:(nodeAt g (a+t)).player=(nodeAt g (b+t)).player;rotate_left
 ·simp only[↓sU,sD,rE,↓reduceIte,rA,p0,p4,p5,p7,p33,p34,aH,aG,dK hgx,dK hgy,cT hgx,cT hgy,c1',Ab (show(nodeAt g (a+t)).player≠(nodeAt g (b+t)).player from c2)];exact⟨Same.refl _,true,rfl,fun _ h=>c2 h.2.1,fun _=>rfl⟩
 have c2':=Aa (show ¬ (nodeAt g (a+t)).player≠(nodeAt g (b+t)).player from fun h=>h c2);simp only[↓sU,sD,rE,↓reduceIte,rA,p0,p4,p5,p7,p33,p34,aH,aG,dK hgx,dK hgy,cT hgx,cT hgy,dF hgx,dF hgy,c1',c2'];refine aY ?_;simp only[↓sU,sD,rE,↓reduceIte,rA];refine aP (wC H hxp1 hyp1 (by have:=G.pay _ hat;omega)) ?_;rintro _ Y ⟨rfl,hY⟩;have lx1:X.nx+20<X1.nx:=by omega
 have ly1:X.nx+21<X1.nx:=by omega
 have hgxY:=(hY.2 _ lx1).trans hgx;have hgyY:=(hY.2 _ ly1).trans hgy;by_cases c3:(nodeAt g (a+t)).pay=(nodeAt g (b+t)).pay;rotate_left
 ·rw[Aa c3];simp only[↓sU,sD,rE,↓reduceIte,rA,dH,Bq,aH,aG,p0,p4,p5,p7,p33,p34];exact⟨hY,true,rfl,fun _ h=>c3 h.2.2.1,fun _=>rfl⟩
 rw[Ab c3];simp only[↓sU,sD,rE,↓reduceIte,rA,dH,Bl,aH,aG,cU hgxY,cU hgyY,p0,p4,p5,p7,p33,p34];refine aY ?_;simp only[↓sU,sD,rE,↓reduceIte,rA];refine aP (wC H (hxw1.same hY) (hyw1.same hY) (by have:=hwl _ hat;omega)) ?_;rintro _ Y2 ⟨rfl,hY2⟩;have hgx2:=(hY2.2 _ (Ae lx1 hY.1)).trans hgxY;have hgy2:=(hY2.2 _ (Ae ly1 hY.1)).trans hgyY;have sY2:=hY.trans hY2;by_cases c4:(nodeAt g (a+t)).weights=(nodeAt g (b+t)).weights;rotate_left
 ·rw[Aa c4];simp only[↓sU,sD,rE,↓reduceIte,rA,dH,Bq,aH,aG,p0,p4,p5,p7,p33,p34];exact⟨sY2,true,rfl,fun _ h=>c4 h.2.2.2.1,fun _=>rfl⟩
 rw[Ab c4];simp only[↓sU,sD,rE,↓reduceIte,rA,dH,Bl,aH,aG,cP hgx2,cP hgy2,p0,p4,p5,p7,p33,p34];refine aY ?_;simp only[↓sU,sD,rE,↓reduceIte,rA,p7];have kb:=fun i (hi:i<g.nodes.length) j (hj:j<(nodeAt g i).next.length)=>G.kids i hi j hj;have s12':=sX1.trans sY2;refine aP (aEG H (hxa.same s12') (hya.same s12') ((s12'.2 _ l4X).trans g4) ((s12'.2 _ l5X).trans g5) (Ae l4X s12'.1) (Ae l5X s12'.1) (by omega) (by omega) (fun j hj=>by have:=kb _ hat j hj;omega) (fun j hj=>by have:=kb _ hbt j hj;omega) (by have:=G.nxt _ hat;omega)) ?_;rintro _ Y3 ⟨hY3,u,rfl,hu⟩;simp only[↓sU,sD,rE,↓reduceIte,rA,dH,p0,p4,p5,p7,p33,p34];refine⟨sY2.trans hY3, !u,rfl,?_⟩;cases u with
 | true=>exact⟨fun h=>(by cases h),fun h=>absurd ⟨c1,c2,c3,c4,hu.1 rfl⟩ h⟩
 | false=>exact⟨fun _ h=>(by have:=hu.2 h.2.2.2.2;cases this),fun _=>rfl⟩
theorem bN.ptr{k:IntKind}{S:St}{v:AV}{l:List Int}{i:Nat}(h:bN k S v l)(hi:i<l.length):∃b off,eU (.slice 1) v i=some (.ptr b off)∧b<S.nx∧dT (.ptr b off) false 1 S.h=some (.int k (l.getD i 0)):=by
 have ia:=h.iaddr hi;have ld:=h.ld hi;rcases h with⟨h0,_⟩ | ⟨b,off,cap,o,cs,rfl,_,hb,_⟩
 ·rw[h0] at hi;simp at hi
 ·simp only[aAn] at ia ld;exact⟨b,_,ia,hb,ld⟩
def aGU(g:aW)(T:List cC)(i k j:Nat):Prop:=(nodeAt g i).weights.getD k 0=(nodeAt g i).weights.getD j 0∧aAh g T ((nodeAt g i).next.getD k 0).toNat ((nodeAt g i).next.getD j 0).toNat∧fT g (sL g.nodes.length ((nodeAt g i).next.getD k 0).toNat ((nodeAt g i).next.getD j 0).toNat (cW T ((nodeAt g i).next.getD k 0).toNat))
open Classical in
noncomputable def gQ(g:aW)(T:List cC)(i k:Nat):Nat→List (List Int)
 | 0=>[]
 | j+1=>gQ g T i k j++if k<j∧aGU g T i k j then [sL g.nodes.length ((nodeAt g i).next.getD k 0).toNat ((nodeAt g i).next.getD j 0).toNat (cW T ((nodeAt g i).next.getD k 0).toNat)] else []
noncomputable def iF(g:aW)(T:List cC)(i:Nat):Nat→List (List Int)
 | 0=>[]
 | k+1=>iF g T i k++gQ g T i k (nodeAt g i).next.length
noncomputable def eQ(g:aW)(T:List cC):Nat→List (List Int)
 | 0=>[]
 | i+1=>eQ g T i++if(nodeAt g i).kind=1 then iF g T i (nodeAt g i).next.length else []
open Classical in
theorem zV{g:aW}{T:List cC}{i k:Nat}:∀ {j:Nat},j≤k+1→gQ g T i k j= []
 | 0,_=>rfl
 | j+1,h=>by
  show gQ g T i k j++(if _ then _ else [])= [];rw[zV (by omega),if_neg (fun e=>by have:=e.1;omega)];rfl
theorem aKD{N a b n j:Nat}(hab:a+n≤b)(hbn:b+n≤N)(hj:j<N):swF a b n j<N:=by
 unfold swF;split
 ·omega
 ·split<;>omega
theorem aEj{g:aW}{a b n:Nat}(hab:a+n≤b)(hbn:b+n≤g.nodes.length):xI g (sL g.nodes.length a b n):=
 aLU (by unfold sL;rw[Bc,Db]) fun i hi=>by
  unfold sL;rw[mV hi];have:=aKD hab hbn hi;omega
theorem aJn{N a b n j:Nat}(hab:a+n≤b)(_hj:j<N):swF a b n (swF a b n j)=j:=by
 unfold swF;by_cases e1:a≤j∧j<a+n
 ·rw[if_pos e1,if_neg (show ¬ (a≤j - a+b∧j - a+b<a+n) by omega),if_pos (show b≤j - a+b∧j - a+b<b+n by omega)];omega
 ·rw[if_neg e1];by_cases e2:b≤j∧j<b+n
  ·rw[if_pos e2,if_pos (show a≤j - b+a∧j - b+a<a+n by omega)];omega
  ·rw[if_neg e2,if_neg e1,if_neg e2]
theorem aGD{N a b n i:Nat}(hi:i<N):eB (sL N a b n) i=swF a b n i:=by
 unfold eB sL;rw[mV hi,Bf]
theorem aEB{g:aW}{a b n:Nat}(hab:a+n≤b)(hbn:b+n≤g.nodes.length)(hA:fT g (sL g.nodes.length a b n)):nK g (sL g.nodes.length a b n)∧aID g (sL g.nodes.length a b n):=by
 have M:=aEj (g:=g) hab hbn;have h2:aID g (sL g.nodes.length a b n):=fun i hi=>by
  rw[aGD hi,aGD (aKD hab hbn hi)];exact aJn hab hi
 refine⟨⟨M,?_,hA⟩,h2⟩;rintro⟨i,k,hki,hi,he⟩;rw[M.len] at hi;have e1:=(M.at hi).1;have e2:=(M.at (show k<g.nodes.length by omega)).1;have e3:eB (sL g.nodes.length a b n) i=eB (sL g.nodes.length a b n) k:=by omega
 have:=h2 i hi;rw[e3,h2 k (by omega)] at this;omega
structure aMx(g:aW)(T:List cC)(i k j:Nat):Prop where
 ap:((nodeAt g i).next.getD k 0).toNat+cW T ((nodeAt g i).next.getD k 0).toNat≤((nodeAt g i).next.getD j 0).toNat
 la:((nodeAt g i).next.getD k 0).toNat<g.nodes.length
 lb:((nodeAt g i).next.getD j 0).toNat<g.nodes.length
 nb:((nodeAt g i).next.getD j 0).toNat+cW T ((nodeAt g i).next.getD j 0).toNat≤g.nodes.length
 za:(szL T g.nodes.length).getD ((nodeAt g i).next.getD k 0).toNat 0=((cW T ((nodeAt g i).next.getD k 0).toNat:Nat):Int)
theorem aG5{g:aW}{T:List cC}{i k j:Nat}(G:fC g)(hT:eK g=some T)(hTl:T.length=g.nodes.length)(hi:i<g.nodes.length)(hkj:k<j)(hj:j<(nodeAt g i).next.length):aMx g T i k j:=by
 have hN:=G.n2;obtain⟨a1,a2⟩:=G.kids i hi k (by omega);obtain⟨b1,b2⟩:=G.kids i hi j hj;obtain⟨_,_,z3⟩:=yG hT hTl (by omega) (show((nodeAt g i).next.getD j 0).toNat<g.nodes.length by omega);exact⟨aCv hT hTl hi hkj hj (by omega),by omega,by omega,z3,(yG hT hTl (by omega) (show((nodeAt g i).next.getD k 0).toNat<g.nodes.length by omega)).1⟩
theorem aJJ{g:aW}{T:List cC}(G:fC g)(hT:eK g=some T)(hTl:T.length=g.nodes.length):∀m∈eQ g T g.nodes.length,nK g m∧aID g m:=by
 have hJ:∀i k,i<g.nodes.length→∀j,j≤(nodeAt g i).next.length→∀m∈gQ g T i k j,nK g m∧aID g m:=by
  intro i k hi j
  induction j with
  | zero=>intro _ m hm;cases hm
  | succ j ih=>
   intro hj m hm;rcases Bv.1 hm with h | h
   ·exact ih (by omega) m h
   ·split at h
    ·rename_i hc;obtain⟨hkj,_,hal,hA⟩:=hc;have P:=aG5 G hT hTl hi hkj (show j<(nodeAt g i).next.length by omega);rw[Er.1 h];have:=P.nb;have:=hal.1;exact aEB P.ap (by omega) hA
    ·cases h
 have hK:∀i,i<g.nodes.length→∀k,∀m∈iF g T i k,nK g m∧aID g m:=by
  intro i hi k
  induction k with
  | zero=>intro m hm;cases hm
  | succ k ih=>
   intro m hm;rcases Bv.1 hm with h | h
   ·exact ih m h
   ·exact hJ i k hi _ (Ah _) m h
 have hI:∀i,i≤g.nodes.length→∀m∈eQ g T i,nK g m∧aID g m:=by
  intro i
  induction i with
  | zero=>intro _ m hm;cases hm
  | succ i ih=>
   intro hi m hm;rcases Bv.1 hm with h | h
   ·exact ih (by omega) m h
   ·split at h
    ·exact hK i (by omega) _ m h
    ·cases h
 exact hI _ (Ah _)
structure SwH(S2 X:St)(wb:Nat)(nv:AV)(g:aW)(pv:AV)(cs:List AV)(L:List (List Int))(i:Nat)(F:Fr):Prop where
 same:Same S2 X
 gr:jZ 1 S2 X pv L.length cs
 rw:vO S2 X pv cs L
 t4:aD 4 F= .ptr wb 0
 t6:aD 6 F=pv
 t24:aD 24 F=nv
 t25:aD 25 F= .int .i64 ((g.nodes.length:Nat):Int)
 t26:aD 26 F= .int .i64 (i:Int)
def aL2(S2:St)(wb:Nat)(nv:AV)(g:aW)(T:List cC)(k:Nat)(A:bH)(X:St):Prop:=A.inr=false∧∃ (i:Nat) (pv:AV) (cs:List AV),i+k=g.nodes.length∧SwH S2 X wb nv g pv cs (eQ g T i) i A.F
def aL1(S2:St)(wb nb:Nat)(nv xa:AV)(g:aW)(T:List cC)(cells:List AV)(i:Nat)(k:Nat)(A:bH)(X:St):Prop:=A.inr=false∧nb<X.nx∧X.h.get nb=some (.cells cells false 0)∧∃ (q:Nat) (pv:AV) (cs:List AV),q+k=(nodeAt g i).next.length∧SwH S2 X wb nv g pv cs (eQ g T i++iF g T i q) i A.F∧aD 8 A.F= .ptr nb 0∧aD 34 A.F=xa∧aD 35 A.F= .int .i64 (((nodeAt g i).next.length:Nat):Int)∧aD 36 A.F= .int .i64 (q:Int)
def aJf(S2:St)(wb nb:Nat)(nv xa:AV)(g:aW)(T:List cC)(cells:List AV)(i q:Nat)(k:Nat)(A:bH)(X:St):Prop:=A.inr=false∧nb<X.nx∧X.h.get nb=some (.cells cells false 0)∧∃ (j:Nat) (pv:AV) (cs:List AV),j+k=(nodeAt g i).next.length∧q<j∧SwH S2 X wb nv g pv cs (eQ g T i++(iF g T i q++gQ g T i q j)) i A.F∧aD 8 A.F= .ptr nb 0∧aD 34 A.F=xa∧aD 35 A.F= .int .i64 (((nodeAt g i).next.length:Nat):Int)∧aD 36 A.F= .int .i64 (q:Int)∧aD 9 A.F= .int .i64 (q:Int)∧aD 10 A.F= .int .i64 ((nodeAt g i).next.getD q 0)∧aD 11 A.F= .int .i64 (j:Int)
theorem SwH.step{S2 X Y:St}{wb:Nat}{nv pv:AV}{g:aW}{cs:List AV}{L:List (List Int)}{i:Nat}{F F':Fr}(h:SwH S2 X wb nv g pv cs L i F)(hs:Same X Y)(h4:aD 4 F'=aD 4 F)(h6:aD 6 F'=aD 6 F)(h24:aD 24 F'=aD 24 F)(h25:aD 25 F'=aD 25 F)(h26:aD 26 F'=aD 26 F):SwH S2 Y wb nv g pv cs L i F':=
 ⟨h.same.trans hs,h.gr.step hs,⟨h.rw.1,fun j hj=>by
  obtain⟨r,h1,h2,h3⟩:=h.rw.2 j hj;exact⟨r,h1,h2.same hs,h3⟩⟩,h4.trans h.t4,h6.trans h.t6,h24.trans h.t24,h25.trans h.t25,h26.trans h.t26⟩
open Classical in
theorem aFD{g:aW}{T:List cC}{i k j:Nat}(hkj:k<j)(h:aGU g T i k j):gQ g T i k (j+1)=gQ g T i k j++ [sL g.nodes.length ((nodeAt g i).next.getD k 0).toNat ((nodeAt g i).next.getD j 0).toNat (cW T ((nodeAt g i).next.getD k 0).toNat)]:=by
 show gQ g T i k j++(if _ then _ else [])=_;rw[if_pos ⟨hkj,h⟩]
open Classical in
theorem aDh{g:aW}{T:List cC}{i k j:Nat}(h:¬aGU g T i k j):gQ g T i k (j+1)=gQ g T i k j:=by
 show gQ g T i k j++(if _ then _ else [])=_;rw[if_neg (fun e=>h e.2),Bs]
open Classical in
theorem uT{g:aW}{T:List cC}{i k:Nat}:∀ {j:Nat},(gQ g T i k j).length≤j
 | 0=>Ah _
 | j+1=>by
  have ih:=uT (g:=g) (T:=T) (i:=i) (k:=k) (j:=j);show(gQ g T i k j++(if _ then _ else [])).length≤_;rw[Ak];split
  ·rw[Bz];omega
  ·show _+0≤_;omega
theorem pO{g:aW}{T:List cC}{i:Nat}:∀ {k:Nat},(iF g T i k).length≤k * (nodeAt g i).next.length
 | 0=>Cj _
 | k+1=>by
  have ih:=pO (g:=g) (T:=T) (i:=i) (k:=k);have:=uT (g:=g) (T:=T) (i:=i) (k:=k) (j:=(nodeAt g i).next.length);show(iF g T i k++gQ g T i k _).length≤_;rw[Ak,Eo];omega
theorem zH{g:aW}{T:List cC}(G:fC g):∀ {i:Nat},i≤g.nodes.length→(eQ g T i).length≤i * 1000000
 | 0,_=>Cj _
 | i+1,hi=>by
  have ih:=zH (T:=T) G (i:=i) (by omega);have h1:=pO (g:=g) (T:=T) (i:=i) (k:=(nodeAt g i).next.length);have h2:(nodeAt g i).next.length * (nodeAt g i).next.length≤1000 * 1000:=Nat.mul_le_mul (G.nxt i (by omega)) (G.nxt i (by omega));have e:(if(nodeAt g i).kind=1 then iF g T i (nodeAt g i).next.length else []).length≤1000 * 1000:=by
   split
   ·exact Ay h1 h2
   ·exact Cj _
  show(eQ g T i++(if _ then _ else [])).length≤_;rw[Ak];clear h1 h2 hi;omega
theorem aJS{ps:Int}{ni:Nat}{x:dW}(h:fM ps ni x=0):x.weights.length≤1000:=by
 unfold fM at h;split at h
 ·split at h
  ·cases h
  ·rename_i hb;unfold kT at hb;omega
 ·split at h
  ·split at h
   ·cases h
   ·rename_i hb;unfold sK at hb;omega
  ·split at h
   ·split at h
    ·cases h
    ·rename_i hb;unfold lD at hb;omega
   ·cases h
theorem aGb{g:aW}(h:cM g=0){i:Nat}(hi:i<g.nodes.length):fM g.players g.infos.length (nodeAt g i)=0:=by
 unfold cM at h;split at h
 ·cases h
 split at h
 ·rename_i h1;exact absurd h h1
 rename_i hN;exact fZ (Du.1 hN) _ (Bm (eC hi))
theorem aF3{S:St}{nv iv:AV}{g:aW}(H:Has fns)(hn:aN 6 bT S nv g.nodes)(hi:aN 2 cV S iv g.infos)(hln:g.nodes.length≤100000):
  fA fns (.fn 6 [] []) [.agg [.int .i64 g.players,nv,iv]] S fun r S'=>Same S S'∧∃v,r= .tup [v,.int .i64 (cM g)]∧(cM g≠0→v= .nilsl)∧(cM g=0→∃T,eK g=some T∧T.length=g.nodes.length∧aN 1 kJ S' v (eQ g T g.nodes.length)∧∀X':St,S'.nx≤X'.nx→(∀c,c<S'.nx→S.nx≤c→X'.h.get c=S'.h.get c)→aN 1 kJ X' v (eQ g T g.nodes.length)):=by
 have snv:=aN.self hn;refine bP H.f6 (by simp) ?_;simp only[↓sU,sD,rE,↓reduceIte,rA];refine bE ?_;refine dG (cs:=[.int .i64 g.players,nv,iv]) rfl ?_;intro S1 s1 n1 g1;simp only[↓sU,sD,rE,↓reduceIte,rA];refine bE ?_;simp only[↓sU,sD,rE,↓reduceIte,rA,gG g1];refine aY ?_;simp only[↓sU,sD,rE,↓reduceIte,rA];refine aP (aCj H (aN.same (E:=bT) bI hn s1) (aN.same (E:=cV) cE hi s1) hln) ?_;rintro _ S2 ⟨s2,p,rfl,hlook⟩;simp only[↓sU,sD,rE,↓reduceIte,rA,ex0,ex1];have s12:=s1.trans s2;refine eG ?_;simp only[↓sU,sD,rE,↓reduceIte,rA];by_cases h0:cM g=0;rotate_left
 ·refine aM (by simp only[↓sU,sD,rE,↓reduceIte,rA,Ab (show cM g≠0 from h0)]) ?_;refine bE ?_;simp only[↓sU,sD,rE,↓reduceIte,rA];refine aO ?_;simp only[↓sU,sD,rE,↓reduceIte,rA];exact⟨s12,.nilsl,rfl,fun _=>rfl,fun h=>absurd h h0⟩
 refine aK (by simp only[↓sU,sD,rE,↓reduceIte,rA,Aa (show ¬cM g≠0 from fun h=>h h0)]) (aI ?_);try simp only[↓sU,sD,rE,↓reduceIte,rA]
 obtain⟨wb,plb,szb,pv0,T,rfl,hwb,hT,hTl,hpv,hB⟩:=hlook h0;have G:=kA h0;have K:=aEZ h0;have hN2:=G.n2;have hn2:=aN.same (E:=bT) bI hn s12;have hi2:=aN.same (E:=cV) cE hi s12;have g2:=(s2.2 _ (show S.nx<S1.nx by omega)).trans g1;have hwl:∀i,i<g.nodes.length→(nodeAt g i).weights.length≤1000:=fun i hi=>aJS (aGb h0 hi);refine bE ?_;simp only[↓sU,sD,rE,↓reduceIte,rA];refine eG ?_;simp only[↓sU,sD,rE,↓reduceIte,rA,aH,aG,eF g2,hn2.len,snv];refine aS (Q:=fun o A' X=>o= .normal∧aL2 S2 wb nv g T 0 A' X) (aJ (bB (aL2 S2 wb nv g T) ?_ g.nodes.length _ _ ⟨rfl,0,.nilsl,[],by omega,⟨Same.refl _,.inl ⟨rfl,rfl,rfl⟩,⟨rfl,fun j hj=>absurd hj (Ce j)⟩,by simp only[↓sU,sD,rE,↓reduceIte,rA],by simp only[↓sU,sD,rE,↓reduceIte,rA];try rfl,by simp only[↓sU,sD,rE,↓reduceIte,rA];try rfl,by simp only[↓sU,sD,rE,↓reduceIte,rA];try rfl,by simp only[↓sU,sD,rE,↓reduceIte,rA];try rfl⟩⟩)) ?_;rotate_left
 ·rintro o ⟨F,inr⟩ X ⟨rfl,q0,i,pv,cs,hik,hS⟩;simp only at q0 hS;subst q0;obtain rfl:i=g.nodes.length:=by omega
  try simp only[↓sU,sD,rE,↓reduceIte,rA]
  refine bE ?_;simp only[↓sU,sD,rE,↓reduceIte,rA,hS.t6];refine aO ?_;simp only[↓sU,sD,rE,↓reduceIte,rA];refine⟨s12.trans hS.same,pv,by rw[h0],fun h=>absurd h0 h,fun _=>⟨T,hT,hTl,hS.rw.is hS.gr rfl,fun X' hn' hk'=>?_⟩⟩;have n12:=s12.1;have hr':vO S2 X' pv cs (eQ g T g.nodes.length):=⟨hS.rw.1,fun j hj=>by
   obtain⟨r,h1,h2,h3⟩:=hS.rw.2 j hj;exact⟨r,h1,lT h2 hn' fun c hc=>hk' c (aB8 h2 hc) (Ay n12 (h3 c hc).1),h3⟩⟩
  exact hr'.is (hS.gr.move hn' fun c hc=>hk' c (hS.gr.blk hc).2.1 (Ay n12 (hS.gr.blk hc).1)) rfl
 rintro k ⟨F,inr⟩ V ⟨q0,i,pv,cs,hik,hS⟩;simp only at q0 hS;subst q0;refine bE ?_;simp only[↓sU,sD,rE,↓reduceIte,rA,hS.t25,hS.t26];by_cases hlt:i<g.nodes.length;rotate_left
 ·refine aA (aK (by simp only[↓sU,sD,rE,↓reduceIte,rA,Aa (show ¬ (i:Int)<((g.nodes.length:Nat):Int) by omega)]) (aU ?_));simp only[↓sU,sD,rE,↓reduceIte,rA];obtain rfl:k=0:=by omega
  exact⟨rfl,i,pv,cs,hik,hS.step (Same.refl _) (by simp only[↓sU,sD,rE,↓reduceIte,rA]) (by simp only[↓sU,sD,rE,↓reduceIte,rA]) (by simp only[↓sU,sD,rE,↓reduceIte,rA]) (by simp only[↓sU,sD,rE,↓reduceIte,rA]) (by simp only[↓sU,sD,rE,↓reduceIte,rA])⟩
 refine aA (aM (by simp only[↓sU,sD,rE,↓reduceIte,rA,Ab (show(i:Int)<((g.nodes.length:Nat):Int) by omega)]) (aI ?_));try simp only[↓sU,sD,rE,↓reduceIte,rA]
 obtain⟨_,bx,qx,hiax,hbx,_,⟨xa,xw,xp,rfl,hxa,hxw,hxp⟩,hldx,_⟩:=aN.at hn2 (by decide) (eC hlt);rw[←jO hS.same hbx] at hldx;have w0:IntKind.i64.wrap ((i:Int)+1)=((i+1:Nat):Int):=by rw[wrap_i64 (by omega) (by omega)];omega
 refine aA (aJ (aA (aF ?_)));simp only[↓aC,aB,rE,↓reduceIte,rA,hS.t24,hS.t26,aE,hiax,hldx];refine dO ?_;intro W1 v1 k1 h1;try simp only[↓aC,aB,rE,↓reduceIte,rA]
 refine fI (b:=V.nx) (by simp only[↓aC,aB,rE,↓reduceIte,rA]) (by simp only[↓aC,aB,rE,↓reduceIte,rA];exact bJ _) h1 rfl rfl ?_;intro Y v2 k2 h2;simp only[↓aC,aB,rE,↓reduceIte,rA];have sVY:Same V Y:=v2.same v1 (Ah _);have lxY:V.nx<Y.nx:=by omega
 have nV:=hS.same.1;clear v1 v2 h1 k1;refine eG ?_;simp only[↓sU,sD,rE,↓reduceIte,rA,aH,aG,dK h2];by_cases hk1:(nodeAt g i).kind=1;rotate_left
 ·refine aM (by simp only[↓sU,sD,rE,↓reduceIte,rA,Ab (show(nodeAt g i).kind≠1 from hk1)]) (aU ?_);simp only[↓sU,sD,rE,↓reduceIte,rA];refine aF ?_;simp only[↓sU,sD,rE,↓reduceIte,rA,hS.t26,w0];have e:eQ g T (i+1)=eQ g T i:=by
   show eQ g T i++(if _ then _ else [])=_;rw[if_neg hk1,Bs]
  have hS':=hS.step (F':=F) sVY rfl rfl rfl rfl rfl;refine⟨k - 1,by omega,rfl,i+1,pv,cs,by omega,?_⟩;rw[e];exact⟨hS'.same,hS'.gr,hS'.rw,by simp only[↓sU,sD,rE,↓reduceIte,rA,hS.t4],by simp only[↓sU,sD,rE,↓reduceIte,rA,hS.t6],by simp only[↓sU,sD,rE,↓reduceIte,rA,hS.t24],by simp only[↓sU,sD,rE,↓reduceIte,rA,hS.t25],by simp only[↓sU,sD,rE,↓reduceIte,rA]⟩
 refine aK (by simp only[↓sU,sD,rE,↓reduceIte,rA,Aa (show ¬ (nodeAt g i).kind≠1 from fun h=>h hk1)]) (aI ?_);try simp only[↓sU,sD,rE,↓reduceIte,rA]
 have e1:eQ g T (i+1)=eQ g T i++iF g T i (nodeAt g i).next.length:=by
  show eQ g T i++(if _ then _ else [])=_;rw[if_pos hk1]
 have hwn:=G.wts i hlt hk1;have hnx:=G.nxt i hlt;have sxa:=bN.self hxa;refine bE ?_;simp only[↓sU,sD,rE,↓reduceIte,rA,aH,aG,cP h2,(hxa.same (hS.same.trans sVY)).len,sxa];generalize hcells: [AV.int .i64 (nodeAt g i).kind,.int .i64 (nodeAt g i).player,.int .i64 (nodeAt g i).info,xa,xw,xp]=cells at h2;refine aS (Q:=fun o A' X=>o= .normal∧aL1 S2 wb V.nx nv xa g T cells i 0 A' X) (aJ (bB (aL1 S2 wb V.nx nv xa g T cells i) ?_ (nodeAt g i).next.length _ _ ⟨rfl,lxY,h2,0,pv,cs,by omega,?_,by simp only[↓sU,sD,rE,↓reduceIte,rA],by simp only[↓sU,sD,rE,↓reduceIte,rA],by simp only[↓sU,sD,rE,↓reduceIte,rA];try rfl,by simp only[↓sU,sD,rE,↓reduceIte,rA];try rfl⟩)) ?_;rotate_left
 ·show SwH S2 Y wb nv g pv cs (eQ g T i++ []) i _;rw[Bs];exact hS.step sVY (by simp only[↓sU,sD,rE,↓reduceIte,rA]) (by simp only[↓sU,sD,rE,↓reduceIte,rA]) (by simp only[↓sU,sD,rE,↓reduceIte,rA]) (by simp only[↓sU,sD,rE,↓reduceIte,rA]) (by simp only[↓sU,sD,rE,↓reduceIte,rA])
 ·rintro o ⟨F,inr⟩ X ⟨rfl,q0,_,_,q,pv,cs,hqk,hSX,_⟩;simp only at q0 hSX;subst q0;obtain rfl:q=(nodeAt g i).next.length:=by omega
  try simp only[↓sU,sD,rE,↓reduceIte,rA]
  refine aF ?_;simp only[↓sU,sD,rE,↓reduceIte,rA,hSX.t26,w0];refine⟨k - 1,by omega,rfl,i+1,pv,cs,by omega,?_⟩;rw[e1];exact⟨hSX.same,hSX.gr,hSX.rw,by simp only[↓sU,sD,rE,↓reduceIte,rA,hSX.t4],by simp only[↓sU,sD,rE,↓reduceIte,rA,hSX.t6],by simp only[↓sU,sD,rE,↓reduceIte,rA,hSX.t24],by simp only[↓sU,sD,rE,↓reduceIte,rA,hSX.t25],by simp only[↓sU,sD,rE,↓reduceIte,rA]⟩
 clear hS h2 sVY hldx e1 w0 hik;rintro k2 ⟨F,inr⟩ X ⟨q0,lxX,hX,q,pv,cs,hqk,hS,t8,t34,t35,t36⟩;simp only at q0 hS t8 t34 t35 t36;subst q0;refine bE ?_;simp only[↓sU,sD,rE,↓reduceIte,rA,t35,t36];by_cases hql:q<(nodeAt g i).next.length;rotate_left
 ·refine aA (aK (by simp only[↓sU,sD,rE,↓reduceIte,rA,Aa (show ¬ (q:Int)<(((nodeAt g i).next.length:Nat):Int) by omega)]) (aU ?_));simp only[↓sU,sD,rE,↓reduceIte,rA];obtain rfl:k2=0:=by omega
  exact⟨rfl,lxX,hX,q,pv,cs,hqk,hS.step (Same.refl _) (by simp only[↓sU,sD,rE,↓reduceIte,rA]) (by simp only[↓sU,sD,rE,↓reduceIte,rA]) (by simp only[↓sU,sD,rE,↓reduceIte,rA]) (by simp only[↓sU,sD,rE,↓reduceIte,rA]) (by simp only[↓sU,sD,rE,↓reduceIte,rA]),by refine⟨?_,?_,?_,?_⟩<;>simp only[↓sU,sD,rE,↓reduceIte,rA,t8,t34,t35,t36]⟩
 refine aA (aM (by simp only[↓sU,sD,rE,↓reduceIte,rA,Ab (show(q:Int)<(((nodeAt g i).next.length:Nat):Int) by omega)]) (aI ?_));try simp only[↓sU,sD,rE,↓reduceIte,rA]
 have hia:=(hxa.same hS.same).iaddr hql;have hla:=(hxa.same hS.same).ld hql;have w1:IntKind.i64.wrap ((q:Int)+1)=((q+1:Nat):Int):=by rw[wrap_i64 (by omega) (by omega)];omega
 refine aA (aJ (aA (aF ?_)));simp only[↓sU,sD,rE,↓reduceIte,rA,t34,t36,aE,hia,hla];refine bE ?_;simp only[↓sU,sD,rE,↓reduceIte,rA,w1];have e2:iF g T i (q+1)=iF g T i q++gQ g T i q (nodeAt g i).next.length:=rfl;refine aS (Q:=fun o A' Z=>o= .normal∧aJf S2 wb V.nx nv xa g T cells i q 0 A' Z) (aJ (bB (aJf S2 wb V.nx nv xa g T cells i q) ?_ ((nodeAt g i).next.length - (q+1)) _ _ ⟨rfl,lxX,hX,q+1,pv,cs,by omega,by omega,?_,by simp only[↓sU,sD,rE,↓reduceIte,rA,t8],by simp only[↓sU,sD,rE,↓reduceIte,rA,t34],by simp only[↓sU,sD,rE,↓reduceIte,rA,t35],by simp only[↓sU,sD,rE,↓reduceIte,rA,t36],by simp only[↓sU,sD,rE,↓reduceIte,rA],by simp only[↓sU,sD,rE,↓reduceIte,rA];try rfl,by simp only[↓sU,sD,rE,↓reduceIte,rA];try rfl⟩)) ?_;rotate_left
 ·rw[zV (Ah _),Bs];exact hS.step (Same.refl _) (by simp only[↓sU,sD,rE,↓reduceIte,rA]) (by simp only[↓sU,sD,rE,↓reduceIte,rA]) (by simp only[↓sU,sD,rE,↓reduceIte,rA]) (by simp only[↓sU,sD,rE,↓reduceIte,rA]) (by simp only[↓sU,sD,rE,↓reduceIte,rA])
 ·rintro o ⟨F,inr⟩ Z ⟨rfl,q0,lxZ,hZ,j,pv,cs,hjk,_,hSZ,t8,t34,t35,t36,_⟩;simp only at q0 hSZ t8 t34 t35 t36;subst q0;obtain rfl:j=(nodeAt g i).next.length:=by omega
  try simp only[↓sU,sD,rE,↓reduceIte,rA]
  refine aF ?_;simp only[↓sU,sD,rE,↓reduceIte,rA,t36,w1];refine⟨k2 - 1,by omega,rfl,lxZ,hZ,q+1,pv,cs,by omega,?_,by refine⟨?_,?_,?_,?_⟩<;>simp only[↓sU,sD,rE,↓reduceIte,rA,t8,t34,t35]⟩;rw[e2];exact hSZ.step (Same.refl _) (by simp only[↓sU,sD,rE,↓reduceIte,rA]) (by simp only[↓sU,sD,rE,↓reduceIte,rA]) (by simp only[↓sU,sD,rE,↓reduceIte,rA]) (by simp only[↓sU,sD,rE,↓reduceIte,rA]) (by simp only[↓sU,sD,rE,↓reduceIte,rA])
 clear hS hX lxX t8 t34 t35 t36 hia hla hqk e2;rintro k3 ⟨F,inr⟩ X ⟨q0,lxX,hX,j,pv,cs,hjk,hqj,hS,t8,t34,t35,t36,t9,t10,t11⟩;simp only at q0 hS t8 t34 t35 t36 t9 t10 t11;subst q0;rw[←hcells] at hX;have hxaX:=hxa.same hS.same;have hxwX:=hxw.same hS.same;refine eG ?_;simp only[↓sU,sD,rE,↓reduceIte,rA,t8,t11,aH,aG,cP hX,hxaX.len,Ag];by_cases hjl:j<(nodeAt g i).next.length;rotate_left
 ·refine aK (by simp only[↓sU,sD,rE,↓reduceIte,rA,Aa (show ¬ (j:Int)<(((nodeAt g i).next.length:Nat):Int) by omega)]) (aU ?_);simp only[↓sU,sD,rE,↓reduceIte,rA];obtain rfl:k3=0:=by omega
  exact⟨rfl,lxX,by rw[←hcells];exact hX,j,pv,cs,hjk,hqj,hS.step (Same.refl _) (by simp only[↓sU,sD,rE,↓reduceIte,rA]) (by simp only[↓sU,sD,rE,↓reduceIte,rA]) (by simp only[↓sU,sD,rE,↓reduceIte,rA]) (by simp only[↓sU,sD,rE,↓reduceIte,rA]) (by simp only[↓sU,sD,rE,↓reduceIte,rA]),by refine⟨?_,?_,?_,?_,?_,?_,?_⟩<;>simp only[↓sU,sD,rE,↓reduceIte,rA,t8,t34,t35,t36,t9,t10,t11]⟩
 refine aM (by simp only[↓sU,sD,rE,↓reduceIte,rA,Ab (show(j:Int)<(((nodeAt g i).next.length:Nat):Int) by omega)]) (aI ?_);try simp only[↓sU,sD,rE,↓reduceIte,rA]
 have w2:IntKind.i64.wrap ((j:Int)+1)=((j+1:Nat):Int):=by rw[wrap_i64 (by omega) (by omega)];omega
 obtain⟨c1,c2⟩:=G.kids i hlt q hql;obtain⟨d1,d2⟩:=G.kids i hlt j hjl;have P:=aG5 G hT hTl hlt hqj hjl;obtain⟨pP,pla,plb',pnb,pza⟩:=P;have hswOk:aGU g T i q j↔(nodeAt g i).weights.getD q 0=(nodeAt g i).weights.getD j 0∧aAh g T ((nodeAt g i).next.getD q 0).toNat ((nodeAt g i).next.getD j 0).toNat∧fT g (sL g.nodes.length ((nodeAt g i).next.getD q 0).toNat ((nodeAt g i).next.getD j 0).toNat (cW T ((nodeAt g i).next.getD q 0).toNat)):=Iff.rfl;have hon:=fun h=>aFD (g:=g) (T:=T) (i:=i) hqj h;have hoff:=fun h=>aDh (g:=g) (T:=T) (i:=i) (k:=q) (j:=j) h;obtain⟨ck,hck⟩:∃ck:Nat,(nodeAt g i).next.getD q 0=(ck:Int):=⟨_,(En (by omega)).symm⟩;obtain⟨cj,hcj⟩:∃cj:Nat,(nodeAt g i).next.getD j 0=(cj:Int):=⟨_,(En (by omega)).symm⟩;obtain⟨bq,oq,iq,lq,dq⟩:=bN.ptr hxwX (show q<(nodeAt g i).weights.length by omega);obtain⟨bj,oj,ij,lj,dj⟩:=bN.ptr hxwX (show j<(nodeAt g i).weights.length by omega);obtain⟨ba,oa,iaa,laa,daa⟩:=bN.ptr hxaX hjl;rw[hck] at t10;rw[hcj] at daa;simp only[hck,hcj,Bf] at pP pla plb' pnb pza hswOk hon;have sxw:=bN.self hxw;have sxa:=bN.self hxa;have stay:∀ (F':Fr) (Y:St),¬aGU g T i q j→Same X Y→aD 4 F'= .ptr wb 0→aD 6 F'=pv→aD 24 F'=nv→aD 25 F'= .int .i64 ((g.nodes.length:Nat):Int)→aD 26 F'= .int .i64 (i:Int)→aD 8 F'= .ptr V.nx 0→aD 34 F'=xa→aD 35 F'= .int .i64 (((nodeAt g i).next.length:Nat):Int)→aD 36 F'= .int .i64 (q:Int)→aD 9 F'= .int .i64 (q:Int)→aD 10 F'= .int .i64 (ck:Int)→aD 11 F'= .int .i64 ((j+1:Nat):Int)→∃k',k'<k3∧aJf S2 wb V.nx nv xa g T cells i q k' ⟨F',false⟩ Y:=fun F' Y hne hs a4 a6 a24 a25 a26 a8 a34 a35 a36 a9 a10 a11=>
  ⟨k3 - 1,by omega,rfl,Ae lxX hs.1,by rw[←hcells];exact(hs.2 _ lxX).trans hX,j+1,pv,cs,by omega,by omega,by rw[hoff hne];exact hS.step hs (by rw[a4,hS.t4]) (by rw[a6,hS.t6]) (by rw[a24,hS.t24]) (by rw[a25,hS.t25]) (by rw[a26,hS.t26]),a8,a34,a35,a36,a9,by rw[hck];exact a10,a11⟩
 refine aA (aJ (aA (aA (cR (fun _=>False) ?_))));intro X1 x1;by_cases hwt:(nodeAt g i).weights.getD q 0=(nodeAt g i).weights.getD j 0;rotate_left
 ·simp only[↓sU,sD,rE,↓reduceIte,rA,t8,t9,t11,hS.t4,Aq,aH,aX,aG,cU hX,sxw,lxX,aE,iq,lq,dq,ij,lj,dj,dJ,Ab (show(nodeAt g i).weights.getD q 0≠(nodeAt g i).weights.getD j 0 from hwt)];refine aM (by simp only[↓sU,sD,rE,↓reduceIte,rA]) (aU ?_);simp only[↓sU,sD,rE,↓reduceIte,rA];refine aF ?_;simp only[↓sU,sD,rE,↓reduceIte,rA,t11,w2];exact stay _ _ (fun h=>hwt (hswOk.1 h).1) x1 (by simp only[↓sU,sD,rE,↓reduceIte,rA,hS.t4]) (by simp only[↓sU,sD,rE,↓reduceIte,rA,hS.t6]) (by simp only[↓sU,sD,rE,↓reduceIte,rA,hS.t24]) (by simp only[↓sU,sD,rE,↓reduceIte,rA,hS.t25]) (by simp only[↓sU,sD,rE,↓reduceIte,rA,hS.t26]) (by simp only[↓sU,sD,rE,↓reduceIte,rA,t8]) (by simp only[↓sU,sD,rE,↓reduceIte,rA,t34]) (by simp only[↓sU,sD,rE,↓reduceIte,rA,t35]) (by simp only[↓sU,sD,rE,↓reduceIte,rA,t36]) (by simp only[↓sU,sD,rE,↓reduceIte,rA,t9]) (by simp only[↓sU,sD,rE,↓reduceIte,rA,t10]) (by simp only[↓sU,sD,rE,↓reduceIte,rA])
 have sX1:=hS.same.trans x1;simp only[↓sU,sD,rE,↓reduceIte,rA,t8,t9,t10,t11,hS.t4,Aq,aH,aX,aG,cP hX,cU hX,sxw,sxa,lxX,aE,iq,lq,dq,ij,lj,dj,iaa,laa,daa,dJ,Aa (show ¬ (nodeAt g i).weights.getD q 0≠(nodeAt g i).weights.getD j 0 from fun h=>h hwt)];refine bX rfl ?_;simp only[↓sU,sD,rE,↓reduceIte,rA];refine aP (aFr H G hT hTl (hB.same sX1) (aN.same (E:=bT) bI hn2 sX1) pla plb' hwl) ?_;rintro _ Y ⟨hY,u,rfl,hu⟩;refine⟨hY,?_⟩;have sXY:=x1.trans hY;simp only[↓sU,sD,rE,↓reduceIte,rA,dH];cases u with
 | false=>
  refine aM (by simp only[↓sU,sD,rE,↓reduceIte,rA,Bq]) (aU ?_);simp only[↓sU,sD,rE,↓reduceIte,rA];refine aF ?_;simp only[↓sU,sD,rE,↓reduceIte,rA,t11,w2];exact stay _ _ (fun h=>by have:=hu.2 (hswOk.1 h).2.1;cases this) sXY (by simp only[↓sU,sD,rE,↓reduceIte,rA,hS.t4]) (by simp only[↓sU,sD,rE,↓reduceIte,rA,hS.t6]) (by simp only[↓sU,sD,rE,↓reduceIte,rA,hS.t24]) (by simp only[↓sU,sD,rE,↓reduceIte,rA,hS.t25]) (by simp only[↓sU,sD,rE,↓reduceIte,rA,hS.t26]) (by simp only[↓sU,sD,rE,↓reduceIte,rA,t8]) (by simp only[↓sU,sD,rE,↓reduceIte,rA,t34]) (by simp only[↓sU,sD,rE,↓reduceIte,rA,t35]) (by simp only[↓sU,sD,rE,↓reduceIte,rA,t36]) (by simp only[↓sU,sD,rE,↓reduceIte,rA,t9]) (by simp only[↓sU,sD,rE,↓reduceIte,rA,t10]) (by simp only[↓sU,sD,rE,↓reduceIte,rA])
 | true=>
 have hal:=hu.1 rfl;refine aK (by simp only[↓sU,sD,rE,↓reduceIte,rA,Bl]) (aI ?_);try simp only[↓sU,sD,rE,↓reduceIte,rA]
 have hXY:=(sXY.2 _ lxX).trans hX;have sSY:=hS.same.trans sXY;have hxaY:=hxa.same sSY;have iaY:=hxaY.iaddr hjl;have daY:=hxaY.ld hjl;rw[hcj] at daY;have hbn:cj+cW T ck≤g.nodes.length:=by rw[hal.1];exact pnb
 refine bE ?_;simp only[↓sU,sD,rE,↓reduceIte,rA,t8,t10,t11,hS.t4,aH,aG,cP hXY,aE,iaY,daY];refine aY ?_;simp only[↓sU,sD,rE,↓reduceIte,rA];refine aP (aIe H (hB.same sSY) (aN.same (E:=bT) bI hn2 sSY) hln pza pP hbn pla) ?_;rintro r Y2 ⟨hr,hY2⟩;try simp only[↓sU,sD,rE,↓reduceIte,rA]
 have sSY2:=sSY.trans hY2;have M:=aEj (g:=g) pP hbn;refine bE ?_;simp only[↓aC,aB,rE,↓reduceIte,rA,hS.t4];refine aY ?_;simp only[↓aC,aB,rE,↓reduceIte,rA,hS.t4];refine aP (aBf H (aN.same (E:=bT) bI hn2 sSY2) (aN.same (E:=cV) cE hi2 sSY2) hr.is G M hT hTl (hpv.same sSY2) (hB.same sSY2)) ?_;rintro _ Y3 ⟨hY3,x,y,u,rfl,hu2,_⟩;simp only[↓aC,aB,rE,↓reduceIte,rA,ex0,ex1];refine dO ?_;intro Y4 y4 n4 g4;try simp only[↓aC,aB,rE,↓reduceIte,rA]
 refine fI (b:=Y3.nx) (by simp only[↓aC,aB,rE,↓reduceIte,rA]) (by simp only[↓aC,aB,rE,↓reduceIte,rA];exact bJ _) g4 rfl rfl ?_;intro Y5 y5 n5 g5;simp only[↓aC,aB,rE,↓reduceIte,rA];have s35:Same Y3 Y5:=y5.same y4 (Ah _);have sX5:=((sXY.trans hY2).trans hY3).trans s35;clear y4 g4 y5 g5;refine bE ?_;simp only[↓sU,sD,rE,↓reduceIte,rA];cases u with
 | false=>
  refine aK (by simp only[↓sU,sD,rE,↓reduceIte,rA]) (aI ?_);try simp only[↓sU,sD,rE,↓reduceIte,rA]
  refine aF ?_;simp only[↓sU,sD,rE,↓reduceIte,rA,t11,w2];exact stay _ _ (fun h=>by have:=hu2.2 (hswOk.1 h).2.2;cases this) sX5 (by simp only[↓sU,sD,rE,↓reduceIte,rA,hS.t4]) (by simp only[↓sU,sD,rE,↓reduceIte,rA,hS.t6]) (by simp only[↓sU,sD,rE,↓reduceIte,rA,hS.t24]) (by simp only[↓sU,sD,rE,↓reduceIte,rA,hS.t25]) (by simp only[↓sU,sD,rE,↓reduceIte,rA,hS.t26]) (by simp only[↓sU,sD,rE,↓reduceIte,rA,t8]) (by simp only[↓sU,sD,rE,↓reduceIte,rA,t34]) (by simp only[↓sU,sD,rE,↓reduceIte,rA,t35]) (by simp only[↓sU,sD,rE,↓reduceIte,rA,t36]) (by simp only[↓sU,sD,rE,↓reduceIte,rA,t9]) (by simp only[↓sU,sD,rE,↓reduceIte,rA,t10]) (by simp only[↓sU,sD,rE,↓reduceIte,rA])
 | true=>
 have hok:=hswOk.2 ⟨hwt,hal,hu2.1 rfl⟩;have hJ:=hon hok;refine aM (by simp only[↓sU,sD,rE,↓reduceIte,rA]) ?_;obtain⟨rb,hrb,r1,r2,r3⟩:=hr;have hrow:bN .i64 Y5 r (sL g.nodes.length ck cj (cW T ck)):=(gF.is ⟨rb,hrb,r1,r2,r3⟩:bN .i64 Y2 r _).same (hY3.trans s35);have hbl:=fun(F:Fr) (id:Nat) (h:aD 88 F=r)=>oP (t:=22) (z:=.nilsl) (x:=.t 88) (F:=F) (id:=id) hrow h;refine aF ?_;simp only[↓aC,aB,rE,↓reduceIte,rA,hS.t6];refine fX (hbl _ _ (by simp only[↓aC,aB,rE,↓reduceIte,rA])) ?_;intro Y6 y6 n6 g6;try simp only[↓aC,aB,rE,↓reduceIte,rA]
 have hpb:∀ {c},cL pv=some c→S2.nx≤c:=fun hc=>(hS.gr.blk hc).1;have nX:=hS.same.1;have n5X:=sX5.1;have hg6:jZ 1 S2 Y6 pv (eQ g T i++(iF g T i q++gQ g T i q j)).length cs:=(hS.gr.step sX5).step y6;have hlen:(eQ g T i++(iF g T i q++gQ g T i q j)).length+1≤3000000000:=by
  have a1:=zH (T:=T) G (Nat.le_of_lt hlt);have a2:=pO (g:=g) (T:=T) (i:=i) (k:=q);have a3:=uT (g:=g) (T:=T) (i:=i) (k:=q) (j:=j);have a4:q * (nodeAt g i).next.length≤1000 * 1000:=Nat.mul_le_mul (by omega) hnx;rw[Ak,Ak];omega
 obtain⟨pv',Z,eA,gA,bA,nA,rA⟩:=jZ.push1 (bytes:=24) (x:=r) hg6 ((hS.same.trans sX5).trans y6) g6 (by unfold room;omega) (by unfold room;omega);refine fD (v:=pv') (S1:=Z) (fun call=>by simp only[↓aC,aB,rE,↓reduceIte,rA,mL];exact eA) ?_;simp only[↓sU,sD,rE,↓reduceIte,rA];refine aF ?_;simp only[↓sU,sD,rE,↓reduceIte,rA,t11,w2];have n6X:=y6.1;have hbA:∀ {c},cL pv'=some c→c=Y6.nx:=fun hc=>by rw[bA] at hc;exact(Bk hc).symm
 have nbp:cL pv≠some V.nx:=fun e=>aE0 hX (hS.gr.blk e).2.2 rfl;have kZ:∀c,c<X.nx→cL pv≠some c→Z.h.get c=X.h.get c:=fun c hc hne=>by
  rw[rA c (by omega) hne,y6.2 c (by omega)];exact sX5.2 c hc
 have nXY:X.nx≤Y.nx:=sXY.1;have r1':Y.nx≤rb:=r1;have hrY:X.nx≤rb:=by omega
 have hR:=hS.rw.push (Z:=Z) (pv':=pv') (r:=r) (l:=sL g.nodes.length ck cj (cW T ck)) nX (by omega) (fun c a _ d=>kZ c a d) (lT (hrow.same y6) (by omega) fun c hc=>by
  rw[hrb] at hc;cases hc;exact rA _ (by have:=hY3.1;have:=s35.1;omega) fun e=>by have:=(hS.gr.blk e).2.1;omega) (fun c hc=>by
  rw[hrb] at hc;cases hc;exact⟨hrY,fun e=>by have:=hbA e;have:=hY3.1;have:=s35.1;omega⟩) (fun c hc=>by have:=hbA hc;omega)
 refine⟨k3 - 1,by omega,rfl,by omega,by rw[←hcells];exact(kZ _ lxX nbp).trans hX,j+1,pv',cs++ [r],by omega,by omega,?_,by refine⟨?_,?_,?_,?_,?_,?_,?_⟩<;>simp only[↓sU,sD,rE,↓reduceIte,rA,t8,t34,t35,t36,t9,t10,hck]⟩;have eL:eQ g T i++(iF g T i q++gQ g T i q (j+1))=(eQ g T i++(iF g T i q++gQ g T i q j))++ [sL g.nodes.length ck cj (cW T ck)]:=by
  rw[hJ,Cl,Cl]
 rw[eL];refine⟨⟨by omega,fun c hc=>(kZ c (by omega) (fun e=>by have:=hpb e;omega)).trans (hS.same.2 c hc)⟩,?_,hR,by simp only[↓sU,sD,rE,↓reduceIte,rA,hS.t4],by simp only[↓sU,sD,rE,↓reduceIte,rA],by simp only[↓sU,sD,rE,↓reduceIte,rA,hS.t24],by simp only[↓sU,sD,rE,↓reduceIte,rA,hS.t25],by simp only[↓sU,sD,rE,↓reduceIte,rA,hS.t26]⟩;rw[Ak,Bz];exact gA
section
variable {one:aW}{seen:Bool}
end
section
variable {one:aW}{seen:Bool}
end
theorem aHL{l:List Int}{k:Nat}{x:Int}(hk:k<l.length)(he:l.getD k 0=x)(hd:∀k',k'<l.length→l.getD k' 0=x→k'=k):iJ l 0 x=(k:Int):=by
 have hm:l[k]? =some x:=by rw[←he,Ad,Ac hk];rfl
 rcases lS (c:=x) (l:=l) (s:=0) with⟨_,h2⟩ | ⟨k1,h1,h2,_⟩
 ·exact absurd (Bm hm) h2
 ·have:=hd k1 (Ai.1 h2).1 (by rw[Ad,h2];rfl);rw[h1,this,An]
section
variable {one:aW}{seen:Bool}{c:Nat}
end
section
variable {one:aW}{seen:Bool}{c:Nat}{T:List cC}
end
end Go.Ev.Gl
