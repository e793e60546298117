import Derived.Test.YtiiplmagnlcpbaaGreatDoorGl15
set_option linter.unusedSimpArgs false
set_option linter.unusedVariables false
set_option maxHeartbeats 0
namespace Go.Ev.Gl
variable {fns:T cM}
section
variable {g:aZ}{c:bm}{pr W:Nat->Nat}{z:Nat}
end
section
variable {g:aZ}{a b c m:bm}
end
def oM(j:Int):List dG->Nat->Nat
 | [],_=>0
 | t::L,a=>(if t.1=j then(t.2.2+1 - (a:Int)).toNat else 0)+oM j L (a+1)
theorem vZ{j:Int}:∀ {L M:List dG} {a:Nat},oM j (L++M) a=oM j L a+oM j M (a+L.length)
 | [],M,a=>by show oM j M a=0+oM j M (a+0);rw[Au];rfl
 | t::L,M,a=>by
  show _+oM j (L++M) (a+1)=_+oM j L (a+1)+oM j M (a+(L.length+1));rw[vZ (L:=L),show a+1+L.length=a+(L.length+1) by omega,Co]
theorem tM{j:Int}:∀ {L:List dG} {a:Nat},(∀t∈L,t.1≠j)->oM j L a=0
 | [],_,_=>rfl
 | t::L,a,h=>by
  show(if t.1=j then _ else 0)+oM j L (a+1)=0;rw[if_neg (h t (Dy ..)),tM fun t ht=>h t (Cf _ ht)]
structure KZ(r:Nat)(p:Int)(L:List dG):Prop where
 par:∀t∈L,t.1=p\/((r:Int)<=t.1/\t.1<((r+L.length:Nat):Int))
 sz:∀ (j:Nat) (t:dG),L[j]? =some t->t.2.2=((r+j+oM ((r+j:Nat):Int) L r:Nat):Int)/\t.2.2<((r+L.length:Nat):Int)
 all:oM p L r=L.length
 nest:∀ (j q:Nat) (t u:dG),L[j]? =some t->L[q]? =some u->j<q->((r+q:Nat):Int)<=t.2.2->((r+j:Nat):Int)<=u.1
theorem KZ.nil{r:Nat}{p:Int}:KZ r p []:=⟨fun t ht=>(by cases ht),fun j t h=>(by simp at h),rfl,fun j q t u h=>(by simp at h)⟩
theorem KZ.app{r:Nat}{p:Int}{L M:List dG}(hp:p<(r:Int))(h1:KZ r p L)(h2:KZ (r+L.length) p M):KZ r p (L++M):=by
 refine⟨fun t ht=>?_,fun j t hj=>?_,by rw[vZ,h1.all,h2.all,Ba],fun j q t u hj hq hlt hle=>?_⟩
 ·rw[Ba];rcases Ct.1 ht with h | h
  ·rcases h1.par t h with e | e
   ·exact .inl e
   ·exact .inr au
  ·rcases h2.par t h with e | e
   ·exact .inl e
   ·exact .inr au
 ·rw[Ba,vZ];by_cases hlt:j<L.length
  ·rw[Ay hlt] at hj;have⟨a,b⟩:=h1.sz j t hj;rw[tM (L:=M) fun t ht=>by
    rcases h2.par t ht with e | e
    ·omega
    ·omega,Bi]
   exact⟨a,au⟩
  ·rw[Az au] at hj;have⟨a,b⟩:=h2.sz (j - L.length) t hj;rw[show r+L.length+(j - L.length)=r+j by omega] at a;rw[tM (L:=L) fun t ht=>by
    rcases h1.par t ht with e | e
    ·omega
    ·omega,Au]
   exact⟨a,au⟩
 ·by_cases hj1:j<L.length
  ·rw[Ay hj1] at hj;have:=(h1.sz j t hj).2;rw[Ay au] at hq;exact h1.nest j q t u hj hq hlt hle
  ·rw[Az au] at hj hq;have:=h2.nest _ _ t u hj hq au (by rw[show r+L.length+(q - L.length)=r+q by omega];exact hle)
   rwa [show r+L.length+(j - L.length)=r+j by omega] at this
theorem aCs{rec:Nat->Option (List dG)}{p:Int}(hr:∀ (r:Nat) (L:List dG),p<(r:Int)->rec r=some L->KZ r p L):∀ {l:bm} {r:Nat} {L:List dG},p<(r:Int)->iN rec l r=some L->KZ r p L
 | [],r,L,_,h=>by
  have h:some []=some L:=h;cases h;exact KZ.nil
 | c::l,r,L,hp,h=>by
  simp only[iN] at h;split at h
  ·have⟨L1,h1,h2⟩:=Eb.1 h;obtain⟨L2,h3,rfl⟩:=An.1 h2;exact(hr r L1 hp h1).app hp (aCs hr au h3)
  ·cases h
theorem uU{N:Nat}{nx:Nat->bm}:∀ {f at_:Nat} {p d:Int} {T:List dG},p<(at_:Int)->gD N nx f at_ p d=some T->KZ at_ p T
 | 0,_,_,_,_,_,h=>by cases h
 | f+1,at_,p,d,T,hp,h=>by
  simp only[gD] at h;split at h
  ·obtain⟨L,h1,rfl⟩:=An.1 h;have k:=aCs (p:=(at_:Int)) (fun r L hr hL=>uU hr hL) au h1;refine⟨fun t ht=>?_,fun j t hj=>?_,?_,fun j q t u hj hq hlt hle=>?_⟩
   ·rw[Ax];rcases Br.1 ht with rfl | ht
    ·exact .inl rfl
    ·rcases k.par t ht with e | e
     ·exact .inr au
     ·exact .inr au
   ·rw[Ax];cases j with
    | zero=>
     cases hj;rw[Bi];show((at_+L.length:Nat):Int)=((at_+((if p=((at_:Nat):Int) then _ else 0)+oM _ L (at_+1)):Nat):Int)/\_;rw[if_neg au,Au,k.all];exact⟨rfl,by show((at_+L.length:Nat):Int)<_;omega⟩
    | succ j=>
     have⟨a,b⟩:=k.sz j t hj;show t.2.2=((at_+(j+1)+((if p=((at_+(j+1):Nat):Int) then _ else 0)+oM _ L (at_+1)):Nat):Int)/\_;rw[if_neg au,Au,a,show at_+1+j=at_+(j+1) by omega];exact⟨rfl,by rw[<-show at_+1+j=at_+(j+1) by omega,<-a];omega⟩
   ·show(if p=p then(((at_+L.length:Nat):Int)+1 - (at_:Int)).toNat else 0)+oM p L (at_+1)=L.length+1;rw[if_pos rfl,tM fun t ht=>by
     rcases k.par t ht with e | e
     ·omega
     ·omega]
    omega
   ·obtain⟨q,rfl⟩:∃q',q=q'+1:=⟨q - 1,au⟩;cases j with
    | zero=>
     have hq':L[q]? =some u:=hq;rcases k.par u (Cg hq') with e | e
     ·omega
     ·omega
    | succ j=>
     have hj':L[j]? =some t:=hj;have hq':L[q]? =some u:=hq;have:=k.nest j q t u hj' hq' au (by rw[show at_+1+q=at_+(q+1) by omega];exact hle)
     rwa [show at_+1+j=at_+(j+1) by omega] at this
  ·cases h
def oU(T:List dG)(i:Nat):Nat:=match T[i]? with | some t=>(t.2.2+1 - (i:Int)).toNat | none=>0
section
variable {T:List dG}
theorem aCu(k:KZ 0 (-1) T){i:Nat}(hi:i<T.length):oU T i=1+oM (i:Int) T 0/\oU T i<=T.length/\i+oU T i<=T.length:=by
 have⟨a,b⟩:=k.sz i T[i] (Ad hi);have e:oU T i=(T[i].2.2+1 - (i:Int)).toNat:=by unfold oU;rw[Ad hi]
 rw[Au] at a b;omega
def SzI(T:List dG)(i:Nat)(Z:bm):Prop:=Z.length=T.length/\∀j,j<T.length->Z.getD j 0=if i<=j then((oU T j:Nat):Int) else((oM (j:Int) (T.drop i) i:Nat):Int)
theorem aPN(k:KZ 0 (-1) T)(hN:T.length<=100000)(hpar:∀ (j:Nat) (t:dG),T[j]? =some t->t.1<(j:Int)/\(0<j->0<=t.1)){i:Nat}{Z:bm}(hi:i<T.length)(h:SzI T (i+1) Z):SzI T i (szS T i Z):=by
 have⟨hl,hz⟩:=h;have hT:=Ad hi;have⟨p1,p2⟩:=hpar i T[i] hT;have hdrop:T.drop i=T[i]::T.drop (i+1):=Bo hi;have hsp:=fun j:Nat=>show oM (j:Int) (T.drop i) i=(if T[i].1=(j:Int) then oU T i else 0)+oM (j:Int) (T.drop (i+1)) (i+1) by
  rw[hdrop];have e:oU T i=(T[i].2.2+1 - (i:Int)).toNat:=by unfold oU;rw[hT]
  rw[e];rfl
 have htk:∀j,i<=j->oM (j:Int) T 0=oM (j:Int) (T.drop (i+1)) (i+1):=fun j hij=>by
  conv=>lhs;rw[<-Bt (i+1) T]
  rw[vZ,Bh,show min (i+1) T.length=i+1 by omega,Au,tM (L:=T.take (i+1)),Au];intro t ht;obtain⟨q,hq,rfl⟩:=List.mem_iff_getElem.1 ht;rw[Bh] at hq;rw[List.getElem_take];have:=(hpar q T[q] (Ad au)).1;omega
 have e1:=aCu k hi;rw[htk i (Af _)] at e1;have hzi:=hz i hi;rw[if_neg au] at hzi;have hw:IntKind.i64.wrap (Z.getD i 0+1)=((oU T i:Nat):Int):=by rw[hzi,wrap_i64 au au];omega
 unfold szS;rw[hw];have hset:∀j,(Z.set i ((oU T i:Nat):Int)).getD j 0=if j=i then((oU T i:Nat):Int) else Z.getD j 0:=fun j=>kV au;by_cases h0:0<i
 ·rw[if_pos h0];obtain⟨q,hq⟩:∃q:Nat,T[i].1=(q:Int):=⟨T[i].1.toNat,by have:=p2 h0;omega⟩;have hqi:q<i:=by omega
  have hpm:(T.map fun t:dG=>t.1).getD i 0=(q:Int):=by rw[Ae,Bk,hT,<-hq];rfl
  rw[hpm,Bq,hset q,if_neg au,hset i,if_pos rfl];have hzq:=hz q au;rw[if_neg au] at hzq;have hb:oM (q:Int) (T.drop i) i<=T.length:=by
   have e2:=aCu k (show q<T.length by omega);have:oM (q:Int) (T.drop i) i<=oM (q:Int) T 0:=by
    conv=>rhs;rw[<-Bt i T]
    rw[vZ,Bh,show min i T.length=i by omega,Au];omega
   omega
  have hsq:=hsp q;rw[if_pos hq] at hsq;have hw2:IntKind.i64.wrap (Z.getD q 0+((oU T i:Nat):Int))=((oM (q:Int) (T.drop i) i:Nat):Int):=by rw[hzq,wrap_i64 au au];omega
  rw[hw2];refine⟨by rw[Dm,Dm];exact hl,fun j hj=>?_⟩;rw[kV (by rw[Dm];omega),hset j];by_cases ej:j=q
  ·rw[if_pos ej,if_neg au,ej]
  ·rw[if_neg ej];by_cases eji:j=i
   ·rw[if_pos eji,if_pos au,eji]
   ·rw[if_neg eji,hz j hj];by_cases hij:i<=j
    ·rw[if_pos au,if_pos hij]
    ·rw[if_neg au,if_neg hij,hsp j,if_neg au,Au]
 ·rw[if_neg h0];refine⟨by rw[Dm];exact hl,fun j hj=>?_⟩;rw[hset j];by_cases eji:j=i
  ·rw[if_pos eji,if_pos au,eji]
  ·rw[if_neg eji,hz j hj,if_pos au,if_pos au]
theorem aLr(k:KZ 0 (-1) T)(hN:T.length<=100000)(hpar:∀ (j:Nat) (t:dG),T[j]? =some t->t.1<(j:Int)/\(0<j->0<=t.1)):∀ {i:Nat} {Z:bm},i<=T.length->SzI T i Z->SzI T 0 (szG T i Z)
 | 0,Z,_,h=>h
 | i+1,Z,hi,h=>aLr k hN hpar (i:=i) (Z:=szS T i Z) au (aPN k hN hpar au h)
theorem aJD{g:aZ}(hT:lL g=some T)(hl:T.length=g.bw.length)(hN:g.bw.length<=100000){i:Nat}(hi:i<g.bw.length):(szL T g.bw.length).getD i 0=((oU T i:Nat):Int)/\1<=oU T i/\i+oU T i<=g.bw.length:=by
 have hw:gD g.bw.length (fJ g) (g.bw.length+1) 0 (-1) 0=some T:=hT;have k:=uU ay hw;have hf:=qC hw;have hpar:∀ (j:Nat) (t:dG),T[j]? =some t->t.1<(j:Int)/\(0<j->0<=t.1):=fun j t hj=>by
  have hlt:=(Aj.1 hj).1;rcases Ap j with h0 | h0
  ·subst h0;have:=hf.root;unfold nE at this;rw[hj] at this;have e:t.1= -1:=Bz this;exact⟨au,fun h=>absurd h (Nat.lt_irrefl 0)⟩
  ·have⟨q,a,b,_⟩:=hf.pf j h0 hlt;unfold nE at b;rw[hj] at b;have e:t.1=((0+q:Nat):Int):=Bz b;exact⟨au,fun _=>au⟩
 have h0:SzI T T.length (List.replicate g.bw.length 0):=⟨by rw[Bu,hl],fun j hj=>by
  rw[if_neg au,Bw (Af _),aKP au];rfl⟩
 have h1:=(aLr k au hpar (Af _) h0).2 i au;rw[if_pos (Ey _),hl] at h1;have⟨e1,e2,e3⟩:=aCu k (show i<T.length by omega);exact⟨h1,au,au⟩
theorem aD6{g:aZ}(hT:lL g=some T)(hl:T.length=g.bw.length){i p q:Nat}(hi:i<g.bw.length)(hpq:p<q)(hq:q<(cj g i).next.length)(hN:g.bw.length<=100000):((cj g i).next.getD p 0).toNat+oU T ((cj g i).next.getD p 0).toNat<=((cj g i).next.getD q 0).toNat:=by
 have hw:gD g.bw.length (fJ g) (g.bw.length+1) 0 (-1) 0=some T:=hT;have k:=uU ay hw;have hf:=qC hw;have hnx:fJ g (0+i)=(cj g i).next:=by rw[Au];exact kB g i
 have mem:=fun t (ht:t<(cj g i).next.length)=>show(cj g i).next.getD t 0∈fJ g (0+i) by
  rw[hnx,Ae,Ad ht];exact Ec ht
 have hinc:=hf.inc i au;rw[hnx] at hinc;have hlt:(cj g i).next.getD p 0<(cj g i).next.getD q 0:=by
  have:=Fb.1 hinc p q au hq hpq;rw[Ae,Ad (show p<(cj g i).next.length by omega),Ae,Ad hq];exact this
 have⟨a1,a2,a3⟩:=hf.cf i au _ (mem p au);have⟨b1,b2,b3⟩:=hf.cf i au _ (mem q hq);obtain⟨x,hx⟩:∃x:Nat,(cj g i).next.getD p 0=(x:Int):=⟨_,(De au).symm⟩;obtain⟨y,hy⟩:∃y:Nat,(cj g i).next.getD q 0=(y:Int):=⟨_,(De au).symm⟩;rw[hx] at a1 a2 a3 hlt;rw[hy] at b1 b2 b3 hlt;rw[hx,hy,Bq,Bq];have hxT:T[x]? =some T[x]:=Ad au;have hyT:T[y]? =some T[y]:=Ad au;have hpar:T[y].1=(i:Int):=by
  unfold nE at b3;rw[Bq,Gm,hyT] at b3;have e:T[y].1=((0+i:Nat):Int):=Bz b3;omega
 have e:oU T x=(T[x].2.2+1 - (x:Int)).toNat:=by unfold oU;rw[hxT]
 rw[e];rcases Int.lt_or_le T[x].2.2 (y:Int) with h | h
 ·omega
 ·have:=k.nest x y _ _ hxT hyT au (by rw[Au];exact h);omega
end
theorem aJ0{n j:Nat}{f:Nat->Int}(h:j<n):((List.range n).map f).getD j 0=f j:=by
 rw[Ae,Bk,Dz h];rfl
theorem aJ7{n:Nat}{f:Nat->Int}{l:bm}(hl:l.length=n)(h:∀j,j<n->l.getD j 0=f j):l=(List.range n).map f:=
 aKN (by rw[hl,Bc,Cq]) fun j hj=>by rw[h j au,aJ0 au]
end Go.Ev.Gl
