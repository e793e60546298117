import Derived.Test.YtiiplmagnlcpbaaGreatDoorGl15
set_option linter.unusedSimpArgs false
set_option linter.unusedVariables false
open Nat renaming reduceEqDiff -> rE, reduceAdd -> rA
set_option maxHeartbeats 0
namespace Go.Ev.Gl
variable {fns:T dD}
theorem aJK{g:bD}{i:Nat}:wM 1 g i=wN g i:=by unfold wM wN;split;rfl;split<;>rfl
theorem aLX{g:bD}{pr:Nat->Nat}(P:zO 1 g pr):nC g pr:=⟨P.zero,fun i hi k hk=>by rw[P.kid i hi k hk,aJK]⟩
theorem aNr{g:bD}{pr:Nat->Nat}:∀ {n z:Nat},spF 1 g pr n=some z->szF g pr n=some z
 | 0,z,h=>h
 | n+1,z,h=>by
  rw[aA9] at h;cases h1:spF 1 g pr n with
  | none=>rw[h1] at h;cases h
  | some y=>
   rw[h1] at h;have h:(if(cj g n).kind=3 then zJ y (pr n) else if 1000000000000000<pr n * wM 1 g n then none else some y)=some z:=h;rw[xE,aNr h1];show(if(cj g n).kind=3 then zJ y (pr n) else if(cj g n).kind=1/\1000000000000000<pr n * wN g n then none else some y)=some z;by_cases h3:(cj g n).kind=3
   ·rw[if_pos h3] at h ⊢;exact h
   ·rw[if_neg h3] at h ⊢;rw[aJK] at h;split at h
    ·cases h
    ·rename_i hb;rw[if_neg (fun x=>hb x.2)];exact h
structure aOl(g:bD)(c:bm):Prop where
 len:c.length=g.bz.length
 ok:∀i,i<g.bz.length->0<=c.getD i 0/\c.getD i 0<(ck g (i:Int)).cd
section
variable {g:bD}{c:bm}{pr W:Nat->Nat}{z:Nat}
end
def CoI(S1:St)(gb db:Nat)(lv:AV)(dl:bm)(g:bD)(k:Nat)(A:bN)(X:St):Prop:=A.inr=false/\S1.nx<=X.nx/\(∀c,c<S1.nx->c≠db->X.h.get c=S1.h.get c)/\rO X db lv dl/\∃ (i:Nat) (pv:AV) (l:bm),i+k=g.bz.length/\l.length=i/\(∀j,j<i->0<=l.getD j 0/\l.getD j 0<(ck g (j:Int)).cd)/\lN 1 S1 X pv i (bE l)/\aB 0 A.F= .ptr db 0/\aB 3 A.F= .ptr gb 0/\aB 5 A.F=pv/\aB 6 A.F= .int .i64 (i:Int)
theorem aLP{l:bm}{x:Int}{j:Nat}:(l++ [x]).getD j 0=if j=l.length then x else l.getD j 0:=by
 rw[Ae,Ae];by_cases e:j=l.length
 ·rw[if_pos e,e,Aq (Af _),Ef];rfl
 ·rw[if_neg e];by_cases h:j<l.length
  ·rw[Ap h]
  ·rw[Bo (by rw[Aj,Bc];omega),Bo au]
theorem aE0{S:St}{db:Nat}{lv nv iv:AV}{dl:bm}{g:bD}(H:Has fns)(hd:rO S db lv dl)(hinf:∀X':St,S.nx<=X'.nx->(∀c,c<S.nx->c≠db->X'.h.get c=S.h.get c)->bH 2 fO X' iv g.bz)(hact:∀i,i<g.bz.length->1<=(ck g (i:Int)).cd/\(ck g (i:Int)).cd<=3)(hil:g.bz.length<=200):
  eT fns (.fn 24 [] []) [.ptr db 0,.agg [.int .i64 g.b9,nv,iv]] S fun r Z=>cB db S Z/\rO Z db lv dl/\∃l,cH .i64 Z r l/\aOl g l/\∀c,bP r=some c->S.nx<=c:=by
 have ldb:=hd.lt;have hlow:=fun {c} (hc:bP lv=some c)=>fP hd.il hc;refine bL H.f24 (by simp) ?_;refine ae ?_;refine bK ?_;refine cD (cs:=[.int .i64 g.b9,nv,iv]) rfl ?_;intro S1 s1 n1 g1;refine ae ?_;have d1:rO S1 db lv dl:=hd.move s1.1 (s1.2 _ ldb) fun c hc=>s1.2 c (hlow hc);refine bK (ae ?_);refine fA (ae ?_);refine bG (Q:=fun o A' X=>o= .normal/\CoI S1 S.nx db lv dl g 0 A' X) (aQ (bX (CoI S1 S.nx db lv dl g) ?_ g.bz.length _ _ ⟨rfl,Af _,fun _ _ _=>rfl,d1,0,.ce,[],au,rfl,fun j hj=>absurd hj (Dc j),.inl ⟨rfl,rfl,rfl⟩,af,af,af,ag⟩)) ?_
 ·clear d1;rintro k ⟨F,inr⟩ X ⟨q0,nX,kX,dX,i,pv,l,hik,hll,hl,hg,p0,p3,p5,p6⟩;simp only at q0 p0 p3 p5 p6;subst q0;have cX:=(kX S.nx au au).trans g1;have iX:=hinf X au fun c hc hne=>(kX c au hne).trans (s1.2 c hc);refine fA (dx p3 p6 @aD @aC (zP cX) iX.len @Ak ?_);by_cases hlt:i<g.bz.length;rotate_left
  ·refine aO (by simp only[↓sU,sD,rE,↓reduceIte,rA,Aa (show ¬ (i:Int)<(g.bz.length:Int) by omega)]) (bS ?_);refine ae ?_;obtain rfl:k=0:=by omega
   exact⟨rfl,nX,kX,dX,i,pv,l,hik,hll,hl,hg,by refine⟨?_,?_,?_,?_⟩<;>simp only[↓sU,sD,rE,↓reduceIte,rA,p0,p3,p5,p6]⟩
  refine aP (by simp only[↓sU,sD,rE,↓reduceIte,rA,Ac (show(i:Int)<(g.bz.length:Int) by omega)]) (aJ ?_);try refine ae ?_
  have w1:=dk i
  have⟨a1,a2⟩:=hact i hlt;have⟨ei,bi,qi,hii,hbi,_,hei,_,hfi⟩:=bH.at iX ay (aCD hlt);have hf1:=hfi 1 (.int .i64 (ck g (i:Int)).cd) (by rw[hei];rfl);refine aE (aQ (aM ?_));simp only[↓stU,aG,rE,↓reduceIte,rA,p0,p3,p5,p6,aD,aC,zP cX,aW,hii,hf1];refine aL (ap ?_);refine aF (mJ H dX a1 au) ?_;rintro _ Y ⟨bY,dY,y,rfl,hy1,hy2⟩;try refine ap ?_
  refine oR (lI (n:=y) (k:=.i64) (aq)) ?_;intro U u1 m1 c1;have nY:=bY.1;have hgU:lN 1 ⟨U.h,S1.nx⟩ U pv i (bE l):=(hg.move (S':=Y) nY fun c hc=>bY.2 c (hg.blk hc).2.1 (by have:=(hg.blk hc).1;omega)).step u1;have⟨pv',Z,eA,gA,bA,nA,rA⟩:=lN.push1 (bytes:=8) (x:=.int .i64 y) hgU ⟨by have:=u1.1;show S1.nx<=U.nx;omega,fun _ _=>rfl⟩ c1 ax ax;refine fK (v:=pv') (S1:=Z) (fun call=>by refine dz @jJ ?_;exact eA) ?_;refine ap ?_;refine aM (c9 p6 w1 ?_);have hpb:∀ {c},bP pv=some c->S1.nx<=c:=fun hc=>(hg.blk hc).1;have nU:=u1.1;have ldbX:=dX.lt;refine⟨k - 1,au,rfl,au,fun c hc hne=>?_,?_,i+1,pv',l++ [y],au,by rw[Aj,hll];rfl,fun j hj=>?_,?_,by refine⟨?_,?_,?_,?_⟩<;>simp only[↓sU,sD,rE,↓reduceIte,rA,p0,p3]⟩
  ·rw[rA c au (fun e=>by have:=hpb e;omega),u1.2 c au,bY.2 c au hne];exact kX c hc hne
  ·refine dY.move au ?_ fun c hc=>?_
   ·rw[rA db au (fun e=>by have:=hpb e;omega)];exact u1.2 db au
   ·have:=hlow hc;rw[rA c au (fun e=>by have:=hpb e;omega)];exact u1.2 c au
  ·rw[aLP,hll];by_cases e:j=i
   ·subst e;rw[if_pos rfl];exact⟨hy1,hy2⟩
   ·rw[if_neg e];exact hl j au
  ·have e:bE (l++ [y])=bE l++ [.int .i64 y]:=by unfold bE;rw[List.map_append];rfl
   rw[e];exact gA
 rintro o ⟨F,inr⟩ X ⟨rfl,q0,nX,kX,dX,i,pv,l,hik,hll,hl,hg,p0,p3,p5,p6⟩;simp only at q0 p5;subst q0;obtain rfl:i=g.bz.length:=by omega
 try refine ae ?_
 refine bK (cp p5 ?_);refine aK (ae ?_);refine⟨⟨au,fun c hc hne=>(kX c au hne).trans (s1.2 c hc)⟩,dX,l,?_,⟨hll,hl⟩,fun c hc=>by have:=(hg.blk hc).1;omega⟩;rw[<-hll] at hg;exact lN.is hg
theorem aOl.e{g:bD}{c:bm}(C:aOl g c):xI g c=0:=aKq C.len fun i hi=>C.ok i (by rw[<-C.len];exact hi)
def aHN(l:bm):Int:=l.getD (l.length - 1) 0
theorem aI3{x:Int}{l:bm}(h:1<=l.length):aHN (x::l)=aHN l:=by
 unfold aHN;obtain⟨n,hn⟩:∃n,l.length=n+1:=⟨l.length - 1,au⟩;rw[Av,hn];rfl
section
variable {g:bD}{a b c m:bm}
end
def pP(j:Int):List dP->Nat->Nat
 | [],_=>0
 | t::L,a=>(if t.1=j then(t.2.2+1 - (a:Int)).toNat else 0)+pP j L (a+1)
theorem xL{j:Int}:∀ {L M:List dP} {a:Nat},pP j (L++M) a=pP j L a+pP j M (a+L.length)
 | [],M,a=>by show pP j M a=0+pP j M (a+0);rw[Ao];rfl
 | t::L,M,a=>by
  show _+pP j (L++M) (a+1)=_+pP j L (a+1)+pP j M (a+(L.length+1));rw[xL (L:=L),show a+1+L.length=a+(L.length+1) by omega,Cx]
theorem uK{j:Int}:∀ {L:List dP} {a:Nat},(∀t∈L,t.1≠j)->pP j L a=0
 | [],_,_=>rfl
 | t::L,a,h=>by
  show(if t.1=j then _ else 0)+pP j L (a+1)=0;rw[if_neg (h t (Bn ..)),uK fun t ht=>h t (Bf _ ht)]
structure KZ(r:Nat)(p:Int)(L:List dP):Prop where
 par:∀t∈L,t.1=p\/((r:Int)<=t.1/\t.1<((r+L.length:Nat):Int))
 sz:∀ (j:Nat) (t:dP),L[j]? =some t->t.2.2=((r+j+pP ((r+j:Nat):Int) L r:Nat):Int)/\t.2.2<((r+L.length:Nat):Int)
 all:pP p L r=L.length
 nest:∀ (j q:Nat) (t u:dP),L[j]? =some t->L[q]? =some u->j<q->((r+q:Nat):Int)<=t.2.2->((r+j:Nat):Int)<=u.1
theorem KZ.nil{r:Nat}{p:Int}:KZ r p []:=⟨fun t ht=>(by cases ht),fun j t h=>(by simp at h),rfl,fun j q t u h=>(by simp at h)⟩
theorem KZ.app{r:Nat}{p:Int}{L M:List dP}(hp:p<(r:Int))(h1:KZ r p L)(h2:KZ (r+L.length) p M):KZ r p (L++M):=by
 refine⟨fun t ht=>?_,fun j t hj=>?_,by rw[xL,h1.all,h2.all,Aj],fun j q t u hj hq hlt hle=>?_⟩
 ·rw[Aj];rcases Bs.1 ht with h | h
  ·rcases h1.par t h with e | e
   ·exact .inl e
   ·exact .inr au
  ·rcases h2.par t h with e | e
   ·exact .inl e
   ·exact .inr au
 ·rw[Aj,xL];by_cases hlt:j<L.length
  ·rw[Ap hlt] at hj;have⟨a,b⟩:=h1.sz j t hj;rw[uK (L:=M) fun t ht=>by
    rcases h2.par t ht with e | e
    ·omega
    ·omega,Bm]
   exact⟨a,au⟩
  ·rw[Aq au] at hj;have⟨a,b⟩:=h2.sz (j - L.length) t hj;rw[show r+L.length+(j - L.length)=r+j by omega] at a;rw[uK (L:=L) fun t ht=>by
    rcases h1.par t ht with e | e
    ·omega
    ·omega,Ao]
   exact⟨a,au⟩
 ·by_cases hj1:j<L.length
  ·rw[Ap hj1] at hj;have:=(h1.sz j t hj).2;rw[Ap au] at hq;exact h1.nest j q t u hj hq hlt hle
  ·rw[Aq au] at hj hq;have:=h2.nest _ _ t u hj hq au (by rw[show r+L.length+(q - L.length)=r+q by omega];exact hle)
   rwa [show r+L.length+(j - L.length)=r+j by omega] at this
theorem aCP{rec:Nat->Option (List dP)}{p:Int}(hr:∀ (r:Nat) (L:List dP),p<(r:Int)->rec r=some L->KZ r p L):∀ {l:bm} {r:Nat} {L:List dP},p<(r:Int)->gS rec l r=some L->KZ r p L
 | [],r,L,_,h=>by
  have h:some []=some L:=h;cases h;exact KZ.nil
 | c::l,r,L,hp,h=>by
  simp only[gS] at h;split at h
  ·have⟨L1,h1,h2⟩:=Du.1 h;obtain⟨L2,h3,rfl⟩:=Ax.1 h2;exact(hr r L1 hp h1).app hp (aCP hr au h3)
  ·cases h
theorem vV{N:Nat}{nx:Nat->bm}:∀ {f at_:Nat} {p d:Int} {T:List dP},p<(at_:Int)->iL N nx f at_ p d=some T->KZ at_ p T
 | 0,_,_,_,_,_,h=>by cases h
 | f+1,at_,p,d,T,hp,h=>by
  simp only[iL] at h;split at h
  ·obtain⟨L,h1,rfl⟩:=Ax.1 h;have k:=aCP (p:=(at_:Int)) (fun r L hr hL=>vV hr hL) au h1;refine⟨fun t ht=>?_,fun j t hj=>?_,?_,fun j q t u hj hq hlt hle=>?_⟩
   ·rw[Av];rcases Br.1 ht with rfl | ht
    ·exact .inl rfl
    ·rcases k.par t ht with e | e
     ·exact .inr au
     ·exact .inr au
   ·rw[Av];cases j with
    | zero=>
     cases hj;rw[Bm];show((at_+L.length:Nat):Int)=((at_+((if p=((at_:Nat):Int) then _ else 0)+pP _ L (at_+1)):Nat):Int)/\_;rw[if_neg au,Ao,k.all];exact⟨rfl,by show((at_+L.length:Nat):Int)<_;omega⟩
    | succ j=>
     have⟨a,b⟩:=k.sz j t hj;show t.2.2=((at_+(j+1)+((if p=((at_+(j+1):Nat):Int) then _ else 0)+pP _ L (at_+1)):Nat):Int)/\_;rw[if_neg au,Ao,a,show at_+1+j=at_+(j+1) by omega];exact⟨rfl,by rw[<-show at_+1+j=at_+(j+1) by omega,<-a];omega⟩
   ·show(if p=p then(((at_+L.length:Nat):Int)+1 - (at_:Int)).toNat else 0)+pP p L (at_+1)=L.length+1;rw[if_pos rfl,uK fun t ht=>by
     rcases k.par t ht with e | e
     ·omega
     ·omega]
    omega
   ·obtain⟨q,rfl⟩:∃q',q=q'+1:=⟨q - 1,au⟩;cases j with
    | zero=>
     have hq':L[q]? =some u:=hq;rcases k.par u (Cm hq') with e | e
     ·omega
     ·omega
    | succ j=>
     have hj':L[j]? =some t:=hj;have hq':L[q]? =some u:=hq;have:=k.nest j q t u hj' hq' au (by rw[show at_+1+q=at_+(q+1) by omega];exact hle)
     rwa [show at_+1+j=at_+(j+1) by omega] at this
  ·cases h
def pZ(T:List dP)(i:Nat):Nat:=match T[i]? with | some t=>(t.2.2+1 - (i:Int)).toNat | none=>0
section
variable {T:List dP}
theorem aCR(k:KZ 0 (-1) T){i:Nat}(hi:i<T.length):pZ T i=1+pP (i:Int) T 0/\pZ T i<=T.length/\i+pZ T i<=T.length:=by
 have⟨a,b⟩:=k.sz i T[i] (Ad hi);have e:pZ T i=(T[i].2.2+1 - (i:Int)).toNat:=by unfold pZ;rw[Ad hi]
 rw[Ao] at a b;omega
def SzI(T:List dP)(i:Nat)(Z:bm):Prop:=Z.length=T.length/\∀j,j<T.length->Z.getD j 0=if i<=j then((pZ T j:Nat):Int) else((pP (j:Int) (T.drop i) i:Nat):Int)
theorem aRL(k:KZ 0 (-1) T)(hN:T.length<=100000)(hpar:∀ (j:Nat) (t:dP),T[j]? =some t->t.1<(j:Int)/\(0<j->0<=t.1)){i:Nat}{Z:bm}(hi:i<T.length)(h:SzI T (i+1) Z):SzI T i (szS T i Z):=by
 have⟨hl,hz⟩:=h;have hT:=Ad hi;have⟨p1,p2⟩:=hpar i T[i] hT;have hdrop:T.drop i=T[i]::T.drop (i+1):=Bw hi;have hsp:=fun j:Nat=>show pP (j:Int) (T.drop i) i=(if T[i].1=(j:Int) then pZ T i else 0)+pP (j:Int) (T.drop (i+1)) (i+1) by
  rw[hdrop];have e:pZ T i=(T[i].2.2+1 - (i:Int)).toNat:=by unfold pZ;rw[hT]
  rw[e];rfl
 have htk:∀j,i<=j->pP (j:Int) T 0=pP (j:Int) (T.drop (i+1)) (i+1):=fun j hij=>by
  conv=>lhs;rw[<-Dl (i+1) T]
  rw[xL,Bq,show min (i+1) T.length=i+1 by omega,Ao,uK (L:=T.take (i+1)),Ao];intro t ht;obtain⟨q,hq,rfl⟩:=List.mem_iff_getElem.1 ht;rw[Bq] at hq;rw[List.getElem_take];have:=(hpar q T[q] (Ad au)).1;omega
 have e1:=aCR k hi;rw[htk i (Af _)] at e1;have hzi:=hz i hi;rw[if_neg au] at hzi;have hw:IntKind.i64.wrap (Z.getD i 0+1)=((pZ T i:Nat):Int):=by rw[hzi,wrap_i64 au au];omega
 unfold szS;rw[hw];have hset:∀j,(Z.set i ((pZ T i:Nat):Int)).getD j 0=if j=i then((pZ T i:Nat):Int) else Z.getD j 0:=fun j=>jA au;by_cases h0:0<i
 ·rw[if_pos h0];obtain⟨q,hq⟩:∃q:Nat,T[i].1=(q:Int):=⟨T[i].1.toNat,by have:=p2 h0;omega⟩;have hqi:q<i:=by omega
  have hpm:(T.map fun t:dP=>t.1).getD i 0=(q:Int):=by rw[Ae,Bz,hT,<-hq];rfl
  rw[hpm,Bd,hset q,if_neg au,hset i,if_pos rfl];have hzq:=hz q au;rw[if_neg au] at hzq;have hb:pP (q:Int) (T.drop i) i<=T.length:=by
   have e2:=aCR k (show q<T.length by omega);have:pP (q:Int) (T.drop i) i<=pP (q:Int) T 0:=by
    conv=>rhs;rw[<-Dl i T]
    rw[xL,Bq,show min i T.length=i by omega,Ao];omega
   omega
  have hsq:=hsp q;rw[if_pos hq] at hsq;have hw2:IntKind.i64.wrap (Z.getD q 0+((pZ T i:Nat):Int))=((pP (q:Int) (T.drop i) i:Nat):Int):=by rw[hzq,wrap_i64 au au];omega
  rw[hw2];refine⟨by rw[Cl,Cl];exact hl,fun j hj=>?_⟩;rw[jA (by rw[Cl];omega),hset j];by_cases ej:j=q
  ·rw[if_pos ej,if_neg au,ej]
  ·rw[if_neg ej];by_cases eji:j=i
   ·rw[if_pos eji,if_pos au,eji]
   ·rw[if_neg eji,hz j hj];by_cases hij:i<=j
    ·rw[if_pos au,if_pos hij]
    ·rw[if_neg au,if_neg hij,hsp j,if_neg au,Ao]
 ·rw[if_neg h0];refine⟨by rw[Cl];exact hl,fun j hj=>?_⟩;rw[hset j];by_cases eji:j=i
  ·rw[if_pos eji,if_pos au,eji]
  ·rw[if_neg eji,hz j hj,if_pos au,if_pos au]
theorem aMZ(k:KZ 0 (-1) T)(hN:T.length<=100000)(hpar:∀ (j:Nat) (t:dP),T[j]? =some t->t.1<(j:Int)/\(0<j->0<=t.1)):∀ {i:Nat} {Z:bm},i<=T.length->SzI T i Z->SzI T 0 (szG T i Z)
 | 0,Z,_,h=>h
 | i+1,Z,hi,h=>aMZ k hN hpar (i:=i) (Z:=szS T i Z) au (aRL k hN hpar au h)
theorem aK2{g:bD}(hT:pQ g=some T)(hl:T.length=g.bw.length)(hN:g.bw.length<=100000){i:Nat}(hi:i<g.bw.length):(szL T g.bw.length).getD i 0=((pZ T i:Nat):Int)/\1<=pZ T i/\i+pZ T i<=g.bw.length:=by
 have hw:iL g.bw.length (iB g) (g.bw.length+1) 0 (-1) 0=some T:=hT;have k:=vV ay hw;have hf:=rM hw;have hpar:∀ (j:Nat) (t:dP),T[j]? =some t->t.1<(j:Int)/\(0<j->0<=t.1):=fun j t hj=>by
  have hlt:=(Ai.1 hj).1;rcases An j with h0 | h0
  ·subst h0;have:=hf.root;unfold oO at this;rw[hj] at this;have e:t.1= -1:=Cd this;exact⟨au,fun h=>absurd h (Nat.lt_irrefl 0)⟩
  ·have⟨q,a,b,_⟩:=hf.pf j h0 hlt;unfold oO at b;rw[hj] at b;have e:t.1=((0+q:Nat):Int):=Cd b;exact⟨au,fun _=>au⟩
 have h0:SzI T T.length (List.replicate g.bw.length 0):=⟨by rw[Bp,hl],fun j hj=>by
  rw[if_neg au,Dp (Af _),aB6 au];rfl⟩
 have h1:=(aMZ k au hpar (Af _) h0).2 i au;rw[if_pos (Dt _),hl] at h1;have⟨e1,e2,e3⟩:=aCR k (show i<T.length by omega);exact⟨h1,au,au⟩
theorem aEB{g:bD}(hT:pQ g=some T)(hl:T.length=g.bw.length){i p q:Nat}(hi:i<g.bw.length)(hpq:p<q)(hq:q<(cj g i).next.length)(hN:g.bw.length<=100000):((cj g i).next.getD p 0).toNat+pZ T ((cj g i).next.getD p 0).toNat<=((cj g i).next.getD q 0).toNat:=by
 have hw:iL g.bw.length (iB g) (g.bw.length+1) 0 (-1) 0=some T:=hT;have k:=vV ay hw;have hf:=rM hw;have hnx:iB g (0+i)=(cj g i).next:=by rw[Ao];exact kR g i
 have mem:=fun t (ht:t<(cj g i).next.length)=>show(cj g i).next.getD t 0∈iB g (0+i) by
  rw[hnx,Ae,Ad ht];exact Cv ht
 have hinc:=hf.inc i au;rw[hnx] at hinc;have hlt:(cj g i).next.getD p 0<(cj g i).next.getD q 0:=by
  have:=Fg.1 hinc p q au hq hpq;rw[Ae,Ad (show p<(cj g i).next.length by omega),Ae,Ad hq];exact this
 have⟨a1,a2,a3⟩:=hf.cf i au _ (mem p au);have⟨b1,b2,b3⟩:=hf.cf i au _ (mem q hq);obtain⟨x,hx⟩:∃x:Nat,(cj g i).next.getD p 0=(x:Int):=⟨_,(Bu au).symm⟩;obtain⟨y,hy⟩:∃y:Nat,(cj g i).next.getD q 0=(y:Int):=⟨_,(Bu au).symm⟩;rw[hx] at a1 a2 a3 hlt;rw[hy] at b1 b2 b3 hlt;rw[hx,hy,Bd,Bd];have hxT:T[x]? =some T[x]:=Ad au;have hyT:T[y]? =some T[y]:=Ad au;have hpar:T[y].1=(i:Int):=by
  unfold oO at b3;rw[Bd,Gu,hyT] at b3;have e:T[y].1=((0+i:Nat):Int):=Cd b3;omega
 have e:pZ T x=(T[x].2.2+1 - (x:Int)).toNat:=by unfold pZ;rw[hxT]
 rw[e];rcases Int.lt_or_le T[x].2.2 (y:Int) with h | h
 ·omega
 ·have:=k.nest x y _ _ hxT hyT au (by rw[Ao];exact h);omega
end
theorem aLo{n j:Nat}{f:Nat->Int}(h:j<n):((List.range n).map f).getD j 0=f j:=by
 rw[Ae,Bz,Ge h];rfl
theorem aLv{n:Nat}{f:Nat->Int}{l:bm}(hl:l.length=n)(h:∀j,j<n->l.getD j 0=f j):l=(List.range n).map f:=
 aMk (by rw[hl,Ce,Eq]) fun j hj=>by rw[h j au,aLo au]
end Go.Ev.Gl
