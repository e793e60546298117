import Derived.Test.YtdkehphobhnjoaaGl18
open Nat renaming reduceEqDiff -> rE, reduceAdd -> rA
set_option maxHeartbeats 0
set_option linter.unusedSimpArgs false
set_option linter.unusedVariables false
namespace Go.Ev.Gl
variable {fns:T dU}
section
variable {g:bD}{c:bu}{pr W:Nat->Nat}{z:Nat}
end
theorem jH{a b:bu}:(cA a b).length=a.length:=by unfold cA;rw[Ay]
structure gD(g:bD)(m:bu):Prop where
 M:qH g m
 nd:¬aCO m
 A:iB g m
section
variable {g:bD}{a b c m:bu}
theorem gD.e(h:gD g m):iF g.bk.length m (iB g m)=0:=by
 unfold iF;rw[if_neg (fun e=>e h.M.len),if_neg (fun e=>e h.M.inn),if_neg h.nd,if_pos h.A]
theorem gD.chk(h:gD g m)(hf:dB g=0):aFP g m (iB g m)=0:=by
 unfold aFP;rw[if_neg (fun e=>e hf)];exact h.e
theorem gD.inj(h:gD g m){i k:Nat}(hi:i<g.bk.length)(hk:k<g.bk.length)(e:eR m i=eR m k):i=k:=by
 have h1:=(h.M.at hi).1;have h2:=(h.M.at hk).1;have hl:=h.M.len;rcases Dt i k with hlt | he | hlt
 ·exact absurd ⟨k,i,hlt,ay,ay⟩ h.nd
 ·exact he
 ·exact absurd ⟨i,k,hlt,ay,ay⟩ h.nd
theorem mO(h:qH g a){i:Nat}(hi:i<g.bk.length):eR (cA a b) i=eR b (eR a i):=by
 unfold eR;rw[kI (by rw[h.len];exact hi)]
theorem aJ1(hl:m.length=g.bk.length)(h:∀i,i<g.bk.length->0<=m.getD i 0/\m.getD i 0<(g.bk.length:Int)):qH g m:=⟨hl,fun x hx=>by
 obtain⟨j,hj,rfl⟩:=Cv.1 hx;have:=h j ay
 rwa [Ad,Ac hj] at this⟩
theorem jG(ha:qH g a)(hb:qH g b):qH g (cA a b):=aJ1 (by rw[jH];exact ha.len) fun i hi=>by
 rw[kI (by rw[ha.len];exact hi)];have h1:=(ha.at hi).2;have h2:=hb.at h1;unfold eR at h1 h2;omega
theorem aK6{l:bu}{x:Int}(h:0<=mA l 0 x):(mA l 0 x).toNat<l.length/\l.getD (mA l 0 x).toNat 0=x:=by
 rcases oN (c:=x) (l:=l) (s:=0) with⟨h1,_⟩ | ⟨k,h1,h2,_⟩
 ·omega
 ·have e:(mA l 0 x).toNat=k:=by omega
  rw[e];exact⟨(Aj.1 h2).1,by rw[Ad,h2];rfl⟩
theorem aKM(G:eY g)(ha:qH g a){i k:Nat}(hi:i<g.bk.length)(hk:k<(cd g i).next.length)(h0:0<=iM g a i k):iM g (cA a b) i k=iM g b (eR a i) (iM g a i k).toNat/\(iM g a i k).toNat<(cd g (eR a i)).next.length:=by
 have⟨c1,c2⟩:=G.kids i hi k hk;have⟨p1,p2⟩:=aK6 h0;refine⟨?_,p1⟩;have e2:(cd g (eR a i)).next.getD (iM g a i k).toNat 0=a.getD ((cd g i).next.getD k 0).toNat 0:=p2;unfold iM at e2 ⊢;rw[mO ha hi,kI (by rw[ha.len];omega),e2]
theorem aBg(G:eY g)(ha:gD g a)(hb:gD g b):gD g (cA a b):=by
 have hM:=jG ha.M hb.M;have hk:=fun i k (hi:i<g.bk.length) (hk:k<(cd g i).next.length)=>aKM (b:=b) G ha.M hi hk (ha.A.kid i k hi hk);have hm:=fun i (hi:i<g.bk.length)=>mO (b:=b) ha.M hi;refine⟨hM,?_,⟨?_,fun i hi=>?_,fun i k hi hki=>?_,fun i k hi hki h1=>?_,fun i j hi hj h1 h2 he=>?_,fun i j hi hj h1 h2 he=>?_⟩⟩
 ·rintro⟨i,k,hki,hi,he⟩;rw[jH,ha.M.len] at hi;have e1:=(hM.at hi).1;have e2:=(hM.at (ay:k<g.bk.length)).1;have:eR (cA a b) i=eR (cA a b) k:=by omega
  rw[hm i hi,hm k ay] at this;have:=ha.inj hi ay (hb.inj (ha.M.at hi).2 (ha.M.at (ay:k<g.bk.length)).2 this);omega
 ·rw[kI (by rw[ha.M.len];exact G.n1),ha.A.root];exact hb.A.root
 ·rw[hm i hi];have⟨x1,x2,x3,x4⟩:=ha.A.like i hi;have⟨y1,y2,y3,y4⟩:=hb.A.like _ (ha.M.at hi).2;exact⟨x1.trans y1,x2.trans y2,x3.trans y3,x4.trans y4⟩
 ·rw[(hk i k hi hki).1];exact hb.A.kid _ _ (ha.M.at hi).2 (hk i k hi hki).2
 ·rw[(hk i k hi hki).1,hm i hi,ha.A.weigh i k hi hki h1];exact hb.A.weigh _ _ (ha.M.at hi).2 (hk i k hi hki).2 (by rw[<- (ha.A.like i hi).1];exact h1)
 ·have⟨x1,x2⟩:=ha.A.info i j hi hj h1 h2 he;have l1:=(ha.A.like i hi).1;have l2:=(ha.A.like j hj).1;have hlen:(cd g j).next.length=(cd g i).next.length:=by
   have a3:=(G.inf i hi h1).2.2;have b3:=(G.inf j hj h2).2.2;rw[<-he,a3] at b3;omega
  have⟨y1,y2⟩:=hb.A.info _ _ (ha.M.at hi).2 (ha.M.at hj).2 (by rw[<-l1];exact h1) (by rw[<-l2];exact h2) x1;rw[hm i hi,hm j hj];refine⟨y1,fun k hki=>?_⟩;rw[(hk i k hi hki).1,(hk j k hj ay).1,<-x2 k hki];exact y2 _ (hk i k hi hki).2
 ·rw[hm i hi,hm j hj] at he;have l1:=(ha.A.like i hi).1;have l2:=(ha.A.like j hj).1;exact ha.A.inj i j hi hj h1 h2 (hb.A.inj _ _ (ha.M.at hi).2 (ha.M.at hj).2 (by rw[<-l1];exact h1) (by rw[<-l2];exact h2) he)
def aHE(g:bD)(m:bu):Prop:=∀i,i<g.bk.length->eR m (eR m i)=i
theorem aJG(ha:a.length=g.bk.length)(hb:qH g b)(h:∀i,i<g.bk.length->a.getD i 0=((eR b i:Nat):Int)):a=b:=
 oL (by rw[ha,hb.len]) fun j hj=>by rw[h j ay,<- (hb.at ay).1]
end
def oV(j:Int):List cK->Nat->Nat
 | [],_=>0
 | t::L,a=>(if t.1=j then(t.2.2+1 - (a:Int)).toNat else 0)+oV j L (a+1)
theorem vU{j:Int}:∀ {L M:List cK} {a:Nat},oV j (L++M) a=oV j L a+oV j M (a+L.length)
 | [],M,a=>by show oV j M a=0+oV j M (a+0);rw[An];rfl
 | t::L,M,a=>by
  show _+oV j (L++M) (a+1)=_+oV j L (a+1)+oV j M (a+(L.length+1));rw[vU (L:=L),show a+1+L.length=a+(L.length+1) by omega,Db]
theorem tO{j:Int}:∀ {L:List cK} {a:Nat},(∀t∈L,t.1≠j)->oV j L a=0
 | [],_,_=>rfl
 | t::L,a,h=>by
  show(if t.1=j then _ else 0)+oV j L (a+1)=0;rw[if_neg (h t (Br ..)),tO fun t ht=>h t (Bj _ ht)]
structure KZ(r:Nat)(p:Int)(L:List cK):Prop where
 par:∀t∈L,t.1=p\/((r:Int)<=t.1/\t.1<((r+L.length:Nat):Int))
 sz:∀ (j:Nat) (t:cK),L[j]? =some t->t.2.2=((r+j+oV ((r+j:Nat):Int) L r:Nat):Int)/\t.2.2<((r+L.length:Nat):Int)
 all:oV p L r=L.length
 nest:∀ (j q:Nat) (t u:cK),L[j]? =some t->L[q]? =some u->j<q->((r+q:Nat):Int)<=t.2.2->((r+j:Nat):Int)<=u.1
theorem KZ.nil{r:Nat}{p:Int}:KZ r p []:=⟨fun t ht=>(by cases ht),fun j t h=>(by simp at h),rfl,fun j q t u h=>(by simp at h)⟩
theorem KZ.app{r:Nat}{p:Int}{L M:List cK}(hp:p<(r:Int))(h1:KZ r p L)(h2:KZ (r+L.length) p M):KZ r p (L++M):=by
 refine⟨fun t ht=>?_,fun j t hj=>?_,by rw[vU,h1.all,h2.all,Ai],fun j q t u hj hq hlt hle=>?_⟩
 ·rw[Ai];rcases Bf.1 ht with h | h
  ·rcases h1.par t h with e | e
   ·exact .inl e
   ·exact .inr ay
  ·rcases h2.par t h with e | e
   ·exact .inl e
   ·exact .inr ay
 ·rw[Ai,vU];by_cases hlt:j<L.length
  ·rw[Al hlt] at hj;have⟨a,b⟩:=h1.sz j t hj;rw[tO (L:=M) fun t ht=>by
    rcases h2.par t ht with e | e
    ·omega
    ·omega,Bh]
   exact⟨a,ay⟩
  ·rw[Am ay] at hj;have⟨a,b⟩:=h2.sz (j - L.length) t hj;rw[show r+L.length+(j - L.length)=r+j by omega] at a;rw[tO (L:=L) fun t ht=>by
    rcases h1.par t ht with e | e
    ·omega
    ·omega,An]
   exact⟨a,ay⟩
 ·by_cases hj1:j<L.length
  ·rw[Al hj1] at hj;have:=(h1.sz j t hj).2;rw[Al ay] at hq;exact h1.nest j q t u hj hq hlt hle
  ·rw[Am ay] at hj hq;have:=h2.nest _ _ t u hj hq ay (by rw[show r+L.length+(q - L.length)=r+q by omega];exact hle)
   rwa [show r+L.length+(j - L.length)=r+j by omega] at this
theorem aCE{rec:Nat->Option (List cK)}{p:Int}(hr:∀ (r:Nat) (L:List cK),p<(r:Int)->rec r=some L->KZ r p L):∀ {l:bu} {r:Nat} {L:List cK},p<(r:Int)->fH rec l r=some L->KZ r p L
 | [],r,L,_,h=>by
  have h:some []=some L:=h;cases h;exact KZ.nil
 | c::l,r,L,hp,h=>by
  simp only[fH] at h;split at h
  ·have⟨L1,h1,h2⟩:=Co.1 h;obtain⟨L2,h3,rfl⟩:=Az.1 h2;exact(hr r L1 hp h1).app hp (aCE hr ay h3)
  ·cases h
theorem pR{N:Nat}{nx:Nat->bu}:∀ {f at_:Nat} {p d:Int} {T:List cK},p<(at_:Int)->eJ N nx f at_ p d=some T->KZ at_ p T
 | 0,_,_,_,_,_,h=>by cases h
 | f+1,at_,p,d,T,hp,h=>by
  simp only[eJ] at h;split at h
  ·obtain⟨L,h1,rfl⟩:=Az.1 h;have k:=aCE (p:=(at_:Int)) (fun r L hr hL=>pR hr hL) ay h1;refine⟨fun t ht=>?_,fun j t hj=>?_,?_,fun j q t u hj hq hlt hle=>?_⟩
   ·rw[Aw];rcases Bm.1 ht with rfl | ht
    ·exact .inl rfl
    ·rcases k.par t ht with e | e
     ·exact .inr ay
     ·exact .inr ay
   ·rw[Aw];cases j with
    | zero=>
     cases hj;rw[Bh];show((at_+L.length:Nat):Int)=((at_+((if p=((at_:Nat):Int) then _ else 0)+oV _ L (at_+1)):Nat):Int)/\_;rw[if_neg ay,An,k.all];exact⟨rfl,by show((at_+L.length:Nat):Int)<_;omega⟩
    | succ j=>
     have⟨a,b⟩:=k.sz j t hj;show t.2.2=((at_+(j+1)+((if p=((at_+(j+1):Nat):Int) then _ else 0)+oV _ L (at_+1)):Nat):Int)/\_;rw[if_neg ay,An,a,show at_+1+j=at_+(j+1) by omega];exact⟨rfl,by rw[<-show at_+1+j=at_+(j+1) by omega,<-a];omega⟩
   ·show(if p=p then(((at_+L.length:Nat):Int)+1 - (at_:Int)).toNat else 0)+oV p L (at_+1)=L.length+1;rw[if_pos rfl,tO fun t ht=>by
     rcases k.par t ht with e | e
     ·omega
     ·omega]
    omega
   ·obtain⟨q,rfl⟩:∃q',q=q'+1:=⟨q - 1,ay⟩;cases j with
    | zero=>
     have hq':L[q]? =some u:=hq;rcases k.par u (Bu hq') with e | e
     ·omega
     ·omega
    | succ j=>
     have hj':L[j]? =some t:=hj;have hq':L[q]? =some u:=hq;have:=k.nest j q t u hj' hq' ay (by rw[show at_+1+q=at_+(q+1) by omega];exact hle)
     rwa [show at_+1+j=at_+(j+1) by omega] at this
  ·cases h
def fA(T:List cK)(i:Nat):Nat:=match T[i]? with | some t=>(t.2.2+1 - (i:Int)).toNat | none=>0
section
variable {T:List cK}
theorem xU(k:KZ 0 (-1) T){i:Nat}(hi:i<T.length):fA T i=1+oV (i:Int) T 0/\fA T i<=T.length/\i+fA T i<=T.length:=by
 have⟨a,b⟩:=k.sz i T[i] (Ac hi);have e:fA T i=(T[i].2.2+1 - (i:Int)).toNat:=by unfold fA;rw[Ac hi]
 rw[An] at a b;omega
def SzI(T:List cK)(i:Nat)(Z:bu):Prop:=Z.length=T.length/\∀j,j<T.length->Z.getD j 0=if i<=j then((fA T j:Nat):Int) else((oV (j:Int) (T.drop i) i:Nat):Int)
theorem aQk(k:KZ 0 (-1) T)(hN:T.length<=100000)(hpar:∀ (j:Nat) (t:cK),T[j]? =some t->t.1<(j:Int)/\(0<j->0<=t.1)){i:Nat}{Z:bu}(hi:i<T.length)(h:SzI T (i+1) Z):SzI T i (szS T i Z):=by
 have⟨hl,hz⟩:=h;have hT:=Ac hi;have⟨p1,p2⟩:=hpar i T[i] hT;have hdrop:T.drop i=T[i]::T.drop (i+1):=Cg hi;have hsp:=fun j:Nat=>show oV (j:Int) (T.drop i) i=(if T[i].1=(j:Int) then fA T i else 0)+oV (j:Int) (T.drop (i+1)) (i+1) by
  rw[hdrop];have e:fA T i=(T[i].2.2+1 - (i:Int)).toNat:=by unfold fA;rw[hT]
  rw[e];rfl
 have htk:∀j,i<=j->oV (j:Int) T 0=oV (j:Int) (T.drop (i+1)) (i+1):=fun j hij=>by
  conv=>lhs;rw[<-Dq (i+1) T]
  rw[vU,Bp,show min (i+1) T.length=i+1 by omega,An,tO (L:=T.take (i+1)),An];intro t ht;obtain⟨q,hq,rfl⟩:=Cv.1 ht;rw[Bp] at hq;rw[List.getElem_take];have:=(hpar q T[q] (Ac ay)).1;omega
 have e1:=xU k hi;rw[htk i (Ag _)] at e1;have hzi:=hz i hi;rw[if_neg ay] at hzi;have hw:IntKind.i64.wrap (Z.getD i 0+1)=((fA T i:Nat):Int):=by rw[hzi,wrap_i64 ay ay];omega
 unfold szS;rw[hw];have hset:∀j,(Z.set i ((fA T i:Nat):Int)).getD j 0=if j=i then((fA T i:Nat):Int) else Z.getD j 0:=fun j=>gE ay;by_cases h0:0<i
 ·rw[if_pos h0];obtain⟨q,hq⟩:∃q:Nat,T[i].1=(q:Int):=⟨T[i].1.toNat,by have:=p2 h0;omega⟩;have hqi:q<i:=by omega
  have hpm:(T.map fun t:cK=>t.1).getD i 0=(q:Int):=by rw[Ad,Bc,hT,<-hq];rfl
  rw[hpm,Ax,hset q,if_neg ay,hset i,if_pos rfl];have hzq:=hz q ay;rw[if_neg ay] at hzq;have hb:oV (q:Int) (T.drop i) i<=T.length:=by
   have e2:=xU k (ay:q<T.length);have:oV (q:Int) (T.drop i) i<=oV (q:Int) T 0:=by
    conv=>rhs;rw[<-Dq i T]
    rw[vU,Bp,show min i T.length=i by omega,An];omega
   omega
  have hsq:=hsp q;rw[if_pos hq] at hsq;have hw2:IntKind.i64.wrap (Z.getD q 0+((fA T i:Nat):Int))=((oV (q:Int) (T.drop i) i:Nat):Int):=by rw[hzq,wrap_i64 ay ay];omega
  rw[hw2];refine⟨by rw[Ar,Ar];exact hl,fun j hj=>?_⟩;rw[gE (by rw[Ar];omega),hset j];by_cases ej:j=q
  ·rw[if_pos ej,if_neg ay,ej]
  ·rw[if_neg ej];by_cases eji:j=i
   ·rw[if_pos eji,if_pos ay,eji]
   ·rw[if_neg eji,hz j hj];by_cases hij:i<=j
    ·rw[if_pos ay,if_pos hij]
    ·rw[if_neg ay,if_neg hij,hsp j,if_neg ay,An]
 ·rw[if_neg h0];refine⟨by rw[Ar];exact hl,fun j hj=>?_⟩;rw[hset j];by_cases eji:j=i
  ·rw[if_pos eji,if_pos ay,eji]
  ·rw[if_neg eji,hz j hj,if_pos ay,if_pos ay]
theorem aLD(k:KZ 0 (-1) T)(hN:T.length<=100000)(hpar:∀ (j:Nat) (t:cK),T[j]? =some t->t.1<(j:Int)/\(0<j->0<=t.1)):∀ {i:Nat} {Z:bu},i<=T.length->SzI T i Z->SzI T 0 (szG T i Z)
 | 0,Z,_,h=>h
 | i+1,Z,hi,h=>aLD k hN hpar (i:=i) (Z:=szS T i Z) ay (aQk k hN hpar ay h)
theorem xR{g:bD}(hT:fJ g=some T)(hl:T.length=g.bk.length)(hN:g.bk.length<=100000){i:Nat}(hi:i<g.bk.length):(szL T g.bk.length).getD i 0=((fA T i:Nat):Int)/\1<=fA T i/\i+fA T i<=g.bk.length:=by
 have hw:eJ g.bk.length (dN g) (g.bk.length+1) 0 (-1) 0=some T:=hT;have k:=pR bg hw;have hf:=lK hw;have hpar:∀ (j:Nat) (t:cK),T[j]? =some t->t.1<(j:Int)/\(0<j->0<=t.1):=fun j t hj=>by
  have hlt:=(Aj.1 hj).1;rcases Bk j with h0 | h0
  ·subst h0;have:=hf.root;unfold kH at this;rw[hj] at this;have e:t.1= -1:=Bl this;exact⟨ay,fun h=>absurd h (Nat.lt_irrefl 0)⟩
  ·have⟨q,a,b,_⟩:=hf.pf j h0 hlt;unfold kH at b;rw[hj] at b;have e:t.1=((0+q:Nat):Int):=Bl b;exact⟨ay,fun _=>ay⟩
 have h0:SzI T T.length (List.replicate g.bk.length 0):=⟨by rw[Aq,hl],fun j hj=>by
  rw[if_neg ay,Ct (Ag _),aK2 ay];rfl⟩
 have h1:=(aLD k ay hpar (Ag _) h0).2 i ay;rw[if_pos (Da _),hl] at h1;have⟨e1,e2,e3⟩:=xU k (ay:i<T.length);exact⟨h1,ay,ay⟩
theorem uQ{g:bD}(hT:fJ g=some T)(hl:T.length=g.bk.length){i p q:Nat}(hi:i<g.bk.length)(hpq:p<q)(hq:q<(cd g i).next.length)(hN:g.bk.length<=100000):((cd g i).next.getD p 0).toNat+fA T ((cd g i).next.getD p 0).toNat<=((cd g i).next.getD q 0).toNat:=by
 have hw:eJ g.bk.length (dN g) (g.bk.length+1) 0 (-1) 0=some T:=hT;have k:=pR bg hw;have hf:=lK hw;have hnx:dN g (0+i)=(cd g i).next:=by rw[An];exact gS g i
 have mem:=fun t (ht:t<(cd g i).next.length)=>show(cd g i).next.getD t 0∈dN g (0+i) by
  rw[hnx,Ad,Ac ht];exact Bo ht
 have hinc:=hf.inc i ay;rw[hnx] at hinc;have hlt:(cd g i).next.getD p 0<(cd g i).next.getD q 0:=by
  have:=Dw.1 hinc p q ay hq hpq;rw[Ad,Ac (ay:p<(cd g i).next.length),Ad,Ac hq];exact this
 have⟨a1,a2,a3⟩:=hf.cf i ay _ (mem p ay);have⟨b1,b2,b3⟩:=hf.cf i ay _ (mem q hq);obtain⟨x,hx⟩:∃x:Nat,(cd g i).next.getD p 0=(x:Int):=⟨_,(Dx ay).symm⟩;obtain⟨y,hy⟩:∃y:Nat,(cd g i).next.getD q 0=(y:Int):=⟨_,(Dx ay).symm⟩;rw[hx] at a1 a2 a3 hlt;rw[hy] at b1 b2 b3 hlt;rw[hx,hy,Ax,Ax];have hxT:T[x]? =some T[x]:=Ac ay;have hyT:T[y]? =some T[y]:=Ac ay;have hpar:T[y].1=(i:Int):=by
  unfold kH at b3;rw[Ax,Eu,hyT] at b3;have e:T[y].1=((0+i:Nat):Int):=Bl b3;omega
 have e:fA T x=(T[x].2.2+1 - (x:Int)).toNat:=by unfold fA;rw[hxT]
 rw[e];rcases Int.lt_or_le T[x].2.2 (y:Int) with h | h
 ·omega
 ·have:=k.nest x y _ _ hxT hyT ay (by rw[An];exact h);omega
end
def eU(n:Nat):bu:=(List.range n).map fun j:Nat=>(j:Int)
theorem oG{n j:Nat}{f:Nat->Int}(h:j<n):((List.range n).map f).getD j 0=f j:=by
 rw[Ad,Bc,Dc h];rfl
theorem aBm{n:Nat}{f:Nat->Int}{l:bu}(hl:l.length=n)(h:∀j,j<n->l.getD j 0=f j):l=(List.range n).map f:=
 oL (by rw[hl,Ay,Dr]) fun j hj=>by rw[h j ay,oG ay]
def iP(a b n j:Nat):Nat:=if a<=j/\j<a+n then j - a+b else if b<=j/\j<b+n then j - b+a else j
def sG(N a b n:Nat):bu:=(List.range N).map fun j:Nat=>((iP a b n j:Nat):Int)
theorem yK{S:St}{wb:Nat}{nv iv pv plv szv:AV}{g:bD}(H:Has fns)(hW:tQ S wb g.bo nv iv pv plv szv)(hn:aP 6 cI S nv g.bk)(hN:g.bk.length<=100000):gH fns (.fn 37 [] []) [.ptr wb 0] S fun r S'=>mG S S' r (eU g.bk.length)/\Same S S':=by
 refine cF H.f37 (by simp) ?_;refine aq ?_;refine bQ (aq ?_);refine bQ (ec @aY @bB @aF @aE (dL hW.1) hn.len ?_);refine gO (pG (n:=g.bk.length) (fj @aJ) (fj @aJ) bf bf) ?_;intro S1 s1 n1 c1;rw[pN] at c1;refine aq ?_;generalize g.bk.length=n at *;refine aA (aW (Q:=fun o A' X=>o= .normal/\yG S S.nx n (fun j=>(j:Int)) (fun F i=>aD 3 F= .sl S.nx 0 n n false/\aD 13 F= .int .i64 (n:Int)/\aD 14 F= .int .i64 (i:Int)) 0 A' X) (aA (aG ?_)) ?_)
 ·have e0:jD (.sl S.nx 0 n n false)=some (.int .i64 (n:Int)):=rfl;refine dz e0 ?_;refine aL (bK (yG S S.nx n (fun j=>(j:Int)) (fun F i=>aD 3 F= .sl S.nx 0 n n false/\aD 13 F= .int .i64 (n:Int)/\aD 14 F= .int .i64 (i:Int))) ?_ n _ _ ⟨rfl,s1,ay,0,_,ay,Aq ..,fun j hj=>ay,c1,ar,ar,by simp only[↓aC,aB,rE,↓reduceIte,rA];try rfl⟩);rintro k ⟨F,inr⟩ X ⟨q0,hX,hb,i,l,hik,hl,hf,hc,p3,p8,p9⟩;simp only at q0 p3 p8 p9;subst q0;refine bQ (d6 p8 p9 ?_);by_cases hlt:i<n
  ·refine aA (aM ff (aH ?_));refine aq ?_;have w1:=dc i
   have hia:=eX (b:=S.nx) (o:=false) hlt;refine aA (aL (aA (aG ?_)));refine dz p9 ?_;refine aG (d7 p3 @aJ hia ?_);refine fD (fun call=>by refine d6 @dS @cH ?_;exact sP (S:=X) hc (by rw[hl];exact hlt)) ?_;refine aq ?_;refine aG (d6 p9 w1 ?_);refine⟨k - 1,ay,rfl,hX.put (Ag _) _,hb,i+1,l.set i (i:Int),ay,by rw[Ar];exact hl,fun j hj=>?_,fq,by refine⟨?_,?_,?_⟩<;>simp only[↓aC,aB,rE,↓reduceIte,rA,p3,p8]⟩;rw[gE (by rw[hl];exact hlt)];split
   ·rename_i e;rw[e]
   ·exact hf j ay
  ·refine aA (aK ff (bG ?_));refine aq ?_;have hk0:k=0:=by omega
   subst hk0;exact⟨rfl,hX,hb,i,l,hik,hl,hf,hc,by refine⟨?_,?_,?_⟩<;>simp only[↓aC,aB,rE,↓reduceIte,rA,p3,p8,p9]⟩
 rintro o ⟨F,inr⟩ X ⟨rfl,q0,hX,hb,i,l,hik,hl,hf,hc,p3,p8,p9⟩;simp only at q0 p3;subst q0;obtain rfl:i=n:=by omega
 obtain rfl:l=eU i:=aBm hl hf;refine aq ?_;refine bQ (dz p3 ?_);refine aR (aq ?_);exact⟨⟨S.nx,by rw[hl],Ag _,hb,hc⟩,hX⟩
def aRc(S1:St)(wb rb N a b n:Nat)(k:Nat)(A:bS)(X:St):Prop:=A.inr=false/\Same S1 X/\rb<X.nx/\∃ (t:Nat) (l:bu),t+k=n/\l.length=N/\(∀j,j<N->l.getD j 0=((iP a b t j:Nat):Int))/\X.h.get rb=some (.cells (bJ l) false 0)/\aD 1 A.F= .int .i64 (a:Int)/\aD 2 A.F= .int .i64 (b:Int)/\aD 7 A.F= .sl rb 0 N N false/\aD 17 A.F= .int .i64 (n:Int)/\aD 18 A.F= .int .i64 (t:Int)
theorem aKA{S:St}{wb plb szb a b n:Nat}{nv iv pv:AV}{g:bD}{R Z:bu}(H:Has fns)(hB:iQ S wb plb szb pv nv iv g R Z)(hn:aP 6 cI S nv g.bk)(hN:g.bk.length<=100000)(hz:Z.getD a 0=(n:Int))(hab:a+n<=b)(hbn:b+n<=g.bk.length)(ha:a<g.bk.length):gH fns (.fn 24 [] []) [.ptr wb 0,.int .i64 (a:Int),.int .i64 (b:Int)] S fun r S'=>mG S S' r (sG g.bk.length a b n)/\Same S S':=by
 refine cF H.f24 (by simp) ?_;refine af ?_;refine bQ (af ?_);refine bQ (af ?_);refine bE (af ?_);refine aQ (yK H hB.w hn hN) ?_;rintro r S1 ⟨⟨rb,rfl,r1,r2,r3⟩,s1⟩;have hlen:(eU g.bk.length).length=g.bk.length:=by unfold eU;rw[Ay,Dr]
 rw[hlen];have hW1:=hB.w.same s1;have gz1:=(s1.2 _ hB.bz).trans hB.gz;have hia:=eX (b:=szb) (o:=false) ha;have hla:=aAY gz1 (p:=a) (by rw[hB.lz];exact ha);rw[hz] at hla;refine fE (dy @aY @bB @aF @aE (dW hW1.1) @aJ hia hla ?_);refine aW (Q:=fun o A' X=>o= .normal/\aRc S wb rb g.bk.length a b n 0 A' X) (aL (bK (aRc S wb rb g.bk.length a b n) ?_ n _ _ ⟨rfl,s1,r2,0,_,ay,hlen,fun j hj=>by unfold eU iP;rw[oG hj,if_neg ay,if_neg ay],r3,ag,ag,ag,ag,ah⟩)) ?_;rotate_left
 ·rintro o ⟨F,inr⟩ X ⟨rfl,q0,sX,hb,t,l,htk,hl,hf,gX,p1,p2,p7,p17,p18⟩;simp only at q0 p7;subst q0;obtain rfl:t=n:=by omega
  obtain rfl:l=sG g.bk.length a b t:=aBm hl hf;refine af ?_;refine bQ (cm p7 ?_);refine aR (af ?_);exact⟨⟨rb,by rw[hl],r1,hb,gX⟩,sX⟩
 clear hla hia gz1 hW1 r3 r2 s1;rintro k ⟨F,inr⟩ X ⟨q0,sX,hb,t,l,htk,hl,hf,gX,p1,p2,p7,p17,p18⟩;simp only at q0 p1 p2 p7 p17 p18;subst q0;refine bQ (df p17 p18 ?_);by_cases hlt:t<n;rotate_left
 ·refine aA (aK fe (bG ?_));refine af ?_;obtain rfl:k=0:=by omega
  exact⟨rfl,sX,hb,t,l,htk,hl,hf,gX,by refine⟨?_,?_,?_,?_,?_⟩<;>simp only[↓sU,sD,rE,↓reduceIte,rA,p1,p2,p7,p17,p18]⟩
 refine aA (aM fe (aH ?_));refine af ?_;have w1:=dc t
 have wa:IntKind.i64.wrap ((a:Int)+(t:Int))=((a+t:Nat):Int):=by rw[wrap_i64 ay ay];omega
 have wb':IntKind.i64.wrap ((b:Int)+(t:Int))=((b+t:Nat):Int):=by rw[wrap_i64 ay ay];omega
 have ia:=eX (b:=rb) (N:=g.bk.length) (o:=false) (ay:a+t<g.bk.length);have ib:=eX (b:=rb) (N:=g.bk.length) (o:=false) (ay:b+t<g.bk.length);refine aA (aL (aA (aG ?_)));refine cm p18 ?_;refine aG (dx p1 p2 p7 @aJ wa wb' ia ?_);refine fD (v:=.undef) (S1:=⟨X.h.set rb (some (.cells (bJ (l.set (a+t) ((b+t:Nat):Int))) false 0)),X.nx⟩) (fun call=>by refine df @dS @cH ?_;exact sP gX ay) ?_;refine df @aJ ib ?_;refine fD (v:=.undef) (S1:=⟨(X.h.set rb (some (.cells (bJ (l.set (a+t) ((b+t:Nat):Int))) false 0))).set rb (some (.cells (bJ ((l.set (a+t) ((b+t:Nat):Int)).set (b+t) ((a+t:Nat):Int))) false 0)),X.nx⟩) (fun call=>by refine df @dS @cH ?_;exact sP (S:=⟨X.h.set rb (some (.cells (bJ (l.set (a+t) ((b+t:Nat):Int))) false 0)),X.nx⟩) (l:=l.set (a+t) ((b+t:Nat):Int)) (o:=false) (sz:=0) fq (by rw[Ar];omega)) ?_;refine af ?_;refine aG (df p18 w1 ?_);refine⟨k - 1,ay,rfl,⟨sX.1,fun c hc=>by simp only;rw[dd,if_neg ay,dd,if_neg ay];exact sX.2 c hc⟩,hb,t+1,(l.set (a+t) ((b+t:Nat):Int)).set (b+t) ((a+t:Nat):Int),ay,by rw[Ar,Ar];exact hl,fun j hj=>?_,fq,by refine⟨?_,?_,?_,?_,?_⟩<;>simp only[↓sU,sD,rE,↓reduceIte,rA,p1,p2,p7,p17]⟩;rw[gE (by rw[Ar];omega),gE ay];unfold iP;by_cases e1:j=b+t
 ·rw[if_pos e1,if_neg ay,if_pos ay];omega
 ·rw[if_neg e1];by_cases e2:j=a+t
  ·rw[if_pos e2,if_pos ay];omega
  ·rw[if_neg e2,hf j hj];unfold iP;by_cases e3:a<=j/\j<a+t
   ·rw[if_pos e3,if_pos (ay:a<=j/\j<a+(t+1))]
   ·rw[if_neg e3,if_neg (ay:¬ (a<=j/\j<a+(t+1)))];by_cases e4:b<=j/\j<b+t
    ·rw[if_pos e4,if_pos (ay:b<=j/\j<b+(t+1))]
    ·rw[if_neg e4,if_neg (ay:¬ (b<=j/\j<b+(t+1)))]
theorem aFC{X:St}{pa pb:Nat}{a b x y:Int}(H:Has fns)(ga:X.h.get pa=some (.cells [.int .i64 a] false 0))(gb:X.h.get pb=some (.cells [.int .i64 b] false 0))(ha:0<=a/\a<=1000000)(hb:0<=b/\b<=1000000)(hx:0<=x/\x<=1000000)(hy:0<=y/\y<=1000000):gH fns (.fn 47 [] [.ptr pa 0,.ptr pb 0]) [.int .i64 x,.int .i64 y] X fun r X'=>r= .bool (decide (x - a=y - b))/\Same X X':=by
 have la:=cV (p:=0) ga rfl;have lb:=cV (p:=0) gb rfl;have w1:IntKind.i64.wrap (x - a)=x - a:=wrap_i64 ay ay;have w2:IntKind.i64.wrap (y - b)=y - b:=wrap_i64 ay ay;refine cF H.f47 (by simp) ?_;refine af ?_;refine bQ (af ?_);refine bQ (dk la lb w1 w2 ?_);refine aR (af ?_);exact de _
def shP(a b:Int)(l m:bu):Prop:=l.length=m.length/\∀k,k<l.length->l.getD k 0 - a=m.getD k 0 - b
def aRV(S:St)(av bv f:AV)(a b:Int)(l m:bu)(k:Nat)(A:bS)(X:St):Prop:=A.inr=false/\Same S X/\∃i,i+k=l.length/\(∀j,j<i->l.getD j 0 - a=m.getD j 0 - b)/\aD 1 A.F=bv/\aD 2 A.F=f/\aD 15 A.F=av/\aD 16 A.F= .int .i64 (l.length:Int)/\aD 17 A.F= .int .i64 (i:Int)
theorem aGB{S:St}{av bv:AV}{pa pb:Nat}{a b:Int}{l m:bu}(H:Has fns)(hl:bO .i64 S av l)(hm:bO .i64 S bv m)(ga:S.h.get pa=some (.cells [.int .i64 a] false 0))(gb:S.h.get pb=some (.cells [.int .i64 b] false 0))(lpa:pa<S.nx)(lpb:pb<S.nx)(ha:0<=a/\a<=1000000)(hb:0<=b/\b<=1000000)(hx:∀j,j<l.length->0<=l.getD j 0/\l.getD j 0<=1000000)(hy:∀j,j<m.length->0<=m.getD j 0/\m.getD j 0<=1000000)(hll:l.length<=10000000):
  gH fns (.fn 49 [] []) [av,bv,.fn 47 [] [.ptr pa 0,.ptr pb 0]] S fun r S'=>Same S S'/\∃t,r= .bool t/\(t=true↔shP a b l m):=by
 have sav:=bO.self hl;refine cF H.f49 (by simp) ?_;refine af ?_;refine bQ (af ?_);refine fE (dh hl.len hm.len @Ah ?_);by_cases hlm:l.length=m.length;rotate_left
 ·refine aM fe ?_;refine bQ (af ?_);refine aR (af ?_);exact⟨de _,false,rfl,fun h=>(by cases h),fun h=>absurd h.1 hlm⟩
 refine aK fe (aH ?_);refine af ?_;refine aA (aW (Q:=fun o A' X=>(o= .normal/\aRV S av bv (.fn 47 [] [.ptr pa 0,.ptr pb 0]) a b l m 0 A' X)\/(o= .ret/\Same S X/\¬shP a b l m/\aD 6 A'.F= .bool false)) (aA (aG ?_)) ?_);rotate_left
 ·rintro o ⟨F,inr⟩ X (⟨rfl,q0,hX,i,hik,he,_⟩ | ⟨rfl,hX,hne,p6⟩)
  ·simp only at q0;subst q0;obtain rfl:i=l.length:=by omega
   refine af ?_;refine bQ (af ?_);refine aR (af ?_);exact⟨hX,true,rfl,fun _=>⟨hlm,he⟩,fun _=>rfl⟩
  ·simp only at p6;refine cm p6 ?_;exact⟨hX,false,rfl,fun h=>(by cases h),fun h=>absurd h hne⟩
 refine df hl.len @Ah ?_;refine aL (bK (aRV S av bv (.fn 47 [] [.ptr pa 0,.ptr pb 0]) a b l m) ?_ l.length _ _ ⟨rfl,de _,0,ay,fun j hj=>absurd hj (Cf j),ag,ag,ag,ag,ah⟩);rintro k ⟨F,inr⟩ X ⟨q0,hX,i,hik,he,p1,p2,p15,p16,p17⟩;simp only at q0 p1 p2 p15 p16 p17;subst q0;refine bQ (df p16 p17 ?_);by_cases hlt:i<l.length;rotate_left
 ·refine aA (aK fe (bG ?_));refine af ?_;obtain rfl:k=0:=by omega
  exact .inl ⟨rfl,hX,i,hik,he,by refine⟨?_,?_,?_,?_,?_⟩<;>simp only[↓sU,sD,rE,↓reduceIte,rA,p1,p2,p15,p16,p17]⟩
 refine aA (aM fe (aH ?_));refine af ?_;have hltm:i<m.length:=by omega
 have ia:=(hl.same hX).cn hlt;have la:=(hl.same hX).ld hlt;have ib:=(hm.same hX).cn hltm;have lb:=(hm.same hX).ld hltm;have w1:=dc i
 refine aA (aL (aA (aG ?_)));refine dt p15 p17 @aJ ia la ?_;refine bQ (dk p1 @aJ ib lb ?_);refine bQ (cm p2 ?_);refine bE (cm p2 ?_);refine aQ (aFC H ((hX.2 _ lpa).trans ga) ((hX.2 _ lpb).trans gb) ha hb (hx i hlt) (hy i hltm)) ?_;rintro _ Y ⟨rfl,hY⟩;have sY:=hX.trans hY;refine cm @eF ?_;by_cases hc:l.getD i 0 - a=m.getD i 0 - b
 ·refine aK (fh (Ab hc) @Bt) (aH ?_);refine af ?_;refine aG (df p17 w1 ?_);exact⟨k - 1,ay,rfl,sY,i+1,ay,fun j hj=>by
   by_cases e:j=i
   ·rw[e];exact hc
   ·exact he j ay,by refine⟨?_,?_,?_,?_,?_⟩<;>simp only[↓sU,sD,rE,↓reduceIte,rA,p1,p2,p15,p16]⟩
 ·refine aM (fh (Aa hc) @Cb) ?_;refine bQ (af ?_);refine aR (af ?_);exact .inr ⟨sY,fun h=>hc (h.2 i hlt)⟩
def aJV(a b:Int)(x y:cP):Prop:=x.kind=y.kind/\x.player=y.player/\x.pay=y.pay/\x.weights=y.weights/\shP a b x.next y.next
def aGa(g:bD)(T:List cK)(a b:Nat):Prop:=fA T a=fA T b/\∀t,t<fA T a->aJV (a:Int) (b:Int) (cd g (a+t)) (cd g (b+t))
def aQM(S2:St)(wb pa pb:Nat)(g:bD)(T:List cK)(a b:Nat)(k:Nat)(A:bS)(X:St):Prop:=A.inr=false/\Same S2 X/\∃t,t+k=fA T a/\(∀j,j<t->aJV (a:Int) (b:Int) (cd g (a+j)) (cd g (b+j)))/\aD 0 A.F= .ptr wb 0/\aD 4 A.F= .ptr pa 0/\aD 5 A.F= .ptr pb 0/\aD 7 A.F= .fn 47 [] [.ptr pa 0,.ptr pb 0]/\aD 33 A.F= .int .i64 ((fA T a:Nat):Int)/\aD 34 A.F= .int .i64 (t:Int)
theorem aHt{S:St}{wb plb szb a b:Nat}{nv iv pv:AV}{g:bD}{T:List cK}(H:Has fns)(G:eY g)(hT:fJ g=some T)(hTl:T.length=g.bk.length)(hB:iQ S wb plb szb pv nv iv g (lC g) (szL T g.bk.length))(hn:aP 6 cI S nv g.bk)(ha:a<g.bk.length)(hb:b<g.bk.length)(hwl:∀i,i<g.bk.length->(cd g i).weights.length<=1000):
  gH fns (.fn 23 [] []) [.ptr wb 0,.int .i64 (a:Int),.int .i64 (b:Int)] S fun r S'=>Same S S'/\∃t,r= .bool t/\(t=true↔aGa g T a b):=by
 have hN2:=G.n2;have⟨za,za1,za2⟩:=xR hT hTl ay ha;have⟨zb,zb1,zb2⟩:=xR hT hTl ay hb;have snv:=aP.self hn;refine cF H.f23 (by simp) ?_;refine af ?_;refine bQ ?_;refine dV (cs:=[.int .i64 (a:Int)]) rfl ?_;intro S1 s1 n1 g1;refine dV (cs:=[.int .i64 (b:Int)]) rfl ?_;intro S2 s2 n2 g2;have g1':=(s2.2 _ (ay:S.nx<S1.nx)).trans g1;have s12:=s1.trans s2;refine af ?_;have hW2:=hB.w.same s12;have gz2:=(s12.2 _ hB.bz).trans hB.gz;have hia:=eX (b:=szb) (o:=false) ha;have hla:=aAY gz2 (p:=a) (by rw[hB.lz];exact ha);have hib:=eX (b:=szb) (o:=false) hb;have hlb:=aAY gz2 (p:=b) (by rw[hB.lz];exact hb);rw[za] at hla;rw[zb] at hlb;have l4:=cV (p:=0) g1' rfl;have l5:=cV (p:=0) g2 rfl;refine aA (aA (iJ ?_));simp only[↓sU,sD,rE,↓reduceIte,rA,aY,bN,bB,aF,aU,aE,dW hW2.1,l4,l5,aJ,hia,hla,hib,hlb];by_cases hsz:fA T a=fA T b;rotate_left
 ·refine aM fe ?_;refine bQ (af ?_);refine aR (af ?_);exact⟨s12.trans (Same.nx _ _),false,rfl,fun h=>(by cases h),fun h=>absurd h.1 hsz⟩
 refine aK fe (aH ?_);refine af ?_;have hmk:∀ (F:Fr) (h:Ev.T AB),aD 4 F= .ptr S.nx 0->aD 5 F= .ptr S1.nx 0->gT (.mkFunc 47 [] [.t 4,.t 5]) F h=some (.fn 47 [] [.ptr S.nx 0,.ptr S1.nx 0]):=fun F h h1 h2=>by
  show some (AV.fn _ (dG [] F) (dG [.t 4,.t 5] F))=_;simp only[dG,fR,h1,h2]
 refine bQ (cm hmk ?_);refine aA (aW (Q:=fun o A' X=>(o= .normal/\aQM S2 wb S.nx S1.nx g T a b 0 A' X)\/(o= .ret/\Same S2 X/\¬aGa g T a b/\aD 6 A'.F= .bool false)) (aA (iJ ?_)) ?_);rotate_left
 ·rintro o ⟨F,inr⟩ X (⟨rfl,q0,hX,t,htk,he,_⟩ | ⟨rfl,hX,hne,p6⟩)
  ·simp only at q0;subst q0;obtain rfl:t=fA T a:=by omega
   refine af ?_;refine bQ (af ?_);refine aR (af ?_);exact⟨s12.trans hX,true,rfl,fun _=>⟨hsz,he⟩,fun _=>rfl⟩
  ·simp only at p6;refine cm p6 ?_;exact⟨s12.trans hX,false,rfl,fun h=>(by cases h),fun h=>absurd h hne⟩
 simp only[↓sU,sD,rE,↓reduceIte,rA,aY,bN,bB,aF,aU,aE,dW hW2.1,l4,l5,aJ,hia,hla];refine aL (bK (aQM S2 wb S.nx S1.nx g T a b) ?_ (fA T a) _ _ ⟨rfl,?_,0,ay,fun j hj=>absurd hj (Cf j),ag,ag,ag,ah,ah,ah⟩);rotate_left
 ·first | exact Same.nx _ _ | exact(Same.nx _ _).trans (Same.nx _ _) | skip
 clear l4 l5 hla hlb hia hib gz2 hW2 hmk;rintro k ⟨F,inr⟩ X ⟨q0,hX,t,htk,he,p0,p4,p5,p7,p33,p34⟩;simp only at q0 p0 p4 p5 p7 p33 p34;subst q0;refine bQ (df p33 p34 ?_);by_cases hlt:t<fA T a;rotate_left
 ·refine aA (aK fe (bG ?_));refine af ?_;obtain rfl:k=0:=by omega
  exact .inl ⟨rfl,hX,t,htk,he,by refine⟨?_,?_,?_,?_,?_,?_⟩<;>simp only[↓sU,sD,rE,↓reduceIte,rA,p0,p4,p5,p7,p33,p34]⟩
 refine aA (aM fe (aH ?_));refine af ?_;have hat:a+t<g.bk.length:=by omega
 have hbt:b+t<g.bk.length:=by omega
 have w1:=dc t
 have wa:IntKind.i64.wrap ((a:Int)+(t:Int))=((a+t:Nat):Int):=by rw[wrap_i64 ay ay];omega
 have wb':IntKind.i64.wrap ((b:Int)+(t:Int))=((b+t:Nat):Int):=by rw[wrap_i64 ay ay];omega
 have sX:=s12.trans hX;have hnX:=aP.same (E:=cI) bT hn sX;have hWX:=hB.w.same sX;have g4:=(hX.2 _ (ay:S.nx<S2.nx)).trans g1';have g5:=(hX.2 _ (ay:S1.nx<S2.nx)).trans g2;have l4:=cV (p:=0) g4 rfl;have l5:=cV (p:=0) g5 rfl;have lwX:wb<X.nx:=Ae hB.w.2 sX.1;have m2:=hX.1;obtain⟨_,bx,qx,hiax,hbx,_,⟨xa,xw,xp,rfl,hxa,hxw,hxp⟩,hldx,_⟩:=aP.at hnX bg (eK hat);obtain⟨_,by',qy,hiay,hby,_,⟨ya,yw,yp,rfl,hya,hyw,hyp⟩,hldy,_⟩:=aP.at hnX bg (eK hbt);have sx:=oU (x0:=(cd g (a+t)).kind) (x1:=(cd g (a+t)).player) (x2:=(cd g (a+t)).info) (k:=.i64) (bO.self hxa) (bO.self hxw) (bO.self hxp);have sy:=oU (x0:=(cd g (b+t)).kind) (x1:=(cd g (b+t)).player) (x2:=(cd g (b+t)).info) (k:=.i64) (bO.self hya) (bO.self hyw) (bO.self hyp);have l4X:S.nx<X.nx:=by omega
 have l5X:S1.nx<X.nx:=by omega
 refine aA (aL (aA (aG ?_)));refine cm p34 ?_;refine aA (qZ (fun _=>False) ?_);simp only[↓sU,sD,rE,↓reduceIte,rA,p0,p4,p5,Ap,aY,bN,bB,aF,aU,aE,dL hWX.1,lwX,snv,l4,l5,l4X,l5X,eM,wa,wb',aJ,hiax,hldx,sx,hbx,hiay,hldy,sy,hby,tJ];refine aJb (n:=6) rfl rfl rfl (ag) (ag) (by refine af ?_;exact bL _) (by refine af ?_;exact bL _) rfl rfl rfl ay ay ay ?_;intro X1 hX1n hgx hgy hX1;rw[bX];have hX1n:X1.nx=X.nx+24:=hX1n;have sX1:Same X X1:=⟨ay,fun c hc=>hX1 c ay ay⟩;show lU fns _ _ X1 _;have hxa1:=hxa.same sX1;have hya1:=hya.same sX1;have hxw1:=hxw.same sX1;have hyw1:=hyw.same sX1;have hxp1:=hxp.same sX1;have hyp1:=hyp.same sX1;have g41:=(sX1.2 _ l4X).trans g4;have g51:=(sX1.2 _ l5X).trans g5;refine aA (aW (Q:=fun o A' Y=>o= .normal/\A'.inr=false/\Same X1 Y/\aD 0 A'.F= .ptr wb 0/\aD 4 A'.F= .ptr S.nx 0/\aD 5 A'.F= .ptr S1.nx 0/\aD 7 A'.F= .fn 47 [] [.ptr S.nx 0,.ptr S1.nx 0]/\aD 33 A'.F= .int .i64 ((fA T a:Nat):Int)/\aD 34 A'.F= .int .i64 (t:Int)/\∃u,aD 93 A'.F= .bool u/\(u=true↔¬aJV (a:Int) (b:Int) (cd g (a+t)) (cd g (b+t)))) (aG ?_) ?_);rotate_left
 ·clear p0 p4 p5 p7 p33 p34;rintro o ⟨F,inr⟩ Y ⟨rfl,q0,hY,p0,p4,p5,p7,p33,p34,u,p93,hu⟩;simp only at q0 p0 p4 p5 p7 p33 p34 p93;subst q0;have sY:=(hX.trans sX1).trans hY;refine af ?_;cases u with
  | true=>
   refine aM (ai p93) ?_;refine bQ (af ?_);refine aR (af ?_);exact .inr ⟨sY,fun h=>hu.1 rfl (h.2 t hlt)⟩
  | false=>
   have hlk:aJV (a:Int) (b:Int) (cd g (a+t)) (cd g (b+t)):=Classical.byContradiction fun h=>by have:=hu.2 h;cases this
   refine aK (ai p93) (aH ?_);refine af ?_;refine aG (df p34 w1 ?_);exact⟨k - 1,ay,rfl,sY,t+1,ay,fun j hj=>by
    by_cases e:j=t
    ·rw[e];exact hlk
    ·exact he j ay,by refine⟨?_,?_,?_,?_,?_,?_⟩<;>simp only[↓sU,sD,rE,↓reduceIte,rA,p0,p4,p5,p7,p33]⟩
 by_cases c1:(cd g (a+t)).kind=(cd g (b+t)).kind;rotate_left
 ·simp only[↓sU,sD,rE,↓reduceIte,rA,p0,p4,p5,p7,p33,p34,aF,aE,eG hgx,eG hgy,Ab (show(cd g (a+t)).kind≠(cd g (b+t)).kind from c1)];exact⟨de _,true,rfl,fun _ h=>c1 h.1,fun _=>rfl⟩
 have c1':=Aa (show ¬ (cd g (a+t)).kind≠(cd g (b+t)).kind from fun h=>h c1);by_cases c2:(cd g (a+t)).player=(cd g (b+t)).player;rotate_left
 ·simp only[↓sU,sD,rE,↓reduceIte,rA,p0,p4,p5,p7,p33,p34,aF,aE,eG hgx,eG hgy,dL hgx,dL hgy,c1',Ab (show(cd g (a+t)).player≠(cd g (b+t)).player from c2)];exact⟨de _,true,rfl,fun _ h=>c2 h.2.1,fun _=>rfl⟩
 have c2':=Aa (show ¬ (cd g (a+t)).player≠(cd g (b+t)).player from fun h=>h c2);simp only[↓sU,sD,rE,↓reduceIte,rA,p0,p4,p5,p7,p33,p34,aF,aE,eG hgx,eG hgy,dL hgx,dL hgy,dW hgx,dW hgy,c1',c2'];refine bE (af ?_);refine aQ (zA H hxp1 hyp1 (by have:=G.pay _ hat;omega)) ?_;rintro _ Y ⟨rfl,hY⟩;have lx1:X.nx+20<X1.nx:=by omega
 have ly1:X.nx+21<X1.nx:=by omega
 have hgxY:=(hY.2 _ lx1).trans hgx;have hgyY:=(hY.2 _ ly1).trans hgy;by_cases c3:(cd g (a+t)).pay=(cd g (b+t)).pay;rotate_left
 ·rw[Aa c3];simp only[↓sU,sD,rE,↓reduceIte,rA,eF,Cb,aF,aE,p0,p4,p5,p7,p33,p34];exact⟨hY,true,rfl,fun _ h=>c3 h.2.2.1,fun _=>rfl⟩
 rw[Ab c3];simp only[↓sU,sD,rE,↓reduceIte,rA,eF,Bt,aF,aE,dP hgxY,dP hgyY,p0,p4,p5,p7,p33,p34];refine bE (af ?_);refine aQ (zA H (hxw1.same hY) (hyw1.same hY) (by have:=hwl _ hat;omega)) ?_;rintro _ Y2 ⟨rfl,hY2⟩;have hgx2:=(hY2.2 _ (Ae lx1 hY.1)).trans hgxY;have hgy2:=(hY2.2 _ (Ae ly1 hY.1)).trans hgyY;have sY2:=hY.trans hY2;by_cases c4:(cd g (a+t)).weights=(cd g (b+t)).weights;rotate_left
 ·rw[Aa c4];simp only[↓sU,sD,rE,↓reduceIte,rA,eF,Cb,aF,aE,p0,p4,p5,p7,p33,p34];exact⟨sY2,true,rfl,fun _ h=>c4 h.2.2.2.1,fun _=>rfl⟩
 rw[Ab c4];simp only[↓sU,sD,rE,↓reduceIte,rA,eF,Bt,aF,aE,dI hgx2,dI hgy2,p0,p4,p5,p7,p33,p34];refine bE (cm p7 ?_);have kb:=fun i (hi:i<g.bk.length) j (hj:j<(cd g i).next.length)=>G.kids i hi j hj;have s12':=sX1.trans sY2;refine aQ (aGB H (hxa.same s12') (hya.same s12') ((s12'.2 _ l4X).trans g4) ((s12'.2 _ l5X).trans g5) (Ae l4X s12'.1) (Ae l5X s12'.1) ay ay  (fun j hj=>by have:=kb _ hat j hj;omega) (fun j hj=>by have:=kb _ hbt j hj;omega) (by have:=G.nxt _ hat;omega)) ?_;rintro _ Y3 ⟨hY3,u,rfl,hu⟩;refine dx @eF p0 p4 p5 p7 p33 p34 ?_;refine⟨sY2.trans hY3, !u,rfl,?_⟩;cases u with
 | true=>exact⟨fun h=>(by cases h),fun h=>absurd ⟨c1,c2,c3,c4,hu.1 rfl⟩ h⟩
 | false=>exact⟨fun _ h=>(by have:=hu.2 h.2.2.2.2;cases this),fun _=>rfl⟩
theorem bO.ptr{k:IntKind}{S:St}{v:AV}{l:bu}{i:Nat}(h:bO k S v l)(hi:i<l.length):∃b off,fC (.slice 1) v i=some (.ptr b off)/\b<S.nx/\eQ (.ptr b off) false 1 S.h=some (.int k (l.getD i 0)):=by
 have ia:=h.cn hi;have ld:=h.ld hi;rcases h with⟨h0,_⟩ | ⟨b,off,cap,o,cs,rfl,_,hb,_⟩
 ·rw[h0] at hi;simp at hi
 ·simp only[aAe] at ia ld;exact⟨b,_,ia,hb,ld⟩
def aI7(g:bD)(T:List cK)(i k j:Nat):Prop:=(cd g i).weights.getD k 0=(cd g i).weights.getD j 0/\aGa g T ((cd g i).next.getD k 0).toNat ((cd g i).next.getD j 0).toNat/\iB g (sG g.bk.length ((cd g i).next.getD k 0).toNat ((cd g i).next.getD j 0).toNat (fA T ((cd g i).next.getD k 0).toNat))
open Classical in
noncomputable def jW(g:bD)(T:List cK)(i k:Nat):Nat->bt
 | 0=>[]
 | j+1=>jW g T i k j++if k<j/\aI7 g T i k j then [sG g.bk.length ((cd g i).next.getD k 0).toNat ((cd g i).next.getD j 0).toNat (fA T ((cd g i).next.getD k 0).toNat)] else []
noncomputable def nF(g:bD)(T:List cK)(i:Nat):Nat->bt
 | 0=>[]
 | k+1=>nF g T i k++jW g T i k (cd g i).next.length
noncomputable def iG(g:bD)(T:List cK):Nat->bt
 | 0=>[]
 | i+1=>iG g T i++if(cd g i).kind=1 then nF g T i (cd g i).next.length else []
open Classical in
theorem aE5{g:bD}{T:List cK}{i k:Nat}:∀ {j:Nat},j<=k+1->jW g T i k j= []
 | 0,_=>rfl
 | j+1,h=>by
  show jW g T i k j++(if _ then _ else [])= [];rw[aE5 ay,if_neg (fun e=>az e.1)];rfl
theorem aGc{N a b n j:Nat}(hab:a+n<=b)(hbn:b+n<=N)(hj:j<N):iP a b n j<N:=by
 unfold iP;split
 ·omega
 ·split<;>omega
theorem aCK{g:bD}{a b n:Nat}(hab:a+n<=b)(hbn:b+n<=g.bk.length):qH g (sG g.bk.length a b n):=
 aJ1 (by unfold sG;rw[Ay,Dr]) fun i hi=>by
  unfold sG;rw[oG hi];have:=aGc hab hbn hi;omega
theorem aLV{N a b n j:Nat}(hab:a+n<=b)(_hj:j<N):iP a b n (iP a b n j)=j:=by
 unfold iP;by_cases e1:a<=j/\j<a+n
 ·rw[if_pos e1,if_neg (ay:¬ (a<=j - a+b/\j - a+b<a+n)),if_pos (ay:b<=j - a+b/\j - a+b<b+n)];omega
 ·rw[if_neg e1];by_cases e2:b<=j/\j<b+n
  ·rw[if_pos e2,if_pos (ay:a<=j - b+a/\j - b+a<a+n)];omega
  ·rw[if_neg e2,if_neg e1,if_neg e2]
theorem zJ{N a b n i:Nat}(hi:i<N):eR (sG N a b n) i=iP a b n i:=by
 unfold eR sG;rw[oG hi,Ax]
theorem aLS{g:bD}{a b n:Nat}(hab:a+n<=b)(hbn:b+n<=g.bk.length)(hA:iB g (sG g.bk.length a b n)):gD g (sG g.bk.length a b n)/\aHE g (sG g.bk.length a b n):=by
 have M:=aCK (g:=g) hab hbn;have h2:aHE g (sG g.bk.length a b n):=fun i hi=>by
  rw[zJ hi,zJ (aGc hab hbn hi)];exact aLV hab hi
 refine⟨⟨M,?_,hA⟩,h2⟩;rintro⟨i,k,hki,hi,he⟩;rw[M.len] at hi;have e1:=(M.at hi).1;have e2:=(M.at (ay:k<g.bk.length)).1;have e3:eR (sG g.bk.length a b n) i=eR (sG g.bk.length a b n) k:=by omega
 have:=h2 i hi;rw[e3,h2 k ay] at this;omega
structure aPM(g:bD)(T:List cK)(i k j:Nat):Prop where
 ap:((cd g i).next.getD k 0).toNat+fA T ((cd g i).next.getD k 0).toNat<=((cd g i).next.getD j 0).toNat
 la:((cd g i).next.getD k 0).toNat<g.bk.length
 lb:((cd g i).next.getD j 0).toNat<g.bk.length
 nb:((cd g i).next.getD j 0).toNat+fA T ((cd g i).next.getD j 0).toNat<=g.bk.length
 za:(szL T g.bk.length).getD ((cd g i).next.getD k 0).toNat 0=((fA T ((cd g i).next.getD k 0).toNat:Nat):Int)
theorem aND{g:bD}{T:List cK}{i k j:Nat}(G:eY g)(hT:fJ g=some T)(hTl:T.length=g.bk.length)(hi:i<g.bk.length)(hkj:k<j)(hj:j<(cd g i).next.length):aPM g T i k j:=by
 have hN:=G.n2;have⟨a1,a2⟩:=G.kids i hi k ay;have⟨b1,b2⟩:=G.kids i hi j hj;have⟨_,_,z3⟩:=xR hT hTl ay (ay:((cd g i).next.getD j 0).toNat<g.bk.length);exact⟨uQ hT hTl hi hkj hj ay,ay,ay,z3,(xR hT hTl ay (ay:((cd g i).next.getD k 0).toNat<g.bk.length)).1⟩
theorem aMk{g:bD}{T:List cK}(G:eY g)(hT:fJ g=some T)(hTl:T.length=g.bk.length):∀m∈iG g T g.bk.length,gD g m/\aHE g m:=by
 have hJ:∀i k,i<g.bk.length->∀j,j<=(cd g i).next.length->∀m∈jW g T i k j,gD g m/\aHE g m:=by
  intro i k hi j
  induction j with
  | zero=>intro _ m hm;cases hm
  | succ j ih=>
   intro hj m hm;rcases Bf.1 hm with h | h
   ·exact ih ay m h
   ·split at h
    ·rename_i hc;have⟨hkj,_,hal,hA⟩:=hc;have P:=aND G hT hTl hi hkj (ay:j<(cd g i).next.length);rw[Ce.1 h];have:=P.nb;have:=hal.1;exact aLS P.ap ay hA
    ·cases h
 have hK:∀i,i<g.bk.length->∀k,∀m∈nF g T i k,gD g m/\aHE g m:=by
  intro i hi k
  induction k with
  | zero=>intro m hm;cases hm
  | succ k ih=>
   intro m hm;rcases Bf.1 hm with h | h
   ·exact ih m h
   ·exact hJ i k hi _ (Ag _) m h
 have hI:∀i,i<=g.bk.length->∀m∈iG g T i,gD g m/\aHE g m:=by
  intro i
  induction i with
  | zero=>intro _ m hm;cases hm
  | succ i ih=>
   intro hi m hm;rcases Bf.1 hm with h | h
   ·exact ih ay m h
   ·split at h
    ·exact hK i ay _ m h
    ·cases h
 exact hI _ (Ag _)
structure SwH(S2 X:St)(wb:Nat)(nv:AV)(g:bD)(pv:AV)(cs:b6)(L:bt)(i:Nat)(F:Fr):Prop where
 same:Same S2 X
 gr:fX 1 S2 X pv L.length cs
 rw:aAM S2 X pv cs L
 t4:aD 4 F= .ptr wb 0
 t6:aD 6 F=pv
 t24:aD 24 F=nv
 t25:aD 25 F= .int .i64 (g.bk.length:Int)
 t26:aD 26 F= .int .i64 (i:Int)
def aO5(S2:St)(wb:Nat)(nv:AV)(g:bD)(T:List cK)(k:Nat)(A:bS)(X:St):Prop:=A.inr=false/\∃ (i:Nat) (pv:AV) (cs:b6),i+k=g.bk.length/\SwH S2 X wb nv g pv cs (iG g T i) i A.F
def aO3(S2:St)(wb nb:Nat)(nv xa:AV)(g:bD)(T:List cK)(cells:b6)(i:Nat)(k:Nat)(A:bS)(X:St):Prop:=A.inr=false/\nb<X.nx/\X.h.get nb=some (.cells cells false 0)/\∃ (q:Nat) (pv:AV) (cs:b6),q+k=(cd g i).next.length/\SwH S2 X wb nv g pv cs (iG g T i++nF g T i q) i A.F/\aD 8 A.F= .ptr nb 0/\aD 34 A.F=xa/\aD 35 A.F= .int .i64 (((cd g i).next.length:Nat):Int)/\aD 36 A.F= .int .i64 (q:Int)
def aLH(S2:St)(wb nb:Nat)(nv xa:AV)(g:bD)(T:List cK)(cells:b6)(i q:Nat)(k:Nat)(A:bS)(X:St):Prop:=A.inr=false/\nb<X.nx/\X.h.get nb=some (.cells cells false 0)/\∃ (j:Nat) (pv:AV) (cs:b6),j+k=(cd g i).next.length/\q<j/\SwH S2 X wb nv g pv cs (iG g T i++(nF g T i q++jW g T i q j)) i A.F/\aD 8 A.F= .ptr nb 0/\aD 34 A.F=xa/\aD 35 A.F= .int .i64 (((cd g i).next.length:Nat):Int)/\aD 36 A.F= .int .i64 (q:Int)/\aD 9 A.F= .int .i64 (q:Int)/\aD 10 A.F= .int .i64 ((cd g i).next.getD q 0)/\aD 11 A.F= .int .i64 (j:Int)
theorem SwH.step{S2 X Y:St}{wb:Nat}{nv pv:AV}{g:bD}{cs:b6}{L:bt}{i:Nat}{F F':Fr}(h:SwH S2 X wb nv g pv cs L i F)(hs:Same X Y)(h4:aD 4 F'=aD 4 F)(h6:aD 6 F'=aD 6 F)(h24:aD 24 F'=aD 24 F)(h25:aD 25 F'=aD 25 F)(h26:aD 26 F'=aD 26 F):SwH S2 Y wb nv g pv cs L i F':=
 ⟨h.same.trans hs,h.gr.step hs,⟨h.rw.1,fun j hj=>by
  have⟨r,h1,h2,h3⟩:=h.rw.2 j hj;exact⟨r,h1,h2.same hs,h3⟩⟩,h4.trans h.t4,h6.trans h.t6,h24.trans h.t24,h25.trans h.t25,h26.trans h.t26⟩
open Classical in
theorem aHI{g:bD}{T:List cK}{i k j:Nat}(hkj:k<j)(h:aI7 g T i k j):jW g T i k (j+1)=jW g T i k j++ [sG g.bk.length ((cd g i).next.getD k 0).toNat ((cd g i).next.getD j 0).toNat (fA T ((cd g i).next.getD k 0).toNat)]:=by
 show jW g T i k j++(if _ then _ else [])=_;rw[if_pos ⟨hkj,h⟩]
open Classical in
theorem aK5{g:bD}{T:List cK}{i k j:Nat}(h:¬aI7 g T i k j):jW g T i k (j+1)=jW g T i k j:=by
 show jW g T i k j++(if _ then _ else [])=_;rw[if_neg (fun e=>h e.2),Bi]
open Classical in
theorem aBG{g:bD}{T:List cK}{i k:Nat}:∀ {j:Nat},(jW g T i k j).length<=j
 | 0=>Ag _
 | j+1=>by
  have ih:=aBG (g:=g) (T:=T) (i:=i) (k:=k) (j:=j);show(jW g T i k j++(if _ then _ else [])).length<=_;rw[Ai];split
  ·rw[Av];omega
  ·show _+0<=_;omega
theorem aBE{g:bD}{T:List cK}{i:Nat}:∀ {k:Nat},(nF g T i k).length<=k * (cd g i).next.length
 | 0=>Da _
 | k+1=>by
  have ih:=aBE (g:=g) (T:=T) (i:=i) (k:=k);have:=aBG (g:=g) (T:=T) (i:=i) (k:=k) (j:=(cd g i).next.length);show(nF g T i k++jW g T i k _).length<=_;rw[Ai,Cm];omega
theorem aEM{g:bD}{T:List cK}(G:eY g):∀ {i:Nat},i<=g.bk.length->(iG g T i).length<=i * 1000000
 | 0,_=>Da _
 | i+1,hi=>by
  have ih:=aEM (T:=T) G (i:=i) ay;have h1:=aBE (g:=g) (T:=T) (i:=i) (k:=(cd g i).next.length);have h2:(cd g i).next.length * (cd g i).next.length<=1000 * 1000:=Fc (G.nxt i ay) (G.nxt i ay);have e:(if(cd g i).kind=1 then nF g T i (cd g i).next.length else []).length<=1000 * 1000:=by
   split
   ·exact Au h1 h2
   ·exact Da _
  show(iG g T i++(if _ then _ else [])).length<=_;rw[Ai];clear h1 h2 hi;omega
theorem aHe{ps:Int}{ni:Nat}{x:cP}(h:iC ps ni x=0):x.weights.length<=1000:=by
 unfold iC at h;split at h
 ·split at h
  ·cases h
  ·rename_i hb;unfold nJ at hb;omega
 ·split at h
  ·split at h
   ·cases h
   ·rename_i hb;unfold vG at hb;omega
  ·split at h
   ·split at h
    ·cases h
    ·rename_i hb;unfold oB at hb;omega
   ·cases h
theorem aCZ{g:bD}(h:dB g=0){i:Nat}(hi:i<g.bk.length):iC g.bo g.bn.length (cd g i)=0:=by
 unfold dB at h;split at h
 ·cases h
 split at h
 ·rename_i h1;exact absurd h h1
 rename_i hN;exact jP (Ee.1 hN) _ (Bu (eK hi))
theorem aIb{S:St}{nv iv:AV}{g:bD}(H:Has fns)(hn:aP 6 cI S nv g.bk)(hi:aP 2 cW S iv g.bn)(hln:g.bk.length<=100000):
  gH fns (.fn 6 [] []) [.agg [.int .i64 g.bo,nv,iv]] S fun r S'=>Same S S'/\∃v,r= .tup [v,.int .i64 (dB g)]/\(dB g≠0->v= .cb)/\(dB g=0->∃T,fJ g=some T/\T.length=g.bk.length/\aP 1 pF S' v (iG g T g.bk.length)/\∀X':St,S'.nx<=X'.nx->(∀c,c<S'.nx->S.nx<=c->X'.h.get c=S'.h.get c)->aP 1 pF X' v (iG g T g.bk.length)):=by
 have snv:=aP.self hn;refine cF H.f6 (by simp) ?_;refine af ?_;refine bQ ?_;refine dV (cs:=[.int .i64 g.bo,nv,iv]) rfl ?_;intro S1 s1 n1 g1;refine af ?_;refine bQ (cm (iT g1) ?_);refine bE (af ?_);refine aQ (aD1 H (aP.same (E:=cI) bT hn s1) (aP.same (E:=cW) cM hi s1) hln) ?_;rintro _ S2 ⟨s2,p,rfl,hlook⟩;refine df @ex0 @ex1 ?_;have s12:=s1.trans s2;refine fE (af ?_);by_cases h0:dB g=0;rotate_left
 ·refine aM (fg (Ab (show dB g≠0 from h0))) ?_;refine bQ (af ?_);refine aR (af ?_);exact⟨s12,.cb,rfl,fun _=>rfl,fun h=>absurd h h0⟩
 refine aK (fg (Aa (show ¬dB g≠0 from fun h=>h h0))) (aH ?_);refine af ?_;obtain⟨wb,plb,szb,pv0,T,rfl,hwb,hT,hTl,hpv,hB⟩:=hlook h0;have G:=iR h0;have K:=aMl h0;have hN2:=G.n2;have hn2:=aP.same (E:=cI) bT hn s12;have hi2:=aP.same (E:=cW) cM hi s12;have g2:=(s2.2 _ (ay:S.nx<S1.nx)).trans g1;have hwl:∀i,i<g.bk.length->(cd g i).weights.length<=1000:=fun i hi=>aHe (aCZ h0 hi);refine bQ (af ?_);refine fE (dt @aF @aE (gI g2) hn2.len snv ?_);refine aW (Q:=fun o A' X=>o= .normal/\aO5 S2 wb nv g T 0 A' X) (aL (bK (aO5 S2 wb nv g T) ?_ g.bk.length _ _ ⟨rfl,0,.cb,[],ay,⟨de _,.inl ⟨rfl,rfl,rfl⟩,⟨rfl,fun j hj=>absurd hj (Cf j)⟩,ag,ah,ah,ah,ah⟩⟩)) ?_;rotate_left
 ·rintro o ⟨F,inr⟩ X ⟨rfl,q0,i,pv,cs,hik,hS⟩;simp only at q0 hS;subst q0;obtain rfl:i=g.bk.length:=by omega
  refine af ?_;refine bQ (cm hS.t6 ?_);refine aR (af ?_);refine⟨s12.trans hS.same,pv,by rw[h0],fun h=>absurd h0 h,fun _=>⟨T,hT,hTl,hS.rw.is hS.gr rfl,fun X' hn' hk'=>?_⟩⟩;have n12:=s12.1;have hr':aAM S2 X' pv cs (iG g T g.bk.length):=⟨hS.rw.1,fun j hj=>by
   have⟨r,h1,h2,h3⟩:=hS.rw.2 j hj;exact⟨r,h1,fO h2 hn' fun c hc=>hk' c (fM h2 hc) (Au n12 (h3 c hc).1),h3⟩⟩
  exact hr'.is (hS.gr.move hn' fun c hc=>hk' c (hS.gr.blk hc).2.1 (Au n12 (hS.gr.blk hc).1)) rfl
 rintro k ⟨F,inr⟩ V ⟨q0,i,pv,cs,hik,hS⟩;simp only at q0 hS;subst q0;refine bQ (df hS.t25 hS.t26 ?_);by_cases hlt:i<g.bk.length;rotate_left
 ·refine aA (aK fe (bG ?_));refine af ?_;obtain rfl:k=0:=by omega
  exact⟨rfl,i,pv,cs,hik,hS.step (de _) (ag) (ag) (ag) (ag) (ag)⟩
 refine aA (aM fe (aH ?_));refine af ?_;obtain⟨_,bx,qx,hiax,hbx,_,⟨xa,xw,xp,rfl,hxa,hxw,hxp⟩,hldx,_⟩:=aP.at hn2 bg (eK hlt);rw[<-oM hS.same hbx] at hldx;have w0:=dc i
 refine aA (aL (aA (aG ?_)));refine d9 hS.t24 hS.t26 @aJ hiax hldx ?_;refine dC ?_;intro W1 v1 k1 h1;refine eS (b:=V.nx) (ar) (by refine aq ?_;exact bL _) h1 rfl rfl ?_;intro Y v2 k2 h2;refine aq ?_;have sVY:Same V Y:=v2.same v1 (Ag _);have lxY:V.nx<Y.nx:=by omega
 have nV:=hS.same.1;clear v1 v2 h1 k1;refine fE (dh @aF @aE (eG h2) ?_);by_cases hk1:(cd g i).kind=1;rotate_left
 ·refine aM (fg (Ab (show(cd g i).kind≠1 from hk1))) (bG ?_);refine af ?_;refine aG (df hS.t26 w0 ?_);have e:iG g T (i+1)=iG g T i:=by
   show iG g T i++(if _ then _ else [])=_;rw[if_neg hk1,Bi]
  have hS':=hS.step (F':=F) sVY rfl rfl rfl rfl rfl;refine⟨k - 1,ay,rfl,i+1,pv,cs,ay,?_⟩;rw[e];exact⟨hS'.same,hS'.gr,hS'.rw,fg hS.t4,fg hS.t6,fg hS.t24,fg hS.t25,ag⟩
 refine aK (fg (Aa (show ¬ (cd g i).kind≠1 from fun h=>h hk1))) (aH ?_);refine af ?_;have e1:iG g T (i+1)=iG g T i++nF g T i (cd g i).next.length:=by
  show iG g T i++(if _ then _ else [])=_;rw[if_pos hk1]
 have hwn:=G.wts i hlt hk1;have hnx:=G.nxt i hlt;have sxa:=bO.self hxa;refine bQ ?_;refine dt @aF @aE (dI h2) ((hxa.same (hS.same.trans sVY)).len) sxa ?_;generalize hcells: [AV.int .i64 (cd g i).kind,.int .i64 (cd g i).player,.int .i64 (cd g i).info,xa,xw,xp]=cells at h2;refine aW (Q:=fun o A' X=>o= .normal/\aO3 S2 wb V.nx nv xa g T cells i 0 A' X) (aL (bK (aO3 S2 wb V.nx nv xa g T cells i) ?_ (cd g i).next.length _ _ ⟨rfl,lxY,h2,0,pv,cs,ay,?_,ag,ag,ah,ah⟩)) ?_;rotate_left
 ·show SwH S2 Y wb nv g pv cs (iG g T i++ []) i _;rw[Bi];exact hS.step sVY (ag) (ag) (ag) (ag) (ag)
 ·rintro o ⟨F,inr⟩ X ⟨rfl,q0,_,_,q,pv,cs,hqk,hSX,_⟩;simp only at q0 hSX;subst q0;obtain rfl:q=(cd g i).next.length:=by omega
  refine af ?_;refine aG (df hSX.t26 w0 ?_);refine⟨k - 1,ay,rfl,i+1,pv,cs,ay,?_⟩;rw[e1];exact⟨hSX.same,hSX.gr,hSX.rw,fg hSX.t4,fg hSX.t6,fg hSX.t24,fg hSX.t25,ag⟩
 clear hS h2 sVY hldx e1 w0 hik;rintro k2 ⟨F,inr⟩ X ⟨q0,lxX,hX,q,pv,cs,hqk,hS,t8,t34,t35,t36⟩;simp only at q0 hS t8 t34 t35 t36;subst q0;refine bQ (df t35 t36 ?_);by_cases hql:q<(cd g i).next.length;rotate_left
 ·refine aA (aK fe (bG ?_));refine af ?_;obtain rfl:k2=0:=by omega
  exact⟨rfl,lxX,hX,q,pv,cs,hqk,hS.step (de _) (ag) (ag) (ag) (ag) (ag),by refine⟨?_,?_,?_,?_⟩<;>simp only[↓sU,sD,rE,↓reduceIte,rA,t8,t34,t35,t36]⟩
 refine aA (aM fe (aH ?_));refine af ?_;have hia:=(hxa.same hS.same).cn hql;have hla:=(hxa.same hS.same).ld hql;have w1:=dc q
 refine aA (aL (aA (aG ?_)));refine dt t34 t36 @aJ hia hla ?_;refine bQ (cm w1 ?_);have e2:nF g T i (q+1)=nF g T i q++jW g T i q (cd g i).next.length:=rfl;refine aW (Q:=fun o A' Z=>o= .normal/\aLH S2 wb V.nx nv xa g T cells i q 0 A' Z) (aL (bK (aLH S2 wb V.nx nv xa g T cells i q) ?_ ((cd g i).next.length - (q+1)) _ _ ⟨rfl,lxX,hX,q+1,pv,cs,ay,ay,?_,ai t8,ai t34,ai t35,ai t36,ag,ah,ah⟩)) ?_;rotate_left
 ·rw[aE5 (Ag _),Bi];exact hS.step (de _) (ag) (ag) (ag) (ag) (ag)
 ·rintro o ⟨F,inr⟩ Z ⟨rfl,q0,lxZ,hZ,j,pv,cs,hjk,_,hSZ,t8,t34,t35,t36,_⟩;simp only at q0 hSZ t8 t34 t35 t36;subst q0;obtain rfl:j=(cd g i).next.length:=by omega
  refine af ?_;refine aG (df t36 w1 ?_);refine⟨k2 - 1,ay,rfl,lxZ,hZ,q+1,pv,cs,ay,?_,by refine⟨?_,?_,?_,?_⟩<;>simp only[↓sU,sD,rE,↓reduceIte,rA,t8,t34,t35]⟩;rw[e2];exact hSZ.step (de _) (ag) (ag) (ag) (ag) (ag)
 clear hS hX lxX t8 t34 t35 t36 hia hla hqk e2;rintro k3 ⟨F,inr⟩ X ⟨q0,lxX,hX,j,pv,cs,hjk,hqj,hS,t8,t34,t35,t36,t9,t10,t11⟩;simp only at q0 hS t8 t34 t35 t36 t9 t10 t11;subst q0;rw[<-hcells] at hX;have hxaX:=hxa.same hS.same;have hxwX:=hxw.same hS.same;refine fE (dx t8 t11 @aF @aE (dI hX) hxaX.len @Ah ?_);by_cases hjl:j<(cd g i).next.length;rotate_left
 ·refine aK fe (bG ?_);refine af ?_;obtain rfl:k3=0:=by omega
  exact⟨rfl,lxX,by rw[<-hcells];exact hX,j,pv,cs,hjk,hqj,hS.step (de _) (ag) (ag) (ag) (ag) (ag),by refine⟨?_,?_,?_,?_,?_,?_,?_⟩<;>simp only[↓sU,sD,rE,↓reduceIte,rA,t8,t34,t35,t36,t9,t10,t11]⟩
 refine aM fe (aH ?_);refine af ?_;have w2:=dc j
 have⟨c1,c2⟩:=G.kids i hlt q hql;have⟨d1,d2⟩:=G.kids i hlt j hjl;have P:=aND G hT hTl hlt hqj hjl;have⟨pP,pla,plb',pnb,pza⟩:=P;have hswOk:aI7 g T i q j↔(cd g i).weights.getD q 0=(cd g i).weights.getD j 0/\aGa g T ((cd g i).next.getD q 0).toNat ((cd g i).next.getD j 0).toNat/\iB g (sG g.bk.length ((cd g i).next.getD q 0).toNat ((cd g i).next.getD j 0).toNat (fA T ((cd g i).next.getD q 0).toNat)):=Iff.rfl;have hon:=fun h=>aHI (g:=g) (T:=T) (i:=i) hqj h;have hoff:=fun h=>aK5 (g:=g) (T:=T) (i:=i) (k:=q) (j:=j) h;obtain⟨ck,hck⟩:∃ck:Nat,(cd g i).next.getD q 0=(ck:Int):=⟨_,(Dx ay).symm⟩;obtain⟨cj,hcj⟩:∃cj:Nat,(cd g i).next.getD j 0=(cj:Int):=⟨_,(Dx ay).symm⟩;have⟨bq,oq,iq,lq,dq⟩:=bO.ptr hxwX (ay:q<(cd g i).weights.length);have⟨bj,oj,ij,lj,dj⟩:=bO.ptr hxwX (ay:j<(cd g i).weights.length);have⟨ba,oa,iaa,laa,daa⟩:=bO.ptr hxaX hjl;rw[hck] at t10;rw[hcj] at daa;simp only[hck,hcj,Ax] at pP pla plb' pnb pza hswOk hon;have sxw:=bO.self hxw;have sxa:=bO.self hxa;have stay:∀ (F':Fr) (Y:St),¬aI7 g T i q j->Same X Y->aD 4 F'= .ptr wb 0->aD 6 F'=pv->aD 24 F'=nv->aD 25 F'= .int .i64 (g.bk.length:Int)->aD 26 F'= .int .i64 (i:Int)->aD 8 F'= .ptr V.nx 0->aD 34 F'=xa->aD 35 F'= .int .i64 (((cd g i).next.length:Nat):Int)->aD 36 F'= .int .i64 (q:Int)->aD 9 F'= .int .i64 (q:Int)->aD 10 F'= .int .i64 (ck:Int)->aD 11 F'= .int .i64 ((j+1:Nat):Int)->∃k',k'<k3/\aLH S2 wb V.nx nv xa g T cells i q k' ⟨F',false⟩ Y:=fun F' Y hne hs a4 a6 a24 a25 a26 a8 a34 a35 a36 a9 a10 a11=>
  ⟨k3 - 1,ay,rfl,Ae lxX hs.1,by rw[<-hcells];exact(hs.2 _ lxX).trans hX,j+1,pv,cs,ay,ay,by rw[hoff hne];exact hS.step hs (by rw[a4,hS.t4]) (by rw[a6,hS.t6]) (by rw[a24,hS.t24]) (by rw[a25,hS.t25]) (by rw[a26,hS.t26]),a8,a34,a35,a36,a9,by rw[hck];exact a10,a11⟩
 refine aA (aL (aA (aA (dO (fun _=>False) ?_))));intro X1 x1;by_cases hwt:(cd g i).weights.getD q 0=(cd g i).weights.getD j 0;rotate_left
 ·simp only[↓sU,sD,rE,↓reduceIte,rA,t8,t9,t11,hS.t4,Ap,aF,aU,aE,dP hX,sxw,lxX,aJ,iq,lq,dq,ij,lj,dj,eM,Ab (show(cd g i).weights.getD q 0≠(cd g i).weights.getD j 0 from hwt)];refine aM (ag) (bG ?_);refine af ?_;refine aG (df t11 w2 ?_);exact stay _ _ (fun h=>hwt (hswOk.1 h).1) x1 (fg hS.t4) (fg hS.t6) (fg hS.t24) (fg hS.t25) (fg hS.t26) (ai t8) (ai t34) (ai t35) (ai t36) (ai t9) (ai t10) (ag)
 have sX1:=hS.same.trans x1;simp only[↓sU,sD,rE,↓reduceIte,rA,t8,t9,t10,t11,hS.t4,Ap,aF,aU,aE,dI hX,dP hX,sxw,sxa,lxX,aJ,iq,lq,dq,ij,lj,dj,iaa,laa,daa,eM,Aa (show ¬ (cd g i).weights.getD q 0≠(cd g i).weights.getD j 0 from fun h=>h hwt)];refine cL rfl ?_;refine af ?_;refine aQ (aHt H G hT hTl (hB.same sX1) (aP.same (E:=cI) bT hn2 sX1) pla plb' hwl) ?_;rintro _ Y ⟨hY,u,rfl,hu⟩;refine⟨hY,?_⟩;have sXY:=x1.trans hY;refine cm @eF ?_;cases u with
 | false=>
  refine aM (fg @Cb) (bG ?_);refine af ?_;refine aG (df t11 w2 ?_);exact stay _ _ (fun h=>by have:=hu.2 (hswOk.1 h).2.1;cases this) sXY (fg hS.t4) (fg hS.t6) (fg hS.t24) (fg hS.t25) (fg hS.t26) (ai t8) (ai t34) (ai t35) (ai t36) (ai t9) (ai t10) (ag)
 | true=>
 have hal:=hu.1 rfl;refine aK (fg @Bt) (aH ?_);refine af ?_;have hXY:=(sXY.2 _ lxX).trans hX;have sSY:=hS.same.trans sXY;have hxaY:=hxa.same sSY;have iaY:=hxaY.cn hjl;have daY:=hxaY.ld hjl;rw[hcj] at daY;have hbn:cj+fA T ck<=g.bk.length:=by rw[hal.1];exact pnb
 refine bQ ?_;simp only[↓sU,sD,rE,↓reduceIte,rA,t8,t10,t11,hS.t4,aF,aE,dI hXY,aJ,iaY,daY];refine bE (af ?_);refine aQ (aKA H (hB.same sSY) (aP.same (E:=cI) bT hn2 sSY) hln pza pP hbn pla) ?_;rintro r Y2 ⟨hr,hY2⟩;have sSY2:=sSY.trans hY2;have M:=aCK (g:=g) pP hbn;refine bQ (dz hS.t4 ?_);refine bE (dz hS.t4 ?_);refine aQ (yS H (aP.same (E:=cI) bT hn2 sSY2) (aP.same (E:=cW) cM hi2 sSY2) hr.is G M hT hTl (hpv.same sSY2) (hB.same sSY2)) ?_;rintro _ Y3 ⟨hY3,x,y,u,rfl,hu2,_⟩;refine d6 @ex0 @ex1 ?_;refine dC ?_;intro Y4 y4 n4 g4;refine eS (b:=Y3.nx) (ar) (by refine aq ?_;exact bL _) g4 rfl rfl ?_;intro Y5 y5 n5 g5;refine aq ?_;have s35:Same Y3 Y5:=y5.same y4 (Ag _);have sX5:=((sXY.trans hY2).trans hY3).trans s35;clear y4 g4 y5 g5;refine bQ (af ?_);cases u with
 | false=>
  refine aK (ag) (aH ?_);refine af ?_;refine aG (df t11 w2 ?_);exact stay _ _ (fun h=>by have:=hu2.2 (hswOk.1 h).2.2;cases this) sX5 (fg hS.t4) (fg hS.t6) (fg hS.t24) (fg hS.t25) (fg hS.t26) (ai t8) (ai t34) (ai t35) (ai t36) (ai t9) (ai t10) (ag)
 | true=>
 have hok:=hswOk.2 ⟨hwt,hal,hu2.1 rfl⟩;have hJ:=hon hok;refine aM (ag) ?_;have⟨rb,hrb,r1,r2,r3⟩:=hr;have hrow:bO .i64 Y5 r (sG g.bk.length ck cj (fA T ck)):=(mG.is ⟨rb,hrb,r1,r2,r3⟩:bO .i64 Y2 r _).same (hY3.trans s35);have hbl:=fun(F:Fr) (id:Nat) (h:aD 88 F=r)=>uK (t:=22) (z:=.cb) (x:=.t 88) (F:=F) (id:=id) hrow h;refine aG (dz hS.t6 ?_);refine gO (hbl _ _ (ar)) ?_;intro Y6 y6 n6 g6;have hpb:∀ {c},aX pv=some c->S2.nx<=c:=fun hc=>(hS.gr.blk hc).1;have nX:=hS.same.1;have n5X:=sX5.1;have hg6:fX 1 S2 Y6 pv (iG g T i++(nF g T i q++jW g T i q j)).length cs:=(hS.gr.step sX5).step y6;have hlen:(iG g T i++(nF g T i q++jW g T i q j)).length+1<=3000000000:=by
  have a1:=aEM (T:=T) G (Nat.le_of_lt hlt);have a2:=aBE (g:=g) (T:=T) (i:=i) (k:=q);have a3:=aBG (g:=g) (T:=T) (i:=i) (k:=q) (j:=j);have a4:q * (cd g i).next.length<=1000 * 1000:=Fc ay hnx;rw[Ai,Ai];omega
 have⟨pv',Z,eA,gA,bA,nA,rA⟩:=fX.push1 (bytes:=24) (x:=r) hg6 ((hS.same.trans sX5).trans y6) g6 bf bf;refine fD (v:=pv') (S1:=Z) (fun call=>by refine dz @fY ?_;exact eA) ?_;refine af ?_;refine aG (df t11 w2 ?_);have n6X:=y6.1;have hbA:∀ {c},aX pv'=some c->c=Y6.nx:=fun hc=>by rw[bA] at hc;exact(Bl hc).symm
 have nbp:aX pv≠some V.nx:=fun e=>aJz hX (hS.gr.blk e).2.2 rfl;have kZ:∀c,c<X.nx->aX pv≠some c->Z.h.get c=X.h.get c:=fun c hc hne=>by
  rw[rA c ay hne,y6.2 c ay];exact sX5.2 c hc
 have nXY:X.nx<=Y.nx:=sXY.1;have r1':Y.nx<=rb:=r1;have hrY:X.nx<=rb:=by omega
 have hR:=hS.rw.push (Z:=Z) (pv':=pv') (r:=r) (l:=sG g.bk.length ck cj (fA T ck)) nX ay (fun c a _ d=>kZ c a d) (fO (hrow.same y6) ay fun c hc=>by
  rw[hrb] at hc;cases hc;exact rA _ (by have:=hY3.1;have:=s35.1;omega) fun e=>by have:=(hS.gr.blk e).2.1;omega) (fun c hc=>by
  rw[hrb] at hc;cases hc;exact⟨hrY,fun e=>by have:=hbA e;have:=hY3.1;have:=s35.1;omega⟩) (fun c hc=>by have:=hbA hc;omega)
 refine⟨k3 - 1,ay,rfl,ay,by rw[<-hcells];exact(kZ _ lxX nbp).trans hX,j+1,pv',cs++ [r],ay,ay,?_,by refine⟨?_,?_,?_,?_,?_,?_,?_⟩<;>simp only[↓sU,sD,rE,↓reduceIte,rA,t8,t34,t35,t36,t9,t10,hck]⟩;have eL:iG g T i++(nF g T i q++jW g T i q (j+1))=(iG g T i++(nF g T i q++jW g T i q j))++ [sG g.bk.length ck cj (fA T ck)]:=by
  rw[hJ,Bd,Bd]
 rw[eL];refine⟨⟨ay,fun c hc=>(kZ c ay (fun e=>by have:=hpb e;omega)).trans (hS.same.2 c hc)⟩,?_,hR,fg hS.t4,ag,fg hS.t24,fg hS.t25,fg hS.t26⟩;rw[Ai,Av];exact gA
def shN(f s:Int)(x:cP):cP:=⟨x.kind,x.player,if x.kind=2 then x.info+s else x.info,x.next.map (· +f),x.weights,x.pay⟩
def kG(one:bD)(seen:Bool)(c:Nat):Nat:=if seen=true then c * one.bn.length else 0
def pK(one:bD)(seen:Bool)(c:Nat):List cP:=one.bk.map (shN ((1+c * one.bk.length:Nat):Int) ((kG one seen c:Nat):Int))
def kL(one:bD)(seen:Bool):Nat->List cP
 | 0=>[]
 | c+1=>kL one seen c++pK one seen c
def lV(n c:Nat):bu:=(List.range c).map fun j:Nat=>((1+j * n:Nat):Int)
def aJS(n c:Nat):cP:=⟨1,0,0,lV n c,List.replicate c 1,[]⟩
def jJ(one:bD)(seen:Bool):Nat->List iS
 | 0=>[]
 | c+1=>if c=0\/seen=true then jJ one seen c++one.bn else jJ one seen c
def dT(one:bD)(c:Nat)(seen:Bool):bD:=⟨one.bo,aJS one.bk.length c::kL one seen c,jJ one seen c⟩
section
variable {one:bD}{seen:Bool}
theorem xP{c:Nat}:(pK one seen c).length=one.bk.length:=by unfold pK;rw[Ay]
theorem lE:∀ {c:Nat},(kL one seen c).length=c * one.bk.length
 | 0=>by rw[Cy];rfl
 | c+1=>by
  show(kL one seen c++pK one seen c).length=_;rw[Ai,lE (c:=c),xP,Cm]
theorem aEa{j t:Nat}:∀ {c:Nat},j<c->t<one.bk.length->(kL one seen c)[j * one.bk.length+t]? =some (shN ((1+j * one.bk.length:Nat):Int) ((kG one seen j:Nat):Int) (cd one t))
 | 0,h,_=>absurd h (Cf _)
 | c+1,h,ht=>by
  show(kL one seen c++pK one seen c)[_]? =_;by_cases e:j=c
  ·subst e;rw[Am (by rw[lE];omega),lE,Ep];unfold pK;rw[Bc,eK ht];rfl
  ·have h1:(j+1) * one.bk.length<=c * one.bk.length:=Cj _ ay;rw[Cm] at h1;rw[Al (by rw[lE];omega)];exact aEa (c:=c) ay ht
theorem oS{c:Nat}:(dT one c seen).bk.length=1+c * one.bk.length:=by
 show(_::kL one seen c).length=_;rw[Aw,lE,Fq]
theorem nN{c j t:Nat}(hj:j<c)(ht:t<one.bk.length):cd (dT one c seen) (1+j * one.bk.length+t)=shN ((1+j * one.bk.length:Nat):Int) ((kG one seen j:Nat):Int) (cd one t):=by
 refine aAb ?_;show(_::kL one seen c)[1+j * one.bk.length+t]? =_;rw[show 1+j * one.bk.length+t=(j * one.bk.length+t)+1 by omega,Cz];exact aEa hj ht
theorem aJi{c i:Nat}(h0:0<i)(hi:i<1+c * one.bk.length):∃j t,j<c/\t<one.bk.length/\i=1+j * one.bk.length+t:=by
 have hn:0<one.bk.length:=by
  rcases Bk one.bk.length with h | h
  ·rw[h,Nat.mul_zero] at hi;omega
  ·exact h
 refine⟨(i - 1) / one.bk.length,(i - 1) % one.bk.length,?_,Nat.mod_lt _ hn,?_⟩
 ·rw[Nat.div_lt_iff_lt_mul hn];omega
 ·have:=Nat.div_add_mod (i - 1) one.bk.length;rw[Nat.mul_comm] at this;omega
theorem lH(hs:seen=true):∀ {c:Nat},(jJ one seen c).length=c * one.bn.length
 | 0=>by rw[Cy];rfl
 | c+1=>by
  show(if c=0\/seen=true then jJ one seen c++one.bn else jJ one seen c).length=_;rw[if_pos (.inr hs),Ai,lH hs (c:=c),Cm]
theorem tC(hs:seen=false):∀ {c:Nat},0<c->jJ one seen c=one.bn
 | 0,h=>absurd h (Cf _)
 | c+1,_=>by
  show(if c=0\/seen=true then jJ one seen c++one.bn else jJ one seen c)=_;by_cases e:c=0
  ·subst e;rw[if_pos (.inl rfl)];exact Bq _
  ·rw[if_neg (by rw[hs];rintro(h | h);exact e h;cases h)];exact tC hs ay
theorem aLh{j i:Nat}(hi:i<one.bn.length):∀ {c:Nat},j<c->(jJ one seen c)[i+kG one seen j]? =one.bn[i]? :=by
 intro c hj;cases hs:seen with
 | false=>
  rw[tC rfl ay];unfold kG;rw[if_neg bg,Bh]
 | true=>
  unfold kG;rw[if_pos rfl]
  induction c with
  | zero=>omega
  | succ c ih=>
   show(if c=0\/true=true then jJ one true c++one.bn else jJ one true c)[_]? =_;rw[if_pos (.inr rfl)];by_cases e:j=c
   ·subst e;rw[Am (by rw[lH rfl];omega),lH rfl,Ez]
   ·have h1:(j+1) * one.bn.length<=c * one.bn.length:=Cj _ ay;rw[Cm] at h1;rw[Al (by rw[lH rfl];omega)];exact ih ay
end
theorem aDN{rec0 rec:Nat->Option (List cK)}{a:Nat}(hr:∀ (r:Nat) (L0:List cK),rec0 r=some L0->∃L,rec (a+r)=some L/\L.length=L0.length/\L.map (fun t:cK=>t.2.1)=L0.map fun t:cK=>t.2.1):∀ {l:bu} {r:Nat} {L0:List cK},fH rec0 l r=some L0->∃L,fH rec (l.map (· +(a:Int))) (a+r)=some L/\L.length=L0.length/\L.map (fun t:cK=>t.2.1)=L0.map fun t:cK=>t.2.1
 | [],r,L0,h=>by
  have h:some []=some L0:=h;cases h;exact⟨[],rfl,rfl,rfl⟩
 | c::l,r,L0,h=>by
  simp only[fH] at h;split at h
  ·rename_i hc;have⟨L1,h1,h2⟩:=Co.1 h;obtain⟨L2,h3,rfl⟩:=Az.1 h2;have⟨M1,e1,e2,e3⟩:=hr r L1 h1;have⟨M2,f1,f2,f3⟩:=aDN hr h3;refine⟨M1++M2,?_,by rw[Ai,Ai,e2,f2],by rw[Dd,Dd,e3,f3]⟩;show(if c+(a:Int)=((a+r:Nat):Int) then(rec (a+r)).bind fun L1=>(fH rec (l.map (· +(a:Int))) (a+r+L1.length)).map (L1++ ·) else none)=_;rw[if_pos ay,e1];show(fH rec (l.map (· +(a:Int))) (a+r+M1.length)).map (M1++ ·)=_;rw[e2,show a+r+L1.length=a+(r+L1.length) by omega,f1];rfl
  ·cases h
theorem aC8{N0 N a:Nat}{nx0 nx:Nat->bu}(hN:a+N0<=N)(hnx:∀j,j<N0->nx (a+j)=(nx0 j).map (· +(a:Int))):∀ {f i:Nat} {p q d:Int} {L0:List cK},eJ N0 nx0 f i p d=some L0->∃L,eJ N nx f (a+i) q d=some L/\L.length=L0.length/\L.map (fun t:cK=>t.2.1)=L0.map fun t:cK=>t.2.1
 | 0,_,_,_,_,_,h=>by cases h
 | f+1,i,p,q,d,L0,h=>by
  simp only[eJ] at h;split at h
  ·rename_i hi;obtain⟨L,h1,rfl⟩:=Az.1 h;have⟨M,e1,e2,e3⟩:=aDN (rec:=fun r=>eJ N nx f r ((a+i:Nat):Int) (d+1)) (a:=a) (fun r L0 hL=>aC8 hN hnx hL) h1;refine⟨(q,d,((a+i+M.length:Nat):Int))::M,?_,by rw[Aw,Aw,e2],by rw[Dv,Dv,e3]⟩;simp only[eJ];rw[if_pos ay,hnx i hi,show a+i+1=a+(i+1) by omega,e1];rfl
  ·cases h
theorem rX.shift{k a:Nat}{s:Int}{B:List cP}(h:rX k 0 B):rX k a (B.map (shN (a:Int) s)):=by
 refine⟨by rw[Ay];exact h.1,fun N nx hN hnx f p d hf=>?_⟩;rw[Ay] at hN hf;have⟨L0,h1,h2,h3⟩:=h.2 B.length (fun i=>((B[i]?).map (·.next)).getD []) ay (fun i x hi=>by
  show((B[0+i]?).map (·.next)).getD []=_;rw[An,hi];rfl) f p d hf
 have⟨L,e1,e2,e3⟩:=aC8 (N:=N) (a:=a) (nx:=nx) (q:=p) hN (fun j hj=>by
  have:=hnx j (shN (a:Int) s B[j]) (by rw[Bc,Ac hj];rfl);rw[this,Ac hj];rfl) h1
 refine⟨L,e1,by rw[e2,h2,Ay],fun t ht=>?_⟩;have hm:t.2.1∈L0.map fun t:cK=>t.2.1:=by rw[<-e3];exact Dl.2 ⟨t,ht,rfl⟩
 have⟨u,hu,he⟩:=Dl.1 hm;have:=h3 u hu;omega
theorem fQ.le{l:List (Option Nat)}{n:Nat}(h:fQ l n):n<=l.length:=by
 induction h with
 | nil=>exact Ag _
 | none _ ih=>rw[Ai];omega
 | old _ _ ih=>rw[Ai];omega
 | new _ ih=>rw[Ai,Av];omega
theorem fQ.lt{l:List (Option Nat)}{n:Nat}(h:fQ l n):∀i,some i∈l->i<n:=by
 induction h with
 | nil=>intro i hi;cases hi
 | none _ ih=>
  intro i hi;rcases Bf.1 hi with h | h
  ·exact ih i h
  ·have:=Ce.1 h;cases this
 | old _ hlt ih=>
  intro i hi;rcases Bf.1 hi with h | h
  ·exact ih i h
  ·have:=Ce.1 h;cases this;exact hlt
 | new _ ih=>
  intro i hi;rcases Bf.1 hi with h | h
  ·have:=ih i h;omega
  ·have:=Ce.1 h;cases this;omega
theorem fQ.app{l l':List (Option Nat)}{n n':Nat}(h:fQ l n)(h':fQ l' n'):fQ (l++l'.map (Option.map (· +n))) (n+n'):=by
 induction h' with
 | nil=>rw[List.map_nil,Bi];exact h
 | none _ ih=>rw[Dd,<-Bd];exact ih.none
 | old _ hlt ih=>rw[Dd,<-Bd];exact ih.old (by show _+n<_;omega)
 | @new l'' n'' _ ih=>
  rw[Dd,<-Bd];have:=ih.new;rw[show n+n''=n''+n by omega] at this;show fQ (_++ [some (n''+n)]) _;rw[show n+(n''+1)=n''+n+1 by omega];exact this
theorem fQ.same:∀ {l' l:List (Option Nat)} {n:Nat},fQ l n->(∀i,some i∈l'->i<n)->fQ (l++l') n
 | [],l,n,h,_=>by rw[Bi];exact h
 | x::l',l,n,h,h'=>by
  rw[List.append_cons];refine fQ.same ?_ fun i hi=>h' i (Bj _ hi);cases x with
  | none=>exact h.none
  | some i=>exact h.old (h' i (Br ..))
structure vD(one:bD):Prop where
 prs:1<=one.bo/\one.bo<=4
 n1:1<=one.bk.length
 n2:one.bk.length<=60
 form:dB one=0
 ok:∀x∈one.bk,jQ one.bo one.bn x
 sub:∃k,k<=5/\rX k 0 one.bk
 ord:fQ (one.bk.map yO) one.bn.length
section
variable {one:bD}{seen:Bool}
theorem aDf{x:cP}:∀ {c:Nat},x∈kL one seen c->∃j y,j<c/\y∈one.bk/\x=shN ((1+j * one.bk.length:Nat):Int) ((kG one seen j:Nat):Int) y
 | 0,h=>by cases h
 | c+1,h=>by
  rcases Bf.1 h with h | h
  ·have⟨j,y,a,b,e⟩:=aDf h;exact⟨j,y,ay,b,e⟩
  ·have⟨y,b,e⟩:=Dl.1 h;exact⟨c,y,Ea _,b,e.symm⟩
theorem aQw{c j:Nat}{y:cP}{f:Int}(hj:j<c)(h:jQ one.bo one.bn y):jQ one.bo (jJ one seen c) (shN f ((kG one seen j:Nat):Int) y):=by
 have hl:(shN f ((kG one seen j:Nat):Int) y).next.length=y.next.length:=Ay ..;rcases h with h | h | h
 ·refine .inl ⟨h.kind,h.player,?_,?_,h.wts,h.len,h.pay⟩
  ·show(if y.kind=2 then _ else y.info)=0;rw[if_neg (by rw[h.kind];decide)];exact h.info
  ·show y.next.map _= [];rw[h.next];rfl
 ·refine .inr (.inl ⟨h.kind,h.player,?_,h.pay,by rw[hl];exact h.n1,by rw[hl];exact h.n2,by rw[hl];exact h.len,h.wts⟩);show(if y.kind=2 then _ else y.info)=0;rw[if_neg (by rw[h.kind];decide)];exact h.info
 ·have hi:(shN f ((kG one seen j:Nat):Int) y).info=y.info+((kG one seen j:Nat):Int):=by
   show(if y.kind=2 then _ else y.info)=_;rw[if_pos h.kind]
  refine .inr (.inr ⟨h.kind,h.wts,h.pay,by rw[hl];exact h.n1,by rw[hl];exact h.n2,h.pl,by rw[hi];have:=h.inf;omega,?_⟩);have hlt:=(Aj.1 h.at_).1;rw[hi,show(y.info+((kG one seen j:Nat):Int)).toNat=y.info.toNat+kG one seen j by have:=h.inf;omega,aLh hlt hj,h.at_,hl];rfl
theorem aOs{n c:Nat}{ps:Int}{I:List iS}(hc:1<=c/\c<=3):jQ ps I (aJS n c):=by
 have hl:(aJS n c).next.length=c:=by show(lV n c).length=c;unfold lV;rw[Ay,Dr]
 refine .inr (.inl ⟨rfl,rfl,rfl,rfl,by rw[hl];exact hc.1,by rw[hl];exact hc.2,by rw[hl];exact Aq ..,fun w hw=>?_⟩);have:w∈List.replicate c (1:Int):=hw;rw[List.eq_of_mem_replicate this];decide
theorem aDe{k:Nat}(h:rX k 0 one.bk):∀ {c:Nat},aEc k 1 (lV one.bk.length c) (kL one seen c)
 | 0=>aEc.nil
 | c+1=>by
  have:=(aDe h (c:=c)).snoc (B:=pK one seen c) (by rw[lE];exact h.shift);rw[lE] at this;have e:lV one.bk.length (c+1)=lV one.bk.length c++ [((1+c * one.bk.length:Nat):Int)]:=by unfold lV;rw[List.range_succ,Dd];rfl
  rw[e];exact this
theorem aPO{f:Int}{s:Nat}{y:cP}(h:y.kind=2->0<=y.info):yO (shN f (s:Int) y)=(yO y).map (· +s):=by
 unfold yO;by_cases hk:y.kind=2
 ·rw[if_pos hk,if_pos (show(shN f (s:Int) y).kind=2 from hk)];have e:(shN f (s:Int) y).info=y.info+(s:Int):=by
   show(if y.kind=2 then _ else y.info)=_;rw[if_pos hk]
  rw[e];show some (y.info+(s:Int)).toNat=some (y.info.toNat+s);have:=h hk;rw[show(y.info+(s:Int)).toNat=y.info.toNat+s by omega]
 ·rw[if_neg hk,if_neg (show ¬ (shN f (s:Int) y).kind=2 from hk)];rfl
theorem aNN{c:Nat}(h:vD one):(pK one seen c).map yO=(one.bk.map yO).map (Option.map (· +kG one seen c)):=by
 unfold pK;rw[Fj,Fj];refine Et fun y hy=>?_;refine aPO fun hk=>?_;rcases h.ok y hy with h | h | h
 ·have:=h.kind;omega
 ·have:=h.kind;omega
 ·exact h.inf
theorem zX(h:vD one):∀ {c:Nat},0<c->fQ ((kL one seen c).map yO) (jJ one seen c).length
 | 0,h0=>absurd h0 (Cf _)
 | c+1,_=>by
  show fQ ((kL one seen c++pK one seen c).map yO) _;rw[Dd,aNN h];by_cases hs:seen=true
  ·rw[lH hs];have e:kG one seen c=c * one.bn.length:=by unfold kG;rw[if_pos hs]
   rw[e,Cm];rcases Bk c with h0 | h0
   ·subst h0;rw[Cy,An];have:=fQ.app fQ.nil h.ord
    rwa [An] at this
   ·have:=zX h h0;rw[lH hs] at this;exact this.app h.ord
  ·have hs:seen=false:=by cases seen<;>first | rfl | exact absurd rfl hs
   rw[tC hs (Nat.succ_pos c)];have e:kG one seen c=0:=by unfold kG;rw[if_neg (by rw[hs];decide)]
   rw[e];rcases Bk c with h0 | h0
   ·subst h0;have:=fQ.app fQ.nil h.ord
    rwa [An] at this
   ·have:=zX h h0;rw[tC hs h0] at this;refine this.same fun i hi=>?_;have⟨x,hx,he⟩:=Dl.1 hi;cases x with
    | none=>cases he
    | some v=>
     have he:some (v+0)=some i:=he;cases he;exact h.ord.lt v hx
theorem fQ.cons{l:List (Option Nat)}{n:Nat}(h:fQ l n):fQ (Option.none::l) n:=by
 induction h with
 | nil=>exact fQ.nil.none
 | none _ ih=>exact ih.none
 | old _ hlt ih=>exact ih.old hlt
 | new _ ih=>exact ih.new
theorem aBW{c:Nat}(h:vD one)(hc:1<=c/\c<=3):dB (dT one c seen)=0/\(∀x∈(dT one c seen).bk,jQ (dT one c seen).bo (dT one c seen).bn x):=by
 have⟨k,hk,hS⟩:=h.sub;have hn1:=h.n1;have hn2:=h.n2;have hm:one.bn.length<=one.bk.length:=by have:=h.ord.le;rwa [Ay] at this
 have hcn:c * one.bk.length<=3 * 60:=Fc hc.2 h.n2;have hcm:(jJ one seen c).length<=3 * 60:=by
  cases hs:seen with
  | true=>rw[lH rfl];exact Fc hc.2 ay
  | false=>rw[tC rfl hc.1];omega
 have hok:∀x∈(dT one c seen).bk,jQ (dT one c seen).bo (dT one c seen).bn x:=fun x hx=>by
  rcases Bm.1 hx with rfl | hx
  ·exact aOs hc
  ·obtain⟨j,y,hj,hy,rfl⟩:=aDf hx;exact aQw hj (h.ok y hy)
 refine⟨aHw (k:=k+1) h.prs (by rw[oS];omega) (by show(jJ one seen c).length<=200;omega) hok (rX.node (aDe hS)) ay ?_,hok⟩;show fQ (yO (aJS one.bk.length c)::(kL one seen c).map yO) _;exact(zX h hc.1).cons
end
def xg(j:Nat):Nat:=if j=0 then 1 else if j=1 then 0 else j
theorem aAB{c j:Nat}(hc:2<=c)(hj:j<c):xg j<c:=by
 unfold xg;split
 ·omega
 ·split<;>omega
theorem aRU{n j t:Nat}(ht:t<n):iP 1 (1+n) n (1+j * n+t)=1+xg j * n+t:=by
 unfold iP xg;rcases Dt j 1 with h | h | h
 ·obtain rfl:j=0:=by omega
  rw[if_pos (ay:1<=1+0 * n+t/\1+0 * n+t<1+n),if_pos rfl];omega
 ·subst h;rw[if_neg (ay:¬ (1<=1+1 * n+t/\1+1 * n+t<1+n)),if_pos (ay:1+n<=1+1 * n+t/\1+1 * n+t<1+n+n),if_neg bg,if_pos rfl];omega
 ·have:2 * n<=j * n:=Cj _ h;rw[if_neg (ay:¬ (1<=1+j * n+t/\1+j * n+t<1+n)),if_neg (ay:¬ (1+n<=1+j * n+t/\1+j * n+t<1+n+n)),if_neg ay,if_neg ay]
theorem aEB{l:bu}{k:Nat}{x:Int}(hk:k<l.length)(he:l.getD k 0=x)(hd:∀k',k'<l.length->l.getD k' 0=x->k'=k):mA l 0 x=(k:Int):=by
 have hm:l[k]? =some x:=by rw[<-he,Ad,Ac hk];rfl
 rcases oN (c:=x) (l:=l) (s:=0) with⟨_,h2⟩ | ⟨k1,h1,h2,_⟩
 ·exact absurd (Bu hm) h2
 ·have:=hd k1 (Aj.1 h2).1 (by rw[Ad,h2];rfl);rw[h1,this,An]
theorem aA0{l:bu}{f:Int}{k:Nat}(hk:k<l.length):(l.map (· +f)).getD k 0=l.getD k 0+f:=by
 rw[Ad,Bc,Ac hk,Ad,Ac hk];rfl
section
variable {one:bD}{seen:Bool}{c:Nat}
theorem aBa{j t:Nat}(hj:j<c)(ht:t<one.bk.length):1+j * one.bk.length+t<(dT one c seen).bk.length:=by
 rw[oS];have:(j+1) * one.bk.length<=c * one.bk.length:=Cj _ hj;rw[Cm] at this;omega
theorem aEh(G1:eY one){j t k:Nat}(hj:j<c)(ht:t<one.bk.length)(hk:k<(cd one t).next.length):∃u,u<one.bk.length/\(cd one t).next.getD k 0=(u:Int)/\(cd (dT one c seen) (1+j * one.bk.length+t)).next.getD k 0=((1+j * one.bk.length+u:Nat):Int):=by
 have⟨a,b⟩:=G1.kids t ht k hk;refine⟨((cd one t).next.getD k 0).toNat,ay,ay,?_⟩;rw[nN hj ht];show((cd one t).next.map (· +_)).getD k 0=_;rw[aA0 hk];omega
theorem tM{j t:Nat}(hj:j<c)(ht:t<one.bk.length):(cd (dT one c seen) (1+j * one.bk.length+t)).next.length=(cd one t).next.length:=by
 rw[nN hj ht];exact Ay ..
theorem aKm{n k:Nat}(hk:k<c):(lV n c).getD k 0=((1+k * n:Nat):Int):=by
 unfold lV;exact oG hk
theorem xY{n:Nat}:(lV n c).length=c:=by unfold lV;rw[Ay,Dr]
theorem aAA(h1:1<=one.bk.length)(hc:2<=c){j t:Nat}(hj:j<c)(ht:t<one.bk.length):eR (sG (dT one c seen).bk.length 1 (1+one.bk.length) one.bk.length) (1+j * one.bk.length+t)=1+xg j * one.bk.length+t:=by
 rw[zJ (aBa hj ht)];exact aRU ht
theorem aCG:eR (sG (dT one c seen).bk.length 1 (1+one.bk.length) one.bk.length) 0=0:=by
 rw[zJ (by rw[oS];omega)];unfold iP;rw[if_neg ay,if_neg ay]
theorem aIJ{i:Nat}(hi:i<(dT one c seen).bk.length):(sG (dT one c seen).bk.length 1 (1+one.bk.length) one.bk.length).getD i 0=((eR (sG (dT one c seen).bk.length 1 (1+one.bk.length) one.bk.length) i:Nat):Int):=by
 rw[zJ hi];unfold sG;rw[oG hi]
theorem aFR(G:eY (dT one c seen))(G1:eY one)(h1:1<=one.bk.length)(hc:2<=c){j t k:Nat}(hj:j<c)(ht:t<one.bk.length)(hk:k<(cd one t).next.length):iM (dT one c seen) (sG (dT one c seen).bk.length 1 (1+one.bk.length) one.bk.length) (1+j * one.bk.length+t) k=(k:Int):=by
 have hs:=aAB hc hj;have⟨u,hu,e1,e2⟩:=aEh (seen:=seen) G1 hj ht hk;have⟨u',hu',e1',e3⟩:=aEh (seen:=seen) G1 hs ht hk;obtain rfl:u'=u:=by omega
 unfold iM;rw[e2,Ax,aIJ (aBa hj hu),aAA h1 hc hj hu,aAA h1 hc hj ht];refine aEB (by rw[tM hs ht];exact hk) e3 fun k' hk' he=>?_;exact(G.only (aBa hs ht) hk' (aBa hs ht) (by rw[tM hs ht];exact hk) (by rw[he,e3])).2
theorem aGw(G:eY (dT one c seen))(h1:1<=one.bk.length)(hc:2<=c){k:Nat}(hk:k<c):iM (dT one c seen) (sG (dT one c seen).bk.length 1 (1+one.bk.length) one.bk.length) 0 k=((xg k:Nat):Int):=by
 have hs:=aAB hc hk;have hN:0<(dT one c seen).bk.length:=by rw[oS];omega
 have e:∀q,q<c->(cd (dT one c seen) 0).next.getD q 0=((1+q * one.bk.length:Nat):Int):=fun q hq=>aKm hq;have hl:(cd (dT one c seen) 0).next.length=c:=xY;have h2:=aAA (seen:=seen) h1 hc hk (t:=0) h1;rw[Bh,Bh] at h2;unfold iM;rw[aCG,e k hk,Ax,aIJ (by have:=aBa (seen:=seen) hk (t:=0) h1;rwa [Bh] at this),h2];refine aEB (by rw[hl];exact hs) (e _ hs) fun k' hk' he=>?_;exact(G.only hN hk' hN (by rw[hl];exact hs) (by rw[he,e _ hs])).2
theorem aKi(h:vD one)(hc:2<=c/\c<=3):iB (dT one c seen) (sG (dT one c seen).bk.length 1 (1+one.bk.length) one.bk.length):=by
 have G:=iR (aBW (seen:=seen) h ⟨ay,hc.2⟩).1;have G1:=iR h.form;have h1:=h.n1;have hlen:=oS (one:=one) (seen:=seen) (c:=c);have split:=fun i (h0:0<i) (hi:i<(dT one c seen).bk.length)=>aJi (one:=one) (c:=c) h0 (by rw[<-hlen];exact hi);have hroot:(cd (dT one c seen) 0).next.length=c:=xY;have kind_at:=fun j t (hj:j<c) (ht:t<one.bk.length)=>show(cd (dT one c seen) (1+j * one.bk.length+t)).kind=(cd one t).kind by rw[nN hj ht];rfl
 have info_at:=fun j t (hj:j<c) (ht:t<one.bk.length) (hk:(cd one t).kind=2)=>show(cd (dT one c seen) (1+j * one.bk.length+t)).info=(cd one t).info+((kG one seen j:Nat):Int) by
  rw[nN hj ht];show(if(cd one t).kind=2 then _ else _)=_;rw[if_pos hk]
 have inf1:=fun t (ht:t<one.bk.length) (hk:(cd one t).kind=2)=>G1.inf t ht hk;have off_inj:∀ (j j':Nat) (x y:Int),0<=x->x<(one.bn.length:Int)->0<=y->y<(one.bn.length:Int)->x+((kG one seen j:Nat):Int)=y+((kG one seen j':Nat):Int)->x=y/\(seen=true->j=j'):=by
  intro j j' x y hx1 hx2 hy1 hy2 he;unfold kG at he;by_cases hs:seen=true
  ·rw[if_pos hs,if_pos hs] at he;rcases Dt j j' with hlt | heq | hlt
   ·have:=Cj one.bn.length (show j+1<=j' from hlt);rw[Cm] at this;omega
   ·subst heq;exact⟨ay,fun _=>rfl⟩
   ·have:=Cj one.bn.length (show j'+1<=j from hlt);rw[Cm] at this;omega
  ·rw[if_neg hs,if_neg hs] at he;exact⟨ay,fun h=>absurd h hs⟩
 have off_xg:∀j j':Nat,(seen=true->j=j')->kG one seen (xg j)=kG one seen (xg j'):=fun j j' hjj=>by
  unfold kG;by_cases hs:seen=true
  ·rw[hjj hs]
  ·rw[if_neg hs,if_neg hs]
 have xg_xg:∀j,xg (xg j)=j:=fun j=>by
  unfold xg;by_cases e0:j=0
  ·rw[if_pos e0,e0];rfl
  ·rw[if_neg e0];by_cases e1:j=1
   ·rw[if_pos e1,e1];rfl
   ·rw[if_neg e1,if_neg e0,if_neg e1]
 refine⟨?_,fun i hi=>?_,fun i k hi hk=>?_,fun i k hi hk hk1=>?_,fun i i' hi hi' hk hk' he=>?_,fun i i' hi hi' hk hk' he=>?_⟩
 ·rw[aIJ (by rw[hlen];omega),aCG];rfl
 ·rcases Bk i with h0 | h0
  ·subst h0;rw[aCG];exact⟨rfl,rfl,rfl,rfl⟩
  ·obtain⟨j,t,hj,ht,rfl⟩:=split i h0 hi;have hs:=aAB hc.1 hj;rw[aAA h1 hc.1 hj ht,nN hj ht,nN hs ht];exact⟨rfl,by show(List.map _ _).length=(List.map _ _).length;rw[Ay,Ay],rfl,rfl⟩
 ·rcases Bk i with h0 | h0
  ·subst h0;rw[aGw G h1 hc.1 (by rwa [hroot] at hk)];omega
  ·obtain⟨j,t,hj,ht,rfl⟩:=split i h0 hi;rw[aFR G G1 h1 hc.1 hj ht (by rwa [tM hj ht] at hk)];omega
 ·rcases Bk i with h0 | h0
  ·subst h0;rw[hroot] at hk;rw[aGw G h1 hc.1 hk,Ax,aCG];have hs:=aAB hc.1 hk;have e:∀q,q<c->(cd (dT one c seen) 0).weights.getD q 0=1:=fun q hq=>by
    show(List.replicate c (1:Int)).getD q 0=1;rw[Ad,Cl,if_pos hq];rfl
   rw[e k hk,e _ hs]
  ·obtain⟨j,t,hj,ht,rfl⟩:=split i h0 hi;have hs:=aAB hc.1 hj;rw[aFR G G1 h1 hc.1 hj ht (by rwa [tM hj ht] at hk),Ax,aAA h1 hc.1 hj ht,nN hj ht,nN hs ht];rfl
 ·rcases Bk i with h0 | h0
  ·subst h0;cases hk
  rcases Bk i' with h0' | h0'
  ·subst h0';cases hk'
  obtain⟨j,t,hj,ht,rfl⟩:=split i h0 hi;obtain⟨j',t',hj',ht',rfl⟩:=split i' h0' hi';have hs:=aAB hc.1 hj;have hs':=aAB hc.1 hj';rw[kind_at j t hj ht] at hk;rw[kind_at j' t' hj' ht'] at hk';rw[info_at j t hj ht hk,info_at j' t' hj' ht' hk'] at he;have⟨a1,a2,a3⟩:=inf1 t ht hk;have⟨b1,b2,b3⟩:=inf1 t' ht' hk';have⟨x1,x2⟩:=off_inj j j' _ _ a1 a2 b1 b2 he;rw[aAA h1 hc.1 hj ht,aAA h1 hc.1 hj' ht',info_at _ t hs ht hk,info_at _ t' hs' ht' hk',x1,off_xg j j' x2];refine⟨rfl,fun k hk2=>?_⟩;rw[tM hj ht] at hk2;rw[<-x1,a3] at b3;rw[aFR G G1 h1 hc.1 hj ht hk2,aFR G G1 h1 hc.1 hj' ht' ay]
 ·rcases Bk i with h0 | h0
  ·subst h0;cases hk
  rcases Bk i' with h0' | h0'
  ·subst h0';cases hk'
  obtain⟨j,t,hj,ht,rfl⟩:=split i h0 hi;obtain⟨j',t',hj',ht',rfl⟩:=split i' h0' hi';have hs:=aAB hc.1 hj;have hs':=aAB hc.1 hj';rw[kind_at j t hj ht] at hk;rw[kind_at j' t' hj' ht'] at hk';rw[aAA h1 hc.1 hj ht,aAA h1 hc.1 hj' ht',info_at _ t hs ht hk,info_at _ t' hs' ht' hk'] at he;have⟨a1,a2,_⟩:=inf1 t ht hk;have⟨b1,b2,_⟩:=inf1 t' ht' hk';have⟨x1,x2⟩:=off_inj _ _ _ _ a1 a2 b1 b2 he;rw[info_at j t hj ht hk,info_at j' t' hj' ht' hk',x1];have:=off_xg (xg j) (xg j') x2;rw[xg_xg,xg_xg] at this;rw[this]
end
theorem aED{N:Nat}{nx:Nat->bu}{f a:Nat}{p d:Int}{L:List cK}(h:eJ N nx f a p d=some L):∃t,L[0]? =some t/\t.2.2+1=((a+L.length:Nat):Int):=by
 cases f with
 | zero=>cases h
 | succ f=>
  simp only[eJ] at h;split at h
  ·obtain⟨M,_,rfl⟩:=Az.1 h;refine⟨_,rfl,?_⟩;rw[Aw];show((a+M.length:Nat):Int)+1=_;omega
  ·cases h
section
variable {one:bD}{seen:Bool}{c:Nat}{T:List cK}
theorem aEX{n:Nat}(hc:2<=c):∃l,lV n c=1::((1+n:Nat):Int)::l:=by
 obtain⟨d,rfl⟩:∃d,c=d+2:=⟨c - 2,ay⟩;refine⟨(List.range d).map fun j:Nat=>((1+(j+1+1) * n:Nat):Int),?_⟩;unfold lV;rw[List.range_succ_eq_map,List.range_succ_eq_map,Dv,Dv,Dv,Fj,Fj];have e0:((1+0 * n:Nat):Int)=1:=by rw[Cy];rfl
 have e1:((1+(Nat.succ 0) * n:Nat):Int)=((1+n:Nat):Int):=by rw[show Nat.succ 0 * n=n from Fi n]
 rw[e0,e1];rfl
theorem aID(h:vD one)(hc:2<=c)(hT:fJ (dT one c seen)=some T):fA T 1=one.bk.length/\fA T (1+one.bk.length)=one.bk.length:=by
 have⟨k,_,hS⟩:=h.sub;have h1:=h.n1;have hlen:=oS (one:=one) (seen:=seen) (c:=c);have hsub:∀j,j<c->∃L,eJ (dT one c seen).bk.length (dN (dT one c seen)) (dT one c seen).bk.length (1+j * one.bk.length) ((0:Nat):Int) (0+1)=some L/\L.length=one.bk.length:=fun j hj=>by
  have hs:=hS.shift (a:=1+j * one.bk.length) (s:=((kG one seen j:Nat):Int));have⟨L,e1,e2,_⟩:=hs.2 (dT one c seen).bk.length (dN (dT one c seen)) (by
   rw[Ay];obtain⟨t,ht⟩:∃t,one.bk.length=t+1:=⟨one.bk.length - 1,ay⟩;have:=aBa (one:=one) (seen:=seen) hj (t:=t) ay;omega) (fun i x hi=>by
   have hlt:=(Aj.1 hi).1;rw[Ay] at hlt;rw[gS,nN hj hlt];rw[Bc,eK hlt] at hi;cases hi;rfl) (dT one c seen).bk.length ((0:Nat):Int) (0+1) (by rw[Ay,hlen];have:1 * one.bk.length<=c * one.bk.length:=Cj _ ay;omega)
  exact⟨L,e1,by rw[e2,Ay]⟩
 have⟨l,hl⟩:=aEX (n:=one.bk.length) hc;have hw:eJ (dT one c seen).bk.length (dN (dT one c seen)) ((dT one c seen).bk.length+1) 0 (-1) 0=some T:=hT;simp only[eJ] at hw;rw[if_pos ay] at hw;obtain⟨L,hk,rfl⟩:=Az.1 hw;have hn0:dN (dT one c seen) 0=lV one.bk.length c:=by rw[gS];rfl
 rw[hn0,hl] at hk;have⟨L0,a1,a2⟩:=hsub 0 ay;have⟨L1,b1,b2⟩:=hsub 1 ay;rw[Cy,Bh] at a1;rw[Fi] at b1;simp only[fH,An] at hk;rw[if_pos (by rfl)] at hk;have⟨L0',c1,c2⟩:=Co.1 hk;rw[show(0:Int)+1=0+1 from rfl] at c1;have c1':=c1.symm.trans a1;cases c1';obtain⟨M,c3,rfl⟩:=Az.1 c2;rw[a2] at c3;rw[if_pos rfl] at c3;have⟨L1',d1,d2⟩:=Co.1 c3;have d1':=d1.symm.trans b1;cases d1';obtain⟨M2,_,rfl⟩:=Az.1 d2;have⟨t0,e0,f0⟩:=aED a1;have⟨t1,e1,f1⟩:=aED b1;rw[a2] at f0;rw[b2] at f1;refine⟨?_,?_⟩
 ·unfold fA;have:((-1,0,((0+(L0++(L1++M2)).length:Nat):Int))::(L0++(L1++M2)):List cK)[1]? =some t0:=by
   rw[Cz,Al ay];exact e0
  rw[this];show(t0.2.2+1 - ((1:Nat):Int)).toNat=_;omega
 ·unfold fA;have:((-1,0,((0+(L0++(L1++M2)).length:Nat):Int))::(L0++(L1++M2)):List cK)[1+one.bk.length]? =some t1:=by
   rw[Fq 1,Cz,Am ay,a2,Dn,Al ay];exact e1
  rw[this];show(t1.2.2+1 - ((1+one.bk.length:Nat):Int)).toNat=_;omega
theorem aKJ(h:vD one)(hc:2<=c/\c<=3)(hT:fJ (dT one c seen)=some T):aI7 (dT one c seen) T 0 0 1:=by
 have⟨z0,z1⟩:=aID h hc.1 hT;have h1:=h.n1;have⟨l,hl⟩:=aEX (n:=one.bk.length) hc.1;have e0:((cd (dT one c seen) 0).next.getD 0 0).toNat=1:=by
  show((lV one.bk.length c).getD 0 0).toNat=1;rw[hl];rfl
 have e1:((cd (dT one c seen) 0).next.getD 1 0).toNat=1+one.bk.length:=by
  show((lV one.bk.length c).getD 1 0).toNat=_;rw[hl];show(((1+one.bk.length:Nat):Int)).toNat=_;omega
 unfold aI7;rw[e0,e1,z0];refine⟨?_,⟨by rw[z0,z1],fun t ht=>?_⟩,aKi h hc⟩
 ·have e:∀q,q<c->(cd (dT one c seen) 0).weights.getD q 0=1:=fun q hq=>by
   show(List.replicate c (1:Int)).getD q 0=1;rw[Ad,Cl,if_pos hq];rfl
  rw[e 0 ay,e 1 ay]
 ·rw[z0] at ht;have x0:=nN (one:=one) (seen:=seen) (c:=c) (j:=0) (t:=t) ay ht;have x1:=nN (one:=one) (seen:=seen) (c:=c) (j:=1) (t:=t) ay ht;rw[Cy,Bh] at x0;rw[Fi] at x1;rw[x0,x1];refine⟨rfl,rfl,rfl,rfl,by show(List.map _ _).length=(List.map _ _).length;rw[Ay,Ay],fun k hk=>?_⟩;have hk':k<(cd one t).next.length:=by
   have:k<(List.map (· +((1:Nat):Int)) (cd one t).next).length:=hk
   rwa [Ay] at this
  show(List.map (· +((1:Nat):Int)) (cd one t).next).getD k 0 - ((1:Nat):Int)=(List.map (· +((1+one.bk.length:Nat):Int)) (cd one t).next).getD k 0 - ((1+one.bk.length:Nat):Int);rw[aA0 hk',aA0 hk'];omega
theorem aDl{g:bD}{i k:Nat}:∀ {j j':Nat},j<=j'->(jW g T i k j).length<=(jW g T i k j').length
 | j,0,h=>by
  obtain rfl:j=0:=by omega
  exact Ag _
 | j,j'+1,h=>by
  by_cases e:j=j'+1
  ·rw[e];exact Ag _
  ·refine Au (aDl (j:=j) (j':=j') ay) ?_;show _<=(jW g T i k j'++_).length;rw[Ai];omega
theorem aDp{g:bD}{i:Nat}:∀ {k k':Nat},k<=k'->(nF g T i k).length<=(nF g T i k').length
 | k,0,h=>by
  obtain rfl:k=0:=by omega
  exact Ag _
 | k,k'+1,h=>by
  by_cases e:k=k'+1
  ·rw[e];exact Ag _
  ·refine Au (aDp (k:=k) (k':=k') ay) ?_;show _<=(nF g T i k'++_).length;rw[Ai];omega
theorem aDB{g:bD}:∀ {i i':Nat},i<=i'->(iG g T i).length<=(iG g T i').length
 | i,0,h=>by
  obtain rfl:i=0:=by omega
  exact Ag _
 | i,i'+1,h=>by
  by_cases e:i=i'+1
  ·rw[e];exact Ag _
  ·refine Au (aDB (i:=i) (i':=i') ay) ?_;show _<=(iG g T i'++_).length;rw[Ai];omega
theorem aNy(h:vD one)(hc:2<=c/\c<=3)(hT:fJ (dT one c seen)=some T):1<=(iG (dT one c seen) T (dT one c seen).bk.length).length:=by
 have hok:=aKJ h hc hT;have hroot:(cd (dT one c seen) 0).next.length=c:=xY;refine Au ?_ (aDB (i:=1) (by rw[oS];omega));show 1<=([]++if(cd (dT one c seen) 0).kind=1 then nF (dT one c seen) T 0 (cd (dT one c seen) 0).next.length else []).length;rw[if_pos (show(cd (dT one c seen) 0).kind=1 from rfl),Bq];refine Au ?_ (aDp (k:=1) (by rw[hroot];omega));show 1<=([]++jW (dT one c seen) T 0 0 (cd (dT one c seen) 0).next.length).length;rw[Bq];refine Au ?_ (aDl (j:=2) (by rw[hroot];omega));rw[aHI bg hok,Ai,Av];omega
end
end Go.Ev.Gl
