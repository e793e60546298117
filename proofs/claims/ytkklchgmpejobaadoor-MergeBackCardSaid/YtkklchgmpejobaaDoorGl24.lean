import Derived.Test.YtkklchgmpejobaaDoorGl23
open Nat renaming reduceEqDiff → rE, reduceAdd → rA
set_option maxHeartbeats 16000000
set_option linter.unusedSimpArgs false
set_option linter.unusedVariables false
namespace Go.Ev.Gl
variable {fns:T dB}
def iE(u:Nat→Nat→List bS):List Int→Nat→List Int×List bS
 | [],_=>([],[])
 | k::ks,i=>((i:Int)::(iE u ks (i+(u k.toNat i).length)).1,u k.toNat i++(iE u ks (i+(u k.toNat i).length)).2)
def pQ(h:bM):Nat→Nat→Nat→List bS
 | 0,_,_=>[]
 | f+1,v,i=>{nodeAt h v with next:=(iE (pQ h f) (nodeAt h v).next (i+1)).1}::(iE (pQ h f) (nodeAt h v).next (i+1)).2
def aFy(h:bM):Nat→Nat→Nat
 | 0,_=>0
 | f+1,v=>1+((nodeAt h v).next.map fun c=>aFy h f c.toNat).sum
def nB(h:bM)(v:Nat):Nat:=aFy h h.nodes.length v
def iQ(h:bM):bM:=⟨h.players,pQ h h.nodes.length 0 0,h.infos⟩
def qC(h:bM):Prop:=0<h.nodes.length∧eI h∧∀j,1≤j→j<h.nodes.length→∃i,i<h.nodes.length∧((j:Nat):Int)∈(nodeAt h i).next
section
variable {u:Nat→Nat→List bS}
theorem aC8:∀ {l:List Int} {i:Nat},(iE u l i).1.length=l.length
 | [],_=>rfl
 | k::ks,i=>by
  show(iE u ks _).1.length+1=ks.length+1;rw[aC8]
theorem zB{w:Nat→Nat}(hu:∀v i,(u v i).length=w v):∀ {l:List Int} {i:Nat},(iE u l i).2.length=(l.map fun c=>w c.toNat).sum
 | [],_=>rfl
 | k::ks,i=>by
  show(u k.toNat i++(iE u ks _).2).length=_;rw[Ai,zB hu,hu,Cz,List.sum_cons]
theorem aCU:∀ {l:List Int} {k:Int} {i:Nat},iE u (l++ [k]) i=((iE u l i).1++ [((i+(iE u l i).2.length:Nat):Int)],(iE u l i).2++u k.toNat (i+(iE u l i).2.length))
 | [],k,i=>by simp [iE]
 | x::l,k,i=>by
  rw[Bk]
  conv=>lhs;unfold iE
  rw[aCU]
  conv=>rhs;unfold iE
  simp [Cr]
theorem aBB{u':Nat→Nat→List bS}:∀ {l:List Int} {i:Nat},(∀k∈l,∀i,u k.toNat i=u' k.toNat i)→iE u l i=iE u' l i
 | [],_,_=>rfl
 | k::ks,i,h=>by
  unfold iE;rw[h k (by simp),aBB fun k hk=>h k (by simp [hk])]
end
section
variable {h:bM}
theorem aCy:∀ {f v i:Nat},(pQ h f v i).length=aFy h f v
 | 0,_,_=>rfl
 | f+1,v,i=>by
  show(iE (pQ h f) (nodeAt h v).next (i+1)).2.length+1=1+_;rw[zB (w:=aFy h f) fun v i=>aCy];omega
theorem yE{α β:Type}{f g:α→β}{l:List α}(h:∀a∈l,f a=g a):l.map f=l.map g:=Cw h
theorem zJ(hK:eI h):∀ {f f' v:Nat},v<h.nodes.length→h.nodes.length - v≤f→h.nodes.length - v≤f'→aFy h f v=aFy h f' v
 | 0,_,v,hv,h1,_=>by omega
 | f+1,0,v,hv,_,h2=>by omega
 | f+1,f'+1,v,hv,h1,h2=>by
  unfold aFy;rw[yE fun c hc=>?_];obtain⟨k1,k2⟩:=qB (hK:=hK) hv hc;exact zJ hK k2 (by omega) (by omega)
theorem aCV(hK:eI h):∀ {f f' v i:Nat},v<h.nodes.length→h.nodes.length - v≤f→h.nodes.length - v≤f'→pQ h f v i=pQ h f' v i
 | 0,_,v,_,hv,h1,_=>by omega
 | f+1,0,v,_,hv,_,h2=>by omega
 | f+1,f'+1,v,i,hv,h1,h2=>by
  unfold pQ;rw[aBB fun c hc i=>?_];obtain⟨k1,k2⟩:=qB (hK:=hK) hv hc;exact aCV hK k2 (by omega) (by omega)
def vG(h:bM)(v j:Nat):Nat:=1+(((nodeAt h v).next.take j).map fun c=>nB h c.toNat).sum
theorem aEx{v j:Nat}(hj:j<(nodeAt h v).next.length):vG h v (j+1)=vG h v j+nB h ((nodeAt h v).next.getD j 0).toNat:=by
 unfold vG;rw[Bx,Dr,List.sum_append_nat,Ah,Ad hj];simp only[Option.toList_some,Fd,Cz,List.map_nil,List.sum_cons,List.sum_nil];omega
theorem zP(hK:eI h){v:Nat}(hv:v<h.nodes.length):vG h v (nodeAt h v).next.length=nB h v:=by
 unfold vG nB;rw[Ch];obtain⟨n,hn⟩:∃n,h.nodes.length=n+1:=⟨h.nodes.length - 1,by omega⟩
 conv=>rhs;rw[hn];unfold aFy
 rw[yE fun c hc=>?_];obtain⟨k1,k2⟩:=qB (hK:=hK) hv hc;exact zJ hK k2 (by omega) (by omega)
def sL(n:Nat):Int:=if n≤2000 then(n:Int) else 2001
theorem aKA(a:Nat):0≤sL a∧sL a≤2001:=by
 unfold sL;split<;>omega
theorem aG5:(iQ h).nodes.length=nB h 0:=aCy
end
def aIr(_:St)(cs:List AV)(x:Bool):Prop:=cs= [.bool x]
def aQA(S:St)(v:AV)(l:List Bool)(z:Bool)(k:Nat)(A:bR)(X:St):Prop:=A.inr=false∧X=S∧∃j,j+k=l.length∧z∉l.take j∧aD 0 A.F=v∧aD 1 A.F= .bool z∧aD 7 A.F= .int .i64 ((l.length:Nat):Int)∧aD 8 A.F= .int .i64 (j:Int)
theorem aNX(a b:Bool):eX .eql (.p .bool) (.bool a) (.bool b)=some (.bool (a==b)):=by cases a<;>cases b<;>rfl
theorem aOT{S:St}{v:AV}{l:List Bool}(h:aY 1 aIr S v l){j:Nat}(hj:j<l.length):∃p,eQ (.slice 1) v j=some p∧cW p false 1 S.h=some (.bool (l.getD j false)):=by
 obtain⟨e,b,p,h1,h2,h3,rfl,h5,h6⟩:=aY.at h (by decide) (Ad hj);refine⟨_,h1,?_⟩;have:=h6 0 _ rfl;rw[Ah,Ad hj];exact this
theorem aFV{S:St}{v:AV}{l:List Bool}{z:Bool}(H:Has fns)(hl:aY 1 aIr S v l)(hlen:l.length≤1000000):fP fns (.fn 72 [] []) [v,.bool z] S fun r S'=>(∃j,r= .int .i64 j∧(0≤j↔z∈l))∧S'=S:=by
 refine cC H.f72 (by simp) ?_;simp only[↓aA,aB,rE,↓reduceIte];refine cD ?_;simp only[↓aA,aB,rE,↓reduceIte];refine jB ?_;simp only[↓aA,aB,rE,↓reduceIte,aY.len hl,Al];refine aP (cB (aQA S v l z) ?_ l.length _ _ ⟨rfl,rfl,0,by omega,by simp,by refine⟨?_,?_,?_,?_⟩<;>simp only[↓aA,aB,rE,↓reduceIte]⟩);rintro k ⟨F,inr⟩ X ⟨q0,hX,j,hjk,ha,p0,p1,p7,p8⟩;simp only at q0 p0 p1 p7 p8;subst q0;rw[hX];refine cD ?_;simp only[↓aA,aB,rE,↓reduceIte,p7,p8];by_cases hj:j<l.length
 ·refine aC (aT (by simp only[↓aA,aB,rE,↓reduceIte,Ac (show(j:Int)<((l.length:Nat):Int) by omega)]) (aM ?_));simp only[↓aA,aB,rE,↓reduceIte];obtain⟨p,hia,hld⟩:=aOT hl hj;have hgd:l.getD j false=l[j]:=by rw[Ah,Ad hj];rfl
  have htk:l.take (j+1)=l.take j++ [l.getD j false]:=by rw[Bx,Ad hj,hgd];rfl
  have hmem:l.getD j false∈l:=by rw[hgd];exact Ci hj
  generalize l.getD j false=w at *;have w1:IntKind.i64.wrap ((j:Int)+1)=((j+1:Nat):Int):=by rw[wrap_i64 (by omega) (by omega)];omega
  refine aC (aP (aC (aE ?_)));simp only[↓aA,aB,rE,↓reduceIte,p8];refine cD ?_;simp only[↓aA,aB,rE,↓reduceIte,p0,p1,aK,hia,hld,aNX];by_cases ho:z=w
  ·refine aT (by simp only[↓aA,aB,rE,↓reduceIte,ho,BEq.rfl]) ?_;refine cD ?_;simp only[↓aA,aB,rE,↓reduceIte];refine aU ?_;simp only[↓aA,aB,rE,↓reduceIte];exact⟨_,rfl,⟨fun _=>by rw[ho];exact hmem,fun _=>by omega⟩⟩
  ·refine aO (by simp only[↓aA,aB,rE,↓reduceIte,beq_false_of_ne ho]) (aM ?_);try simp only[↓aA,aB,rE,↓reduceIte]
   refine aE ?_;simp only[↓aA,aB,rE,↓reduceIte,p8,w1];refine⟨k - 1,by omega,rfl,rfl,j+1,by omega,?_,by refine⟨?_,?_,?_,?_⟩<;>simp only[↓aA,aB,rE,↓reduceIte,p0,p1,p7]⟩;rw[htk];intro h;rcases Be.1 h with h | h
   ·exact ha h
   ·simp at h;exact ho h
 ·refine aC (aO (by simp only[↓aA,aB,rE,↓reduceIte,Aa (show ¬ (j:Int)<((l.length:Nat):Int) by omega)]) (bN ?_));simp only[↓aA,aB,rE,↓reduceIte];rw[Bg (by omega)] at ha;refine cD ?_;simp only[↓aA,aB,rE,↓reduceIte];refine aU ?_;simp only[↓aA,aB,rE,↓reduceIte];exact⟨_,rfl,⟨fun h=>absurd h (by decide),fun h=>absurd h ha⟩⟩
theorem aDB{S:St}{v:AV}{l:List Bool}{z:Bool}(H:Has fns)(hl:aY 1 aIr S v l)(hlen:l.length≤1000000):fP fns (.fn 57 [] []) [v,.bool z] S fun r S'=>r= .bool (decide (z∈l))∧S'=S:=by
 refine cC H.f57 (by simp) ?_;simp only[↓aA,aB,rE,↓reduceIte];refine cD ?_;simp only[↓aA,aB,rE,↓reduceIte];refine cD ?_;simp only[↓aA,aB,rE,↓reduceIte];refine bB ?_;simp only[↓aA,aB,rE,↓reduceIte];refine aN (aFV H hl hlen) ?_;rintro _ X ⟨⟨j,rfl,hj⟩,rfl⟩;simp only[↓aA,aB,rE,↓reduceIte];refine aU ?_;simp only[↓aA,aB,rE,↓reduceIte];by_cases h:z∈l
 ·rw[Ac h,Ac (hj.2 h)]
 ·rw[Aa h,Aa (fun e=>h (hj.1 e))]
def KdU(h:bM)(i j u:Nat):Prop:=(∃q,q<i∧((u:Nat):Int)∈(nodeAt h q).next)∨((u:Nat):Int)∈(nodeAt h i).next.take j
def OkU(h:bM)(i j:Nat):Prop:=(∀q,q<i→∀c∈(nodeAt h q).next,(q:Int)<c∧c<(h.nodes.length:Int))∧∀c∈(nodeAt h i).next.take j,(i:Int)<c∧c<(h.nodes.length:Int)
structure Blw(h:bM)(i j:Nat)(sv:List Bool):Prop where
 len:sv.length=h.nodes.length
 iff:∀u,u<h.nodes.length→(sv.getD u false=true↔KdU h i j u)
 ok:OkU h i j
section
variable {h:bM}{i j:Nat}{sv:List Bool}
theorem aDk{u:Nat}:KdU h i 0 u↔∃q,q<i∧((u:Nat):Int)∈(nodeAt h q).next:=by
 unfold KdU;simp
theorem aM1{u:Nat}:KdU h i (nodeAt h i).next.length u↔KdU h (i+1) 0 u:=by
 rw[aDk];unfold KdU;rw[Ch];constructor
 ·rintro(⟨q,h1,h2⟩ | h1)
  ·exact⟨q,by omega,h2⟩
  ·exact⟨i,by omega,h1⟩
 ·rintro⟨q,h1,h2⟩;by_cases e:q=i
  ·subst e;exact .inr h2
  ·exact .inl ⟨q,by omega,h2⟩
theorem Blw.next(b:Blw h i (nodeAt h i).next.length sv):Blw h (i+1) 0 sv:=⟨b.len,fun u hu=>(b.iff u hu).trans aM1,fun q hq=>by
 by_cases e:q=i
 ·subst e;have:=b.ok.2;rw[Ch] at this;exact this
 ·exact b.ok.1 q (by omega),fun c hc=>by simp at hc⟩
theorem aCt{l:List Int}(hj:j<l.length):l.take (j+1)=l.take j++ [l.getD j 0]:=by
 rw[Bx,Ah,Ad hj];rfl
theorem aJz{P:List Bool}{i j:Nat}{v:Bool}(hi:i<P.length):(P.set i v).getD j false=if j=i then v else P.getD j false:=by
 rw[Ah,Dz,Ah];by_cases e:i=j
 ·rw[if_pos e,if_pos e.symm,if_pos hi];rfl
 ·rw[if_neg e,if_neg (Cv e)]
theorem Blw.kid(b:Blw h i j sv)(hj:j<(nodeAt h i).next.length){w:Nat}(hw:(nodeAt h i).next.getD j 0=(w:Int))(h1:i<w)(h2:w<h.nodes.length):Blw h i (j+1) (sv.set w true):=⟨by rw[Bn];exact b.len,fun u hu=>by
 rw[aJz (by rw[b.len];exact h2)];unfold KdU;rw[aCt hj,hw,Be,Bu];by_cases e:u=w
 ·rw[if_pos e,e];simp
 ·rw[if_neg e];have e2:¬ ((u:Nat):Int)=(w:Int):=by omega
  simp only[e2,or_false];exact b.iff u hu,b.ok.1,fun c hc=>by
 rw[aCt hj,hw,Be,Bu] at hc;rcases hc with hc | rfl
 ·exact b.ok.2 c hc
 ·omega⟩
theorem uK:eI h↔∀q,q<h.nodes.length→∀c∈(nodeAt h q).next,(q:Int)<c∧c<(h.nodes.length:Int):=by
 constructor
 ·intro hK q hq c hc;obtain⟨i,hi⟩:=Em hc;have hl:=(Ae.1 hi).1;obtain⟨h1,h2,h3⟩:=hK q hq i hl;have e:(nodeAt h q).next.getD i 0=c:=by rw[Ah,hi];rfl
  omega
 ·intro hA q hq i hi;have hm:(nodeAt h q).next.getD i 0∈(nodeAt h q).next:=by rw[Ah,Ad hi];exact Ci hi
  have:=hA q hq _ hm;unfold jP;omega
theorem Blw.link(b:Blw h h.nodes.length 0 sv){x:Bool}{l:List Bool}(e:sv=x::l):false∉l↔qC h:=by
 have hl:=b.len;rw[e,An] at hl;have hg:∀u,u<l.length→(l.getD u false=true↔∃q,q<h.nodes.length∧((u+1:Nat):Int)∈(nodeAt h q).next):=fun u hu=>by
  have:=b.iff (u+1) (by omega);rw[aDk,e] at this;exact this
 constructor
 ·intro hn;refine⟨by omega,uK.2 b.ok.1,fun j h1 h2=>?_⟩;have:=(hg (j - 1) (by omega)).1 (by
   rw[Ah,Ad (by omega:j - 1<l.length)];simp only[Fd];cases hb:l[j - 1] with
   | true=>rfl
   | false=>exact absurd (hb ▸ Ci (by omega)) hn)
  rwa [show j - 1+1=j by omega] at this
 ·rintro⟨_,_,h3⟩ hm;obtain⟨u,hu⟩:=Em hm;have hul:=(Ae.1 hu).1;have:=(hg u hul).2 (h3 (u+1) (by omega) (by omega));rw[Ah,hu] at this;cases this
end
abbrev yQ(l:List Bool):List AV:=l.map fun b=>.bool b
def LkI(h:bM)(S2:St)(nv:AV)(gb bb:Nat)(k:Nat)(A:bR)(X:St):Prop:=A.inr=false∧bH bb S2 X∧aD 1 A.F= .ptr gb 0∧aD 3 A.F= .sl bb 0 h.nodes.length h.nodes.length false∧aD 13 A.F=nv∧aD 14 A.F= .int .i64 ((h.nodes.length:Nat):Int)∧∃ (i:Nat) (sv:List Bool),i+k=h.nodes.length∧aD 15 A.F= .int .i64 (i:Int)∧X.h.get bb=some (.cells (yQ sv) false 0)∧Blw h i 0 sv
def LkJ(h:bM)(S2:St)(nv na:AV)(gb bb i:Nat)(k:Nat)(A:bR)(X:St):Prop:=A.inr=false∧bH bb S2 X∧aD 1 A.F= .ptr gb 0∧aD 3 A.F= .sl bb 0 h.nodes.length h.nodes.length false∧aD 4 A.F= .int .i64 (i:Int)∧aD 13 A.F=nv∧aD 14 A.F= .int .i64 ((h.nodes.length:Nat):Int)∧aD 15 A.F= .int .i64 (i:Int)∧aD 21 A.F=na∧aD 22 A.F= .int .i64 (((nodeAt h i).next.length:Nat):Int)∧∃ (j:Nat) (sv:List Bool),j+k=(nodeAt h i).next.length∧aD 23 A.F= .int .i64 (j:Int)∧X.h.get bb=some (.cells (yQ sv) false 0)∧Blw h i j sv
theorem aMN{S:St}{b N sz:Nat}{l:List Bool}{o:Bool}(h:S.h.get b=some (.cells (yQ l) o sz))(hb:b<S.nx)(hl:l.length=N):aY 1 aIr S (.sl b 0 N N false) l:=by
 refine .inr ⟨b,0,N,false,yQ l,by rw[hl],by omega,hb,by unfold cM;rw[h];rfl,fun i a hi=>⟨[.bool a],rfl,fun j x hj=>?_,rfl⟩⟩;have:=(Ae.1 hj).1;obtain rfl:j=0:=by simp at this;omega
 cases hj;rw[show 0+i * 1+0=i by omega,Bi,hi];rfl
theorem stB{S:St}{b p:Nat}{w:Bool}{l:List Bool}{o:Bool}{sz:Nat}(h:S.h.get b=some (.cells (yQ l) o sz))(hp:p<l.length):kR (.ptr b p) 1 [.bool w] S=some (.undef,⟨S.h.set b (some (.cells (yQ (l.set p w)) o sz)),S.nx⟩):=by
 rw[xO h (by rw[Bc];exact hp),←List.map_set]
theorem aEE{S:St}{nv iv:AV}{h:bM}(H:Has fns)(hn:aY 6 dD S nv h.nodes)(hN:h.nodes.length≤100000)(hB:∀i,i<h.nodes.length→(nodeAt h i).next.length≤140737488355328):fP fns (.fn 34 [] []) [.agg [.int .i64 h.players,nv,iv]] S fun r X=>(∃b,r= .bool b∧(b=true↔qC h))∧Same S X:=by
 refine cC H.f34 (by simp) ?_;simp only[↓aA,aB,rE,↓reduceIte,rA];refine cD ?_;refine dJ (by simp only[↓aA,aB,rE,↓reduceIte];exact bK _) ?_;intro S1 s1 n1 c1;simp only[↓aA,aB,rE,↓reduceIte];have hnl:=aY.len hn;refine cD ?_;simp only[↓aA,aB,rE,↓reduceIte,aG,aF,fL c1,aY.self hn,hnl];refine gF (rC (n:=h.nodes.length) (by simp only[↓aA,aB,rE,↓reduceIte,aK]) (by simp only[↓aA,aB,rE,↓reduceIte,aK]) (by unfold room;omega) (by unfold room;omega)) ?_;intro S2 s2 n2 c2;have ez:repeatL [AV.bool false] h.nodes.length=yQ (List.replicate h.nodes.length false):=by rw[repeatL_one];simp
 rw[ez] at c2;try simp only[↓aA,aB,rE,↓reduceIte]
 have c1':=(s2.2 _ (show S.nx<S1.nx by omega)).trans c1;have s12:=s1.trans s2;refine aC (bF (Q:=fun o A' X=>(o= .normal∧LkI h S2 nv S.nx S1.nx 0 A' X)∨(o= .ret∧Same S X∧¬qC h∧aD 2 A'.F= .bool false)) (aC (aE ?_)) ?_)
 ·simp only[↓aA,aB,rE,↓reduceIte,aG,aF,fL c1',aY.self hn,hnl];refine aP (cB (LkI h S2 nv S.nx S1.nx) ?_ h.nodes.length _ _ ⟨rfl,bH.refl _ _,by simp only[↓aA,aB,rE,↓reduceIte],by simp only[↓aA,aB,rE,↓reduceIte],by simp only[↓aA,aB,rE,↓reduceIte],by simp only[↓aA,aB,rE,↓reduceIte],0,_,by omega,by simp only[↓aA,aB,rE,↓reduceIte],c2,Bh ..,fun u hu=>?_,fun q hq=>by omega,fun c hc=>by simp at hc⟩);rotate_left
  ·rw[aDk];rw[Ah,Eo,if_pos hu];constructor
   ·intro e;cases e
   ·rintro⟨q,hq,_⟩;omega
  rintro k ⟨F,inr⟩ X ⟨q0,hX,p1,p3,p13,p14,i,sv,hik,p15,gB,hb⟩;simp only at q0 p1 p3 p13 p14 p15;subst q0;refine cD ?_;simp only[↓aA,aB,rE,↓reduceIte,p14,p15,dlt];by_cases hlt:i<h.nodes.length;rotate_left
  ·refine aC (aO (by simp only[↓aA,aB,rE,↓reduceIte,Aa hlt]) (bN ?_));obtain rfl:k=0:=by omega
   exact .inl ⟨rfl,rfl,hX,by simp only[↓aA,aB,rE,↓reduceIte,p1],by simp only[↓aA,aB,rE,↓reduceIte,p3],by simp only[↓aA,aB,rE,↓reduceIte,p13],by simp only[↓aA,aB,rE,↓reduceIte,p14],i,sv,hik,by simp only[↓aA,aB,rE,↓reduceIte,p15],gB,hb⟩
  refine aC (aT (by simp only[↓aA,aB,rE,↓reduceIte,Ac hlt]) (aM ?_));try simp only[↓aA,aB,rE,↓reduceIte]
  have sX:=bH.same s12 hX (by omega);obtain⟨e,b,p,i1,i2,i3,⟨na,nb,nc,rfl,x1,x2,x3⟩,i5,i6⟩:=aY.at hn (by omega) (eK hlt);have l3:=(rG sX i2).trans i5;have hnx:=hB i hlt;refine aC (aP (aC (aE ?_)));simp only[↓aA,aB,rE,↓reduceIte,p13,p15,aK,i1,l3];refine cR ?_;intro X1 t1 m1 d1;simp only[↓aA,aB,rE,↓reduceIte];refine fB (b:=X.nx) (by simp only[↓aA,aB,rE,↓reduceIte]) (by simp only[↓aA,aB,rE,↓reduceIte];exact bK _) d1 rfl rfl ?_;intro X2 t2 m2 d2;simp only[↓aA,aB,rE,↓reduceIte];have sXX:Same X X2:=t2.same t1 (Ag _);have hX2:bH S1.nx S2 X2:=⟨Bb hX.1 sXX.1,fun c hc hne=>(sXX.2 c (Af hc hX.1)).trans (hX.2 c hc hne)⟩;have gB2:=(sXX.2 _ (show S1.nx<X.nx by have:=hX.1;omega)).trans gB;have xa:=cE.self x1;refine cD ?_;simp only[↓aA,aB,rE,↓reduceIte,aG,aF,iO d2,xa,x1.len,Al];refine bF (Q:=fun o A' Y=>(o= .normal∧LkJ h S2 nv na S.nx S1.nx i 0 A' Y)∨(o= .ret∧Same S Y∧¬qC h∧aD 2 A'.F= .bool false)) (aP (cB (LkJ h S2 nv na S.nx S1.nx i) ?_ (nodeAt h i).next.length _ _ ⟨rfl,hX2,by simp only[↓aA,aB,rE,↓reduceIte,p1],by simp only[↓aA,aB,rE,↓reduceIte,p3],by simp only[↓aA,aB,rE,↓reduceIte],by simp only[↓aA,aB,rE,↓reduceIte,p13],by simp only[↓aA,aB,rE,↓reduceIte,p14],by simp only[↓aA,aB,rE,↓reduceIte,p15],by simp only[↓aA,aB,rE,↓reduceIte],by simp only[↓aA,aB,rE,↓reduceIte],0,sv,by omega,by simp only[↓aA,aB,rE,↓reduceIte],gB2,hb⟩)) ?_
  ·clear p1 p3 p13 p14 p15 gB gB2 hb hX hX2 d2 d1 t1 t2 sX l3 sXX;rintro k ⟨F,inr⟩ Y ⟨q0,hY,p1,p3,p4,p13,p14,p15,p21,p22,j,sv,hjk,p23,gB,hb⟩;simp only at q0 p1 p3 p4 p13 p14 p15 p21 p22 p23;subst q0;refine cD ?_;simp only[↓aA,aB,rE,↓reduceIte,p22,p23,dlt];by_cases hj:j<(nodeAt h i).next.length;rotate_left
   ·refine aC (aO (by simp only[↓aA,aB,rE,↓reduceIte,Aa hj]) (bN ?_));obtain rfl:k=0:=by omega
    exact .inl ⟨rfl,rfl,hY,by simp only[↓aA,aB,rE,↓reduceIte,p1],by simp only[↓aA,aB,rE,↓reduceIte,p3],by simp only[↓aA,aB,rE,↓reduceIte,p4],by simp only[↓aA,aB,rE,↓reduceIte,p13],by simp only[↓aA,aB,rE,↓reduceIte,p14],by simp only[↓aA,aB,rE,↓reduceIte,p15],by simp only[↓aA,aB,rE,↓reduceIte,p21],by simp only[↓aA,aB,rE,↓reduceIte,p22],j,sv,hjk,by simp only[↓aA,aB,rE,↓reduceIte,p23],gB,hb⟩
   refine aC (aT (by simp only[↓aA,aB,rE,↓reduceIte,Ac hj]) (aM ?_));try simp only[↓aA,aB,rE,↓reduceIte]
   have sY:=bH.same s12 hY (by omega);have gY:=(hY.2 _ (show S.nx<S2.nx by omega) (by omega)).trans c1';have iaj:=x1.iaddr hj;have laj:=(x1.same sY).ld hj;have sn:=aY.self hn;have hm:(nodeAt h i).next.getD j 0∈(nodeAt h i).next:=by rw[Ah,Ad hj];exact Ci hj
   obtain⟨c,hc⟩:∃c,c=(nodeAt h i).next.getD j 0:=⟨_,rfl⟩;rw[←hc] at laj hm;refine aC (aP (aC (aE ?_)));simp only[↓aA,aB,rE,↓reduceIte,p21,p23,aK,iaj,laj];refine aC (bF (Q:=fun o A' Z=>(o= .normal∧A'.inr=false∧Z=Y∧i<c.toNat∧c.toNat<h.nodes.length∧c=((c.toNat:Nat):Int)∧aD 1 A'.F= .ptr S.nx 0∧aD 3 A'.F= .sl S1.nx 0 h.nodes.length h.nodes.length false∧aD 4 A'.F= .int .i64 (i:Int)∧aD 7 A'.F= .int .i64 c∧aD 13 A'.F=nv∧aD 14 A'.F= .int .i64 ((h.nodes.length:Nat):Int)∧aD 15 A'.F= .int .i64 (i:Int)∧aD 21 A'.F=na∧aD 22 A'.F= .int .i64 (((nodeAt h i).next.length:Nat):Int)∧aD 23 A'.F= .int .i64 (j:Int))∨(o= .ret∧Z=Y∧¬qC h∧aD 2 A'.F= .bool false)) (aC (aE ?_)) ?_)
   ·by_cases hlo:c≤(i:Int)
    ·simp only[↓aA,aB,rE,↓reduceIte,p4,Ac hlo,Bm];refine aT (by simp only[↓aA,aB,rE,↓reduceIte]) (aC (aE ?_));simp only[↓aA,aB,rE,↓reduceIte];refine aU ?_;refine .inr ⟨rfl,rfl,fun hl=>?_,by simp only[↓aA,aB,rE,↓reduceIte]⟩;have:=uK.1 hl.2.1 i hlt c hm;omega
    ·simp only[↓aA,aB,rE,↓reduceIte,p1,p4,Aa hlo,aG,aF,fL gY,sn,hnl];by_cases hhi:((h.nodes.length:Nat):Int)≤c
     ·refine aT (by simp only[↓aA,aB,rE,↓reduceIte,Ac hhi]) (aC (aE ?_));simp only[↓aA,aB,rE,↓reduceIte];refine aU ?_;refine .inr ⟨rfl,rfl,fun hl=>?_,by simp only[↓aA,aB,rE,↓reduceIte]⟩;have:=uK.1 hl.2.1 i hlt c hm;omega
     ·refine aO (by simp only[↓aA,aB,rE,↓reduceIte,Aa hhi]) (aM ?_);exact .inl ⟨rfl,rfl,rfl,by omega,by omega,by omega,by refine⟨?_,?_,?_,?_,?_,?_,?_,?_,?_,?_⟩<;>simp only[↓aA,aB,rE,↓reduceIte,p1,p3,p4,p13,p14,p15,p21,p22,p23]⟩
   clear p1 p3 p4 p13 p14 p15 p21 p22 p23;rintro o ⟨F,inr⟩ Z (⟨rfl,q0,rfl,c1,c2,c3,p1,p3,p4,p7,p13,p14,p15,p21,p22,p23⟩ | ⟨rfl,rfl,hl,p2⟩);rotate_left
   ·simp only at p2;try simp only[↓aA,aB,rE,↓reduceIte]
    exact .inr ⟨sY,hl,p2⟩
   simp only at q0 p1 p3 p4 p7 p13 p14 p15 p21 p22 p23;subst q0;have ia:=jD (b:=S1.nx) (o:=false) c2;rw[c3] at p7;try simp only[↓aA,aB,rE,↓reduceIte]
   refine aE ?_;simp only[↓aA,aB,rE,↓reduceIte,p3,p7,aK,ia];refine eZ (fun call=>by simp only[↓aA,aB,rE,↓reduceIte,dG];exact stB (w:=true) (S:=Z) gB (by rw[hb.len];exact c2)) ?_;simp only[↓aA,aB,rE,↓reduceIte];refine aE ?_;simp only[↓aA,aB,rE,↓reduceIte,p23,fE (a:=j) (by omega)];exact⟨k - 1,by omega,rfl,hY.put _,by simp only[↓aA,aB,rE,↓reduceIte,p1],by simp only[↓aA,aB,rE,↓reduceIte,p3],by simp only[↓aA,aB,rE,↓reduceIte,p4],by simp only[↓aA,aB,rE,↓reduceIte,p13],by simp only[↓aA,aB,rE,↓reduceIte,p14],by simp only[↓aA,aB,rE,↓reduceIte,p15],by simp only[↓aA,aB,rE,↓reduceIte,p21],by simp only[↓aA,aB,rE,↓reduceIte,p22],j+1,_,by omega,by simp only[↓aA,aB,rE,↓reduceIte],by simp only;rw[T.get_set,if_pos rfl],hb.kid hj (hc.symm.trans c3) c1 c2⟩
  clear p1 p3 p13 p14 p15 gB gB2 hb hX hX2;rintro o ⟨F,inr⟩ Y (⟨rfl,q0,hY,p1,p3,p4,p13,p14,p15,p21,p22,j,sv,hjk,p23,gB,hb⟩ | ⟨rfl,sY,hl,p2⟩);rotate_left
  ·simp only at p2;try simp only[↓aA,aB,rE,↓reduceIte]
   exact .inr ⟨sY,hl,p2⟩
  simp only at q0 p1 p3 p13 p14 p15;subst q0;obtain rfl:j=(nodeAt h i).next.length:=by omega
  try simp only[↓aA,aB,rE,↓reduceIte]
  refine aE ?_;simp only[↓aA,aB,rE,↓reduceIte,p15,fE (a:=i) (by omega)];exact⟨k - 1,by omega,rfl,hY,by simp only[↓aA,aB,rE,↓reduceIte,p1],by simp only[↓aA,aB,rE,↓reduceIte,p3],by simp only[↓aA,aB,rE,↓reduceIte,p13],by simp only[↓aA,aB,rE,↓reduceIte,p14],i+1,sv,by omega,by simp only[↓aA,aB,rE,↓reduceIte],gB,hb.next⟩
 rintro o ⟨F,inr⟩ X (⟨rfl,q0,hX,p1,p3,p13,p14,i,sv,hik,p15,gB,hb⟩ | ⟨rfl,sX,hl,p2⟩);rotate_left
 ·simp only at p2;simp only[↓aA,aB,rE,↓reduceIte,p2];exact⟨⟨false,rfl,(fun e=>by cases e),fun e=>absurd e hl⟩,sX⟩
 simp only at q0 p1 p3;subst q0;obtain rfl:i=h.nodes.length:=by omega
 have sX:=bH.same s12 hX (by omega);have iB:=aMN gB (by have:=hX.1;omega) hb.len;have hlB:kS (.sl S1.nx 0 h.nodes.length h.nodes.length false)=some (.int .i64 ((h.nodes.length:Nat):Int)):=rfl;try simp only[↓aA,aB,rE,↓reduceIte]
 refine cD ?_;by_cases h0:0<h.nodes.length;rotate_left
 ·simp only[↓aA,aB,rE,↓reduceIte,p3,hlB,Aa (show ¬ (0:Int)<((h.nodes.length:Nat):Int) by omega)];refine aU ?_;simp only[↓aA,aB,rE,↓reduceIte];exact⟨⟨false,rfl,(fun e=>by cases e),fun e=>absurd e.1 h0⟩,sX⟩
 obtain⟨x,l,el⟩:∃x l,sv=x::l:=by
  cases sv with
  | nil=>have:=hb.len;simp at this;omega
  | cons x l=>exact⟨x,l,rfl⟩
 rw[el] at iB;obtain⟨v',e1,iT⟩:=aY.tail iB;have e2:∀F,qJ (.slice 1) (.sl S1.nx 0 h.nodes.length h.nodes.length false) (some (.c (.int .i64 1))) none none F=some v':=fun F=>e1 F _ rfl;have hlen:l.length≤1000000:=by
  have:=hb.len;rw[el,An] at this;omega
 simp only[↓aA,aB,rE,↓reduceIte,p3,hlB,Ac (show(0:Int)<((h.nodes.length:Nat):Int) by omega),e2];refine bB ?_;simp only[↓aA,aB,rE,↓reduceIte];refine aN (aDB H iT hlen) ?_;rintro _ Y ⟨rfl,rfl⟩;simp only[↓aA,aB,rE,↓reduceIte,fJ];refine aU ?_;simp only[↓aA,aB,rE,↓reduceIte];exact⟨⟨_,rfl,by rw[←hb.link el];simp⟩,sX⟩
def mnU(a b:Int):Int:=if a≤b then a else b
theorem aNr(a b:Int):lJ false [.int .i64 a,.int .i64 b]=some (.int .i64 (mnU a b)):=by
 show bL (keq .i64 .i64) (jF false [] (.int .i64 (bL false (bL (ile b a) a b) (bL (ile a b) a b)))) none=_;rw[eG,aL,aR,oH];show some _=_;unfold mnU;by_cases h:a≤b
 ·rw[if_pos h,Ac h,aL]
 ·rw[if_neg h,Aa h,aR]
theorem aOi(l:List cK)(F:Fr)(h:T AB):hJ (.minmax false l) F h=lJ false (dC l F):=rfl
theorem aJP(l:List cK):dE (.minmax false l)=false:=rfl
theorem aOm{a b:Nat}:mnU (sL a+sL b) 2001=sL (a+b):=by
 unfold mnU sL;split<;>split<;>split<;>split<;>omega
noncomputable def szC:List AO:=[mt 33 3,
mt 34 4,
mt 35 3,
mt 36 4,
om 37 12 (.iaddr (.slice 1) (.t 35) (.t 36)),
om 38 28 (ld 37),
mt 39 3,
mt 40 6,
om 41 192 (.iaddr (.slice 1) (.t 39) (.t 40)),
om 42 448 (ld 41),
om 43 1020 (bi .add (.t 38) (.t 42)),
om 44 2044 (.minmax false [(.t 43),(ci 2001)]),
om 45 4095 (.iaddr (.slice 1) (.t 33) (.t 34))]
def aPU(h:bM)(S2:St)(gb sb:Nat)(k:Nat)(A:bR)(X:St):Prop:=A.inr=false∧bH sb S2 X∧aD 1 A.F= .ptr gb 0∧aD 3 A.F= .sl sb 0 h.nodes.length h.nodes.length false∧aD 4 A.F= .int .i64 ((k:Int) - 1)∧k≤h.nodes.length∧∃M:List Int,M.length=h.nodes.length∧(∀q,k≤q→q<h.nodes.length→M.getD q 0=sL (nB h q))∧X.h.get sb=some (.cells (bG M) false 0)
def aP4(h:bM)(S2:St)(na:AV)(gb sb a:Nat)(k:Nat)(A:bR)(X:St):Prop:=A.inr=false∧bH sb S2 X∧aD 1 A.F= .ptr gb 0∧aD 3 A.F= .sl sb 0 h.nodes.length h.nodes.length false∧aD 4 A.F= .int .i64 (a:Int)∧aD 27 A.F=na∧aD 28 A.F= .int .i64 (((nodeAt h a).next.length:Nat):Int)∧∃ (j:Nat) (M:List Int),j+k=(nodeAt h a).next.length∧aD 29 A.F= .int .i64 (j:Int)∧M.length=h.nodes.length∧(∀q,a<q→q<h.nodes.length→M.getD q 0=sL (nB h q))∧M.getD a 0=sL (vG h a j)∧X.h.get sb=some (.cells (bG M) false 0)
theorem aHj{S:St}{nv iv:AV}{h:bM}(H:Has fns)(hL:qC h)(hn:aY 6 dD S nv h.nodes)(hN:h.nodes.length≤100000)(hB:∀i,i<h.nodes.length→(nodeAt h i).next.length≤140737488355328):fP fns (.fn 35 [] []) [.agg [.int .i64 h.players,nv,iv]] S fun r X=>r= .int .i64 (sL (nB h 0))∧Same S X:=by
 have hK:=hL.2.1;have h0:=hL.1;have hnl:=aY.len hn;have sn:=aY.self hn;refine cC H.f35 (by simp) ?_;simp only[↓aA,aB,rE,↓reduceIte,rA];refine cD ?_;refine dJ (by simp only[↓aA,aB,rE,↓reduceIte];exact bK _) ?_;intro S1 s1 n1 c1;simp only[↓aA,aB,rE,↓reduceIte];refine cD ?_;simp only[↓aA,aB,rE,↓reduceIte,aG,aF,fL c1,sn,hnl];refine gF (rC (n:=h.nodes.length) (by simp only[↓aA,aB,rE,↓reduceIte,aK]) (by simp only[↓aA,aB,rE,↓reduceIte,aK]) (by unfold room;omega) (by unfold room;omega)) ?_;intro S2 s2 n2 c2;rw[aAA] at c2;try simp only[↓aA,aB,rE,↓reduceIte]
 have c1':=(s2.2 _ (show S.nx<S1.nx by omega)).trans c1;have s12:=s1.trans s2;refine aC (bF (Q:=fun o A' X=>o= .normal∧aPU h S2 S.nx S1.nx 0 A' X) (aC (aE ?_)) ?_)
 ·have w0:IntKind.i64.wrap (((h.nodes.length:Nat):Int) - 1)=((h.nodes.length:Nat):Int) - 1:=wrap_i64 (by omega) (by omega);simp only[↓aA,aB,rE,↓reduceIte,aG,aF,fL c1',sn,hnl,w0];refine aP (cB (aPU h S2 S.nx S1.nx) ?_ h.nodes.length _ _ ⟨rfl,bH.refl _ _,by simp only[↓aA,aB,rE,↓reduceIte],by simp only[↓aA,aB,rE,↓reduceIte],by simp only[↓aA,aB,rE,↓reduceIte],Ag _,_,Bh ..,fun q h1 h2=>by omega,c2⟩);rintro k ⟨F,inr⟩ X ⟨q0,hX,p1,p3,p4,hk,M,hl,hM,hc⟩;simp only at q0 p1 p3 p4;subst q0;refine jB ?_;simp only[↓aA,aB,rE,↓reduceIte,p4];by_cases hk0:k=0
  ·subst hk0;refine aO (by simp only[↓aA,aB,rE,↓reduceIte];exact Dj _ (Aa (by omega))) (bN ?_);exact⟨rfl,rfl,hX,by simp only[↓aA,aB,rE,↓reduceIte,p1],by simp only[↓aA,aB,rE,↓reduceIte,p3],by simp only[↓aA,aB,rE,↓reduceIte,p4],hk,M,hl,hM,hc⟩
  obtain⟨a,rfl⟩:∃a,k=a+1:=⟨k - 1,by omega⟩;have e4:(((a+1:Nat):Int) - 1)=(a:Int):=by omega
  rw[e4] at p4 ⊢;refine aT (by simp only[↓aA,aB,rE,↓reduceIte,Ac (show(0:Int)≤(a:Int) by omega)]) (aM ?_);try simp only[↓aA,aB,rE,↓reduceIte]
  have hal:a<h.nodes.length:=by omega
  have gX:=(hX.2 _ (show S.nx<S2.nx by omega) (by omega)).trans c1';have sX:=hX.same s12 (by omega);obtain⟨e,b,p,i1,i2,i3,⟨na,nb,nc,rfl,x1,x2,x3⟩,i5,i6⟩:=aY.at hn (by omega) (eK hal);have ira:=jD (b:=S1.nx) (o:=false) hal;have hnx:=hB a hal;refine aC (bF (Q:=fun o A' Y=>o= .normal∧aP4 h S2 na S.nx S1.nx a 0 A' Y) (aP (aC (aE ?_))) ?_)
  ·simp only[↓aA,aB,rE,↓reduceIte,p3,p4,aK,ira];refine eZ (fun call=>by simp only[↓aA,aB,rE,↓reduceIte,dG,cS];exact aD1 (S:=X) hc (show a<M.length by omega)) ?_;simp only[↓aA,aB,rE,↓reduceIte];obtain⟨X1,hX1⟩:∃X1:St,X1=⟨X.h.set S1.nx (some (.cells (bG (M.set a 1)) false 0)),X.nx⟩:=⟨_,rfl⟩;rw[←hX1];have hc1:X1.h.get S1.nx=some (.cells (bG (M.set a 1)) false 0):=by rw[hX1];simp only;rw[T.get_set,if_pos rfl]
   have hS1:bH S1.nx S2 X1:=by rw[hX1];exact hX.put _
   clear hX1;have gX1:=(hS1.2 _ (show S.nx<S2.nx by omega) (by omega)).trans c1';have l3:cW (.ptr b (p+3)) false 1 X1.h=some na:=(rG (hS1.same s12 (by omega)) i2).trans (i6 3 na rfl);refine cD ?_;simp only[↓aA,aB,rE,↓reduceIte,aG,aF,p1,p4,fL gX1,sn,aK,i1,l3,cE.self x1,x1.len,Al];refine aP (cB (aP4 h S2 na S.nx S1.nx a) ?_ (nodeAt h a).next.length _ _ ⟨rfl,hS1,by simp only[↓aA,aB,rE,↓reduceIte,p1],by simp only[↓aA,aB,rE,↓reduceIte,p3],by simp only[↓aA,aB,rE,↓reduceIte,p4],by simp only[↓aA,aB,rE,↓reduceIte],by simp only[↓aA,aB,rE,↓reduceIte],0,_,by omega,by simp only[↓aA,aB,rE,↓reduceIte],by rw[Bn];exact hl,fun q h1 h2=>?_,?_,hc1⟩);rotate_left
   ·rw[gE (by omega),if_neg (by omega)];exact hM q (by omega) h2
   ·rw[gE (by omega),if_pos rfl];rfl
   clear hX p1 p3 p4 hM hc hl hc1 hS1 gX1 l3 gX;rintro k ⟨F,inr⟩ Y ⟨q0,hY,p1,p3,p4,p27,p28,j,M,hjk,p29,hl,hM,hP,hc⟩;simp only at q0 p1 p3 p4 p27 p28 p29;subst q0;refine cD ?_;simp only[↓aA,aB,rE,↓reduceIte,p28,p29,dlt];by_cases hj:j<(nodeAt h a).next.length;rotate_left
   ·refine aC (aO (by simp only[↓aA,aB,rE,↓reduceIte,Aa hj]) (bN ?_));obtain rfl:k=0:=by omega
    exact⟨rfl,rfl,hY,by simp only[↓aA,aB,rE,↓reduceIte,p1],by simp only[↓aA,aB,rE,↓reduceIte,p3],by simp only[↓aA,aB,rE,↓reduceIte,p4],by simp only[↓aA,aB,rE,↓reduceIte,p27],by simp only[↓aA,aB,rE,↓reduceIte,p28],j,M,hjk,by simp only[↓aA,aB,rE,↓reduceIte,p29],hl,hM,hP,hc⟩
   refine aC (aT (by simp only[↓aA,aB,rE,↓reduceIte,Ac hj]) (aM ?_));try simp only[↓aA,aB,rE,↓reduceIte]
   obtain⟨k1,k2,k3⟩:=hK a hal j hj;have sY:=hY.same s12 (by omega);have iaj:=x1.iaddr hj;have laj:=(x1.same sY).ld hj;have hps:=aEx (h:=h) hj;rw[k3] at laj hps;rw[De] at hps;have irc:=jD (b:=S1.nx) (o:=false) k2;have lra:=aHF hc (show a<M.length by omega);have lrc:=aHF hc (show jP h a j<M.length by omega);rw[hP] at lra;rw[hM _ k1 k2] at lrc;have b1:=aKA (vG h a j);have b2:=aKA (nB h (jP h a j));have w1:IntKind.i64.wrap (sL (vG h a j)+sL (nB h (jP h a j)))=sL (vG h a j)+sL (nB h (jP h a j)):=wrap_i64 (by omega) (by omega);refine aC (aP (aC (aE ?_)));simp only[↓aA,aB,rE,↓reduceIte,p27,p29,aK,iaj,laj];refine sN (pre:=szC) (K:=13) (m:=8191) (n:=1) (x:=.t 45) (v:=.t 44) rfl rfl rfl rfl ?_;unfold szC;simp only[↓sU,sD,rE,↓reduceIte,rA,p3,p4,aK,ira,irc,lra,lrc,w1,aOi,aJP,jK,qF,aNr,aOm];simp only[cS,aJ];rw[←hps];refine⟨_,aD1 (S:=⟨Y.h,Y.nx+14⟩) hc (by omega),?_⟩;refine aE ?_;simp only[↓sU,sD,rE,↓reduceIte,rA,p29,fE (a:=j) (by omega)];refine⟨k - 1,by omega,rfl,(hY.nx 14).put _,by simp only[↓sU,sD,rE,↓reduceIte,rA,p1],by simp only[↓sU,sD,rE,↓reduceIte,rA,p3],by simp only[↓sU,sD,rE,↓reduceIte,rA,p4],by simp only[↓sU,sD,rE,↓reduceIte,rA,p27],by simp only[↓sU,sD,rE,↓reduceIte,rA,p28],j+1,M.set a (sL (vG h a (j+1))),by omega,by simp only[↓sU,sD,rE,↓reduceIte,rA],by rw[Bn];exact hl,fun q h1 h2=>?_,?_,by simp only;rw[T.get_set,if_pos rfl]⟩
   ·rw[gE (by omega),if_neg (by omega)];exact hM q h1 h2
   ·rw[gE (by omega),if_pos rfl]
  clear hX p1 p3 p4 hM hc hl M;rintro o ⟨F,inr⟩ Y ⟨rfl,q0,hY,p1,p3,p4,p27,p28,j,M,hjk,p29,hl,hM,hP,hc⟩;simp only at q0 p1 p3 p4;subst q0;obtain rfl:j=(nodeAt h a).next.length:=by omega
  rw[zP hK hal] at hP;have w2:IntKind.i64.wrap ((a:Int) - 1)=(a:Int) - 1:=wrap_i64 (by omega) (by omega);try simp only[↓aA,aB,rE,↓reduceIte]
  refine aE ?_;simp only[↓aA,aB,rE,↓reduceIte,p4,w2];refine⟨a,by omega,rfl,hY,by simp only[↓aA,aB,rE,↓reduceIte,p1],by simp only[↓aA,aB,rE,↓reduceIte,p3],by simp only[↓aA,aB,rE,↓reduceIte],by omega,M,hl,fun q h1 h2=>?_,hc⟩;by_cases e:q=a
  ·rw[e];exact hP
  ·exact hM q (by omega) h2
 rintro o ⟨F,inr⟩ X ⟨rfl,q0,hX,p1,p3,p4,hk,M,hl,hM,hc⟩;simp only at q0 p3;subst q0;have ir:=jD (b:=S1.nx) (o:=false) h0;have lr:=aHF hc (show 0<M.length by omega);rw[hM 0 (Ag _) h0] at lr;have nz:fA (.int .i64 0)=some 0:=rfl;try simp only[↓aA,aB,rE,↓reduceIte]
 refine cD ?_;simp only[↓aA,aB,rE,↓reduceIte,p3,nz,ir,lr];refine aU ?_;simp only[↓aA,aB,rE,↓reduceIte];exact hX.same s12 (by omega)
section
variable {α:Type}{k:Nat}{E E':List AV→α→Prop}{S0 X:St}{v:AV}{l:List α}
theorem kA.fldU(h:kA k E S0 X v l){i q:Nat}{a a':α}{x:AV}(hi:l[i]? =some a)(hq:q<k)(h1:∀ (j:Nat) (b:α) (e:List AV),l[j]? =some b→j≠i→E e b→E' e b)(h2:∀e,E e a→E' (e.set q x) a'):
  ∃b p X',eQ (.slice k) v i=some (.ptr b p)∧aS v=some b∧b<X.nx∧kR (.ptr b (p+q)) 1 [x] X=some (.undef,X')∧kA k E' S0 X' v (l.set i a')∧X'.nx=X.nx∧∀c,c≠b→X'.h.get c=X.h.get c:=by
 have hil:=(Ae.1 hi).1;rcases h with⟨rfl,rfl⟩ | ⟨b,c,cs,rfl,g1,g2,g3,g4,g5,g6,g7⟩
 ·cases hi
 ·have hp:i * k+q+ [x].length≤cs.length:=by
   have:=oB hil hq;have:=Cq k g1;rw[g2];simp only[Am];omega
  refine⟨b,0+i * k,⟨X.h.set b (some (.cells (cs.take (i * k+q)++ [x]++cs.drop (i * k+q+ [x].length)) true k)),X.nx⟩,?_,rfl,g4,?_,.inr ⟨b,c,cs.take (i * k+q)++ [x]++cs.drop (i * k+q+ [x].length),by rw[Bn],by rw[Bn];exact g1,by simp only[Am] at hp;simp;omega,g3,g4,by simp only;rw[T.get_set,if_pos rfl],g6,fun j a0 hj=>?_⟩,rfl,fun c' hne=>by simp only;rw[T.get_set,if_neg hne]⟩
  ·show bL (Nat.blt i l.length) _ _=_;rw[show Nat.blt i l.length=true from Aj hil,aL]
  ·rw[Ap];exact aKt g5 hp rfl
  ·rw[Dz] at hj;split at hj
   ·rename_i e0;subst e0;try rw[if_pos hil] at hj
    cases hj;obtain⟨e,e1,e2,e3⟩:=g7 i a hi;refine⟨e.set q x,by rw[Bn,e1],fun r y hr=>?_,h2 e e3⟩;have hrk:r<k:=by
     have:=(Ae.1 hr).1;rw[Bn,e1] at this;exact this
    rw[Dz] at hr;rw[rR hp];split at hr
    ·rename_i e0;subst e0;try rw[if_pos (show q<e.length by omega)] at hr
     cases hr;rw[if_neg (by omega),if_pos (by simp),Cp];rfl
    ·rename_i hne;have h3:=e2 r y hr;by_cases hlt:r<q
     ·rw[if_pos (by omega)];exact h3
     ·rw[if_neg (by omega),if_neg (by simp only[Am];omega)];exact h3
   ·rename_i hne;obtain⟨e,e1,e2,e3⟩:=g7 j a0 hj;refine⟨e,e1,fun r y hr=>?_,h1 j a0 e hj (fun e=>hne e.symm) e3⟩;have hrk:r<k:=by rw[←e1];exact(Ae.1 hr).1
    have h3:=e2 r y hr;rw[rR hp];rcases Nat.lt_or_gt_of_ne hne with h4 | h4
    ·have:=oB h4 hq;have:(i+1) * k≤j * k:=Cq k h4;rw[Du,Fj] at this;rw[if_neg (by omega),if_neg (by simp only[Am];omega)];exact h3
    ·have:(j+1) * k≤i * k:=Cq k h4;rw[Du,Fj] at this;rw[if_pos (by omega)];exact h3
end
structure UyS where
 na:AV
 l:List (bS×AV)
def PU(W:Nat→Prop)(m:UyS)(c:Nat):Prop:=¬W c∧aS m.na≠some c∧∀a∈m.l,aS a.2≠some c
def NdU(S0 X:St)(e:List AV)(a:bS×AV):Prop:=∃xw xp,e= [.int .i64 a.1.kind,.int .i64 a.1.player,.int .i64 a.1.info,a.2,xw,xp]∧gQ 1 S0 X a.2 a.1.next.length (bG a.1.next)∧cE .i64 S0 xw a.1.weights∧cE .i64 S0 xp a.1.pay
theorem NdU.move{S0 X X':St}{e:List AV}{a:bS×AV}(h:NdU S0 X e a)(hn:X.nx≤X'.nx)(hr:∀c,aS a.2=some c→X'.h.get c=X.h.get c):NdU S0 X' e a:=by
 obtain⟨xw,xp,rfl,h1,h2,h3⟩:=h;exact⟨xw,xp,rfl,h1.move hn hr,h2,h3⟩
structure xL(W:Nat→Prop)(S0 X:St)(m:UyS):Prop where
 nod:kA 6 (NdU S0 X) S0 X m.na m.l
 rn:∀a∈m.l,∀c,aS a.2=some c→(S0.nx≤c∧c<X.nx)∧¬W c∧aS m.na≠some c
 dj:∀ (i j:Nat) (a b:bS×AV),i≠j→m.l[i]? =some a→m.l[j]? =some b→∀c,aS a.2=some c→aS b.2≠some c
 d1:∀c,aS m.na=some c→¬W c
 wg:∀c,W c→S0.nx≤c∧c<X.nx
def mT(W:Nat→Prop)(m:UyS)(X:St)(m':UyS)(X':St):Prop:=X.nx≤X'.nx∧∀c,c<X.nx→PU W m c→X'.h.get c=X.h.get c∧PU W m' c
section
variable {W:Nat→Prop}{S0 X X':St}{m m' m'':UyS}
theorem mT.refl:mT W m X m X:=⟨Ag _,fun _ _ h=>⟨rfl,h⟩⟩
theorem mT.trans{X'':St}(h:mT W m X m' X')(h':mT W m' X' m'' X''):mT W m X m'' X'':=
 ⟨Bb h.1 h'.1,fun c hc hp=>by
  obtain⟨a,b⟩:=h.2 c hc hp;obtain⟨a',b'⟩:=h'.2 c (Af hc h.1) b;exact⟨a'.trans a,b'⟩⟩
theorem mT.off(hn:X.nx≤X'.nx)(hk:∀c,c<X.nx→PU W m c→X'.h.get c=X.h.get c):mT W m X m X':=⟨hn,fun c hc h=>⟨hk c hc h,h⟩⟩
theorem mT.same(h:Same X X'):mT W m X m X':=.off h.1 fun c hc _=>h.2 c hc
theorem xL.row_of(h:xL W S0 X m){j:Nat}{a:bS×AV}(hj:m.l[j]? =some a){c:Nat}(hc:aS a.2=some c):(S0.nx≤c∧c<X.nx)∧¬W c∧aS m.na≠some c:=h.rn a (Aw hj) c hc
theorem xL.low(h:xL W S0 X m){c:Nat}(hc:c<S0.nx):PU W m c:=
 ⟨fun e=>by have:=(h.wg c e).1;omega,fun e=>by have:=(h.nod.blk e).1;omega,fun a ha e=>by have:=(h.rn a ha c e).1;omega⟩
theorem xL.same0(h:xL W S0 X m)(K:mT W m X m' X')(hS:Same S0 X):Same S0 X':=
 ⟨Bb hS.1 K.1,fun c hc=>((K.2 c (Af hc hS.1) (h.low hc)).1).trans (hS.2 c hc)⟩
theorem xL.local(h:xL W S0 X m)(hn:X.nx≤X'.nx)(hk:∀c,c<X.nx→¬W c→¬PU W m c→X'.h.get c=X.h.get c):xL W S0 X' m where
 nod:=by
  rcases h.nod with h0 | ⟨b,c,cs,e0,g1,g2,g3,g4,g5,g6,g7⟩
  ·exact .inl h0
  ·have hb:aS m.na=some b:=by rw[e0];rfl
   refine .inr ⟨b,c,cs,e0,g1,g2,g3,Af g4 hn,(hk b g4 (h.d1 b hb) fun hp=>absurd hb hp.2.1).trans g5,g6,fun i a hi=>?_⟩;obtain⟨e,e1,e2,e3⟩:=g7 i a hi;exact⟨e,e1,e2,e3.move hn fun c hc=>hk c (h.row_of hi hc).1.2 (h.row_of hi hc).2.1 fun hp=>absurd hc (hp.2.2 a (Aw hi))⟩
 rn:=fun a ha c hc=>⟨⟨(h.rn a ha c hc).1.1,Af (h.rn a ha c hc).1.2 hn⟩,(h.rn a ha c hc).2⟩
 dj:=h.dj
 d1:=h.d1
 wg:=fun c hc=>⟨(h.wg c hc).1,Af (h.wg c hc).2 hn⟩
theorem xL.same(h:xL W S0 X m)(hs:Same X X'):xL W S0 X' m:=h.local hs.1 fun c hc _ _=>hs.2 c hc
theorem xL.pushN(h:xL W S0 X m){v':AV}{a:bS}(hn:X.nx≤X'.nx)(hk:∀c,c<X.nx→aS m.na≠some c→X'.h.get c=X.h.get c)(hb:∀c,aS v'=some c→aS m.na=some c∨X.nx≤c)(ha:kA 6 (NdU S0 X) S0 X' v' (m.l++ [(a,.nilsl)])):xL W S0 X' ⟨v',m.l++ [(a,.nilsl)]⟩∧mT W m X ⟨v',m.l++ [(a,.nilsl)]⟩ X':=by
 have mem:∀ {y c},y∈m.l++ [((a,.nilsl):bS×AV)]→aS y.2=some c→y∈m.l:=fun hy hc=>by
  rcases Be.1 hy with h1 | h1
  ·exact h1
  ·rw[Bu.1 h1] at hc;cases hc
 have K:mT W m X ⟨v',m.l++ [(a,.nilsl)]⟩ X':=⟨hn,fun c hc hp=>⟨hk c hc hp.2.1,hp.1,fun e=>(hb c e).elim (fun h1=>hp.2.1 h1) fun h1=>absurd hc (Nat.not_lt.2 h1),fun y hy e=>hp.2.2 y (mem hy e) e⟩⟩;have nv:∀ {c},aS m.na≠some c→c<X.nx→aS v'≠some c:=fun h1 h2 e=>(hb _ e).elim h1 fun h3=>absurd h2 (Nat.not_lt.2 h3);refine⟨⟨?_,fun y hy c hc=>?_,fun i j x y hij hx hy c hc hc'=>?_,fun c hc=>?_,fun c hc=>⟨(h.wg c hc).1,Af (h.wg c hc).2 hn⟩⟩,K⟩
 ·rcases ha with h0 | ⟨b,c,cs,e0,g1,g2,g3,g4,g5,g6,g7⟩
  ·exact .inl h0
  ·refine .inr ⟨b,c,cs,e0,g1,g2,g3,g4,g5,g6,fun i y hi=>?_⟩;obtain⟨e,e1,e2,e3⟩:=g7 i y hi;refine⟨e,e1,e2,e3.move hn fun c hc=>?_⟩;have:=h.rn y (mem (Aw hi) hc) c hc;exact hk c this.1.2 this.2.2
 ·have:=h.rn y (mem hy hc) c hc;exact⟨⟨this.1.1,Af this.1.2 hn⟩,this.2.1,nv this.2.2 this.1.2⟩
 ·rw[Dw] at hx hy;split at hx
  ·split at hy
   ·exact h.dj i j x y hij hx hy c hc hc'
   ·have:=Aw hy;rw[Bu] at this;rw[this] at hc';cases hc'
  ·have:=Aw hx;rw[Bu] at this;rw[this] at hc;cases hc
 ·rcases hb c hc with h1 | h1
  ·exact h.d1 c h1
  ·exact fun e=>by have:=(h.wg c e).2;omega
theorem xL.row_at(h:xL W S0 X m){i:Nat}{a:bS}{v:AV}(hi:m.l[i]? =some (a,v)):∃b p,eQ (.slice 6) m.na i=some (.ptr b p)∧aS m.na=some b∧b<X.nx∧cW (.ptr b (p+3)) false 1 X.h=some v∧gQ 1 S0 X v a.next.length (bG a.next):=by
 rcases h.nod with⟨_,h0⟩ | ⟨b,c,cs,e0,g1,g2,g3,g4,g5,g6,g7⟩
 ·rw[h0] at hi;cases hi
 ·obtain⟨e,e1,e2,xw,xp,rfl,e4,_⟩:=g7 i _ hi;have hil:=(Ae.1 hi).1;refine⟨b,0+i * 6,?_,by rw[e0];rfl,g4,cT g5 (by rw[Ap];exact e2 3 v rfl),e4⟩;rw[e0];show bL (Nat.blt i m.l.length) _ _=_;rw[show Nat.blt i m.l.length=true from Aj hil,aL]
def aHS(m:UyS)(i:Nat)(a:bS)(w:Int)(v':AV):UyS:=⟨m.na,m.l.set i ({a with next:=a.next++ [w]},v')⟩
theorem xL.row(h:xL W S0 X m){i:Nat}{a:bS}{v v':AV}{w:Int}(hi:m.l[i]? =some (a,v))(hn:X.nx≤X'.nx)(hk:∀c,c<X.nx→aS v≠some c→X'.h.get c=X.h.get c)(hg:gQ 1 S0 X' v' (a.next++ [w]).length (bG (a.next++ [w])))(hb:∀c,aS v'=some c→X.nx≤c):
  ∃b p X'',eQ (.slice 6) m.na i=some (.ptr b p)∧aS m.na=some b∧b<X.nx∧kR (.ptr b (p+3)) 1 [v'] X'=some (.undef,X'')∧X''.nx=X'.nx∧(∀c,c≠b→X''.h.get c=X'.h.get c)∧xL W S0 X'' (aHS m i a w v')∧mT W m X (aHS m i a w v') X'':=by
 have hil:=(Ae.1 hi).1;have lv:∀ {c},aS v=some c→_:=fun hc=>h.row_of hi hc;have nav:∀ {c},aS m.na=some c→aS v≠some c:=fun hc e=>(lv e).2.2 hc;have hX':kA 6 (NdU S0 X) S0 X' m.na m.l:=by
  rcases h.nod with h0 | ⟨b,c,cs,e0,g1,g2,g3,g4,g5,g6,g7⟩
  ·exact .inl h0
  ·exact .inr ⟨b,c,cs,e0,g1,g2,g3,Af g4 hn,(hk b g4 (nav (by rw[e0];rfl))).trans g5,g6,g7⟩
 have mem:∀ {y},y∈m.l.set i ({a with next:=a.next++ [w]},v')→(∃j,j≠i∧m.l[j]? =some y)∨y=({a with next:=a.next++ [w]},v'):=fun {y} hy=>by
  obtain⟨j,hj,e⟩:=List.getElem_of_mem hy;rw[List.getElem_set] at e;split at e
  ·exact .inr e.symm
  ·rename_i hne;rw[Bn] at hj;exact .inl ⟨j,fun e=>hne e.symm,by rw[←e];exact Ad hj⟩
 have pb:∀c,c<X.nx→PU W m c→PU W (aHS m i a w v') c:=fun c hc hp=>⟨hp.1,hp.2.1,fun y hy e=>by
  rcases mem hy with⟨j,_,hj⟩ | rfl
  ·exact hp.2.2 y (Aw hj) e
  ·have:=hb c e;omega⟩
 obtain⟨bb,gp,hbb⟩:∃b,aS m.na=some b∧b<X.nx:=by
  obtain⟨b,_,_,h1,h2,_⟩:=h.row_at hi;exact⟨b,h1,h2⟩
 obtain⟨b,p,X'',k1,k2,k3,k4,k5,k6,k7⟩:=kA.fldU (E':=NdU S0 ⟨X'.h,X'.nx⟩) (a':=({a with next:=a.next++ [w]},v')) (x:=v') (q:=3) hX' hi (by decide) (fun j y e hj hne hE=>hE.move hn fun c hc=>hk c (h.row_of hj hc).1.2 (h.dj j i y _ hne hj hi c hc)) fun e hE=>by
   obtain⟨xw,xp,rfl,h1,h2,h3⟩:=hE;exact⟨xw,xp,rfl,hg,h2,h3⟩
 rw[gp] at k2;cases k2;have nb:∀c,aS m.na=some c→c=bb:=fun c hc=>by rw[gp] at hc;cases hc;rfl
 refine⟨bb,p,X'',k1,gp,hbb,k4,k6,k7,⟨?_,fun y hy c hc=>?_,fun i' j x y hij hx hy c hc hc'=>?_,h.d1,fun c hc=>⟨(h.wg c hc).1,by have:=(h.wg c hc).2;omega⟩⟩,⟨by omega,fun c hc hp=>⟨?_,pb c hc hp⟩⟩⟩
 ·rcases k5 with h0 | ⟨b',c,cs,e0,g1,g2,g3,g4,g5,g6,g7⟩
  ·exact .inl h0
  ·refine .inr ⟨b',c,cs,e0,g1,g2,g3,g4,g5,g6,fun j y hj=>?_⟩;obtain⟨e,e1,e2,e3⟩:=g7 j y hj;refine⟨e,e1,e2,e3.move (by show X'.nx≤X''.nx;omega) fun c hc=>k7 c fun e=>?_⟩;rcases mem (Aw hj) with⟨j',_,hj'⟩ | rfl
   ·exact(h.row_of hj' hc).2.2 (by rw[e];exact gp)
   ·have:=hb c hc;omega
 ·rcases mem hy with⟨j,_,hj⟩ | rfl
  ·have:=h.row_of hj hc;exact⟨⟨this.1.1,by omega⟩,this.2⟩
  ·have h1:=hg.blk hc;have h2:=hb c hc;exact⟨⟨h1.1,by omega⟩,fun e=>by have:=(h.wg c e).2;omega,fun e=>by have:=(h.nod.blk e).2;omega⟩
 ·unfold aHS at hx hy;rw[Dz] at hx hy;have hlo:∀ {q:Nat} {y:bS×AV},m.l[q]? =some y→aS y.2=some c→c<X.nx:=fun hq hc=>(h.row_of hq hc).1.2;split at hx
  ·split at hy
   ·rename_i e1 e2;exact hij (e1.symm.trans e2)
   ·try rw[if_pos hil] at hx
    cases hx;have:=hb c hc;have:=hlo hy hc';omega
  ·split at hy
   ·try rw[if_pos hil] at hy
    cases hy;have:=hb c hc';have:=hlo hx hc;omega
   ·exact h.dj i' j x y hij hx hy c hc hc'
 ·rw[k7 c (fun e=>hp.2.1 (by rw[e];exact gp))];exact hk c hc fun e=>hp.2.2 _ (Aw hi) e
end
end Go.Ev.Gl
