import Derived.Test.YtkklchgmpejobaaGreatDoorGl23
open Nat renaming reduceEqDiff → rE, reduceAdd → rA
set_option maxHeartbeats 16000000
set_option linter.unusedSimpArgs false
set_option linter.unusedVariables false
namespace Go.Ev.Gl
variable {fns:T cW}
def gQ(u:Nat→Nat→List bO):List Int→Nat→List Int×List bO
 | [],_=>([],[])
 | k::ks,i=>((i:Int)::(gQ u ks (i+(u k.toNat i).length)).1,u k.toNat i++(gQ u ks (i+(u k.toNat i).length)).2)
def oV(h:bC):Nat→Nat→Nat→List bO
 | 0,_,_=>[]
 | f+1,v,i=>{nodeAt h v with next:=(gQ (oV h f) (nodeAt h v).next (i+1)).1}::(gQ (oV h f) (nodeAt h v).next (i+1)).2
def aEy(h:bC):Nat→Nat→Nat
 | 0,_=>0
 | f+1,v=>1+((nodeAt h v).next.map fun c=>aEy h f c.toNat).sum
def jC(h:bC)(v:Nat):Nat:=aEy h h.nodes.length v
def fR(h:bC):bC:=⟨h.players,oV h h.nodes.length 0 0,h.infos⟩
def jB(h:bC):Prop:=0<h.nodes.length∧eQ h∧∀j,1≤j→j<h.nodes.length→∃i,i<h.nodes.length∧((j:Nat):Int)∈(nodeAt h i).next
section
variable {u:Nat→Nat→List bO}
theorem aAj:∀ {l:List Int} {i:Nat},(gQ u l i).1.length=l.length
 | [],_=>rfl
 | k::ks,i=>by
  show(gQ u ks _).1.length+1=ks.length+1;rw[aAj]
theorem vH{w:Nat→Nat}(hu:∀v i,(u v i).length=w v):∀ {l:List Int} {i:Nat},(gQ u l i).2.length=(l.map fun c=>w c.toNat).sum
 | [],_=>rfl
 | k::ks,i=>by
  show(u k.toNat i++(gQ u ks _).2).length=_;rw[Al,vH hu,hu,Cw,List.sum_cons]
theorem zS:∀ {l:List Int} {k:Int} {i:Nat},gQ u (l++ [k]) i=((gQ u l i).1++ [((i+(gQ u l i).2.length:Nat):Int)],(gQ u l i).2++u k.toNat (i+(gQ u l i).2.length))
 | [],k,i=>by simp [gQ]
 | x::l,k,i=>by
  rw[Bo]
  conv=>lhs;unfold gQ
  rw[zS]
  conv=>rhs;unfold gQ
  simp [Ck]
end
section
variable {h:bC}
theorem aAS:∀ {f v i:Nat},(oV h f v i).length=aEy h f v
 | 0,_,_=>rfl
 | f+1,v,i=>by
  show(gQ (oV h f) (nodeAt h v).next (i+1)).2.length+1=1+_;rw[vH (w:=aEy h f) fun v i=>aAS];omega
theorem uT{α β:Type}{f g:α→β}{l:List α}(h:∀a∈l,f a=g a):l.map f=l.map g:=Ct h
theorem uA(hK:eQ h):∀ {f f' v:Nat},v<h.nodes.length→h.nodes.length - v≤f→h.nodes.length - v≤f'→aEy h f v=aEy h f' v
 | 0,_,v,hv,h1,_=>by omega
 | f+1,0,v,hv,_,h2=>by omega
 | f+1,f'+1,v,hv,h1,h2=>by
  unfold aEy;rw[uT fun c hc=>?_];obtain⟨k1,k2⟩:=sH (hK:=hK) hv hc;exact uA hK k2 (by omega) (by omega)
def pF(h:bC)(v j:Nat):Nat:=1+(((nodeAt h v).next.take j).map fun c=>jC h c.toNat).sum
theorem yK{v j:Nat}(hj:j<(nodeAt h v).next.length):pF h v (j+1)=pF h v j+jC h ((nodeAt h v).next.getD j 0).toNat:=by
 unfold pF;rw[Bn,Cu,List.sum_append_nat,Ag,Ad hj];simp only[Option.toList_some,Fc,Cw,List.map_nil,List.sum_cons,List.sum_nil];omega
theorem tV(hK:eQ h){v:Nat}(hv:v<h.nodes.length):pF h v (nodeAt h v).next.length=jC h v:=by
 unfold pF jC;rw[Bt];obtain⟨n,hn⟩:∃n,h.nodes.length=n+1:=⟨h.nodes.length - 1,by omega⟩
 conv=>rhs;rw[hn];unfold aEy
 rw[uT fun c hc=>?_];obtain⟨k1,k2⟩:=sH (hK:=hK) hv hc;exact uA hK k2 (by omega) (by omega)
def jI(n:Nat):Int:=if n≤2000 then(n:Int) else 2001
theorem aFj(a:Nat):0≤jI a∧jI a≤2001:=by
 unfold jI;split<;>omega
theorem aG0:(fR h).nodes.length=jC h 0:=aAS
end
def aIY(_:St)(cs:List AV)(x:Bool):Prop:=cs= [.bool x]
def aQU(S:St)(v:AV)(l:List Bool)(z:Bool)(k:Nat)(A:bH)(X:St):Prop:=A.inr=false∧X=S∧∃j,j+k=l.length∧z∉l.take j∧aH 0 A.F=v∧aH 1 A.F= .bool z∧aH 7 A.F= .int .i64 ((l.length:Nat):Int)∧aH 8 A.F= .int .i64 (j:Int)
theorem aNn(a b:Bool):eY .eql (.p .bool) (.bool a) (.bool b)=some (.bool (a==b)):=by cases a<;>cases b<;>rfl
theorem aO1{S:St}{v:AV}{l:List Bool}(h:aQ 1 aIY S v l){j:Nat}(hj:j<l.length):∃p,eJ (.slice 1) v j=some p∧cE p false 1 S.h=some (.bool (l.getD j false)):=by
 obtain⟨e,b,p,h1,h2,h3,rfl,h5,h6⟩:=aQ.at h (by decide) (Ad hj);refine⟨_,h1,?_⟩;have:=h6 0 _ rfl;rw[Ag,Ad hj];exact this
theorem aHC{S:St}{v:AV}{l:List Bool}{z:Bool}(H:Has fns)(hl:aQ 1 aIY S v l)(hlen:l.length≤1000000):fB fns (.fn 71 [] []) [v,.bool z] S fun r S'=>(∃j,r= .int .i64 j∧(0≤j↔z∈l))∧S'=S:=by
 refine bN H.f71 (by simp) ?_;simp only[↓aB,aA,rE,↓reduceIte];refine bL ?_;simp only[↓aB,aA,rE,↓reduceIte];refine fY ?_;simp only[↓aB,aA,rE,↓reduceIte,aQ.len hl,Ai];refine aK (bG (aQU S v l z) ?_ l.length _ _ ⟨rfl,rfl,0,by omega,by simp,by refine⟨?_,?_,?_,?_⟩<;>simp only[↓aB,aA,rE,↓reduceIte]⟩);rintro k ⟨F,inr⟩ X ⟨q0,hX,j,hjk,ha,p0,p1,p7,p8⟩;simp only at q0 p0 p1 p7 p8;subst q0;rw[hX];refine bL ?_;simp only[↓aB,aA,rE,↓reduceIte,p7,p8];by_cases hj:j<l.length
 ·refine aC (aN (by simp only[↓aB,aA,rE,↓reduceIte,Ab (show(j:Int)<((l.length:Nat):Int) by omega)]) (aI ?_));simp only[↓aB,aA,rE,↓reduceIte];obtain⟨p,hia,hld⟩:=aO1 hl hj;have hgd:l.getD j false=l[j]:=by rw[Ag,Ad hj];rfl
  have htk:l.take (j+1)=l.take j++ [l.getD j false]:=by rw[Bn,Ad hj,hgd];rfl
  have hmem:l.getD j false∈l:=by rw[hgd];exact Co hj
  generalize l.getD j false=w at *;have w1:IntKind.i64.wrap ((j:Int)+1)=((j+1:Nat):Int):=by rw[wrap_i64 (by omega) (by omega)];omega
  refine aC (aK (aC (aF ?_)));simp only[↓aB,aA,rE,↓reduceIte,p8];refine bL ?_;simp only[↓aB,aA,rE,↓reduceIte,p0,p1,aG,hia,hld,aNn];by_cases ho:z=w
  ·refine aN (by simp only[↓aB,aA,rE,↓reduceIte,ho,BEq.rfl]) ?_;refine bL ?_;simp only[↓aB,aA,rE,↓reduceIte];refine aR ?_;simp only[↓aB,aA,rE,↓reduceIte];exact⟨_,rfl,⟨fun _=>by rw[ho];exact hmem,fun _=>by omega⟩⟩
  ·refine aL (by simp only[↓aB,aA,rE,↓reduceIte,beq_false_of_ne ho]) (aI ?_);try simp only[↓aB,aA,rE,↓reduceIte]
   refine aF ?_;simp only[↓aB,aA,rE,↓reduceIte,p8,w1];refine⟨k - 1,by omega,rfl,rfl,j+1,by omega,?_,by refine⟨?_,?_,?_,?_⟩<;>simp only[↓aB,aA,rE,↓reduceIte,p0,p1,p7]⟩;rw[htk];intro h;rcases Bj.1 h with h | h
   ·exact ha h
   ·simp at h;exact ho h
 ·refine aC (aL (by simp only[↓aB,aA,rE,↓reduceIte,Aa (show ¬ (j:Int)<((l.length:Nat):Int) by omega)]) (bD ?_));simp only[↓aB,aA,rE,↓reduceIte];rw[Ay (by omega)] at ha;refine bL ?_;simp only[↓aB,aA,rE,↓reduceIte];refine aR ?_;simp only[↓aB,aA,rE,↓reduceIte];exact⟨_,rfl,⟨fun h=>absurd h (by decide),fun h=>absurd h ha⟩⟩
theorem aC4{S:St}{v:AV}{l:List Bool}{z:Bool}(H:Has fns)(hl:aQ 1 aIY S v l)(hlen:l.length≤1000000):fB fns (.fn 54 [] []) [v,.bool z] S fun r S'=>r= .bool (decide (z∈l))∧S'=S:=by
 refine bN H.f54 (by simp) ?_;simp only[↓aB,aA,rE,↓reduceIte];refine bL ?_;simp only[↓aB,aA,rE,↓reduceIte];refine bL ?_;simp only[↓aB,aA,rE,↓reduceIte];refine aY ?_;simp only[↓aB,aA,rE,↓reduceIte];refine aO (aHC H hl hlen) ?_;rintro _ X ⟨⟨j,rfl,hj⟩,rfl⟩;simp only[↓aB,aA,rE,↓reduceIte];refine aR ?_;simp only[↓aB,aA,rE,↓reduceIte];by_cases h:z∈l
 ·rw[Ab h,Ab (hj.2 h)]
 ·rw[Aa h,Aa (fun e=>h (hj.1 e))]
def KdU(h:bC)(i j u:Nat):Prop:=(∃q,q<i∧((u:Nat):Int)∈(nodeAt h q).next)∨((u:Nat):Int)∈(nodeAt h i).next.take j
def OkU(h:bC)(i j:Nat):Prop:=(∀q,q<i→∀c∈(nodeAt h q).next,(q:Int)<c∧c<(h.nodes.length:Int))∧∀c∈(nodeAt h i).next.take j,(i:Int)<c∧c<(h.nodes.length:Int)
structure Blw(h:bC)(i j:Nat)(sv:List Bool):Prop where
 len:sv.length=h.nodes.length
 iff:∀u,u<h.nodes.length→(sv.getD u false=true↔KdU h i j u)
 ok:OkU h i j
section
variable {h:bC}{i j:Nat}{sv:List Bool}
theorem aBe{u:Nat}:KdU h i 0 u↔∃q,q<i∧((u:Nat):Int)∈(nodeAt h q).next:=by
 unfold KdU;simp
theorem aMK{u:Nat}:KdU h i (nodeAt h i).next.length u↔KdU h (i+1) 0 u:=by
 rw[aBe];unfold KdU;rw[Bt];constructor
 ·rintro(⟨q,h1,h2⟩ | h1)
  ·exact⟨q,by omega,h2⟩
  ·exact⟨i,by omega,h1⟩
 ·rintro⟨q,h1,h2⟩;by_cases e:q=i
  ·subst e;exact .inr h2
  ·exact .inl ⟨q,by omega,h2⟩
theorem Blw.next(b:Blw h i (nodeAt h i).next.length sv):Blw h (i+1) 0 sv:=⟨b.len,fun u hu=>(b.iff u hu).trans aMK,fun q hq=>by
 by_cases e:q=i
 ·subst e;have:=b.ok.2;rw[Bt] at this;exact this
 ·exact b.ok.1 q (by omega),fun c hc=>by simp at hc⟩
theorem tF{l:List Int}(hj:j<l.length):l.take (j+1)=l.take j++ [l.getD j 0]:=by
 rw[Bn,Ag,Ad hj];rfl
theorem aJv{P:List Bool}{i j:Nat}{v:Bool}(hi:i<P.length):(P.set i v).getD j false=if j=i then v else P.getD j false:=by
 rw[Ag,Dm,Ag];by_cases e:i=j
 ·rw[if_pos e,if_pos e.symm,if_pos hi];rfl
 ·rw[if_neg e,if_neg (Cp e)]
theorem Blw.kid(b:Blw h i j sv)(hj:j<(nodeAt h i).next.length){w:Nat}(hw:(nodeAt h i).next.getD j 0=(w:Int))(h1:i<w)(h2:w<h.nodes.length):Blw h i (j+1) (sv.set w true):=⟨by rw[Be];exact b.len,fun u hu=>by
 rw[aJv (by rw[b.len];exact h2)];unfold KdU;rw[tF hj,hw,Bj,Ca];by_cases e:u=w
 ·rw[if_pos e,e];simp
 ·rw[if_neg e];have e2:¬ ((u:Nat):Int)=(w:Int):=by omega
  simp only[e2,or_false];exact b.iff u hu,b.ok.1,fun c hc=>by
 rw[tF hj,hw,Bj,Ca] at hc;rcases hc with hc | rfl
 ·exact b.ok.2 c hc
 ·omega⟩
theorem vB:eQ h↔∀q,q<h.nodes.length→∀c∈(nodeAt h q).next,(q:Int)<c∧c<(h.nodes.length:Int):=by
 constructor
 ·intro hK q hq c hc;obtain⟨i,hi⟩:=Dj hc;have hl:=(Af.1 hi).1;obtain⟨h1,h2,h3⟩:=hK q hq i hl;have e:(nodeAt h q).next.getD i 0=c:=by rw[Ag,hi];rfl
  omega
 ·intro hA q hq i hi;have hm:(nodeAt h q).next.getD i 0∈(nodeAt h q).next:=by rw[Ag,Ad hi];exact Co hi
  have:=hA q hq _ hm;unfold gH;omega
theorem Blw.link(b:Blw h h.nodes.length 0 sv){x:Bool}{l:List Bool}(e:sv=x::l):false∉l↔jB h:=by
 have hl:=b.len;rw[e,Am] at hl;have hg:∀u,u<l.length→(l.getD u false=true↔∃q,q<h.nodes.length∧((u+1:Nat):Int)∈(nodeAt h q).next):=fun u hu=>by
  have:=b.iff (u+1) (by omega);rw[aBe,e] at this;exact this
 constructor
 ·intro hn;refine⟨by omega,vB.2 b.ok.1,fun j h1 h2=>?_⟩;have:=(hg (j - 1) (by omega)).1 (by
   rw[Ag,Ad (by omega:j - 1<l.length)];simp only[Fc];cases hb:l[j - 1] with
   | true=>rfl
   | false=>exact absurd (hb ▸ Co (by omega)) hn)
  rwa [show j - 1+1=j by omega] at this
 ·rintro⟨_,_,h3⟩ hm;obtain⟨u,hu⟩:=Dj hm;have hul:=(Af.1 hu).1;have:=(hg u hul).2 (h3 (u+1) (by omega) (by omega));rw[Ag,hu] at this;cases this
end
abbrev qD(l:List Bool):List AV:=l.map fun b=>.bool b
def LkI(h:bC)(S2:St)(nv:AV)(gb bb:Nat)(k:Nat)(A:bH)(X:St):Prop:=A.inr=false∧bB bb S2 X∧aH 1 A.F= .ptr gb 0∧aH 3 A.F= .sl bb 0 h.nodes.length h.nodes.length false∧aH 13 A.F=nv∧aH 14 A.F= .int .i64 ((h.nodes.length:Nat):Int)∧∃ (i:Nat) (sv:List Bool),i+k=h.nodes.length∧aH 15 A.F= .int .i64 (i:Int)∧X.h.get bb=some (.cells (qD sv) false 0)∧Blw h i 0 sv
def LkJ(h:bC)(S2:St)(nv na:AV)(gb bb i:Nat)(k:Nat)(A:bH)(X:St):Prop:=A.inr=false∧bB bb S2 X∧aH 1 A.F= .ptr gb 0∧aH 3 A.F= .sl bb 0 h.nodes.length h.nodes.length false∧aH 4 A.F= .int .i64 (i:Int)∧aH 13 A.F=nv∧aH 14 A.F= .int .i64 ((h.nodes.length:Nat):Int)∧aH 15 A.F= .int .i64 (i:Int)∧aH 21 A.F=na∧aH 22 A.F= .int .i64 (((nodeAt h i).next.length:Nat):Int)∧∃ (j:Nat) (sv:List Bool),j+k=(nodeAt h i).next.length∧aH 23 A.F= .int .i64 (j:Int)∧X.h.get bb=some (.cells (qD sv) false 0)∧Blw h i j sv
theorem aNL{S:St}{b N sz:Nat}{l:List Bool}{o:Bool}(h:S.h.get b=some (.cells (qD l) o sz))(hb:b<S.nx)(hl:l.length=N):aQ 1 aIY S (.sl b 0 N N false) l:=by
 refine .inr ⟨b,0,N,false,qD l,by rw[hl],by omega,hb,by unfold cK;rw[h];rfl,fun i a hi=>⟨[.bool a],rfl,fun j x hj=>?_,rfl⟩⟩;have:=(Af.1 hj).1;obtain rfl:j=0:=by simp at this;omega
 cases hj;rw[show 0+i * 1+0=i by omega,Bc,hi];rfl
theorem stB{S:St}{b p:Nat}{w:Bool}{l:List Bool}{o:Bool}{sz:Nat}(h:S.h.get b=some (.cells (qD l) o sz))(hp:p<l.length):kN (.ptr b p) 1 [.bool w] S=some (.undef,⟨S.h.set b (some (.cells (qD (l.set p w)) o sz)),S.nx⟩):=by
 rw[stc h (by rw[Ax];exact hp),←List.map_set]
theorem aFi{S:St}{nv iv:AV}{h:bC}(H:Has fns)(hn:aQ 6 cC S nv h.nodes)(hN:h.nodes.length≤100000)(hB:∀i,i<h.nodes.length→(nodeAt h i).next.length≤140737488355328):fB fns (.fn 35 [] []) [.agg [.int .i64 h.players,nv,iv]] S fun r X=>(∃b,r= .bool b∧(b=true↔jB h))∧Same S X:=by
 refine bN H.f35 (by simp) ?_;simp only[↓aB,aA,rE,↓reduceIte,rA];refine bL ?_;refine cL (by simp only[↓aB,aA,rE,↓reduceIte];exact bE _) ?_;intro S1 s1 n1 c1;simp only[↓aB,aA,rE,↓reduceIte];have hnl:=aQ.len hn;refine bL ?_;simp only[↓aB,aA,rE,↓reduceIte,aE,aD,cN c1,aQ.self hn,hnl];refine fE (jU (n:=h.nodes.length) (by simp only[↓aB,aA,rE,↓reduceIte,aG]) (by simp only[↓aB,aA,rE,↓reduceIte,aG]) (by unfold room;omega) (by unfold room;omega)) ?_;intro S2 s2 n2 c2;have ez:repeatL [AV.bool false] h.nodes.length=qD (List.replicate h.nodes.length false):=by rw[repeatL_one];simp
 rw[ez] at c2;try simp only[↓aB,aA,rE,↓reduceIte]
 have c1':=(s2.2 _ (show S.nx<S1.nx by omega)).trans c1;have s12:=s1.trans s2;refine aC (aT (Q:=fun o A' X=>(o= .normal∧LkI h S2 nv S.nx S1.nx 0 A' X)∨(o= .ret∧Same S X∧¬jB h∧aH 2 A'.F= .bool false)) (aC (aF ?_)) ?_)
 ·simp only[↓aB,aA,rE,↓reduceIte,aE,aD,cN c1',aQ.self hn,hnl];refine aK (bG (LkI h S2 nv S.nx S1.nx) ?_ h.nodes.length _ _ ⟨rfl,bB.refl _ _,by simp only[↓aB,aA,rE,↓reduceIte],by simp only[↓aB,aA,rE,↓reduceIte],by simp only[↓aB,aA,rE,↓reduceIte],by simp only[↓aB,aA,rE,↓reduceIte],0,_,by omega,by simp only[↓aB,aA,rE,↓reduceIte],c2,Az ..,fun u hu=>?_,fun q hq=>by omega,fun c hc=>by simp at hc⟩);rotate_left
  ·rw[aBe];rw[Ag,Dg,if_pos hu];constructor
   ·intro e;cases e
   ·rintro⟨q,hq,_⟩;omega
  rintro k ⟨F,inr⟩ X ⟨q0,hX,p1,p3,p13,p14,i,sv,hik,p15,gB,hb⟩;simp only at q0 p1 p3 p13 p14 p15;subst q0;refine bL ?_;simp only[↓aB,aA,rE,↓reduceIte,p14,p15,qT];by_cases hlt:i<h.nodes.length;rotate_left
  ·refine aC (aL (by simp only[↓aB,aA,rE,↓reduceIte,Aa hlt]) (bD ?_));obtain rfl:k=0:=by omega
   exact .inl ⟨rfl,rfl,hX,by simp only[↓aB,aA,rE,↓reduceIte,p1],by simp only[↓aB,aA,rE,↓reduceIte,p3],by simp only[↓aB,aA,rE,↓reduceIte,p13],by simp only[↓aB,aA,rE,↓reduceIte,p14],i,sv,hik,by simp only[↓aB,aA,rE,↓reduceIte,p15],gB,hb⟩
  refine aC (aN (by simp only[↓aB,aA,rE,↓reduceIte,Ab hlt]) (aI ?_));try simp only[↓aB,aA,rE,↓reduceIte]
  have sX:=bB.same s12 hX (by omega);obtain⟨e,b,p,i1,i2,i3,⟨na,nb,nc,rfl,x1,x2,x3⟩,i5,i6⟩:=aQ.at hn (by omega) (cM hlt);have l3:=(mC sX i2).trans i5;have hnx:=hB i hlt;refine aC (aK (aC (aF ?_)));simp only[↓aB,aA,rE,↓reduceIte,p13,p15,aG,i1,l3];refine cD ?_;intro X1 t1 m1 d1;simp only[↓aB,aA,rE,↓reduceIte];refine eF (b:=X.nx) (by simp only[↓aB,aA,rE,↓reduceIte]) (by simp only[↓aB,aA,rE,↓reduceIte];exact bE _) d1 rfl rfl ?_;intro X2 t2 m2 d2;simp only[↓aB,aA,rE,↓reduceIte];have sXX:Same X X2:=t2.same t1 (Ah _);have hX2:bB S1.nx S2 X2:=⟨Ba hX.1 sXX.1,fun c hc hne=>(sXX.2 c (Ae hc hX.1)).trans (hX.2 c hc hne)⟩;have gB2:=(sXX.2 _ (show S1.nx<X.nx by have:=hX.1;omega)).trans gB;have xa:=bI.self x1;refine bL ?_;simp only[↓aB,aA,rE,↓reduceIte,aE,aD,dD d2,xa,x1.len,Ai];refine aT (Q:=fun o A' Y=>(o= .normal∧LkJ h S2 nv na S.nx S1.nx i 0 A' Y)∨(o= .ret∧Same S Y∧¬jB h∧aH 2 A'.F= .bool false)) (aK (bG (LkJ h S2 nv na S.nx S1.nx i) ?_ (nodeAt h i).next.length _ _ ⟨rfl,hX2,by simp only[↓aB,aA,rE,↓reduceIte,p1],by simp only[↓aB,aA,rE,↓reduceIte,p3],by simp only[↓aB,aA,rE,↓reduceIte],by simp only[↓aB,aA,rE,↓reduceIte,p13],by simp only[↓aB,aA,rE,↓reduceIte,p14],by simp only[↓aB,aA,rE,↓reduceIte,p15],by simp only[↓aB,aA,rE,↓reduceIte],by simp only[↓aB,aA,rE,↓reduceIte],0,sv,by omega,by simp only[↓aB,aA,rE,↓reduceIte],gB2,hb⟩)) ?_
  ·clear p1 p3 p13 p14 p15 gB gB2 hb hX hX2 d2 d1 t1 t2 sX l3 sXX;rintro k ⟨F,inr⟩ Y ⟨q0,hY,p1,p3,p4,p13,p14,p15,p21,p22,j,sv,hjk,p23,gB,hb⟩;simp only at q0 p1 p3 p4 p13 p14 p15 p21 p22 p23;subst q0;refine bL ?_;simp only[↓aB,aA,rE,↓reduceIte,p22,p23,qT];by_cases hj:j<(nodeAt h i).next.length;rotate_left
   ·refine aC (aL (by simp only[↓aB,aA,rE,↓reduceIte,Aa hj]) (bD ?_));obtain rfl:k=0:=by omega
    exact .inl ⟨rfl,rfl,hY,by simp only[↓aB,aA,rE,↓reduceIte,p1],by simp only[↓aB,aA,rE,↓reduceIte,p3],by simp only[↓aB,aA,rE,↓reduceIte,p4],by simp only[↓aB,aA,rE,↓reduceIte,p13],by simp only[↓aB,aA,rE,↓reduceIte,p14],by simp only[↓aB,aA,rE,↓reduceIte,p15],by simp only[↓aB,aA,rE,↓reduceIte,p21],by simp only[↓aB,aA,rE,↓reduceIte,p22],j,sv,hjk,by simp only[↓aB,aA,rE,↓reduceIte,p23],gB,hb⟩
   refine aC (aN (by simp only[↓aB,aA,rE,↓reduceIte,Ab hj]) (aI ?_));try simp only[↓aB,aA,rE,↓reduceIte]
   have sY:=bB.same s12 hY (by omega);have gY:=(hY.2 _ (show S.nx<S2.nx by omega) (by omega)).trans c1';have iaj:=x1.iaddr hj;have laj:=(x1.same sY).ld hj;have sn:=aQ.self hn;have hm:(nodeAt h i).next.getD j 0∈(nodeAt h i).next:=by rw[Ag,Ad hj];exact Co hj
   obtain⟨c,hc⟩:∃c,c=(nodeAt h i).next.getD j 0:=⟨_,rfl⟩;rw[←hc] at laj hm;refine aC (aK (aC (aF ?_)));simp only[↓aB,aA,rE,↓reduceIte,p21,p23,aG,iaj,laj];refine aC (aT (Q:=fun o A' Z=>(o= .normal∧A'.inr=false∧Z=Y∧i<c.toNat∧c.toNat<h.nodes.length∧c=((c.toNat:Nat):Int)∧aH 1 A'.F= .ptr S.nx 0∧aH 3 A'.F= .sl S1.nx 0 h.nodes.length h.nodes.length false∧aH 4 A'.F= .int .i64 (i:Int)∧aH 7 A'.F= .int .i64 c∧aH 13 A'.F=nv∧aH 14 A'.F= .int .i64 ((h.nodes.length:Nat):Int)∧aH 15 A'.F= .int .i64 (i:Int)∧aH 21 A'.F=na∧aH 22 A'.F= .int .i64 (((nodeAt h i).next.length:Nat):Int)∧aH 23 A'.F= .int .i64 (j:Int))∨(o= .ret∧Z=Y∧¬jB h∧aH 2 A'.F= .bool false)) (aC (aF ?_)) ?_)
   ·by_cases hlo:c≤(i:Int)
    ·simp only[↓aB,aA,rE,↓reduceIte,p4,Ab hlo,Bd];refine aN (by simp only[↓aB,aA,rE,↓reduceIte]) (aC (aF ?_));simp only[↓aB,aA,rE,↓reduceIte];refine aR ?_;refine .inr ⟨rfl,rfl,fun hl=>?_,by simp only[↓aB,aA,rE,↓reduceIte]⟩;have:=vB.1 hl.2.1 i hlt c hm;omega
    ·simp only[↓aB,aA,rE,↓reduceIte,p1,p4,Aa hlo,aE,aD,cN gY,sn,hnl];by_cases hhi:((h.nodes.length:Nat):Int)≤c
     ·refine aN (by simp only[↓aB,aA,rE,↓reduceIte,Ab hhi]) (aC (aF ?_));simp only[↓aB,aA,rE,↓reduceIte];refine aR ?_;refine .inr ⟨rfl,rfl,fun hl=>?_,by simp only[↓aB,aA,rE,↓reduceIte]⟩;have:=vB.1 hl.2.1 i hlt c hm;omega
     ·refine aL (by simp only[↓aB,aA,rE,↓reduceIte,Aa hhi]) (aI ?_);exact .inl ⟨rfl,rfl,rfl,by omega,by omega,by omega,by refine⟨?_,?_,?_,?_,?_,?_,?_,?_,?_,?_⟩<;>simp only[↓aB,aA,rE,↓reduceIte,p1,p3,p4,p13,p14,p15,p21,p22,p23]⟩
   clear p1 p3 p4 p13 p14 p15 p21 p22 p23;rintro o ⟨F,inr⟩ Z (⟨rfl,q0,rfl,c1,c2,c3,p1,p3,p4,p7,p13,p14,p15,p21,p22,p23⟩ | ⟨rfl,rfl,hl,p2⟩);rotate_left
   ·simp only at p2;try simp only[↓aB,aA,rE,↓reduceIte]
    exact .inr ⟨sY,hl,p2⟩
   simp only at q0 p1 p3 p4 p7 p13 p14 p15 p21 p22 p23;subst q0;have ia:=eO (b:=S1.nx) (o:=false) c2;rw[c3] at p7;try simp only[↓aB,aA,rE,↓reduceIte]
   refine aF ?_;simp only[↓aB,aA,rE,↓reduceIte,p3,p7,aG,ia];refine eT (fun call=>by simp only[↓aB,aA,rE,↓reduceIte,dN];exact stB (w:=true) (S:=Z) gB (by rw[hb.len];exact c2)) ?_;simp only[↓aB,aA,rE,↓reduceIte];refine aF ?_;simp only[↓aB,aA,rE,↓reduceIte,p23,dL (a:=j) (by omega)];exact⟨k - 1,by omega,rfl,hY.put _,by simp only[↓aB,aA,rE,↓reduceIte,p1],by simp only[↓aB,aA,rE,↓reduceIte,p3],by simp only[↓aB,aA,rE,↓reduceIte,p4],by simp only[↓aB,aA,rE,↓reduceIte,p13],by simp only[↓aB,aA,rE,↓reduceIte,p14],by simp only[↓aB,aA,rE,↓reduceIte,p15],by simp only[↓aB,aA,rE,↓reduceIte,p21],by simp only[↓aB,aA,rE,↓reduceIte,p22],j+1,_,by omega,by simp only[↓aB,aA,rE,↓reduceIte],by simp only;rw[T.get_set,if_pos rfl],hb.kid hj (hc.symm.trans c3) c1 c2⟩
  clear p1 p3 p13 p14 p15 gB gB2 hb hX hX2;rintro o ⟨F,inr⟩ Y (⟨rfl,q0,hY,p1,p3,p4,p13,p14,p15,p21,p22,j,sv,hjk,p23,gB,hb⟩ | ⟨rfl,sY,hl,p2⟩);rotate_left
  ·simp only at p2;try simp only[↓aB,aA,rE,↓reduceIte]
   exact .inr ⟨sY,hl,p2⟩
  simp only at q0 p1 p3 p13 p14 p15;subst q0;obtain rfl:j=(nodeAt h i).next.length:=by omega
  try simp only[↓aB,aA,rE,↓reduceIte]
  refine aF ?_;simp only[↓aB,aA,rE,↓reduceIte,p15,dL (a:=i) (by omega)];exact⟨k - 1,by omega,rfl,hY,by simp only[↓aB,aA,rE,↓reduceIte,p1],by simp only[↓aB,aA,rE,↓reduceIte,p3],by simp only[↓aB,aA,rE,↓reduceIte,p13],by simp only[↓aB,aA,rE,↓reduceIte,p14],i+1,sv,by omega,by simp only[↓aB,aA,rE,↓reduceIte],gB,hb.next⟩
 rintro o ⟨F,inr⟩ X (⟨rfl,q0,hX,p1,p3,p13,p14,i,sv,hik,p15,gB,hb⟩ | ⟨rfl,sX,hl,p2⟩);rotate_left
 ·simp only at p2;simp only[↓aB,aA,rE,↓reduceIte,p2];exact⟨⟨false,rfl,(fun e=>by cases e),fun e=>absurd e hl⟩,sX⟩
 simp only at q0 p1 p3;subst q0;obtain rfl:i=h.nodes.length:=by omega
 have sX:=bB.same s12 hX (by omega);have iB:=aNL gB (by have:=hX.1;omega) hb.len;have hlB:kJ (.sl S1.nx 0 h.nodes.length h.nodes.length false)=some (.int .i64 ((h.nodes.length:Nat):Int)):=rfl;try simp only[↓aB,aA,rE,↓reduceIte]
 refine bL ?_;by_cases h0:0<h.nodes.length;rotate_left
 ·simp only[↓aB,aA,rE,↓reduceIte,p3,hlB,Aa (show ¬ (0:Int)<((h.nodes.length:Nat):Int) by omega)];refine aR ?_;simp only[↓aB,aA,rE,↓reduceIte];exact⟨⟨false,rfl,(fun e=>by cases e),fun e=>absurd e.1 h0⟩,sX⟩
 obtain⟨x,l,el⟩:∃x l,sv=x::l:=by
  cases sv with
  | nil=>have:=hb.len;simp at this;omega
  | cons x l=>exact⟨x,l,rfl⟩
 rw[el] at iB;obtain⟨v',e1,iT⟩:=aQ.tail iB;have e2:∀F,rR (.slice 1) (.sl S1.nx 0 h.nodes.length h.nodes.length false) (some (.c (.int .i64 1))) none none F=some v':=fun F=>e1 F _ rfl;have hlen:l.length≤1000000:=by
  have:=hb.len;rw[el,Am] at this;omega
 simp only[↓aB,aA,rE,↓reduceIte,p3,hlB,Ab (show(0:Int)<((h.nodes.length:Nat):Int) by omega),e2];refine aY ?_;simp only[↓aB,aA,rE,↓reduceIte];refine aO (aC4 H iT hlen) ?_;rintro _ Y ⟨rfl,rfl⟩;simp only[↓aB,aA,rE,↓reduceIte,eC];refine aR ?_;simp only[↓aB,aA,rE,↓reduceIte];exact⟨⟨_,rfl,by rw[←hb.link el];simp⟩,sX⟩
def mnU(a b:Int):Int:=if a≤b then a else b
theorem aIZ(a b:Int):lR false [.int .i64 a,.int .i64 b]=some (.int .i64 (mnU a b)):=by
 show bK (keq .i64 .i64) (jM false [] (.int .i64 (bK false (bK (ile b a) a b) (bK (ile a b) a b)))) none=_;rw[eI,aP,aU,oS];show some _=_;unfold mnU;by_cases h:a≤b
 ·rw[if_pos h,Ab h,aP]
 ·rw[if_neg h,Aa h,aU]
theorem aLr(l:List cF)(F:Fr)(h:T AB):gT (.minmax false l) F h=lR false (dF l F):=rfl
theorem aE2(l:List cF):dO (.minmax false l)=false:=rfl
theorem aOM{a b:Nat}:mnU (jI a+jI b) 2001=jI (a+b):=by
 unfold mnU jI;split<;>split<;>split<;>split<;>omega
noncomputable def szC:List AO:=[mt 33 3,
mt 34 4,
mt 35 3,
mt 36 4,
om 37 12 (.iaddr (.slice 1) (.t 35) (.t 36)),
om 38 28 (ld 37),
mt 39 3,
mt 40 6,
om 41 192 (.iaddr (.slice 1) (.t 39) (.t 40)),
om 42 448 (ld 41),
om 43 1020 (bi .add (.t 38) (.t 42)),
om 44 2044 (.minmax false [(.t 43),(ci 2001)]),
om 45 4095 (.iaddr (.slice 1) (.t 33) (.t 34))]
def aPp(h:bC)(S2:St)(gb sb:Nat)(k:Nat)(A:bH)(X:St):Prop:=A.inr=false∧bB sb S2 X∧aH 1 A.F= .ptr gb 0∧aH 3 A.F= .sl sb 0 h.nodes.length h.nodes.length false∧aH 4 A.F= .int .i64 ((k:Int) - 1)∧k≤h.nodes.length∧∃M:List Int,M.length=h.nodes.length∧(∀q,k≤q→q<h.nodes.length→M.getD q 0=jI (jC h q))∧X.h.get sb=some (.cells (bF M) false 0)
def aPJ(h:bC)(S2:St)(na:AV)(gb sb a:Nat)(k:Nat)(A:bH)(X:St):Prop:=A.inr=false∧bB sb S2 X∧aH 1 A.F= .ptr gb 0∧aH 3 A.F= .sl sb 0 h.nodes.length h.nodes.length false∧aH 4 A.F= .int .i64 (a:Int)∧aH 27 A.F=na∧aH 28 A.F= .int .i64 (((nodeAt h a).next.length:Nat):Int)∧∃ (j:Nat) (M:List Int),j+k=(nodeAt h a).next.length∧aH 29 A.F= .int .i64 (j:Int)∧M.length=h.nodes.length∧(∀q,a<q→q<h.nodes.length→M.getD q 0=jI (jC h q))∧M.getD a 0=jI (pF h a j)∧X.h.get sb=some (.cells (bF M) false 0)
theorem aHW{S:St}{nv iv:AV}{h:bC}(H:Has fns)(hL:jB h)(hn:aQ 6 cC S nv h.nodes)(hN:h.nodes.length≤100000)(hB:∀i,i<h.nodes.length→(nodeAt h i).next.length≤140737488355328):fB fns (.fn 36 [] []) [.agg [.int .i64 h.players,nv,iv]] S fun r X=>r= .int .i64 (jI (jC h 0))∧Same S X:=by
 have hK:=hL.2.1;have h0:=hL.1;have hnl:=aQ.len hn;have sn:=aQ.self hn;refine bN H.f36 (by simp) ?_;simp only[↓aB,aA,rE,↓reduceIte,rA];refine bL ?_;refine cL (by simp only[↓aB,aA,rE,↓reduceIte];exact bE _) ?_;intro S1 s1 n1 c1;simp only[↓aB,aA,rE,↓reduceIte];refine bL ?_;simp only[↓aB,aA,rE,↓reduceIte,aE,aD,cN c1,sn,hnl];refine fE (jU (n:=h.nodes.length) (by simp only[↓aB,aA,rE,↓reduceIte,aG]) (by simp only[↓aB,aA,rE,↓reduceIte,aG]) (by unfold room;omega) (by unfold room;omega)) ?_;intro S2 s2 n2 c2;rw[nI] at c2;try simp only[↓aB,aA,rE,↓reduceIte]
 have c1':=(s2.2 _ (show S.nx<S1.nx by omega)).trans c1;have s12:=s1.trans s2;refine aC (aT (Q:=fun o A' X=>o= .normal∧aPp h S2 S.nx S1.nx 0 A' X) (aC (aF ?_)) ?_)
 ·have w0:IntKind.i64.wrap (((h.nodes.length:Nat):Int) - 1)=((h.nodes.length:Nat):Int) - 1:=wrap_i64 (by omega) (by omega);simp only[↓aB,aA,rE,↓reduceIte,aE,aD,cN c1',sn,hnl,w0];refine aK (bG (aPp h S2 S.nx S1.nx) ?_ h.nodes.length _ _ ⟨rfl,bB.refl _ _,by simp only[↓aB,aA,rE,↓reduceIte],by simp only[↓aB,aA,rE,↓reduceIte],by simp only[↓aB,aA,rE,↓reduceIte],Ah _,_,Az ..,fun q h1 h2=>by omega,c2⟩);rintro k ⟨F,inr⟩ X ⟨q0,hX,p1,p3,p4,hk,M,hl,hM,hc⟩;simp only at q0 p1 p3 p4;subst q0;refine fY ?_;simp only[↓aB,aA,rE,↓reduceIte,p4];by_cases hk0:k=0
  ·subst hk0;refine aL (by simp only[↓aB,aA,rE,↓reduceIte];exact Ce _ (Aa (by omega))) (bD ?_);exact⟨rfl,rfl,hX,by simp only[↓aB,aA,rE,↓reduceIte,p1],by simp only[↓aB,aA,rE,↓reduceIte,p3],by simp only[↓aB,aA,rE,↓reduceIte,p4],hk,M,hl,hM,hc⟩
  obtain⟨a,rfl⟩:∃a,k=a+1:=⟨k - 1,by omega⟩;have e4:(((a+1:Nat):Int) - 1)=(a:Int):=by omega
  rw[e4] at p4 ⊢;refine aN (by simp only[↓aB,aA,rE,↓reduceIte,Ab (show(0:Int)≤(a:Int) by omega)]) (aI ?_);try simp only[↓aB,aA,rE,↓reduceIte]
  have hal:a<h.nodes.length:=by omega
  have gX:=(hX.2 _ (show S.nx<S2.nx by omega) (by omega)).trans c1';have sX:=hX.same s12 (by omega);obtain⟨e,b,p,i1,i2,i3,⟨na,nb,nc,rfl,x1,x2,x3⟩,i5,i6⟩:=aQ.at hn (by omega) (cM hal);have ira:=eO (b:=S1.nx) (o:=false) hal;have hnx:=hB a hal;refine aC (aT (Q:=fun o A' Y=>o= .normal∧aPJ h S2 na S.nx S1.nx a 0 A' Y) (aK (aC (aF ?_))) ?_)
  ·simp only[↓aB,aA,rE,↓reduceIte,p3,p4,aG,ira];refine eT (fun call=>by simp only[↓aB,aA,rE,↓reduceIte,dN,cH];exact vT (S:=X) hc (show a<M.length by omega)) ?_;simp only[↓aB,aA,rE,↓reduceIte];obtain⟨X1,hX1⟩:∃X1:St,X1=⟨X.h.set S1.nx (some (.cells (bF (M.set a 1)) false 0)),X.nx⟩:=⟨_,rfl⟩;rw[←hX1];have hc1:X1.h.get S1.nx=some (.cells (bF (M.set a 1)) false 0):=by rw[hX1];simp only;rw[T.get_set,if_pos rfl]
   have hS1:bB S1.nx S2 X1:=by rw[hX1];exact hX.put _
   clear hX1;have gX1:=(hS1.2 _ (show S.nx<S2.nx by omega) (by omega)).trans c1';have l3:cE (.ptr b (p+3)) false 1 X1.h=some na:=(mC (hS1.same s12 (by omega)) i2).trans (i6 3 na rfl);refine bL ?_;simp only[↓aB,aA,rE,↓reduceIte,aE,aD,p1,p4,cN gX1,sn,aG,i1,l3,bI.self x1,x1.len,Ai];refine aK (bG (aPJ h S2 na S.nx S1.nx a) ?_ (nodeAt h a).next.length _ _ ⟨rfl,hS1,by simp only[↓aB,aA,rE,↓reduceIte,p1],by simp only[↓aB,aA,rE,↓reduceIte,p3],by simp only[↓aB,aA,rE,↓reduceIte,p4],by simp only[↓aB,aA,rE,↓reduceIte],by simp only[↓aB,aA,rE,↓reduceIte],0,_,by omega,by simp only[↓aB,aA,rE,↓reduceIte],by rw[Be];exact hl,fun q h1 h2=>?_,?_,hc1⟩);rotate_left
   ·rw[dR (by omega),if_neg (by omega)];exact hM q (by omega) h2
   ·rw[dR (by omega),if_pos rfl];rfl
   clear hX p1 p3 p4 hM hc hl hc1 hS1 gX1 l3 gX;rintro k ⟨F,inr⟩ Y ⟨q0,hY,p1,p3,p4,p27,p28,j,M,hjk,p29,hl,hM,hP,hc⟩;simp only at q0 p1 p3 p4 p27 p28 p29;subst q0;refine bL ?_;simp only[↓aB,aA,rE,↓reduceIte,p28,p29,qT];by_cases hj:j<(nodeAt h a).next.length;rotate_left
   ·refine aC (aL (by simp only[↓aB,aA,rE,↓reduceIte,Aa hj]) (bD ?_));obtain rfl:k=0:=by omega
    exact⟨rfl,rfl,hY,by simp only[↓aB,aA,rE,↓reduceIte,p1],by simp only[↓aB,aA,rE,↓reduceIte,p3],by simp only[↓aB,aA,rE,↓reduceIte,p4],by simp only[↓aB,aA,rE,↓reduceIte,p27],by simp only[↓aB,aA,rE,↓reduceIte,p28],j,M,hjk,by simp only[↓aB,aA,rE,↓reduceIte,p29],hl,hM,hP,hc⟩
   refine aC (aN (by simp only[↓aB,aA,rE,↓reduceIte,Ab hj]) (aI ?_));try simp only[↓aB,aA,rE,↓reduceIte]
   obtain⟨k1,k2,k3⟩:=hK a hal j hj;have sY:=hY.same s12 (by omega);have iaj:=x1.iaddr hj;have laj:=(x1.same sY).ld hj;have hps:=yK (h:=h) hj;rw[k3] at laj hps;rw[Cm] at hps;have irc:=eO (b:=S1.nx) (o:=false) k2;have lra:=aAo hc (show a<M.length by omega);have lrc:=aAo hc (show gH h a j<M.length by omega);rw[hP] at lra;rw[hM _ k1 k2] at lrc;have b1:=aFj (pF h a j);have b2:=aFj (jC h (gH h a j));have w1:IntKind.i64.wrap (jI (pF h a j)+jI (jC h (gH h a j)))=jI (pF h a j)+jI (jC h (gH h a j)):=wrap_i64 (by omega) (by omega);refine aC (aK (aC (aF ?_)));simp only[↓aB,aA,rE,↓reduceIte,p27,p29,aG,iaj,laj];refine tS (pre:=szC) (K:=13) (m:=8191) (n:=1) (x:=.t 45) (v:=.t 44) rfl rfl rfl rfl ?_;unfold szC;simp only[↓sU,sD,rE,↓reduceIte,rA,p3,p4,aG,ira,irc,lra,lrc,w1,aLr,aE2,gF,kI,aIZ,aOM];simp only[cH,aM];rw[←hps];refine⟨_,vT (S:=⟨Y.h,Y.nx+14⟩) hc (by omega),?_⟩;refine aF ?_;simp only[↓sU,sD,rE,↓reduceIte,rA,p29,dL (a:=j) (by omega)];refine⟨k - 1,by omega,rfl,(hY.nx 14).put _,by simp only[↓sU,sD,rE,↓reduceIte,rA,p1],by simp only[↓sU,sD,rE,↓reduceIte,rA,p3],by simp only[↓sU,sD,rE,↓reduceIte,rA,p4],by simp only[↓sU,sD,rE,↓reduceIte,rA,p27],by simp only[↓sU,sD,rE,↓reduceIte,rA,p28],j+1,M.set a (jI (pF h a (j+1))),by omega,by simp only[↓sU,sD,rE,↓reduceIte,rA],by rw[Be];exact hl,fun q h1 h2=>?_,?_,by simp only;rw[T.get_set,if_pos rfl]⟩
   ·rw[dR (by omega),if_neg (by omega)];exact hM q h1 h2
   ·rw[dR (by omega),if_pos rfl]
  clear hX p1 p3 p4 hM hc hl M;rintro o ⟨F,inr⟩ Y ⟨rfl,q0,hY,p1,p3,p4,p27,p28,j,M,hjk,p29,hl,hM,hP,hc⟩;simp only at q0 p1 p3 p4;subst q0;obtain rfl:j=(nodeAt h a).next.length:=by omega
  rw[tV hK hal] at hP;have w2:IntKind.i64.wrap ((a:Int) - 1)=(a:Int) - 1:=wrap_i64 (by omega) (by omega);try simp only[↓aB,aA,rE,↓reduceIte]
  refine aF ?_;simp only[↓aB,aA,rE,↓reduceIte,p4,w2];refine⟨a,by omega,rfl,hY,by simp only[↓aB,aA,rE,↓reduceIte,p1],by simp only[↓aB,aA,rE,↓reduceIte,p3],by simp only[↓aB,aA,rE,↓reduceIte],by omega,M,hl,fun q h1 h2=>?_,hc⟩;by_cases e:q=a
  ·rw[e];exact hP
  ·exact hM q (by omega) h2
 rintro o ⟨F,inr⟩ X ⟨rfl,q0,hX,p1,p3,p4,hk,M,hl,hM,hc⟩;simp only at q0 p3;subst q0;have ir:=eO (b:=S1.nx) (o:=false) h0;have lr:=aAo hc (show 0<M.length by omega);rw[hM 0 (Ah _) h0] at lr;have nz:eZ (.int .i64 0)=some 0:=rfl;try simp only[↓aB,aA,rE,↓reduceIte]
 refine bL ?_;simp only[↓aB,aA,rE,↓reduceIte,p3,nz,ir,lr];refine aR ?_;simp only[↓aB,aA,rE,↓reduceIte];exact hX.same s12 (by omega)
section
variable {α:Type}{k:Nat}{E E':List AV→α→Prop}{S0 X:St}{v:AV}{l:List α}
theorem qC.fldU(h:qC k E S0 X v l){i q:Nat}{a a':α}{x:AV}(hi:l[i]? =some a)(hq:q<k)(h1:∀ (j:Nat) (b:α) (e:List AV),l[j]? =some b→j≠i→E e b→E' e b)(h2:∀e,E e a→E' (e.set q x) a'):
  ∃b p X',eJ (.slice k) v i=some (.ptr b p)∧aX v=some b∧b<X.nx∧kN (.ptr b (p+q)) 1 [x] X=some (.undef,X')∧qC k E' S0 X' v (l.set i a')∧X'.nx=X.nx∧∀c,c≠b→X'.h.get c=X.h.get c:=by
 have hil:=(Af.1 hi).1;rcases h with⟨rfl,rfl⟩ | ⟨b,c,cs,rfl,g1,g2,g3,g4,g5,g6,g7⟩
 ·cases hi
 ·have hp:i * k+q+ [x].length≤cs.length:=by
   have:=qY hil hq;have:=Dh k g1;rw[g2];simp only[Bm];omega
  refine⟨b,0+i * k,⟨X.h.set b (some (.cells (cs.take (i * k+q)++ [x]++cs.drop (i * k+q+ [x].length)) true k)),X.nx⟩,?_,rfl,g4,?_,.inr ⟨b,c,cs.take (i * k+q)++ [x]++cs.drop (i * k+q+ [x].length),by rw[Be],by rw[Be];exact g1,by simp only[Bm] at hp;simp;omega,g3,g4,by simp only;rw[T.get_set,if_pos rfl],g6,fun j a0 hj=>?_⟩,rfl,fun c' hne=>by simp only;rw[T.get_set,if_neg hne]⟩
  ·show bK (Nat.blt i l.length) _ _=_;rw[show Nat.blt i l.length=true from Aj hil,aP]
  ·rw[Av];exact aOJ g5 hp rfl
  ·rw[Dm] at hj;split at hj
   ·rename_i e0;subst e0;try rw[if_pos hil] at hj
    cases hj;obtain⟨e,e1,e2,e3⟩:=g7 i a hi;refine⟨e.set q x,by rw[Be,e1],fun r y hr=>?_,h2 e e3⟩;have hrk:r<k:=by
     have:=(Af.1 hr).1;rw[Be,e1] at this;exact this
    rw[Dm] at hr;rw[aA7 hp];split at hr
    ·rename_i e0;subst e0;try rw[if_pos (show q<e.length by omega)] at hr
     cases hr;rw[if_neg (by omega),if_pos (by simp),De];rfl
    ·rename_i hne;have h3:=e2 r y hr;by_cases hlt:r<q
     ·rw[if_pos (by omega)];exact h3
     ·rw[if_neg (by omega),if_neg (by simp only[Bm];omega)];exact h3
   ·rename_i hne;obtain⟨e,e1,e2,e3⟩:=g7 j a0 hj;refine⟨e,e1,fun r y hr=>?_,h1 j a0 e hj (fun e=>hne e.symm) e3⟩;have hrk:r<k:=by rw[←e1];exact(Af.1 hr).1
    have h3:=e2 r y hr;rw[aA7 hp];rcases Nat.lt_or_gt_of_ne hne with h4 | h4
    ·have:=qY h4 hq;have:(i+1) * k≤j * k:=Dh k h4;rw[Dz,Nat.one_mul] at this;rw[if_neg (by omega),if_neg (by simp only[Bm];omega)];exact h3
    ·have:(j+1) * k≤i * k:=Dh k h4;rw[Dz,Nat.one_mul] at this;rw[if_pos (by omega)];exact h3
end
structure UyS where
 na:AV
 l:List (bO×AV)
def PU(W:Nat→Prop)(m:UyS)(c:Nat):Prop:=¬W c∧aX m.na≠some c∧∀a∈m.l,aX a.2≠some c
def NdU(S0 X:St)(e:List AV)(a:bO×AV):Prop:=∃xw xp,e= [.int .i64 a.1.kind,.int .i64 a.1.player,.int .i64 a.1.info,a.2,xw,xp]∧iD 1 S0 X a.2 a.1.next.length (bF a.1.next)∧bI .i64 S0 xw a.1.weights∧bI .i64 S0 xp a.1.pay
theorem NdU.move{S0 X X':St}{e:List AV}{a:bO×AV}(h:NdU S0 X e a)(hn:X.nx≤X'.nx)(hr:∀c,aX a.2=some c→X'.h.get c=X.h.get c):NdU S0 X' e a:=by
 obtain⟨xw,xp,rfl,h1,h2,h3⟩:=h;exact⟨xw,xp,rfl,h1.move hn hr,h2,h3⟩
structure yM(W:Nat→Prop)(S0 X:St)(m:UyS):Prop where
 nod:qC 6 (NdU S0 X) S0 X m.na m.l
 rn:∀a∈m.l,∀c,aX a.2=some c→(S0.nx≤c∧c<X.nx)∧¬W c∧aX m.na≠some c
 dj:∀ (i j:Nat) (a b:bO×AV),i≠j→m.l[i]? =some a→m.l[j]? =some b→∀c,aX a.2=some c→aX b.2≠some c
 d1:∀c,aX m.na=some c→¬W c
 wg:∀c,W c→S0.nx≤c∧c<X.nx
def nJ(W:Nat→Prop)(m:UyS)(X:St)(m':UyS)(X':St):Prop:=X.nx≤X'.nx∧∀c,c<X.nx→PU W m c→X'.h.get c=X.h.get c∧PU W m' c
section
variable {W:Nat→Prop}{S0 X X':St}{m m' m'':UyS}
theorem nJ.refl:nJ W m X m X:=⟨Ah _,fun _ _ h=>⟨rfl,h⟩⟩
theorem nJ.trans{X'':St}(h:nJ W m X m' X')(h':nJ W m' X' m'' X''):nJ W m X m'' X'':=
 ⟨Ba h.1 h'.1,fun c hc hp=>by
  obtain⟨a,b⟩:=h.2 c hc hp;obtain⟨a',b'⟩:=h'.2 c (Ae hc h.1) b;exact⟨a'.trans a,b'⟩⟩
theorem nJ.off(hn:X.nx≤X'.nx)(hk:∀c,c<X.nx→PU W m c→X'.h.get c=X.h.get c):nJ W m X m X':=⟨hn,fun c hc h=>⟨hk c hc h,h⟩⟩
theorem nJ.same(h:Same X X'):nJ W m X m X':=.off h.1 fun c hc _=>h.2 c hc
theorem yM.row_of(h:yM W S0 X m){j:Nat}{a:bO×AV}(hj:m.l[j]? =some a){c:Nat}(hc:aX a.2=some c):(S0.nx≤c∧c<X.nx)∧¬W c∧aX m.na≠some c:=h.rn a (Ao hj) c hc
theorem yM.low(h:yM W S0 X m){c:Nat}(hc:c<S0.nx):PU W m c:=
 ⟨fun e=>by have:=(h.wg c e).1;omega,fun e=>by have:=(h.nod.blk e).1;omega,fun a ha e=>by have:=(h.rn a ha c e).1;omega⟩
theorem yM.same0(h:yM W S0 X m)(K:nJ W m X m' X')(hS:Same S0 X):Same S0 X':=
 ⟨Ba hS.1 K.1,fun c hc=>((K.2 c (Ae hc hS.1) (h.low hc)).1).trans (hS.2 c hc)⟩
theorem yM.local(h:yM W S0 X m)(hn:X.nx≤X'.nx)(hk:∀c,c<X.nx→¬W c→¬PU W m c→X'.h.get c=X.h.get c):yM W S0 X' m where
 nod:=by
  rcases h.nod with h0 | ⟨b,c,cs,e0,g1,g2,g3,g4,g5,g6,g7⟩
  ·exact .inl h0
  ·have hb:aX m.na=some b:=by rw[e0];rfl
   refine .inr ⟨b,c,cs,e0,g1,g2,g3,Ae g4 hn,(hk b g4 (h.d1 b hb) fun hp=>absurd hb hp.2.1).trans g5,g6,fun i a hi=>?_⟩;obtain⟨e,e1,e2,e3⟩:=g7 i a hi;exact⟨e,e1,e2,e3.move hn fun c hc=>hk c (h.row_of hi hc).1.2 (h.row_of hi hc).2.1 fun hp=>absurd hc (hp.2.2 a (Ao hi))⟩
 rn:=fun a ha c hc=>⟨⟨(h.rn a ha c hc).1.1,Ae (h.rn a ha c hc).1.2 hn⟩,(h.rn a ha c hc).2⟩
 dj:=h.dj
 d1:=h.d1
 wg:=fun c hc=>⟨(h.wg c hc).1,Ae (h.wg c hc).2 hn⟩
theorem yM.same(h:yM W S0 X m)(hs:Same X X'):yM W S0 X' m:=h.local hs.1 fun c hc _ _=>hs.2 c hc
theorem yM.pushN(h:yM W S0 X m){v':AV}{a:bO}(hn:X.nx≤X'.nx)(hk:∀c,c<X.nx→aX m.na≠some c→X'.h.get c=X.h.get c)(hb:∀c,aX v'=some c→aX m.na=some c∨X.nx≤c)(ha:qC 6 (NdU S0 X) S0 X' v' (m.l++ [(a,.nilsl)])):yM W S0 X' ⟨v',m.l++ [(a,.nilsl)]⟩∧nJ W m X ⟨v',m.l++ [(a,.nilsl)]⟩ X':=by
 have mem:∀ {y c},y∈m.l++ [((a,.nilsl):bO×AV)]→aX y.2=some c→y∈m.l:=fun hy hc=>by
  rcases Bj.1 hy with h1 | h1
  ·exact h1
  ·rw[Ca.1 h1] at hc;cases hc
 have K:nJ W m X ⟨v',m.l++ [(a,.nilsl)]⟩ X':=⟨hn,fun c hc hp=>⟨hk c hc hp.2.1,hp.1,fun e=>(hb c e).elim (fun h1=>hp.2.1 h1) fun h1=>absurd hc (Nat.not_lt.2 h1),fun y hy e=>hp.2.2 y (mem hy e) e⟩⟩;have nv:∀ {c},aX m.na≠some c→c<X.nx→aX v'≠some c:=fun h1 h2 e=>(hb _ e).elim h1 fun h3=>absurd h2 (Nat.not_lt.2 h3);refine⟨⟨?_,fun y hy c hc=>?_,fun i j x y hij hx hy c hc hc'=>?_,fun c hc=>?_,fun c hc=>⟨(h.wg c hc).1,Ae (h.wg c hc).2 hn⟩⟩,K⟩
 ·rcases ha with h0 | ⟨b,c,cs,e0,g1,g2,g3,g4,g5,g6,g7⟩
  ·exact .inl h0
  ·refine .inr ⟨b,c,cs,e0,g1,g2,g3,g4,g5,g6,fun i y hi=>?_⟩;obtain⟨e,e1,e2,e3⟩:=g7 i y hi;refine⟨e,e1,e2,e3.move hn fun c hc=>?_⟩;have:=h.rn y (mem (Ao hi) hc) c hc;exact hk c this.1.2 this.2.2
 ·have:=h.rn y (mem hy hc) c hc;exact⟨⟨this.1.1,Ae this.1.2 hn⟩,this.2.1,nv this.2.2 this.1.2⟩
 ·rw[Di] at hx hy;split at hx
  ·split at hy
   ·exact h.dj i j x y hij hx hy c hc hc'
   ·have:=Ao hy;rw[Ca] at this;rw[this] at hc';cases hc'
  ·have:=Ao hx;rw[Ca] at this;rw[this] at hc;cases hc
 ·rcases hb c hc with h1 | h1
  ·exact h.d1 c h1
  ·exact fun e=>by have:=(h.wg c e).2;omega
theorem yM.row_at(h:yM W S0 X m){i:Nat}{a:bO}{v:AV}(hi:m.l[i]? =some (a,v)):∃b p,eJ (.slice 6) m.na i=some (.ptr b p)∧aX m.na=some b∧b<X.nx∧cE (.ptr b (p+3)) false 1 X.h=some v∧iD 1 S0 X v a.next.length (bF a.next):=by
 rcases h.nod with⟨_,h0⟩ | ⟨b,c,cs,e0,g1,g2,g3,g4,g5,g6,g7⟩
 ·rw[h0] at hi;cases hi
 ·obtain⟨e,e1,e2,xw,xp,rfl,e4,_⟩:=g7 i _ hi;have hil:=(Af.1 hi).1;refine⟨b,0+i * 6,?_,by rw[e0];rfl,g4,fU g5 (by rw[Av];exact e2 3 v rfl),e4⟩;rw[e0];show bK (Nat.blt i m.l.length) _ _=_;rw[show Nat.blt i m.l.length=true from Aj hil,aP]
def vS(m:UyS)(i:Nat)(a:bO)(w:Int)(v':AV):UyS:=⟨m.na,m.l.set i ({a with next:=a.next++ [w]},v')⟩
theorem yM.row(h:yM W S0 X m){i:Nat}{a:bO}{v v':AV}{w:Int}(hi:m.l[i]? =some (a,v))(hn:X.nx≤X'.nx)(hk:∀c,c<X.nx→aX v≠some c→X'.h.get c=X.h.get c)(hg:iD 1 S0 X' v' (a.next++ [w]).length (bF (a.next++ [w])))(hb:∀c,aX v'=some c→X.nx≤c):
  ∃b p X'',eJ (.slice 6) m.na i=some (.ptr b p)∧aX m.na=some b∧b<X.nx∧kN (.ptr b (p+3)) 1 [v'] X'=some (.undef,X'')∧X''.nx=X'.nx∧(∀c,c≠b→X''.h.get c=X'.h.get c)∧yM W S0 X'' (vS m i a w v')∧nJ W m X (vS m i a w v') X'':=by
 have hil:=(Af.1 hi).1;have lv:∀ {c},aX v=some c→_:=fun hc=>h.row_of hi hc;have nav:∀ {c},aX m.na=some c→aX v≠some c:=fun hc e=>(lv e).2.2 hc;have hX':qC 6 (NdU S0 X) S0 X' m.na m.l:=by
  rcases h.nod with h0 | ⟨b,c,cs,e0,g1,g2,g3,g4,g5,g6,g7⟩
  ·exact .inl h0
  ·exact .inr ⟨b,c,cs,e0,g1,g2,g3,Ae g4 hn,(hk b g4 (nav (by rw[e0];rfl))).trans g5,g6,g7⟩
 have mem:∀ {y},y∈m.l.set i ({a with next:=a.next++ [w]},v')→(∃j,j≠i∧m.l[j]? =some y)∨y=({a with next:=a.next++ [w]},v'):=fun {y} hy=>by
  obtain⟨j,hj,e⟩:=List.getElem_of_mem hy;rw[List.getElem_set] at e;split at e
  ·exact .inr e.symm
  ·rename_i hne;rw[Be] at hj;exact .inl ⟨j,fun e=>hne e.symm,by rw[←e];exact Ad hj⟩
 have pb:∀c,c<X.nx→PU W m c→PU W (vS m i a w v') c:=fun c hc hp=>⟨hp.1,hp.2.1,fun y hy e=>by
  rcases mem hy with⟨j,_,hj⟩ | rfl
  ·exact hp.2.2 y (Ao hj) e
  ·have:=hb c e;omega⟩
 obtain⟨bb,gp,hbb⟩:∃b,aX m.na=some b∧b<X.nx:=by
  obtain⟨b,_,_,h1,h2,_⟩:=h.row_at hi;exact⟨b,h1,h2⟩
 obtain⟨b,p,X'',k1,k2,k3,k4,k5,k6,k7⟩:=qC.fldU (E':=NdU S0 ⟨X'.h,X'.nx⟩) (a':=({a with next:=a.next++ [w]},v')) (x:=v') (q:=3) hX' hi (by decide) (fun j y e hj hne hE=>hE.move hn fun c hc=>hk c (h.row_of hj hc).1.2 (h.dj j i y _ hne hj hi c hc)) fun e hE=>by
   obtain⟨xw,xp,rfl,h1,h2,h3⟩:=hE;exact⟨xw,xp,rfl,hg,h2,h3⟩
 rw[gp] at k2;cases k2;have nb:∀c,aX m.na=some c→c=bb:=fun c hc=>by rw[gp] at hc;cases hc;rfl
 refine⟨bb,p,X'',k1,gp,hbb,k4,k6,k7,⟨?_,fun y hy c hc=>?_,fun i' j x y hij hx hy c hc hc'=>?_,h.d1,fun c hc=>⟨(h.wg c hc).1,by have:=(h.wg c hc).2;omega⟩⟩,⟨by omega,fun c hc hp=>⟨?_,pb c hc hp⟩⟩⟩
 ·rcases k5 with h0 | ⟨b',c,cs,e0,g1,g2,g3,g4,g5,g6,g7⟩
  ·exact .inl h0
  ·refine .inr ⟨b',c,cs,e0,g1,g2,g3,g4,g5,g6,fun j y hj=>?_⟩;obtain⟨e,e1,e2,e3⟩:=g7 j y hj;refine⟨e,e1,e2,e3.move (by show X'.nx≤X''.nx;omega) fun c hc=>k7 c fun e=>?_⟩;rcases mem (Ao hj) with⟨j',_,hj'⟩ | rfl
   ·exact(h.row_of hj' hc).2.2 (by rw[e];exact gp)
   ·have:=hb c hc;omega
 ·rcases mem hy with⟨j,_,hj⟩ | rfl
  ·have:=h.row_of hj hc;exact⟨⟨this.1.1,by omega⟩,this.2⟩
  ·have h1:=hg.blk hc;have h2:=hb c hc;exact⟨⟨h1.1,by omega⟩,fun e=>by have:=(h.wg c e).2;omega,fun e=>by have:=(h.nod.blk e).2;omega⟩
 ·unfold vS at hx hy;rw[Dm] at hx hy;have hlo:∀ {q:Nat} {y:bO×AV},m.l[q]? =some y→aX y.2=some c→c<X.nx:=fun hq hc=>(h.row_of hq hc).1.2;split at hx
  ·split at hy
   ·rename_i e1 e2;exact hij (e1.symm.trans e2)
   ·try rw[if_pos hil] at hx
    cases hx;have:=hb c hc;have:=hlo hy hc';omega
  ·split at hy
   ·try rw[if_pos hil] at hy
    cases hy;have:=hb c hc';have:=hlo hx hc;omega
   ·exact h.dj i' j x y hij hx hy c hc hc'
 ·rw[k7 c (fun e=>hp.2.1 (by rw[e];exact gp))];exact hk c hc fun e=>hp.2.2 _ (Ao hi) e
end
end Go.Ev.Gl
