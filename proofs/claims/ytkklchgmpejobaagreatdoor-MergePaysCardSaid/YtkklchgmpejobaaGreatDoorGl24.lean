import Derived.Test.YtkklchgmpejobaaGreatDoorGl23
open Nat renaming reduceEqDiff → rE, reduceAdd → rA
set_option maxHeartbeats 16000000
set_option linter.unusedSimpArgs false
set_option linter.unusedVariables false
namespace Go.Ev.Gl
variable {fns:T cV}
def iO(u:Nat→Nat→List bU):List Int→Nat→List Int×List bU
 | [],_=>([],[])
 | k::ks,i=>((i:Int)::(iO u ks (i+(u k.toNat i).length)).1,u k.toNat i++(iO u ks (i+(u k.toNat i).length)).2)
def qB(h:bH):Nat→Nat→Nat→List bU
 | 0,_,_=>[]
 | f+1,v,i=>{nodeAt h v with next:=(iO (qB h f) (nodeAt h v).next (i+1)).1}::(iO (qB h f) (nodeAt h v).next (i+1)).2
def aFm(h:bH):Nat→Nat→Nat
 | 0,_=>0
 | f+1,v=>1+((nodeAt h v).next.map fun c=>aFm h f c.toNat).sum
def nM(h:bH)(v:Nat):Nat:=aFm h h.nodes.length v
def jD(h:bH):bH:=⟨h.players,qB h h.nodes.length 0 0,h.infos⟩
def pQ(h:bH):Prop:=0<h.nodes.length∧eF h∧∀j,1≤j→j<h.nodes.length→∃i,i<h.nodes.length∧((j:Nat):Int)∈(nodeAt h i).next
section
variable {u:Nat→Nat→List bU}
theorem aCH:∀ {l:List Int} {i:Nat},(iO u l i).1.length=l.length
 | [],_=>rfl
 | k::ks,i=>by
  show(iO u ks _).1.length+1=ks.length+1;rw[aCH]
theorem zB{w:Nat→Nat}(hu:∀v i,(u v i).length=w v):∀ {l:List Int} {i:Nat},(iO u l i).2.length=(l.map fun c=>w c.toNat).sum
 | [],_=>rfl
 | k::ks,i=>by
  show(u k.toNat i++(iO u ks _).2).length=_;rw[Ai,zB hu,hu,Cx,List.sum_cons]
theorem aDF:∀ {l:List Int} {k:Int} {i:Nat},iO u (l++ [k]) i=((iO u l i).1++ [((i+(iO u l i).2.length:Nat):Int)],(iO u l i).2++u k.toNat (i+(iO u l i).2.length))
 | [],k,i=>by simp [iO]
 | x::l,k,i=>by
  rw[Bl]
  conv=>lhs;unfold iO
  rw[aDF]
  conv=>rhs;unfold iO
  simp [Cv]
theorem aB3{u':Nat→Nat→List bU}:∀ {l:List Int} {i:Nat},(∀k∈l,∀i,u k.toNat i=u' k.toNat i)→iO u l i=iO u' l i
 | [],_,_=>rfl
 | k::ks,i,h=>by
  unfold iO;rw[h k (by simp),aB3 fun k hk=>h k (by simp [hk])]
end
section
variable {h:bH}
theorem aCS:∀ {f v i:Nat},(qB h f v i).length=aFm h f v
 | 0,_,_=>rfl
 | f+1,v,i=>by
  show(iO (qB h f) (nodeAt h v).next (i+1)).2.length+1=1+_;rw[zB (w:=aFm h f) fun v i=>aCS];omega
theorem yR{α β:Type}{f g:α→β}{l:List α}(h:∀a∈l,f a=g a):l.map f=l.map g:=Ck h
theorem zP(hK:eF h):∀ {f f' v:Nat},v<h.nodes.length→h.nodes.length - v≤f→h.nodes.length - v≤f'→aFm h f v=aFm h f' v
 | 0,_,v,hv,h1,_=>by omega
 | f+1,0,v,hv,_,h2=>by omega
 | f+1,f'+1,v,hv,h1,h2=>by
  unfold aFm;rw[yR fun c hc=>?_];obtain⟨k1,k2⟩:=qN (hK:=hK) hv hc;exact zP hK k2 (by omega) (by omega)
theorem aDz(hK:eF h):∀ {f f' v i:Nat},v<h.nodes.length→h.nodes.length - v≤f→h.nodes.length - v≤f'→qB h f v i=qB h f' v i
 | 0,_,v,_,hv,h1,_=>by omega
 | f+1,0,v,_,hv,_,h2=>by omega
 | f+1,f'+1,v,i,hv,h1,h2=>by
  unfold qB;rw[aB3 fun c hc i=>?_];obtain⟨k1,k2⟩:=qN (hK:=hK) hv hc;exact aDz hK k2 (by omega) (by omega)
def wN(h:bH)(v j:Nat):Nat:=1+(((nodeAt h v).next.take j).map fun c=>nM h c.toNat).sum
theorem aEF{v j:Nat}(hj:j<(nodeAt h v).next.length):wN h v (j+1)=wN h v j+nM h ((nodeAt h v).next.getD j 0).toNat:=by
 unfold wN;rw[Bw,Dc,List.sum_append_nat,Ae,Ab hj];simp only[Option.toList_some,Fk,Cx,List.map_nil,List.sum_cons,List.sum_nil];omega
theorem aAb(hK:eF h){v:Nat}(hv:v<h.nodes.length):wN h v (nodeAt h v).next.length=nM h v:=by
 unfold wN nM;rw[Ch];obtain⟨n,hn⟩:∃n,h.nodes.length=n+1:=⟨h.nodes.length - 1,by omega⟩
 conv=>rhs;rw[hn];unfold aFm
 rw[yR fun c hc=>?_];obtain⟨k1,k2⟩:=qN (hK:=hK) hv hc;exact zP hK k2 (by omega) (by omega)
def sN(n:Nat):Int:=if n≤2000 then(n:Int) else 2001
theorem aMw(a:Nat):0≤sN a∧sN a≤2001:=by
 unfold sN;split<;>omega
theorem aG8:(jD h).nodes.length=nM h 0:=aCS
end
def aJs(_:St)(cs:List AV)(x:Bool):Prop:=cs= [.bool x]
def aRE(S:St)(v:AV)(l:List Bool)(z:Bool)(k:Nat)(A:bQ)(X:St):Prop:=A.inr=false∧X=S∧∃j,j+k=l.length∧z∉l.take j∧aD 0 A.F=v∧aD 1 A.F= .bool z∧aD 7 A.F= .int .i64 ((l.length:Nat):Int)∧aD 8 A.F= .int .i64 (j:Int)
theorem aN8(a b:Bool):eJ .eql (.p .bool) (.bool a) (.bool b)=some (.bool (a==b)):=by cases a<;>cases b<;>rfl
theorem aPI{S:St}{v:AV}{l:List Bool}(h:bB 1 aJs S v l){j:Nat}(hj:j<l.length):∃p,eS (.slice 1) v j=some p∧dB p false 1 S.h=some (.bool (l.getD j false)):=by
 obtain⟨e,b,p,h1,h2,h3,rfl,h5,h6⟩:=bB.at h (by decide) (Ab hj);refine⟨_,h1,?_⟩;have:=h6 0 _ rfl;rw[Ae,Ab hj];exact this
theorem aGx{S:St}{v:AV}{l:List Bool}{z:Bool}(H:Has fns)(hl:bB 1 aJs S v l)(hlen:l.length≤1000000):fR fns (.fn 71 [] []) [v,.bool z] S fun r S'=>(∃j,r= .int .i64 j∧(0≤j↔z∈l))∧S'=S:=by
 refine cE H.f71 (by simp) ?_;refine ac ?_;refine cC ?_;refine ac ?_;refine iP ?_;simp only[↓aA,aB,rE,↓reduceIte,bB.len hl,Ak];refine aN (bT (aRE S v l z) ?_ l.length _ _ ⟨rfl,rfl,0,by omega,by simp,by refine⟨?_,?_,?_,?_⟩<;>simp only[↓aA,aB,rE,↓reduceIte]⟩);rintro k ⟨F,inr⟩ X ⟨q0,hX,j,hjk,ha,p0,p1,p7,p8⟩;simp only at q0 p0 p1 p7 p8;subst q0;rw[hX];refine cC ?_;simp only[↓aA,aB,rE,↓reduceIte,p7,p8];by_cases hj:j<l.length
 ·refine aC (aR (by simp only[↓aA,aB,rE,↓reduceIte,Ad (show(j:Int)<((l.length:Nat):Int) by omega)]) (aM ?_));simp only[↓aA,aB,rE,↓reduceIte];obtain⟨p,hia,hld⟩:=aPI hl hj;have hgd:l.getD j false=l[j]:=by rw[Ae,Ab hj];rfl
  have htk:l.take (j+1)=l.take j++ [l.getD j false]:=by rw[Bw,Ab hj,hgd];rfl
  have hmem:l.getD j false∈l:=by rw[hgd];exact Br hj
  generalize l.getD j false=w at *;have w1:IntKind.i64.wrap ((j:Int)+1)=((j+1:Nat):Int):=by rw[wrap_i64 (by omega) (by omega)];omega
  refine aC (aN (aC (aG ?_)));simp only[↓aA,aB,rE,↓reduceIte,p8];refine cC ?_;simp only[↓aA,aB,rE,↓reduceIte,p0,p1,aH,hia,hld,aN8];by_cases ho:z=w
  ·refine aR (by simp only[↓aA,aB,rE,↓reduceIte,ho,BEq.rfl]) ?_;refine cC ?_;refine ac ?_;refine aU ?_;simp only[↓aA,aB,rE,↓reduceIte];exact⟨_,rfl,⟨fun _=>by rw[ho];exact hmem,fun _=>by omega⟩⟩
  ·refine aO (by simp only[↓aA,aB,rE,↓reduceIte,beq_false_of_ne ho]) (aM ?_);try simp only[↓aA,aB,rE,↓reduceIte]
   refine aG ?_;simp only[↓aA,aB,rE,↓reduceIte,p8,w1];refine⟨k - 1,by omega,rfl,rfl,j+1,by omega,?_,by refine⟨?_,?_,?_,?_⟩<;>simp only[↓aA,aB,rE,↓reduceIte,p0,p1,p7]⟩;rw[htk];intro h;rcases Bf.1 h with h | h
   ·exact ha h
   ·simp at h;exact ho h
 ·refine aC (aO (by simp only[↓aA,aB,rE,↓reduceIte,Aa (show ¬ (j:Int)<((l.length:Nat):Int) by omega)]) (bK ?_));simp only[↓aA,aB,rE,↓reduceIte];rw[Bj (by omega)] at ha;refine cC ?_;refine ac ?_;refine aU ?_;simp only[↓aA,aB,rE,↓reduceIte];exact⟨_,rfl,⟨fun h=>absurd h (by decide),fun h=>absurd h ha⟩⟩
theorem aCY{S:St}{v:AV}{l:List Bool}{z:Bool}(H:Has fns)(hl:bB 1 aJs S v l)(hlen:l.length≤1000000):fR fns (.fn 54 [] []) [v,.bool z] S fun r S'=>r= .bool (decide (z∈l))∧S'=S:=by
 refine cE H.f54 (by simp) ?_;refine ac ?_;refine cC ?_;refine ac ?_;refine cC ?_;refine ac ?_;refine aY ?_;refine ac ?_;refine aP (aGx H hl hlen) ?_;rintro _ X ⟨⟨j,rfl,hj⟩,rfl⟩;refine ac ?_;refine aU ?_;simp only[↓aA,aB,rE,↓reduceIte];by_cases h:z∈l
 ·rw[Ad h,Ad (hj.2 h)]
 ·rw[Aa h,Aa (fun e=>h (hj.1 e))]
def KdU(h:bH)(i j u:Nat):Prop:=(∃q,q<i∧((u:Nat):Int)∈(nodeAt h q).next)∨((u:Nat):Int)∈(nodeAt h i).next.take j
def OkU(h:bH)(i j:Nat):Prop:=(∀q,q<i→∀c∈(nodeAt h q).next,(q:Int)<c∧c<(h.nodes.length:Int))∧∀c∈(nodeAt h i).next.take j,(i:Int)<c∧c<(h.nodes.length:Int)
structure Blw(h:bH)(i j:Nat)(sv:List Bool):Prop where
 len:sv.length=h.nodes.length
 iff:∀u,u<h.nodes.length→(sv.getD u false=true↔KdU h i j u)
 ok:OkU h i j
section
variable {h:bH}{i j:Nat}{sv:List Bool}
theorem aDN{u:Nat}:KdU h i 0 u↔∃q,q<i∧((u:Nat):Int)∈(nodeAt h q).next:=by
 unfold KdU;simp
theorem aN0{u:Nat}:KdU h i (nodeAt h i).next.length u↔KdU h (i+1) 0 u:=by
 rw[aDN];unfold KdU;rw[Ch];constructor
 ·rintro(⟨q,h1,h2⟩ | h1)
  ·exact⟨q,by omega,h2⟩
  ·exact⟨i,by omega,h1⟩
 ·rintro⟨q,h1,h2⟩;by_cases e:q=i
  ·subst e;exact .inr h2
  ·exact .inl ⟨q,by omega,h2⟩
theorem Blw.next(b:Blw h i (nodeAt h i).next.length sv):Blw h (i+1) 0 sv:=⟨b.len,fun u hu=>(b.iff u hu).trans aN0,fun q hq=>by
 by_cases e:q=i
 ·subst e;have:=b.ok.2;rw[Ch] at this;exact this
 ·exact b.ok.1 q (by omega),fun c hc=>by simp at hc⟩
theorem aDl{l:List Int}(hj:j<l.length):l.take (j+1)=l.take j++ [l.getD j 0]:=by
 rw[Bw,Ae,Ab hj];rfl
theorem aJ2{P:List Bool}{i j:Nat}{v:Bool}(hi:i<P.length):(P.set i v).getD j false=if j=i then v else P.getD j false:=by
 rw[Ae,Ef,Ae];by_cases e:i=j
 ·rw[if_pos e,if_pos e.symm,if_pos hi];rfl
 ·rw[if_neg e,if_neg (Da e)]
theorem Blw.kid(b:Blw h i j sv)(hj:j<(nodeAt h i).next.length){w:Nat}(hw:(nodeAt h i).next.getD j 0=(w:Int))(h1:i<w)(h2:w<h.nodes.length):Blw h i (j+1) (sv.set w true):=⟨by rw[Bm];exact b.len,fun u hu=>by
 rw[aJ2 (by rw[b.len];exact h2)];unfold KdU;rw[aDl hj,hw,Bf,Cb];by_cases e:u=w
 ·rw[if_pos e,e];simp
 ·rw[if_neg e];have e2:¬ ((u:Nat):Int)=(w:Int):=by omega
  simp only[e2,or_false];exact b.iff u hu,b.ok.1,fun c hc=>by
 rw[aDl hj,hw,Bf,Cb] at hc;rcases hc with hc | rfl
 ·exact b.ok.2 c hc
 ·omega⟩
theorem tV:eF h↔∀q,q<h.nodes.length→∀c∈(nodeAt h q).next,(q:Int)<c∧c<(h.nodes.length:Int):=by
 constructor
 ·intro hK q hq c hc;obtain⟨i,hi⟩:=Er hc;have hl:=(Af.1 hi).1;obtain⟨h1,h2,h3⟩:=hK q hq i hl;have e:(nodeAt h q).next.getD i 0=c:=by rw[Ae,hi];rfl
  omega
 ·intro hA q hq i hi;have hm:(nodeAt h q).next.getD i 0∈(nodeAt h q).next:=by rw[Ae,Ab hi];exact Br hi
  have:=hA q hq _ hm;unfold jA;omega
theorem Blw.link(b:Blw h h.nodes.length 0 sv){x:Bool}{l:List Bool}(e:sv=x::l):false∉l↔pQ h:=by
 have hl:=b.len;rw[e,Am] at hl;have hg:∀u,u<l.length→(l.getD u false=true↔∃q,q<h.nodes.length∧((u+1:Nat):Int)∈(nodeAt h q).next):=fun u hu=>by
  have:=b.iff (u+1) (by omega);rw[aDN,e] at this;exact this
 constructor
 ·intro hn;refine⟨by omega,tV.2 b.ok.1,fun j h1 h2=>?_⟩;have:=(hg (j - 1) (by omega)).1 (by
   rw[Ae,Ab (by omega:j - 1<l.length)];simp only[Fk];cases hb:l[j - 1] with
   | true=>rfl
   | false=>exact absurd (hb ▸ Br (by omega)) hn)
  rwa [show j - 1+1=j by omega] at this
 ·rintro⟨_,_,h3⟩ hm;obtain⟨u,hu⟩:=Er hm;have hul:=(Af.1 hu).1;have:=(hg u hul).2 (h3 (u+1) (by omega) (by omega));rw[Ae,hu] at this;cases this
end
abbrev zI(l:List Bool):List AV:=l.map fun b=>.bool b
def LkI(h:bH)(S2:St)(nv:AV)(gb bb:Nat)(k:Nat)(A:bQ)(X:St):Prop:=A.inr=false∧bJ bb S2 X∧aD 1 A.F= .ptr gb 0∧aD 3 A.F= .sl bb 0 h.nodes.length h.nodes.length false∧aD 13 A.F=nv∧aD 14 A.F= .int .i64 ((h.nodes.length:Nat):Int)∧∃ (i:Nat) (sv:List Bool),i+k=h.nodes.length∧aD 15 A.F= .int .i64 (i:Int)∧X.h.get bb=some (.cells (zI sv) false 0)∧Blw h i 0 sv
def LkJ(h:bH)(S2:St)(nv na:AV)(gb bb i:Nat)(k:Nat)(A:bQ)(X:St):Prop:=A.inr=false∧bJ bb S2 X∧aD 1 A.F= .ptr gb 0∧aD 3 A.F= .sl bb 0 h.nodes.length h.nodes.length false∧aD 4 A.F= .int .i64 (i:Int)∧aD 13 A.F=nv∧aD 14 A.F= .int .i64 ((h.nodes.length:Nat):Int)∧aD 15 A.F= .int .i64 (i:Int)∧aD 21 A.F=na∧aD 22 A.F= .int .i64 (((nodeAt h i).next.length:Nat):Int)∧∃ (j:Nat) (sv:List Bool),j+k=(nodeAt h i).next.length∧aD 23 A.F= .int .i64 (j:Int)∧X.h.get bb=some (.cells (zI sv) false 0)∧Blw h i j sv
theorem aOJ{S:St}{b N sz:Nat}{l:List Bool}{o:Bool}(h:S.h.get b=some (.cells (zI l) o sz))(hb:b<S.nx)(hl:l.length=N):bB 1 aJs S (.sl b 0 N N false) l:=by
 refine .inr ⟨b,0,N,false,zI l,by rw[hl],by omega,hb,by unfold cL;rw[h];rfl,fun i a hi=>⟨[.bool a],rfl,fun j x hj=>?_,rfl⟩⟩;have:=(Af.1 hj).1;obtain rfl:j=0:=by simp at this;omega
 cases hj;rw[show 0+i * 1+0=i by omega,Be,hi];rfl
theorem stB{S:St}{b p:Nat}{w:Bool}{l:List Bool}{o:Bool}{sz:Nat}(h:S.h.get b=some (.cells (zI l) o sz))(hp:p<l.length):lI (.ptr b p) 1 [.bool w] S=some (.undef,⟨S.h.set b (some (.cells (zI (l.set p w)) o sz)),S.nx⟩):=by
 rw[xW h (by rw[Az];exact hp),←List.map_set]
theorem aFS{S:St}{nv iv:AV}{h:bH}(H:Has fns)(hn:bB 6 dJ S nv h.nodes)(hN:h.nodes.length≤100000)(hB:∀i,i<h.nodes.length→(nodeAt h i).next.length≤140737488355328):fR fns (.fn 35 [] []) [.agg [.int .i64 h.players,nv,iv]] S fun r X=>(∃b,r= .bool b∧(b=true↔pQ h))∧Same S X:=by
 refine cE H.f35 (by simp) ?_;refine ah ?_;refine cC ?_;refine eH (by simp only[↓aA,aB,rE,↓reduceIte];exact bM _) ?_;intro S1 s1 n1 c1;simp only[↓aA,aB,rE,↓reduceIte];have hnl:=bB.len hn;refine cC ?_;simp only[↓aA,aB,rE,↓reduceIte,aE,aF,fL c1,bB.self hn,hnl];refine fX (pO (n:=h.nodes.length) (by simp only[↓aA,aB,rE,↓reduceIte,aH]) (by simp only[↓aA,aB,rE,↓reduceIte,aH]) (by unfold room;omega) (by unfold room;omega)) ?_;intro S2 s2 n2 c2;have ez:repeatL [AV.bool false] h.nodes.length=zI (List.replicate h.nodes.length false):=by rw[repeatL_one];simp
 rw[ez] at c2;try simp only[↓aA,aB,rE,↓reduceIte]
 have c1':=(s2.2 _ (show S.nx<S1.nx by omega)).trans c1;have s12:=s1.trans s2;refine aC (bD (Q:=fun o A' X=>(o= .normal∧LkI h S2 nv S.nx S1.nx 0 A' X)∨(o= .ret∧Same S X∧¬pQ h∧aD 2 A'.F= .bool false)) (aC (aG ?_)) ?_)
 ·simp only[↓aA,aB,rE,↓reduceIte,aE,aF,fL c1',bB.self hn,hnl];refine aN (bT (LkI h S2 nv S.nx S1.nx) ?_ h.nodes.length _ _ ⟨rfl,bJ.refl _ _,ae,ae,ae,ae,0,_,by omega,ae,c2,Bg ..,fun u hu=>?_,fun q hq=>by omega,fun c hc=>by simp at hc⟩);rotate_left
  ·rw[aDN];rw[Ae,De,if_pos hu];constructor
   ·intro e;cases e
   ·rintro⟨q,hq,_⟩;omega
  rintro k ⟨F,inr⟩ X ⟨q0,hX,p1,p3,p13,p14,i,sv,hik,p15,gB,hb⟩;simp only at q0 p1 p3 p13 p14 p15;subst q0;refine cC ?_;simp only[↓aA,aB,rE,↓reduceIte,p14,p15,zV];by_cases hlt:i<h.nodes.length;rotate_left
  ·refine aC (aO (by simp only[↓aA,aB,rE,↓reduceIte,Aa hlt]) (bK ?_));obtain rfl:k=0:=by omega
   exact .inl ⟨rfl,rfl,hX,ag p1,ag p3,ag p13,ag p14,i,sv,hik,ag p15,gB,hb⟩
  refine aC (aR (by simp only[↓aA,aB,rE,↓reduceIte,Ad hlt]) (aM ?_));try simp only[↓aA,aB,rE,↓reduceIte]
  have sX:=bJ.same s12 hX (by omega);obtain⟨e,b,p,i1,i2,i3,⟨na,nb,nc,rfl,x1,x2,x3⟩,i5,i6⟩:=bB.at hn (by omega) (dI hlt);have l3:=(sI sX i2).trans i5;have hnx:=hB i hlt;refine aC (aN (aC (aG ?_)));simp only[↓aA,aB,rE,↓reduceIte,p13,p15,aH,i1,l3];refine cR ?_;intro X1 t1 m1 d1;refine ac ?_;refine fC (b:=X.nx) (ae) (by simp only[↓aA,aB,rE,↓reduceIte];exact bM _) d1 rfl rfl ?_;intro X2 t2 m2 d2;simp only[↓aA,aB,rE,↓reduceIte];have sXX:Same X X2:=t2.same t1 (Ag _);have hX2:bJ S1.nx S2 X2:=⟨Ap hX.1 sXX.1,fun c hc hne=>(sXX.2 c (Ah hc hX.1)).trans (hX.2 c hc hne)⟩;have gB2:=(sXX.2 _ (show S1.nx<X.nx by have:=hX.1;omega)).trans gB;have xa:=cD.self x1;refine cC ?_;simp only[↓aA,aB,rE,↓reduceIte,aE,aF,gE d2,xa,x1.len,Ak];refine bD (Q:=fun o A' Y=>(o= .normal∧LkJ h S2 nv na S.nx S1.nx i 0 A' Y)∨(o= .ret∧Same S Y∧¬pQ h∧aD 2 A'.F= .bool false)) (aN (bT (LkJ h S2 nv na S.nx S1.nx i) ?_ (nodeAt h i).next.length _ _ ⟨rfl,hX2,ag p1,ag p3,ae,ag p13,ag p14,ag p15,ae,ae,0,sv,by omega,ae,gB2,hb⟩)) ?_
  ·clear p1 p3 p13 p14 p15 gB gB2 hb hX hX2 d2 d1 t1 t2 sX l3 sXX;rintro k ⟨F,inr⟩ Y ⟨q0,hY,p1,p3,p4,p13,p14,p15,p21,p22,j,sv,hjk,p23,gB,hb⟩;simp only at q0 p1 p3 p4 p13 p14 p15 p21 p22 p23;subst q0;refine cC ?_;simp only[↓aA,aB,rE,↓reduceIte,p22,p23,zV];by_cases hj:j<(nodeAt h i).next.length;rotate_left
   ·refine aC (aO (by simp only[↓aA,aB,rE,↓reduceIte,Aa hj]) (bK ?_));obtain rfl:k=0:=by omega
    exact .inl ⟨rfl,rfl,hY,ag p1,ag p3,ag p4,ag p13,ag p14,ag p15,ag p21,ag p22,j,sv,hjk,ag p23,gB,hb⟩
   refine aC (aR (by simp only[↓aA,aB,rE,↓reduceIte,Ad hj]) (aM ?_));try simp only[↓aA,aB,rE,↓reduceIte]
   have sY:=bJ.same s12 hY (by omega);have gY:=(hY.2 _ (show S.nx<S2.nx by omega) (by omega)).trans c1';have iaj:=x1.iaddr hj;have laj:=(x1.same sY).ld hj;have sn:=bB.self hn;have hm:(nodeAt h i).next.getD j 0∈(nodeAt h i).next:=by rw[Ae,Ab hj];exact Br hj
   obtain⟨c,hc⟩:∃c,c=(nodeAt h i).next.getD j 0:=⟨_,rfl⟩;rw[←hc] at laj hm;refine aC (aN (aC (aG ?_)));simp only[↓aA,aB,rE,↓reduceIte,p21,p23,aH,iaj,laj];refine aC (bD (Q:=fun o A' Z=>(o= .normal∧A'.inr=false∧Z=Y∧i<c.toNat∧c.toNat<h.nodes.length∧c=((c.toNat:Nat):Int)∧aD 1 A'.F= .ptr S.nx 0∧aD 3 A'.F= .sl S1.nx 0 h.nodes.length h.nodes.length false∧aD 4 A'.F= .int .i64 (i:Int)∧aD 7 A'.F= .int .i64 c∧aD 13 A'.F=nv∧aD 14 A'.F= .int .i64 ((h.nodes.length:Nat):Int)∧aD 15 A'.F= .int .i64 (i:Int)∧aD 21 A'.F=na∧aD 22 A'.F= .int .i64 (((nodeAt h i).next.length:Nat):Int)∧aD 23 A'.F= .int .i64 (j:Int))∨(o= .ret∧Z=Y∧¬pQ h∧aD 2 A'.F= .bool false)) (aC (aG ?_)) ?_)
   ·by_cases hlo:c≤(i:Int)
    ·simp only[↓aA,aB,rE,↓reduceIte,p4,Ad hlo,Bp];refine aR (ae) (aC (aG ?_));refine ac ?_;refine aU ?_;refine .inr ⟨rfl,rfl,fun hl=>?_,ae⟩;have:=tV.1 hl.2.1 i hlt c hm;omega
    ·simp only[↓aA,aB,rE,↓reduceIte,p1,p4,Aa hlo,aE,aF,fL gY,sn,hnl];by_cases hhi:((h.nodes.length:Nat):Int)≤c
     ·refine aR (by simp only[↓aA,aB,rE,↓reduceIte,Ad hhi]) (aC (aG ?_));refine ac ?_;refine aU ?_;refine .inr ⟨rfl,rfl,fun hl=>?_,ae⟩;have:=tV.1 hl.2.1 i hlt c hm;omega
     ·refine aO (by simp only[↓aA,aB,rE,↓reduceIte,Aa hhi]) (aM ?_);exact .inl ⟨rfl,rfl,rfl,by omega,by omega,by omega,by refine⟨?_,?_,?_,?_,?_,?_,?_,?_,?_,?_⟩<;>simp only[↓aA,aB,rE,↓reduceIte,p1,p3,p4,p13,p14,p15,p21,p22,p23]⟩
   clear p1 p3 p4 p13 p14 p15 p21 p22 p23;rintro o ⟨F,inr⟩ Z (⟨rfl,q0,rfl,c1,c2,c3,p1,p3,p4,p7,p13,p14,p15,p21,p22,p23⟩ | ⟨rfl,rfl,hl,p2⟩);rotate_left
   ·simp only at p2;try simp only[↓aA,aB,rE,↓reduceIte]
    exact .inr ⟨sY,hl,p2⟩
   simp only at q0 p1 p3 p4 p7 p13 p14 p15 p21 p22 p23;subst q0;have ia:=iN (b:=S1.nx) (o:=false) c2;rw[c3] at p7;try simp only[↓aA,aB,rE,↓reduceIte]
   refine aG ?_;simp only[↓aA,aB,rE,↓reduceIte,p3,p7,aH,ia];refine eR (fun call=>by simp only[↓aA,aB,rE,↓reduceIte,dD];exact stB (w:=true) (S:=Z) gB (by rw[hb.len];exact c2)) ?_;refine ac ?_;refine aG ?_;simp only[↓aA,aB,rE,↓reduceIte,p23,fA (a:=j) (by omega)];exact⟨k - 1,by omega,rfl,hY.put _,ag p1,ag p3,ag p4,ag p13,ag p14,ag p15,ag p21,ag p22,j+1,_,by omega,ae,by simp only;rw[T.get_set,if_pos rfl],hb.kid hj (hc.symm.trans c3) c1 c2⟩
  clear p1 p3 p13 p14 p15 gB gB2 hb hX hX2;rintro o ⟨F,inr⟩ Y (⟨rfl,q0,hY,p1,p3,p4,p13,p14,p15,p21,p22,j,sv,hjk,p23,gB,hb⟩ | ⟨rfl,sY,hl,p2⟩);rotate_left
  ·simp only at p2;try simp only[↓aA,aB,rE,↓reduceIte]
   exact .inr ⟨sY,hl,p2⟩
  simp only at q0 p1 p3 p13 p14 p15;subst q0;obtain rfl:j=(nodeAt h i).next.length:=by omega
  try simp only[↓aA,aB,rE,↓reduceIte]
  refine aG ?_;simp only[↓aA,aB,rE,↓reduceIte,p15,fA (a:=i) (by omega)];exact⟨k - 1,by omega,rfl,hY,ag p1,ag p3,ag p13,ag p14,i+1,sv,by omega,ae,gB,hb.next⟩
 rintro o ⟨F,inr⟩ X (⟨rfl,q0,hX,p1,p3,p13,p14,i,sv,hik,p15,gB,hb⟩ | ⟨rfl,sX,hl,p2⟩);rotate_left
 ·simp only at p2;simp only[↓aA,aB,rE,↓reduceIte,p2];exact⟨⟨false,rfl,(fun e=>by cases e),fun e=>absurd e hl⟩,sX⟩
 simp only at q0 p1 p3;subst q0;obtain rfl:i=h.nodes.length:=by omega
 have sX:=bJ.same s12 hX (by omega);have iB:=aOJ gB (by have:=hX.1;omega) hb.len;have hlB:lH (.sl S1.nx 0 h.nodes.length h.nodes.length false)=some (.int .i64 ((h.nodes.length:Nat):Int)):=rfl;try simp only[↓aA,aB,rE,↓reduceIte]
 refine cC ?_;by_cases h0:0<h.nodes.length;rotate_left
 ·simp only[↓aA,aB,rE,↓reduceIte,p3,hlB,Aa (show ¬ (0:Int)<((h.nodes.length:Nat):Int) by omega)];refine aU ?_;simp only[↓aA,aB,rE,↓reduceIte];exact⟨⟨false,rfl,(fun e=>by cases e),fun e=>absurd e.1 h0⟩,sX⟩
 obtain⟨x,l,el⟩:∃x l,sv=x::l:=by
  cases sv with
  | nil=>have:=hb.len;simp at this;omega
  | cons x l=>exact⟨x,l,rfl⟩
 rw[el] at iB;obtain⟨v',e1,iT⟩:=bB.tail iB;have e2:∀F,qX (.slice 1) (.sl S1.nx 0 h.nodes.length h.nodes.length false) (some (.c (.int .i64 1))) none none F=some v':=fun F=>e1 F _ rfl;have hlen:l.length≤1000000:=by
  have:=hb.len;rw[el,Am] at this;omega
 simp only[↓aA,aB,rE,↓reduceIte,p3,hlB,Ad (show(0:Int)<((h.nodes.length:Nat):Int) by omega),e2];refine aY ?_;refine ac ?_;refine aP (aCY H iT hlen) ?_;rintro _ Y ⟨rfl,rfl⟩;simp only[↓aA,aB,rE,↓reduceIte,fQ];refine aU ?_;simp only[↓aA,aB,rE,↓reduceIte];exact⟨⟨_,rfl,by rw[←hb.link el];simp⟩,sX⟩
def mnU(a b:Int):Int:=if a≤b then a else b
theorem aOt(a b:Int):kR false [.int .i64 a,.int .i64 b]=some (.int .i64 (mnU a b)):=by
 show bN (keq .i64 .i64) (jO false [] (.int .i64 (bN false (bN (ile b a) a b) (bN (ile a b) a b)))) none=_;rw[eQ,aL,aQ,oR];show some _=_;unfold mnU;by_cases h:a≤b
 ·rw[if_pos h,Ad h,aL]
 ·rw[if_neg h,Aa h,aQ]
theorem aPi(l:List cK)(F:Fr)(h:T AB):iI (.minmax false l) F h=kR false (cW l F):=rfl
theorem aJP(l:List cK):dC (.minmax false l)=false:=rfl
theorem aPX{a b:Nat}:mnU (sN a+sN b) 2001=sN (a+b):=by
 unfold mnU sN;split<;>split<;>split<;>split<;>omega
noncomputable def szC:List AO:=[mt 33 3,
mt 34 4,
mt 35 3,
mt 36 4,
om 37 12 (.iaddr (.slice 1) (.t 35) (.t 36)),
om 38 28 (ld 37),
mt 39 3,
mt 40 6,
om 41 192 (.iaddr (.slice 1) (.t 39) (.t 40)),
om 42 448 (ld 41),
om 43 1020 (bi .add (.t 38) (.t 42)),
om 44 2044 (.minmax false [(.t 43),(ci 2001)]),
om 45 4095 (.iaddr (.slice 1) (.t 33) (.t 34))]
def aQd(h:bH)(S2:St)(gb sb:Nat)(k:Nat)(A:bQ)(X:St):Prop:=A.inr=false∧bJ sb S2 X∧aD 1 A.F= .ptr gb 0∧aD 3 A.F= .sl sb 0 h.nodes.length h.nodes.length false∧aD 4 A.F= .int .i64 ((k:Int) - 1)∧k≤h.nodes.length∧∃M:List Int,M.length=h.nodes.length∧(∀q,k≤q→q<h.nodes.length→M.getD q 0=sN (nM h q))∧X.h.get sb=some (.cells (bG M) false 0)
def aQM(h:bH)(S2:St)(na:AV)(gb sb a:Nat)(k:Nat)(A:bQ)(X:St):Prop:=A.inr=false∧bJ sb S2 X∧aD 1 A.F= .ptr gb 0∧aD 3 A.F= .sl sb 0 h.nodes.length h.nodes.length false∧aD 4 A.F= .int .i64 (a:Int)∧aD 27 A.F=na∧aD 28 A.F= .int .i64 (((nodeAt h a).next.length:Nat):Int)∧∃ (j:Nat) (M:List Int),j+k=(nodeAt h a).next.length∧aD 29 A.F= .int .i64 (j:Int)∧M.length=h.nodes.length∧(∀q,a<q→q<h.nodes.length→M.getD q 0=sN (nM h q))∧M.getD a 0=sN (wN h a j)∧X.h.get sb=some (.cells (bG M) false 0)
theorem aHY{S:St}{nv iv:AV}{h:bH}(H:Has fns)(hL:pQ h)(hn:bB 6 dJ S nv h.nodes)(hN:h.nodes.length≤100000)(hB:∀i,i<h.nodes.length→(nodeAt h i).next.length≤140737488355328):fR fns (.fn 36 [] []) [.agg [.int .i64 h.players,nv,iv]] S fun r X=>r= .int .i64 (sN (nM h 0))∧Same S X:=by
 have hK:=hL.2.1;have h0:=hL.1;have hnl:=bB.len hn;have sn:=bB.self hn;refine cE H.f36 (by simp) ?_;refine ah ?_;refine cC ?_;refine eH (by simp only[↓aA,aB,rE,↓reduceIte];exact bM _) ?_;intro S1 s1 n1 c1;refine ac ?_;refine cC ?_;simp only[↓aA,aB,rE,↓reduceIte,aE,aF,fL c1,sn,hnl];refine fX (pO (n:=h.nodes.length) (by simp only[↓aA,aB,rE,↓reduceIte,aH]) (by simp only[↓aA,aB,rE,↓reduceIte,aH]) (by unfold room;omega) (by unfold room;omega)) ?_;intro S2 s2 n2 c2;rw[xP] at c2;try simp only[↓aA,aB,rE,↓reduceIte]
 have c1':=(s2.2 _ (show S.nx<S1.nx by omega)).trans c1;have s12:=s1.trans s2;refine aC (bD (Q:=fun o A' X=>o= .normal∧aQd h S2 S.nx S1.nx 0 A' X) (aC (aG ?_)) ?_)
 ·have w0:IntKind.i64.wrap (((h.nodes.length:Nat):Int) - 1)=((h.nodes.length:Nat):Int) - 1:=wrap_i64 (by omega) (by omega);simp only[↓aA,aB,rE,↓reduceIte,aE,aF,fL c1',sn,hnl,w0];refine aN (bT (aQd h S2 S.nx S1.nx) ?_ h.nodes.length _ _ ⟨rfl,bJ.refl _ _,ae,ae,ae,Ag _,_,Bg ..,fun q h1 h2=>by omega,c2⟩);rintro k ⟨F,inr⟩ X ⟨q0,hX,p1,p3,p4,hk,M,hl,hM,hc⟩;simp only at q0 p1 p3 p4;subst q0;refine iP ?_;simp only[↓aA,aB,rE,↓reduceIte,p4];by_cases hk0:k=0
  ·subst hk0;refine aO (by simp only[↓aA,aB,rE,↓reduceIte];exact Dh _ (Aa (by omega))) (bK ?_);exact⟨rfl,rfl,hX,ag p1,ag p3,ag p4,hk,M,hl,hM,hc⟩
  obtain⟨a,rfl⟩:∃a,k=a+1:=⟨k - 1,by omega⟩;have e4:(((a+1:Nat):Int) - 1)=(a:Int):=by omega
  rw[e4] at p4 ⊢;refine aR (by simp only[↓aA,aB,rE,↓reduceIte,Ad (show(0:Int)≤(a:Int) by omega)]) (aM ?_);try simp only[↓aA,aB,rE,↓reduceIte]
  have hal:a<h.nodes.length:=by omega
  have gX:=(hX.2 _ (show S.nx<S2.nx by omega) (by omega)).trans c1';have sX:=hX.same s12 (by omega);obtain⟨e,b,p,i1,i2,i3,⟨na,nb,nc,rfl,x1,x2,x3⟩,i5,i6⟩:=bB.at hn (by omega) (dI hal);have ira:=iN (b:=S1.nx) (o:=false) hal;have hnx:=hB a hal;refine aC (bD (Q:=fun o A' Y=>o= .normal∧aQM h S2 na S.nx S1.nx a 0 A' Y) (aN (aC (aG ?_))) ?_)
  ·simp only[↓aA,aB,rE,↓reduceIte,p3,p4,aH,ira];refine eR (fun call=>by simp only[↓aA,aB,rE,↓reduceIte,dD,cQ];exact aCg (S:=X) hc (show a<M.length by omega)) ?_;simp only[↓aA,aB,rE,↓reduceIte];obtain⟨X1,hX1⟩:∃X1:St,X1=⟨X.h.set S1.nx (some (.cells (bG (M.set a 1)) false 0)),X.nx⟩:=⟨_,rfl⟩;rw[←hX1];have hc1:X1.h.get S1.nx=some (.cells (bG (M.set a 1)) false 0):=by rw[hX1];simp only;rw[T.get_set,if_pos rfl]
   have hS1:bJ S1.nx S2 X1:=by rw[hX1];exact hX.put _
   clear hX1;have gX1:=(hS1.2 _ (show S.nx<S2.nx by omega) (by omega)).trans c1';have l3:dB (.ptr b (p+3)) false 1 X1.h=some na:=(sI (hS1.same s12 (by omega)) i2).trans (i6 3 na rfl);refine cC ?_;simp only[↓aA,aB,rE,↓reduceIte,aE,aF,p1,p4,fL gX1,sn,aH,i1,l3,cD.self x1,x1.len,Ak];refine aN (bT (aQM h S2 na S.nx S1.nx a) ?_ (nodeAt h a).next.length _ _ ⟨rfl,hS1,ag p1,ag p3,ag p4,ae,ae,0,_,by omega,ae,by rw[Bm];exact hl,fun q h1 h2=>?_,?_,hc1⟩);rotate_left
   ·rw[fH (by omega),if_neg (by omega)];exact hM q (by omega) h2
   ·rw[fH (by omega),if_pos rfl];rfl
   clear hX p1 p3 p4 hM hc hl hc1 hS1 gX1 l3 gX;rintro k ⟨F,inr⟩ Y ⟨q0,hY,p1,p3,p4,p27,p28,j,M,hjk,p29,hl,hM,hP,hc⟩;simp only at q0 p1 p3 p4 p27 p28 p29;subst q0;refine cC ?_;simp only[↓aA,aB,rE,↓reduceIte,p28,p29,zV];by_cases hj:j<(nodeAt h a).next.length;rotate_left
   ·refine aC (aO (by simp only[↓aA,aB,rE,↓reduceIte,Aa hj]) (bK ?_));obtain rfl:k=0:=by omega
    exact⟨rfl,rfl,hY,ag p1,ag p3,ag p4,ag p27,ag p28,j,M,hjk,ag p29,hl,hM,hP,hc⟩
   refine aC (aR (by simp only[↓aA,aB,rE,↓reduceIte,Ad hj]) (aM ?_));try simp only[↓aA,aB,rE,↓reduceIte]
   obtain⟨k1,k2,k3⟩:=hK a hal j hj;have sY:=hY.same s12 (by omega);have iaj:=x1.iaddr hj;have laj:=(x1.same sY).ld hj;have hps:=aEF (h:=h) hj;rw[k3] at laj hps;rw[Cj] at hps;have irc:=iN (b:=S1.nx) (o:=false) k2;have lra:=aD8 hc (show a<M.length by omega);have lrc:=aD8 hc (show jA h a j<M.length by omega);rw[hP] at lra;rw[hM _ k1 k2] at lrc;have b1:=aMw (wN h a j);have b2:=aMw (nM h (jA h a j));have w1:IntKind.i64.wrap (sN (wN h a j)+sN (nM h (jA h a j)))=sN (wN h a j)+sN (nM h (jA h a j)):=wrap_i64 (by omega) (by omega);refine aC (aN (aC (aG ?_)));simp only[↓aA,aB,rE,↓reduceIte,p27,p29,aH,iaj,laj];refine qQ (pre:=szC) (K:=13) (m:=8191) (n:=1) (x:=.t 45) (v:=.t 44) rfl rfl rfl rfl ?_;unfold szC;simp only[↓sU,sD,rE,↓reduceIte,rA,p3,p4,aH,ira,irc,lra,lrc,w1,aPi,aJP,jB,nR,aOt,aPX];simp only[cQ,aK];rw[←hps];refine⟨_,aCg (S:=⟨Y.h,Y.nx+14⟩) hc (by omega),?_⟩;refine aG ?_;simp only[↓sU,sD,rE,↓reduceIte,rA,p29,fA (a:=j) (by omega)];refine⟨k - 1,by omega,rfl,(hY.nx 14).put _,au p1,au p3,au p4,au p27,au p28,j+1,M.set a (sN (wN h a (j+1))),by omega,aq,by rw[Bm];exact hl,fun q h1 h2=>?_,?_,by simp only;rw[T.get_set,if_pos rfl]⟩
   ·rw[fH (by omega),if_neg (by omega)];exact hM q h1 h2
   ·rw[fH (by omega),if_pos rfl]
  clear hX p1 p3 p4 hM hc hl M;rintro o ⟨F,inr⟩ Y ⟨rfl,q0,hY,p1,p3,p4,p27,p28,j,M,hjk,p29,hl,hM,hP,hc⟩;simp only at q0 p1 p3 p4;subst q0;obtain rfl:j=(nodeAt h a).next.length:=by omega
  rw[aAb hK hal] at hP;have w2:IntKind.i64.wrap ((a:Int) - 1)=(a:Int) - 1:=wrap_i64 (by omega) (by omega);try simp only[↓aA,aB,rE,↓reduceIte]
  refine aG ?_;simp only[↓aA,aB,rE,↓reduceIte,p4,w2];refine⟨a,by omega,rfl,hY,ag p1,ag p3,ae,by omega,M,hl,fun q h1 h2=>?_,hc⟩;by_cases e:q=a
  ·rw[e];exact hP
  ·exact hM q (by omega) h2
 rintro o ⟨F,inr⟩ X ⟨rfl,q0,hX,p1,p3,p4,hk,M,hl,hM,hc⟩;simp only at q0 p3;subst q0;have ir:=iN (b:=S1.nx) (o:=false) h0;have lr:=aD8 hc (show 0<M.length by omega);rw[hM 0 (Ag _) h0] at lr;have nz:fB (.int .i64 0)=some 0:=rfl;try simp only[↓aA,aB,rE,↓reduceIte]
 refine cC ?_;simp only[↓aA,aB,rE,↓reduceIte,p3,nz,ir,lr];refine aU ?_;simp only[↓aA,aB,rE,↓reduceIte];exact hX.same s12 (by omega)
section
variable {α:Type}{k:Nat}{E E':List AV→α→Prop}{S0 X:St}{v:AV}{l:List α}
theorem kH.fldU(h:kH k E S0 X v l){i q:Nat}{a a':α}{x:AV}(hi:l[i]? =some a)(hq:q<k)(h1:∀ (j:Nat) (b:α) (e:List AV),l[j]? =some b→j≠i→E e b→E' e b)(h2:∀e,E e a→E' (e.set q x) a'):
  ∃b p X',eS (.slice k) v i=some (.ptr b p)∧aT v=some b∧b<X.nx∧lI (.ptr b (p+q)) 1 [x] X=some (.undef,X')∧kH k E' S0 X' v (l.set i a')∧X'.nx=X.nx∧∀c,c≠b→X'.h.get c=X.h.get c:=by
 have hil:=(Af.1 hi).1;rcases h with⟨rfl,rfl⟩ | ⟨b,c,cs,rfl,g1,g2,g3,g4,g5,g6,g7⟩
 ·cases hi
 ·have hp:i * k+q+ [x].length≤cs.length:=by
   have:=oI hil hq;have:=Cm k g1;rw[g2];simp only[An];omega
  refine⟨b,0+i * k,⟨X.h.set b (some (.cells (cs.take (i * k+q)++ [x]++cs.drop (i * k+q+ [x].length)) true k)),X.nx⟩,?_,rfl,g4,?_,.inr ⟨b,c,cs.take (i * k+q)++ [x]++cs.drop (i * k+q+ [x].length),by rw[Bm],by rw[Bm];exact g1,by simp only[An] at hp;simp;omega,g3,g4,by simp only;rw[T.get_set,if_pos rfl],g6,fun j a0 hj=>?_⟩,rfl,fun c' hne=>by simp only;rw[T.get_set,if_neg hne]⟩
  ·show bN (Nat.blt i l.length) _ _=_;rw[show Nat.blt i l.length=true from Aj hil,aL]
  ·rw[Ao];exact aMj g5 hp rfl
  ·rw[Ef] at hj;split at hj
   ·rename_i e0;subst e0;try rw[if_pos hil] at hj
    cases hj;obtain⟨e,e1,e2,e3⟩:=g7 i a hi;refine⟨e.set q x,by rw[Bm,e1],fun r y hr=>?_,h2 e e3⟩;have hrk:r<k:=by
     have:=(Af.1 hr).1;rw[Bm,e1] at this;exact this
    rw[Ef] at hr;rw[sQ hp];split at hr
    ·rename_i e0;subst e0;try rw[if_pos (show q<e.length by omega)] at hr
     cases hr;rw[if_neg (by omega),if_pos (by simp),Cu];rfl
    ·rename_i hne;have h3:=e2 r y hr;by_cases hlt:r<q
     ·rw[if_pos (by omega)];exact h3
     ·rw[if_neg (by omega),if_neg (by simp only[An];omega)];exact h3
   ·rename_i hne;obtain⟨e,e1,e2,e3⟩:=g7 j a0 hj;refine⟨e,e1,fun r y hr=>?_,h1 j a0 e hj (fun e=>hne e.symm) e3⟩;have hrk:r<k:=by rw[←e1];exact(Af.1 hr).1
    have h3:=e2 r y hr;rw[sQ hp];rcases Nat.lt_or_gt_of_ne hne with h4 | h4
    ·have:=oI h4 hq;have:(i+1) * k≤j * k:=Cm k h4;rw[Dx,Fm] at this;rw[if_neg (by omega),if_neg (by simp only[An];omega)];exact h3
    ·have:(j+1) * k≤i * k:=Cm k h4;rw[Dx,Fm] at this;rw[if_pos (by omega)];exact h3
end
structure UyS where
 na:AV
 l:List (bU×AV)
def PU(W:Nat→Prop)(m:UyS)(c:Nat):Prop:=¬W c∧aT m.na≠some c∧∀a∈m.l,aT a.2≠some c
def NdU(S0 X:St)(e:List AV)(a:bU×AV):Prop:=∃xw xp,e= [.int .i64 a.1.kind,.int .i64 a.1.player,.int .i64 a.1.info,a.2,xw,xp]∧gQ 1 S0 X a.2 a.1.next.length (bG a.1.next)∧cD .i64 S0 xw a.1.weights∧cD .i64 S0 xp a.1.pay
theorem NdU.move{S0 X X':St}{e:List AV}{a:bU×AV}(h:NdU S0 X e a)(hn:X.nx≤X'.nx)(hr:∀c,aT a.2=some c→X'.h.get c=X.h.get c):NdU S0 X' e a:=by
 obtain⟨xw,xp,rfl,h1,h2,h3⟩:=h;exact⟨xw,xp,rfl,h1.move hn hr,h2,h3⟩
structure xD(W:Nat→Prop)(S0 X:St)(m:UyS):Prop where
 nod:kH 6 (NdU S0 X) S0 X m.na m.l
 rn:∀a∈m.l,∀c,aT a.2=some c→(S0.nx≤c∧c<X.nx)∧¬W c∧aT m.na≠some c
 dj:∀ (i j:Nat) (a b:bU×AV),i≠j→m.l[i]? =some a→m.l[j]? =some b→∀c,aT a.2=some c→aT b.2≠some c
 d1:∀c,aT m.na=some c→¬W c
 wg:∀c,W c→S0.nx≤c∧c<X.nx
def nG(W:Nat→Prop)(m:UyS)(X:St)(m':UyS)(X':St):Prop:=X.nx≤X'.nx∧∀c,c<X.nx→PU W m c→X'.h.get c=X.h.get c∧PU W m' c
section
variable {W:Nat→Prop}{S0 X X':St}{m m' m'':UyS}
theorem nG.refl:nG W m X m X:=⟨Ag _,fun _ _ h=>⟨rfl,h⟩⟩
theorem nG.trans{X'':St}(h:nG W m X m' X')(h':nG W m' X' m'' X''):nG W m X m'' X'':=
 ⟨Ap h.1 h'.1,fun c hc hp=>by
  obtain⟨a,b⟩:=h.2 c hc hp;obtain⟨a',b'⟩:=h'.2 c (Ah hc h.1) b;exact⟨a'.trans a,b'⟩⟩
theorem nG.off(hn:X.nx≤X'.nx)(hk:∀c,c<X.nx→PU W m c→X'.h.get c=X.h.get c):nG W m X m X':=⟨hn,fun c hc h=>⟨hk c hc h,h⟩⟩
theorem nG.same(h:Same X X'):nG W m X m X':=.off h.1 fun c hc _=>h.2 c hc
theorem xD.row_of(h:xD W S0 X m){j:Nat}{a:bU×AV}(hj:m.l[j]? =some a){c:Nat}(hc:aT a.2=some c):(S0.nx≤c∧c<X.nx)∧¬W c∧aT m.na≠some c:=h.rn a (Aq hj) c hc
theorem xD.low(h:xD W S0 X m){c:Nat}(hc:c<S0.nx):PU W m c:=
 ⟨fun e=>by have:=(h.wg c e).1;omega,fun e=>by have:=(h.nod.blk e).1;omega,fun a ha e=>by have:=(h.rn a ha c e).1;omega⟩
theorem xD.same0(h:xD W S0 X m)(K:nG W m X m' X')(hS:Same S0 X):Same S0 X':=
 ⟨Ap hS.1 K.1,fun c hc=>((K.2 c (Ah hc hS.1) (h.low hc)).1).trans (hS.2 c hc)⟩
theorem xD.local(h:xD W S0 X m)(hn:X.nx≤X'.nx)(hk:∀c,c<X.nx→¬W c→¬PU W m c→X'.h.get c=X.h.get c):xD W S0 X' m where
 nod:=by
  rcases h.nod with h0 | ⟨b,c,cs,e0,g1,g2,g3,g4,g5,g6,g7⟩
  ·exact .inl h0
  ·have hb:aT m.na=some b:=by rw[e0];rfl
   refine .inr ⟨b,c,cs,e0,g1,g2,g3,Ah g4 hn,(hk b g4 (h.d1 b hb) fun hp=>absurd hb hp.2.1).trans g5,g6,fun i a hi=>?_⟩;obtain⟨e,e1,e2,e3⟩:=g7 i a hi;exact⟨e,e1,e2,e3.move hn fun c hc=>hk c (h.row_of hi hc).1.2 (h.row_of hi hc).2.1 fun hp=>absurd hc (hp.2.2 a (Aq hi))⟩
 rn:=fun a ha c hc=>⟨⟨(h.rn a ha c hc).1.1,Ah (h.rn a ha c hc).1.2 hn⟩,(h.rn a ha c hc).2⟩
 dj:=h.dj
 d1:=h.d1
 wg:=fun c hc=>⟨(h.wg c hc).1,Ah (h.wg c hc).2 hn⟩
theorem xD.same(h:xD W S0 X m)(hs:Same X X'):xD W S0 X' m:=h.local hs.1 fun c hc _ _=>hs.2 c hc
theorem xD.pushN(h:xD W S0 X m){v':AV}{a:bU}(hn:X.nx≤X'.nx)(hk:∀c,c<X.nx→aT m.na≠some c→X'.h.get c=X.h.get c)(hb:∀c,aT v'=some c→aT m.na=some c∨X.nx≤c)(ha:kH 6 (NdU S0 X) S0 X' v' (m.l++ [(a,.nilsl)])):xD W S0 X' ⟨v',m.l++ [(a,.nilsl)]⟩∧nG W m X ⟨v',m.l++ [(a,.nilsl)]⟩ X':=by
 have mem:∀ {y c},y∈m.l++ [((a,.nilsl):bU×AV)]→aT y.2=some c→y∈m.l:=fun hy hc=>by
  rcases Bf.1 hy with h1 | h1
  ·exact h1
  ·rw[Cb.1 h1] at hc;cases hc
 have K:nG W m X ⟨v',m.l++ [(a,.nilsl)]⟩ X':=⟨hn,fun c hc hp=>⟨hk c hc hp.2.1,hp.1,fun e=>(hb c e).elim (fun h1=>hp.2.1 h1) fun h1=>absurd hc (Nat.not_lt.2 h1),fun y hy e=>hp.2.2 y (mem hy e) e⟩⟩;have nv:∀ {c},aT m.na≠some c→c<X.nx→aT v'≠some c:=fun h1 h2 e=>(hb _ e).elim h1 fun h3=>absurd h2 (Nat.not_lt.2 h3);refine⟨⟨?_,fun y hy c hc=>?_,fun i j x y hij hx hy c hc hc'=>?_,fun c hc=>?_,fun c hc=>⟨(h.wg c hc).1,Ah (h.wg c hc).2 hn⟩⟩,K⟩
 ·rcases ha with h0 | ⟨b,c,cs,e0,g1,g2,g3,g4,g5,g6,g7⟩
  ·exact .inl h0
  ·refine .inr ⟨b,c,cs,e0,g1,g2,g3,g4,g5,g6,fun i y hi=>?_⟩;obtain⟨e,e1,e2,e3⟩:=g7 i y hi;refine⟨e,e1,e2,e3.move hn fun c hc=>?_⟩;have:=h.rn y (mem (Aq hi) hc) c hc;exact hk c this.1.2 this.2.2
 ·have:=h.rn y (mem hy hc) c hc;exact⟨⟨this.1.1,Ah this.1.2 hn⟩,this.2.1,nv this.2.2 this.1.2⟩
 ·rw[Ec] at hx hy;split at hx
  ·split at hy
   ·exact h.dj i j x y hij hx hy c hc hc'
   ·have:=Aq hy;rw[Cb] at this;rw[this] at hc';cases hc'
  ·have:=Aq hx;rw[Cb] at this;rw[this] at hc;cases hc
 ·rcases hb c hc with h1 | h1
  ·exact h.d1 c h1
  ·exact fun e=>by have:=(h.wg c e).2;omega
theorem xD.row_at(h:xD W S0 X m){i:Nat}{a:bU}{v:AV}(hi:m.l[i]? =some (a,v)):∃b p,eS (.slice 6) m.na i=some (.ptr b p)∧aT m.na=some b∧b<X.nx∧dB (.ptr b (p+3)) false 1 X.h=some v∧gQ 1 S0 X v a.next.length (bG a.next):=by
 rcases h.nod with⟨_,h0⟩ | ⟨b,c,cs,e0,g1,g2,g3,g4,g5,g6,g7⟩
 ·rw[h0] at hi;cases hi
 ·obtain⟨e,e1,e2,xw,xp,rfl,e4,_⟩:=g7 i _ hi;have hil:=(Af.1 hi).1;refine⟨b,0+i * 6,?_,by rw[e0];rfl,g4,cS g5 (by rw[Ao];exact e2 3 v rfl),e4⟩;rw[e0];show bN (Nat.blt i m.l.length) _ _=_;rw[show Nat.blt i m.l.length=true from Aj hil,aL]
def aHV(m:UyS)(i:Nat)(a:bU)(w:Int)(v':AV):UyS:=⟨m.na,m.l.set i ({a with next:=a.next++ [w]},v')⟩
theorem xD.row(h:xD W S0 X m){i:Nat}{a:bU}{v v':AV}{w:Int}(hi:m.l[i]? =some (a,v))(hn:X.nx≤X'.nx)(hk:∀c,c<X.nx→aT v≠some c→X'.h.get c=X.h.get c)(hg:gQ 1 S0 X' v' (a.next++ [w]).length (bG (a.next++ [w])))(hb:∀c,aT v'=some c→X.nx≤c):
  ∃b p X'',eS (.slice 6) m.na i=some (.ptr b p)∧aT m.na=some b∧b<X.nx∧lI (.ptr b (p+3)) 1 [v'] X'=some (.undef,X'')∧X''.nx=X'.nx∧(∀c,c≠b→X''.h.get c=X'.h.get c)∧xD W S0 X'' (aHV m i a w v')∧nG W m X (aHV m i a w v') X'':=by
 have hil:=(Af.1 hi).1;have lv:∀ {c},aT v=some c→_:=fun hc=>h.row_of hi hc;have nav:∀ {c},aT m.na=some c→aT v≠some c:=fun hc e=>(lv e).2.2 hc;have hX':kH 6 (NdU S0 X) S0 X' m.na m.l:=by
  rcases h.nod with h0 | ⟨b,c,cs,e0,g1,g2,g3,g4,g5,g6,g7⟩
  ·exact .inl h0
  ·exact .inr ⟨b,c,cs,e0,g1,g2,g3,Ah g4 hn,(hk b g4 (nav (by rw[e0];rfl))).trans g5,g6,g7⟩
 have mem:∀ {y},y∈m.l.set i ({a with next:=a.next++ [w]},v')→(∃j,j≠i∧m.l[j]? =some y)∨y=({a with next:=a.next++ [w]},v'):=fun {y} hy=>by
  obtain⟨j,hj,e⟩:=List.getElem_of_mem hy;rw[List.getElem_set] at e;split at e
  ·exact .inr e.symm
  ·rename_i hne;rw[Bm] at hj;exact .inl ⟨j,fun e=>hne e.symm,by rw[←e];exact Ab hj⟩
 have pb:∀c,c<X.nx→PU W m c→PU W (aHV m i a w v') c:=fun c hc hp=>⟨hp.1,hp.2.1,fun y hy e=>by
  rcases mem hy with⟨j,_,hj⟩ | rfl
  ·exact hp.2.2 y (Aq hj) e
  ·have:=hb c e;omega⟩
 obtain⟨bb,gp,hbb⟩:∃b,aT m.na=some b∧b<X.nx:=by
  obtain⟨b,_,_,h1,h2,_⟩:=h.row_at hi;exact⟨b,h1,h2⟩
 obtain⟨b,p,X'',k1,k2,k3,k4,k5,k6,k7⟩:=kH.fldU (E':=NdU S0 ⟨X'.h,X'.nx⟩) (a':=({a with next:=a.next++ [w]},v')) (x:=v') (q:=3) hX' hi (by decide) (fun j y e hj hne hE=>hE.move hn fun c hc=>hk c (h.row_of hj hc).1.2 (h.dj j i y _ hne hj hi c hc)) fun e hE=>by
   obtain⟨xw,xp,rfl,h1,h2,h3⟩:=hE;exact⟨xw,xp,rfl,hg,h2,h3⟩
 rw[gp] at k2;cases k2;have nb:∀c,aT m.na=some c→c=bb:=fun c hc=>by rw[gp] at hc;cases hc;rfl
 refine⟨bb,p,X'',k1,gp,hbb,k4,k6,k7,⟨?_,fun y hy c hc=>?_,fun i' j x y hij hx hy c hc hc'=>?_,h.d1,fun c hc=>⟨(h.wg c hc).1,by have:=(h.wg c hc).2;omega⟩⟩,⟨by omega,fun c hc hp=>⟨?_,pb c hc hp⟩⟩⟩
 ·rcases k5 with h0 | ⟨b',c,cs,e0,g1,g2,g3,g4,g5,g6,g7⟩
  ·exact .inl h0
  ·refine .inr ⟨b',c,cs,e0,g1,g2,g3,g4,g5,g6,fun j y hj=>?_⟩;obtain⟨e,e1,e2,e3⟩:=g7 j y hj;refine⟨e,e1,e2,e3.move (by show X'.nx≤X''.nx;omega) fun c hc=>k7 c fun e=>?_⟩;rcases mem (Aq hj) with⟨j',_,hj'⟩ | rfl
   ·exact(h.row_of hj' hc).2.2 (by rw[e];exact gp)
   ·have:=hb c hc;omega
 ·rcases mem hy with⟨j,_,hj⟩ | rfl
  ·have:=h.row_of hj hc;exact⟨⟨this.1.1,by omega⟩,this.2⟩
  ·have h1:=hg.blk hc;have h2:=hb c hc;exact⟨⟨h1.1,by omega⟩,fun e=>by have:=(h.wg c e).2;omega,fun e=>by have:=(h.nod.blk e).2;omega⟩
 ·unfold aHV at hx hy;rw[Ef] at hx hy;have hlo:∀ {q:Nat} {y:bU×AV},m.l[q]? =some y→aT y.2=some c→c<X.nx:=fun hq hc=>(h.row_of hq hc).1.2;split at hx
  ·split at hy
   ·rename_i e1 e2;exact hij (e1.symm.trans e2)
   ·try rw[if_pos hil] at hx
    cases hx;have:=hb c hc;have:=hlo hy hc';omega
  ·split at hy
   ·try rw[if_pos hil] at hy
    cases hy;have:=hb c hc';have:=hlo hx hc;omega
   ·exact h.dj i' j x y hij hx hy c hc hc'
 ·rw[k7 c (fun e=>hp.2.1 (by rw[e];exact gp))];exact hk c hc fun e=>hp.2.2 _ (Aq hi) e
end
end Go.Ev.Gl
