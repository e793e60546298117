import Derived.Test.YtkklchgmpejobaaGreatDoorGl29
open Nat renaming reduceEqDiff → rE, reduceAdd → rA
set_option maxHeartbeats 16000000
set_option linter.unusedSimpArgs false
set_option linter.unusedVariables false
namespace Go.Ev.Gl
variable {fns:T cV}
theorem aIt{g:bH}(G:qP g)(hN:∀x∈g.nodes,mF g.players g.infos x){i:Nat}(hi:i<g.infos.length):1≤(infoAt g (i:Int)).actions∧(infoAt g (i:Int)).actions≤3:=by
 obtain⟨f1,f2,f3⟩:=G.fst i hi;rcases hN _ (Aq (dI f1)) with h1 | h1 | h1
 ·have:=h1.kind;omega
 ·have:=h1.kind;omega
 ·have h2:=h1.at_;rw[f3,Cj] at h2;have h3:infoAt g (i:Int)=⟨(nodeAt g (pE g i)).player,(((nodeAt g (pE g i)).next.length:Nat):Int)⟩:=by
   unfold infoAt;rw[Cj,Ae,h2];rfl
  rw[h3];have:=h1.n1;have:=h1.n2;exact⟨by show 1≤(((nodeAt g (pE g i)).next.length:Nat):Int);omega,by show(((nodeAt g (pE g i)).next.length:Nat):Int)≤3;omega⟩
theorem aIu{g:bH}{T:List dH}{n:Nat}(K:aIM g)(hT:lN g=some T)(hl:T.length=g.nodes.length)(h40:g.nodes.length≤40)(hp:g.players=(n:Int))(hN:∀x∈g.nodes,mF g.players g.infos x):aAp g g (fun v=>v) T n:=by
 refine⟨fun v hv=>hv,fun v hv=>?_,K,hT,hl,h40,hp,hN⟩;have e:((nodeAt g v).next.map fun c=>((c.toNat:Nat):Int))=(nodeAt g v).next:=by
  refine(Ck fun c hc=>?_).trans (Fy _);obtain⟨j,hj,rfl⟩:=Eq.1 hc;obtain⟨k1,k2,k3⟩:=iW K.good v hv j hj;rw[Ae,Ab hj] at k3;have k3:(nodeAt g v).next[j]=((jA g v j:Nat):Int):=k3;rw[k3];rfl
 show nodeAt g v= {nodeAt g v with next:=(nodeAt g v).next.map fun c=>((c.toNat:Nat):Int)};rw[e]
theorem aH5{g:bH}{T:List dH}{n:Nat}{F:List Nat}{C:List Int}(h:aAp g g (fun v=>v) T n)(hC:jN g (htL g) F C):aAp g (hJ g F C) (rR C) T n:=by
 have hK:=iW h.G.good;refine⟨fun v hv=>(aAw hK hC hv).1,fun v hv=>(aAw hK hC hv).2.trans ?_,h.G,h.walk,h.len,h.n40,h.pl,h.ok⟩;have e:((nodeAt g v).next.map fun c=>C.getD c.toNat 0)=(nodeAt g v).next.map fun c=>((rR C c.toNat:Nat):Int):=by
  refine Ck fun c hc=>?_;obtain⟨j,hj,rfl⟩:=Eq.1 hc;obtain⟨k1,k2,k3⟩:=hK v hv j hj;have ea:(nodeAt g v).next[j].toNat=jA g v j:=by unfold jA;rw[Ae,Ab hj];rfl
  obtain⟨q,_,e,_⟩:=hC.at_ k2;rw[ea,e]
 unfold lK;rw[e]
structure aQr(m:bH):Prop where
 up:eF m
 ends:∀i,i<m.nodes.length→(nodeAt m i).kind=3→(((nodeAt m i).pay.length:Nat):Int)=m.players∧(nodeAt m i).next= []
 mid:∀i,i<m.nodes.length→(nodeAt m i).kind≠3→1≤(nodeAt m i).next.length∧0≤(nodeAt m i).info∧(((nodeAt m i).kind=1∧(nodeAt m i).weights.length=(nodeAt m i).next.length∧∀w∈(nodeAt m i).weights,1≤w∧w≤1000)∨(nodeAt m i).kind=2)
theorem aJW{g:bH}{T:List dH}{n:Nat}{F:List Nat}{C:List Int}(h:aAp g g (fun v=>v) T n)(hC:jN g (htL g) F C):aQr (hJ g F C):=by
 have hK:=iW h.G.good;have key:∀i,i<(hJ g F C).nodes.length→∃q,q<g.nodes.length∧nodeAt (hJ g F C) i=lK g C q:=fun i hi=>by
  have hi':i<F.length:=by
   have:(F.map (lK g C)).length=F.length:=Az ..;unfold hJ at hi;simp only at hi;omega
  have hq:=Ab hi';refine⟨F[i],(hC.mem (Aq hq)).1,nO ?_⟩;show(F.map (lK g C))[i]? =_;rw[Be,hq];rfl
 refine⟨(xM h.G.good hC).1.2.1,fun i hi hk=>?_,fun i hi hk=>?_⟩
 ·obtain⟨q,hq,e⟩:=key i hi;rw[e] at hk ⊢;have hk:(nodeAt g q).kind=3:=hk;refine⟨h.G.pay q hq hk,?_⟩;show(nodeAt g q).next.map _= [];rw[h.G.fin q hq hk];rfl
 ·obtain⟨q,hq,e⟩:=key i hi;rw[e] at hk ⊢;have hk:(nodeAt g q).kind≠3:=hk;have el:(lK g C q).next.length=(nodeAt g q).next.length:=by unfold lK;exact Az ..
  rw[el];show 1≤(nodeAt g q).next.length∧0≤(nodeAt g q).info∧(((nodeAt g q).kind=1∧(nodeAt g q).weights.length=(nodeAt g q).next.length∧∀w∈(nodeAt g q).weights,1≤w∧w≤1000)∨(nodeAt g q).kind=2);rcases h.ok _ (Aq (dI hq)) with e1 | e1 | e1
  ·exact absurd e1.kind hk
  ·exact⟨e1.n1,by rw[e1.info];decide,.inl ⟨e1.kind,e1.len,fun w hw=>by have:=e1.wts w hw;omega⟩⟩
  ·exact⟨e1.n1,e1.inf,.inr e1.kind⟩
def FzI(S1:St)(gb:Nat)(M:Nat)(k:Nat)(A:bQ)(X:St):Prop:=A.inr=false∧Same S1 X∧aD 1 A.F= .ptr gb 0∧∃i,i+k=M∧aD 3 A.F= .int .i64 ((i:Nat):Int)
def FzJ(S1:St)(gb xb i M:Nat)(k:Nat)(A:bQ)(X:St):Prop:=A.inr=false∧Same S1 X∧aD 1 A.F= .ptr gb 0∧aD 3 A.F= .int .i64 ((i:Nat):Int)∧aD 4 A.F= .ptr xb 0∧∃j,j+k=M∧aD 5 A.F= .int .i64 ((j:Nat):Int)
theorem aLv{S:St}{nv iv:AV}{m:bH}(H:Has fns)(hn:bB 6 dJ S nv m.nodes)(hf:aQr m)(hN:m.nodes.length≤100000)(hT:aJB m):fR fns (.fn 11 [] []) [.agg [.int .i64 m.players,nv,iv]] S fun r X=>r= .bool true∧Same S X:=by
 refine cE H.f11 (by simp) ?_;refine ah ?_;refine cC ?_;refine eH (by simp only[↓aA,aB,rE,↓reduceIte];exact bM _) ?_;intro S1 s1 n1 g1;simp only[↓aA,aB,rE,↓reduceIte,rA];have dF:∀i:Decidable False,@decide False i=false:=fun i=>@Aa False i id;have dT:∀i:Decidable True,@decide True i=true:=fun i=>@Ad True i trivial;refine aC (bD (Q:=fun o A' X=>o= .normal∧FzI S1 S.nx m.nodes.length 0 A' X) (aC (aG ?_)) ?_)
 ·refine ah ?_;refine aN (bT (FzI S1 S.nx m.nodes.length) ?_ m.nodes.length _ _ ⟨rfl,Same.refl _,ai,0,by omega,by simp only[↓aA,aB,rE,↓reduceIte,rA];try rfl⟩);rintro k ⟨F1,inr⟩ X ⟨q0,hX,p1,i,hik,p3⟩;simp only at q0 p1 p3;subst q0;have gX:=(hX.2 _ (show S.nx<S1.nx by omega)).trans g1;have hnX:=bB.same (E:=dJ) cT hn (s1.trans hX);have lnX:=bB.len hnX;try simp only[Ak] at lnX
  have lX:S.nx<X.nx:=by have:=hX.1;omega
  refine iP ?_;simp only[↓aA,aB,rE,↓reduceIte,rA,p1,p3,aE,aF,fL gX,lnX,zV];by_cases hlt:i<m.nodes.length;rotate_left
  ·refine aO (by simp only[↓aA,aB,rE,↓reduceIte,Aa hlt]) (bK ?_);obtain rfl:k=0:=by omega
   exact⟨rfl,rfl,hX,ag p1,i,hik,ag p3⟩
  refine aR (by simp only[↓aA,aB,rE,↓reduceIte,Ad hlt]) (aM ?_);try simp only[↓aA,aB,rE,↓reduceIte]
  obtain⟨_,b1,q1,i1,lt1,_,⟨xa,xw,xp,rfl,x1,x2,x3⟩,d1,_⟩:=bB.at hnX (by decide) (dI hlt);refine aC (bD (Q:=fun o A' Y=>o= .normal∧A'.inr=false∧Same S1 Y∧aD 1 A'.F= .ptr S.nx 0∧aD 3 A'.F= .int .i64 ((i:Nat):Int)) (aN (aC (aG ?_))) ?_)
  ·simp only[↓aA,aB,rE,↓reduceIte,rA,p1,p3,aE,aF,fL gX,aH,i1,d1];refine cR ?_;intro Y1 y1 m1 h1;refine fC (b:=X.nx) (ai) (by simp only[↓aA,aB,rE,↓reduceIte,rA];exact bM _) h1 rfl rfl ?_;intro Y y2 m2 h2;simp only[↓aA,aB,rE,↓reduceIte,rA];have sY:Same X Y:=y2.same y1 (Ag _);clear y1 y2 h1;have x1Y:=x1.same sY;have x2Y:=x2.same sY;have x3Y:=x3.same sY;have gY:=(sY.2 _ lX).trans gX;have l1:=x1Y.len;have l2:=x2Y.len;have l3:=x3Y.len;simp only[Ak] at l1 l2 l3;have lxY:X.nx<Y.nx:=by omega
   have fE:=hf.ends i hlt;have fM:=hf.mid i hlt;by_cases hk3:(nodeAt m i).kind=3
   ·obtain⟨e1,e2⟩:=fE hk3;rw[e2] at l1;refine iP ?_;simp only[↓aA,aB,rE,↓reduceIte,rA,aE,aF,gT h2,Ad hk3];refine aR (ae) (aC (aC (aG ?_)));simp only[↓aA,aB,rE,↓reduceIte,rA,p1,aE,aF,jJ h2,gE h2,yE gY,l3,l1,e1,Bo,ne_eq,Cg,dF];refine aO (af) (aM ?_);try simp only[↓aA,aB,rE,↓reduceIte]
    refine bK ?_;try simp only[↓aA,aB,rE,↓reduceIte]
    exact⟨hX.trans sY,by refine⟨?_,?_⟩<;>simp only[↓aA,aB,rE,↓reduceIte,p1,p3]⟩
   obtain⟨n1,n2,n3⟩:=fM hk3;refine iP ?_;simp only[↓aA,aB,rE,↓reduceIte,rA,aE,aF,gT h2,Aa hk3];refine aO (ae) (aM ?_);try simp only[↓aA,aB,rE,↓reduceIte]
   have z0:¬ (((nodeAt m i).next.length:Nat):Int)=0:=by omega
   have z1:¬ (nodeAt m i).info<0:=by omega
   have z2:=hf.up i hlt;refine aC (bD (Q:=fun o A' Z=>o= .normal∧A'.inr=false∧Z=Y∧aD 1 A'.F= .ptr S.nx 0∧aD 3 A'.F= .int .i64 ((i:Nat):Int)∧aD 4 A'.F= .ptr X.nx 0) (aC (aG ?_)) ?_)
   ·rcases n3 with⟨k1,w1,w2⟩ | k2
    ·have z3:¬ (((nodeAt m i).weights.length:Nat):Int)≠(((nodeAt m i).next.length:Nat):Int):=fun h=>h (by rw[w1]);have z4:¬ (nodeAt m i).kind≠1:=fun h=>h k1;simp only[↓aA,aB,rE,↓reduceIte,rA,p1,p3,aE,aF,gT h2,gR h2,gE h2,iD h2,l1,l2,Aa z0,Aa z1,Ad k1,Aa z3,Aa z4];refine aO (af) (aM ?_);exact⟨rfl,rfl,rfl,by refine⟨?_,?_,?_⟩<;>simp only[↓aA,aB,rE,↓reduceIte,p1,p3]⟩
    ·have z3:¬ (nodeAt m i).kind=1:=by omega
     have z4:¬ (nodeAt m i).kind≠2:=fun h=>h k2;simp only[↓aA,aB,rE,↓reduceIte,rA,p1,p3,aE,aF,gT h2,gR h2,gE h2,iD h2,l1,l2,Aa z0,Aa z1,Aa z3,Ad (show(nodeAt m i).kind≠1 from z3),Aa z4];refine aO (af) (aM ?_);exact⟨rfl,rfl,rfl,by refine⟨?_,?_,?_⟩<;>simp only[↓aA,aB,rE,↓reduceIte,p1,p3]⟩
   clear p1 p3;rintro o ⟨F1,inr⟩ Z0 ⟨rfl,q0,eZ,p1,p3,p4⟩;obtain rfl:Y=Z0:=eZ.symm;clear eZ;simp only at q0 p1 p3 p4;subst q0;try simp only[↓aA,aB,rE,↓reduceIte,rA]
   refine cC ?_;refine ah ?_;refine aN (bT (FzJ Y S.nx X.nx i (nodeAt m i).next.length) ?_ (nodeAt m i).next.length _ _ ⟨rfl,Same.refl _,ag p1,ag p3,ag p4,0,by omega,af⟩);clear p1 p3 p4;rintro k' ⟨F1,inr⟩ Z ⟨q0,hZ,p1,p3,p4,j,hjk,p5⟩;simp only at q0 p1 p3 p4 p5;subst q0;have hZ2:=(hZ.2 _ lxY).trans h2;have gZ:=(hZ.2 _ (show S.nx<Y.nx by have:=sY.1;omega)).trans gY;refine iP ?_;simp only[↓aA,aB,rE,↓reduceIte,rA,p4,p5,aE,aF,gE hZ2,l1,zV];by_cases hj:j<(nodeAt m i).next.length;rotate_left
   ·refine aO (by simp only[↓aA,aB,rE,↓reduceIte,Aa hj]) (bK ?_);try simp only[↓aA,aB,rE,↓reduceIte]
    exact⟨hX.trans (sY.trans hZ),by refine⟨?_,?_⟩<;>simp only[↓aA,aB,rE,↓reduceIte,p1,p3]⟩
   refine aR (by simp only[↓aA,aB,rE,↓reduceIte,Ad hj]) (aM ?_);try simp only[↓aA,aB,rE,↓reduceIte]
   obtain⟨c1,c2,c3⟩:=z2 j hj;have x1Z:=x1Y.same hZ;have x2Z:=x2Y.same hZ;have ia:=x1Z.iaddr hj;have la:=x1Z.ld hj;rw[c3] at la;have y0:¬ ((jA m i j:Nat):Int)≤((i:Nat):Int):=by omega
   have y1:¬ ((jA m i j:Nat):Int)≥((m.nodes.length:Nat):Int):=by omega
   refine aC (bD (Q:=fun o A' V=>o= .normal∧A'.inr=false∧Same Z V∧aD 1 A'.F= .ptr S.nx 0∧aD 3 A'.F= .int .i64 ((i:Nat):Int)∧aD 4 A'.F= .ptr X.nx 0∧aD 5 A'.F= .int .i64 ((j:Nat):Int)) (aN (aC (kO ?_))) ?_)
   ·rcases n3 with⟨k1,w1,w2⟩ | k2
    ·have hjw:j<(nodeAt m i).weights.length:=by omega
     have iw:=x2Z.iaddr hjw;have lw:=x2Z.ld hjw;have hwb:1≤(nodeAt m i).weights.getD j 0∧(nodeAt m i).weights.getD j 0≤1000:=by
      rw[Ae,Ab hjw];exact w2 _ (Br hjw)
     generalize (nodeAt m i).weights.getD j 0=z at *;simp only[↓sU,sD,rE,↓reduceIte,rA,p1,p3,p4,p5,aE,aW,aF,gT hZ2,gE hZ2,iD hZ2,fL gZ,cD.self x1Z,cD.self x2Z,bB.self hnX,aH,ia,la,iw,lw,lnX,Ak,fV,Aa y0,Aa y1,Ad k1,Aa (show ¬z<1 by omega),Aa (show ¬1000<z by omega),mL,iJ,jE,aL,aQ];refine aO (ar) (aM ?_);exact⟨rfl,rfl,Same.nx Z _,by refine⟨?_,?_,?_,?_⟩<;>simp only[↓sU,sD,rE,↓reduceIte,rA,p1,p3,p4,p5]⟩
    ·have z3:¬ (nodeAt m i).kind=1:=by omega
     simp only[↓sU,sD,rE,↓reduceIte,rA,p1,p3,p4,p5,aE,aW,aF,gT hZ2,gE hZ2,iD hZ2,fL gZ,cD.self x1Z,bB.self hnX,aH,ia,la,lnX,Ak,fV,Aa y0,Aa y1,Aa z3,mL,iJ,jE,aL,aQ];refine aO (ar) (aM ?_);exact⟨rfl,rfl,Same.nx Z _,by refine⟨?_,?_,?_,?_⟩<;>simp only[↓sU,sD,rE,↓reduceIte,rA,p1,p3,p4,p5]⟩
   clear p1 p3 p4 p5;rintro o ⟨F1,inr⟩ V ⟨rfl,q0,hV,p1,p3,p4,p5⟩;simp only at q0 p1 p3 p4 p5;subst q0;try simp only[↓aA,aB,rE,↓reduceIte,rA]
   refine aG ?_;simp only[↓aA,aB,rE,↓reduceIte,rA,p5,fA (a:=j) (by have:=(hT.2 _ (Aq (dI hlt))).1;omega)];exact⟨k' - 1,by omega,rfl,hZ.trans hV,ag p1,ag p3,ag p4,j+1,by omega,ai⟩
  rintro o ⟨F1,inr⟩ Y ⟨rfl,q0,hY,p1,p3⟩;simp only at q0 p1 p3;subst q0;try simp only[↓aA,aB,rE,↓reduceIte,rA]
  refine aG ?_;simp only[↓aA,aB,rE,↓reduceIte,rA,p3,fA (a:=i) (by omega)];exact⟨k - 1,by omega,rfl,hY,ag p1,i+1,by omega,ai⟩
 rintro o ⟨F1,inr⟩ X ⟨rfl,q0,hX,p1,i,hik,p3⟩;simp only at q0;subst q0;try simp only[↓aA,aB,rE,↓reduceIte,rA]
 refine cC ?_;refine ah ?_;refine aU ?_;simp only[↓aA,aB,rE,↓reduceIte,rA];exact s1.trans hX
theorem aQb{t:Nat}{F:Fr}{h:Ev.T AB}{lv:AV}(ht:aD t F=lv)(hc:lv.cells=some [lv]):iI (.build [.nilsl,.int .i64 0] [(0,1,.t t)]) F h=some (.agg [lv,.int .i64 0]):=by
 show(aX (fG _ (eT F [(0,1,.t t)])) fun cs=>some (AV.agg cs))=_;simp only[eT,show(cK.t t).val F=lv from ht,fG,hc,aK];rfl
theorem aKt{S:St}{lv cw:AV}{dl dc:List Int}{n:Int}(H:Has fns)(hAw:∀X,Same S X→fR fns (.fn 6 [] []) [] X fun r S'=>r= .bool true∧Same X S')(hL:kA S)(hl:cD .i64 S lv dl)(hb:dl.length≤140737488355328)(hc:cD .i64 S cw dc)(hcb:dc.length≤140737488355328):
  fR fns (.fn 3 [] []) [lv,.int .i64 n,cw] S fun r S'=>r= .bool true∧Same S S':=by
 refine cE H.f3 (by simp) ?_;refine ah ?_;refine cC ?_;refine ah ?_;refine iP ?_;refine aY ?_;try simp only[↓aA,aB,rE,↓reduceIte]
 refine aP (hAw S (Same.refl S)) ?_;rintro _ S1 ⟨rfl,s1⟩;try simp only[↓aA,aB,rE,↓reduceIte,fQ,Bp]
 refine aO (ae) (aM ?_);try simp only[↓aA,aB,rE,↓reduceIte]
 refine iP ?_;by_cases hN:(80:Int)<((dl.length:Nat):Int)
 ·simp only[↓aA,aB,rE,↓reduceIte,rA,hl.len,Ak,Ad hN];refine aR (af) (aC (aG ?_));refine ac ?_;refine aU ?_;simp only[↓aA,aB,rE,↓reduceIte];exact s1
 by_cases hN2:(20:Int)<((dc.length:Nat):Int)
 ·simp only[↓aA,aB,rE,↓reduceIte,rA,hl.len,hc.len,Ak,Aa hN,Ad hN2];refine aR (af) (aC (aG ?_));refine ac ?_;refine aU ?_;simp only[↓aA,aB,rE,↓reduceIte];exact s1
 simp only[↓aA,aB,rE,↓reduceIte,rA,hl.len,hc.len,Ak,Aa hN,Aa hN2];refine aO (af) (aM ?_);try simp only[↓aA,aB,rE,↓reduceIte]
 refine cC ?_;refine ah ?_;refine aY ?_;try simp only[↓aA,aB,rE,↓reduceIte]
 refine aP (aEn H (by decide) (by decide)) ?_;rintro _ S2 ⟨s2,y,rfl,y1,y2⟩;have w1:IntKind.i64.wrap (1+y)=1+y:=wrap_i64 (by omega) (by omega);simp only[↓aA,aB,rE,↓reduceIte,rA,w1];refine cC ?_;refine ah ?_;refine aY ?_;try simp only[↓aA,aB,rE,↓reduceIte]
 have s12:=s1.trans s2;refine aP (aF7 H (hl.same s12) hb (by omega) (by decide)) ?_;rintro _ S3 ⟨s3,g,nv,iv,rfl,hp,hf,hm,hN3,hn,hi,_⟩;have hT:=aKi hf;have G:=uF hf;have hK:=iW G;have hgl:g.nodes.length≤100000:=by omega
 try simp only[↓aA,aB,rE,↓reduceIte,rA]
 refine cR ?_;intro S4 s4 n4 c4;try simp only[↓aA,aB,rE,↓reduceIte,rA]
 refine fC (b:=S3.nx) (cs':=[.int .i64 g.players,nv,iv]) (ai) (by simp only[↓aA,aB,rE,↓reduceIte,rA];exact bM _) c4 rfl rfl ?_;intro S5 s5 n5 c5;simp only[↓aA,aB,rE,↓reduceIte,rA];have s35:Same S3 S5:=s5.same s4 (Ag _);have lg5:dB (.ptr S3.nx 0) true 3 S5.h=some (.agg [.int .i64 g.players,nv,iv]):=lQ c5;have sS5:=(s12.trans s3).trans s35;refine cC ?_;simp only[↓aA,aB,rE,↓reduceIte,rA,lg5];refine aY ?_;refine ah ?_;refine aP (aGP H (bB.same (E:=dJ) cT hn s35) (bB.same (E:=fP) fO hi s35) hgl (hL.same sS5)) ?_;rintro _ S6 ⟨_,rfl,s6,m,⟨mn,mi,rfl,m1,m2⟩,hR⟩;obtain⟨hTm,hml⟩:=aKP hR;obtain⟨F,C,hC,em⟩:=hR.1 hf;obtain⟨eE,eO⟩:=aKZ hf hC;have K:=aGd hf;obtain⟨TT,hTT,hTl,_⟩:=G.walk;obtain⟨ps,hps⟩:∃ps:Nat,1+y=(ps:Int):=⟨(1+y).toNat,by omega⟩;have P1:=aIu (n:=ps) K hTT hTl (by omega) (hp.trans hps) hN3;have P2:=aH5 P1 hC;have P3:=aJW P1 hC;have c0:rR C 0=0:=(xM G hC).2;have ml0:=P2.lt 0 G.n1;have mp:(hJ g F C).players=g.players:=rfl;rw[←em] at eE eO P2 P3 ml0 mp;have lmg:m.nodes.length≤g.nodes.length:=by
  rw[em];show(F.map _).length≤_;rw[Az,hC.perm.length_eq];have:=qA g g.nodes.length;unfold nF at this;exact this
 have c6:=(s6.2 _ (show S3.nx<S5.nx by omega)).trans c5;have n6:=s6.1;rw[hf];simp only[↓aA,aB,rE,↓reduceIte,rA,ex0,ex1];refine cR ?_;intro S7 s7 n7 c7;try simp only[↓aA,aB,rE,↓reduceIte,rA]
 refine fC (b:=S6.nx) (cs':=[.int .i64 m.players,mn,mi]) (ai) (by simp only[↓aA,aB,rE,↓reduceIte,rA];exact bM _) c7 rfl rfl ?_;intro S8 s8 n8 c8;simp only[↓aA,aB,rE,↓reduceIte,rA];have s68:Same S6 S8:=s8.same s7 (Ag _);have lg8:dB (.ptr S6.nx 0) true 3 S8.h=some (.agg [.int .i64 m.players,mn,mi]):=lQ c8;have g8:=(s68.2 _ (show S3.nx<S6.nx by omega)).trans c6;have lgg8:dB (.ptr S3.nx 0) true 3 S8.h=some (.agg [.int .i64 g.players,nv,iv]):=lQ g8;have s38:Same S3 S8:=(s35.trans s6).trans s68;have sS8:=(sS5.trans s6).trans s68;have hm8:nS S8 (.agg [.int .i64 m.players,mn,mi]) m:=⟨mn,mi,rfl,bB.same (E:=dJ) cT m1 s68,bB.same (E:=fP) fO m2 s68⟩;have sm:=bB.len (bB.same (E:=dJ) cT m1 s68);try simp only[Ak] at sm
 have z0:¬ ((m.nodes.length:Nat):Int)=0:=by omega
 have z1:¬ ¬m.players=1+y:=fun h=>h (mp.trans hp);have dF:∀i:Decidable False,@decide False i=false:=fun i=>@Aa False i id;refine iP ?_;simp only[↓aA,aB,rE,↓reduceIte,rA,ne_eq,Cg,dF,aE,aF,yE c8,fL c8,sm,Aa z0,Aa z1,lg8];refine aY ?_;refine ah ?_;refine aP (aHd H hm8 hTm hml (hL.same sS8)) ?_;rintro _ S9 ⟨rfl,s9⟩;rw[eE];have c9:=(s9.2 _ (show S6.nx<S8.nx by omega)).trans c8;have lg9:dB (.ptr S6.nx 0) true 3 S9.h=some (.agg [.int .i64 m.players,mn,mi]):=lQ c9;simp only[↓aA,aB,rE,↓reduceIte,rA,ne_eq,Cg,dF,lg9];refine aY ?_;refine ah ?_;refine aP (aLv H (bB.same (E:=dJ) cT m1 (s68.trans s9)) P3 hml hTm) ?_;rintro _ S10 ⟨rfl,s10⟩;simp only[↓aA,aB,rE,↓reduceIte,rA,fQ,Bp];refine aO (af) (aM ?_);try simp only[↓aA,aB,rE,↓reduceIte]
 have s910:=s9.trans s10;have n10:=s910.1;have c10:=(s910.2 _ (show S6.nx<S8.nx by omega)).trans c8;have g10:=(s910.2 _ (show S3.nx<S8.nx by omega)).trans g8;have sS10:=sS8.trans s910;have hcc:=cD.cells hc;have hbd1:=fun(F:Fr) (h:Ev.T AB) (a:aD 61 F=cw)=>aQb (t:=61) (F:=F) (h:=h) a hcc;refine cC ?_;simp only[↓aA,aB,rE,↓reduceIte,rA,hbd1];refine eH (cs:=[cw,.int .i64 0]) (by simp only[↓aA,aB,rE,↓reduceIte,rA];exact bM _) ?_;intro S11 s11 n11 d11;have g11:=(s11.2 _ (show S3.nx<S10.nx by omega)).trans g10;have lgg11:dB (.ptr S3.nx 0) true 3 S11.h=some (.agg [.int .i64 g.players,nv,iv]):=lQ g11;have sS11:=sS10.trans s11;have s311:=(s38.trans s910).trans s11;simp only[↓aA,aB,rE,↓reduceIte,rA,lgg11];refine aY ?_;simp only[↓aA,aB,rE,↓reduceIte,rA];have hlow:=fun {c} (h:aT cw=some c)=>dG hc h;have hd11:qJ S11 S10.nx cw dc:=⟨by omega,⟨0,d11,Bt _⟩,hc.same sS11,fun e=>by have:=hlow e;have:=sS10.1;omega,hcb⟩;refine aP (aD4 H hd11 (fun X' h1 h2=>bB.same (E:=fP) fO hi (S':=X') ⟨by have:=s311.1;omega,fun c hc=>(h2 c (by have:=s311.1;omega) (by omega)).trans (s311.2 c hc)⟩) (fun i hi=>aIt G hN3 hi) G.ni) ?_;rintro chv S12 ⟨x12,_,ch,ich,_,_⟩;have s12:Same S10 S12:=⟨by have:=x12.1;omega,fun c hc=>(x12.2 c (by omega) (by omega)).trans (s11.2 c hc)⟩;have g12:=(s12.2 _ (show S3.nx<S10.nx by omega)).trans g10;have c12:=(s12.2 _ (show S6.nx<S10.nx by omega)).trans c10;have s312:=(s38.trans s910).trans s12;have s612:=(s68.trans s910).trans s12;have n12:=s12.1;try simp only[↓aA,aB,rE,↓reduceIte,rA]
 refine cC ?_;simp only[↓aA,aB,rE,↓reduceIte,rA,aE,aF,fL g12];refine aY ?_;simp only[↓aA,aB,rE,↓reduceIte,rA,hps];refine aP (aBs (c:=ch) (f:=g.nodes.length) (i:=0) H P1 G.n1 (by omega) (bB.same (E:=dJ) cT hn s312) ich) ?_;rintro _ S13 ⟨s13,x,P,d,rfl,hx,_,hlx,_,_⟩;simp only[↓aA,aB,rE,↓reduceIte,rA,ex0,ex1];have c13:=(s13.2 _ (show S6.nx<S12.nx by omega)).trans c12;refine cC ?_;simp only[↓aA,aB,rE,↓reduceIte,rA,aE,aF,fL c13];refine aY ?_;simp only[↓aA,aB,rE,↓reduceIte,rA];have hq:=aBs (c:=ch) (f:=g.nodes.length) (i:=0) H P2 G.n1 (by omega) (bB.same (E:=dJ) cT m1 (s612.trans s13)) (ich.same s13);rw[c0] at hq;refine aP hq ?_;rintro _ S14 ⟨s14,z,P',d',rfl,hz,_,hlz,_,_⟩;simp only[↓aA,aB,rE,↓reduceIte,rA,ex0,ex1];obtain⟨rfl,rfl⟩:=aOf hlx hlz;refine cC ?_;refine ah ?_;refine aY ?_;refine ah ?_;refine aP (aBE H (hx.same s14) hz (by rw[hlx.len];omega)) ?_;rintro _ S15 ⟨rfl,s15⟩;rw[Ad rfl];have dT:∀i:Decidable True,@decide True i=true:=fun i=>@Ad True i trivial;simp only[↓aA,aB,rE,↓reduceIte,rA,dT];refine aU ?_;simp only[↓aA,aB,rE,↓reduceIte,rA];exact(((sS10.trans s12).trans s13).trans s14).trans s15
end Go.Ev.Gl
