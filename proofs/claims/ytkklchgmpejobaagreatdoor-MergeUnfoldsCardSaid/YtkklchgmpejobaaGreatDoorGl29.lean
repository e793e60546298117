import Derived.Test.YtkklchgmpejobaaGreatDoorGl28
open Nat renaming reduceEqDiff → rE, reduceAdd → rA
set_option maxHeartbeats 16000000
set_option linter.unusedSimpArgs false
set_option linter.unusedVariables false
namespace Go.Ev.Gl
variable {fns:T cW}
def aGu(S:St)(rb:Nat)(e:Int)(A:bH)(X:St):Prop:=Same S X∧X.h.get rb=some (.cells [.int .i64 0,.nilsl,.nilsl] false 0)∧aH 2 A.F= .ptr rb 0∧aH 3 A.F= .int .i64 e
def XlI(h:bC)(S3:St)(gb rb bb:Nat)(k:Nat)(A:bH)(X:St):Prop:=A.inr=false∧bB bb S3 X∧aH 1 A.F= .ptr gb 0∧aH 2 A.F= .ptr rb 0∧aH 4 A.F= .int .i64 ((h.nodes.length:Nat):Int)∧aH 5 A.F= .sl bb 0 h.nodes.length h.nodes.length false∧∃ (i:Nat) (sv:List Bool),i+k=h.nodes.length∧aH 6 A.F= .int .i64 (i:Int)∧X.h.get bb=some (.cells (qD sv) false 0)∧Blw h i 0 sv
def XlJ(h:bC)(S3:St)(gb rb bb i:Nat)(k:Nat)(A:bH)(X:St):Prop:=A.inr=false∧bB bb S3 X∧aH 1 A.F= .ptr gb 0∧aH 2 A.F= .ptr rb 0∧aH 4 A.F= .int .i64 ((h.nodes.length:Nat):Int)∧aH 5 A.F= .sl bb 0 h.nodes.length h.nodes.length false∧aH 6 A.F= .int .i64 (i:Int)∧∃ (j:Nat) (sv:List Bool),j+k=(nodeAt h i).next.length∧aH 7 A.F= .int .i64 (j:Int)∧X.h.get bb=some (.cells (qD sv) false 0)∧Blw h i j sv
def XlC(h:bC)(X0:St)(gb rb bb:Nat)(sv:List Bool)(k:Nat)(A:bH)(X:St):Prop:=A.inr=false∧X=X0∧aH 1 A.F= .ptr gb 0∧aH 2 A.F= .ptr rb 0∧aH 4 A.F= .int .i64 ((h.nodes.length:Nat):Int)∧aH 5 A.F= .sl bb 0 h.nodes.length h.nodes.length false∧∃j,j+k=h.nodes.length∧1≤j∧aH 9 A.F= .int .i64 (j:Int)∧∀u,1≤u→u<j→sv.getD u false=true
theorem aM1{h:Ev.T AB}{b u sz:Nat}{sv:List Bool}{o:Bool}(hb:h.get b=some (.cells (qD sv) o sz))(hu:u<sv.length):cE (.ptr b u) false 1 h=some (.bool (sv.getD u false)):=by
 refine fU hb ?_;rw[Bc,Ag,Ad hu];rfl
theorem uK{d:Nat}{e:Int}{F:Fr}{inr:Bool}{S X:St}{rb:Nat}(gr:X.h.get rb=some (.cells [.int .i64 0,.nilsl,.nilsl] false 0))(lr:S.nx≤rb)(hS:Same S X)(p2:aH 2 F= .ptr rb 0)(hd:d≠2∧d≠3):nO fns (.seq (.reg [⟨some d,.q (.build [.int .i64 0,.nilsl,.nilsl] []),none,0⟩,⟨none,.x (.st 3 (.t 2) (.t d)),none,0⟩,⟨some 3,.q (.mv (.c (.int .i64 e))),none,0⟩]) .ret) ⟨F,inr⟩ X fun o A Z=>o= .ret∧aGu S rb e A Z:=by
 refine bL ?_;simp only[↓aB,aA,rE,↓reduceIte,aLI];refine eF (b:=rb) (cs':=[.int .i64 0,.nilsl,.nilsl]) (by rw[fV,bQ,if_neg (Cp hd.1)];exact p2) (by rw[fV,bQ,if_pos rfl];exact bE _) gr rfl rfl ?_;intro Z z nz gz;simp only[↓aB,aA,rE,↓reduceIte];refine aR ?_;refine⟨rfl,z.same hS lr,gz,?_,?_⟩
 ·rw[bQ,if_neg (by decide),bQ,if_neg (Cp hd.1)];exact p2
 ·rw[bQ,if_pos rfl]
theorem aO0{F:Fr}{h:Ev.T AB}{ps:Int}{a b:AV}(h1:aH 74 F= .int .i64 ps)(h2:aH 76 F=a)(h3:aH 80 F=b)(ha:a.cells=some [a])(hb:b.cells=some [b]):gT (.build [.int .i64 0,.nilsl,.nilsl] [(0,1,.t 74),(1,1,.t 76),(2,1,.t 80)]) F h=some (.agg [.int .i64 ps,a,b]):=by
 show(aZ (gM _ (fJ F [(0,1,.t 74),(1,1,.t 76),(2,1,.t 80)])) fun cs=>some (AV.agg cs))=_;simp only[fJ,show(cF.t 74).val F= .int .i64 ps from h1,show(cF.t 76).val F=a from h2,show(cF.t 80).val F=b from h3,gM,cH,ha,hb,aM];rfl
theorem xQ{S:St}{v:AV}{h:bC}(H:Has fns)(hv:gE S v h)(hT:tZ h)(hN:h.nodes.length≤100000):fB fns (.fn 34 [] []) [v] S fun r X=>∃gv,r= .tup [gv,.int .i64 (nC h)]∧Same S X∧aHm S X gv (mH h):=by
 have hv0:=hv;obtain⟨nv,iv,rfl,hn,hi⟩:=hv;have hB:∀i,i<h.nodes.length→(nodeAt h i).next.length≤140737488355328:=fun i hi=>by
  have:=(hT.2 _ (Ao (cM hi))).1;omega
 have hnl:=aQ.len hn;have sn:=aQ.self hn;have siv:=aQ.self hi;refine bN H.f34 (by simp) ?_;simp only[↓aB,aA,rE,↓reduceIte,rA];refine bL ?_;refine cL (by simp only[↓aB,aA,rE,↓reduceIte];exact bE _) ?_;intro S1 s1 n1 c1;refine cD ?_;intro S2 s2 n2 c2;simp only[↓aB,aA,rE,↓reduceIte,rA];have s12:=s1.trans s2;have g2:=(s2.2 _ (show S.nx<S1.nx by omega)).trans c1;have leave:∀ {e:Int} {A:bH} {X:St},nC h=e→e≠0→aGu S S1.nx e A X→aMI [.cell 2 true 3,.t 3] (fun r X=>∃gv,r= .tup [gv,.int .i64 (nC h)]∧Same S X∧aHm S X gv (mH h)) .ret A X:=fun {e A X} he hn hE=>by
  obtain⟨sX,gX,p2,p3⟩:=hE;simp only[↓aB,aA,rE,↓reduceIte,rA,p2,p3,fD,ld3 gX];rw[he,wS he hn];exact⟨_,rfl,sX,tR⟩
 refine bL ?_;simp only[↓aB,aA,rE,↓reduceIte,rA,aE,aD,cN g2,sn,hnl];refine fY ?_;simp only[↓aB,aA,rE,↓reduceIte,rA];by_cases h0:0<h.nodes.length;rotate_left
 ·refine aN (by simp only[↓aB,aA,rE,↓reduceIte,rA];exact Ce _ (Ab (by omega))) (aT (uK c2 (by omega) s12 (by simp only[↓aB,aA,rE,↓reduceIte,rA]) (by decide)) ?_);rintro o A X ⟨rfl,hE⟩;exact leave (pQ fun e=>h0 e.1) (by decide) hE
 refine aL (by simp only[↓aB,aA,rE,↓reduceIte,rA];exact Ce _ (Aa (by omega))) (aI ?_);try simp only[↓aB,aA,rE,↓reduceIte,rA]
 refine bL ?_;simp only[↓aB,aA,rE,↓reduceIte,rA];refine fE (jU (n:=h.nodes.length) (by simp only[↓aB,aA,rE,↓reduceIte,aG]) (by simp only[↓aB,aA,rE,↓reduceIte,aG]) (by unfold room;omega) (by unfold room;omega)) ?_;intro S3 s3 n3 c3;have ez:repeatL [AV.bool false] h.nodes.length=qD (List.replicate h.nodes.length false):=by rw[repeatL_one];simp
 rw[ez] at c3;try simp only[↓aB,aA,rE,↓reduceIte,rA]
 have s13:=s12.trans s3;have gg:=(s3.2 _ (show S.nx<S2.nx by omega)).trans g2;have gr:=(s3.2 _ (show S1.nx<S2.nx by omega)).trans c2;refine aC (aT (Q:=fun o A' X=>(o= .normal∧XlI h S3 S.nx S1.nx S2.nx 0 A' X)∨(o= .ret∧¬jB h∧aGu S S1.nx 3 A' X)) (aC (aF ?_)) ?_)
 ·simp only[↓aB,aA,rE,↓reduceIte,rA];refine aK (bG (XlI h S3 S.nx S1.nx S2.nx) ?_ h.nodes.length _ _ ⟨rfl,bB.refl _ _,by simp only[↓aB,aA,rE,↓reduceIte,rA],by simp only[↓aB,aA,rE,↓reduceIte,rA],by simp only[↓aB,aA,rE,↓reduceIte,rA],by simp only[↓aB,aA,rE,↓reduceIte,rA],0,_,by omega,by simp only[↓aB,aA,rE,↓reduceIte,rA];try rfl,c3,Az ..,fun u hu=>?_,fun q hq=>by omega,fun c hc=>by simp at hc⟩);rotate_left
  ·rw[aBe];rw[Ag,Dg,if_pos hu];constructor
   ·intro e;cases e
   ·rintro⟨q,hq,_⟩;omega
  rintro k ⟨F,inr⟩ X ⟨q0,hX,p1,p2,p4,p5,i,sv,hik,p6,gB,hb⟩;simp only at q0 p1 p2 p4 p5 p6;subst q0;refine fY ?_;simp only[↓aB,aA,rE,↓reduceIte,p4,p6,qT];by_cases hlt:i<h.nodes.length;rotate_left
  ·refine aL (by simp only[↓aB,aA,rE,↓reduceIte,Aa hlt]) (bD ?_);obtain rfl:k=0:=by omega
   exact .inl ⟨rfl,rfl,hX,by simp only[↓aB,aA,rE,↓reduceIte,p1],by simp only[↓aB,aA,rE,↓reduceIte,p2],by simp only[↓aB,aA,rE,↓reduceIte,p4],by simp only[↓aB,aA,rE,↓reduceIte,p5],i,sv,hik,by simp only[↓aB,aA,rE,↓reduceIte,p6],gB,hb⟩
  refine aN (by simp only[↓aB,aA,rE,↓reduceIte,Ab hlt]) (aI ?_);try simp only[↓aB,aA,rE,↓reduceIte]
  obtain⟨e,b,p,i1,i2,i3,⟨na,nb,nc,rfl,x1,x2,x3⟩,i5,i6⟩:=aQ.at hn (by omega) (cM hlt);have hnx:=hB i hlt;refine aC (aT (Q:=fun o A' Y=>(o= .normal∧XlJ h S3 S.nx S1.nx S2.nx i 0 A' Y)∨(o= .ret∧¬jB h∧aGu S S1.nx 3 A' Y)) (aK (aC (aF ?_))) ?_)
  ·simp only[↓aB,aA,rE,↓reduceIte];refine aT (Q:=fun o A' Y=>(o= .normal∧XlJ h S3 S.nx S1.nx S2.nx i 0 A' Y)∨(o= .ret∧¬jB h∧aGu S S1.nx 3 A' Y)) (aK (bG (XlJ h S3 S.nx S1.nx S2.nx i) ?_ (nodeAt h i).next.length _ _ ⟨rfl,hX,by simp only[↓aB,aA,rE,↓reduceIte,p1],by simp only[↓aB,aA,rE,↓reduceIte,p2],by simp only[↓aB,aA,rE,↓reduceIte,p4],by simp only[↓aB,aA,rE,↓reduceIte,p5],by simp only[↓aB,aA,rE,↓reduceIte,p6],0,sv,by omega,by simp only[↓aB,aA,rE,↓reduceIte];try rfl,gB,hb⟩)) ?_;rotate_left
   ·rintro o A' Y (⟨rfl,hh⟩ | ⟨rfl,hh⟩)
    ·exact .inl ⟨rfl,hh⟩
    ·exact .inr ⟨rfl,hh⟩
   clear p1 p2 p4 p5 p6 gB hb hX;rintro k ⟨F,inr⟩ Y ⟨q0,hY,p1,p2,p4,p5,p6,j,sv,hjk,p7,gB,hb⟩;simp only at q0 p1 p2 p4 p5 p6 p7;subst q0;have sY:=bB.same s13 hY (by omega);have gY:=(hY.2 _ (by omega) (by omega)).trans gg;have rY:=(hY.2 _ (by omega) (by omega)).trans gr;have l3:cE (.ptr b (p+3)) false 1 Y.h=some na:=(mC sY i2).trans (i6 3 na rfl);have sx1:=bI.self x1;refine fY ?_;simp only[↓aB,aA,rE,↓reduceIte,p1,p6,p7,aE,aD,cN gY,sn,aG,i1,l3,sx1,x1.len,Ai,qT];by_cases hj:j<(nodeAt h i).next.length;rotate_left
   ·refine aL (by simp only[↓aB,aA,rE,↓reduceIte,Aa hj]) (bD ?_);obtain rfl:k=0:=by omega
    exact .inl ⟨rfl,rfl,hY,by simp only[↓aB,aA,rE,↓reduceIte,p1],by simp only[↓aB,aA,rE,↓reduceIte,p2],by simp only[↓aB,aA,rE,↓reduceIte,p4],by simp only[↓aB,aA,rE,↓reduceIte,p5],by simp only[↓aB,aA,rE,↓reduceIte,p6],j,sv,hjk,by simp only[↓aB,aA,rE,↓reduceIte,p7],gB,hb⟩
   refine aN (by simp only[↓aB,aA,rE,↓reduceIte,Ab hj]) (aI ?_);try simp only[↓aB,aA,rE,↓reduceIte]
   have iaj:=x1.iaddr hj;have laj:=(x1.same sY).ld hj;have hm:(nodeAt h i).next.getD j 0∈(nodeAt h i).next:=by rw[Ag,Ad hj];exact Co hj
   obtain⟨c,hc⟩:∃c,c=(nodeAt h i).next.getD j 0:=⟨_,rfl⟩;rw[←hc] at laj hm;refine aC (aK (aC (aF ?_)));simp only[↓aB,aA,rE,↓reduceIte,p1,p6,p7,aE,aD,cN gY,sn,aG,i1,l3,sx1,iaj,laj];refine aC (aT (Q:=fun o A' Z=>(o= .normal∧A'.inr=false∧Z=Y∧i<c.toNat∧c.toNat<h.nodes.length∧c=((c.toNat:Nat):Int)∧aH 1 A'.F= .ptr S.nx 0∧aH 2 A'.F= .ptr S1.nx 0∧aH 4 A'.F= .int .i64 ((h.nodes.length:Nat):Int)∧aH 5 A'.F= .sl S2.nx 0 h.nodes.length h.nodes.length false∧aH 6 A'.F= .int .i64 (i:Int)∧aH 7 A'.F= .int .i64 (j:Int)∧aH 8 A'.F= .int .i64 c)∨(o= .ret∧¬jB h∧aGu S S1.nx 3 A' Z)) (aC (aF ?_)) ?_)
   ·have bad:¬ ((i:Int)<c∧c<((h.nodes.length:Nat):Int))→¬jB h:=fun hb hl=>hb (vB.1 hl.2.1 i hlt c hm);by_cases hlo:c≤(i:Int)
    ·simp only[↓aB,aA,rE,↓reduceIte,p6,Ab hlo];refine aN (by simp only[↓aB,aA,rE,↓reduceIte]) (aT (uK rY (by omega) sY (by simp only[↓aB,aA,rE,↓reduceIte,p2]) (by decide)) ?_);rintro o A' Z ⟨rfl,hE⟩;exact .inr ⟨rfl,bad (by omega),hE⟩
    ·simp only[↓aB,aA,rE,↓reduceIte,p4,p6,Aa hlo];by_cases hhi:((h.nodes.length:Nat):Int)≤c
     ·refine aN (by simp only[↓aB,aA,rE,↓reduceIte,Ab hhi]) (aT (uK rY (by omega) sY (by simp only[↓aB,aA,rE,↓reduceIte,p2]) (by decide)) ?_);rintro o A' Z ⟨rfl,hE⟩;exact .inr ⟨rfl,bad (by omega),hE⟩
     ·refine aL (by simp only[↓aB,aA,rE,↓reduceIte,Aa hhi]) (aI ?_);exact .inl ⟨rfl,rfl,rfl,by omega,by omega,by omega,by refine⟨?_,?_,?_,?_,?_,?_,?_⟩<;>simp only[↓aB,aA,rE,↓reduceIte,p1,p2,p4,p5,p6,p7]⟩
   clear p1 p2 p4 p5 p6 p7;rintro o ⟨F,inr⟩ Z (⟨rfl,q0,rfl,c1,c2,c3,p1,p2,p4,p5,p6,p7,p8⟩ | ⟨rfl,hl,hE⟩);rotate_left
   ·exact .inr ⟨rfl,hl,hE⟩
   simp only at q0 p1 p2 p4 p5 p6 p7 p8;subst q0;have ia:=eO (b:=S2.nx) (o:=false) c2;rw[c3] at p8;try simp only[↓aB,aA,rE,↓reduceIte]
   refine aF ?_;simp only[↓aB,aA,rE,↓reduceIte,p5,p8,aG,ia];refine eT (fun call=>by simp only[↓aB,aA,rE,↓reduceIte,dN];exact stB (w:=true) (S:=Z) gB (by rw[hb.len];exact c2)) ?_;simp only[↓aB,aA,rE,↓reduceIte];refine aF ?_;simp only[↓aB,aA,rE,↓reduceIte,p7,dL (a:=j) (by omega)];exact⟨k - 1,by omega,rfl,hY.put _,by simp only[↓aB,aA,rE,↓reduceIte,p1],by simp only[↓aB,aA,rE,↓reduceIte,p2],by simp only[↓aB,aA,rE,↓reduceIte,p4],by simp only[↓aB,aA,rE,↓reduceIte,p5],by simp only[↓aB,aA,rE,↓reduceIte,p6],j+1,_,by omega,by simp only[↓aB,aA,rE,↓reduceIte],by simp only;rw[T.get_set,if_pos rfl],hb.kid hj (hc.symm.trans c3) c1 c2⟩
  clear p1 p2 p4 p5 p6 gB hb hX;rintro o ⟨F,inr⟩ Y (⟨rfl,q0,hY,p1,p2,p4,p5,p6,j,sv,hjk,p7,gB,hb⟩ | ⟨rfl,hl,hE⟩);rotate_left
  ·exact .inr ⟨rfl,hl,hE⟩
  simp only at q0 p1 p2 p4 p5 p6;subst q0;obtain rfl:j=(nodeAt h i).next.length:=by omega
  try simp only[↓aB,aA,rE,↓reduceIte]
  refine aF ?_;simp only[↓aB,aA,rE,↓reduceIte,p6,dL (a:=i) (by omega)];exact⟨k - 1,by omega,rfl,hY,by simp only[↓aB,aA,rE,↓reduceIte,p1],by simp only[↓aB,aA,rE,↓reduceIte,p2],by simp only[↓aB,aA,rE,↓reduceIte,p4],by simp only[↓aB,aA,rE,↓reduceIte,p5],i+1,sv,by omega,by simp only[↓aB,aA,rE,↓reduceIte],gB,hb.next⟩
 rintro o ⟨F,inr⟩ X (⟨rfl,q0,hX,p1,p2,p4,p5,i,sv,hik,p6,gB,hb⟩ | ⟨rfl,hl,hE⟩);rotate_left
 ·exact leave (pQ hl) (by decide) hE
 simp only at q0 p1 p2 p4 p5;subst q0;obtain rfl:i=h.nodes.length:=by omega
 clear p6 hik;have sX:=bB.same s13 hX (by omega);have gX:=(hX.2 _ (show S.nx<S3.nx by omega) (by omega)).trans gg;have rX:=(hX.2 _ (show S1.nx<S3.nx by omega) (by omega)).trans gr;obtain⟨x,l,el⟩:∃x l,sv=x::l:=by
  cases sv with
  | nil=>have:=hb.len;simp at this;omega
  | cons x l=>exact⟨x,l,rfl⟩
 have hlk:=hb.link el;try simp only[↓aB,aA,rE,↓reduceIte,rA]
 refine aC (aT (Q:=fun o A' Y=>(o= .normal∧XlC h X S.nx S1.nx S2.nx sv 0 A' Y)∨(o= .ret∧¬jB h∧aGu S S1.nx 3 A' Y)) (aC (aF ?_)) ?_)
 ·simp only[↓aB,aA,rE,↓reduceIte,rA];refine aK (bG (XlC h X S.nx S1.nx S2.nx sv) ?_ (h.nodes.length - 1) _ _ ⟨rfl,rfl,by simp only[↓aB,aA,rE,↓reduceIte,p1],by simp only[↓aB,aA,rE,↓reduceIte,p2],by simp only[↓aB,aA,rE,↓reduceIte,p4],by simp only[↓aB,aA,rE,↓reduceIte,p5],1,by omega,Ah _,by simp only[↓aB,aA,rE,↓reduceIte];try rfl,fun u h1 h2=>by omega⟩);clear p1 p2 p4 p5;rintro k ⟨F,inr⟩ Y ⟨q0,rfl,p1,p2,p4,p5,j,hjk,hj1,p9,hall⟩;simp only at q0 p1 p2 p4 p5 p9;subst q0;refine fY ?_;simp only[↓aB,aA,rE,↓reduceIte,p4,p9,qT];by_cases hj:j<h.nodes.length;rotate_left
  ·refine aL (by simp only[↓aB,aA,rE,↓reduceIte,Aa hj]) (bD ?_);obtain rfl:k=0:=by omega
   exact .inl ⟨rfl,rfl,rfl,by simp only[↓aB,aA,rE,↓reduceIte,p1],by simp only[↓aB,aA,rE,↓reduceIte,p2],by simp only[↓aB,aA,rE,↓reduceIte,p4],by simp only[↓aB,aA,rE,↓reduceIte,p5],j,hjk,hj1,by simp only[↓aB,aA,rE,↓reduceIte,p9],hall⟩
  refine aN (by simp only[↓aB,aA,rE,↓reduceIte,Ab hj]) (aI ?_);try simp only[↓aB,aA,rE,↓reduceIte]
  have ia:=eO (b:=S2.nx) (o:=false) hj;have la:=aM1 gB (show j<sv.length by rw[hb.len];exact hj);refine aC (aK (aC (aF ?_)));simp only[↓aB,aA,rE,↓reduceIte,p5,p9,aG,ia,la,eC];cases hg:sv.getD j false with
  | false=>
   refine aN (by simp only[↓aB,aA,rE,↓reduceIte,Bk]) (aT (uK rX (by omega) sX (by simp only[↓aB,aA,rE,↓reduceIte,p2]) (by decide)) ?_);rintro o A' Z ⟨rfl,hE⟩;refine .inr ⟨rfl,fun hL=>?_,hE⟩;refine hlk.2 hL ?_;rw[el] at hg;have hjl:j - 1<l.length:=by have:=hb.len;rw[el,Am] at this;omega
   have:l[j - 1]=false:=by
    rw[Ag,show j=(j - 1)+1 by omega,Dw,Ad hjl] at hg;exact hg
   rw[←this];exact Co hjl
  | true=>
   refine aL (by simp only[↓aB,aA,rE,↓reduceIte,Bd]) (aI ?_);try simp only[↓aB,aA,rE,↓reduceIte]
   refine aF ?_;simp only[↓aB,aA,rE,↓reduceIte,p9,dL (a:=j) (by omega)];refine⟨k - 1,by omega,rfl,rfl,by simp only[↓aB,aA,rE,↓reduceIte,p1],by simp only[↓aB,aA,rE,↓reduceIte,p2],by simp only[↓aB,aA,rE,↓reduceIte,p4],by simp only[↓aB,aA,rE,↓reduceIte,p5],j+1,by omega,by omega,by simp only[↓aB,aA,rE,↓reduceIte],fun u h1 h2=>?_⟩;by_cases e:u=j
   ·rw[e];exact hg
   ·exact hall u h1 (by omega)
 rintro o ⟨F,inr⟩ Y (⟨rfl,q0,rfl,p1,p2,p4,p5,j,hjk,hj1,p9,hall⟩ | ⟨rfl,hl,hE⟩);rotate_left
 ·exact leave (pQ hl) (by decide) hE
 simp only at q0 p1 p2;subst q0;have hL:jB h:=hlk.1 fun hm=>by
  obtain⟨u,hu⟩:=Dj hm;have hul:=(Af.1 hu).1;have hlen:=hb.len;rw[el,Am] at hlen;have:=hall (u+1) (by omega) (by omega);rw[el,Ag,Dw,hu] at this;cases this
 clear p4 p5 p9 hall hjk hj1;have hK:=hL.2.1;have sY:Same S Y:=sX;have gY:Y.h.get S.nx=some (.cells [.int .i64 h.players,nv,iv] false 0):=gX;have rY:Y.h.get S1.nx=some (.cells [.int .i64 0,.nilsl,.nilsl] false 0):=rX;have nY:S3.nx≤Y.nx:=hX.1;have lagg:cE (.ptr S.nx 0) true 3 Y.h=some (.agg [.int .i64 h.players,nv,iv]):=fG gY;try simp only[↓aB,aA,rE,↓reduceIte,rA]
 refine fY ?_;simp only[↓aB,aA,rE,↓reduceIte,rA,p1,lagg];refine aY ?_;simp only[↓aB,aA,rE,↓reduceIte,rA];refine aO (aHu H hL (aQ.same (E:=cC) bR hn sY) hN hB) ?_;rintro r Z ⟨⟨M,iM,lM,vM⟩,sZ⟩;have iaM:=iM.iaddr lM;have laM:=iM.ld lM;rw[vM] at laM;have nz:eZ (.int .i64 0)=some 0:=rfl;have gZ:=(sZ.2 _ (show S.nx<Y.nx by omega)).trans gY;have rZ:=(sZ.2 _ (show S1.nx<Y.nx by omega)).trans rY;have sSZ:=sY.trans sZ;have nZ:=sZ.1;simp only[↓aB,aA,rE,↓reduceIte,rA,nz,iaM,laM];by_cases hs:jC h 0≤2000;rotate_left
 ·have hc:jI (jC h 0)>2000:=by unfold jI;rw[if_neg hs];decide
  refine aN (by simp only[↓aB,aA,rE,↓reduceIte,rA];exact Ce _ (Ab hc)) (aT (uK rZ (by omega) sSZ (by simp only[↓aB,aA,rE,↓reduceIte,rA,p2]) (by decide)) ?_);rintro o A X ⟨rfl,hE⟩;exact leave (aB1 hL hs) (by decide) hE
 have hc:¬jI (jC h 0)>2000:=by unfold jI;rw[if_pos hs];omega
 refine aL (by simp only[↓aB,aA,rE,↓reduceIte,rA];exact Ce _ (Aa hc)) (aI ?_);try simp only[↓aB,aA,rE,↓reduceIte,rA]
 have laggZ:cE (.ptr S.nx 0) true 3 Z.h=some (.agg [.int .i64 h.players,nv,iv]):=fG gZ;have sagg:bW (.agg [.int .i64 h.players,nv,iv]) (.agg [.int .i64 h.players,nv,iv])=true:=kS (dG ..) sn siv;have lZ:S.nx<Z.nx:=by omega
 refine aC (fP (fun _=>False) ?_);intro W1 w1 hW1 nW1;simp only[Am,Bg,rA] at nW1;simp only[↓sU,sD,rE,↓reduceIte,rA,p1,aE,aW,aD,lC gZ,laggZ,lZ,An,sagg];refine bS rfl ?_;simp only[↓sU,sD,rE,↓reduceIte,rA];have sSW1:=sSZ.trans w1;have hV0:yZ W1 W1 ⟨.nilsl,[]⟩:=⟨.inl ⟨rfl,rfl⟩,fun a ha=>(by cases ha),fun i j a b _ ha=>(by simp at ha)⟩;refine aO (yR (m:=⟨.nilsl,[]⟩) (v:=0) (f:=h.nodes.length) H hK hT (aQ.same (E:=cC) bR hn sSW1) (aQ.same (E:=dI) cR hi sSW1) h0 (by omega) hV0 (Same.refl _) (by show 0+_≤_;omega)) ?_;rintro _ W2 ⟨m,l2,rfl,elm,e2,hVm,KV⟩;have elm:m.l=l2:=elm;rw[←elm] at e2;have e2:m.l.map (·.1)=oV h h.nodes.length 0 0:=e2;have w2:Same W1 W2:=⟨KV.1,fun c hc=>(KV.2 c hc ⟨fun e=>(by cases e),fun a ha=>(by cases ha)⟩).1⟩;refine⟨w2,?_⟩;have nW2:=w2.1;simp only[↓sU,sD,rE,↓reduceIte,rA,p1,aE,aW,aD,jD gZ,lZ,An,siv,oN];obtain⟨U1,hU1⟩:∃U:St,U=⟨W2.h.set (Z.nx+4) (some (.cells [] false 0)),W2.nx⟩:=⟨_,rfl⟩;have sSW2:=sSW1.trans w2;have sU1:Same Z U1:=by rw[hU1];exact⟨by show Z.nx≤W2.nx;omega,fun c hc=>by simp only;rw[T.get_set,if_neg (by omega)];exact(w1.trans w2).2 c hc⟩
 have gU1:U1.h.get (Z.nx+4)=some (.cells [] false 0):=by rw[hU1];simp only;rw[T.get_set,if_pos rfl]
 have nU1:U1.nx=W2.nx:=by rw[hU1]
 obtain⟨jv,V1,f1,ij,v1,kj⟩:=aIg (k:=2) (bytes:=16) (E:=dI) (l:=h.infos) cR (by decide) gU1 (by omega) (aQ.same (E:=dI) cR hi (sSZ.trans sU1)) (by have:=hT.1;unfold room;omega) (by have:=hT.1;unfold room;omega);refine lN rfl (by rw[cJ rfl];simp only[↓sU,sD,rE,↓reduceIte,rA];rw[←hU1];exact f1) ?_ ?_
 ·rw[cJ rfl,←hU1];exact⟨v1.1,fun c hc _=>v1.2 c (by omega)⟩
 rw[cJ rfl];have nV1:=v1.1;have hjl1:∀c,aX jv=some c→c<V1.nx:=fun c hc=>by
  rcases ij with⟨_,rfl | rfl⟩ | ⟨b,off,cap,o,cs,rfl,_,hb,_⟩
  ·cases hc
  ·cases hc
  ·cases hc;exact hb
 have hjb:∀c,aX jv=some c→Z.nx≤c∧c≠Z.nx+9:=fun c hc=>by rcases kj c hc with h | h<;>omega
 simp only[↓sU,sD,rE,↓reduceIte,rA,iV];rw[aO0 (ps:=h.players) (a:=m.na) (b:=jv) (by simp only[↓sU,sD,rE,↓reduceIte,rA]) (by simp only[↓sU,sD,rE,↓reduceIte,rA]) (by simp only[↓sU,sD,rE,↓reduceIte,rA]) hVm.nod.cells (yG ij)];simp only[↓sU,sD,rE,↓reduceIte,rA,pM,fC,rA];refine tK (by rfl) rfl (by simp only[↓sU,sD,rE,↓reduceIte,rA]) (by simp only[↓sU,sD,rE,↓reduceIte,rA,bE];rfl) rfl rfl (by omega) ?_;intro V zV nV gV;simp only[↓sU,sD,rE,↓reduceIte,rA];have sZV:Same Z V:=zV.same (sU1.trans v1) (by omega);have kW:∀c,W1.nx≤c→c<W2.nx→V.h.get c=W2.h.get c:=fun c h1 h2=>by
  rw[zV.2 c (by omega) (by omega),v1.2 c (by omega),hU1];simp only;rw[T.get_set,if_neg (by omega)]
 have hVV:yZ W1 V m:=hVm.keep (by have:=zV.1;omega) kW;have ijV:aQ 2 dI V jv h.infos:=aQ.moveB ij zV.1 (fun c hc=>zV.2 c (hjl1 c hc) (hjb c hc).2) fun _ _ h=>h;have hNew:=yZ.newG (S:=Z) (p:=h.players) hVV (by omega) ijV fun c hc=>⟨(hjb c hc).1,by have:=hjl1 c hc;have:=zV.1;omega⟩;rw[e2] at hNew;have hGV:gE V (.agg [.int .i64 h.players,m.na,jv]) (fR h):=hNew V (Ah _) fun _ _ _=>rfl;obtain⟨na,jv',en,g1,g2'⟩:=hGV;cases en;have hGl:(fR h).nodes.length≤100000:=by rw[aG0];omega
 have nV':=sZV.1;have sSV:=sSZ.trans sZV;have gbV:=(sZV.2 _ lZ).trans gZ;have rV:=(sZV.2 _ (show S1.nx<Z.nx by omega)).trans rZ;have laggV:cE (.ptr (Z.nx+9) 0) true 3 V.h=some (.agg [.int .i64 h.players,m.na,jv]):=fG gV;have laggH:cE (.ptr S.nx 0) true 3 V.h=some (.agg [.int .i64 h.players,nv,iv]):=fG gbV;have saggV:bW (.agg [.int .i64 h.players,m.na,jv]) (.agg [.int .i64 h.players,m.na,jv])=true:=kS (dG ..) (aQ.self g1) (aQ.self g2');have lV:Z.nx+9<V.nx:=by omega
 have lgV:S.nx<V.nx:=by omega
 refine aC (aT (Q:=fun o A' X=>(o= .normal∧A'.inr=false∧Same V X∧(fH (fR h)=0∧aDJ h)∧aH 2 A'.F= .ptr S1.nx 0∧aH 10 A'.F= .ptr (Z.nx+9) 0)∨(o= .ret∧¬ (fH (fR h)=0∧aDJ h)∧aGu S S1.nx 3 A' X)) (aC (fP (fun _=>False) ?_)) ?_)
 ·intro K1 k1 hK1 nK1;simp only[↓sU,sD,rE,↓reduceIte,rA,laggV,lV,An,saggV];refine bS rfl ?_;simp only[↓sU,sD,rE,↓reduceIte,rA];refine aO (aIi (g:=fR h) H (aQ.same (E:=cC) bR g1 k1) (aQ.same (E:=dI) cR g2' k1) hGl) ?_;rintro _ K2 ⟨rfl,k2⟩;refine⟨k2,?_⟩;have sK2:=k1.trans k2;by_cases hf:fH (fR h)=0;rotate_left
  ·simp only[↓sU,sD,rE,↓reduceIte,rA,Ab (show fH (fR h)≠0 from hf)];refine aN (by simp only[↓sU,sD,rE,↓reduceIte,rA]) (aT (uK ((sK2.2 _ (show S1.nx<V.nx by omega)).trans rV) (by omega) (sSV.trans sK2) (by simp only[↓sU,sD,rE,↓reduceIte,rA,p2]) (by decide)) ?_);rintro o A' X ⟨rfl,hE⟩;exact .inr ⟨rfl,fun e=>hf e.1,hE⟩
  have G:=xU hf;have hGK:gE K2 (.agg [.int .i64 (fR h).players,m.na,jv]) (fR h):=⟨m.na,jv,rfl,aQ.same (E:=cC) bR g1 sK2,aQ.same (E:=dI) cR g2' sK2⟩;simp only[↓sU,sD,rE,↓reduceIte,rA,Aa (show ¬fH (fR h)≠0 from fun e=>e hf),laggV,lV,An,saggV];refine bS rfl ?_;simp only[↓sU,sD,rE,↓reduceIte,rA];refine aO (aFo H G (fun i hi=>(aAu hf i hi).2) hGK) ?_;rintro mr K3 ⟨k3,F,C,hC,hNm⟩;refine⟨k3,?_⟩;obtain⟨mn,mi,rfl,m1,m2⟩:=hNm K3 (Ah _) fun _ _ _=>rfl;have hm:(aA4 (fR h) F C).nodes=h.nodes↔aDJ h:=by
   constructor
   ·intro e;exact⟨F,C,hC,e⟩
   ·rintro⟨F',C',hC',e⟩;obtain⟨rfl,rfl⟩:=aDW (iL G) hC hC';exact e
  have hR:aPa (fR h) (aA4 (fR h) F C):=⟨fun _=>⟨F,C,hC,rfl⟩,fun e=>absurd hf e⟩;obtain⟨hTm,hml⟩:=aJ6 hR;have sK3:=sK2.trans k3;have sSK3:=sSV.trans sK3;try simp only[↓sU,sD,rE,↓reduceIte,rA,p1,laggH,lgV,An,sagg]
  refine bS rfl ?_;simp only[↓sU,sD,rE,↓reduceIte,rA];refine aO (aCI (p:=h.players) H m1 m2 (aQ.same (E:=cC) bR hn sSK3) (aQ.same (E:=dI) cR hi sSK3) (by have:=hT.1;show h.infos.length≤_;omega) hTm.2 hml) ?_;rintro _ K4 ⟨⟨t,rfl,ht⟩,k4⟩;refine⟨k4,?_⟩;have sK4:=sK3.trans k4;have hiff:=ht.trans hm;simp only[↓sU,sD,rE,↓reduceIte,rA,eC];cases t with
  | true=>
   refine aL (by simp only[↓sU,sD,rE,↓reduceIte,rA,Bd]) (aI ?_);exact .inl ⟨rfl,rfl,sK4,⟨hf,hiff.1 rfl⟩,by refine⟨?_,?_⟩<;>simp only[↓sU,sD,rE,↓reduceIte,rA,p2]⟩
  | false=>
   refine aN (by simp only[↓sU,sD,rE,↓reduceIte,rA,Bk]) (aT (uK ((sK4.2 _ (show S1.nx<V.nx by omega)).trans rV) (by omega) (sSV.trans sK4) (by simp only[↓sU,sD,rE,↓reduceIte,rA,p2]) (by decide)) ?_);rintro o A' X ⟨rfl,hE⟩;exact .inr ⟨rfl,fun e=>absurd (hiff.2 e.2) (by decide),hE⟩
 rintro o ⟨F,inr⟩ X (⟨rfl,q0,sVX,hm,q2,q10⟩ | ⟨rfl,hm,hE⟩);rotate_left
 ·exact leave (aBb hL hs hm) (by decide) hE
 simp only at q0 q2 q10;subst q0;have he:=aIV hL hs hm;have ho:mH h=fR h:=by unfold mH;rw[if_pos he]
 have gX:=(sVX.2 _ lV).trans gV;have rX:=(sVX.2 _ (show S1.nx<V.nx by omega)).trans rV;have lX:cE (.ptr (Z.nx+9) 0) true 3 X.h=some (.agg [.int .i64 h.players,m.na,jv]):=fG gX;have nVX:=sVX.1;try simp only[↓aB,aA,rE,↓reduceIte,rA]
 refine bL ?_;simp only[↓aB,aA,rE,↓reduceIte,rA,q2,q10,lX];refine eF (b:=S1.nx) (cs':=[.int .i64 h.players,m.na,jv]) (by simp only[↓aB,aA,rE,↓reduceIte,rA,q2]) (by simp only[↓aB,aA,rE,↓reduceIte,rA];exact bE _) rX rfl rfl ?_;intro E e ne ge;simp only[↓aB,aA,rE,↓reduceIte,rA];refine aR ?_;simp only[↓aB,aA,rE,↓reduceIte,rA,q2,fD,ld3 ge];rw[he,ho];have nE:=e.1;exact⟨_,rfl,e.same (sSV.trans sVX) (by omega),fun X2 m2 k2=>hNew X2 (by omega) fun c h1 h2=>(k2 c (by omega) (by omega)).trans ((e.2 c (by omega) (by omega)).trans (sVX.2 c h2))⟩
end Go.Ev.Gl
