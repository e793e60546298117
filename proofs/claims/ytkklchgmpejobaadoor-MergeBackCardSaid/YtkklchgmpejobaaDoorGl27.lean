import Derived.Test.YtkklchgmpejobaaDoorGl26
open Nat renaming reduceEqDiff → rE, reduceAdd → rA
set_option maxHeartbeats 16000000
set_option linter.unusedSimpArgs false
set_option linter.unusedVariables false
namespace Go.Ev.Gl
variable {fns:T dB}
section
variable {g:bM}{F:List Nat}{C:List Int}
def uZ(C:List Int)(v:Nat):Nat:=(C.getD v 0).toNat
theorem kQ.at_(h:kQ g (htL g) F C){v:Nat}(hv:v<g.nodes.length):∃q,F[uZ C v]? =some q∧C.getD v 0=((uZ C v:Nat):Int)∧q<g.nodes.length∧oD g q=true∧EqS g q v:=by
 obtain⟨p,q,h1,h2,h3⟩:=h.cls v hv;obtain⟨m1,m2⟩:=h.mem (Aw h1);have e:uZ C v=p:=by unfold uZ;rw[h2];rfl
 exact⟨q,by rw[e];exact h1,by rw[e];exact h2,m1,m2,h3⟩
theorem kQ.nodup(h:kQ g (htL g) F C){i j q:Nat}(hi:F[i]? =some q)(hj:F[j]? =some q):i=j:=by
 have hr:((List.range g.nodes.length).filter (oD g)).Nodup:=List.nodup_range.filter _;have hn:F.Nodup:=h.perm.nodup_iff.2 hr;have a:=(Ae.1 hi).1;exact(List.getElem?_inj a hn).1 (hi.trans hj.symm)
theorem aNA(hK:eI g)(h:kQ g (htL g) F C){a b:Nat}(ha:a<g.nodes.length)(hb:b<g.nodes.length):C.getD a 0=C.getD b 0↔EqS g a b:=by
 obtain⟨q,a1,a2,a3,a4,a5⟩:=h.at_ ha;obtain⟨r,b1,b2,b3,b4,b5⟩:=h.at_ hb;constructor
 ·intro e;have e2:uZ C a=uZ C b:=by unfold uZ;rw[e]
  rw[e2,b1] at a1;have e3:r=q:=Cf a1;exact kJ hK a ha r b3 b hb (pS hK r b3 a ha (by rw[e3];exact a5)) b5
 ·intro e;have e2:EqS g q r:=kJ hK q a3 b hb r b3 (kJ hK q a3 a ha b hb a5 e) (pS hK r b3 b hb b5);have e3:=tG hK a3 b3 a4 b4 e2;rw[a2,b2,h.nodup a1 (by rw[e3];exact b1)]
theorem aMR(hK:eI g)(h:kQ g (htL g) F C){a b:Nat}(ha:a<g.nodes.length)(hb:b<g.nodes.length)(e:EqS g a b):pP g C a=pP g C b:=by
 obtain⟨⟨e1,e2,e3,e4,e5⟩,e6,e7⟩:=(oP hK ha hb).1 e;have en:(nodeAt g a).next.map (fun c=>C.getD c.toNat 0)=(nodeAt g b).next.map fun c=>C.getD c.toNat 0:=by
  refine Eg (by rw[Bc,Bc,e6]) fun i i1 i2=>?_;rw[Bc] at i1 i2;rw[Ef,Ef];obtain⟨k1,k2,k3⟩:=hK a ha i i1;obtain⟨k4,k5,k6⟩:=hK b hb i i2;have ea:(nodeAt g a).next[i].toNat=jP g a i:=by unfold jP;rw[Ah,Ad i1];rfl
  have eb:(nodeAt g b).next[i].toNat=jP g b i:=by unfold jP;rw[Ah,Ad i2];rfl
  rw[ea,eb];exact(aNA hK h k2 k5).2 (e7 i i1)
 exact aD2 e1 e2 e3 en e4 e5
theorem aGg(hK:eI g)(h:kQ g (htL g) F C){v:Nat}(hv:v<g.nodes.length):uZ C v<(jA g F C).nodes.length∧nodeAt (jA g F C) (uZ C v)=pP g C v:=by
 obtain⟨q,h1,h2,h3,h4,h5⟩:=h.at_ hv;have e:(jA g F C).nodes[uZ C v]? =some (pP g C q):=by
  show(F.map (pP g C))[uZ C v]? =_;rw[Bi,h1];rfl
 exact⟨(Ae.1 e).1,(pI e).trans (aMR hK h h3 hv h5)⟩
theorem aGv{u:Nat→Nat→List bS}{rec:Nat→Option (List fR)}(hu:∀r L,rec r=some L→u (uZ C r) r=(g.nodes.drop r).take L.length∧r+L.length≤g.nodes.length):∀ {l:List Int} {r:Nat} {L:List fR},iG rec l r=some L→iE u (l.map fun c=>C.getD c.toNat 0) r=(l,(g.nodes.drop r).take L.length)
 | [],r,L,h=>by
  cases h;rfl
 | c::l,r,L,h=>by
  simp only[iG] at h;split at h
  ·rename_i hc;obtain⟨L1,h1,h2⟩:=Dt.1 h;obtain⟨L2,h3,rfl⟩:=Av.1 h2;obtain⟨e1,e2⟩:=hu r L1 h1;have ih:=aGv hu h3;have ec:(C.getD c.toNat 0).toNat=uZ C r:=by rw[hc];rfl
   have el:((g.nodes.drop r).take L1.length).length=L1.length:=by rw[Bz,Cy];omega
   rw[Cz];unfold iE;rw[ec,e1,el,ih,←hc,Ai];refine Prod.ext rfl ?_;show(g.nodes.drop r).take L1.length++(g.nodes.drop (r+L1.length)).take L2.length=_;rw[←List.drop_drop,←List.take_add]
  ·cases h
theorem aGt(hK:eI g)(h:kQ g (htL g) F C):∀ {f at_:Nat} {p d:Int} {L:List fR},jL g.nodes.length (jX g) f at_ p d=some L→pQ (jA g F C) f (uZ C at_) at_=(g.nodes.drop at_).take L.length
 | 0,_,_,_,_,hw=>by cases hw
 | f+1,a,p,d,L,hw=>by
  simp only[jL] at hw;split at hw
  ·rename_i hlt;obtain⟨L',h1,rfl⟩:=Av.1 hw;have ha:a<g.nodes.length:=hlt;obtain⟨_,e⟩:=aGg hK h ha;rw[xF] at h1;have hk:=aGv (g:=g) (C:=C) (u:=pQ (jA g F C) f) (fun r L hr=>⟨aGt hK h hr,(xH hr).1⟩) h1;have en:(pP g C a).next=(nodeAt g a).next.map fun c=>C.getD c.toNat 0:=rfl;unfold pQ;rw[e,en,hk];have ed:g.nodes.drop a=nodeAt g a::g.nodes.drop (a+1):=by
    rw[Dp ha];congr 1;have:=eK ha;rw[Ad ha] at this;exact Cf this
   rw[ed,An,Bj];rfl
  ·cases hw
theorem aId(hK:eI g):∀a,a<g.nodes.length→∀b,b<g.nodes.length→EqS g a b→qH g a=qH g b:=sQ fun a ha ih b hb e=>by
 obtain⟨_,e6,e7⟩:=(oP hK ha hb).1 e;rw[aCN hK ha,aCN hK hb];have en:(nodeAt g a).next.map (fun c=>qH g c.toNat)=(nodeAt g b).next.map fun c=>qH g c.toNat:=by
  refine Eg (by rw[Bc,Bc,e6]) fun i i1 i2=>?_;rw[Bc] at i1 i2;rw[Ef,Ef];obtain⟨k1,k2,k3⟩:=hK a ha i i1;obtain⟨k4,k5,k6⟩:=hK b hb i i2;have ea:(nodeAt g a).next[i].toNat=jP g a i:=by unfold jP;rw[Ah,Ad i1];rfl
  have eb:(nodeAt g b).next[i].toNat=jP g b i:=by unfold jP;rw[Ah,Ad i2];rfl
  rw[ea,eb];exact ih _ k1 k2 _ k5 (e7 i i1)
 have key:∀ (l m:List Int) (z:Int),l.map (fun c=>qH g c.toNat)=m.map (fun c=>qH g c.toNat)→l.foldl (fun m c=>mx m (qH g c.toNat+1)) z=m.foldl (fun m c=>mx m (qH g c.toNat+1)) z:=fun l=>by
  induction l with
  | nil=>
   intro m z h;cases m with
   | nil=>rfl
   | cons c m=>cases h
  | cons c l ih=>
   intro m z h;cases m with
   | nil=>cases h
   | cons d m=>
    rw[Cz,Cz,Er] at h;rw[Dq,Dq,h.1];exact ih m _ h.2
 exact key _ _ _ en
theorem aIl(hK:eI g){a:Nat}(ha:a<g.nodes.length){c:Int}(hc:c∈(nodeAt g a).next):qH g c.toNat<qH g a:=by
 rw[aCN hK ha];have:=(aBP (fun c=>qH g c.toNat+1) (nodeAt g a).next 0).2 c hc;omega
theorem aFK(G:aAo g):∀v,v<g.nodes.length→0<v→qH g v<qH g 0:=by
 have hK:=lQ G;obtain⟨T,hT,hl,hw⟩:=G.walk;have key:∀v,v<g.nodes.length→qH g v≤qH g 0∧(0<v→qH g v<qH g 0):=fun v=>by
  induction v using Nat.strongRecOn with
  | _ v ih=>
   intro hv;by_cases h0:v=0
   ·subst h0;exact⟨Int.le_refl _,fun h=>absurd h (Nat.lt_irrefl _)⟩
   ·obtain⟨q,h1,h2,h3⟩:=hw.pf v (by omega) (by omega);rw[Ap,Ap,xF] at h3;have:=aIl hK (show q<g.nodes.length by omega) h3;rw[De] at this;have:=(ih q h1 (by omega)).1;exact⟨by omega,fun _=>by omega⟩
 exact fun v h1 h2=>(key v h1).2 h2
theorem kQ.lt(hK:eI g)(h:kQ g (htL g) F C){i j q r:Nat}(hi:F[i]? =some q)(hj:F[j]? =some r)(hh:qH g r<qH g q):i<j:=by
 obtain⟨i1,i2⟩:=Ae.1 hi;obtain⟨j1,j2⟩:=Ae.1 hj;have hq:=(h.mem (Aw hi)).1;have hr:=(h.mem (Aw hj)).1;rcases Nat.lt_trichotomy i j with e | e | e
 ·exact e
 ·subst e;rw[hi] at hj;cases hj;omega
 ·have:=Dn.1 h.srt j i j1 i1 e;rw[i2,j2] at this;unfold bef at this;rw[xA hq,xA hr] at this;omega
theorem aEa(G:aAo g)(h:kQ g (htL g) F C):qC (jA g F C)∧uZ C 0=0:=by
 have hK:=lQ G;have h0:=G.n1;have lnF:(jA g F C).nodes.length=F.length:=Bc ..;obtain⟨q0,a1,a2,a3,a4,a5⟩:=h.at_ h0;have e0:q0=0:=by
  by_cases e:q0=0
  ·exact e
  ·have:=aFK G q0 a3 (by omega);have:=aId hK q0 a3 0 h0 a5;omega
 subst e0;have c0:uZ C 0=0:=by
  rcases Cd (uZ C 0) with e | e
  ·exact e
  ·have lt:=(Ae.1 a1).1;obtain⟨r,hr⟩:∃r,F[0]? =some r:=⟨_,Ad (by omega)⟩;have hrl:=(h.mem (Aw hr)).1;by_cases er:r=0
   ·subst er;exact(h.nodup a1 hr)
   ·have:=h.lt hK a1 hr (aFK G r hrl (by omega));omega
 refine⟨⟨?_,?_,fun j j1 j2=>?_⟩,c0⟩
 ·rw[lnF];exact Di (Cb _) (Ae.1 a1).1
 ·refine uK.2 fun a ha c hc=>?_;obtain⟨q,hq⟩:∃q,F[a]? =some q:=⟨_,Ad (by rw[←lnF];exact ha)⟩;have hql:=(h.mem (Aw hq)).1;have en:nodeAt (jA g F C) a=pP g C q:=pI (by show(F.map _)[a]? =_;rw[Bi,hq];rfl);rw[en] at hc;obtain⟨k,hk,rfl⟩:=Ej.1 hc;obtain⟨_,k2⟩:=qB (hK:=hK) hql hk;obtain⟨r,r1,r2,r3,r4,r5⟩:=h.at_ k2;have hh:=aIl hK hql hk;rw[←aId hK r r3 _ k2 r5] at hh;have:=h.lt hK hq r1 hh;have:=(Ae.1 r1).1;rw[r2,lnF];omega
 ·obtain⟨q,hq⟩:∃q,F[j]? =some q:=⟨_,Ad (by rw[←lnF];exact j2)⟩;obtain⟨hql,hqf⟩:=h.mem (Aw hq);have hq0:0<q:=by
   rcases Cd q with e | e
   ·subst e;have:=h.nodup hq a1;omega
   ·exact e
  obtain⟨T,hT,hl,hw⟩:=G.walk;obtain⟨u,u1,_,u3⟩:=hw.pf q hq0 (by omega);rw[Ap,Ap,xF] at u3;have hul:u<g.nodes.length:=by omega
  obtain⟨m1,m2⟩:=aGg hK h hul;refine⟨uZ C u,m1,?_⟩;rw[m2];refine Ej.2 ⟨_,u3,?_⟩;rw[De];obtain⟨r,r1,r2,r3,r4,r5⟩:=h.at_ hql;obtain rfl:=tG hK r3 hql r4 hqf r5;rw[r2,h.nodup r1 hq]
theorem aKK(G:aAo g)(h:kQ g (htL g) F C):iQ (jA g F C)=g∧nB (jA g F C) 0=g.nodes.length:=by
 have hK:=lQ G;obtain⟨hL,c0⟩:=aEa G h;obtain⟨T,hT,hl,hw⟩:=G.walk;have hu:=aGt hK h hT;rw[c0] at hu;have lF:(jA g F C).nodes.length≤g.nodes.length:=by
  show(F.map _).length≤_;rw[Bc,h.perm.length_eq];have:=sO g g.nodes.length;unfold nC at this;exact this
 have e:pQ (jA g F C) (jA g F C).nodes.length 0 0=g.nodes:=by
  rw[aCV hL.2.1 (f':=g.nodes.length+1) hL.1 (by omega) (by omega),hu,hl,Co,Ch]
 have e2:iQ (jA g F C)=g:=by
  unfold iQ;rw[e];rfl
 exact⟨e2,by rw[←aG5,e2]⟩
theorem aJn(hf:gM g=0)(h:kQ g (htL g) F C):aAm (jA g F C)=0∧aGk (jA g F C)=g:=by
 have G:=tS hf;obtain⟨e1,e2⟩:=aKK G h;have he:aAm (jA g F C)=0:=aIN (aEa G h).1 (by rw[e2];exact G.n2) ⟨by rw[e1];exact hf,by unfold aHX;rw[e1];exact⟨F,C,h,rfl⟩⟩;refine⟨he,?_⟩;unfold aGk;rw[if_pos he,e1]
end
theorem aGj{S:St}{v:AV}{h:bM}(H:Has fns)(hv:nN S v h)(hT:aHk h)(hN:h.nodes.length≤100000)(h10:jW S):fP fns (.fn 19 [] []) [v] S fun r X=>r= .int .i64 (aAm h)∧Same S X:=by
 have hv0:=hv;obtain⟨nv,iv,rfl,hn,hi⟩:=hv;refine cC H.f19 (by simp) ?_;simp only[↓aA,aB,rE,↓reduceIte,rA];refine cD ?_;refine dJ (by simp only[↓aA,aB,rE,↓reduceIte];exact bK _) ?_;intro S1 s1 n1 c1;simp only[↓aA,aB,rE,↓reduceIte,rA];have lagg:cW (.ptr S.nx 0) true 3 S1.h=some (.agg [.int .i64 h.players,nv,iv]):=gS c1;refine cD ?_;simp only[↓aA,aB,rE,↓reduceIte,rA,lagg];refine bB ?_;simp only[↓aA,aB,rE,↓reduceIte,rA];refine aN (aAi H (hv0.same s1) hT hN (h10.same s1)) ?_;rintro _ X ⟨gv,rfl,sX,hg⟩;obtain⟨a,b,rfl,_⟩:=hg X (Ag _) fun _ _ _=>rfl;simp only[↓aA,aB,rE,↓reduceIte,rA,ex0,ex1];refine cR ?_;intro X1 t1 m1 d1;try simp only[↓aA,aB,rE,↓reduceIte,rA]
 refine fB (b:=X.nx) (cs':=[.int .i64 (aGk h).players,a,b]) (by simp only[↓aA,aB,rE,↓reduceIte,rA]) (by simp only[↓aA,aB,rE,↓reduceIte,rA];exact bK _) d1 rfl rfl ?_;intro X2 t2 m2 d2;simp only[↓aA,aB,rE,↓reduceIte,rA];refine cD ?_;simp only[↓aA,aB,rE,↓reduceIte,rA];refine aU ?_;simp only[↓aA,aB,rE,↓reduceIte,rA];exact(s1.trans sX).trans (t2.same t1 (Ag _))
theorem aJF{g:bM}(h:gM g=0):aHk g:=by
 have G:=tS h;refine⟨by have:=G.ni;omega,fun x hx=>?_⟩;obtain⟨j,hj,rfl⟩:=List.mem_iff_getElem.1 hx;have e:nodeAt g j=g.nodes[j]:=pI (Ad hj);have a:=G.nxt j hj;have b:=(wF h j hj).2;have c:=G.pay j hj;rw[e] at a b c;omega
theorem aKa{S:St}{lv:AV}{dl:List Int}{n:Int}(H:Has fns)(hAw:∀X,Same S X→fP fns (.fn 5 [] []) [] X fun r S'=>r= .bool true∧Same X S')(hL:jW S)(hl:cE .i64 S lv dl)(hb:dl.length≤140737488355328):
  fP fns (.fn 4 [] []) [lv,.int .i64 n] S fun r S'=>r= .bool true∧Same S S':=by
 refine cC H.f4 (by simp) ?_;simp only[↓aA,aB,rE,↓reduceIte,rA];refine cD ?_;simp only[↓aA,aB,rE,↓reduceIte,rA];refine jB ?_;refine bB ?_;try simp only[↓aA,aB,rE,↓reduceIte]
 refine aN (hAw S (Same.refl S)) ?_;rintro _ S1 ⟨rfl,s1⟩;try simp only[↓aA,aB,rE,↓reduceIte,fJ,Bm]
 refine aO (by simp only[↓aA,aB,rE,↓reduceIte]) (aM ?_);try simp only[↓aA,aB,rE,↓reduceIte]
 refine jB ?_;simp only[↓aA,aB,rE,↓reduceIte,rA,hl.len,Al];by_cases hN:(80:Int)<((dl.length:Nat):Int)
 ·refine aT (by simp only[↓aA,aB,rE,↓reduceIte,Ac hN]) (aC (aE ?_));simp only[↓aA,aB,rE,↓reduceIte];refine aU ?_;simp only[↓aA,aB,rE,↓reduceIte];exact s1
 refine aO (by simp only[↓aA,aB,rE,↓reduceIte,Aa hN]) (aM ?_);try simp only[↓aA,aB,rE,↓reduceIte]
 refine cD ?_;simp only[↓aA,aB,rE,↓reduceIte,rA];refine bB ?_;try simp only[↓aA,aB,rE,↓reduceIte]
 refine aN (aEk H (by decide) (by decide)) ?_;rintro _ S2 ⟨s2,y,rfl,y1,y2⟩;have w1:IntKind.i64.wrap (1+y)=1+y:=wrap_i64 (by omega) (by omega);simp only[↓aA,aB,rE,↓reduceIte,rA,w1];refine bB ?_;try simp only[↓aA,aB,rE,↓reduceIte]
 have s12:=s1.trans s2;refine aN (aGm H (hl.same s12) hb (by omega) (by decide)) ?_;rintro _ S3 ⟨s3,g,nv,iv,rfl,hp,hf,hm,_,hn,hi,_⟩;have hT:=aJF hf;have hgl:g.nodes.length≤100000:=by omega
 try simp only[↓aA,aB,rE,↓reduceIte,rA]
 refine cR ?_;intro S4 s4 n4 c4;try simp only[↓aA,aB,rE,↓reduceIte,rA]
 refine fB (b:=S3.nx) (cs':=[.int .i64 g.players,nv,iv]) (by simp only[↓aA,aB,rE,↓reduceIte,rA]) (by simp only[↓aA,aB,rE,↓reduceIte,rA];exact bK _) c4 rfl rfl ?_;intro S5 s5 n5 c5;simp only[↓aA,aB,rE,↓reduceIte,rA];have s35:Same S3 S5:=s5.same s4 (Ag _);have lg5:cW (.ptr S3.nx 0) true 3 S5.h=some (.agg [.int .i64 g.players,nv,iv]):=gS c5;have sS5:=(s12.trans s3).trans s35;refine cD ?_;simp only[↓aA,aB,rE,↓reduceIte,rA,lg5];refine bB ?_;simp only[↓aA,aB,rE,↓reduceIte,rA];refine aN (aBM H (aY.same (E:=dD) cO hn s35) (aY.same (E:=dM) dF hi s35) hgl (hL.same sS5)) ?_;rintro _ S6 ⟨_,rfl,s6,m,⟨mn,mi,rfl,m1,m2⟩,hR⟩;obtain⟨hTm,hml⟩:=aJq hR;obtain⟨F,C,hC,em⟩:=hR.1 hf;obtain⟨eE,eO⟩:=aJn hf hC;rw[←em] at eE eO;have c6:=(s6.2 _ (show S3.nx<S5.nx by omega)).trans c5;have n6:=s6.1;rw[hf];simp only[↓aA,aB,rE,↓reduceIte,rA,ex0,ex1];refine cR ?_;intro S7 s7 n7 c7;try simp only[↓aA,aB,rE,↓reduceIte,rA]
 refine fB (b:=S6.nx) (cs':=[.int .i64 m.players,mn,mi]) (by simp only[↓aA,aB,rE,↓reduceIte,rA]) (by simp only[↓aA,aB,rE,↓reduceIte,rA];exact bK _) c7 rfl rfl ?_;intro S8 s8 n8 c8;simp only[↓aA,aB,rE,↓reduceIte,rA];have s68:Same S6 S8:=s8.same s7 (Ag _);have lg8:cW (.ptr S6.nx 0) true 3 S8.h=some (.agg [.int .i64 m.players,mn,mi]):=gS c8;have sS8:=(sS5.trans s6).trans s68;have hm8:nN S8 (.agg [.int .i64 m.players,mn,mi]) m:=⟨mn,mi,rfl,aY.same (E:=dD) cO m1 s68,aY.same (E:=dM) dF m2 s68⟩;refine cD ?_;simp only[↓aA,aB,rE,↓reduceIte,rA,lg8];refine bB ?_;simp only[↓aA,aB,rE,↓reduceIte,rA];refine aN (aAi H hm8 hTm hml (hL.same sS8)) ?_;rintro _ S9 ⟨gv,rfl,s9,hg⟩;obtain⟨bn,bi,rfl,b1,b2⟩:=hg S9 (Ag _) fun _ _ _=>rfl;rw[eO] at b1 b2 ⊢;rw[eE];have n9:=s9.1;simp only[↓aA,aB,rE,↓reduceIte,rA,ex0,ex1];refine cR ?_;intro T1 t1 k1 d1;try simp only[↓aA,aB,rE,↓reduceIte,rA]
 refine fB (b:=S9.nx) (cs':=[.int .i64 g.players,bn,bi]) (by simp only[↓aA,aB,rE,↓reduceIte,rA]) (by simp only[↓aA,aB,rE,↓reduceIte,rA];exact bK _) d1 rfl rfl ?_;intro T2 t2 k2 d2;simp only[↓aA,aB,rE,↓reduceIte,rA];have t12:Same S9 T2:=t2.same t1 (Ag _);have lgT:cW (.ptr S9.nx 0) true 3 T2.h=some (.agg [.int .i64 g.players,bn,bi]):=gS d2;have sT2:=(sS8.trans s9).trans t12;refine cD ?_;simp only[↓aA,aB,rE,↓reduceIte,rA,lgT];refine bB ?_;simp only[↓aA,aB,rE,↓reduceIte,rA];refine aN (aBM H (aY.same (E:=dD) cO b1 t12) (aY.same (E:=dM) dF b2 t12) hgl (hL.same sT2)) ?_;rintro _ T3 ⟨_,rfl,t3,m',⟨an,ai,rfl,a1,a2⟩,hR'⟩;obtain rfl:=aGO hR hR';rw[hf];have k3:=t3.1;simp only[↓aA,aB,rE,↓reduceIte,rA,ex0,ex1];refine cR ?_;intro T4 t4 k4 d4;try simp only[↓aA,aB,rE,↓reduceIte,rA]
 refine fB (b:=T3.nx) (cs':=[.int .i64 m.players,an,ai]) (by simp only[↓aA,aB,rE,↓reduceIte,rA]) (by simp only[↓aA,aB,rE,↓reduceIte,rA];exact bK _) d4 rfl rfl ?_;intro T5 t5 k5 d5;simp only[↓aA,aB,rE,↓reduceIte,rA];have t35:Same T3 T5:=t5.same t4 (Ag _);have sT5:=(sT2.trans t3).trans t35;have s8T:Same S8 T5:=((s9.trans t12).trans t3).trans t35;have s5T:Same S5 T5:=(s6.trans s68).trans s8T;have g5:=(s5T.2 _ (show S3.nx<S5.nx by omega)).trans c5;have g8:=(s8T.2 _ (show S6.nx<S8.nx by omega)).trans c8;have gT:=((t3.trans t35).2 _ (show S9.nx<T2.nx by omega)).trans d2;have e5:cW (.ptr S3.nx 0) true 3 T5.h=some (.agg [.int .i64 g.players,nv,iv]):=gS g5;have e8:cW (.ptr S6.nx 0) true 3 T5.h=some (.agg [.int .i64 m.players,mn,mi]):=gS g8;have eT:cW (.ptr S9.nx 0) true 3 T5.h=some (.agg [.int .i64 g.players,bn,bi]):=gS gT;have e10:cW (.ptr T3.nx 0) true 3 T5.h=some (.agg [.int .i64 m.players,an,ai]):=gS d5;have dT:∀i:Decidable True,@decide True i=true:=fun i=>@Ac True i trivial;refine cD ?_;simp only[↓aA,aB,rE,↓reduceIte,rA,dT,e8];refine bB ?_;simp only[↓aA,aB,rE,↓reduceIte,rA];refine aN (aGj H (hm8.same s8T) hTm hml (hL.same sT5)) ?_;rintro _ U ⟨rfl,u⟩;have eU5:cW (.ptr S3.nx 0) true 3 U.h=some (.agg [.int .i64 g.players,nv,iv]):=gS ((u.2 _ (by have:=s5T.1;omega)).trans g5);have eUT:cW (.ptr S9.nx 0) true 3 U.h=some (.agg [.int .i64 g.players,bn,bi]):=gS ((u.2 _ (by have:=(t3.trans t35).1;omega)).trans gT);rw[eE];simp only[↓aA,aB,rE,↓reduceIte,rA,dT,eU5,eUT];refine bB ?_;simp only[↓aA,aB,rE,↓reduceIte,rA];have bT:=(t12.trans (t3.trans t35)).trans u;have nT:=(s35.trans s5T).trans u;refine aN (vX H (aY.same (E:=dD) cO b1 bT) (aY.same (E:=dM) dF b2 bT) (aY.same (E:=dD) cO hn nT) (aY.same (E:=dM) dF hi nT) hT hgl) ?_;rintro _ V ⟨rfl,vv⟩;have uv:=u.trans vv;have eV8:cW (.ptr S6.nx 0) true 3 V.h=some (.agg [.int .i64 m.players,mn,mi]):=gS ((uv.2 _ (by have:=s8T.1;omega)).trans g8);have eV10:cW (.ptr T3.nx 0) true 3 V.h=some (.agg [.int .i64 m.players,an,ai]):=gS ((uv.2 _ (by omega)).trans d5);simp only[↓aA,aB,rE,↓reduceIte,rA,eV8,eV10];refine bB ?_;simp only[↓aA,aB,rE,↓reduceIte,rA];have aV:=t35.trans uv;have mV:=(s68.trans s8T).trans uv;refine aN (aHB H (aY.same (E:=dD) cO a1 aV) (aY.same (E:=dM) dF a2 aV) (aY.same (E:=dD) cO m1 mV) (aY.same (E:=dM) dF m2 mV) hTm hml) ?_;rintro _ W ⟨rfl,w⟩;try simp only[↓aA,aB,rE,↓reduceIte,rA]
 refine aU ?_;simp only[↓aA,aB,rE,↓reduceIte,rA];exact(sT5.trans uv).trans w
end Go.Ev.Gl
