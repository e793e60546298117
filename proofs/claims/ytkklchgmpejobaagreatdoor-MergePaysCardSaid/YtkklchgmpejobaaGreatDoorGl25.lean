import Derived.Test.YtkklchgmpejobaaGreatDoorGl24
open Nat renaming reduceEqDiff → rE, reduceAdd → rA
set_option maxHeartbeats 16000000
set_option linter.unusedSimpArgs false
set_option linter.unusedVariables false
namespace Go.Ev.Gl
variable {fns:T cV}
theorem aMR{W:Nat→Prop}{S0 X:St}{F:Fr}{inr:Bool}{ob i:Nat}{m:UyS}{a:bU}{v ps jv:AV}{ops:List AO}{Q:Out→bQ→St→Prop}(he:ops=aI4++aJr)(hL:xD W S0 X m)(hS:S0.nx≤X.nx)(hi:m.l[i]? =some (a,v))(ha:a.next.length≤100000)(hl:m.l.length≤100000)(p3:aD 3 F= .ptr ob 0)(p5:aD 5 F= .int .i64 (i:Int))
  (go:X.h.get ob=some (.cells [ps,m.na,jv] false 0)) (hob:W ob)
  (hQ:∀F' Z v',(∀j,j<19→aD j F'=aD j F)→xD W S0 Z (aHV m i a ((m.l.length:Nat):Int) v')→nG W m X (aHV m i a ((m.l.length:Nat):Int) v') Z→(∀c,c<X.nx→W c→Z.h.get c=X.h.get c)→Q .normal ⟨F',inr⟩ Z):lJ fns (.drw ops) ⟨F,inr⟩ X Q:=by
 subst he;obtain⟨w,hw⟩:∃w:Int,w=((m.l.length:Nat):Int):=⟨_,rfl⟩;rw[←hw] at hQ;have lob:ob<X.nx:=(hL.wg ob hob).2;have d1:=fL go;have sna:=hL.nod.self;have lna:=hL.nod.len;rw[←hw] at lna;obtain⟨b,p,k1,k2,k3,k4,hG⟩:=hL.row_at hi;have hrow:=fun {c} (hc:aT v=some c)=>hL.row_of hi hc;have n1:aT v≠some ob:=fun e=>(hrow e).2.1 hob;have nb:aT v≠some b:=fun e=>(hrow e).2.2 k2;have srv:=hG.self;have he1:=fun(F:Fr) (id:Nat) (h:aD 30 F= .int .i64 w)=>kQ (t:=3) (z:=.int .i64 0) (x:=.t 30) (F:=F) (id:=id) (k:=.i64) (n:=w) h;refine uV (W:=fun c=>aT v=some c) (pre:=aI4) (suf:=aJr) (K:=16) (R:=fun F' V ps=>ps= []∧(∀j,j<19→aD j F'=aD j F)∧aD 34 F'= .ptr b (p+3)∧∃rv',aD 32 F'=rv'∧X.nx≤V.nx∧(∀c,c<X.nx→aT v≠some c→V.h.get c=X.h.get c)∧gQ 1 S0 V rv' (a.next++ [w]).length (bG (a.next++ [w]))∧∃b',aT rv'=some b'∧X.nx≤b'∧b'<V.nx) rfl rfl rfl (fun X1 x1 hh1 nn1=>?_) ?_
 ·unfold aI4;simp only[↓sU,sD,rE,↓reduceIte,rA,p3,p5,aE,aW,aF,d1,k1,k4,lob,k3,n1,nb,Ay,sna,srv,aH,lna,he1];have hf1:cG 8184 [⟨12,X.nx+12,.cells [.int .i64 w] false 0⟩] X1.h=([],X1.h.set (X.nx+12) (some (.cells [.int .i64 w] false 0))):=dS (m:=8184) rfl;have nX1:X.nx+17≤X1.nx:=by rw[nn1];exact Ag _
  obtain⟨U,hU⟩:∃U:St,U=⟨X1.h.set (X.nx+12) (some (.cells [.int .i64 w] false 0)),X1.nx⟩:=⟨_,rfl⟩;have nU:U.nx=X1.nx:=by rw[hU]
  have kU:∀c,c<X.nx→U.h.get c=X.h.get c:=fun c hc=>by rw[hU];simp only;rw[T.get_set,if_neg (by omega),hh1]
  have sUu:Same X U:=⟨by omega,kU⟩;have gU:U.h.get (X.nx+12)=some (.cells [.int .i64 w] false 0):=by rw[hU];simp only;rw[T.get_set,if_pos rfl]
  have hGU:=hG.step sUu;obtain⟨rv',V,eA,gA,bA,nA,rA⟩:=gQ.push (bytes:=8) (S0:=⟨U.h,S0.nx⟩) (S:=U) (t:=X.nx+12) (w:=w) hGU ⟨by show S0.nx≤U.nx;omega,fun _ _=>rfl⟩ gU (by unfold room;omega) (by unfold room;omega);refine aHf (r:=rv') (S1:=V) rfl ?_ ?_ ?_
  ·simp only[↓sU,sD,rE,↓reduceIte,rA];rw[hf1,←hU];exact eA
  ·rw[hf1,←hU];exact⟨by omega,fun c hc hcm=>rA c (by omega) hcm⟩
  rw[hf1];simp only[↓sU,sD,rE,↓reduceIte,rA,aH,k1,aE,aW,aF,Ay];refine⟨fun j hj=>?_,rv',rfl,by omega,fun c hc hcm=>(rA c (by omega) hcm).trans (kU c hc),by exact gA,U.nx,bA,by omega,by omega⟩
  repeat rw[if_neg (by omega)]
 ·rintro F' V ps' hs' ls ⟨rfl,hk,p34,rv',p32,nV,kV,gV,b',hb1,hb2,hb3⟩ hlast hld;have m1:∀i,i<16→Nat.testBit 65535 i=true:=by decide
  have hrc:rv'.cells=some [rv']:=gQ.cells gV;obtain⟨bb,pp,Z,z1,z2,z3,z4,z5,z6,z7,z8⟩:=hL.row (v':=rv') (w:=w) (X':=V) hi nV kV gV fun c hc=>by rw[hb1] at hc;cases hc;exact hb2
  rw[k1] at z1;cases z1;unfold aJr;refine jR (v:=.undef) (S1:=Z) (hlast _ m1) (fun call=>?_) ?_
  ·rw[dD];simp only[fW,p34,p32,cB,hrc,aK];exact z4
  rw[iL];refine⟨?_,?_⟩
  ·simp only[Cn];exact hld _ _ _ m1
  ·simp only[cB,dR];refine hQ _ _ rv' hk z7 z8 fun c hc hw=>?_;rw[z6 c fun e=>(hL.d1 b k2) (by rw[←e];exact hw)];exact kV c hc fun e=>(hrow e).2.1 hw
def aJZ(h:bH)(v:Nat):bU:={nodeAt h v with next:=[]}
noncomputable def asU:AC:=.seq (.reg [mt 4 15]) (.reg [mt 5 16])
noncomputable def bdU:AC:=qk3
structure UC where
 ob:Nat
 gb:Nat
 lb:Nat
 cb:Nat
 yb:Nat
 hb:Nat
 vb:Nat
 jv:AV
 nv:AV
 iv:AV
def UC.W(C:UC)(c:Nat):Prop:=c=C.ob∨c=C.lb∨c=C.cb
def aLW(l:List (bU×AV))(p:Int)(l1:List (bU×AV)):Prop:=(p= -1∧l1=l)∨∃ (i:Nat) (a:bU) (v v':AV),p=(i:Int)∧l[i]? =some (a,v)∧l1=l.set i ({a with next:=a.next++ [((l.length:Nat):Int)]},v')
theorem aLW.len{l l1:List (bU×AV)}{p:Int}(h:aLW l p l1):l1.length=l.length:=by
 rcases h with⟨_,rfl⟩ | ⟨i,a,v,v',_,_,rfl⟩
 ·rfl
 ·rw[Bm]
theorem aGt{C:UC}{S0 X:St}{h:bH}{m:UyS}{fr:Fr}{v:Nat}{p:Int}(hL:xD C.W S0 X m)(hS:Same S0 X)(hn:bB 6 dJ S0 C.nv h.nodes)(hv:v<h.nodes.length)(hml:m.l.length≤100000)(hp:p= -1∨∃ (i:Nat) (a:bU) (vv:AV),p=(i:Int)∧m.l[i]? =some (a,vv)∧a.next.length≤100000)
  (n1:C.ob≠C.lb) (go:X.h.get C.ob=some (.cells [.int .i64 h.players,m.na,C.jv] false 0)) (gl:X.h.get C.lb=some (.loop .ready none fr [15,16] asU bdU)) (f1:aD 1 fr= .ptr C.gb 0) (f3:aD 3 fr= .ptr C.ob 0) (gg:X.h.get C.gb=some (.cells [.int .i64 h.players,C.nv,C.iv] false 0)) (lg:C.gb<X.nx) (pg:PU C.W m C.gb):
  fR fns (.yld C.lb) [.int .i64 (v:Int),.int .i64 p] X fun r X'=>r= .bool true∧∃m' l1,aLW m.l p l1∧m'.l=l1++ [(aJZ h v,.nilsl)]∧xD C.W S0 X' m'∧nG C.W m X m' X'∧X'.h.get C.ob=some (.cells [.int .i64 h.players,m'.na,C.jv] false 0)∧X'.h.get C.lb=some (.loop .ready none fr [15,16] asU bdU)∧∀c,c<X.nx→C.W c→c≠C.ob→c≠C.lb→X'.h.get c=X.h.get c:=by
 have wo:C.W C.ob:=.inl rfl;have wl:C.W C.lb:=.inr (.inl rfl);have lo:=(hL.wg _ wo).2;have ll:=(hL.wg _ wl).2;refine aNz (F:=cI (some 16) (cI (some 15) fr (.int .i64 (v:Int))) (.int .i64 p)) gl rfl ?_;unfold asU;refine cC ?_;refine am ?_;refine aG ?_;refine am ?_;refine⟨none,fr,[15,16],_,gl,?_⟩;obtain⟨X1,hX1⟩:∃X1:St,X1=⟨X.h.set C.lb (some (.loop .busy none fr [15,16] asU bdU)),X.nx⟩:=⟨_,rfl⟩;show lJ fns bdU _ ⟨X.h.set C.lb (some (.loop .busy none fr [15,16] asU bdU)),X.nx⟩ _;rw[←hX1];have k1:∀c,c≠C.lb→X1.h.get c=X.h.get c:=fun c hc=>by rw[hX1];simp only;rw[T.get_set,if_neg hc]
 have kl:X1.h.get C.lb=some (.loop .busy none fr [15,16] asU bdU):=by rw[hX1];simp only;rw[T.get_set,if_pos rfl]
 have nX1:X1.nx=X.nx:=by rw[hX1]
 clear hX1;have l1:xD C.W S0 X1 m:=hL.local (Gc nX1.symm) fun c _ hw _=>k1 c fun e=>hw (by rw[e];exact wl);have K1:nG C.W m X m X1:=.off (Gc nX1.symm) fun c _ hp=>k1 c fun e=>hp.1 (by rw[e];exact wl);have S1:=hL.same0 K1 hS;have go1:=(k1 _ n1).trans go;have gg1:=(K1.2 _ lg pg).1.trans gg;unfold bdU;refine aN (aC (bD (Q:=fun o A' Y=>o= .normal∧A'.inr=true∧∃m1,m1.na=m.na∧aLW m.l p m1.l∧xD C.W S0 Y m1∧nG C.W m X1 m1 Y∧(∀c,c<X1.nx→C.W c→Y.h.get c=X1.h.get c)∧aD 1 A'.F= .ptr C.gb 0∧aD 3 A'.F= .ptr C.ob 0∧aD 4 A'.F= .int .i64 (v:Int)) (aC (aG ?_)) ?_))
 ·simp only[↓sU,sD,rE,↓reduceIte,rA];rcases hp with rfl | ⟨i,a,vv,rfl,hi,ha⟩
  ·refine aO (by simp only[↓sU,sD,rE,↓reduceIte,rA];rfl) (aM ?_);exact⟨rfl,rfl,m,rfl,.inl ⟨rfl,rfl⟩,l1,.refl,fun _ _ _=>rfl,by refine⟨?_,?_,?_⟩<;>simp only[↓sU,sD,rE,↓reduceIte,rA,f1,f3]⟩
  ·refine aR (by simp only[↓sU,sD,rE,↓reduceIte,rA];exact Dh _ (Ad (by omega))) ?_;refine aMR (ob:=C.ob) (i:=i) (a:=a) (v:=vv) rfl l1 S1.1 hi ha hml (au f3) (aq) go1 wo ?_;intro F' Z v' hk hLZ KZ kZ;refine⟨rfl,rfl,aHV m i a ((m.l.length:Nat):Int) v',rfl,.inr ⟨i,a,vv,v',rfl,hi,rfl⟩,hLZ,KZ,kZ,?_,?_,?_⟩
   ·rw[hk 1 (by omega)];simp only[↓sU,sD,rE,↓reduceIte,rA,f1]
   ·rw[hk 3 (by omega)];simp only[↓sU,sD,rE,↓reduceIte,rA,f3]
   ·rw[hk 4 (by omega)];simp only[↓sU,sD,rE,↓reduceIte,rA]
 rintro o ⟨F,inr⟩ Y ⟨rfl,q0,m1,en,hpr,lY,KY,kY,p1,p3,p4⟩;simp only at q0 p1 p3 p4;subst q0;have lgX1:C.gb<X1.nx:=by omega
 have pg1:=(K1.2 _ lg pg).2;have ggY:=(KY.2 _ lgX1 pg1).1.trans gg1;have goY:=(kY _ (by omega) wo).trans go1;rw[←en] at goY;have klY:=(kY _ (by omega) wl).trans kl;have SY:=l1.same0 KY S1;obtain⟨e,b,q,i1,i2,i3,⟨xa,xw,xp,rfl,x1,x2,x3⟩,i5,i6⟩:=bB.at hn (by decide) (dI hv);have ld:=(sI SY i2).trans i5;try simp only[↓sU,sD,rE,↓reduceIte,rA]
 refine cC ?_;simp only[↓aA,aB,rE,↓reduceIte,rA,p1,p4,aE,aF,fL ggY,bB.self hn,aH,i1,ld];refine cR ?_;intro Z1 z1 u1 w1;try simp only[↓sU,sD,rE,↓reduceIte,rA]
 refine fC (b:=Y.nx) (aq) (by simp only[↓sU,sD,rE,↓reduceIte,rA];exact bM _) w1 rfl rfl ?_;intro Z2 z2 u2 w2;simp only[↓sU,sD,rE,↓reduceIte,rA];have zz:Same Y Z2:=z2.same z1 (Ag _);refine cC ?_;simp only[↓sU,sD,rE,↓reduceIte,rA,aE,aF];obtain⟨Z3,hZ3⟩:∃Z3:St,Z3=⟨Z2.h.set Y.nx (some (.cells [.int .i64 (nodeAt h v).kind,.int .i64 (nodeAt h v).player,.int .i64 (nodeAt h v).info,.nilsl,xw,xp] false 0)),Z2.nx⟩:=⟨_,rfl⟩;refine eR (v:=.undef) (S1:=Z3) (fun call=>by rw[dD,hZ3];simp only[↓sU,sD,rE,↓reduceIte,rA];exact xW (cs:=[.int .i64 (nodeAt h v).kind,.int .i64 (nodeAt h v).player,.int .i64 (nodeAt h v).info,xa,xw,xp]) (p:=3) (S:=Z2) w2 (by simp)) ?_;have z3:Same Y Z3:=by rw[hZ3];exact zz.put (Ag _) _
 have w3:Z3.h.get Y.nx=some (.cells [.int .i64 (nodeAt h v).kind,.int .i64 (nodeAt h v).player,.int .i64 (nodeAt h v).info,.nilsl,xw,xp] false 0):=by rw[hZ3];simp only;rw[T.get_set,if_pos rfl]
 clear hZ3;simp only[↓sU,sD,rE,↓reduceIte,rA];have lZ:=lY.same z3;have goZ:=(z3.2 _ (lY.wg _ wo).2).trans goY;refine aG ?_;simp only[↓aA,aB,rE,↓reduceIte,rA,p3,aE,aF,fL goZ,aJc (n:=6) w3 rfl];refine fX (aH0 (by simp only[↓aA,aB,rE,↓reduceIte,rA];try rfl)) ?_;intro U t1 t2 t3;have lU:=lZ.same t1;have mlen:m1.l.length=m.l.length:=hpr.len;obtain⟨v',V,eA,aV,nV,kV,bV⟩:=lU.nod.push (bytes:=96) (x:=.sl Z3.nx 0 1 1 false) (a:=(aJZ h v,AV.nilsl)) (by decide) (by have:=SY.1;have:=z3.1;have:=t1.1;omega) rfl (aL6 t3 rfl) rfl ⟨xw,xp,rfl,.inl ⟨rfl,rfl,rfl⟩,x2,x3⟩ (by rw[mlen];unfold room;omega) (by rw[mlen];unfold room;omega);obtain⟨kP,kM⟩:=lU.pushN nV kV bV aV;refine eR (fun call=>by simp only[↓aA,aB,rE,↓reduceIte,rA,fJ];exact eA) ?_;try simp only[↓aA,aB,rE,↓reduceIte,rA]
 have kw:∀c,c<U.nx→C.W c→V.h.get c=U.h.get c:=fun c hc hw=>kV c hc fun e=>lU.d1 _ e hw;have loU:C.ob<U.nx:=(lU.wg _ wo).2;have llU:C.lb<U.nx:=(lU.wg _ wl).2;have goU:=(t1.2 _ (by have:=(lZ.wg _ wo).2;omega)).trans goZ;have goV:=(kw _ loU wo).trans goU;have klV:=(kw _ llU wl).trans ((t1.2 _ (lZ.wg _ wl).2).trans ((z3.2 _ (lY.wg _ wl).2).trans klY));have hcl:v'.cells=some [v']:=aV.cells;simp only[↓aA,aB,rE,↓reduceIte,rA,p3,aE,aF];refine eR (v:=.undef) (S1:=⟨V.h.set C.ob (some (.cells [.int .i64 h.players,v',C.jv] false 0)),V.nx⟩) (fun call=>by simp only[↓aA,aB,rE,↓reduceIte,rA,dD,hcl,aK];exact xW (cs:=[.int .i64 h.players,m1.na,C.jv]) (p:=1) (S:=V) goV (by simp)) ?_;simp only[↓aA,aB,rE,↓reduceIte,rA];have kB:∀c,c≠C.ob→(V.h.set C.ob (some (.cells [.int .i64 h.players,v',C.jv] false 0))).get c=V.h.get c:=fun c hc=>by rw[T.get_set,if_neg hc]
 refine⟨none,fr,[15,16],_,_,(kB _ (Da n1)).trans klV,.inl ?_⟩;have kE:∀c,c≠C.ob→c≠C.lb→((V.h.set C.ob (some (.cells [.int .i64 h.players,v',C.jv] false 0))).set C.lb (some (.loop .ready none fr [15,16] asU bdU))).get c=V.h.get c:=fun c h1 h2=>by rw[T.get_set,if_neg h2,T.get_set,if_neg h1]
 have KU:nG C.W m X m1 U:=K1.trans (KY.trans ((nG.same z3).trans (.same t1)));have lE:xD C.W S0 ⟨((V.h.set C.ob (some (.cells [.int .i64 h.players,v',C.jv] false 0))).set C.lb (some (.loop .ready none fr [15,16] asU bdU))),V.nx⟩ ⟨v',m1.l++ [(aJZ h v,.nilsl)]⟩:=kP.local (Ag _) fun c _ hw _=>kE c (fun e=>hw (by rw[e];exact wo)) fun e=>hw (by rw[e];exact wl);have KE:nG C.W ⟨v',m1.l++ [(aJZ h v,.nilsl)]⟩ V ⟨v',m1.l++ [(aJZ h v,.nilsl)]⟩ ⟨((V.h.set C.ob (some (.cells [.int .i64 h.players,v',C.jv] false 0))).set C.lb (some (.loop .ready none fr [15,16] asU bdU))),V.nx⟩:=.off (Ag _) fun c _ hp=>kE c (fun e=>hp.1 (by rw[e];exact wo)) fun e=>hp.1 (by rw[e];exact wl);refine⟨⟨v',m1.l++ [(aJZ h v,.nilsl)]⟩,m1.l,hpr,rfl,lE,(KU.trans kM).trans KE,?_,?_,fun c hc hw h1 h2=>?_⟩
 ·rw[T.get_set,if_neg n1,T.get_set,if_pos rfl]
 ·rw[T.get_set,if_pos rfl];rfl
 ·rw[kE c h1 h2,kw c (Ah hc KU.1) hw,t1.2 c (lZ.wg c hw).2,z3.2 c (lY.wg c hw).2,kY c (by omega) hw,k1 c h2]
structure UnI(C:UC)(h:bH)(fr:Fr)(S0 X:St)(m:UyS):Prop where
 b:xD C.W S0 X m
 go:X.h.get C.ob=some (.cells [.int .i64 h.players,m.na,C.jv] false 0)
 gl:X.h.get C.lb=some (.loop .ready none fr [15,16] asU bdU)
 gc:X.h.get C.cb=some (.cells [.int .i64 ((m.l.length:Nat):Int)] false 0)
 gg:X.h.get C.gb=some (.cells [.int .i64 h.players,C.nv,C.iv] false 0)
 gy:X.h.get C.yb=some (.cells [.yld C.lb] false 0)
 gh:X.h.get C.hb=some (.cells [.int .i64 h.players,C.nv,C.iv] false 0)
 gv:X.h.get C.vb=some (.cells [.fn 73 [] [.ptr C.cb 0,.ptr C.yb 0,.ptr C.hb 0,.ptr C.vb 0]] false 0)
 kg:PU C.W m C.gb∧C.gb<X.nx
 ky:PU C.W m C.yb∧C.yb<X.nx
 kh:PU C.W m C.hb∧C.hb<X.nx
 kv:PU C.W m C.vb∧C.vb<X.nx
 s:Same S0 X
section
variable {C:UC}{h:bH}{fr:Fr}{S0 X X':St}{m m':UyS}
theorem UnI.next(u:UnI C h fr S0 X m)(hb:xD C.W S0 X' m')(K:nG C.W m X m' X')(go:X'.h.get C.ob=some (.cells [.int .i64 h.players,m'.na,C.jv] false 0))(gl:X'.h.get C.lb=some (.loop .ready none fr [15,16] asU bdU))(gc:X'.h.get C.cb=some (.cells [.int .i64 ((m'.l.length:Nat):Int)] false 0)):UnI C h fr S0 X' m':=by
 have kg:=K.2 _ u.kg.2 u.kg.1;have ky:=K.2 _ u.ky.2 u.ky.1;have kh:=K.2 _ u.kh.2 u.kh.1;have kv:=K.2 _ u.kv.2 u.kv.1;exact⟨hb,go,gl,gc,kg.1.trans u.gg,ky.1.trans u.gy,kh.1.trans u.gh,kv.1.trans u.gv,⟨kg.2,Ah u.kg.2 K.1⟩,⟨ky.2,Ah u.ky.2 K.1⟩,⟨kh.2,Ah u.kh.2 K.1⟩,⟨kv.2,Ah u.kv.2 K.1⟩,u.b.same0 K u.s⟩
theorem aNM(hK:eF h){v:Nat}(hv:v<h.nodes.length):(nodeAt h v).next.length+1≤nM h v:=by
 rw[←aAb hK hv];unfold wN;rw[Ch];have key:∀l:List Int,(∀c∈l,1≤nM h c.toNat)→l.length≤(l.map fun c=>nM h c.toNat).sum:=fun l=>by
  induction l with
  | nil=>intro _;exact Bt _
  | cons c l ih=>
   intro hc;have h1:=hc c (by simp);have h2:=ih fun d hd=>hc d (by simp [hd]);rw[Cx,List.sum_cons,Am];omega
 have:=key (nodeAt h v).next fun c hc=>by
  obtain⟨_,k2⟩:=qN (hK:=hK) hv hc;rw[←aAb hK k2];unfold wN;omega
 omega
theorem aOz{v j:Nat}:wN h v j≤wN h v (nodeAt h v).next.length:=by
 unfold wN;rw[Ch];have e:=Ej j (nodeAt h v).next;have:((nodeAt h v).next.map fun c=>nM h c.toNat).sum=(((nodeAt h v).next.take j).map fun c=>nM h c.toNat).sum+(((nodeAt h v).next.drop j).map fun c=>nM h c.toNat).sum:=by
  conv=>lhs;rw[←e]
  rw[Dc,List.sum_append_nat]
 omega
end
def aQ2(C:UC)(h:bH)(fr:Fr)(S0 X:St)(m:UyS)(l1:List (bU×AV))(f v:Nat)(xa:AV)(k:Nat)(A:bQ)(W:St):Prop:=A.inr=false∧∃j m' vv l2,j+k=(nodeAt h v).next.length∧m'.l=l1++({nodeAt h v with next:=(iO (qB h f) ((nodeAt h v).next.take j) (m.l.length+1)).1},vv)::l2∧l2.map (·.1)=(iO (qB h f) ((nodeAt h v).next.take j) (m.l.length+1)).2∧UnI C h fr S0 W m'∧nG C.W m X m' W∧aD 5 A.F= .ptr C.vb 0∧aD 9 A.F= .int .i64 ((m.l.length:Nat):Int)∧aD 25 A.F=xa∧aD 26 A.F= .int .i64 (((nodeAt h v).next.length:Nat):Int)∧aD 27 A.F= .int .i64 (j:Int)
theorem aBS{C:UC}{h:bH}{fr:Fr}{S0:St}(H:Has fns)(hK:eF h)(hn:bB 6 dJ S0 C.nv h.nodes)(n1:C.ob≠C.lb)(n2:C.ob≠C.cb)(n3:C.lb≠C.cb)(f1:aD 1 fr= .ptr C.gb 0)(f3:aD 3 fr= .ptr C.ob 0):∀ {f v:Nat} {p:Int} {X:St} {m:UyS},v<h.nodes.length→h.nodes.length - v≤f→UnI C h fr S0 X m→m.l.length+nM h v≤100000→(p= -1∨∃ (i:Nat) (a:bU) (vv:AV),p=(i:Int)∧m.l[i]? =some (a,vv)∧a.next.length≤100000)→
  fR fns (.fn 73 [] [.ptr C.cb 0,.ptr C.yb 0,.ptr C.hb 0,.ptr C.vb 0]) [.int .i64 (v:Int),.int .i64 p] X fun r X'=>r= .bool true∧∃m' l1 l2,aLW m.l p l1∧m'.l=l1++l2∧l2.map (·.1)=qB h f v m.l.length∧UnI C h fr S0 X' m'∧nG C.W m X m' X'
 | 0,v,_,_,_,hv,hf,_,_,_=>by omega
 | f+1,v,p,X,m,hv,hf,hU,hsz,hp=>by
  have ih:=@aBS C h fr S0 H hK hn n1 n2 n3 f1 f3 f;have wc:C.W C.cb:=.inr (.inr rfl);have wo:C.W C.ob:=.inl rfl;have wl:C.W C.lb:=.inr (.inl rfl);have hcp:=aNM hK hv;have gc:=hU.gc;have lc:=cS (p:=0) gc rfl;refine cE H.f73 (by simp) ?_;refine am ?_;refine cC ?_;refine am ?_;refine cC ?_;simp only[↓sU,sD,rE,↓reduceIte,rA,lc];have w1:IntKind.i64.wrap (((m.l.length:Nat):Int)+1)=((m.l.length+1:Nat):Int):=by rw[wrap_i64 (by omega) (by omega)];omega
  refine cC ?_;simp only[↓sU,sD,rE,↓reduceIte,rA,lc,w1];obtain⟨X1,hX1⟩:∃X1:St,X1=⟨X.h.set C.cb (some (.cells [.int .i64 ((m.l.length+1:Nat):Int)] false 0)),X.nx⟩:=⟨_,rfl⟩;refine eR (v:=.undef) (S1:=X1) (fun call=>by rw[dD,hX1];simp only[↓sU,sD,rE,↓reduceIte,rA];exact xW (cs:=[.int .i64 ((m.l.length:Nat):Int)]) (p:=0) (S:=X) gc (by simp)) ?_;have k1:∀c,c≠C.cb→X1.h.get c=X.h.get c:=fun c hc=>by rw[hX1];simp only;rw[T.get_set,if_neg hc]
  have gc1:X1.h.get C.cb=some (.cells [.int .i64 ((m.l.length+1:Nat):Int)] false 0):=by rw[hX1];simp only;rw[T.get_set,if_pos rfl]
  have nX1:X1.nx=X.nx:=by rw[hX1]
  clear hX1;have b1:xD C.W S0 X1 m:=hU.b.local (Gc nX1.symm) fun c _ hw _=>k1 c fun e=>hw (by rw[e];exact wc);have K1:nG C.W m X m X1:=.off (Gc nX1.symm) fun c _ hp=>k1 c fun e=>hp.1 (by rw[e];exact wc);have S1:=hU.b.same0 K1 hU.s;have gy1:=(K1.2 _ hU.ky.2 hU.ky.1).1.trans hU.gy;have ly1:=cS (p:=0) gy1 rfl;refine am ?_;refine iP ?_;simp only[↓aA,aB,rE,↓reduceIte,rA,ly1];refine aY ?_;refine am ?_;refine aP (aGt b1 S1 hn hv (by omega) hp n1 ((k1 _ n2).trans hU.go) ((k1 _ n3).trans hU.gl) f1 f3 ((K1.2 _ hU.kg.2 hU.kg.1).1.trans hU.gg) (by have:=hU.kg.2;omega) (K1.2 _ hU.kg.2 hU.kg.1).2) ?_;rintro _ Y ⟨rfl,m1,l1,hpr,el,bY,KY,goY,glY,kY⟩;have gcY:=(kY _ (by have:=(b1.wg _ wc).2;omega) wc (Da n2) (Da n3)).trans gc1;have l1l:=hpr.len;have hUY:UnI C h fr S0 Y m1:=hU.next bY (K1.trans KY) goY glY (by rw[gcY,el,Ai,l1l];rfl);try simp only[↓sU,sD,rE,↓reduceIte,rA,fQ]
  refine aO (by simp only[↓sU,sD,rE,↓reduceIte,rA,Bp]) (aM ?_);try simp only[↓sU,sD,rE,↓reduceIte,rA]
  obtain⟨e,b,q,i1,i2,i3,⟨xa,xw,xp,rfl,x1,x2,x3⟩,i5,i6⟩:=bB.at hn (by decide) (dI hv);have ld:=(sI hUY.s i2).trans (i6 3 xa rfl);refine aC (bD (Q:=fun o A' W=>o= .normal∧aQ2 C h fr S0 X m l1 f v xa 0 A' W) (aC (aG ?_)) ?_)
  ·simp only[↓sU,sD,rE,↓reduceIte,rA,aE,aF,fL hUY.gh,aH,i1,ld,x1.len,Ak];refine aN (bT (aQ2 C h fr S0 X m l1 f v xa) ?_ (nodeAt h v).next.length _ _ ⟨rfl,0,m1,.nilsl,[],by omega,by rw[el,Bu];rfl,by rw[Bu];rfl,hUY,K1.trans KY,aq,aq,aq,aq,ar⟩);clear hUY glY goY gcY kY KY bY el ld gy1 ly1 S1 K1 b1 gc1 k1 nX1 lc gc;rintro k ⟨F,inr⟩ W ⟨q0,j,m',vv,l2,hjk,e1,e2,hW,KW,p5,p9,p25,p26,p27⟩;simp only at q0 p5 p9 p25 p26 p27;subst q0;refine cC ?_;simp only[↓sU,sD,rE,↓reduceIte,rA,p26,p27,zV];by_cases hj:j<(nodeAt h v).next.length;rotate_left
   ·refine aC (aO (by simp only[↓sU,sD,rE,↓reduceIte,rA,Aa hj]) (bK ?_));obtain rfl:k=0:=by omega
    exact⟨rfl,rfl,j,m',vv,l2,hjk,e1,e2,hW,KW,by refine⟨?_,?_,?_,?_,?_⟩<;>simp only[↓sU,sD,rE,↓reduceIte,rA,p5,p9,p25,p26,p27]⟩
   refine aC (aR (by simp only[↓sU,sD,rE,↓reduceIte,rA,Ad hj]) (aM ?_));try simp only[↓sU,sD,rE,↓reduceIte,rA]
   obtain⟨k1,k2,k3⟩:=hK v hv j hj;have iaj:=x1.iaddr hj;have laj:=(x1.same hW.s).ld hj;rw[k3] at laj;have lv:=cS (p:=0) hW.gv rfl;have htk:(nodeAt h v).next.take (j+1)=(nodeAt h v).next.take j++ [((jA h v j:Nat):Int)]:=by rw[aDl hj,k3]
   have kk:=aDF (u:=qB h f) (l:=(nodeAt h v).next.take j) (k:=((jA h v j:Nat):Int)) (i:=m.l.length+1);rw[←htk,Cj] at kk;have hl2:l2.length+1=wN h v j:=by
    have h1:l2.length=(iO (qB h f) ((nodeAt h v).next.take j) (m.l.length+1)).2.length:=by rw[←e2,Az]
    rw[h1,zB (w:=aFm h f) fun v i=>aCS];unfold wN;rw[yR fun c hc=>?_,Nat.add_comm];obtain⟨c1,c2⟩:=qN (hK:=hK) hv (Dm hc);exact zP hK c2 (by omega) (by omega)
   have hb2:(iO (qB h f) ((nodeAt h v).next.take j) (m.l.length+1)).2.length=l2.length:=by rw[←e2,Az]
   have hb1:(iO (qB h f) ((nodeAt h v).next.take j) (m.l.length+1)).1.length≤100000:=by
    rw[aCH,Cc];omega
   have hml:m'.l.length=m.l.length+1+l2.length:=by rw[e1,Ai,Am,l1l];omega
   have hps:=aEF (h:=h) hj;rw[k3,Cj] at hps;have hpl:=aOz (h:=h) (v:=v) (j:=j+1);rw[aAb hK hv] at hpl;generalize hKB:iO (qB h f) ((nodeAt h v).next.take j) (m.l.length+1)=KB at *;refine aC (aN (aC (aG ?_)));simp only[↓sU,sD,rE,↓reduceIte,rA,p25,p27,aH,iaj,laj];refine cC ?_;simp only[↓aA,aB,rE,↓reduceIte,rA,p5,p9,lv];refine aY ?_;refine am ?_;refine aP (ih k2 (by omega) hW (by omega) (.inr ⟨m.l.length,_,vv,rfl,by rw[e1,Aw (by omega),l1l,Cu];rfl,hb1⟩)) ?_;rintro _ W2 ⟨rfl,m2,l1',l3,hpr2,a1,a2,hW2,KW2⟩;try simp only[↓sU,sD,rE,↓reduceIte,rA,fQ]
   refine aO (by simp only[↓sU,sD,rE,↓reduceIte,rA,Bp]) (aM ?_);try simp only[↓sU,sD,rE,↓reduceIte,rA]
   refine aG ?_;simp only[↓sU,sD,rE,↓reduceIte,rA,p27,fA (a:=j) (by omega)];obtain⟨v2,hl1'⟩:∃v2,l1'=l1++({nodeAt h v with next:=KB.1++ [((m'.l.length:Nat):Int)]},v2)::l2:=by
    rcases hpr2 with⟨e,_⟩ | ⟨i,a,v0,v2,ei,hi,rfl⟩
    ·omega
    ·obtain rfl:i=m.l.length:=by omega
     rw[e1,Aw (by omega),l1l,Cu] at hi;cases hi;refine⟨v2,?_⟩;rw[hml,e1,List.set_append_right _ _ (by omega),l1l,Cu];rfl
   refine⟨k - 1,by omega,rfl,j+1,m2,v2,l2++l3,by omega,?_,?_,hW2,KW.trans KW2,by refine⟨?_,?_,?_,?_,?_⟩<;>simp only[↓sU,sD,rE,↓reduceIte,rA,p5,p9,p25,p26]⟩
   ·rw[kk,a1,hl1',Ba,hml,hb2];rfl
   ·rw[kk,Dc,e2,a2,hml,hb2]
  rintro o ⟨F,inr⟩ W ⟨rfl,q0,j,m',vv,l2,hjk,e1,e2,hW,KW,p5,p9,p25,p26,p27⟩;simp only at q0;subst q0;obtain rfl:j=(nodeAt h v).next.length:=by omega
  rw[Ch] at e1 e2;try simp only[↓sU,sD,rE,↓reduceIte,rA]
  refine cC ?_;refine am ?_;refine aU ?_;refine am ?_;refine⟨m',l1,_,hpr,e1,?_,hW,KW⟩;rw[Cx,e2];rfl
def NdV(S X:St)(na:AV)(e:List AV)(y:bU×Bool×Bool):Prop:=∃a b c,e= [.int .i64 y.1.kind,.int .i64 y.1.player,.int .i64 y.1.info,a,b,c]∧cD .i64 X a y.1.next∧cD .i64 X b y.1.weights∧cD .i64 X c y.1.pay∧(∀q,(aT a=some q∨aT b=some q∨aT c=some q)→aT na≠some q)∧(∀q,aT a=some q→S.nx≤q)∧(y.2.1=true→∀q,aT b=some q→S.nx≤q)∧(y.2.2=true→∀q,aT c=some q→S.nx≤q)
theorem xD.laid{W:Nat→Prop}{S X:St}{m:UyS}(h:xD W S X m)(hS:Same S X):kH 6 (NdV S X m.na) S X m.na ((m.l.map (·.1)).map fun x=>(x,false,false)):=by
 rcases h.nod with⟨h0,h1⟩ | ⟨b,c,cs,e0,g1,g2,g3,g4,g5,g6,g7⟩
 ·exact .inl ⟨h0,by rw[h1];rfl⟩
 ·refine .inr ⟨b,c,cs,by rw[Az,Az];exact e0,by rw[Az,Az];exact g1,g2,g3,g4,g5,g6,fun i y hi=>?_⟩;rw[Be,Au] at hi;obtain⟨x,hx,rfl⟩:=hi;rw[Be,Au] at hx;obtain⟨z,hz,rfl⟩:=hx;obtain⟨e,e1,e2,xw,xp,rfl,h1,h2,h3⟩:=g7 i z hz;refine⟨_,e1,e2,z.2,xw,xp,rfl,h1.is,h2.same hS,h3.same hS,fun q hq e=>?_,fun q hq=>(h.row_of hz hq).1.1,(fun h=>by cases h),(fun h=>by cases h)⟩;have hb:=(h.nod.blk e).1;rcases hq with hq | hq | hq
  ·exact(h.row_of hz hq).2.2 e
  ·have:=dG h2 hq;omega
  ·have:=dG h3 hq;omega
theorem aKw{c:AC}{F:Fr}{inr:Bool}{S:St}{Q:Out→bQ→St→Prop}(P:Fr→Prop)(h:P F)(hw:∀F',P F'→lJ fns c ⟨F',inr⟩ S Q):lJ fns c ⟨F,inr⟩ S Q:=hw F h
theorem aEc{S:St}{h:bH}{nv iv:AV}(H:Has fns):fR fns (.fn 55 [] []) [.agg [.int .i64 h.players,nv,iv]] S fun r X=>r= .fn 72 [] [.ptr S.nx 0]∧Same S X∧X.nx=S.nx+1∧X.h.get S.nx=some (.cells [.int .i64 h.players,nv,iv] false 0):=by
 refine cE H.f55 (by simp) ?_;refine ah ?_;refine cC ?_;refine eH (by simp only[↓aA,aB,rE,↓reduceIte,rA];exact bM _) ?_;intro S1 s1 n1 c1;refine ah ?_;refine cC ?_;simp only[↓aA,aB,rE,↓reduceIte,rA,qK,mJ];refine aU ?_;simp only[↓aA,aB,rE,↓reduceIte,rA];exact⟨s1,n1,c1⟩
theorem aKA{S L:St}{h:bH}{ob gb lb hb:Nat}{jv nv iv:AV}{fr:Fr}(H:Has fns)(hL:pQ h)(hn:bB 6 dJ S nv h.nodes)(hS:Same S L)(hsz:nM h 0≤100000)(hob:S.nx≤ob∧ob<L.nx)(hlb:S.nx≤lb∧lb<L.nx)(hgb:gb<L.nx)(hhb:hb<L.nx)(n1:ob≠lb)(ngb:gb≠ob∧gb≠lb)(nhb:hb≠ob∧hb≠lb)(f1:aD 1 fr= .ptr gb 0)(f3:aD 3 fr= .ptr ob 0)
  (go:L.h.get ob=some (.cells [.int .i64 h.players,.nilsl,jv] false 0)) (gl:L.h.get lb=some (.loop .ready none fr [15,16] asU bdU)) (gg:L.h.get gb=some (.cells [.int .i64 h.players,nv,iv] false 0)) (gh:L.h.get hb=some (.cells [.int .i64 h.players,nv,iv] false 0)):
  fR fns (.fn 72 [] [.ptr hb 0]) [.yld lb] L fun _ X=>∃ (C:UC) (m:UyS),C.ob=ob∧C.lb=lb∧C.jv=jv∧L.nx≤C.cb∧m.l.map (·.1)=qB h h.nodes.length 0 0∧UnI C h fr S X m∧nG C.W ⟨.nilsl,[]⟩ L m X:=by
 have hK:=hL.2.1;have h0:=hL.1;refine cE H.f72 (by simp) ?_;refine ah ?_;refine cC ?_;refine eH (cs:=[.yld lb]) (by simp only[↓aA,aB,rE,↓reduceIte,rA];rfl) ?_;intro L1 l1 m1 c1;refine ah ?_;refine cC ?_;refine cR ?_;intro L2 l2 m2 c2;try simp only[↓aA,aB,rE,↓reduceIte,rA]
 refine fC (b:=L1.nx) (cs':=[.int .i64 0]) (ai) (by simp only[↓aA,aB,rE,↓reduceIte,rA];rfl) c2 rfl rfl ?_;intro L3 l3 m3 c3;refine ah ?_;refine cC ?_;refine cR ?_;intro L4 l4 m4 c4;refine ah ?_;refine cC ?_;simp only[↓aA,aB,rE,↓reduceIte,rA,qK,mJ];refine fC (b:=L3.nx) (cs':=[.fn 73 [] [.ptr L1.nx 0,.ptr L.nx 0,.ptr hb 0,.ptr L3.nx 0]]) (ai) (by simp only[↓aA,aB,rE,↓reduceIte,rA];rfl) c4 rfl rfl ?_;intro L5 l5 m5 c5;simp only[↓aA,aB,rE,↓reduceIte,rA];have k5:∀c,c<L.nx→L5.h.get c=L.h.get c:=fun c hc=>by
  rw[l5.2 c (by omega) (by omega),l4.2 c (by omega),l3.2 c (by omega) (by omega),l2.2 c (by omega),l1.2 c hc]
 have s5:Same L L5:=⟨by omega,k5⟩;have g0:L5.h.get L.nx=some (.cells [.yld lb] false 0):=by
  rw[l5.2 _ (by omega) (by omega),l4.2 _ (by omega),l3.2 _ (by omega) (by omega),l2.2 _ (by omega)];exact c1
 have g1:L5.h.get L1.nx=some (.cells [.int .i64 0] false 0):=by
  rw[l5.2 _ (by omega) (by omega),l4.2 _ (by omega)];exact c3
 have lv:=cS (p:=0) c5 rfl;refine aG ?_;simp only[↓aA,aB,rE,↓reduceIte,rA,lv];refine aY ?_;simp only[↓aA,aB,rE,↓reduceIte,rA];obtain⟨C,hC⟩:∃C:UC,C=⟨ob,gb,lb,L1.nx,L.nx,hb,L3.nx,jv,nv,iv⟩:=⟨_,rfl⟩;have hw:∀c,C.W c↔c=ob∨c=lb∨c=L1.nx:=fun c=>by rw[hC];exact Iff.rfl
 have pu:∀c,c≠ob→c≠lb→c≠L1.nx→PU C.W ⟨.nilsl,[]⟩ c:=fun c a1 a2 a3=>⟨fun e=>by rcases(hw c).1 e with e | e | e<;>contradiction,fun e=>(by cases e),fun a ha=>(by cases ha)⟩;have hU:UnI C h fr S L5 ⟨.nilsl,[]⟩:=by
  refine⟨⟨.inl ⟨rfl,rfl⟩,fun a ha=>(by cases ha),fun i j a b _ ha=>(by simp at ha),fun c hc=>(by cases hc),fun c hc=>?_⟩,?_,?_,?_,?_,?_,?_,?_,?_,?_,?_,?_,hS.trans s5⟩
  ·have:=hS.1;rcases(hw c).1 hc with rfl | rfl | rfl<;>omega
  ·rw[hC];exact(k5 _ hob.2).trans go
  ·rw[hC];exact(k5 _ hlb.2).trans gl
  ·rw[hC];exact g1
  ·rw[hC];exact(k5 _ hgb).trans gg
  ·rw[hC];exact g0
  ·rw[hC];exact(k5 _ hhb).trans gh
  ·rw[hC];exact c5
  ·have:=pu gb ngb.1 ngb.2 (by omega);rw[hC] at this ⊢;exact⟨this,by show gb<_;omega⟩
  ·have:=pu L.nx (by omega) (by omega) (by omega);rw[hC] at this ⊢;exact⟨this,by show L.nx<_;omega⟩
  ·have:=pu hb nhb.1 nhb.2 (by omega);rw[hC] at this ⊢;exact⟨this,by show hb<_;omega⟩
  ·have:=pu L3.nx (by omega) (by omega) (by omega);rw[hC] at this ⊢;exact⟨this,by show L3.nx<_;omega⟩
 have hv:=aBS (C:=C) (h:=h) (fr:=fr) (S0:=S) H hK (by rw[hC];exact hn) (by rw[hC];exact n1) (by rw[hC];show ob≠L1.nx;omega) (by rw[hC];show lb≠L1.nx;omega) (by rw[hC];exact f1) (by rw[hC];exact f3) (f:=h.nodes.length) (v:=0) (p:= -1) h0 (by omega) hU (by show 0+_≤_;omega) (.inl rfl);have e1:(AV.fn 73 [] [.ptr L1.nx 0,.ptr L.nx 0,.ptr hb 0,.ptr L3.nx 0])= .fn 73 [] [.ptr C.cb 0,.ptr C.yb 0,.ptr C.hb 0,.ptr C.vb 0]:=by rw[hC]
 rw[e1];refine aP hv ?_;rintro _ X ⟨rfl,m,q1,q2,hp,el,e2,hX,KX⟩;obtain rfl:q1= []:=by
  rcases hp with⟨_,e⟩ | ⟨i,_,_,_,ei,_⟩
  ·exact e
  ·omega
 rw[Bh] at el;try simp only[↓aA,aB,rE,↓reduceIte,rA]
 refine⟨_,rfl,C,m,by rw[hC],by rw[hC],by rw[hC],by rw[hC];show L.nx≤L1.nx;omega,by rw[el];exact e2,hX,(nG.same s5).trans KX⟩
theorem aC3{S:St}{v:AV}{h:bH}(H:Has fns)(hL:pQ h)(hv:nS S v h)(hT:aJB h)(hN:h.nodes.length≤100000)(hsz:nM h 0≤100000):fR fns (.fn 37 [] []) [v] S fun r X=>Same S X∧∃na jv,r= .agg [.int .i64 h.players,na,jv]∧kH 6 (NdV S X na) S X na ((jD h).nodes.map fun x=>(x,false,false))∧bB 2 fP X jv h.infos∧∀c,aT jv=some c→S.nx≤c∧aT na≠some c:=by
 have hK:=hL.2.1;have h0:=hL.1;obtain⟨nv,iv,rfl,hn,hi⟩:=hv;refine cE H.f37 (by simp) ?_;refine ah ?_;refine cC ?_;refine eH (by simp only[↓aA,aB,rE,↓reduceIte];exact bM _) ?_;intro S1 s1 n1 c1;refine cR ?_;intro S2 s2 n2 c2;simp only[↓aA,aB,rE,↓reduceIte,rA];have s12:=s1.trans s2;have g2:=(s2.2 _ (show S.nx<S1.nx by omega)).trans c1;have lt1:S.nx<S2.nx:=by omega
 have siv:=bB.self hi;refine aC (qE (fun _=>False) ?_);intro Y1 y1 hY1 nY1;simp only[Am,Bo,rA] at nY1;simp only[↓sU,sD,rE,↓reduceIte,rA,aE,aW,aF,yE g2,yD g2,lt1,Ay,siv];refine cP rfl ?_;refine am ?_;refine aP (aBI H (bB.same (E:=fP) fO hi (s12.trans y1)) hT.1) ?_;rintro jv Y2 ⟨ij,y2,kj⟩;refine⟨y2,?_⟩;have n2':=y2.1;simp only[↓sU,sD,rE,↓reduceIte,rA,uX];rw[aM8 (ps:=h.players) (r:=jv) (aq) (aq) (aEu ij)];simp only[↓sU,sD,rE,↓reduceIte,rA,aEj,mE,rA];refine aG5 (by rfl) rfl (aq) (by simp only[↓sU,sD,rE,↓reduceIte,rA,bM];rfl) rfl rfl (by omega) ?_;intro Z z nZ gZ;have sZ:Same S2 Z:=z.same (y1.trans y2) (by omega);have hjl2:∀c,aT jv=some c→c<Y2.nx:=fun c hc=>by
  rcases ij with⟨_,rfl | rfl⟩ | ⟨b,off,cap,o,cs,rfl,_,hb,_⟩
  ·cases hc
  ·cases hc
  ·cases hc;exact hb
 have hjw:∀c,aT jv=some c→S2.nx+8≤c:=fun c hc=>by have:=kj c hc;omega
 have iZ:bB 2 fP Z jv h.infos:=bB.moveB ij z.1 (fun c hc=>z.2 c (hjl2 c hc) (by have:=hjw c hc;omega)) fun _ _ h=>h;have hjl:∀c,aT jv=some c→c<Z.nx:=fun c hc=>by have:=hjl2 c hc;have:=z.1;omega
 simp only[↓sU,sD,rE,↓reduceIte,rA];have obZ:S2.nx+6<Z.nx:=by omega
 have gbZ:=(sZ.2 _ lt1).trans g2;have rbZ:=(sZ.2 _ (show S1.nx<S2.nx by omega)).trans c2;have sSZ:=s12.trans sZ;obtain⟨ob,hob⟩:∃ob,ob=S2.nx+6:=⟨_,rfl⟩;rw[←hob] at gZ obZ z ⊢;have lgb:dB (.ptr S.nx 0) true 3 Z.h=some (.agg [.int .i64 h.players,nv,iv]):=lQ gbZ;refine iP ?_;simp only[↓sU,sD,rE,↓reduceIte,rA,lgb];refine aY ?_;refine am ?_;refine aP (aEc (h:=h) H) ?_;rintro _ P ⟨rfl,sP,nP,gP⟩;have sP:Same Z P:=sP;have nP:P.nx=Z.nx+1:=nP;have gP:P.h.get Z.nx=some (.cells [.int .i64 h.players,nv,iv] false 0):=gP;refine am ?_;refine aKw (fun F=>aD 1 F= .ptr S.nx 0∧aD 2 F= .ptr S1.nx 0∧aD 3 F= .ptr ob 0∧aD 14 F= .fn 72 [] [.ptr Z.nx 0]) (by refine⟨?_,?_,?_,?_⟩<;>simp only[↓sU,sD,rE,↓reduceIte,rA]) ?_;rintro FR ⟨p1,p2,p3,p14⟩;obtain⟨L,hLd⟩:∃L:St,L=⟨P.h.set P.nx (some (.loop .ready none FR [15,16] asU bdU)),P.nx+1⟩:=⟨_,rfl⟩;have kL:∀c,c<P.nx→L.h.get c=P.h.get c:=fun c hc=>by rw[hLd];simp only;rw[T.get_set,if_neg (by omega)]
 have gL:L.h.get P.nx=some (.loop .ready none FR [15,16] asU bdU):=by rw[hLd];simp only;rw[T.get_set,if_pos rfl]
 have nL:L.nx=P.nx+1:=by rw[hLd]
 have kZL:∀c,c<Z.nx→L.h.get c=Z.h.get c:=fun c hc=>(kL c (by omega)).trans (sP.2 c hc);have sSL:Same S L:=⟨by have:=sSZ.1;omega,fun c hc=>(kZL c (by have:=sSZ.1;omega)).trans (sSZ.2 c hc)⟩;refine bD (Q:=fun o A' X=>o= .normal∧A'.inr=false∧aD 2 A'.F= .ptr S1.nx 0∧aD 3 A'.F= .ptr ob 0∧∃ (W:Nat→Prop) (m:UyS),m.l.map (·.1)=qB h h.nodes.length 0 0∧xD W S X m∧nG W ⟨.nilsl,[]⟩ L m X∧Same S X∧X.h.get ob=some (.cells [.int .i64 h.players,m.na,jv] false 0)∧∀c,c<P.nx→c≠ob→PU W ⟨.nilsl,[]⟩ c) (aN (aN5 rfl p14 ?_)) ?_
 ·refine aP (Q:=fun _ X=>∃ (C:UC) (m:UyS),C.ob=ob∧C.lb=P.nx∧C.jv=jv∧L.nx≤C.cb∧m.l.map (·.1)=qB h h.nodes.length 0 0∧UnI C h FR S X m∧nG C.W ⟨.nilsl,[]⟩ L m X) ?_ ?_
  ·show fR fns _ _ ⟨P.h.set P.nx (some (.loop .ready none FR [15,16] asU bdU)),P.nx+1⟩ _;rw[←hLd];exact aKA (S:=S) (L:=L) (gb:=S.nx) (nv:=nv) (iv:=iv) H hL hn sSL hsz ⟨by omega,by omega⟩ ⟨by omega,by omega⟩ (by omega) (by omega) (by omega) ⟨by omega,by omega⟩ ⟨by omega,by omega⟩ p1 p3 ((kZL _ obZ).trans gZ) gL ((kZL _ (by omega)).trans gbZ) ((kL _ (by omega)).trans gP)
  ·rintro _ X ⟨C,m,eo,el,ej,ec,hm,hU,KU⟩;have hg:=hU.gl;rw[el] at hg;refine⟨.ready,none,FR,_,_,_,.skip,hg,(fun h=>by cases h),rfl,aM ?_⟩;have kX:∀c,c≠C.lb→(X.h.set P.nx (some (.loop .exhausted none FR [15,16] asU bdU))).get c=X.h.get c:=fun c hc=>by rw[T.get_set,if_neg (by rw[←el];exact hc)]
   have wl:C.W C.lb:=.inr (.inl rfl);have hw:∀c,C.W c↔c=ob∨c=P.nx∨c=C.cb:=fun c=>by
    unfold UC.W;rw[eo,el]
   have nob:C.lb≠ob:=by rw[el];omega
   have hgo:=hU.go;rw[eo,ej] at hgo;refine⟨rfl,rfl,p2,p3,C.W,m,hm,hU.b.local (X':=⟨X.h.set P.nx (some (.loop .exhausted none FR [15,16] asU bdU)),X.nx⟩) (Ag _) fun c _ hw _=>kX c fun e=>hw (by rw[e];exact wl),KU.trans (.off (X':=⟨X.h.set P.nx (some (.loop .exhausted none FR [15,16] asU bdU)),X.nx⟩) (Ag _) fun c _ hp=>kX c fun e=>hp.1 (by rw[e];exact wl)),⟨hU.s.1,fun c hc=>(kX c (by rw[el];have:=sSL.1;omega)).trans (hU.s.2 c hc)⟩,(kX _ (Da nob)).trans hgo,fun c hc hne=>⟨fun e=>?_,fun e=>(by cases e),fun a ha=>(by cases ha)⟩⟩;rcases(hw c).1 e with e | e | e<;>omega
 rintro o ⟨F,inr⟩ X ⟨rfl,q0,t2,t3,W,m,hm,hU,KU,sX,goX,hpu⟩;simp only at q0 t2 t3;subst q0;have prb:=hpu S1.nx (by omega) (by omega);have krb:=KU.2 S1.nx (by omega) prb;have rbX:=krb.1.trans ((kZL _ (by omega)).trans rbZ);have lob:=lQ goX;try simp only[↓aA,aB,rE,↓reduceIte,rA]
 refine cC ?_;simp only[↓aA,aB,rE,↓reduceIte,rA,t2,t3,lob];refine fC (b:=S1.nx) (cs':=[.int .i64 h.players,m.na,jv]) (aj t2) (by simp only[↓aA,aB,rE,↓reduceIte,rA];exact bM _) rbX rfl rfl ?_;intro V v n' gV;refine ah ?_;refine aU ?_;simp only[↓aA,aB,rE,↓reduceIte,rA,t2,fZ,ld3 gV];have sV:Same S V:=v.same sX (by omega);have hUV:xD W S V m:=hU.local v.1 fun c hc _ hp=>v.2 c hc fun e=>hp (by rw[e];exact krb.2);refine⟨sV,m.na,jv,rfl,?_,?_,fun c hc=>?_⟩
 ·have:=hUV.laid sV;rw[hm] at this;exact this
 ·refine bB.moveB iZ (by have:=v.1;have:=KU.1;omega) (fun c hc=>?_) fun _ _ h=>h;have h1:=hjl c hc;have h2:=hjw c hc;have:=KU.2 c (by omega) (hpu c (by omega) (by omega));exact(v.2 c (by have:=KU.1;omega) (by omega)).trans (this.1.trans (kZL c h1))
 ·have h1:=hjl c hc;have h2:=hjw c hc;exact⟨by omega,(KU.2 c (by omega) (hpu c (by omega) (by omega))).2.2.1⟩
end Go.Ev.Gl
