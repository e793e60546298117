import Derived.Test.YtdkehphobhnjoaaGl19
open Nat renaming reduceEqDiff -> rE, reduceAdd -> rA
set_option maxHeartbeats 0
set_option linter.unusedSimpArgs false
set_option linter.unusedVariables false
namespace Go.Ev.Gl
variable {fns:T dU}
theorem qQ{l:jT}{i m:Nat}{h h':Ev.T AB}{r:List (Nat×Nat×Ev.T AB)}(h1:Nat.testBit l.mask i=false)(h2:mP l.v (gT l.q l.F h)=true)(h3:dY l r h'=true):dY l ((i,m,h')::r) h=true:=by
 unfold dY;rw[h1,aT,h2,aO,h3];cases Nat.testBit m l.i<;>rfl
theorem tA{l:jT}{i m:Nat}{h h':Ev.T AB}{r:List (Nat×Nat×Ev.T AB)}(h1:Nat.testBit l.mask i=false)(h2:mP l.v (gT l.q l.F h)=true)(h3:Nat.testBit m l.i=true):dY l ((i,m,h')::r) h=true:=by
 unfold dY;rw[h1,aT,h2,aO,h3,aO]
theorem jF{F:Fr}{h:Ev.T AB}{x:cU}{p v:AV}(hx:x.val F=p)(hl:eQ p false 1 h=some v)(hs:cT v v=true):mP v (gT (.ld false 1 x) F h)=true:=by
 rw[mE,hx,hl];exact hs
theorem aGt{k n:Nat}{S0 S:St}{v:AV}{cs:b6}(h:fX k S0 S v n cs):cT v v=true:=by
 rcases h with⟨rfl,_⟩ | ⟨b,rfl,_⟩
 ·rfl
 ·exact mR ..
noncomputable def aNw:AC:=qk6
theorem aLA{S0 W:St}{F:Fr}{inr:Bool}{gb nb n sz:Nat}{ps w:Int}{iv xa xw k0 k1 k2 xp:AV}{rest:b6}{o:Bool}{l1 l2:bu}{Q:Out->bS->St->Prop}(p16:aD 16 F= .ptr gb 0)(p18:aD 18 F= .int .i64 w)(hg:W.h.get gb=some (.cells [.int .i64 ps,.sl nb 0 n n o,iv] false 0))(hb:W.h.get nb=some (.cells ([k0,k1,k2,xa,xw,xp]++rest) o sz))(hn:0<n)(ga:fX 1 S0 W xa l1.length (bJ l1))(gw:fX 1 S0 W xw l2.length (bJ l2))(hS:Same S0 W)(lg:gb<W.nx)(lb:nb<W.nx)(dg:gb≠nb)(dga:aX xa≠some gb)(dgw:aX xw≠some gb)(dba:aX xa≠some nb)(dbw:aX xw≠some nb)(daw:∀c,aX xa=some c->aX xw≠some c)(b1:l1.length<=1000)(b2:l2.length<=1000)
  (hQ:∀F' Z xa' xw',(∀j,j<22->aD j F'=aD j F)->W.nx<=Z.nx->Z.h.get nb=some (.cells ([k0,k1,k2,xa',xw',xp]++rest) o sz)->fX 1 S0 Z xa' (l1++ [w]).length (bJ (l1++ [w]))->fX 1 S0 Z xw' (l2++ [1]).length (bJ (l2++ [1]))->(∀c,aX xa'=some c->W.nx<=c/\aX xw'≠some c)->(∀c,aX xw'=some c->W.nx<=c)->(∀c,c<W.nx->c≠nb->aX xa≠some c->aX xw≠some c->Z.h.get c=W.h.get c)->Q .normal ⟨F',inr⟩ Z):
  lU fns aNw ⟨F,inr⟩ W Q:=by
 unfold aNw;refine oO ?_;have f1:=cV (p:=1) hg rfl;have b3:eQ (.ptr nb 3) false 1 W.h=some xa:=cV (p:=3) hb rfl;have ia:fC (.slice 6) (.sl nb 0 n n o) 0=some (.ptr nb 0):=by
  show cB (Nat.blt 0 n) (some (AV.ptr nb (0+0 * 6))) none=_;rw[show Nat.blt 0 n=true from Ak hn,aO]
 have sxa:=aGt ga;have sxw:=aGt gw;have nat00:fG (.int .i64 0)=some 0:=rfl;simp only[Aw,Ci,rA];simp only[↓sU,sD,rE,↓reduceIte,rA,iE,p16,p18,aF,aE,aU,aT,aO,f1,nat00,ia,b3];rw[aEe,nT (n:=w) (k:=.i64) (ag)];simp only[dK];obtain⟨U1,hU1⟩:∃U:St,U=⟨W.h.set (W.nx+10) (some (.cells [.int .i64 w] false 0)),W.nx+25⟩:=⟨_,rfl⟩;have sU1:Same W U1:=by rw[hU1];exact⟨by show W.nx<=W.nx+25;omega,fun c hc=>by simp only;rw[dd,if_neg ay]⟩
 have gU1:U1.h.get (W.nx+10)=some (.cells [.int .i64 w] false 0):=by rw[hU1];simp only;rw[dd,if_pos rfl]
 have nU1:U1.nx=W.nx+25:=by rw[hU1]
 have⟨xa',V1,eA,gA,bA,nA,rA⟩:=fX.push (bytes:=8) (ga.step sU1) (hS.trans sU1) gU1 bf bf;have kA:∀c,c<W.nx->aX xa≠some c->V1.h.get c=W.h.get c:=fun c hc hne=>(rA c ay hne).trans (sU1.2 c hc);refine kE (v:=xa') (S1:=V1) rfl (fun call=>?_) ?_
 ·rw[cS (bg:Nat.testBit 2032 10=true),fY];refine af ?_;rw[<-hU1];exact eA
 rw[cS (bg:Nat.testBit 2032 10=true)];have hg1:=(kA gb lg dga).trans hg;have hb1:=(kA nb lb dba).trans hb;have f1':=cV (p:=1) hg1 rfl;have b4:eQ (.ptr nb 4) false 1 V1.h=some xw:=cV (p:=4) hb1 rfl;simp only[↓sU,sD,rE,↓reduceIte,rA,iE,p16,p18,aF,aE,aU,aT,aO,f1',nat00,ia,b4];rw[aEe,nT (n:=1) (k:=.i64) rfl];simp only[dK];obtain⟨U2,hU2⟩:∃U:St,U=⟨V1.h.set (W.nx+17) (some (.cells [.int .i64 1] false 0)),V1.nx⟩:=⟨_,rfl⟩;have nU2:U2.nx=V1.nx:=by rw[hU2]
 have kU2:∀c,c≠W.nx+17->U2.h.get c=V1.h.get c:=fun c hc=>by rw[hU2];simp only;rw[dd,if_neg hc]
 have gU2:U2.h.get (W.nx+17)=some (.cells [.int .i64 1] false 0):=by rw[hU2];simp only;rw[dd,if_pos rfl]
 have sS2:Same S0 U2:=⟨az hS.1,fun c hc=>by
  have:=hS.1;rw[kU2 c ay,kA c ay (fun e=>by have:=(ga.blk e).1;omega)];exact hS.2 c hc⟩
 have gw2:fX 1 S0 U2 xw l2.length (bJ l2):=gw.move ay fun c hc=>by
  have:=(gw.blk hc).2.1;rw[kU2 c ay,kA c ay (fun e=>daw c e hc)]
 have⟨xw',V2,eW,gW,bW,nW,rW⟩:=fX.push (bytes:=8) gw2 sS2 gU2 bf bf;have hxa':∀ {c},aX xa'=some c->c=U1.nx:=fun hc=>by rw[bA] at hc;exact(Bl hc).symm
 have hxw':∀ {c},aX xw'=some c->c=U2.nx:=fun hc=>by rw[bW] at hc;exact(Bl hc).symm
 have xwl:∀ {c},aX xw=some c->c<W.nx:=fun hc=>(gw.blk hc).2.1;have kB:∀c,c<W.nx->aX xa≠some c->aX xw≠some c->V2.h.get c=W.h.get c:=fun c hc h1 h2=>by
  rw[rW c ay h2,kU2 c ay];exact kA c hc h1
 refine kE (v:=xw') (S1:=V2) (bg:Nat.testBit 262128 11=true) (fun call=>?_) ?_
 ·rw[cS (bg:Nat.testBit 262128 17=true),fY];refine af ?_;rw[<-hU2];exact eW
 rw[cS (bg:Nat.testBit 262128 17=true)];have hg2:=(kB gb lg dga dgw).trans hg;have hb2:=(kB nb lb dba dbw).trans hb;have gAc:xa'.cells=some [xa']:=fX.cells gA;have gWc:xw'.cells=some [xw']:=fX.cells gW;simp only[↓sU,sD,rE,↓reduceIte,rA,iE,p16,p18,aF,aE,aU,aT,aO,nat00,ia];refine kE (v:=.undef) (S1:=⟨V2.h.set nb (some (.cells ([k0,k1,k2,xa',xw,xp]++rest) o sz)),V2.nx⟩) (bg:Nat.testBit 2097139 18=true) (fun call=>?_) ?_
 ·rw[dS];refine dh @bX gAc @aN ?_;exact stc (cs:=[k0,k1,k2,xa,xw,xp]++rest) (p:=3) (S:=V2) hb2 (by simp)
 simp only[↓sU,sD,rE,↓reduceIte,rA,iE,p16,p18,aF,aE,aU,aT,aO,nat00,ia,bX];refine kE (v:=.undef) (S1:=⟨(V2.h.set nb (some (.cells ([k0,k1,k2,xa',xw,xp]++rest) o sz))).set nb (some (.cells ([k0,k1,k2,xa',xw',xp]++rest) o sz)),V2.nx⟩) (bg:Nat.testBit 16777215 21=true) (fun call=>?_) ?_
 ·rw[dS];refine dh @bX gWc @aN ?_;exact stc (cs:=[k0,k1,k2,xa',xw,xp]++rest) (p:=4) (S:=⟨V2.h.set nb (some (.cells ([k0,k1,k2,xa',xw,xp]++rest) o sz)),V2.nx⟩) fq (by simp)
 rw[jB];refine⟨?_,?_⟩
 ·have hg3:(V2.h.set nb (some (.cells ([k0,k1,k2,xa',xw,xp]++rest) o sz))).get gb=some (.cells [.int .i64 ps,.sl nb 0 n n o,iv] false 0):=by rw[dd,if_neg dg];exact hg2
  have f2:=cV (p:=1) hg2 rfl;have f3:=cV (p:=1) hg3 rfl;have b4W:eQ (.ptr nb 4) false 1 W.h=some xw:=cV (p:=4) hb rfl;have sn:=mR nb 0 n n o;refine lG fun l hl=>?_;simp only[Bm,List.not_mem_nil,or_false] at hl;simp only[Cw,Fg,Bq,Ck];rcases hl with rfl | rfl | rfl | rfl | rfl | rfl
  ·exact qQ (bg:Nat.testBit 61440 11=false) (jF (ag) b4W sxw) (tA (bg:Nat.testBit 61440 18=false) (jF (ag) b4 sxw) (bg:Nat.testBit 262128 16=true))
  ·exact qQ (bg:Nat.testBit 4096 11=false) (jF (ag) f1 sn) (tA (bg:Nat.testBit 4096 18=false) (jF (ag) f1' sn) (bg:Nat.testBit 262128 13=true))
  ·exact tA (bg:Nat.testBit 240 11=false) (jF (ag) b3 sxa) (bg:Nat.testBit 2032 8=true)
  ·exact tA (bg:Nat.testBit 16 11=false) (jF (ag) f1 sn) (bg:Nat.testBit 2032 5=true)
  ·exact qQ (bg:Nat.testBit 4 11=false) (jF (ag) f1 sn) (qQ (bg:Nat.testBit 4 18=false) (jF (ag) f1' sn) (qQ (bg:Nat.testBit 4 21=false) (jF (ag) f2 sn) (tA (bg:Nat.testBit 4 24=false) (jF (ag) f3 sn) (bg:Nat.testBit 16777215 3=true))))
  ·exact qQ (bg:Nat.testBit 1 11=false) (jF (ag) f1 sn) (qQ (bg:Nat.testBit 1 18=false) (jF (ag) f1' sn) (tA (bg:Nat.testBit 1 21=false) (jF (ag) f2 sn) (bg:Nat.testBit 2097139 1=true)))
 ·simp only[bX,gP];have kZ:∀c,c≠nb->((V2.h.set nb (some (.cells ([k0,k1,k2,xa',xw,xp]++rest) o sz))).set nb (some (.cells ([k0,k1,k2,xa',xw',xp]++rest) o sz))).get c=V2.h.get c:=fun c hc=>by rw[dd,if_neg hc,dd,if_neg hc]
  refine hQ _ _ xa' xw' (fun j hj=>?_) (by show W.nx<=V2.nx;omega) fq (gA.move (by show V1.nx<=V2.nx;omega) fun c hc=>?_) (gW.move (Ag _) fun c hc=>?_) (fun c hc=>⟨by have:=hxa' hc;omega,fun e=>by have:=hxa' hc;have:=hxw' e;omega⟩) (fun c hc=>by have:=hxw' hc;omega) fun c hc h1 h2 h3=>(kZ c h1).trans (kB c hc h2 h3)
  ·repeat rw[bP,if_neg ay]
  ·have:=hxa' hc;simp only;rw[kZ c ay,rW c ay (fun e=>by have:=xwl e;omega),kU2 c ay]
  ·have:=hxw' hc;exact kZ c ay
theorem aP1{S:St}{v:AV}{l:bu}{k:Nat}(h:bO .i64 S v l)(hk:k<l.length)(hw:∀c,aX v=some c->Wr S c):∃b off,aX v=some b/\b<S.nx/\fC (.slice 1) v k=some (.ptr b off)/\eQ (.ptr b off) false 1 S.h=some (.int .i64 (l.getD k 0))/\∀ (w:Int) (n:Nat),S.nx<=n->∃X,(∀S',S'.h=S.h->mJ (.ptr b off) 1 [.int .i64 w] S'=some (.undef,⟨X,S'.nx⟩))/\(∀c,c≠b->X.get c=S.h.get c)/\bO .i64 ⟨X,n⟩ v (l.set k w)/\∀c,aX v=some c->Wr ⟨X,n⟩ c:=by
 have ia:=h.cn hk;have ld:=h.ld hk;rcases h with⟨h0,_⟩ | ⟨b,off,cap,o,cs,rfl,hc,hb,hcs,hel⟩
 ·rw[h0] at hk;simp at hk
 ·simp only[aAe] at ia ld;have⟨cs',o',sz,hg⟩:=hw b rfl;have e:cs'=cs:=by
   unfold cJ at hcs;rw[hg] at hcs;exact Bl hcs
  subst e;have hlt:off+k * 1<cs'.length:=by
   have:=hel k l[k] (Ac hk);have:=(Aj.1 this).1;omega
  refine⟨b,off+k * 1,rfl,hb,ia,ld,fun w n hn=>⟨S.h.set b (some (.cells (cs'.set (off+k * 1) (.int .i64 w)) o' sz)),fun S' hS'=>?_,fun c hne=>by rw[dd,if_neg hne],?_,fun c hcc=>?_⟩⟩
  ·have:=stc (S:=S') (b:=b) (p:=off+k * 1) (w:=.int .i64 w) (cs:=cs') (o:=o') (sz:=sz) (by rw[hS'];exact hg) hlt;rw[hS'] at this;exact this
  ·refine .inr ⟨b,off,cap,o,cs'.set (off+k * 1) (.int .i64 w),by rw[Ar],by rw[Ar];exact hc,Ae hb hn,by unfold cJ;simp only;rw[dd,if_pos rfl];rfl,fun i x hi=>?_⟩;rw[Du] at hi ⊢;by_cases e:k=i
   ·subst e;rw[if_pos rfl,if_pos hk] at hi;cases hi;rw[if_pos ay,if_pos hlt]
   ·rw[if_neg e] at hi;rw[if_neg ay];exact hel i x hi
  ·cases hcc;exact⟨_,_,_,fq⟩
def aR7(X:St)(P:Nat->Prop)(_:St)(e:b6)(a:cP):Prop:=∃xa xw xp,e= [.int .i64 a.kind,.int .i64 a.player,.int .i64 a.info,xa,xw,xp]/\bO .i64 X xa a.next/\bO .i64 X xw a.weights/\bO .i64 X xp a.pay/\(∀c,(aX xa=some c\/aX xw=some c\/aX xp=some c)->P c)/\∀c,aX xa=some c->aX xw≠some c/\aX xp≠some c
theorem mX.isF{X0 X:St}{P:Nat->Prop}{pv:AV}{cs:b6}{l:List cP}(h:mX X P cs l)(hD:aEH cs l.length)(hg:fX 6 X0 X pv l.length cs):aP 6 (aR7 X P) X pv l:=by
 rcases hg with⟨rfl,h0,_⟩ | ⟨b,rfl,_,hb,hc,_⟩
 ·exact .inl ⟨Bv.1 h0,.inl rfl⟩
 ·refine .inr ⟨b,0,l.length,true,cs,rfl,Ag _,hb,by unfold cJ;rw[hc];rfl,fun j a hj=>?_⟩;have⟨e,e1,e2,xa,xw,xp,h3,h4,h5,h6,h7⟩:=h.2 j a hj;have hlt:=(Aj.1 hj).1;exact⟨e,e1,fun q x hq=>by rw[An];exact e2 q x hq,xa,xw,xp,h3,h4,h5,h6,h7,hD j hlt xa xw xp (e2 3 xa (by rw[h3];rfl)) (e2 4 xw (by rw[h3];rfl)) (e2 5 xp (by rw[h3];rfl))⟩
def vI(cs:b6)(I:List iS):Prop:=cs.length=I.length * 2/\∀ (j:Nat) (a:iS),I[j]? =some a->∀q x,[AV.int .i64 a.player,.int .i64 a.ca][q]? =some x->cs[j * 2+q]? =some x
theorem vI.app{cs ds:b6}{I J:List iS}(h:vI cs I)(h':vI ds J):vI (cs++ds) (I++J):=by
 refine⟨by rw[Ai,h.1,h'.1,Ai,Ec],fun j a hj q x hq=>?_⟩;have hq2:q<2:=(Aj.1 hq).1;by_cases e:j<I.length
 ·rw[Al e] at hj;have:(j+1) * 2<=I.length * 2:=Cj _ e;rw[Al (by rw[h.1];omega)];exact h.2 j a hj q x hq
 ·rw[Am ay] at hj;have:=h'.2 _ a hj q x hq;rw[Am (by rw[h.1];omega),h.1];rw[show j * 2+q - I.length * 2=(j - I.length) * 2+q by omega];exact this
theorem vI.is{X0 X:St}{pv:AV}{cs:b6}{I:List iS}(h:vI cs I)(hg:fX 2 X0 X pv I.length cs):aP 2 cW X pv I:=by
 rcases hg with⟨rfl,h0,_⟩ | ⟨b,rfl,_,hb,hc,_⟩
 ·exact .inl ⟨Bv.1 h0,.inl rfl⟩
 ·exact .inr ⟨b,0,I.length,true,cs,rfl,Ag _,hb,by unfold cJ;rw[hc];rfl,fun j a hj=>⟨_,rfl,fun q x hq=>by rw[An];exact h.2 j a hj q x hq,rfl⟩⟩
theorem aNj{S:St}{v:AV}{I:List iS}(h:aP 2 cW S v I):∃new,mC v=some I.length/\eE v S.h 2 I.length=some new/\vI new I:=by
 have⟨new,h1,h2,h3⟩:=aRk bg h;refine⟨new,h1,h2,?_,fun j a hj q x hq=>?_⟩
 ·rcases h with⟨rfl,h | h⟩ | ⟨b,off,cap,o,cs,rfl,_⟩
  ·subst h;have h2:some []=some new:=h2;cases h2;rfl
  ·subst h;have h2:some []=some new:=h2;cases h2;rfl
  ·have h2:bH (cJ S.h b) (fun cs=>cut cs off (I.length * 2))=some new:=h2;have⟨cs',e1,e2⟩:=aS h2;unfold cut at e2;rw[fU,fZ] at e2;split at e2
   ·rename_i hle;cases e2;rw[De] at hle;rw[Bp,De];omega
   ·cases e2
 ·have⟨e,e1,e2,e3⟩:=h3 j a hj;have e3:e= [.int .i64 a.player,.int .i64 a.ca]:=e3;subst e3;exact e2 q x hq
theorem aKy{S0 S:St}{v x:AV}{cs:b6}{I J:List iS}(h:fX 2 S0 S v I.length cs)(hI:vI cs I)(hS:Same S0 S)(hx:aP 2 cW S x J)(hb:I.length+J.length<=1000000):∃v' S' cs',fN 16 2 v x S=some (v',S')/\fX 2 S0 S' v' (I++J).length cs'/\vI cs' (I++J)/\S.nx<=S'.nx/\(∀c,c<S.nx->aX v≠some c->S'.h.get c=S.h.get c)/\∀c,aX v'=some c->aX v=some c\/S.nx<=c:=by
 have⟨new,e1,e2,e3⟩:=aNj hx;rcases Bk J.length with h0 | hp
 ·have hJ:J= []:=Bv.1 h0;subst hJ;have hn:new= []:=Bv.1 (by rw[e3.1];rfl);subst hn;rw[Bi];refine⟨v,S,cs,?_,h,hI,Ag _,fun _ _ _=>rfl,fun c hc=>.inl hc⟩;unfold fN;rw[e1,aN,e2,aN];rcases h with⟨rfl,_⟩ | ⟨b,rfl,_,_,_,_⟩
  ·rfl
  ·show jK 16 2 b 0 I.length I.length true 0 [] S=_;unfold jK;rw[Bh,Ak (Ag _),aO];rfl
 ·have⟨v',S',a1,a2,_,a4,a5,a6⟩:=fX.appB (bytes:=16) h hS e1 e2 (by rw[e3.1]) hp bf bf;exact⟨v',S',cs++new,a1,by rw[Ai];exact a2,hI.app e3,a4,a5,fun c hc=>.inr (by rw[a6] at hc;cases hc;exact Ag _)⟩
structure TwB(S5 X:St)(gb nb n:Nat)(o:Bool)(sz:Nat)(ps:Int)(xa xw iv:AV)(cs ics:b6)(A W:bu)(L:List cP)(I:List iS):Prop where
 same:Same S5 X
 lg:S5.nx<=gb/\gb<X.nx
 lb:S5.nx<=nb/\nb<X.nx
 g:X.h.get gb=some (.cells [.int .i64 ps,.sl nb 0 n n o,iv] false 0)
 b:X.h.get nb=some (.cells ([.int .i64 1,.int .i64 0,.int .i64 0,xa,xw,.cb]++cs) o sz)
 hn:n=L.length+1
 osz:o=true->sz=6
 nod:mX X (fun c=>S5.nx<=c/\c≠gb/\c≠nb/\aX xa≠some c/\aX xw≠some c/\aX iv≠some c) cs L
 gxa:fX 1 S5 X xa A.length (bJ A)
 gxw:fX 1 S5 X xw W.length (bJ W)
 giv:fX 2 S5 X iv I.length ics
 inf:vI ics I
 dgb:gb≠nb
 da:aX xa≠some gb/\aX xa≠some nb
 dw:aX xw≠some gb/\aX xw≠some nb
 di:aX iv≠some gb/\aX iv≠some nb
 daw:∀c,aX xa=some c->aX xw≠some c/\aX iv≠some c
 dwi:∀c,aX xw=some c->aX iv≠some c
section
variable {S5 X Z:St}{gb nb n sz:Nat}{o:Bool}{ps w:Int}{xa xw iv:AV}{cs ics:b6}{A W:bu}{L:List cP}{I:List iS}
theorem TwB.step(h:TwB S5 X gb nb n o sz ps xa xw iv cs ics A W L I)(hn:X.nx<=Z.nx)(hk:∀c,c<X.nx->S5.nx<=c->Z.h.get c=X.h.get c)(hs:Same S5 Z):TwB S5 Z gb nb n o sz ps xa xw iv cs ics A W L I where
 same:=hs
 lg:=⟨h.lg.1,Ae h.lg.2 hn⟩
 lb:=⟨h.lb.1,Ae h.lb.2 hn⟩
 g:=(hk _ h.lg.2 h.lg.1).trans h.g
 b:=(hk _ h.lb.2 h.lb.1).trans h.b
 hn:=h.hn
 osz:=h.osz
 nod:=h.nod.move hn fun c hc hP=>⟨hk c hc hP.1,hP⟩
 gxa:=h.gxa.move hn fun c hc=>hk c (h.gxa.blk hc).2.1 (h.gxa.blk hc).1
 gxw:=h.gxw.move hn fun c hc=>hk c (h.gxw.blk hc).2.1 (h.gxw.blk hc).1
 giv:=h.giv.move hn fun c hc=>hk c (h.giv.blk hc).2.1 (h.giv.blk hc).1
 inf:=h.inf
 dgb:=h.dgb
 da:=h.da
 dw:=h.dw
 di:=h.di
 daw:=h.daw
 dwi:=h.dwi
theorem TwB.sm(h:TwB S5 X gb nb n o sz ps xa xw iv cs ics A W L I)(hs:Same X Z):TwB S5 Z gb nb n o sz ps xa xw iv cs ics A W L I:=h.step hs.1 (fun c hc _=>hs.2 c hc) (h.same.trans hs)
theorem TwB.root{xa' xw':AV}(h:TwB S5 X gb nb n o sz ps xa xw iv cs ics A W L I)(hn:X.nx<=Z.nx)(hb:Z.h.get nb=some (.cells ([.int .i64 1,.int .i64 0,.int .i64 0,xa',xw',.cb]++cs) o sz))(ga:fX 1 S5 Z xa' (A++ [w]).length (bJ (A++ [w])))(gw:fX 1 S5 Z xw' (W++ [1]).length (bJ (W++ [1])))(ba:∀c,aX xa'=some c->X.nx<=c/\aX xw'≠some c)(bw:∀c,aX xw'=some c->X.nx<=c)(hk:∀c,c<X.nx->c≠nb->aX xa≠some c->aX xw≠some c->Z.h.get c=X.h.get c):TwB S5 Z gb nb n o sz ps xa' xw' iv cs ics (A++ [w]) (W++ [1]) L I:=by
 have lg:=h.lg;have lb:=h.lb;have na:∀ {c},c<X.nx->aX xa'≠some c:=fun hc e=>by have:=(ba _ e).1;omega
 have nw:∀ {c},c<X.nx->aX xw'≠some c:=fun hc e=>by have:=bw _ e;omega
 exact {
  same:=⟨Au h.same.1 hn,fun c hc=>by
   have h0:=h.same.1;rw[hk c ay ay  (fun e=>by have:=(h.gxa.blk e).1;omega) (fun e=>by have:=(h.gxw.blk e).1;omega)];exact h.same.2 c hc⟩
  lg:=⟨lg.1,ay⟩
  lb:=⟨lb.1,ay⟩
  g:=(hk gb lg.2 h.dgb h.da.1 h.dw.1).trans h.g
  b:=hb
  hn:=h.hn
  osz:=h.osz
  nod:=h.nod.move hn fun c hc hP=>⟨hk c hc hP.2.2.1 hP.2.2.2.1 hP.2.2.2.2.1,hP.1,hP.2.1,hP.2.2.1,na hc,nw hc,hP.2.2.2.2.2⟩
  gxa:=ga
  gxw:=gw
  giv:=h.giv.move hn fun c hc=>hk c (h.giv.blk hc).2.1 (fun e=>h.di.2 (by rw[hc,e])) (fun e=>(h.daw c e).2 hc) fun e=>h.dwi c e hc
  inf:=h.inf
  dgb:=h.dgb
  da:=⟨na lg.2,na lb.2⟩
  dw:=⟨nw lg.2,nw lb.2⟩
  di:=h.di
  daw:=fun c hc=>⟨(ba c hc).2,fun e=>by have:=(h.giv.blk e).2.1;have:=(ba c hc).1;omega⟩
  dwi:=fun c hc e=>by have:=(h.giv.blk e).2.1;have:=bw c hc;omega}
theorem TwB.info{iv':AV}{ics':b6}{J:List iS}(h:TwB S5 X gb nb n o sz ps xa xw iv cs ics A W L I)(hn:X.nx<=Z.nx)(gi:fX 2 S5 Z iv' J.length ics')(hi:vI ics' J)(hk:∀c,c<X.nx->aX iv≠some c->Z.h.get c=X.h.get c)(hb:∀c,aX iv'=some c->aX iv=some c\/X.nx<=c):TwB S5 ⟨Z.h.set gb (some (.cells [.int .i64 ps,.sl nb 0 n n o,iv'] false 0)),Z.nx⟩ gb nb n o sz ps xa xw iv' cs ics' A W L J:=by
 have lg:=h.lg;have lb:=h.lb;have kZ:∀c,c<X.nx->c≠gb->aX iv≠some c->(Z.h.set gb (some (.cells [.int .i64 ps,.sl nb 0 n n o,iv'] false 0))).get c=X.h.get c:=fun c hc h1 h2=>by rw[dd,if_neg h1];exact hk c hc h2
 have ni:∀ {c},c<X.nx->aX iv≠some c->aX iv'≠some c:=fun hc h1 e=>by
  rcases hb _ e with h2 | h2
  ·exact h1 h2
  ·omega
 have gil:∀ {c},aX iv=some c->S5.nx<=c:=fun hc=>(h.giv.blk hc).1;exact {
  same:=⟨Au h.same.1 hn,fun c hc=>by
   have h0:=h.same.1;simp only;rw[kZ c ay ay  (fun e=>by have:=gil e;omega)];exact h.same.2 c hc⟩
  lg:=⟨lg.1,by show gb<Z.nx;omega⟩
  lb:=⟨lb.1,by show nb<Z.nx;omega⟩
  g:=by simp only;rw[dd,if_pos rfl]
  b:=(kZ nb lb.2 h.dgb.symm h.di.2).trans h.b
  hn:=h.hn
  osz:=h.osz
  nod:=h.nod.move hn fun c hc hP=>⟨kZ c hc hP.2.1 hP.2.2.2.2.2,hP.1,hP.2.1,hP.2.2.1,hP.2.2.2.1,hP.2.2.2.2.1,ni hc hP.2.2.2.2.2⟩
  gxa:=h.gxa.move hn fun c hc=>kZ c (h.gxa.blk hc).2.1 (fun e=>h.da.1 (by rw[hc,e])) (h.daw c hc).2
  gxw:=h.gxw.move hn fun c hc=>kZ c (h.gxw.blk hc).2.1 (fun e=>h.dw.1 (by rw[hc,e])) (h.dwi c hc)
  giv:=gi.move (Ag _) fun c hc=>by
   simp only;rw[dd,if_neg (fun e=>ni lg.2 h.di.1 (by rw[hc,e]))]
  inf:=hi
  dgb:=h.dgb
  da:=h.da
  dw:=h.dw
  di:=⟨ni lg.2 h.di.1,ni lb.2 h.di.2⟩
  daw:=fun c hc=>⟨(h.daw c hc).1,ni (h.gxa.blk hc).2.1 (h.daw c hc).2⟩
  dwi:=fun c hc=>ni (h.gxw.blk hc).2.1 (h.dwi c hc)}
theorem aKj{S:St}{bytes t:Nat}{new:b6}(hb:S.h.get nb=some (.cells cs o sz))(hl:cs.length=n * 6)(hos:o=true->sz=6)(ht:S.h.get t=some (.cells new false 0))(hn:new.length=6)(h1:n+1<=room)(h2:(n+1) * bytes<=room):∃S',fN bytes 6 (.sl nb 0 n n o) (.sl t 0 1 1 false) S=some (.sl S.nx 0 (n+1) (n+1) true,S')/\S'.nx=S.nx+1/\S'.h.get S.nx=some (.cells (cs++new) true 6)/\∀c,c<S.nx->c≠nb->S'.h.get c=S.h.get c:=by
 have hs:=aNr (n:=6) ht hn;have e2:Nat.ble (n+1) n=false:=by rw[Ch];intro h;have:=Ba h;omega
 have e3:cut cs 0 (n * 6)=some cs:=by
  unfold cut;rw[fU,fZ,Di,if_pos ay,Bb ay]
 cases o with
 | false=>
  refine⟨⟨S.h.set S.nx (some (.cells (cs++new) true 6)),S.nx+1⟩,?_,rfl,fq,fun c hc _=>by simp only;rw[dd,if_neg ay]⟩;show(bH (some 1) fun j=>bH (eE (.sl t 0 1 1 false) S.h 6 j) fun new=>yA (.sl nb 0 n n false) bytes 6 j new S)=_;rw[aN,hs,aN];show jK bytes 6 nb 0 n n false 1 new S=_;unfold jK;rw[e2,aT,Ak h1,aO,Ak h2,aO,hb,aN];simp only[vJ,e3,aN,aT,grown,fW]
 | true=>
  have hz:=hos rfl;subst hz;refine⟨⟨(S.h.set nb none).set S.nx (some (.cells (cs++new) true 6)),S.nx+1⟩,?_,rfl,fq,fun c hc hne=>by simp only;rw[dd,if_neg ay,dd,if_neg hne]⟩;show(bH (some 1) fun j=>bH (eE (.sl t 0 1 1 false) S.h 6 j) fun new=>yA (.sl nb 0 n n true) bytes 6 j new S)=_;rw[aN,hs,aN];show jK bytes 6 nb 0 n n true 1 new S=_;unfold jK;have e4:Nat.beq (0+n * 6) (lO cs)=true:=by rw[fL,hl,Bg];omega
  have e5:Nat.beq 6 6=true:=Fk 6;rw[e2,aT,Ak h1,aO,Ak h2,aO,hb,aN];simp only[vJ,e3,aN,aO,e4,e5,grown,fW]
theorem TwB.push{e:b6}{a:cP}{m:Nat}(h:TwB S5 X gb nb n o sz ps xa xw iv cs ics A W L I)(hn:X.nx<=m)(hm:m<Z.nx)(he:aAD Z (fun c=>S5.nx<=c/\c≠gb/\c<m/\aX xa≠some c/\aX xw≠some c/\aX iv≠some c) e a)(hb:Z.h.get m=some (.cells (([.int .i64 1,.int .i64 0,.int .i64 0,xa,xw,.cb]++cs)++e) true 6))(hk:∀c,c<X.nx->c≠nb->Z.h.get c=X.h.get c):TwB S5 ⟨Z.h.set gb (some (.cells [.int .i64 ps,.sl m 0 (n+1) (n+1) true,iv] false 0)),Z.nx⟩ gb m (n+1) true 6 ps xa xw iv (cs++e) ics A W (L++ [a]) I:=by
 have lg:=h.lg;have lb:=h.lb;have kZ:∀c,c<X.nx->c≠gb->c≠nb->(Z.h.set gb (some (.cells [.int .i64 ps,.sl m 0 (n+1) (n+1) true,iv] false 0))).get c=X.h.get c:=fun c hc h1 h2=>by rw[dd,if_neg h1];exact hk c hc h2
 have la:∀ {c},aX xa=some c->c<X.nx:=fun hc=>(h.gxa.blk hc).2.1;have lw:∀ {c},aX xw=some c->c<X.nx:=fun hc=>(h.gxw.blk hc).2.1;have li:∀ {c},aX iv=some c->c<X.nx:=fun hc=>(h.giv.blk hc).2.1;exact {
  same:=⟨by have:=h.same.1;show S5.nx<=Z.nx;omega,fun c hc=>by
   have h0:=h.same.1;simp only;rw[kZ c ay ay ay];exact h.same.2 c hc⟩
  lg:=⟨lg.1,by show gb<Z.nx;omega⟩
  lb:=⟨az h.same.1,hm⟩
  g:=by simp only;rw[dd,if_pos rfl]
  b:=by
   simp only;rw[dd,if_neg ay,hb,Bd]
  hn:=by rw[h.hn,Ai];rfl
  osz:=fun _=>rfl
  nod:=mX.push (h.nod.move (by show X.nx<=Z.nx;omega) fun c hc hP=>⟨kZ c hc hP.2.1 hP.2.2.1,hP.1,hP.2.1,ay,hP.2.2.2⟩) (he.move (Ag _) fun c _ hP=>⟨by simp only;rw[dd,if_neg hP.2.1],hP.1,hP.2.1,az hP.2.2.1,hP.2.2.2⟩)
  gxa:=h.gxa.move (by show X.nx<=Z.nx;omega) fun c hc=>kZ c (la hc) (fun e=>h.da.1 (by rw[hc,e])) (fun e=>h.da.2 (by rw[hc,e]))
  gxw:=h.gxw.move (by show X.nx<=Z.nx;omega) fun c hc=>kZ c (lw hc) (fun e=>h.dw.1 (by rw[hc,e])) (fun e=>h.dw.2 (by rw[hc,e]))
  giv:=h.giv.move (by show X.nx<=Z.nx;omega) fun c hc=>kZ c (li hc) (fun e=>h.di.1 (by rw[hc,e])) (fun e=>h.di.2 (by rw[hc,e]))
  inf:=h.inf
  dgb:=by omega
  da:=⟨h.da.1,fun e=>by have:=la e;omega⟩
  dw:=⟨h.dw.1,fun e=>by have:=lw e;omega⟩
  di:=⟨h.di.1,fun e=>by have:=li e;omega⟩
  daw:=h.daw
  dwi:=h.dwi}
theorem TwB.bk(h:TwB S5 X gb nb n o sz ps xa xw iv cs ics A W L I):aP 6 cI X (.sl nb 0 n n o) (⟨1,0,0,A,W,[]⟩::L):=by
 have hl:n=(⟨1,0,0,A,W,[]⟩::L:List cP).length:=by rw[Aw];exact h.hn
 refine .inr ⟨nb,0,n,o,_,by rw[<-hl],ay,h.lb.2,by unfold cJ;rw[h.b];rfl,fun j a hj=>?_⟩;cases j with
 | zero=>
  cases hj;refine⟨[.int .i64 1,.int .i64 0,.int .i64 0,xa,xw,.cb],rfl,fun q x hq=>?_,xa,xw,.cb,rfl,h.gxa.is,h.gxw.is,.inl ⟨rfl,.inl rfl⟩⟩;have:=(Aj.1 hq).1;rw[show 0+0 * 6+q=q by omega,Al this];exact hq
 | succ j=>
  have hj:L[j]? =some a:=hj;have⟨e,e1,e2,xa',xw',xp',h3,h4,h5,h6,_⟩:=h.nod.2 j a hj;refine⟨e,e1,fun q x hq=>?_,xa',xw',xp',h3,h4,h5,h6⟩;have:=e2 q x hq;rw[Am (by show 6<=_;omega)];show cs[0+(j+1) * 6+q - 6]? =some x;rw[show 0+(j+1) * 6+q - 6=j * 6+q by omega];exact this
end
noncomputable def aRC:List AO:=[oq 102 (.cr 3 (.t 20)),
om 103 1 (ld 102),
mt 104 21,
oq 105 (.cr 3 (.t 20)),
om 106 8 (ld 105),
mt 107 21,
om 108 56 (.cn (.slice 1) (.t 106) (.t 107)),
om 109 120 (ld 108),
mt 110 18,
om 111 504 (bi .add (.t 109) (.t 110)),
om 112 1023 (.cn (.slice 1) (.t 103) (.t 104))]
noncomputable def aQo:AC:=qk4
def ShI(X:St)(F0:Fr)(xb:Nat)(v:AV)(cells:b6)(l:bu)(f:Int)(k:Nat)(A:bS)(Z:St):Prop:=A.inr=false/\X.nx<=Z.nx/\(∀c,c<X.nx->aX v≠some c->Z.h.get c=X.h.get c)/\Z.h.get xb=some (.cells cells false 0)/\∃ (i:Nat) (l':bu),i+k=l.length/\l'.length=l.length/\(∀j,j<l.length->l'.getD j 0=if j<i then l.getD j 0+f else l.getD j 0)/\bO .i64 Z v l'/\(∀c,aX v=some c->Wr Z c)/\(∀j,j<21->aD j A.F=aD j F0)/\aD 21 A.F= .int .i64 (i:Int)
theorem aPo{X:St}{F:Fr}{xb:Nat}{v k0 k1 k2 xw xp:AV}{l:bu}{f:Int}(hv:bO .i64 X v l)(hw:∀c,aX v=some c->Wr X c)(hx:X.h.get xb=some (.cells [k0,k1,k2,v,xw,xp] false 0))(hxv:aX v≠some xb)(hl:l.length<=1000)(hb:∀j,j<l.length->0<=l.getD j 0/\l.getD j 0<=100000)(hf:0<=f/\f<=100000)(p18:aD 18 F= .int .i64 f)(p20:aD 20 F= .ptr xb 0)(p21:aD 21 F= .int .i64 0):
  lU fns aQo ⟨F,false⟩ X fun o A Z=>o= .normal/\ShI X F xb v [k0,k1,k2,v,xw,xp] l f 0 A Z:=by
 unfold aQo;refine aL (bK (ShI X F xb v [k0,k1,k2,v,xw,xp] l f) ?_ l.length _ _ ⟨rfl,Ag _,fun _ _ _=>rfl,hx,0,l,ay,rfl,fun j hj=>by rw[if_neg ay],hv,hw,fun _ _=>rfl,p21⟩);clear hv hw hx p21;rintro k ⟨F',inr⟩ Z ⟨q0,nZ,kZ,hx,i,l',hik,hl',hg,hv,hw,hk,p21⟩;simp only at q0 hk p21;subst q0;have q18:=(hk 18 ay).trans p18;have q20:=(hk 20 ay).trans p20;refine fE (dx q20 p21 @aF @aE (dI hx) hv.len @Ah ?_);by_cases hlt:i<l.length;rotate_left
 ·refine aK fe (bG ?_);refine af ?_;obtain rfl:k=0:=by omega
  refine⟨rfl,nZ,kZ,hx,i,l',hik,hl',hg,hv,hw,fun j hj=>?_,ai p21⟩
  repeat rw[bP,if_neg ay]
  exact hk j hj
 refine aM fe (aH ?_);refine af ?_;have w1:=dc i
 have hgi:=hg i hlt;rw[if_neg ay] at hgi;have hbi:=hb i hlt;have w2:IntKind.i64.wrap (l'.getD i 0+f)=l.getD i 0+f:=by rw[hgi];exact wrap_i64 ay ay
 have⟨b,off,e1,e2,e3,e4,e5⟩:=aP1 hv (k:=i) ay hw;have⟨Xh,x1,x2,x3,x4⟩:=e5 (l.getD i 0+f) (Z.nx+12) ay;have svv:=bO.self hv;have hbx:b≠xb:=fun e=>hxv (by rw[e1,e]);refine aA (aL (oY (pre:=aRC) (K:=11) (m:=2047) (n:=1) (x:=.t 112) (v:=.t 111) rfl rfl rfl rfl ?_));unfold aRC;simp only[↓sU,sD,rE,↓reduceIte,rA,q18,q20,p21,aF,aU,aE,dI hx,svv,aJ,e3,e4,w2];simp only[cH,aN];refine⟨_,x1 ⟨Z.h,Z.nx+12⟩ rfl,?_⟩;refine af ?_;refine aG (df p21 w1 ?_);refine⟨k - 1,ay,rfl,by show X.nx<=Z.nx+12;omega,fun c hc hne=>(x2 c (fun e=>hne (by rw[e1,e]))).trans (kZ c hc hne),(x2 xb hbx.symm).trans hx,i+1,l'.set i (l.getD i 0+f),ay,by rw[Ar];exact hl',fun j hj=>?_,x3,x4,fun j hj=>?_,ag⟩
 ·rw[gE ay];by_cases e:j=i
  ·rw[if_pos e,if_pos ay,e]
  ·rw[if_neg e,hg j hj];by_cases e2:j<i
   ·rw[if_pos e2,if_pos ay]
   ·rw[if_neg e2,if_neg ay]
 ·repeat rw[bP,if_neg ay]
  exact hk j hj
theorem aQm{l l':bu}{f:Int}(hl:l'.length=l.length)(h:∀j,j<l.length->l'.getD j 0=if j<l.length then l.getD j 0+f else l.getD j 0):l'=l.map (· +f):=oL (by rw[hl,Ay]) fun j hj=>by
 rw[h j ay,if_pos ay,aA0 ay]
structure TwT(F:Fr)(rb B gb n m cp:Nat)(seen:Bool)(c:Nat):Prop where
 t3:aD 3 F= .int .i64 (cp:Int)
 t4:aD 4 F= .bool seen
 t12:aD 12 F= .ptr rb 0
 t13:aD 13 F= .ptr B 0
 t14:aD 14 F= .int .i64 (n:Int)
 t15:aD 15 F= .int .i64 (m:Int)
 t16:aD 16 F= .ptr gb 0
 t17:aD 17 F= .int .i64 (c:Int)
theorem TwT.of{F F':Fr}{rb B gb n m cp c:Nat}{seen:Bool}(h:TwT F rb B gb n m cp seen c)(hk:∀j,j<18->aD j F'=aD j F):TwT F' rb B gb n m cp seen c:=
 ⟨(hk 3 ay).trans h.t3,(hk 4 ay).trans h.t4,(hk 12 ay).trans h.t12,(hk 13 ay).trans h.t13,(hk 14 ay).trans h.t14,(hk 15 ay).trans h.t15,(hk 16 ay).trans h.t16,(hk 17 ay).trans h.t17⟩
noncomputable def aPS:AC:=(.block 2 (.loop (.seq (.seq (.reg [mt 84 19,
mt 85 14,
oq 86 (bi .lss (.t 84) (.t 85))])
(.cond (.t 86) .skip (.exit 2)))
(.seq (.block 3 (.seq (.reg [oq 89 (.ld true 3 (.t 13)),
oc 90 63 [(.t 89)] 0,
oq 91 (.fld false 1 1 (.t 90)),
mt 92 19,
oq 93 (.cn (.slice 6) (.t 91) (.t 92)),
oq 94 (.ld true 6 (.t 93)),
⟨(some 20),(.a (.alloc 53 [(.int .i64 (.ofNat 0)),(.int .i64 (.ofNat 0)),(.int .i64 (.ofNat 0)),.cb,.cb,.cb])),none,0⟩,
⟨none,(.x (.st 6 (.t 20) (.t 94))),none,0⟩])
(.seq (.seq (.reg [oq 21 (.mv (ci 0))])
aQo)
(.seq (.seq (.reg [oq 113 (.cr 0 (.t 20)),
oq 114 (ld 113),
oq 115 (bi .eql (.t 114) (ci 2)),
mt 116 115,
og 117 116 true 0 (.mv (.t 4)),
oq 118 (.pick (.t 116) (.t 117) (.c (.bool false)))])
(.cond (.t 118) (.reg [oq 119 (.cr 2 (.t 20)),
oq 120 (ld 119),
mt 121 17,
mt 122 15,
oq 123 (bi .mul (.t 121) (.t 122)),
oq 124 (bi .add (.t 120) (.t 123)),
oq 125 (.cr 2 (.t 20)),
⟨none,(.x (.st 1 (.t 125) (.t 124))),none,0⟩]) .skip))
(.reg [oq 126 (.cr 1 (.t 16)),
oq 127 (ld 126),
oq 128 (.ld true 6 (.t 20)),
⟨(some 129),(.a (.ch 53 6 1 [(.int .i64 (.ofNat 0)),(.int .i64 (.ofNat 0)),(.int .i64 (.ofNat 0)),.cb,.cb,.cb] [(0,(.t 128))])),none,0⟩,
⟨(some 130),(.x (.app 53 6 96 (.t 127) (.t 129))),none,0⟩,
oq 131 (.cr 1 (.t 16)),
⟨none,(.x (.st 1 (.t 131) (.t 130))),none,0⟩])))))
(.reg [mt 87 19,
oq 88 (bi .add (.t 87) (ci 1)),
mt 19 88])))))
def LmI(S5:St)(rb B gb cp:Nat)(one:bD)(seen:Bool)(c:Nat)(k:Nat)(A:bS)(X:St):Prop:=A.inr=false/\∃ (i nb nn sz:Nat) (o:Bool) (xa xw iv:AV) (cs ics:b6),i+k=one.bk.length/\TwB S5 X gb nb nn o sz one.bo xa xw iv cs ics (lV one.bk.length (c+1)) (List.replicate (c+1) 1) (kL one seen c++(pK one seen c).take i) (jJ one seen (c+1))/\TwT A.F rb B gb one.bk.length one.bn.length cp seen c/\aD 18 A.F= .int .i64 ((1+c * one.bk.length:Nat):Int)/\aD 19 A.F= .int .i64 (i:Int)
theorem aNW{g:bD}(h:dB g=0):aQR g:=by
 have G:=iR h;refine⟨az G.ni,fun x hx=>?_⟩;obtain⟨j,hj,rfl⟩:=Cv.1 hx;have e:cd g j=g.bk[j]:=aAb (Ac hj);have a:=G.nxt j hj;have b:=aHe (aCZ h hj);have c:=G.pay j hj;rw[e] at a b c;omega
theorem aLm{one:bD}{seen:Bool}{c i:Nat}(hi:i<one.bk.length):(pK one seen c).take (i+1)=(pK one seen c).take i++ [shN ((1+c * one.bk.length:Nat):Int) ((kG one seen c:Nat):Int) (cd one i)]:=by
 have:(pK one seen c)[i]? =some (shN ((1+c * one.bk.length:Nat):Int) ((kG one seen c:Nat):Int) (cd one i)):=by
  unfold pK;rw[Bc,eK hi];rfl
 rw[Bx,this];rfl
theorem aPA{S5 X:St}{F:Fr}{rb B gb cp c:Nat}{one:bD}{seen:Bool}{nv0 iv0:AV}(H:Has fns)(hone:vD one)(hc:c<3)(hn:aP 6 cI S5 nv0 one.bk)(hi:aP 2 cW S5 iv0 one.bn)(gB:S5.h.get B=some (.cells [.int .i64 one.bo,nv0,iv0] false 0))(lB:B<S5.nx)(h0:LmI S5 rb B gb cp one seen c one.bk.length ⟨F,false⟩ X):
  lU fns aPS ⟨F,false⟩ X fun o A Z=>o= .normal/\LmI S5 rb B gb cp one seen c 0 A Z:=by
 have hform:=hone.form;have G:=iR hform;have hn60:=hone.n2;have hm60:one.bn.length<=60:=by have:=hone.ord.le;rw[Ay] at this;omega
 have hcn:c * one.bk.length<=2 * 60:=Fc ay hn60;have hcm:c * one.bn.length<=2 * 60:=Fc ay hm60;have hcL:(kL one seen c).length=c * one.bk.length:=lE;unfold aPS;refine aL (bK (LmI S5 rb B gb cp one seen c) ?_ one.bk.length _ _ h0);clear h0;rintro k ⟨F,inr⟩ X ⟨q0,i,nb,nn,sz,o,xa,xw,iv,cs,ics,hik,hB,hT,p18,p19⟩;simp only at q0 hT p18 p19;subst q0;refine fE (df hT.t14 p19 ?_);by_cases hlt:i<one.bk.length;rotate_left
 ·refine aK fe (bG ?_);refine af ?_;obtain rfl:k=0:=by omega
  refine⟨rfl,i,nb,nn,sz,o,xa,xw,iv,cs,ics,hik,hB,hT.of fun j hj=>?_,by refine⟨?_,?_⟩<;>simp only[↓sU,sD,rE,↓reduceIte,rA,p18,p19]⟩
  repeat rw[bP,if_neg ay]
 refine aM fe (aH ?_);refine af ?_;have w1:=dc i
 have nX:=hB.same.1;have gBX:=(hB.same.2 B lB).trans gB;have hLlen:(kL one seen c++(pK one seen c).take i).length<=1000:=by
  rw[Ai,hcL,Bp,xP];omega
 refine aA (aL (aA (aG ?_)));refine d6 hT.t13 (iT gBX) ?_;refine bE (aq ?_);refine aQ (aKp H (aP.same (E:=cI) bT hn hB.same) (aP.same (E:=cW) cM hi hB.same) (aNW hform) ay) ?_;rintro _ Y ⟨hY,mv,jv,nz,ds,rfl,hnz,gM,bM,dM,_⟩;have hF:=bM.isF dM gM;obtain⟨e,be,pe,hia,hbe,_,⟨xa2,xw2,xp2,rfl,ia2,iw2,ip2,hP,hdj⟩,hld,_⟩:=aP.at hF bg (eK hlt);have hfv:aIq (.agg [.int .i64 one.bo,mv,jv]) false 1 1=some mv:=rfl;refine d9 hfv p19 @aJ hia hld ?_;refine dC ?_;intro W1 v1 k1 h1;refine eS (b:=Y.nx) (ar) (by refine aq ?_;exact bL _) h1 rfl rfl ?_;intro Y2 v2 k2 h2;refine aq ?_;have sY:Same Y Y2:=v2.same v1 (Ag _);have sXY:=hY.trans sY;have nY:=hY.1;have nY2:=sY.1;have lxb:Y.nx<Y2.nx:=by omega
 clear v1 v2 h1 k1;have la2:∀ {c},aX xa2=some c->c<Y.nx:=fun hc=>fM ia2 hc;have lw2:∀ {c},aX xw2=some c->c<Y.nx:=fun hc=>fM iw2 hc;have lp2:∀ {c},aX xp2=some c->c<Y.nx:=fun hc=>fM ip2 hc;have gnx:=G.nxt i hlt;refine fE (af ?_);refine aW (aPo (X:=Y2) (xb:=Y.nx) (v:=xa2) (xw:=xw2) (xp:=xp2) (l:=(cd one i).next) (f:=((1+c * one.bk.length:Nat):Int)) (ia2.same sY) (fun b hb=>(hP b (.inl hb)).2.2.eq (sY.2 b (la2 hb))) h2 (fun e=>by have:=la2 e;omega) gnx (fun j hj=>by have:=G.kids i hlt j hj;omega) ay (ai p18) (ag) (ah)) ?_;rintro o' ⟨F2,inr⟩ Z ⟨rfl,q0,nZ,kZ,hx,i',l',hik',hl',hg',hv',_,hk,_⟩;simp only at q0 hk;subst q0;obtain rfl:i'=(cd one i).next.length:=by omega
 obtain rfl:=aQm hl' hg';have T2:TwT F2 rb B gb one.bk.length one.bn.length cp seen c:=hT.of fun j hj=>by
  rw[hk j ay]
  repeat rw[bP,if_neg ay]
 have q18:aD 18 F2= .int .i64 ((1+c * one.bk.length:Nat):Int):=(hk 18 ay).trans (ai p18);have q19:aD 19 F2= .int .i64 (i:Int):=(hk 19 ay).trans (ai p19);have q20:aD 20 F2= .ptr Y.nx 0:=(hk 20 ay).trans (ag);clear hk hg' hl';have kXZ:∀b,b<X.nx->Z.h.get b=X.h.get b:=fun b hb=>by
  rw[kZ b ay (fun e=>by have:=(hP b (.inl e)).1;omega)];exact sXY.2 b hb
 have iwZ:bO .i64 Z xw2 (cd one i).weights:=fO (iw2.same sY) nZ fun b hb=>kZ b (by have:=lw2 hb;omega) fun e=>(hdj b e).1 hb;have ipZ:bO .i64 Z xp2 (cd one i).pay:=fO (ip2.same sY) nZ fun b hb=>kZ b (by have:=lp2 hb;omega) fun e=>(hdj b e).2 hb;have hinf:(cd one i).kind=2->0<=(cd one i).info/\(cd one i).info<one.bn.length:=fun hk=>⟨(G.inf i hlt hk).1,(G.inf i hlt hk).2.1⟩;refine af ?_;refine aA (aW (Q:=fun o A' Z'=>o= .normal/\A'.inr=false/\Z'.nx=Z.nx/\(∀b,b≠Y.nx->Z'.h.get b=Z.h.get b)/\Z'.h.get Y.nx=some (.cells [.int .i64 (cd one i).kind,.int .i64 (cd one i).player,.int .i64 (shN ((1+c * one.bk.length:Nat):Int) ((kG one seen c:Nat):Int) (cd one i)).info,xa2,xw2,xp2] false 0)/\TwT A'.F rb B gb one.bk.length one.bn.length cp seen c/\aD 18 A'.F= .int .i64 ((1+c * one.bk.length:Nat):Int)/\aD 19 A'.F= .int .i64 (i:Int)/\aD 20 A'.F= .ptr Y.nx 0) (aA (aG ?_)) ?_)
 ·have t4:=T2.t4;by_cases hk2:(cd one i).kind=2
  ·refine du q20 t4 @aF @aE (eG hx) (Ab hk2) ?_;have einf:(shN ((1+c * one.bk.length:Nat):Int) ((kG one seen c:Nat):Int) (cd one i)).info=(cd one i).info+((kG one seen c:Nat):Int):=by
    show(if(cd one i).kind=2 then _ else _)=_;rw[if_pos hk2]
   have⟨i1,i2⟩:=hinf hk2;cases hs:seen with
   | true=>
    refine aM (ah) ?_;have eo:kG one true c=c * one.bn.length:=by unfold kG;rw[if_pos rfl]
    have w2:IntKind.i64.wrap ((c:Int) * (one.bn.length:Int))=((c * one.bn.length:Nat):Int):=by rw[<-Int.natCast_mul];exact wrap_i64 ay ay
    have w3:IntKind.i64.wrap ((cd one i).info+((c * one.bn.length:Nat):Int))=(cd one i).info+((c * one.bn.length:Nat):Int):=wrap_i64 ay ay;rw[hs,eo] at einf;refine aG (dy q20 T2.t15 T2.t17 @aF @aE (dE hx) w2 w3 ?_);refine fD (v:=.undef) (S1:=⟨Z.h.set Y.nx (some (.cells [.int .i64 (cd one i).kind,.int .i64 (cd one i).player,.int .i64 ((cd one i).info+((c * one.bn.length:Nat):Int)),xa2,xw2,xp2] false 0)),Z.nx⟩) (fun call=>by refine df @dS @cH ?_;exact stc (cs:=[.int .i64 (cd one i).kind,.int .i64 (cd one i).player,.int .i64 (cd one i).info,xa2,xw2,xp2]) (p:=2) hx (by simp)) ?_;refine af ?_;refine⟨fun b hb=>by rw[dd,if_neg hb],by rw[dd,if_pos rfl,eo,einf],?_,q18,q19,q20⟩;rw[<-hs];exact T2.of fun j hj=>by repeat rw[bP,if_neg ay]
   | false=>
    refine aK (ah) (aH ?_);have eo:kG one false c=0:=by unfold kG;rw[if_neg bg]
    rw[hs,eo] at einf;refine af ?_;refine⟨fun _ _=>by trivial,?_,?_,q18,q19,q20⟩
    ·rw[eo,einf,hx];show some (AB.cells [_,_,AV.int .i64 (cd one i).info,_,_,_] _ _)=some (AB.cells [_,_,AV.int .i64 ((cd one i).info+((0:Nat):Int)),_,_,_] _ _);rw[show(cd one i).info+((0:Nat):Int)=(cd one i).info by omega]
    ·rw[<-hs];exact T2.of fun j hj=>by repeat rw[bP,if_neg ay]
  ·refine du q20 t4 @aF @aE (eG hx) (Aa hk2) ?_;refine aK (ah) (aH ?_);have einf:(shN ((1+c * one.bk.length:Nat):Int) ((kG one seen c:Nat):Int) (cd one i)).info=(cd one i).info:=by
    show(if(cd one i).kind=2 then _ else _)=_;rw[if_neg hk2]
   refine af ?_;refine⟨fun _ _=>by trivial,by rw[einf];exact hx,T2.of fun j hj=>by repeat rw[bP,if_neg ay],q18,q19,q20⟩
 rintro o' ⟨F3,inr⟩ Z' ⟨rfl,q0,nZ',kZ',hx',T3,r18,r19,r20⟩;simp only at q0 T3 r18 r19 r20;subst q0;have sXZ:Same X Z':=⟨ay,fun c hc=>(kZ' c ay).trans (kXZ c hc)⟩;have hB0:=hB;have hB:=hB.sm sXZ;have hlen:=hB.hn;rw[Ai,hcL,Bp,xP,Nat.min_eq_left ay] at hlen;have hnb:aAD Z' (fun c=>X.nx<=c/\c<Z'.nx) [.int .i64 (cd one i).kind,.int .i64 (cd one i).player,.int .i64 (shN ((1+c * one.bk.length:Nat):Int) ((kG one seen c:Nat):Int) (cd one i)).info,xa2,xw2,xp2] (shN ((1+c * one.bk.length:Nat):Int) ((kG one seen c:Nat):Int) (cd one i)):=
  ⟨xa2,xw2,xp2,rfl,fO hv' ay fun b hb=>kZ' b (by have:=la2 hb;omega),fO iwZ ay fun b hb=>kZ' b (by have:=lw2 hb;omega),fO ipZ ay fun b hb=>kZ' b (by have:=lp2 hb;omega),fun b hb=>by
   have h1:=(hP b hb).1;rcases hb with hb | hb | hb
   ·have:=la2 hb;omega
   ·have:=lw2 hb;omega
   ·have:=lp2 hb;omega⟩
 refine aG ?_;refine ec r20 T3.t16 @aF @aE (gI hB.g) (rB (n:=6) hx' rfl) ?_;refine gO (aGh (ah)) ?_;intro W wS wn wb;have hW:=hB.sm wS;have hnW:=hnb.move (P':=fun c=>X.nx<=c/\c<Z'.nx) wS.1 fun c hc hp=>⟨wS.2 c hc,hp⟩;have⟨V,eA,nV,bV,kV⟩:=aKj (n:=nn) (bytes:=96) hW.b (by rw[Ai,hW.nod.1,hW.hn];show 6+_=_;omega) hW.osz wb rfl bf bf;refine fD (fun call=>by refine cm @fY ?_;exact eA) ?_;refine dh T3.t16 @aF @aE ?_;have gV:V.h.get gb=some (.cells [.int .i64 one.bo,.sl nb 0 nn nn o,iv] false 0):=(kV gb hW.lg.2 hW.dgb).trans hW.g;refine fD (v:=.undef) (S1:=⟨V.h.set gb (some (.cells [.int .i64 one.bo,.sl W.nx 0 (nn+1) (nn+1) true,iv] false 0)),V.nx⟩) (fun call=>by refine df @dS @aHF ?_;exact stc (cs:=[.int .i64 one.bo,.sl nb 0 nn nn o,iv]) (p:=1) gV (by simp)) ?_;refine af ?_;have hV:=hW.push (Ag _) ay (hnW.move (P':=fun c=>S5.nx<=c/\c≠gb/\c<W.nx/\aX xa≠some c/\aX xw≠some c/\aX iv≠some c) ay fun b hb hp=>⟨kV b hb (az hB0.lb.2),az hB0.same.1,az hB0.lg.2,hb,fun e=>by have:=(hB0.gxa.blk e).2.1;omega,fun e=>by have:=(hB0.gxw.blk e).2.1;omega,fun e=>by have:=(hB0.giv.blk e).2.1;omega⟩) bV kV;rw[Bd,<-aLm hlt] at hV;refine aG (df r19 w1 ?_);refine⟨k - 1,ay,rfl,i+1,W.nx,nn+1,6,true,xa,xw,iv,_,ics,ay,hV,T3.of fun j hj=>?_,by refine⟨?_,?_⟩<;>simp only[↓sU,sD,rE,↓reduceIte,rA,r18]⟩
 repeat rw[bP,if_neg ay]
section
variable {S5 X Z:St}{gb nb n sz:Nat}{o:Bool}{ps:Int}{xa xw iv:AV}{cs ics:b6}{A W:bu}{L:List cP}{I:List iS}
theorem TwB.re(h:TwB S5 X gb nb n o sz ps xa xw iv cs ics A W L I)(hn:X.nx<=Z.nx)(hk:∀c,c<X.nx->S5.nx<=c->Z.h.get c=X.h.get c):TwB ⟨Z.h,S5.nx⟩ Z gb nb n o sz ps xa xw iv cs ics A W L I where
 same:=⟨Au h.same.1 hn,fun _ _=>rfl⟩
 lg:=⟨h.lg.1,Ae h.lg.2 hn⟩
 lb:=⟨h.lb.1,Ae h.lb.2 hn⟩
 g:=(hk _ h.lg.2 h.lg.1).trans h.g
 b:=(hk _ h.lb.2 h.lb.1).trans h.b
 hn:=h.hn
 osz:=h.osz
 nod:=h.nod.move hn fun c hc hP=>⟨hk c hc hP.1,hP⟩
 gxa:=h.gxa.move hn fun c hc=>hk c (h.gxa.blk hc).2.1 (h.gxa.blk hc).1
 gxw:=h.gxw.move hn fun c hc=>hk c (h.gxw.blk hc).2.1 (h.gxw.blk hc).1
 giv:=h.giv.move hn fun c hc=>hk c (h.giv.blk hc).2.1 (h.giv.blk hc).1
 inf:=h.inf
 dgb:=h.dgb
 da:=h.da
 dw:=h.dw
 di:=h.di
 daw:=h.daw
 dwi:=h.dwi
end
theorem aIk{n c:Nat}:lV n (c+1)=lV n c++ [((1+c * n:Nat):Int)]:=by
 unfold lV;rw[List.range_succ,Dd];rfl
noncomputable def aPE:AC:=qk2
noncomputable def aQZ:AC:=(.block 0 (.loop (.seq (.seq (.reg [mt 41 17,
mt 42 3,
oq 43 (bi .lss (.t 41) (.t 42))])
(.cond (.t 43) .skip (.exit 0)))
(.seq (.block 1 (.seq (.reg [mt 46 17,
mt 47 14,
oq 48 (bi .mul (.t 46) (.t 47)),
oq 49 (bi .add (ci 1) (.t 48)),
mt 18 49])
(.seq aNw
(.seq aPE
(.seq (.reg [oq 19 (.mv (ci 0))])
aPS)))))
(.reg [mt 44 17,
oq 45 (bi .add (.t 44) (ci 1)),
mt 17 45])))))
def TwI(S5:St)(rb B gb cp:Nat)(one:bD)(seen:Bool)(k:Nat)(A:bS)(X:St):Prop:=A.inr=false/\∃ (c nb nn sz:Nat) (o:Bool) (xa xw iv:AV) (cs ics:b6),c+k=cp/\TwB S5 X gb nb nn o sz one.bo xa xw iv cs ics (lV one.bk.length c) (List.replicate c 1) (kL one seen c) (jJ one seen c)/\TwT A.F rb B gb one.bk.length one.bn.length cp seen c
theorem aPY{S5 X:St}{F:Fr}{rb B gb nb nn sz cp c:Nat}{o:Bool}{one:bD}{seen:Bool}{xa xw iv nv0 iv0:AV}{cs ics:b6}{A W:bu}{L:List cP}(hone:vD one)(hc:c<3)(hi:aP 2 cW S5 iv0 one.bn)(gB:S5.h.get B=some (.cells [.int .i64 one.bo,nv0,iv0] false 0))(lB:B<S5.nx)(hB:TwB S5 X gb nb nn o sz one.bo xa xw iv cs ics A W L (jJ one seen c))(hT:TwT F rb B gb one.bk.length one.bn.length cp seen c)(p18:aD 18 F= .int .i64 ((1+c * one.bk.length:Nat):Int)):
  lU fns aPE ⟨F,false⟩ X fun o' A' Z=>o'= .normal/\A'.inr=false/\(∃ (iv':AV) (ics':b6),TwB S5 Z gb nb nn o sz one.bo xa xw iv' cs ics' A W L (jJ one seen (c+1)))/\TwT A'.F rb B gb one.bk.length one.bn.length cp seen c/\aD 18 A'.F= .int .i64 ((1+c * one.bk.length:Nat):Int):=by
 have hm60:one.bn.length<=60:=by have:=hone.ord.le;rw[Ay] at this;have:=hone.n2;omega
 have hcm:c * one.bn.length<=2 * 60:=Fc ay hm60;have t4:=hT.t4;unfold aPE;have nX:=hB.same.1;have gBX:=(hB.same.2 B lB).trans gB;have hlen:(jJ one seen c).length<=300:=by
  cases hs:seen with
  | true=>rw[lH rfl];omega
  | false=>
   cases c with
   | zero=>show 0<=300;omega
   | succ c=>rw[tC rfl ay];omega
 by_cases hcond:c=0\/seen=true;rotate_left
 ·have hc0:c≠0:=fun e=>hcond (.inl e);have hs:seen=false:=by cases seen with | true=>exact absurd (.inr rfl) hcond | false=>rfl
  have e1:jJ one seen (c+1)=jJ one seen c:=by
   show(if _ then _ else _)=_;rw[if_neg hcond]
  rw[e1];rw[hs] at t4;refine bQ ?_;refine dh hT.t17 t4 (Aa (ay:¬ (c:Int)=0)) ?_;refine aK (ah) (aH ?_);refine af ?_;refine⟨⟨iv,ics,hB⟩,hT.of fun j hj=>?_,ai p18⟩
  repeat rw[bP,if_neg ay]
 have e1:jJ one seen (c+1)=jJ one seen c++one.bn:=by
  show(if _ then _ else _)=_;rw[if_pos hcond]
 rw[e1];refine aA (aW (Q:=fun o' A' Z=>o'= .normal/\A'.inr=false/\Z=X/\aD 77 A'.F= .bool true/\TwT A'.F rb B gb one.bk.length one.bn.length cp seen c/\aD 18 A'.F= .int .i64 ((1+c * one.bk.length:Nat):Int)) (aG ?_) ?_)
 ·by_cases hc0:c=0
  ·refine df hT.t17 (Ab (ay:(c:Int)=0)) ?_;refine⟨hT.of fun j hj=>?_,p18⟩
   repeat rw[bP,if_neg ay]
  ·have hs:seen=true:=hcond.resolve_left hc0;rw[hs] at t4;refine dh hT.t17 t4 (Aa (ay:¬ (c:Int)=0)) ?_;refine⟨hT.of fun j hj=>?_,p18⟩
   repeat rw[bP,if_neg ay]
 clear p18 hT t4;rintro o' ⟨F,inr⟩ _ ⟨rfl,q0,rfl,p77,hT,p18⟩;simp only at q0 p77 hT p18;subst q0;refine aM (ai p77) ?_;have⟨iv',V,ics',eA,gV,iV,nV,kV,bV⟩:=aKy hB.giv hB.inf hB.same (aP.same (E:=cW) cM hi hB.same) ay;have gg:=hB.g;have gVb:V.h.get gb=some (.cells [.int .i64 one.bo,.sl nb 0 nn nn o,iv] false 0):=(kV gb hB.lg.2 hB.di.1).trans gg;refine aG (du hT.t13 hT.t16 @aF @aE (lW gBX) (lW gg) ?_);refine fD (fun call=>by refine cm @fY ?_;exact eA) ?_;refine dh hT.t16 @aF @aE ?_;refine fD (v:=.undef) (S1:=⟨V.h.set gb (some (.cells [.int .i64 one.bo,.sl nb 0 nn nn o,iv'] false 0)),V.nx⟩) (fun call=>by refine df @dS gV.cells ?_;exact stc (cs:=[.int .i64 one.bo,.sl nb 0 nn nn o,iv]) (p:=2) gVb (by simp)) ?_;refine af ?_;refine⟨⟨iv',ics',hB.info nV gV iV kV bV⟩,hT.of fun j hj=>?_,ai p18⟩
 repeat rw[bP,if_neg ay]
theorem aQh{S5 X:St}{F:Fr}{rb B gb cp:Nat}{one:bD}{seen:Bool}{nv0 iv0:AV}(H:Has fns)(hone:vD one)(hc:cp<=3)(hn:aP 6 cI S5 nv0 one.bk)(hi:aP 2 cW S5 iv0 one.bn)(gB:S5.h.get B=some (.cells [.int .i64 one.bo,nv0,iv0] false 0))(lB:B<S5.nx)(h0:TwI S5 rb B gb cp one seen cp ⟨F,false⟩ X):
  lU fns aQZ ⟨F,false⟩ X fun o A Z=>o= .normal/\TwI S5 rb B gb cp one seen 0 A Z:=by
 unfold aQZ;have hn60:=hone.n2;refine aL (bK (TwI S5 rb B gb cp one seen) ?_ cp _ _ h0);clear h0;rintro k ⟨F,inr⟩ X ⟨q0,c,nb,nn,sz,o,xa,xw,iv,cs,ics,hck,hB,hT⟩;simp only at q0 hT;subst q0;refine fE (df hT.t17 hT.t3 ?_);by_cases hlt:c<cp;rotate_left
 ·refine aK fe (bG ?_);refine af ?_;obtain rfl:k=0:=by omega
  refine⟨rfl,c,nb,nn,sz,o,xa,xw,iv,cs,ics,hck,hB,hT.of fun j hj=>?_⟩
  repeat rw[bP,if_neg ay]
 refine aM fe (aH ?_);refine af ?_;have hcn:c * one.bk.length<=2 * 60:=Fc ay hn60;have w1:=dc c
 have w2:IntKind.i64.wrap ((c:Int) * (one.bk.length:Int))=((c * one.bk.length:Nat):Int):=by rw[<-Int.natCast_mul];exact wrap_i64 ay ay
 have w3:IntKind.i64.wrap (1+((c * one.bk.length:Nat):Int))=((1+c * one.bk.length:Nat):Int):=by rw[wrap_i64 ay ay];omega
 have nn0:0<nn:=by have:=hB.hn;omega
 refine aA (aL (aA (aG ?_)));refine dk hT.t17 hT.t14 w2 w3 ?_;refine aA (aLA (S0:=S5) (gb:=gb) (nb:=nb) (fg hT.t16) (ah) hB.g hB.b nn0 hB.gxa hB.gxw hB.same hB.lg.2 hB.lb.2 hB.dgb hB.da.1 hB.dw.1 hB.da.2 hB.dw.2 (fun b hb=>(hB.daw b hb).1) (by rw[xY];omega) (by rw[Aq];omega) ?_);intro F1 Z xa' xw' hk nZ bZ gaZ gwZ baZ bwZ kZ;have hB1:=hB.root nZ bZ gaZ gwZ baZ bwZ kZ;rw[<-aIk,<-List.replicate_succ'] at hB1;have T1:TwT F1 rb B gb one.bk.length one.bn.length cp seen c:=hT.of fun j hj=>by
  rw[hk j ay]
  repeat rw[bP,if_neg ay]
 have q18:aD 18 F1= .int .i64 ((1+c * one.bk.length:Nat):Int):=(hk 18 ay).trans (ag);clear hk hT hB bZ gaZ gwZ baZ bwZ kZ;refine aA (aW (aPY hone ay hi gB lB hB1 T1 q18) ?_);rintro o' ⟨F2,inr⟩ Z2 ⟨rfl,q0,⟨iv2,ics2,hB2⟩,T2,r18⟩;simp only at q0 T2 r18;subst q0;refine af ?_;refine bQ (af ?_);refine aW (aPA (cp:=cp) (rb:=rb) H hone ay hn hi gB lB ⟨rfl,0,nb,nn,sz,o,xa',xw',iv2,cs,ics2,ay,by rw[Bw,Bi];exact hB2,T2.of fun j hj=>?_,ai r18,ah⟩) ?_
 ·repeat rw[bP,if_neg ay]
 rintro o' ⟨F3,inr⟩ Z3 ⟨rfl,q0,i,nb3,nn3,sz3,o3,xa3,xw3,iv3,cs3,ics3,hi3,hB3,T3,s18,s19⟩;simp only at q0 T3 s18 s19;subst q0;obtain rfl:i=one.bk.length:=by omega
 rw[Bb (by rw[xP];exact Ag _)] at hB3;refine af ?_;refine aG (df T3.t17 w1 ?_);refine⟨k - 1,ay,rfl,c+1,nb3,nn3,sz3,o3,xa3,xw3,iv3,cs3,ics3,ay,hB3,⟨?_,?_,?_,?_,?_,?_,?_,?_⟩⟩
 ·simp only[↓sU,sD,rE,↓reduceIte,rA,T3.t3]
 ·simp only[↓sU,sD,rE,↓reduceIte,rA,T3.t4]
 ·simp only[↓sU,sD,rE,↓reduceIte,rA,T3.t12]
 ·simp only[↓sU,sD,rE,↓reduceIte,rA,T3.t13]
 ·simp only[↓sU,sD,rE,↓reduceIte,rA,T3.t14]
 ·simp only[↓sU,sD,rE,↓reduceIte,rA,T3.t15]
 ·simp only[↓sU,sD,rE,↓reduceIte,rA,T3.t16]
 ·simp only[↓sU,sD,rE,↓reduceIte,rA]
theorem aSV{F:Fr}{h:Ev.T AB}{ps:Int}{b:Nat}(h37:aD 37 F= .int .i64 ps)(h39:aD 39 F= .sl b 0 1 1 false):gT (.build [.int .i64 0,.cb,.cb] [(0,1,.t 37),(1,1,.t 39)]) F h=some (.agg [.int .i64 ps,.sl b 0 1 1 false,.cb]):=by
 show(bH (eZ _ (eH F [(0,1,.t 37),(1,1,.t 39)])) fun cs=>some (AV.agg cs))=_;simp only[eH,show(cU.t 37).val F= .int .i64 ps from h37,show(cU.t 39).val F= .sl b 0 1 1 false from h39,eZ,cH,aHF,aN];rfl
theorem aHb{S:St}{lv:AV}{dl:bu}{ps most:Int}{cp:Nat}{seen zero:Bool}(H:Has fns)(hl:bO .i64 S lv dl)(hbd:dl.length<=140737488355328)(hps:1<=ps/\ps<=4)(hm:1<=most/\most<=61)(hc:1<=cp/\cp<=3):
  gH fns (.fn 42 [] []) [lv,.int .i64 ps,.int .i64 most,.int .i64 (cp:Int),.bool seen,.bool zero] S fun r Z=>Same S Z/\∃ (one:bD) (nv iv:AV),vD one/\one.bo=ps/\(one.bk.length:Int)<=mx 1 ((most - 1) / (cp:Int))/\r= .agg [.int .i64 ps,nv,iv]/\aP 6 cI Z nv (dT one cp seen).bk/\aP 2 cW Z iv (dT one cp seen).bn/\∀X':St,Z.nx<=X'.nx->(∀c,c<Z.nx->S.nx<c->X'.h.get c=Z.h.get c)->aP 6 cI X' nv (dT one cp seen).bk/\aP 2 cW X' iv (dT one cp seen).bn:=by
 refine cF H.f42 (by simp) ?_;refine af ?_;refine bQ ?_;refine dC ?_;intro S1 s1 n1 g1;refine aq ?_;have w1:IntKind.i64.wrap (most - 1)=most - 1:=wrap_i64 ay ay;have hq:iL .quo (.p .int) (.int .i64 (most - 1)) (.int .i64 (cp:Int))=some (.int .i64 ((most - 1) / (cp:Int))):=aEL _ ay ay ay;have hq1:(most - 1) / (cp:Int)<=60:=by
  have h1:(most - 1) / (cp:Int)<=most - 1:=Int.ediv_le_self _ ay;omega
 have hmx:1<=mx 1 ((most - 1) / (cp:Int))/\mx 1 ((most - 1) / (cp:Int))<=60:=by unfold mx;split<;>omega
 refine bQ (ec w1 hq @aDb @jI @oE @aCv ?_);refine bE (aq ?_);refine aQ (aFJ H (hl.same s1) hbd hps ⟨hmx.1,ay⟩) ?_;rintro _ S2 ⟨s2,one,nv0,iv0,rfl,rfl,hform,hlen,hok,⟨hsub,hord⟩,hn2,hi2,_⟩;have hone:vD one:=⟨hps,by have:=(iR hform).n1;omega,ay,hform,hok,hsub,hord⟩;refine dC ?_;intro S3 s3 n3 g3;refine eS (b:=S2.nx) (ar) (by refine aq ?_;exact bL _) g3 rfl rfl ?_;intro S4 v4 k4 g4;refine aq ?_;have s4:Same S2 S4:=v4.same s3 (Ag _);have n2:=s2.1;have m4:=s4.1;have lB:S2.nx<S4.nx:=by omega
 have gr4:S4.h.get S.nx=some (.cells [.int .i64 0,.cb,.cb] false 0):=(s4.2 _ ay).trans ((s2.2 _ ay).trans g1);have sS4:Same S S4:=(s1.trans s2).trans s4;have hn4:=aP.same (E:=cI) bT hn2 s4;have hi4:=aP.same (E:=cW) cM hi2 s4;have lnn:=aP.len hn4;have lni:=aP.len hi4;clear v4 g3 s3 k4 n3;have gB:S4.h.get S2.nx=some (.cells [.int .i64 one.bo,nv0,iv0] false 0):=g4;refine aA (iJ ?_);refine du @aF @aE (gI gB) (lW gB) lnn lni ?_;refine⟨fun _=>trivial,aP.self hn4,fun _=>trivial,aP.self hi4,?_⟩;refine bQ ?_;obtain⟨S5,hS5⟩:∃Y:St,Y=⟨S4.h,S4.nx+8⟩:=⟨_,rfl⟩;have e5:(⟨S4.h,S4.nx+8⟩:St)=S5:=hS5.symm;refine dz @aQu ?_;refine gO (aGh (by simp only[↓aC,aB,rE,↓reduceIte,rA];try rfl)) ?_;simp only[e5];have s5:Same S4 S5:=by rw[hS5];exact Same.nx _ _
 have n5:S5.nx=S4.nx+8:=by rw[hS5]
 clear hS5 e5;intro S6 s6 n6 g6;simp only[<-n5] at g6 n6 s6 ⊢;refine aq ?_;have hbl:∀ (F:Fr) (h:Ev.T AB),aD 37 F= .int .i64 one.bo->aD 39 F= .sl S5.nx 0 1 1 false->gT (.build [.int .i64 0,.cb,.cb] [(0,1,.t 37),(1,1,.t 39)]) F h=some (.agg [.int .i64 one.bo,.sl S5.nx 0 1 1 false,.cb]):=fun F h a b=>aSV a b;refine dz hbl ?_;refine dC ?_;intro S7 s7 n7 g7;refine eS (b:=S6.nx) (ar) (by refine aq ?_;exact bL _) g7 rfl rfl ?_;intro S8 v8 k8 g8;refine aq ?_;have s8:Same S6 S8:=v8.same s7 (Ag _);have m8:=s8.1;have s58:=s6.trans s8;have hn5:=aP.same (E:=cI) bT hn4 s5;have hi5:=aP.same (E:=cW) cM hi4 s5;have gB5:=(s5.2 _ lB).trans gB;have gr5:=(s5.2 S.nx (az s1.1)).trans gr4;have sS5:=sS4.trans s5;have hB0:TwB S5 S8 S6.nx S5.nx 1 false 0 one.bo .cb .cb .cb [] [] (lV one.bk.length 0) (List.replicate 0 1) (kL one seen 0) (jJ one seen 0):=
  {
   same:=s58
   lg:=⟨ay,ay⟩
   lb:=⟨Ag _,ay⟩
   g:=g8
   b:=(s8.2 _ ay).trans g6
   hn:=rfl
   osz:=fun h=>by cases h
   nod:=⟨rfl,fun j a h=>by cases h⟩
   gxa:=.inl ⟨rfl,rfl,rfl⟩
   gxw:=.inl ⟨rfl,rfl,rfl⟩
   giv:=.inl ⟨rfl,rfl,rfl⟩
   inf:=⟨rfl,fun j a h=>by cases h⟩
   dgb:=by omega
   da:=⟨(fun h=>by cases h),(fun h=>by cases h)⟩
   dw:=⟨(fun h=>by cases h),(fun h=>by cases h)⟩
   di:=⟨(fun h=>by cases h),(fun h=>by cases h)⟩
   daw:=fun c h=>by cases h
   dwi:=fun c h=>by cases h}
 refine fE (af ?_);refine aW (aQh (rb:=S.nx) (B:=S2.nx) (gb:=S6.nx) (cp:=cp) (seen:=seen) H hone ay hn5 hi5 gB5 ay ⟨rfl,0,S5.nx,1,0,false,.cb,.cb,.cb,[],[],ay,hB0,⟨?_,?_,?_,?_,?_,?_,?_,?_⟩⟩) ?_
 ·simp only[↓sU,sD,rE,↓reduceIte,rA]
 ·simp only[↓sU,sD,rE,↓reduceIte,rA]
 ·simp only[↓sU,sD,rE,↓reduceIte,rA]
 ·simp only[↓sU,sD,rE,↓reduceIte,rA]
 ·simp only[↓sU,sD,rE,↓reduceIte,rA]
 ·simp only[↓sU,sD,rE,↓reduceIte,rA]
 ·simp only[↓sU,sD,rE,↓reduceIte,rA]
 ·simp only[↓sU,sD,rE,↓reduceIte,rA];try rfl
 clear hB0 g6 g7 g8 s7 v8 k8 s58 s8;rintro o' ⟨F,inr⟩ X ⟨rfl,q0,c,nb,nn,sz,o,xa,xw,iv,cs,ics,hck,hB,hT⟩;simp only at q0 hT;subst q0;obtain rfl:c=cp:=by omega
 refine af ?_;have nX:=hB.same.1;have grX:=(hB.same.2 S.nx (az s1.1)).trans gr5;have lag:=iT hB.g;refine bQ (dh hT.t16 hT.t12 lag ?_);refine eS (b:=S.nx) (fg hT.t12) (by refine af ?_;exact bL _) grX rfl rfl ?_;intro Z z1 z2 z3;have lagZ:=iT z3;refine af ?_;refine aR (dh @gF hT.t12 lagZ ?_);have hZ:=hB.re (Z:=Z) z1.1 fun b hb h5=>z1.2 b hb (az s1.1);refine⟨z1.same (sS5.trans hB.same) (Ag _),one,_,_,hone,rfl,hlen,rfl,hZ.bk,hZ.inf.is hZ.giv,fun X' hn' hk'=>?_⟩;have hX:=hZ.re (Z:=X') hn' fun b hb h5=>hk' b hb (by have:=s1.1;have:S5.nx<=b:=h5;omega);exact⟨hX.bk,hX.inf.is hX.giv⟩
theorem aP.head{k:Nat}{α:Type}{E:St->b6->α->Prop}{S:St}{v:AV}{l:List α}(h:aP k E S v l){n:Nat}(hn:n<l.length):∃v',(∀ (F:Fr) (x:cU),fG (x.val F)=some n->rQ (.slice k) v none (some x) none F=some v')/\aP k E S v' (l.take n):=by
 rcases h with⟨h0,_⟩ | ⟨b,off,cap,o,cs,rfl,hc,hb,hcs,hel⟩
 ·subst h0;cases hn
 ·have e1:Nat.ble cap cap=true:=Ak (Ag _);have e2:Nat.ble n cap=true:=Ak ay;have e3:Nat.ble 0 n=true:=Ak (Da _);have e4:Nat.beq cap 0=false:=by rw[Ch];intro h;rw[Bg] at h;omega
  refine⟨.sl b off n cap o,fun F x hx=>?_,.inr ⟨b,off,cap,o,cs,by rw[Bp,Nat.min_eq_left ay],by rw[Bp];omega,hb,hcs,fun i a hi=>?_⟩⟩
  ·simp only[rQ,aHp,mD,jO,aN,hx,e1,e2,e3,aO,e4,aT,Eu,Cy,Bh,Option.isNone_none];cases o<;>rfl
  ·rw[List.getElem?_take] at hi;split at hi
   ·exact hel i a hi
   ·cases hi
section
variable {S:St}{nv iv av bv:AV}{g:bD}{a b:bu}
theorem aIF(H:Has fns)(hf:dB g=0)(hn:aP 6 cI S nv g.bk)(hi:aP 2 cW S iv g.bn)(ha:bO .i64 S av a)(hb:bO .i64 S bv b)(A:gD g a)(B:gD g b):
  gH fns (.fn 17 [] []) [.agg [.int .i64 g.bo,nv,iv],av,bv] S fun r S'=>Same S S'/\∃v,r= .tup [v,.int .i64 0]/\bO .i64 S' v (cA a b):=
 aQ (aFE (P:=tN g a) (P':=tN g b) (oka:=iB g a) (okb:=iB g b) H (aAK (g:=g) (m:=a)) (aAK (g:=g) (m:=b)) hn hi ha hb (by have:=(iR hf).n2;omega) (aNM H hn hi ha) (aNM H hn hi hb)) fun r S' h=>by
  have⟨s,v,e,p⟩:=h;have e0:yC g a b (iB g a) (iB g b)=0:=by
   unfold yC;rw[A.chk hf,if_neg (fun h=>h rfl)];exact B.e
  rw[e0] at e p;exact⟨s,v,e,p.2 rfl⟩
theorem aCg(H:Has fns)(hf:dB g=0)(hn:aP 6 cI S nv g.bk)(hi:aP 2 cW S iv g.bn)(ha:bO .i64 S av a)(A:gD g a):
  gH fns (.fn 16 [] []) [.agg [.int .i64 g.bo,nv,iv],av] S fun r S'=>r= .int .i64 0/\Same S S':=
 aQ (aIp (P:=tN g a) (ok:=iB g a) H (aAK (g:=g) (m:=a)) hn hi ha (by have:=(iR hf).n2;omega) (aNM H hn hi ha)) fun r S' h=>by
  rw[A.chk hf] at h;exact h
end
section
variable {g:bD}{a b c c' m:bu}
end
section
variable {g:bD}{T:List cK}{c P P' p:bu}{f i n j d e:Nat}{s w:Int}
end
section
variable {S:St}{nv iv av:AV}{g:bD}{a:bu}
end
end Go.Ev.Gl
