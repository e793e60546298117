import Derived.Test.YtbmodoaceepfoaaGl19
set_option linter.all false
open Nat renaming reduceEqDiff -> rE, reduceAdd -> rA
set_option maxHeartbeats 0
namespace Go.Ev.Gl
variable {fns:T eY}
variable {l:bu}{i n gb nb sz B rb cp c:Nat}{h h':Ev.T AB}{r:List (Nat×Nat×Ev.T AB)}{F:Fr}{v iv xa xw z xp pv:AV}{S0 S X S5:St}{cs:cd}{ps:Int}{I J:List fU}{g:aX}
def sN{l:mC}{m:Nat}(k:Nat.testBit l.mask i=false)(q:oY l.v (gO l.q l.F h)=true)(t:fA l r h'=true):fA l ((i,m,h')::r) h=true:=by
 unfold fA;rw[k,aU,q,aN,t];cases Nat.testBit m l.i<;>rfl
def vA{l:mC}{m:Nat}(k:Nat.testBit l.mask i=false)(q:oY l.v (gO l.q l.F h)=true)(t:Nat.testBit m l.i=true):fA l ((i,m,h')::r) h=true:=by
 unfold fA;rw[k,aU,q,aN,t,aN]
def kG{x:cT}{p:AV}(k:x.val F=p)(l:eK p false 1 h=some v)(q:cO v v=true):oY v (gO (.ld false 1 x) F h)=true:=by
 rw[mQ,k,l];exact q
def aHu{k:Nat}(h:fP k S0 S v n cs):cO v v=true:=by
 rcases h with⟨rfl,_⟩|⟨b,rfl,_⟩
 .rfl
 .exact mE ..
noncomputable def aOP:AC:=qk8
def aMB{W:St}{inr:Bool}{w:Int}{y B:AV}{h:cd}{o:Bool}{V O:bu}{Q:Out->bO->St->Prop}(E:aC 16 F= .ptr gb 0)(G:aC 18 F=je w)(hg:W.h.get gb=jf [je ps,.sl nb 0 n n o,iv])(hb:W.h.get nb=some (.cells ([y,z,B,xa,xw,xp]++h) o sz))(hn:0<n)(ga:fP 1 S0 W xa V.length (bD V))(gw:fP 1 S0 W xw O.length (bD O))(hS:Same S0 W)(lg:gb<W.nx)(lb:nb<W.nx)(dg:gb≠nb)(Y:aM xa≠some gb)(an:aM xw≠some gb)(aa:aM xa≠some nb)(ao:aM xw≠some nb)(aw:∀c,aM xa=some c->aM xw≠some c)(b1:V.length<=1000)(b2:O.length<=1000)
  (hQ:∀F' Z q t,(∀j,j<22->aC j F'=aC j F)->W.nx<=Z.nx->Z.h.get nb=some (.cells ([y,z,B,q,t,xp]++h) o sz)->fP 1 S0 Z q (V++ [w]).length (bD (V++ [w]))->fP 1 S0 Z t (O++ [1]).length (bD (O++ [1]))->(∀c,aM q=some c->W.nx<=c/\aM t≠some c)->(∀c,aM t=some c->W.nx<=c)->(∀c,c<W.nx->c≠nb->aM xa≠some c->aM xw≠some c->Z.h.get c=W.h.get c)->Q .normal ⟨F',inr⟩ Z):
  jP fns aOP ⟨F,inr⟩ W Q:=by
 unfold aOP;refine qZ ?_;have f1:=cH (p:=1) hg rfl;have b3:eK (.ptr nb 3) false 1 W.h=some xa:=cH (p:=3) hb rfl;have ia:eQ (.slice 6) (.sl nb 0 n n o) 0=some (.ptr nb 0):=by
  show cC (Nat.blt 0 n) (some (AV.ptr nb (0+0 * 6))) none=_;rw[show Nat.blt 0 n=true from Ak hn,aN]
 have aI:=aHu ga;have ab:=aHu gw;have u:gN (je 0)=some 0:=rfl;simp only[Ax,Cb,rA];simp only[↓sU,sD,rE,↓reduceIte,rA,iW,E,G,aB,aA,aP,aU,aN,f1,u,ia,b3];rw[aFg,jS (n:=w) (k:=.i64) (af)];simp only[dH];obtain⟨U1,H⟩:∃U:St,U=⟨W.h.set (W.nx+10) (jf [je w]),W.nx+25⟩:=⟨_,rfl⟩;have R:Same W U1:=by rw[H];exact⟨by show W.nx<=W.nx+25;omega,fun c r=>by simp only;rw[ef,if_neg au]⟩
 have aV:U1.h.get (W.nx+10)=jf [je w]:=by rw[H];simp only;rw[ef,if_pos rfl]
 have bk:U1.nx=W.nx+25:=by rw[H]
 have⟨q,N,eA,gA,bA,nA,rA⟩:=fP.push (bytes:=8) (ga.step R) (hS.trans R) aV ay ay;have kA:∀c,c<W.nx->aM xa≠some c->N.h.get c=W.h.get c:=fun c r aZ=>(rA c au aZ).trans (R.2 c r);refine iQ (v:=q) (S1:=N) rfl (fun call=>?_) ?_
 .rw[cL (az:Nat.testBit 2032 10=true),fK];refine ae ?_;rw[<-H];exact eA
 rw[cL (az:Nat.testBit 2032 10=true)];have a0:=(kA gb lg Y).trans hg;have a1:=(kA nb lb aa).trans hb;have J:=cH (p:=1) a0 rfl;have b4:eK (.ptr nb 4) false 1 N.h=some xw:=cH (p:=4) a1 rfl;simp only[↓sU,sD,rE,↓reduceIte,rA,iW,E,G,aB,aA,aP,aU,aN,J,u,ia,b4];rw[aFg,jS (n:=1) (k:=.i64) rfl];simp only[dH];obtain⟨U2,K⟩:∃U:St,U=⟨N.h.set (W.nx+17) (jf [je 1]),N.nx⟩:=⟨_,rfl⟩;have bm:U2.nx=N.nx:=by rw[K]
 have M:∀c,c≠W.nx+17->U2.h.get c=N.h.get c:=fun c r=>by rw[K];simp only;rw[ef,if_neg r]
 have a2:U2.h.get (W.nx+17)=jf [je 1]:=by rw[K];simp only;rw[ef,if_pos rfl]
 have a3:Same S0 U2:=⟨ax hS.1,fun c r=>by
  have:=hS.1;rw[M c au,kA c au (fun e=>by have:=(ga.blk e).1;omega)];exact hS.2 c r⟩
 have a5:fP 1 S0 U2 xw O.length (bD O):=gw.move au fun c r=>by
  have:=(gw.blk r).2.1;rw[M c au,kA c au (fun e=>aw c e r)]
 have⟨t,x,eW,gW,bW,nW,rW⟩:=fP.push (bytes:=8) a5 a3 a2 ay ay;have C:∀ {c},aM q=some c->c=U1.nx:=fun r=>by rw[bA] at r;exact(Bh r).symm
 have D:∀ {c},aM t=some c->c=U2.nx:=fun r=>by rw[bW] at r;exact(Bh r).symm
 have a8:∀ {c},aM xw=some c->c<W.nx:=fun r=>(gw.blk r).2.1;have kB:∀c,c<W.nx->aM xa≠some c->aM xw≠some c->x.h.get c=W.h.get c:=fun c r h1 h2=>by
  rw[rW c au h2,M c au];exact kA c r h1
 refine iQ (v:=t) (S1:=x) (az:Nat.testBit 262128 11=true) (fun call=>?_) ?_
 .rw[cL (az:Nat.testBit 262128 17=true),fK];refine ae ?_;rw[<-K];exact eW
 rw[cL (az:Nat.testBit 262128 17=true)];have ac:=(kB gb lg Y an).trans hg;have ba:=(kB nb lb aa ao).trans hb;have bb:q.cells=some [q]:=fP.cells gA;have bd:t.cells=some [t]:=fP.cells gW;simp only[↓sU,sD,rE,↓reduceIte,rA,iW,E,G,aB,aA,aP,aU,aN,u,ia];refine iQ (v:=.undef) (S1:=⟨x.h.set nb (some (.cells ([y,z,B,q,xw,xp]++h) o sz)),x.nx⟩) (az:Nat.testBit 2097139 18=true) (fun call=>?_) ?_
 .rw[dL];exact ez @bL bb @aH (xO (cs:=[y,z,B,xa,xw,xp]++h) (p:=3) (S:=x) ba (by simp))
 simp only[↓sU,sD,rE,↓reduceIte,rA,iW,E,G,aB,aA,aP,aU,aN,u,ia,bL];refine iQ (v:=.undef) (S1:=⟨(x.h.set nb (some (.cells ([y,z,B,q,xw,xp]++h) o sz))).set nb (some (.cells ([y,z,B,q,t,xp]++h) o sz)),x.nx⟩) (az:Nat.testBit 16777215 21=true) (fun call=>?_) ?_
 .rw[dL];exact ez @bL bd @aH (xO (cs:=[y,z,B,q,xw,xp]++h) (p:=4) (S:=⟨x.h.set nb (some (.cells ([y,z,B,q,xw,xp]++h) o sz)),x.nx⟩) jd (by simp))
 rw[iC];refine⟨?_,?_⟩
 .have be:(x.h.set nb (some (.cells ([y,z,B,q,xw,xp]++h) o sz))).get gb=jf [je ps,.sl nb 0 n n o,iv]:=by rw[ef,if_neg dg];exact ac
  have f2:=cH (p:=1) ac rfl;have f3:=cH (p:=1) be rfl;have bj:eK (.ptr nb 4) false 1 W.h=some xw:=cH (p:=4) hb rfl;have sn:=mE nb 0 n n o;refine nT fun l hl=>?_;simp only[Bp,List.not_mem_nil,or_false] at hl;simp only[Ce,List.reverse_nil,Bw,Cf];rcases hl with rfl|rfl|rfl|rfl|rfl|rfl
  .exact sN (az:Nat.testBit 61440 11=false) (kG (af) bj ab) (vA (az:Nat.testBit 61440 18=false) (kG (af) b4 ab) (az:Nat.testBit 262128 16=true))
  .exact sN (az:Nat.testBit 4096 11=false) (kG (af) f1 sn) (vA (az:Nat.testBit 4096 18=false) (kG (af) J sn) (az:Nat.testBit 262128 13=true))
  .exact vA (az:Nat.testBit 240 11=false) (kG (af) b3 aI) (az:Nat.testBit 2032 8=true)
  .exact vA (az:Nat.testBit 16 11=false) (kG (af) f1 sn) (az:Nat.testBit 2032 5=true)
  .exact sN (az:Nat.testBit 4 11=false) (kG (af) f1 sn) (sN (az:Nat.testBit 4 18=false) (kG (af) J sn) (sN (az:Nat.testBit 4 21=false) (kG (af) f2 sn) (vA (az:Nat.testBit 4 24=false) (kG (af) f3 sn) (az:Nat.testBit 16777215 3=true))))
  .exact sN (az:Nat.testBit 1 11=false) (kG (af) f1 sn) (sN (az:Nat.testBit 1 18=false) (kG (af) J sn) (vA (az:Nat.testBit 1 21=false) (kG (af) f2 sn) (az:Nat.testBit 2097139 1=true)))
 .simp only[bL,fC];have kZ:∀c,c≠nb->((x.h.set nb (some (.cells ([y,z,B,q,xw,xp]++h) o sz))).set nb (some (.cells ([y,z,B,q,t,xp]++h) o sz))).get c=x.h.get c:=fun c r=>by rw[ef,if_neg r,ef,if_neg r]
  refine hQ _ _ q t (fun j hj=>?_) (by show W.nx<=x.nx;omega) jd (gA.move (by show N.nx<=x.nx;omega) fun c r=>?_) (gW.move (Af _) fun c r=>?_) (fun c r=>⟨by have:=C r;omega,fun e=>by have:=C r;have:=D e;omega⟩) (fun c r=>by have:=D r;omega) fun c r h1 h2 h3=>(kZ c h1).trans (kB c r h2 h3)
  .repeat rw[bH,if_neg au]
  .have:=C r;simp only;rw[kZ c au,rW c au (fun e=>by have:=a8 e;omega),M c au]
  .have:=D r;exact kZ c au
def aRw{k:Nat}(h:bN .i64 S v l)(r:k<l.length)(H:∀c,aM v=some c->Wr S c):∃b off,aM v=some b/\b<S.nx/\eQ (.slice 1) v k=some (.ptr b off)/\eK (.ptr b off) false 1 S.h=some (je (l.getD k 0))/\∀ (w:Int) (n:Nat),S.nx<=n->∃X,(∀t,t.h=S.h->qX (.ptr b off) 1 [je w] t=some (.undef,⟨X,t.nx⟩))/\(∀c,c≠b->X.get c=S.h.get c)/\bN .i64 ⟨X,n⟩ v (l.set k w)/\∀c,aM v=some c->Wr ⟨X,n⟩ c:=by
 have D:=h.df r;have ld:=h.ld r;rcases h with⟨J,_⟩|⟨b,off,cap,o,cs,rfl,K,E,q,u⟩
 .rw[J] at r;simp at r
 .simp only[xS] at D ld;have⟨cs',F,sz,G⟩:=H b rfl;have e:cs'=cs:=by
   unfold cI at q;rw[G] at q;exact Bh q
  subst e;have y:off+k * 1<cs'.length:=by
   have:=u k l[k] (Ab r);have:=(Ai.1 this).1;omega
  refine⟨b,off+k * 1,rfl,E,D,ld,fun w n M=>⟨S.h.set b (some (.cells (cs'.set (off+k * 1) (je w)) F sz)),fun t z=>?_,fun c B=>by rw[ef,if_neg B],?_,fun c C=>?_⟩⟩
  .have:=xO (S:=t) (b:=b) (p:=off+k * 1) (w:=je w) (cs:=cs') (o:=F) (sz:=sz) (by rw[z];exact G) y;rw[z] at this;exact this
  .refine .inr ⟨b,off,cap,o,cs'.set (off+k * 1) (je w),by rw[Aw],by rw[Aw];exact K,Ae E M,by unfold cI;simp only;rw[ef,if_pos rfl];rfl,fun i x hi=>?_⟩;rw[Cw] at hi ⊢;by_cases e:k=i
   .subst e;rw[if_pos rfl,if_pos r] at hi;cases hi;rw[if_pos au,if_pos y]
   .rw[if_neg e] at hi;rw[if_neg au];exact u i x hi
  .cases C;exact⟨_,_,_,jd⟩
def aT1(X:St)(P:Nat->Prop)(_:St)(e:cd)(a:cJ):Prop:=∃xa xw xp,e= [je a.kind,je a.player,je a.info,xa,xw,xp]/\bN .i64 X xa a.next/\bN .i64 X xw a.weights/\bN .i64 X xp a.pay/\(∀c,(aM xa=some c\/aM xw=some c\/aM xp=some c)->P c)/\∀c,aM xa=some c->aM xw≠some c/\aM xp≠some c
def oD.isF{v:St}{P:Nat->Prop}{l:List cJ}(h:oD X P cs l)(y:aFK cs l.length)(z:fP 6 v X pv l.length cs):aG 6 (aT1 X P) X pv l:=by
 rcases z with⟨rfl,B,_⟩|⟨b,rfl,_,C,D,_⟩
 .exact .inl ⟨Bo.1 B,.inl rfl⟩
 .refine .inr ⟨b,0,l.length,true,cs,rfl,Af _,C,by unfold cI;rw[D];rfl,fun j a u=>?_⟩;have⟨e,E,k,xa,xw,xp,r,F,G,H,J⟩:=h.2 j a u;have t:=(Ai.1 u).1;exact⟨e,E,fun q x K=>by rw[Am];exact k q x K,xa,xw,xp,r,F,G,H,J,y j t xa xw xp (k 3 xa (by rw[r];rfl)) (k 4 xw (by rw[r];rfl)) (k 5 xp (by rw[r];rfl))⟩
def xQ(cs:cd)(I:List fU):Prop:=cs.length=I.length * 2/\∀ (j:Nat) (a:fU),I[j]? =some a->∀q x,[AV.int .i64 a.player,je a.cr][q]? =some x->cs[j * 2+q]? =some x
def xQ.app{ds:cd}(h:xQ cs I)(h':xQ ds J):xQ (cs++ds) (I++J):=by
 refine⟨by rw[Aj,h.1,h'.1,Aj,Du],fun j a k q x l=>?_⟩;have r:q<2:=(Ai.1 l).1;by_cases e:j<I.length
 .rw[Ao e] at k;have:(j+1) * 2<=I.length * 2:=Db _ e;rw[Ao (by rw[h.1];omega)];exact h.2 j a k q x l
 .rw[Ap au] at k;have:=h'.2 _ a k q x l;rw[Ap (by rw[h.1];omega),h.1];rw[show j * 2+q - I.length * 2=(j - I.length) * 2+q by omega];exact this
def xQ.is{k:St}(h:xQ cs I)(l:fP 2 k X pv I.length cs):aG 2 cE X pv I:=by
 rcases l with⟨rfl,r,_⟩|⟨b,rfl,_,t,u,_⟩
 .exact .inl ⟨Bo.1 r,.inl rfl⟩
 .exact .inr ⟨b,0,I.length,true,cs,rfl,Af _,t,by unfold cI;rw[u];rfl,fun j a v=>⟨_,rfl,fun q x y=>by rw[Am];exact h.2 j a v q x y,rfl⟩⟩
def aOy(h:aG 2 cE S v I):∃new,mP v=some I.length/\eU v S.h 2 I.length=some new/\xQ new I:=by
 have⟨new,u,k,y⟩:=aS7 az h;refine⟨new,u,k,?_,fun j a z q x B=>?_⟩
 .rcases h with⟨rfl,h|h⟩|⟨b,off,cap,o,cs,rfl,_⟩
  .subst h;have k:some []=some new:=k;cases k;rfl
  .subst h;have k:some []=some new:=k;cases k;rfl
  .have k:bG (cI S.h b) (fun cs=>cut cs off (I.length * 2))=some new:=k;have⟨cs',C,l⟩:=aR k;unfold cut at l;rw[iG,iP] at l;split at l
   .rename_i r;cases l;rw[Dd] at r;rw[Bv,Dd];omega
   .cases l
 .have⟨e,C,l,t⟩:=y j a z;have t:e= [je a.player,je a.cr]:=t;subst t;exact l q x B
def aLK{x:AV}(h:fP 2 S0 S v I.length cs)(r:xQ cs I)(y:Same S0 S)(z:aG 2 cE S x J)(K:I.length+J.length<=1000000):∃v' k cs',gG 16 2 v x S=some (v',k)/\fP 2 S0 k v' (I++J).length cs'/\xQ cs' (I++J)/\S.nx<=k.nx/\(∀c,c<S.nx->aM v≠some c->k.h.get c=S.h.get c)/\∀c,aM v'=some c->aM v=some c\/S.nx<=c:=by
 have⟨new,t,u,q⟩:=aOy z;rcases Ci J.length with B|C
 .have D:J= []:=Bo.1 B;subst D;have E:new= []:=Bo.1 (by rw[q.1];rfl);subst E;rw[Bu];refine⟨v,S,cs,?_,h,r,Af _,fun _ _ _=>rfl,fun c l=>.inl l⟩;unfold gG;rw[t,aH,u,aH];rcases h with⟨rfl,_⟩|⟨b,rfl,_,_,_,_⟩
  .rfl
  .show lR 16 2 b 0 I.length I.length true 0 [] S=_;unfold lR;rw[Bs,Ak (Af _),aN];rfl
 .have⟨v',k,F,G,_,a4,H,a6⟩:=fP.appB (bytes:=16) h y t u (by rw[q.1]) C ay ay;exact⟨v',k,cs++new,F,by rw[Aj];exact G,r.app q,a4,H,fun c l=>.inr (by rw[a6] at l;cases l;exact Af _)⟩
structure TwB(S5 X:St)(gb nb n:Nat)(o:Bool)(sz:Nat)(ps:Int)(xa xw iv:AV)(cs ics:cd)(A W:bu)(L:List cJ)(I:List fU):Prop where
 same:Same S5 X
 lg:S5.nx<=gb/\gb<X.nx
 lb:S5.nx<=nb/\nb<X.nx
 g:X.h.get gb=some (.cells [.int .i64 ps,.sl nb 0 n n o,iv] false 0)
 b:X.h.get nb=some (.cells ([.int .i64 1,.int .i64 0,.int .i64 0,xa,xw,.ct]++cs) o sz)
 hn:n=L.length+1
 osz:o=true->sz=6
 nod:oD X (fun c=>S5.nx<=c/\c≠gb/\c≠nb/\aM xa≠some c/\aM xw≠some c/\aM iv≠some c) cs L
 gxa:fP 1 S5 X xa A.length (bD A)
 gxw:fP 1 S5 X xw W.length (bD W)
 giv:fP 2 S5 X iv I.length ics
 inf:xQ ics I
 dgb:gb≠nb
 da:aM xa≠some gb/\aM xa≠some nb
 dw:aM xw≠some gb/\aM xw≠some nb
 di:aM iv≠some gb/\aM iv≠some nb
 daw:∀c,aM xa=some c->aM xw≠some c/\aM iv≠some c
 dwi:∀c,aM xw=some c->aM iv≠some c
section
variable {S5 X Z:St}{gb nb n sz:Nat}{o:Bool}{ps w:Int}{xa xw iv:AV}{cs ics:cd}{A W:bu}{L:List cJ}{I:List fU}
def TwB.step(h:TwB S5 X gb nb n o sz ps xa xw iv cs ics A W L I)(hn:X.nx<=Z.nx)(l:∀c,c<X.nx->S5.nx<=c->Z.h.get c=X.h.get c)(r:Same S5 Z):TwB S5 Z gb nb n o sz ps xa xw iv cs ics A W L I where
 same:=r
 lg:=⟨h.lg.1,Ae h.lg.2 hn⟩
 lb:=⟨h.lb.1,Ae h.lb.2 hn⟩
 g:=(l _ h.lg.2 h.lg.1).trans h.g
 b:=(l _ h.lb.2 h.lb.1).trans h.b
 hn:=h.hn
 osz:=h.osz
 nod:=h.nod.move hn fun c k q=>⟨l c k q.1,q⟩
 gxa:=h.gxa.move hn fun c k=>l c (h.gxa.blk k).2.1 (h.gxa.blk k).1
 gxw:=h.gxw.move hn fun c k=>l c (h.gxw.blk k).2.1 (h.gxw.blk k).1
 giv:=h.giv.move hn fun c k=>l c (h.giv.blk k).2.1 (h.giv.blk k).1
 inf:=h.inf
 dgb:=h.dgb
 da:=h.da
 dw:=h.dw
 di:=h.di
 daw:=h.daw
 dwi:=h.dwi
def TwB.sm(h:TwB S5 X gb nb n o sz ps xa xw iv cs ics A W L I)(k:Same X Z):TwB S5 Z gb nb n o sz ps xa xw iv cs ics A W L I:=h.step k.1 (fun c l _=>k.2 c l) (h.same.trans k)
def TwB.root{q l:AV}(h:TwB S5 X gb nb n o sz ps xa xw iv cs ics A W L I)(hn:X.nx<=Z.nx)(z:Z.h.get nb=some (.cells ([je 1,je 0,je 0,q,l,.ct]++cs) o sz))(B:fP 1 S5 Z q (A++ [w]).length (bD (A++ [w])))(C:fP 1 S5 Z l (W++ [1]).length (bD (W++ [1])))(u:∀c,aM q=some c->X.nx<=c/\aM l≠some c)(y:∀c,aM l=some c->X.nx<=c)(t:∀c,c<X.nx->c≠nb->aM xa≠some c->aM xw≠some c->Z.h.get c=X.h.get c):TwB S5 Z gb nb n o sz ps q l iv cs ics (A++ [w]) (W++ [1]) L I:=by
 have lg:=h.lg;have lb:=h.lb;have v:∀ {c},c<X.nx->aM q≠some c:=fun k e=>by have:=(u _ e).1;omega
 have x:∀ {c},c<X.nx->aM l≠some c:=fun k e=>by have:=y _ e;omega
 exact {
  same:=⟨Av h.same.1 hn,fun c k=>by
   have D:=h.same.1;rw[t c au au  (fun e=>by have:=(h.gxa.blk e).1;omega) (fun e=>by have:=(h.gxw.blk e).1;omega)];exact h.same.2 c k⟩
  lg:=⟨lg.1,au⟩
  lb:=⟨lb.1,au⟩
  g:=(t gb lg.2 h.dgb h.da.1 h.dw.1).trans h.g
  b:=z
  hn:=h.hn
  osz:=h.osz
  nod:=h.nod.move hn fun c k r=>⟨t c k r.2.2.1 r.2.2.2.1 r.2.2.2.2.1,r.1,r.2.1,r.2.2.1,v k,x k,r.2.2.2.2.2⟩
  gxa:=B
  gxw:=C
  giv:=h.giv.move hn fun c k=>t c (h.giv.blk k).2.1 (fun e=>h.di.2 (by rw[k,e])) (fun e=>(h.daw c e).2 k) fun e=>h.dwi c e k
  inf:=h.inf
  dgb:=h.dgb
  da:=⟨v lg.2,v lb.2⟩
  dw:=⟨x lg.2,x lb.2⟩
  di:=h.di
  daw:=fun c k=>⟨(u c k).2,fun e=>by have:=(h.giv.blk e).2.1;have:=(u c k).1;omega⟩
  dwi:=fun c k e=>by have:=(h.giv.blk e).2.1;have:=y c k;omega}
def TwB.info{l:AV}{q:cd}(h:TwB S5 X gb nb n o sz ps xa xw iv cs ics A W L I)(hn:X.nx<=Z.nx)(z:fP 2 S5 Z l J.length q)(hi:xQ q J)(B:∀c,c<X.nx->aM iv≠some c->Z.h.get c=X.h.get c)(C:∀c,aM l=some c->aM iv=some c\/X.nx<=c):TwB S5 ⟨Z.h.set gb (jf [je ps,.sl nb 0 n n o,l]),Z.nx⟩ gb nb n o sz ps xa xw l cs q A W L J:=by
 have lg:=h.lg;have lb:=h.lb;have u:∀c,c<X.nx->c≠gb->aM iv≠some c->(Z.h.set gb (jf [je ps,.sl nb 0 n n o,l])).get c=X.h.get c:=fun c k x v=>by rw[ef,if_neg x];exact B c k v
 have t:∀ {c},c<X.nx->aM iv≠some c->aM l≠some c:=fun k x e=>by
  rcases C _ e with v|v
  .exact x v
  .omega
 have y:∀ {c},aM iv=some c->S5.nx<=c:=fun k=>(h.giv.blk k).1;exact {
  same:=⟨Av h.same.1 hn,fun c k=>by
   have D:=h.same.1;simp only;rw[u c au au  (fun e=>by have:=y e;omega)];exact h.same.2 c k⟩
  lg:=⟨lg.1,by show gb<Z.nx;omega⟩
  lb:=⟨lb.1,by show nb<Z.nx;omega⟩
  g:=by simp only;rw[ef,if_pos rfl]
  b:=(u nb lb.2 h.dgb.symm h.di.2).trans h.b
  hn:=h.hn
  osz:=h.osz
  nod:=h.nod.move hn fun c k r=>⟨u c k r.2.1 r.2.2.2.2.2,r.1,r.2.1,r.2.2.1,r.2.2.2.1,r.2.2.2.2.1,t k r.2.2.2.2.2⟩
  gxa:=h.gxa.move hn fun c k=>u c (h.gxa.blk k).2.1 (fun e=>h.da.1 (by rw[k,e])) (h.daw c k).2
  gxw:=h.gxw.move hn fun c k=>u c (h.gxw.blk k).2.1 (fun e=>h.dw.1 (by rw[k,e])) (h.dwi c k)
  giv:=z.move (Af _) fun c k=>by
   simp only;rw[ef,if_neg (fun e=>t lg.2 h.di.1 (by rw[k,e]))]
  inf:=hi
  dgb:=h.dgb
  da:=h.da
  dw:=h.dw
  di:=⟨t lg.2 h.di.1,t lb.2 h.di.2⟩
  daw:=fun c k=>⟨(h.daw c k).1,t (h.gxa.blk k).2.1 (h.daw c k).2⟩
  dwi:=fun c k=>t (h.gxw.blk k).2.1 (h.dwi c k)}
theorem aLs{bytes t:Nat}{new:cd}(r:S.h.get nb=some (.cells cs o sz))(B:cs.length=n * 6)(l:o=true->sz=6)(C:S.h.get t=jf new)(D:new.length=6)(u:n+1<=room)(v:(n+1) * bytes<=room):∃k,gG bytes 6 (.sl nb 0 n n o) (.sl t 0 1 1 false) S=some (.sl S.nx 0 (n+1) (n+1) true,k)/\k.nx=S.nx+1/\k.h.get S.nx=some (.cells (cs++new) true 6)/\∀c,c<S.nx->c≠nb->k.h.get c=S.h.get c:=by
 have x:=aJ3 (n:=6) C D;have y:Nat.ble (n+1) n=false:=by rw[Cj];intro h;have:=Bc h;omega
 have z:cut cs 0 (n * 6)=some cs:=by
  unfold cut;rw[iG,iP,Dn,if_pos au,Bd au]
 cases o with
 | false=>
  refine⟨⟨S.h.set S.nx (some (.cells (cs++new) true 6)),S.nx+1⟩,?_,rfl,jd,fun c E _=>by simp only;rw[ef,if_neg au]⟩;show(bG (some 1) fun j=>bG (eU (.sl t 0 1 1 false) S.h 6 j) fun new=>aAA (.sl nb 0 n n false) bytes 6 j new S)=_;rw[aH,x,aH];show lR bytes 6 nb 0 n n false 1 new S=_;unfold lR;rw[y,aU,Ak u,aN,Ak v,aN,r,aH];simp only[xX,z,aH,aU,grown,fS]
 | true=>
  have F:=l rfl;subst F;refine⟨⟨(S.h.set nb none).set S.nx (some (.cells (cs++new) true 6)),S.nx+1⟩,?_,rfl,jd,fun c E q=>by simp only;rw[ef,if_neg au,ef,if_neg q]⟩;show(bG (some 1) fun j=>bG (eU (.sl t 0 1 1 false) S.h 6 j) fun new=>aAA (.sl nb 0 n n true) bytes 6 j new S)=_;rw[aH,x,aH];show lR bytes 6 nb 0 n n true 1 new S=_;unfold lR;have G:Nat.beq (0+n * 6) (mF cs)=true:=by rw[gD,B,Bl];omega
  have H:Nat.beq 6 6=true:=Fq 6;rw[y,aU,Ak u,aN,Ak v,aN,r,aH];simp only[xX,z,aH,aN,G,H,grown,fS]
def TwB.push{e:cd}{a:cJ}{m:Nat}(h:TwB S5 X gb nb n o sz ps xa xw iv cs ics A W L I)(hn:X.nx<=m)(v:m<Z.nx)(x:aBs Z (fun c=>S5.nx<=c/\c≠gb/\c<m/\aM xa≠some c/\aM xw≠some c/\aM iv≠some c) e a)(y:Z.h.get m=some (.cells (([je 1,je 0,je 0,xa,xw,.ct]++cs)++e) true 6))(z:∀c,c<X.nx->c≠nb->Z.h.get c=X.h.get c):TwB S5 ⟨Z.h.set gb (jf [je ps,.sl m 0 (n+1) (n+1) true,iv]),Z.nx⟩ gb m (n+1) true 6 ps xa xw iv (cs++e) ics A W (L++ [a]) I:=by
 have lg:=h.lg;have lb:=h.lb;have q:∀c,c<X.nx->c≠gb->c≠nb->(Z.h.set gb (jf [je ps,.sl m 0 (n+1) (n+1) true,iv])).get c=X.h.get c:=fun c k B C=>by rw[ef,if_neg B];exact z c k C
 have r:∀ {c},aM xa=some c->c<X.nx:=fun k=>(h.gxa.blk k).2.1;have t:∀ {c},aM xw=some c->c<X.nx:=fun k=>(h.gxw.blk k).2.1;have u:∀ {c},aM iv=some c->c<X.nx:=fun k=>(h.giv.blk k).2.1;exact {
  same:=⟨by have:=h.same.1;show S5.nx<=Z.nx;omega,fun c k=>by
   have D:=h.same.1;simp only;rw[q c au au au];exact h.same.2 c k⟩
  lg:=⟨lg.1,by show gb<Z.nx;omega⟩
  lb:=⟨ax h.same.1,v⟩
  g:=by simp only;rw[ef,if_pos rfl]
  b:=by
   simp only;rw[ef,if_neg au,y,Bg]
  hn:=by rw[h.hn,Aj];rfl
  osz:=fun _=>rfl
  nod:=oD.push (h.nod.move (by show X.nx<=Z.nx;omega) fun c k l=>⟨q c k l.2.1 l.2.2.1,l.1,l.2.1,au,l.2.2.2⟩) (x.move (Af _) fun c _ l=>⟨by simp only;rw[ef,if_neg l.2.1],l.1,l.2.1,ax l.2.2.1,l.2.2.2⟩)
  gxa:=h.gxa.move (by show X.nx<=Z.nx;omega) fun c k=>q c (r k) (fun e=>h.da.1 (by rw[k,e])) (fun e=>h.da.2 (by rw[k,e]))
  gxw:=h.gxw.move (by show X.nx<=Z.nx;omega) fun c k=>q c (t k) (fun e=>h.dw.1 (by rw[k,e])) (fun e=>h.dw.2 (by rw[k,e]))
  giv:=h.giv.move (by show X.nx<=Z.nx;omega) fun c k=>q c (u k) (fun e=>h.di.1 (by rw[k,e])) (fun e=>h.di.2 (by rw[k,e]))
  inf:=h.inf
  dgb:=by omega
  da:=⟨h.da.1,fun e=>by have:=r e;omega⟩
  dw:=⟨h.dw.1,fun e=>by have:=t e;omega⟩
  di:=⟨h.di.1,fun e=>by have:=u e;omega⟩
  daw:=h.daw
  dwi:=h.dwi}
theorem TwB.cg(h:TwB S5 X gb nb n o sz ps xa xw iv cs ics A W L I):aG 6 cF X (.sl nb 0 n n o) (⟨1,0,0,A,W,[]⟩::L):=by
 have v:n=(⟨1,0,0,A,W,[]⟩::L:List cJ).length:=by rw[Ax];exact h.hn
 refine .inr ⟨nb,0,n,o,_,by rw[<-v],au,h.lb.2,by unfold cI;rw[h.b];rfl,fun j a k=>?_⟩;cases j with
 | zero=>
  cases k;refine⟨[je 1,je 0,je 0,xa,xw,.ct],rfl,fun q x l=>?_,xa,xw,.ct,rfl,h.gxa.is,h.gxw.is,.inl ⟨rfl,.inl rfl⟩⟩;have:=(Ai.1 l).1;rw[show 0+0 * 6+q=q by omega,Ao this];exact l
 | succ j=>
  have k:L[j]? =some a:=k;have⟨e,y,z,r,t,u,B,C,D,E,_⟩:=h.nod.2 j a k;refine⟨e,y,fun q x l=>?_,r,t,u,B,C,D,E⟩;have:=z q x l;rw[Ap (by show 6<=_;omega)];show cs[0+(j+1) * 6+q - 6]? =some x;rw[show 0+(j+1) * 6+q - 6=j * 6+q by omega];exact this
end
noncomputable def aTp:List AO:=[oq 102 (.dk 3 (.t 20)),
om 103 1 (ld 102),
mt 104 21,
oq 105 (.dk 3 (.t 20)),
om 106 8 (ld 105),
mt 107 21,
om 108 56 (.df (.slice 1) (.t 106) (.t 107)),
om 109 120 (ld 108),
mt 110 18,
om 111 504 (bi .add (.t 109) (.t 110)),
om 112 1023 (.df (.slice 1) (.t 103) (.t 104))]
noncomputable def aRX:AC:=qk6
def ShI(X:St)(h:Fr)(xb:Nat)(v:AV)(cells:cd)(l:bu)(f:Int)(k:Nat)(A:bO)(Z:St):Prop:=A.inr=false/\X.nx<=Z.nx/\(∀c,c<X.nx->aM v≠some c->Z.h.get c=X.h.get c)/\Z.h.get xb=jf cells/\∃ (i:Nat) (l':bu),i+k=l.length/\l'.length=l.length/\(∀j,j<l.length->l'.getD j 0=if j<i then l.getD j 0+f else l.getD j 0)/\bN .i64 Z v l'/\(∀c,aM v=some c->Wr Z c)/\(∀j,j<21->aC j A.F=aC j h)/\aC 21 A.F=je (i:Int)
def aQV{xb:Nat}{G H J:AV}{f:Int}(q:bN .i64 X v l)(u:∀c,aM v=some c->Wr X c)(r:X.h.get xb=jf [G,H,J,v,xw,xp])(M:aM v≠some xb)(hl:l.length<=1000)(hb:∀j,j<l.length->0<=l.getD j 0/\l.getD j 0<=100000)(hf:0<=f/\f<=100000)(N:aC 18 F=je f)(O:aC 20 F= .ptr xb 0)(h:aC 21 F=je 0):
  jP fns aRX ⟨F,false⟩ X fun o A Z=>o= .normal/\ShI X F xb v [G,H,J,v,xw,xp] l f 0 A Z:=by
 unfold aRX;refine aO (bX (ShI X F xb v [G,H,J,v,xw,xp] l f) ?_ l.length _ _ ⟨rfl,Af _,fun _ _ _=>rfl,r,0,l,au,rfl,fun j t=>by rw[if_neg au],q,u,fun _ _=>rfl,h⟩);rintro k ⟨F',inr⟩ Z ⟨q0,nZ,kZ,r,i,l',Q,y,R,q,u,z,h⟩;simp only at q0 z h;subst q0;have U:=(z 18 au).trans N;have B:=(z 20 au).trans O;refine gH (fh B h @aB @aA (dG r) q.len @Ah ?_);by_cases C:i<l.length;rotate_left
 .refine aQ im (bT ?_);refine ae ?_;obtain rfl:k=0:=by omega
  refine⟨rfl,nZ,kZ,r,i,l',Q,y,R,q,u,fun j t=>?_,ah h⟩
  repeat rw[bH,if_neg au]
  exact z j t
 refine aS im (aK ?_);refine ae ?_
 have w1:=ed i
 have D:=R i C;rw[if_neg au] at D;have ab:=hb i C;have w2:IntKind.i64.wrap (l'.getD i 0+f)=l.getD i 0+f:=by rw[D];exact wrap_i64 au au
 have⟨b,off,e1,V,e3,e4,e5⟩:=aRw q (k:=i) au u;have⟨Xh,x1,x2,x3,x4⟩:=e5 (l.getD i 0+f) (Z.nx+12) au;have Y:=bN.self q;have aa:b≠xb:=fun e=>M (by rw[e1,e]);refine aD (aO (sI (pre:=aTp) (K:=11) (m:=2047) (n:=1) (x:=.t 112) (v:=.t 111) rfl rfl rfl rfl ?_));unfold aTp;simp only[↓sU,sD,rE,↓reduceIte,rA,U,B,h,aB,aP,aA,dG r,Y,aJ,e3,e4,w2];simp only[dD,aH];refine⟨_,x1 ⟨Z.h,Z.nx+12⟩ rfl,?_⟩;refine ae ?_
 refine aL (ew h w1 ?_);refine⟨k - 1,au,rfl,by show X.nx<=Z.nx+12;omega,fun c hc E=>(x2 c (fun e=>E (by rw[e1,e]))).trans (kZ c hc E),(x2 xb aa.symm).trans r,i+1,l'.set i (l.getD i 0+f),au,by rw[Aw];exact y,fun j t=>?_,x3,x4,fun j t=>?_,af⟩
 .rw[iE au];by_cases e:j=i
  .rw[if_pos e,if_pos au,e]
  .rw[if_neg e,R j t];by_cases V:j<i
   .rw[if_pos V,if_pos au]
   .rw[if_neg V,if_neg au]
 .repeat rw[bH,if_neg au]
  exact z j t
def aRV{l':bu}{f:Int}(k:l'.length=l.length)(h:∀j,j<l.length->l'.getD j 0=if j<l.length then l.getD j 0+f else l.getD j 0):l'=l.map (· +f):=pT (by rw[k,Al]) fun j q=>by
 rw[h j au,if_pos au,aON au]
structure TwT(F:Fr)(rb B gb n m cp:Nat)(seen:Bool)(c:Nat):Prop where
 t3:aC 3 F= .int .i64 (cp:Int)
 t4:aC 4 F= .bool seen
 t12:aC 12 F= .ptr rb 0
 t13:aC 13 F= .ptr B 0
 t14:aC 14 F= .int .i64 (n:Int)
 t15:aC 15 F= .int .i64 (m:Int)
 t16:aC 16 F= .ptr gb 0
 t17:aC 17 F= .int .i64 (c:Int)
def TwT.of{F':Fr}{m:Nat}{seen:Bool}(h:TwT F rb B gb n m cp seen c)(k:∀j,j<18->aC j F'=aC j F):TwT F' rb B gb n m cp seen c:=
 ⟨(k 3 au).trans h.t3,(k 4 au).trans h.t4,(k 12 au).trans h.t12,(k 13 au).trans h.t13,(k 14 au).trans h.t14,(k 15 au).trans h.t15,(k 16 au).trans h.t16,(k 17 au).trans h.t17⟩
noncomputable def aRn:AC:=(.block 2 (.loop (.seq (.seq (.reg [mt 84 19,
mt 85 14,
oq 86 (bi .lss (.t 84) (.t 85))])
(.cond (.t 86) .skip (.exit 2)))
(.seq (.block 3 (.seq (.reg [oq 89 (.ld true 3 (.t 13)),
oc 90 44 [(.t 89)] 0,
oq 91 (.fld false 1 1 (.t 90)),
mt 92 19,
oq 93 (.df (.slice 6) (.t 91) (.t 92)),
oq 94 (.ld true 6 (.t 93)),
⟨(some 20),(.a (.alloc 84 [(.int .i64 (.ofNat 0)),(.int .i64 (.ofNat 0)),(.int .i64 (.ofNat 0)),.ct,.ct,.ct])),none,0⟩,
⟨none,(.x (.st 6 (.t 20) (.t 94))),none,0⟩])
(.seq (.seq (.reg [oq 21 (.mv (ci 0))])
aRX)
(.seq (.seq (.reg [oq 113 (.dk 0 (.t 20)),
oq 114 (ld 113),
oq 115 (bi .eql (.t 114) (ci 2)),
mt 116 115,
og 117 116 true 0 (.mv (.t 4)),
oq 118 (.pick (.t 116) (.t 117) (.c (.bool false)))])
(.cond (.t 118) (.reg [oq 119 (.dk 2 (.t 20)),
oq 120 (ld 119),
mt 121 17,
mt 122 15,
oq 123 (bi .mul (.t 121) (.t 122)),
oq 124 (bi .add (.t 120) (.t 123)),
oq 125 (.dk 2 (.t 20)),
⟨none,(.x (.st 1 (.t 125) (.t 124))),none,0⟩]) .skip))
(.reg [oq 126 (.dk 1 (.t 16)),
oq 127 (ld 126),
oq 128 (.ld true 6 (.t 20)),
⟨(some 129),(.a (.dd 84 6 1 [(.int .i64 (.ofNat 0)),(.int .i64 (.ofNat 0)),(.int .i64 (.ofNat 0)),.ct,.ct,.ct] [(0,(.t 128))])),none,0⟩,
⟨(some 130),(.x (.app 84 6 96 (.t 127) (.t 129))),none,0⟩,
oq 131 (.dk 1 (.t 16)),
⟨none,(.x (.st 1 (.t 131) (.t 130))),none,0⟩])))))
(.reg [mt 87 19,
oq 88 (bi .add (.t 87) (ci 1)),
mt 19 88])))))
def LmI(S5:St)(rb B gb cp:Nat)(one:aX)(seen:Bool)(c:Nat)(k:Nat)(A:bO)(X:St):Prop:=A.inr=false/\∃ (i nb h sz:Nat) (o:Bool) (xa xw iv:AV) (cs ics:cd),i+k=one.cg.length/\TwB S5 X gb nb h o sz one.cm xa xw iv cs ics (rS one.cg.length (c+1)) (List.replicate (c+1) 1) (oC one seen c++(tO one seen c).take i) (kL one seen (c+1))/\TwT A.F rb B gb one.cg.length one.ch.length cp seen c/\aC 18 A.F=je ((1+c * one.cg.length:Nat):Int)/\aC 19 A.F=je (i:Int)
def aKi(h:dC g=0):aQ2 g:=by
 have G:=iN h;refine⟨ax G.ni,fun x l=>?_⟩;obtain⟨j,k,rfl⟩:=Dv.1 l;have e:cu g j=g.cg[j]:=aFb (Ab k);have a:=G.nxt j k;have b:=aNM (aI2 h k);have c:=G.pay j k;rw[e] at a b c;omega
def aMm{one:aX}{seen:Bool}(hi:i<one.cg.length):(tO one seen c).take (i+1)=(tO one seen c).take i++ [shN ((1+c * one.cg.length:Nat):Int) ((pH one seen c:Nat):Int) (cu one i)]:=by
 have:(tO one seen c)[i]? =some (shN ((1+c * one.cg.length:Nat):Int) ((pH one seen c:Nat):Int) (cu one i)):=by
  unfold tO;rw[Az,dI hi];rfl
 rw[Bx,this];rfl
def aQ7{one:aX}{seen:Bool}{aw aI:AV}(H:Has fns)(C:aDb one)(N:c<3)(hn:aG 6 cF S5 aw one.cg)(hi:aG 2 cE S5 aI one.ch)(gB:S5.h.get B=jf [je one.cm,aw,aI])(lB:B<S5.nx)(h0:LmI S5 rb B gb cp one seen c one.cg.length ⟨F,false⟩ X):
  jP fns aRn ⟨F,false⟩ X fun o A Z=>o= .normal/\LmI S5 rb B gb cp one seen c 0 A Z:=by
 have D:=C.form;have G:=iN D;have aV:=C.n2;have aZ:one.ch.length<=60:=by have:=C.ord.le;rw[Al] at this;omega
 have b2:c * one.cg.length<=2 * 60:=Ey au aV;have b3:c * one.ch.length<=2 * 60:=Ey au aZ;have a0:(oC one seen c).length=c * one.cg.length:=rN;unfold aRn;refine aO (bX (LmI S5 rb B gb cp one seen c) ?_ one.cg.length _ _ h0);rintro k ⟨F,inr⟩ X ⟨q0,i,nb,O,sz,o,xa,xw,iv,cs,ics,bn,J,hT,R,K⟩;simp only at q0 hT R K;subst q0;refine gH (ew hT.t14 K ?_);by_cases x:i<one.cg.length;rotate_left
 .refine aQ im (bT ?_);refine ae ?_;obtain rfl:k=0:=by omega
  refine⟨rfl,i,nb,O,sz,o,xa,xw,iv,cs,ics,bn,J,hT.of fun j hj=>?_,by refine⟨?_,?_⟩<;>simp only[↓sU,sD,rE,↓reduceIte,rA,R,K]⟩
  repeat rw[bH,if_neg au]
 refine aS im (aK ?_);refine ae ?_
 have w1:=ed i
 have nX:=J.same.1;have bp:=(J.same.2 B lB).trans gB;have bq:(oC one seen c++(tO one seen c).take i).length<=1000:=by
  rw[Aj,a0,Bv,zV];omega
 refine aD (aO (aD (aL ?_)));refine fo hT.t13 (gK bp) ?_;refine bK (am (aW (aLz H (aG.same (E:=cF) bQ hn J.same) (aG.same (E:=cE) cB hi J.same) (aKi D) au) ?_));rintro _ Y ⟨hY,mv,jv,nz,ds,rfl,b6,gM,bM,dM,_⟩;have hF:=bM.isF dM gM;obtain⟨e,be,pe,bs,b8,_,⟨u,r,t,rfl,a1,a2,a3,hP,a5⟩,bw,_⟩:=aG.at hF az (dI x);have bx:aJd (.agg [je one.cm,mv,jv]) false 1 1=some mv:=rfl;refine fx bx K @aJ bs bw ?_;refine bS ?_;intro W1 v1 k1 h1
 refine cQ (b:=Y.nx) (aq) (by exact am (aY _)) h1 rfl rfl ?_;intro Y2 v2 k2 h2;refine am ?_;have sY:Same Y Y2:=v2.same v1 (Af _);have bz:=hY.trans sY;have nY:=hY.1;have b':=sY.1;have ca:Y.nx<Y2.nx:=by omega
 have U:∀ {c},aM u=some c->c<Y.nx:=fun N=>dP a1 N;have ab:∀ {c},aM r=some c->c<Y.nx:=fun N=>dP a2 N;have ac:∀ {c},aM t=some c->c<Y.nx:=fun N=>dP a3 N;have bA:=G.nxt i x;refine gH (ae ?_);refine bB (aQV (X:=Y2) (xb:=Y.nx) (v:=u) (xw:=r) (xp:=t) (l:=(cu one i).next) (f:=((1+c * one.cg.length:Nat):Int)) (a1.same sY) (fun b h=>(hP b (.inl h)).2.2.eq (sY.2 b (U h))) h2 (fun e=>by have:=U e;omega) bA (fun j hj=>by have:=G.kids i x j hj;omega) au (ah R) (af) (ag)) ?_;rintro o' ⟨F2,inr⟩ Z ⟨rfl,q0,nZ,kZ,hx,i',l',b1,a8,ba,bC,_,hk,_⟩;simp only at q0 hk;subst q0;obtain rfl:i'=(cu one i).next.length:=by omega
 obtain rfl:=aRV a8 ba;have T2:TwT F2 rb B gb one.cg.length one.ch.length cp seen c:=hT.of fun j hj=>by
  rw[hk j au]
  repeat rw[bH,if_neg au]
 have an:aC 18 F2=je ((1+c * one.cg.length:Nat):Int):=(hk 18 au).trans (ah R);have ao:aC 19 F2=je (i:Int):=(hk 19 au).trans (ah K);have y:aC 20 F2= .ptr Y.nx 0:=(hk 20 au).trans (af);have bI:∀b,b<X.nx->Z.h.get b=X.h.get b:=fun b h=>by
  rw[kZ b au (fun e=>by have:=(hP b (.inl e)).1;omega)];exact bz.2 b h
 have bR:bN .i64 Z r (cu one i).weights:=eT (a2.same sY) nZ fun b h=>kZ b (by have:=ab h;omega) fun e=>(a5 b e).1 h;have bU:bN .i64 Z t (cu one i).pay:=eT (a3.same sY) nZ fun b h=>kZ b (by have:=ac h;omega) fun e=>(a5 b e).2 h;have bb:(cu one i).kind=2->0<=(cu one i).info/\(cu one i).info<one.ch.length:=fun hk=>⟨(G.inf i x hk).1,(G.inf i x hk).2.1⟩;refine ae ?_
 refine aD (bB (Q:=fun o A' Z'=>o= .normal/\A'.inr=false/\Z'.nx=Z.nx/\(∀b,b≠Y.nx->Z'.h.get b=Z.h.get b)/\Z'.h.get Y.nx=jf [je (cu one i).kind,je (cu one i).player,je (shN ((1+c * one.cg.length:Nat):Int) ((pH one seen c:Nat):Int) (cu one i)).info,u,r,t]/\TwT A'.F rb B gb one.cg.length one.ch.length cp seen c/\aC 18 A'.F=je ((1+c * one.cg.length:Nat):Int)/\aC 19 A'.F=je (i:Int)/\aC 20 A'.F= .ptr Y.nx 0) (aD (aL ?_)) ?_)
 .have t4:=T2.t4;by_cases M:(cu one i).kind=2
  .refine fg y t4 @aB @aA (fI hx) (Ac M) ?_;have q:(shN ((1+c * one.cg.length:Nat):Int) ((pH one seen c:Nat):Int) (cu one i)).info=(cu one i).info+((pH one seen c:Nat):Int):=by
    show(if(cu one i).kind=2 then _ else _)=_;rw[if_pos M]
   have⟨i1,i2⟩:=bb M;cases hs:seen with
   | true=>
    refine aS (ag) ?_;have eo:pH one true c=c * one.ch.length:=by unfold pH;rw[if_pos rfl]
    have w2:IntKind.i64.wrap ((c:Int) * (one.ch.length:Int))=((c * one.ch.length:Nat):Int):=by rw[<-Int.natCast_mul];exact wrap_i64 au au
    have w3:IntKind.i64.wrap ((cu one i).info+((c * one.ch.length:Nat):Int))=(cu one i).info+((c * one.ch.length:Nat):Int):=wrap_i64 au au;rw[hs,eo] at q;refine aL (fj y T2.t15 T2.t17 @aB @aA (dF hx) w2 w3 ?_);refine fN (v:=.undef) (S1:=⟨Z.h.set Y.nx (jf [je (cu one i).kind,je (cu one i).player,je ((cu one i).info+((c * one.ch.length:Nat):Int)),u,r,t]),Z.nx⟩) (fun call=>by exact ew @dL @dD (xO (cs:=[je (cu one i).kind,je (cu one i).player,je (cu one i).info,u,r,t]) (p:=2) hx (by simp))) ?_;refine ae ?_;refine⟨fun b h=>by rw[ef,if_neg h],by rw[ef,if_pos rfl,eo,q],?_,an,ao,y⟩;rw[<-hs];exact T2.of fun j hj=>by repeat rw[bH,if_neg au]
   | false=>
    refine aQ (ag) (aK ?_);have eo:pH one false c=0:=by unfold pH;rw[if_neg az]
    rw[hs,eo] at q;refine ae ?_;refine⟨fun _ _=>by trivial,?_,?_,an,ao,y⟩
    .rw[eo,q,hx];show some (AB.cells [_,_,AV.int .i64 (cu one i).info,_,_,_] _ _)=some (AB.cells [_,_,AV.int .i64 ((cu one i).info+((0:Nat):Int)),_,_,_] _ _);rw[show(cu one i).info+((0:Nat):Int)=(cu one i).info by omega]
    .rw[<-hs];exact T2.of fun j hj=>by repeat rw[bH,if_neg au]
  .refine fg y t4 @aB @aA (fI hx) (Aa M) ?_;refine aQ (ag) (aK ?_);have q:(shN ((1+c * one.cg.length:Nat):Int) ((pH one seen c:Nat):Int) (cu one i)).info=(cu one i).info:=by
    show(if(cu one i).kind=2 then _ else _)=_;rw[if_neg M]
   refine ae ?_;refine⟨fun _ _=>by trivial,by rw[q];exact hx,T2.of fun j hj=>by repeat rw[bH,if_neg au],an,ao,y⟩
 rintro o' ⟨F3,inr⟩ Z' ⟨rfl,q0,cc,aa,bW,T3,bd,bj,bk⟩;simp only at q0 T3 bd bj bk;subst q0;have bY:Same X Z':=⟨au,fun c N=>(aa c au).trans (bI c N)⟩;have z:=J;have J:=J.sm bY;have bm:=J.hn;rw[Aj,a0,Bv,zV,Nat.min_eq_left au] at bm;have bZ:aBs Z' (fun c=>X.nx<=c/\c<Z'.nx) [je (cu one i).kind,je (cu one i).player,je (shN ((1+c * one.cg.length:Nat):Int) ((pH one seen c:Nat):Int) (cu one i)).info,u,r,t] (shN ((1+c * one.cg.length:Nat):Int) ((pH one seen c:Nat):Int) (cu one i)):=
  ⟨u,r,t,rfl,eT bC au fun b h=>aa b (by have:=U h;omega),eT bR au fun b h=>aa b (by have:=ab h;omega),eT bU au fun b h=>aa b (by have:=ac h;omega),fun b h=>by
   have h1:=(hP b h).1;rcases h with h|h|h
   .have:=U h;omega
   .have:=ab h;omega
   .have:=ac h;omega⟩
 refine aL (gh bk T3.t16 @aB @aA (fV J.g) (mB (n:=6) bW rfl) ?_);refine fW (aFo (ag)) ?_;intro W wS wn wb
 have hW:=J.sm wS;have b0:=bZ.move (P':=fun c=>X.nx<=c/\c<Z'.nx) wS.1 fun c N hp=>⟨wS.2 c N,hp⟩;have⟨V,eA,nV,bV,kV⟩:=aLs (n:=O) (bytes:=96) hW.b (by rw[Aj,hW.nod.1,hW.hn];show 6+_=_;omega) hW.osz wb rfl ay ay;refine fN (fun call=>by exact de @fK eA) ?_;refine ez T3.t16 @aB @aA ?_;have gV:V.h.get gb=jf [je one.cm,.sl nb 0 O O o,iv]:=(kV gb hW.lg.2 hW.dgb).trans hW.g;refine fN (v:=.undef) (S1:=⟨V.h.set gb (jf [je one.cm,.sl W.nx 0 (O+1) (O+1) true,iv]),V.nx⟩) (fun call=>by exact ew @dL @aIy (xO (cs:=[je one.cm,.sl nb 0 O O o,iv]) (p:=1) gV (by simp))) ?_;refine ae ?_;have hV:=hW.push (Af _) au (b0.move (P':=fun c=>S5.nx<=c/\c≠gb/\c<W.nx/\aM xa≠some c/\aM xw≠some c/\aM iv≠some c) au fun b h hp=>⟨kV b h (ax z.lb.2),ax z.same.1,ax z.lg.2,h,fun e=>by have:=(z.gxa.blk e).2.1;omega,fun e=>by have:=(z.gxw.blk e).2.1;omega,fun e=>by have:=(z.giv.blk e).2.1;omega⟩) bV kV;rw[Bg,<-aMm x] at hV;refine aL (ew bj w1 ?_);refine⟨k - 1,au,rfl,i+1,W.nx,O+1,6,true,xa,xw,iv,_,ics,au,hV,T3.of fun j hj=>?_,by refine⟨?_,?_⟩<;>simp only[↓sU,sD,rE,↓reduceIte,rA,bd]⟩
 repeat rw[bH,if_neg au]
section
variable {S5 X Z:St}{gb nb n sz:Nat}{o:Bool}{ps:Int}{xa xw iv:AV}{cs ics:cd}{A W:bu}{L:List cJ}{I:List fU}
def TwB.re(h:TwB S5 X gb nb n o sz ps xa xw iv cs ics A W L I)(hn:X.nx<=Z.nx)(l:∀c,c<X.nx->S5.nx<=c->Z.h.get c=X.h.get c):TwB ⟨Z.h,S5.nx⟩ Z gb nb n o sz ps xa xw iv cs ics A W L I where
 same:=⟨Av h.same.1 hn,fun _ _=>rfl⟩
 lg:=⟨h.lg.1,Ae h.lg.2 hn⟩
 lb:=⟨h.lb.1,Ae h.lb.2 hn⟩
 g:=(l _ h.lg.2 h.lg.1).trans h.g
 b:=(l _ h.lb.2 h.lb.1).trans h.b
 hn:=h.hn
 osz:=h.osz
 nod:=h.nod.move hn fun c k q=>⟨l c k q.1,q⟩
 gxa:=h.gxa.move hn fun c k=>l c (h.gxa.blk k).2.1 (h.gxa.blk k).1
 gxw:=h.gxw.move hn fun c k=>l c (h.gxw.blk k).2.1 (h.gxw.blk k).1
 giv:=h.giv.move hn fun c k=>l c (h.giv.blk k).2.1 (h.giv.blk k).1
 inf:=h.inf
 dgb:=h.dgb
 da:=h.da
 dw:=h.dw
 di:=h.di
 daw:=h.daw
 dwi:=h.dwi
end
def aI4:rS n (c+1)=rS n c++ [((1+c * n:Nat):Int)]:=by
 unfold rS;rw[List.range_succ,Co];rfl
noncomputable def aRa:AC:=qk2
noncomputable def aSI:AC:=(.block 0 (.loop (.seq (.seq (.reg [mt 41 17,
mt 42 3,
oq 43 (bi .lss (.t 41) (.t 42))])
(.cond (.t 43) .skip (.exit 0)))
(.seq (.block 1 (.seq (.reg [mt 46 17,
mt 47 14,
oq 48 (bi .mul (.t 46) (.t 47)),
oq 49 (bi .add (ci 1) (.t 48)),
mt 18 49])
(.seq aOP
(.seq aRa
(.seq (.reg [oq 19 (.mv (ci 0))])
aRn)))))
(.reg [mt 44 17,
oq 45 (bi .add (.t 44) (ci 1)),
mt 17 45])))))
def TwI(S5:St)(rb B gb cp:Nat)(one:aX)(seen:Bool)(k:Nat)(A:bO)(X:St):Prop:=A.inr=false/\∃ (c nb h sz:Nat) (o:Bool) (xa xw iv:AV) (cs ics:cd),c+k=cp/\TwB S5 X gb nb h o sz one.cm xa xw iv cs ics (rS one.cg.length c) (List.replicate c 1) (oC one seen c) (kL one seen c)/\TwT A.F rb B gb one.cg.length one.ch.length cp seen c
def aRt{u:Nat}{o:Bool}{one:aX}{seen:Bool}{K:AV}{ics:cd}{A W:bu}{L:List cJ}(x:aDb one)(hc:c<3)(hi:aG 2 cE S5 z one.ch)(gB:S5.h.get B=jf [je one.cm,K,z])(lB:B<S5.nx)(q:TwB S5 X gb nb u o sz one.cm xa xw iv cs ics A W L (kL one seen c))(l:TwT F rb B gb one.cg.length one.ch.length cp seen c)(k:aC 18 F=je ((1+c * one.cg.length:Nat):Int)):
  jP fns aRa ⟨F,false⟩ X fun H y Z=>H= .normal/\y.inr=false/\(∃ (t:AV) (r:cd),TwB S5 Z gb nb u o sz one.cm xa xw t cs r A W L (kL one seen (c+1)))/\TwT y.F rb B gb one.cg.length one.ch.length cp seen c/\aC 18 y.F=je ((1+c * one.cg.length:Nat):Int):=by
 have C:one.ch.length<=60:=by have:=x.ord.le;rw[Al] at this;have:=x.n2;omega
 have aa:c * one.ch.length<=2 * 60:=Ey au C;have t4:=l.t4;unfold aRa;have nX:=q.same.1;have M:=(q.same.2 B lB).trans gB;have U:(kL one seen c).length<=300:=by
  cases J:seen with
  | true=>rw[mA rfl];omega
  | false=>
   cases c with
   | zero=>show 0<=300;omega
   | succ c=>rw[vG rfl au];omega
 by_cases h:c=0\/seen=true;rotate_left
 .have D:c≠0:=fun e=>h (.inl e);have J:seen=false:=by cases seen with | true=>exact absurd (.inr rfl) h | false=>rfl
  have N:kL one seen (c+1)=kL one seen c:=by
   show(if _ then _ else _)=_;rw[if_neg h]
  rw[N];rw[J] at t4;refine cA (ez l.t17 t4 (Aa (au:¬ (c:Int)=0)) ?_);refine aQ (ag) (aK ?_);refine ae ?_
  refine⟨⟨iv,ics,q⟩,l.of fun j O=>?_,ah k⟩
  repeat rw[bH,if_neg au]
 have N:kL one seen (c+1)=kL one seen c++one.ch:=by
  show(if _ then _ else _)=_;rw[if_pos h]
 rw[N];refine aD (bB (Q:=fun H y Z=>H= .normal/\y.inr=false/\Z=X/\aC 77 y.F= .bool true/\TwT y.F rb B gb one.cg.length one.ch.length cp seen c/\aC 18 y.F=je ((1+c * one.cg.length:Nat):Int)) (aL ?_) ?_)
 .by_cases D:c=0
  .refine ew l.t17 (Ac (au:(c:Int)=0)) ?_;refine⟨l.of fun j O=>?_,k⟩
   repeat rw[bH,if_neg au]
  .have J:seen=true:=h.resolve_left D;rw[J] at t4;refine ez l.t17 t4 (Aa (au:¬ (c:Int)=0)) ?_;refine⟨l.of fun j O=>?_,k⟩
   repeat rw[bH,if_neg au]
 rintro H ⟨F,inr⟩ _ ⟨rfl,Y,rfl,G,l,k⟩;simp only at Y G l k;subst Y;refine aS (ah G) ?_;have⟨t,V,r,eA,gV,iV,nV,kV,bV⟩:=aLK q.giv q.inf q.same (aG.same (E:=cE) cB hi q.same) au;have gg:=q.g;have R:V.h.get gb=jf [je one.cm,.sl nb 0 u u o,iv]:=(kV gb q.lg.2 q.di.1).trans gg;refine aL (fg l.t13 l.t16 @aB @aA (iS M) (iS gg) ?_);refine fN (fun call=>by exact de @fK eA) ?_;refine ez l.t16 @aB @aA ?_;refine fN (v:=.undef) (S1:=⟨V.h.set gb (jf [je one.cm,.sl nb 0 u u o,t]),V.nx⟩) (fun call=>by exact ew @dL gV.cells (xO (cs:=[je one.cm,.sl nb 0 u u o,iv]) (p:=2) R (by simp))) ?_;refine ae ?_;refine⟨⟨t,r,q.info nV gV iV kV bV⟩,l.of fun j O=>?_,ah k⟩
 repeat rw[bH,if_neg au]
def aRO{one:aX}{seen:Bool}{u:AV}(H:Has fns)(l:aDb one)(hc:cp<=3)(hn:aG 6 cF S5 u one.cg)(hi:aG 2 cE S5 v one.ch)(gB:S5.h.get B=jf [je one.cm,u,v])(lB:B<S5.nx)(h0:TwI S5 rb B gb cp one seen cp ⟨F,false⟩ X):
  jP fns aSI ⟨F,false⟩ X fun o A Z=>o= .normal/\TwI S5 rb B gb cp one seen 0 A Z:=by
 unfold aSI;have x:=l.n2;refine aO (bX (TwI S5 rb B gb cp one seen) ?_ cp _ _ h0);rintro k ⟨F,inr⟩ X ⟨t,c,nb,nn,sz,o,xa,xw,iv,cs,ics,N,h,q⟩;simp only at t q;subst t;refine gH (ew q.t17 q.t3 ?_);by_cases a1:c<cp;rotate_left
 .refine aQ im (bT ?_);refine ae ?_;obtain rfl:k=0:=by omega
  refine⟨rfl,c,nb,nn,sz,o,xa,xw,iv,cs,ics,N,h,q.of fun j hj=>?_⟩
  repeat rw[bH,if_neg au]
 refine aS im (aK ?_);refine ae ?_
 have a2:c * one.cg.length<=2 * 60:=Ey au x;have w1:=ed c
 have w2:IntKind.i64.wrap ((c:Int) * (one.cg.length:Int))=((c * one.cg.length:Nat):Int):=by rw[<-Int.natCast_mul];exact wrap_i64 au au
 have w3:IntKind.i64.wrap (1+((c * one.cg.length:Nat):Int))=((1+c * one.cg.length:Nat):Int):=by rw[wrap_i64 au au];omega
 have O:0<nn:=by have:=h.hn;omega
 refine aD (aO (aD (aL ?_)));refine fe q.t17 q.t14 w2 w3 ?_;refine aD (aMB (S0:=S5) (gb:=gb) (nb:=nb) (iu q.t16) (ag) h.g h.b O h.gxa h.gxw h.same h.lg.2 h.lb.2 h.dgb h.da.1 h.dw.1 h.da.2 h.dw.2 (fun b hb=>(h.daw b hb).1) (by rw[aMr];omega) (by rw[Aq];omega) ?_);intro F1 Z Q R U nZ bZ y z C D kZ;have E:=h.root nZ bZ y z C D kZ;rw[<-aI4,<-List.replicate_succ'] at E;have T1:TwT F1 rb B gb one.cg.length one.ch.length cp seen c:=q.of fun j hj=>by
  rw[U j au]
  repeat rw[bH,if_neg au]
 have V:aC 18 F1=je ((1+c * one.cg.length:Nat):Int):=(U 18 au).trans (af);refine aD (bB (aRt l au hi gB lB E T1 V) ?_);rintro o' ⟨F2,inr⟩ Z2 ⟨rfl,t,⟨Y,G,aa⟩,T2,J⟩;simp only at t T2 J;subst t;refine ae ?_
 refine cA (ae ?_);refine bB (aQ7 (cp:=cp) (rb:=rb) H l au hn hi gB lB ⟨rfl,0,nb,nn,sz,o,Q,R,Y,cs,G,au,by rw[List.take_zero,Bu];exact aa,T2.of fun j hj=>?_,ah J,ag⟩) ?_
 .repeat rw[bH,if_neg au]
 rintro o' ⟨F3,inr⟩ Z3 ⟨rfl,t,i,ab,ac,an,o3,ao,aw,aI,aV,K,a3,M,r,aZ,a0⟩;simp only at t r aZ a0;subst t;obtain rfl:i=one.cg.length:=by omega
 rw[Bd (by rw[zV];exact Af _)] at M;refine ae ?_
 refine aL (ew r.t17 w1 ?_);refine⟨k - 1,au,rfl,c+1,ab,ac,an,o3,ao,aw,aI,aV,K,au,M,⟨?_,?_,?_,?_,?_,?_,?_,?_⟩⟩
 .simp only[↓sU,sD,rE,↓reduceIte,rA,r.t3]
 .simp only[↓sU,sD,rE,↓reduceIte,rA,r.t4]
 .simp only[↓sU,sD,rE,↓reduceIte,rA,r.t12]
 .simp only[↓sU,sD,rE,↓reduceIte,rA,r.t13]
 .simp only[↓sU,sD,rE,↓reduceIte,rA,r.t14]
 .simp only[↓sU,sD,rE,↓reduceIte,rA,r.t15]
 .simp only[↓sU,sD,rE,↓reduceIte,rA,r.t16]
 .simp only[↓sU,sD,rE,↓reduceIte,rA]
def aUP{b:Nat}(k:aC 37 F=je ps)(l:aC 39 F= .sl b 0 1 1 false):gO (.build [je 0,.ct,.ct] [(0,1,.t 37),(1,1,.t 39)]) F h=some (.agg [je ps,.sl b 0 1 1 false,.ct]):=by
 show(bG (eI _ (dJ F [(0,1,.t 37),(1,1,.t 39)])) fun cs=>some (AV.agg cs))=_;simp only[dJ,show(cT.t 37).val F=je ps from k,show(cT.t 39).val F= .sl b 0 1 1 false from l,eI,dD,aIy,aH];rfl
def aH6{lv:AV}{dl:bu}{k:Int}{seen zero:Bool}(H:Has fns)(hl:bN .i64 S lv dl)(U:dl.length<=140737488355328)(x:1<=ps/\ps<=4)(hm:1<=k/\k<=61)(hc:1<=cp/\cp<=3):
  iI fns (.fn 23 [] []) [lv,je ps,je k,je (cp:Int),.bool seen,.bool zero] S fun r Z=>Same S Z/\∃ (one:aX) (nv iv:AV),aDb one/\one.cm=ps/\(one.cg.length:Int)<=mx 1 ((k - 1) / (cp:Int))/\r= .agg [je ps,nv,iv]/\aG 6 cF Z nv (uW one cp seen).cg/\aG 2 cE Z iv (uW one cp seen).ch/\∀X':St,Z.nx<=X'.nx->(∀c,c<Z.nx->S.nx<c->X'.h.get c=Z.h.get c)->aG 6 cF X' nv (uW one cp seen).cg/\aG 2 cE X' iv (uW one cp seen).ch:=by
 refine cK H.f23 (by simp) ?_;refine ae ?_;refine cA ?_;refine bS ?_;intro S1 s1 n1 g1;refine am ?_;have w1:IntKind.i64.wrap (k - 1)=k - 1:=wrap_i64 au au;have hq:nH .quo (.p .int) (je (k - 1)) (je (cp:Int))=some (je ((k - 1) / (cp:Int))):=aLw _ au au au;have bj:(k - 1) / (cp:Int)<=60:=by
  have h1:(k - 1) / (cp:Int)<=k - 1:=Int.ediv_le_self _ au;omega
 have V:1<=mx 1 ((k - 1) / (cp:Int))/\mx 1 ((k - 1) / (cp:Int))<=60:=by unfold mx;split<;>omega
 refine cA (gh w1 hq @aAx @jQ @nR @aDo ?_);refine bK (am ?_);refine aW (aGM H (hl.same s1) U x ⟨V.1,au⟩) ?_;rintro _ y ⟨s2,one,aa,ab,rfl,rfl,l,z,ac,⟨C,D⟩,an,ao,_⟩;have t:aDb one:=⟨x,by have:=(iN l).n1;omega,au,l,ac,C,D⟩
 refine bS ?_;intro S3 s3 n3 g3
 refine cQ (b:=y.nx) (aq) (by refine am ?_;exact aY _) g3 rfl rfl ?_;intro S4 v4 k4 g4;refine am ?_
 have s4:Same y S4:=v4.same s3 (Af _);have n2:=s2.1;have m4:=s4.1;have lB:y.nx<S4.nx:=by omega
 have aw:S4.h.get S.nx=jf [je 0,.ct,.ct]:=(s4.2 _ au).trans ((s2.2 _ au).trans g1);have aI:Same S S4:=(s1.trans s2).trans s4;have u:=aG.same (E:=cF) bQ an s4;have v:=aG.same (E:=cE) cB ao s4;have aV:=aG.len u;have aZ:=aG.len v;clear v4 g3 s3 k4 n3;have gB:S4.h.get y.nx=jf [je one.cm,aa,ab]:=g4;refine aD (jK ?_);refine fg @aB @aA (fV gB) (iS gB) aV aZ ?_;refine⟨fun _=>trivial,aG.self u,fun _=>trivial,aG.self v,?_⟩;refine cA ?_;obtain⟨S5,q⟩:∃Y:St,Y=⟨S4.h,S4.nx+8⟩:=⟨_,rfl⟩;have e5:(⟨S4.h,S4.nx+8⟩:St)=S5:=q.symm;refine fl @aR4 ?_;refine fW (aFo (by simp only[↓aF,aE,rE,↓reduceIte,rA];try rfl)) ?_;simp only[e5];have s5:Same S4 S5:=by rw[q];exact Same.nx _ _
 have n5:S5.nx=S4.nx+8:=by rw[q]
 clear q e5;intro O s6 n6 g6;simp only[<-n5] at g6 n6 s6 ⊢;refine am ?_
 have a0:∀ (F:Fr) (h:Ev.T AB),aC 37 F=je one.cm->aC 39 F= .sl S5.nx 0 1 1 false->gO (.build [je 0,.ct,.ct] [(0,1,.t 37),(1,1,.t 39)]) F h=some (.agg [je one.cm,.sl S5.nx 0 1 1 false,.ct]):=fun F h a b=>aUP a b;simp only[↓aF,aE,rE,↓reduceIte,rA,a0]
 refine bS ?_;intro S7 s7 n7 g7
 refine cQ (b:=O.nx) (aq) (by refine am ?_;exact aY _) g7 rfl rfl ?_;intro S8 v8 k8 g8;refine am ?_
 have Q:Same O S8:=v8.same s7 (Af _);have m8:=Q.1;have G:=s6.trans Q;have a1:=aG.same (E:=cF) bQ u s5;have a2:=aG.same (E:=cE) cB v s5;have a3:=(s5.2 _ lB).trans gB;have a5:=(s5.2 S.nx (ax s1.1)).trans aw;have a8:=aI.trans s5;have J:TwB S5 S8 O.nx S5.nx 1 false 0 one.cm .ct .ct .ct [] [] (rS one.cg.length 0) (List.replicate 0 1) (oC one seen 0) (kL one seen 0):=
  {
   same:=G
   lg:=⟨au,au⟩
   lb:=⟨Af _,au⟩
   g:=g8
   b:=(Q.2 _ au).trans g6
   hn:=rfl
   osz:=nofun
   nod:=⟨rfl,fun j a h=>by cases h⟩
   gxa:=.inl ⟨rfl,rfl,rfl⟩
   gxw:=.inl ⟨rfl,rfl,rfl⟩
   giv:=.inl ⟨rfl,rfl,rfl⟩
   inf:=⟨rfl,fun j a h=>by cases h⟩
   dgb:=by omega
   da:=⟨(nofun),(nofun)⟩
   dw:=⟨(nofun),(nofun)⟩
   di:=⟨(nofun),(nofun)⟩
   daw:=fun c h=>by cases h
   dwi:=fun c h=>by cases h}
 refine gH (ae ?_);refine bB (aRO (rb:=S.nx) (B:=y.nx) (gb:=O.nx) (cp:=cp) (seen:=seen) H t au a1 a2 a3 au ⟨rfl,0,S5.nx,1,0,false,.ct,.ct,.ct,[],[],au,J,⟨?_,?_,?_,?_,?_,?_,?_,?_⟩⟩) ?_
 .simp only[↓sU,sD,rE,↓reduceIte,rA]
 .simp only[↓sU,sD,rE,↓reduceIte,rA]
 .simp only[↓sU,sD,rE,↓reduceIte,rA]
 .simp only[↓sU,sD,rE,↓reduceIte,rA]
 .simp only[↓sU,sD,rE,↓reduceIte,rA]
 .simp only[↓sU,sD,rE,↓reduceIte,rA]
 .simp only[↓sU,sD,rE,↓reduceIte,rA]
 .simp only[↓sU,sD,rE,↓reduceIte,rA];try rfl
 clear J g6 g7 g8 s7 v8 k8 G Q;rintro o' ⟨F,inr⟩ X ⟨rfl,q0,c,nb,nn,sz,o,xa,xw,iv,cs,ics,bk,K,M⟩;simp only at q0 M;subst q0;obtain rfl:c=cp:=by omega
 refine ae ?_
 have nX:=K.same.1;have ba:=(K.same.2 S.nx (ax s1.1)).trans a5;have bb:=gK K.g;refine cA (ez M.t16 M.t12 bb ?_);refine cQ (b:=S.nx) (iu M.t12) (by refine ae ?_;exact aY _) ba rfl rfl ?_;intro Z z1 z2 z3;have N:=gK z3;refine ae ?_;refine aT (ez @dE M.t12 N ?_);have R:=K.re (Z:=Z) z1.1 fun b hb h5=>z1.2 b hb (ax s1.1);refine⟨z1.same (a8.trans K.same) (Af _),one,_,_,t,rfl,z,rfl,R.cg,R.inf.is R.giv,fun X' bd be=>?_⟩;have hX:=R.re (Z:=X') bd fun b hb h5=>be b hb (by have:=s1.1;have:S5.nx<=b:=h5;omega);exact⟨hX.cg,hX.inf.is hX.giv⟩
theorem aCp{i:Int}:∀ {L:List cS} {T:List cS} {a:Nat},T.drop a=L->∀ (l:ce),l.Pairwise (· < ·)->(∀x∈l,a<=x/\∃t,T[x]? =some t/\t.1=i)->(l.map (eJ T)).sum<=oN i L a
 | [],T,a,z,l,_,r=>by
  cases l with
  | nil=>exact Af _
  | cons x l=>
   have⟨N,t,H,_⟩:=r x (Bk ..);have:=(Ai.1 H).1;have B:=congrArg List.length z;rw[Dd] at B;simp only[Cb] at B;omega
 | t::L,T,a,z,l,E,r=>by
  have h:a<T.length:=by
   have B:=congrArg List.length z;rw[Dd,Ax] at B;omega
  have e:=Bz h;rw[z] at e;injection e with J F;show _<=(if t.1=i then(t.2.2+1 - (a:Int)).toNat else 0)+oN i L (a+1);cases l with
  | nil=>exact Ck _
  | cons x l=>
   have⟨K,u,v,C⟩:=r x (Bk ..);have k:=Ei.1 E;by_cases D:x=a
   .subst D;have G:T[x]? =some t:=by rw[Ab h,J]
    rw[G] at v;cases v;rw[if_pos C,Dg,En];have M:=aCp (i:=i) (T:=T) (a:=x+1) (L:=L) F.symm l k.2 fun y q=>⟨k.1 y q,(r y (Bf _ q)).2⟩;have O:eJ T x=(t.2.2+1 - (x:Int)).toNat:=by unfold eJ;rw[G]
    omega
   .have M:=aCp (i:=i) (T:=T) (a:=a+1) (L:=L) F.symm (x::l) E fun y q=>by
     refine⟨?_,(r y q).2⟩;rcases Bp.1 q with rfl|q
     .omega
     .have:=k.1 y q;omega
    omega
def aIR{T:List cS}(C:gP g=some T)(H:T.length=g.cg.length)(hi:i<g.cg.length):1+(((cu g i).next.map Int.toNat).map (eJ T)).sum<=eJ T i:=by
 have z:fB g.cg.length (dN g) (g.cg.length+1) 0 (-1) 0=some T:=C;have k:=mN az z;have B:=jU z;have r:dN g (0+i)=(cu g i).next:=by rw[Am];exact gR g i
 have⟨J,_⟩:=qC k (au:i<T.length);have q:=B.inc i au;rw[r] at q;have l:=B.cf i au;rw[r] at l;have u:((cu g i).next.map Int.toNat).Pairwise (· < ·):=by
  rw[List.pairwise_map];refine List.Pairwise.imp_of_mem (fun {a b} D E h=>?_) q;have:=l a D;have:=l b E;omega
 have:=aCp (i:=(i:Int)) (T:=T) (a:=0) (L:=T) rfl _ u fun x F=>by
  obtain⟨y,G,rfl⟩:=Cq.1 F;have⟨_,K,v⟩:=l y G;refine⟨Ck _,?_⟩;unfold jY at v;rw[Es,Bb] at v;have⟨t,a,b⟩:=v;exact⟨t,a,by rw[b];omega⟩
 omega
section
variable {g:aX}{a b c c' m:bu}
def aJV(A:gT g m){k:Nat}(hi:i<g.cg.length)(h:k<(cu g i).next.length):(jZ g m i k).toNat<(cu g (gE m i)).next.length/\((cu g (gE m i)).next.getD (jZ g m i k).toNat 0).toNat=gE m ((cu g i).next.getD k 0).toNat:=by
 have⟨l,q⟩:=aF9 (A.A.kid i k hi h);refine⟨l,?_⟩;unfold jZ;rw[q];rfl
def aGj{s:Nat}(h:s<g.ch.length):(dx g m).getD s 0=(cu g (gE m (eG g s))).info:=by
 unfold dx;rw[Ad,Az,Br h];rfl
def aKu{s:Nat}(h:s<g.ch.length):(dy g m).getD s []=(List.range (cu g (eG g s)).next.length).map fun k=>jZ g m (eG g s) k:=by
 unfold dy;rw[Ad,Az,Br h];rfl
def aEV{s k:Nat}(h:s<g.ch.length)(l:k<(cu g (eG g s)).next.length):((dy g m).getD s []).getD k 0=jZ g m (eG g s) k:=by
 rw[aKu h,Ad,Az,Br l];rfl
def xV(G:eO g){s:Nat}(h:s<g.ch.length):(cv g (s:Int)).cr=(((cu g (eG g s)).next.length:Nat):Int):=by
 have⟨k,l,q⟩:=G.fst s h;have:=(G.inf _ k l).2.2
 rwa [q] at this
def aNP(G:eO g){j:Nat}(hi:i<g.cg.length)(k:j<g.cg.length)(l:(cu g i).kind=2)(h:(cu g j).kind=2)(e:(cu g i).info=(cu g j).info):(cu g i).next.length=(cu g j).next.length:=by
 have q:=(G.inf i hi l).2.2;have r:=(G.inf j k h).2.2;rw[<-e,q] at r;omega
def aHa(G:eO g)(A:gT g m){s:Nat}(h:s<g.ch.length):0<=(dx g m).getD s 0/\(dx g m).getD s 0<g.ch.length:=by
 have⟨k,l,q⟩:=G.fst s h;rw[aGj h];have:=G.inf _ (A.M.at k).2 (by rw[<- (A.A.like _ k).1];exact l);exact⟨this.1,this.2.1⟩
end
section
variable {S:St}{nv iv av:AV}{g:aX}{a:bu}
def aIn(H:Has fns)(k:dC g=0)(t:aG 6 cF S nv g.cg)(hi:aG 2 cE S iv g.ch)(u:bN .i64 S av a)(A:gT g a):
  iI fns (.fn 49 [] []) [.agg [je g.cm,nv,iv],av] S fun r l=>Same S l/\∃v,r= .tup [v,je 0]/\bN .i64 l v (dx g a):=
 aW (aJm (P:=xC g a) (ok:=jD g a) H (aEv (g:=g) (m:=a)) t hi u (by have:=(iN k).n2;omega) (aQP H t hi u)) fun r l h=>by
  have⟨s,x,y,e,_,p⟩:=h;rw[A.chk k] at e;have⟨S0,_,q,_⟩:=p (A.chk k);exact⟨s,x,e,q.is⟩
def aFw(H:Has fns)(k:dC g=0)(q:aG 6 cF S nv g.cg)(hi:aG 2 cE S iv g.ch)(t:bN .i64 S av a)(A:gT g a):
  iI fns (.fn 50 [] []) [.agg [je g.cm,nv,iv],av] S fun r l=>Same S l/\∃v,r= .tup [v,je 0]/\aG 1 nK l v (dy g a):=
 aW (aGn (P:=xC g a) (ok:=jD g a) H (aEv (g:=g) (m:=a)) q hi t (by have:=(iN k).n2;omega) (aQP H q hi t)) fun r l h=>by
  have⟨s,x,y,e,_,p⟩:=h;rw[A.chk k] at e;obtain⟨S0,_,_,C,D,cs,rfl,_,u,z,B⟩:=p (A.chk k);exact⟨s,_,e,B.is z u (Af _)⟩
end
end Go.Ev.Gl
