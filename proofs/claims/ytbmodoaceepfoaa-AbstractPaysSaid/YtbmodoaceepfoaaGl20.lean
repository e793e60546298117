import Derived.Test.YtbmodoaceepfoaaGl19
set_option linter.all false
open Nat renaming reduceEqDiff -> rE, reduceAdd -> rA
set_option maxHeartbeats 0
namespace Go.Ev.Gl
variable {fns:T fD}
variable {l P P':bt}{i n gb nb sz B t xb rb cp c d d' j:Nat}{h h':Ev.T AB}{r:List (Nat×Nat×Ev.T AB)}{F K:Fr}{v iv xa xw xp pv x0 x3 k0 k1 k2:AV}{S0 S X S5 Y:St}{cs:bu}{ps w:Int}{I J:List jL}{g:aP}
def sR{l:mC}{m:Nat}(k:Nat.testBit l.mask i=false)(q:pE l.v (iC l.q l.F h)=true)(t:eU l r h'=true):eU l ((i,m,h')::r) h=true:=by
 unfold eU;rw[k,aR,q,aL,t];cases Nat.testBit m l.i<;>rfl
def uS{l:mC}{m:Nat}(k:Nat.testBit l.mask i=false)(q:pE l.v (iC l.q l.F h)=true)(t:Nat.testBit m l.i=true):eU l ((i,m,h')::r) h=true:=by
 unfold eU;rw[k,aR,q,aL,t,aL]
def kC{x:cQ}{p:AV}(k:x.val F=p)(l:eE p false 1 h=some v)(q:cI v v=true):pE v (iC (.ld false 1 x) F h)=true:=by
 rw[nC,k,l];exact q
def aHP{k:Nat}(h:fC k S0 S v n cs):cI v v=true:=by
 rcases h with⟨rfl,_⟩|⟨b,rfl,_⟩
 .rfl
 .exact nQ ..
noncomputable def aO4:AC:=aUk
def aMV{W:St}{inr:Bool}{y z B:AV}{h:bu}{o:Bool}{V O:bt}{Q:Out->bO->St->Prop}(E:aA 16 F= .ptr gb 0)(G:aA 18 F=jr w)(hg:W.h.get gb=js [jr ps,.sl nb 0 n n o,iv])(hb:W.h.get nb=some (.cells ([y,z,B,xa,xw,xp]++h) o sz))(hn:0<n)(ga:fC 1 S0 W xa V.length (aQ V))(gw:fC 1 S0 W xw O.length (aQ O))(hS:jq S0 W)(lg:gb<W.nx)(lb:nb<W.nx)(dg:gb≠nb)(Y:aN xa≠some gb)(an:aN xw≠some gb)(aa:aN xa≠some nb)(ao:aN xw≠some nb)(aw:∀c,aN xa=some c->aN xw≠some c)(b1:V.length<=1000)(b2:O.length<=1000)
  (hQ:∀F' Z q t,(∀j,j<22->aA j F'=aA j F)->W.nx<=Z.nx->Z.h.get nb=some (.cells ([y,z,B,q,t,xp]++h) o sz)->fC 1 S0 Z q (V++ [w]).length (aQ (V++ [w]))->fC 1 S0 Z t (O++ [1]).length (aQ (O++ [1]))->(∀c,aN q=some c->W.nx<=c/\aN t≠some c)->(∀c,aN t=some c->W.nx<=c)->(∀c,c<W.nx->c≠nb->aN xa≠some c->aN xw≠some c->Z.h.get c=W.h.get c)->Q .normal ⟨F',inr⟩ Z):
  jN fns aO4 ⟨F,inr⟩ W Q:=by
 unfold aO4;apply rC;have f1:=cM (p:=1) hg rfl;have b3:eE (.ptr nb 3) false 1 W.h=some xa:=cM (p:=3) hb rfl;have ia:eY (.slice 6) (.sl nb 0 n n o) 0=some (.ptr nb 0):=by
  show bX (Nat.blt 0 n) (some (AV.ptr nb (0+0 * 6))) none=_;rw[show Nat.blt 0 n=true from Al hn,aL]
 have aI:=aHP ga;have ab:=aHP gw;have u:gL (jr 0)=some 0:=rfl;simp only[Aw,Ca,rA];simp only[↓sU,sD,rE,↓reduceIte,rA,iT,E,G,aR,aL,f1,u,ia,b3];rw[aFf,lD (n:=w) (k:=.i64) (af)];simp only[dJ];obtain⟨U1,H⟩:∃U:St,U=⟨W.h.set (W.nx+10) (js [jr w]),W.nx+25⟩:=⟨_,rfl⟩;have R:jq W U1:=by rw[H];exact⟨by show W.nx<=W.nx+25;omega,fun c r=>by simp only;rw[dx,if_neg au]⟩
 have aV:U1.h.get (W.nx+10)=js [jr w]:=by rw[H];simp only;rw[dx,if_pos rfl]
 have bm:U1.nx=W.nx+25:=by rw[H]
 obtain⟨q,N,eA,gA,bA,nA,rA⟩:=fC.push (bytes:=8) (ga.step R) (hS.trans R) aV ay ay;have kA:∀c,c<W.nx->aN xa≠some c->N.h.get c=W.h.get c:=fun c r aZ=>(rA c au aZ).trans (R.2 c r);refine iS (v:=q) (S1:=N) rfl (fun call=>?_) ?_
 .rw[cK (show Nat.testBit 2032 10=true by decide),fB];refine ae ?_;rw[<-H];exact eA
 rw[cK (show Nat.testBit 2032 10=true by decide)];have a0:=(kA gb lg Y).trans hg;have a1:=(kA nb lb aa).trans hb;have J:=cM (p:=1) a0 rfl;have b4:eE (.ptr nb 4) false 1 N.h=some xw:=cM (p:=4) a1 rfl;simp only[↓sU,sD,rE,↓reduceIte,rA,iT,E,G,aR,aL,J,u,ia,b4];rw[aFf,lD (n:=1) (k:=.i64) rfl];simp only[dJ];obtain⟨U2,K⟩:∃U:St,U=⟨N.h.set (W.nx+17) (js [jr 1]),N.nx⟩:=⟨_,rfl⟩;have bp:U2.nx=N.nx:=by rw[K]
 have M:∀c,c≠W.nx+17->U2.h.get c=N.h.get c:=fun c r=>by rw[K];simp only;rw[dx,if_neg r]
 have a2:U2.h.get (W.nx+17)=js [jr 1]:=by rw[K];simp only;rw[dx,if_pos rfl]
 have a4:jq S0 U2:=⟨ax hS.1,fun c r=>by
  have:=hS.1;rw[M c au,kA c au (fun e=>by have:=(ga.blk e).1;omega)];exact hS.2 c r⟩
 have a5:fC 1 S0 U2 xw O.length (aQ O):=gw.move au fun c r=>by
  have:=(gw.blk r).2.1;rw[M c au,kA c au (fun e=>aw c e r)]
 obtain⟨t,x,eW,gW,bW,nW,rW⟩:=fC.push (bytes:=8) a5 a4 a2 ay ay;have C:∀ {c},aN q=some c->c=U1.nx:=fun r=>by rw[bA] at r;exact(Bk r).symm
 have D:∀ {c},aN t=some c->c=U2.nx:=fun r=>by rw[bW] at r;exact(Bk r).symm
 have ba:∀ {c},aN xw=some c->c<W.nx:=fun r=>(gw.blk r).2.1;have kB:∀c,c<W.nx->aN xa≠some c->aN xw≠some c->x.h.get c=W.h.get c:=fun c r h1 h2=>by
  rw[rW c au h2,M c au];exact kA c r h1
 refine iS (v:=t) (S1:=x) (show Nat.testBit 262128 11=true by decide) (fun call=>?_) ?_
 .rw[cK (show Nat.testBit 262128 17=true by decide),fB];refine ae ?_;rw[<-K];exact eW
 rw[cK (show Nat.testBit 262128 17=true by decide)];have ac:=(kB gb lg Y an).trans hg;have bb:=(kB nb lb aa ao).trans hb;have bd:q.cells=some [q]:=fC.cells gA;have be:t.cells=some [t]:=fC.cells gW;simp only[↓sU,sD,rE,↓reduceIte,rA,iT,E,G,aR,aL,u,ia];refine iS (v:=.undef) (S1:=⟨x.h.set nb (some (.cells ([y,z,B,q,xw,xp]++h) o sz)),x.nx⟩) (show Nat.testBit 2097139 18=true by decide) (fun call=>?_) ?_
 .rw[dE];simp only[↓sU,sD,rE,↓reduceIte,rA,bK,bd,aH];exact xY (cs:=[y,z,B,xa,xw,xp]++h) (p:=3) (S:=x) bb (by simp)
 simp only[↓sU,sD,rE,↓reduceIte,rA,iT,E,G,aR,aL,u,ia,bK];refine iS (v:=.undef) (S1:=⟨(x.h.set nb (some (.cells ([y,z,B,q,xw,xp]++h) o sz))).set nb (some (.cells ([y,z,B,q,t,xp]++h) o sz)),x.nx⟩) (show Nat.testBit 16777215 21=true by decide) (fun call=>?_) ?_
 .rw[dE];simp only[↓sU,sD,rE,↓reduceIte,rA,bK,be,aH];exact xY (cs:=[y,z,B,q,xw,xp]++h) (p:=4) (S:=⟨x.h.set nb (some (.cells ([y,z,B,q,xw,xp]++h) o sz)),x.nx⟩) (by simp only;rw[dx,if_pos rfl]) (by simp)
 rw[iL];refine⟨?_,?_⟩
 .have bj:(x.h.set nb (some (.cells ([y,z,B,q,xw,xp]++h) o sz))).get gb=js [jr ps,.sl nb 0 n n o,iv]:=by rw[dx,if_neg dg];exact ac
  have f2:=cM (p:=1) ac rfl;have f3:=cM (p:=1) bj rfl;have bk:eE (.ptr nb 4) false 1 W.h=some xw:=cM (p:=4) hb rfl;have sn:=nQ nb 0 n n o;refine oD fun l hl=>?_;simp only[Bm,List.not_mem_nil,or_false] at hl;simp only[Cg,List.reverse_nil,Bu,Ci];rcases hl with rfl|rfl|rfl|rfl|rfl|rfl
  .exact sR (show Nat.testBit 61440 11=false by decide) (kC (af) bk ab) (uS (show Nat.testBit 61440 18=false by decide) (kC (af) b4 ab) (show Nat.testBit 262128 16=true by decide))
  .exact sR (show Nat.testBit 4096 11=false by decide) (kC (af) f1 sn) (uS (show Nat.testBit 4096 18=false by decide) (kC (af) J sn) (show Nat.testBit 262128 13=true by decide))
  .exact uS (show Nat.testBit 240 11=false by decide) (kC (af) b3 aI) (show Nat.testBit 2032 8=true by decide)
  .exact uS (show Nat.testBit 16 11=false by decide) (kC (af) f1 sn) (show Nat.testBit 2032 5=true by decide)
  .exact sR (show Nat.testBit 4 11=false by decide) (kC (af) f1 sn) (sR (show Nat.testBit 4 18=false by decide) (kC (af) J sn) (sR (show Nat.testBit 4 21=false by decide) (kC (af) f2 sn) (uS (show Nat.testBit 4 24=false by decide) (kC (af) f3 sn) (show Nat.testBit 16777215 3=true by decide))))
  .exact sR (show Nat.testBit 1 11=false by decide) (kC (af) f1 sn) (sR (show Nat.testBit 1 18=false by decide) (kC (af) J sn) (uS (show Nat.testBit 1 21=false by decide) (kC (af) f2 sn) (show Nat.testBit 2097139 1=true by decide)))
 .simp only[bK,fK];have kZ:∀c,c≠nb->((x.h.set nb (some (.cells ([y,z,B,q,xw,xp]++h) o sz))).set nb (some (.cells ([y,z,B,q,t,xp]++h) o sz))).get c=x.h.get c:=fun c r=>by rw[dx,if_neg r,dx,if_neg r]
  refine hQ _ _ q t (fun j hj=>?_) (by show W.nx<=x.nx;omega) jh (gA.move (by show N.nx<=x.nx;omega) fun c r=>?_) (gW.move (Af _) fun c r=>?_) (fun c r=>⟨by have:=C r;omega,fun e=>by have:=C r;have:=D e;omega⟩) (fun c r=>by have:=D r;omega) fun c r h1 h2 h3=>(kZ c h1).trans (kB c r h2 h3)
  .repeat rw[bE,if_neg au]
  .have:=C r;simp only;rw[kZ c au,rW c au (fun e=>by have:=ba e;omega),M c au]
  .have:=D r;exact kZ c au
def aRR{k:Nat}(h:bN .i64 S v l)(r:k<l.length)(G:∀c,aN v=some c->Wr S c):∃b off,aN v=some b/\b<S.nx/\eY (.slice 1) v k=some (.ptr b off)/\eE (.ptr b off) false 1 S.h=some (jr (l.getD k 0))/\∀ (w:Int) (n:Nat),S.nx<=n->∃X,(∀S',S'.h=S.h->qZ (.ptr b off) 1 [jr w] S'=some (.undef,⟨X,S'.nx⟩))/\(∀c,c≠b->X.get c=S.h.get c)/\bN .i64 ⟨X,n⟩ v (l.set k w)/\∀c,aN v=some c->Wr ⟨X,n⟩ c:=by
 have C:=h.c9 r;have ld:=h.ld r;rcases h with⟨H,_⟩|⟨b,off,cap,o,cs,rfl,J,D,q,t⟩
 .rw[H] at r;simp at r
 .simp only[aA7] at C ld;have⟨cs',E,sz,F⟩:=G b rfl;have e:cs'=cs:=by
   unfold cG at q;rw[F] at q;exact Bk q
  subst e;have u:off+k * 1<cs'.length:=by
   have:=t k l[k] (Ab r);have:=(Aj.1 this).1;omega
  refine⟨b,off+k * 1,rfl,D,C,ld,fun w n K=>⟨S.h.set b (some (.cells (cs'.set (off+k * 1) (jr w)) E sz)),fun S' y=>?_,fun c z=>by rw[dx,if_neg z],?_,fun c B=>?_⟩⟩
  .have:=xY (S:=S') (b:=b) (p:=off+k * 1) (w:=jr w) (cs:=cs') (o:=E) (sz:=sz) (by rw[y];exact F) u;rw[y] at this;exact this
  .refine .inr ⟨b,off,cap,o,cs'.set (off+k * 1) (jr w),by rw[Ar],by rw[Ar];exact J,Ae D K,by unfold cG;simp only;rw[dx,if_pos rfl];rfl,fun i x hi=>?_⟩;rw[De] at hi ⊢;by_cases e:k=i
   .subst e;rw[if_pos rfl,if_pos r] at hi;cases hi;rw[if_pos au,if_pos u]
   .rw[if_neg e] at hi;rw[if_neg au];exact t i x hi
  .cases B;exact⟨_,_,_,jh⟩
def aUS(X:St)(P:Nat->Prop)(_:St)(e:bu)(a:cD):Prop:=∃xa xw xp,e= [jr a.jk,jr a.jl,jr a.jj,xa,xw,xp]/\bN .i64 X xa a.ji/\bN .i64 X xw a.jm/\bN .i64 X xp a.jn/\(∀c,(aN xa=some c\/aN xw=some c\/aN xp=some c)->P c)/\∀c,aN xa=some c->aN xw≠some c/\aN xp≠some c
def oG.isF{v:St}{P:Nat->Prop}{l:List cD}(h:oG X P cs l)(y:aFM cs l.length)(z:fC 6 v X pv l.length cs):aE 6 (aUS X P) X pv l:=by
 rcases z with⟨rfl,B,_⟩|⟨b,rfl,_,C,D,_⟩
 .exact .inl ⟨Bj.1 B,.inl rfl⟩
 .refine .inr ⟨b,0,l.length,true,cs,rfl,Af _,C,by unfold cG;rw[D];rfl,fun j a u=>?_⟩;have⟨e,E,k,xa,xw,xp,r,F,G,H,J⟩:=h.2 j a u;have t:=(Aj.1 u).1;exact⟨e,E,fun q x K=>by rw[An];exact k q x K,xa,xw,xp,r,F,G,H,J,y j t xa xw xp (k 3 xa (by rw[r];rfl)) (k 4 xw (by rw[r];rfl)) (k 5 xp (by rw[r];rfl))⟩
def xD(cs:bu)(I:List jL):Prop:=cs.length=I.length * 2/\∀ (j:Nat) (a:jL),I[j]? =some a->∀q x,[AV.int .i64 a.jl,jr a.cm][q]? =some x->cs[j * 2+q]? =some x
def xD.app{ds:bu}(h:xD cs I)(h':xD ds J):xD (cs++ds) (I++J):=by
 refine⟨by rw[Ai,h.1,h'.1,Ai,Dl],fun j a k q x l=>?_⟩;have r:q<2:=(Aj.1 l).1;by_cases e:j<I.length
 .rw[Ak e] at k;have:(j+1) * 2<=I.length * 2:=Co _ e;rw[Ak (by rw[h.1];omega)];exact h.2 j a k q x l
 .rw[Ao au] at k;have:=h'.2 _ a k q x l;rw[Ao (by rw[h.1];omega),h.1];rw[show j * 2+q - I.length * 2=(j - I.length) * 2+q by omega];exact this
def xD.is{k:St}(h:xD cs I)(l:fC 2 k X pv I.length cs):aE 2 cC X pv I:=by
 rcases l with⟨rfl,r,_⟩|⟨b,rfl,_,t,u,_⟩
 .exact .inl ⟨Bj.1 r,.inl rfl⟩
 .exact .inr ⟨b,0,I.length,true,cs,rfl,Af _,t,by unfold cG;rw[u];rfl,fun j a v=>⟨_,rfl,fun q x y=>by rw[An];exact h.2 j a v q x y,rfl⟩⟩
def aOL(h:aE 2 cC S v I):∃new,mY v=some I.length/\eS v S.h 2 I.length=some new/\xD new I:=by
 have⟨new,u,k,y⟩:=aTK az h;refine⟨new,u,k,?_,fun j a z q x B=>?_⟩
 .rcases h with⟨rfl,h|h⟩|⟨b,off,cap,o,cs,rfl,_⟩
  .subst h;have k:some []=some new:=k;cases k;rfl
  .subst h;have k:some []=some new:=k;cases k;rfl
  .have k:bD (cG S.h b) (fun cs=>cut cs off (I.length * 2))=some new:=k;have⟨cs',C,l⟩:=aO k;unfold cut at l;rw[iA,iG] at l;split at l
   .rename_i r;cases l;rw[Cz] at r;rw[Bx,Cz];omega
   .cases l
 .have⟨e,C,l,t⟩:=y j a z;have t:e= [jr a.jl,jr a.cm]:=t;subst t;exact l q x B
def aL3{x:AV}(h:fC 2 S0 S v I.length cs)(q:xD cs I)(u:jq S0 S)(y:aE 2 cC S x J)(K:I.length+J.length<=1000000):∃v' S' cs',gQ 16 2 v x S=some (v',S')/\fC 2 S0 S' v' (I++J).length cs'/\xD cs' (I++J)/\S.nx<=S'.nx/\(∀c,c<S.nx->aN v≠some c->S'.h.get c=S.h.get c)/\∀c,aN v'=some c->aN v=some c\/S.nx<=c:=by
 have⟨new,r,t,l⟩:=aOL y;rcases Cb J.length with z|B
 .have C:J= []:=Bj.1 z;subst C;have D:new= []:=Bj.1 (by rw[l.1];rfl);subst D;rw[Bs];refine⟨v,S,cs,?_,h,q,Af _,fun _ _ _=>rfl,fun c k=>.inl k⟩;unfold gQ;rw[r,aH,t,aH];rcases h with⟨rfl,_⟩|⟨b,rfl,_,_,_,_⟩
  .rfl
  .show lP 16 2 b 0 I.length I.length true 0 [] S=_;unfold lP;rw[Bw,Al (Af _),aL];rfl
 .have⟨v',S',E,F,_,G,H,a6⟩:=fC.appB (bytes:=16) h u r t (by rw[l.1]) B ay ay;exact⟨v',S',cs++new,E,by rw[Ai];exact F,q.app l,G,H,fun c k=>.inr (by rw[a6] at k;cases k;exact Af _)⟩
structure TwB(S5 X:St)(gb nb n:Nat)(o:Bool)(sz:Nat)(ps:Int)(xa xw iv:AV)(cs ics:bu)(A W:bt)(L:List cD)(I:List jL):Prop where
 jo:jq S5 X
 lg:S5.nx<=gb/\gb<X.nx
 lb:S5.nx<=nb/\nb<X.nx
 g:X.h.get gb=some (.cells [.int .i64 ps,.sl nb 0 n n o,iv] false 0)
 b:X.h.get nb=some (.cells ([.int .i64 1,.int .i64 0,.int .i64 0,xa,xw,.cr]++cs) o sz)
 hn:n=L.length+1
 osz:o=true->sz=6
 nod:oG X (fun c=>S5.nx<=c/\c≠gb/\c≠nb/\aN xa≠some c/\aN xw≠some c/\aN iv≠some c) cs L
 gxa:fC 1 S5 X xa A.length (aQ A)
 gxw:fC 1 S5 X xw W.length (aQ W)
 giv:fC 2 S5 X iv I.length ics
 inf:xD ics I
 dgb:gb≠nb
 da:aN xa≠some gb/\aN xa≠some nb
 dw:aN xw≠some gb/\aN xw≠some nb
 di:aN iv≠some gb/\aN iv≠some nb
 daw:∀c,aN xa=some c->aN xw≠some c/\aN iv≠some c
 dwi:∀c,aN xw=some c->aN iv≠some c
section
variable {S5 X Z:St}{gb nb n sz:Nat}{o:Bool}{ps w:Int}{xa xw iv:AV}{cs ics:bu}{A W:bt}{L:List cD}{I:List jL}
def TwB.step(h:TwB S5 X gb nb n o sz ps xa xw iv cs ics A W L I)(hn:X.nx<=Z.nx)(l:∀c,c<X.nx->S5.nx<=c->Z.h.get c=X.h.get c)(r:jq S5 Z):TwB S5 Z gb nb n o sz ps xa xw iv cs ics A W L I where
 jo:=r
 lg:=⟨h.lg.1,Ae h.lg.2 hn⟩
 lb:=⟨h.lb.1,Ae h.lb.2 hn⟩
 g:=(l _ h.lg.2 h.lg.1).trans h.g
 b:=(l _ h.lb.2 h.lb.1).trans h.b
 hn:=h.hn
 osz:=h.osz
 nod:=h.nod.move hn fun c k q=>⟨l c k q.1,q⟩
 gxa:=h.gxa.move hn fun c k=>l c (h.gxa.blk k).2.1 (h.gxa.blk k).1
 gxw:=h.gxw.move hn fun c k=>l c (h.gxw.blk k).2.1 (h.gxw.blk k).1
 giv:=h.giv.move hn fun c k=>l c (h.giv.blk k).2.1 (h.giv.blk k).1
 inf:=h.inf
 dgb:=h.dgb
 da:=h.da
 dw:=h.dw
 di:=h.di
 daw:=h.daw
 dwi:=h.dwi
def TwB.sm(h:TwB S5 X gb nb n o sz ps xa xw iv cs ics A W L I)(k:jq X Z):TwB S5 Z gb nb n o sz ps xa xw iv cs ics A W L I:=h.step k.1 (fun c l _=>k.2 c l) (h.jo.trans k)
def TwB.root{q l:AV}(h:TwB S5 X gb nb n o sz ps xa xw iv cs ics A W L I)(hn:X.nx<=Z.nx)(z:Z.h.get nb=some (.cells ([jr 1,jr 0,jr 0,q,l,.cr]++cs) o sz))(B:fC 1 S5 Z q (A++ [w]).length (aQ (A++ [w])))(C:fC 1 S5 Z l (W++ [1]).length (aQ (W++ [1])))(u:∀c,aN q=some c->X.nx<=c/\aN l≠some c)(y:∀c,aN l=some c->X.nx<=c)(t:∀c,c<X.nx->c≠nb->aN xa≠some c->aN xw≠some c->Z.h.get c=X.h.get c):TwB S5 Z gb nb n o sz ps q l iv cs ics (A++ [w]) (W++ [1]) L I:=by
 have lg:=h.lg;have lb:=h.lb;have v:∀ {c},c<X.nx->aN q≠some c:=fun k e=>by have:=(u _ e).1;omega
 have x:∀ {c},c<X.nx->aN l≠some c:=fun k e=>by have:=y _ e;omega
 exact {
  jo:=⟨Aq h.jo.1 hn,fun c k=>by
   have D:=h.jo.1;rw[t c au au  (fun e=>by have:=(h.gxa.blk e).1;omega) (fun e=>by have:=(h.gxw.blk e).1;omega)];exact h.jo.2 c k⟩
  lg:=⟨lg.1,au⟩
  lb:=⟨lb.1,au⟩
  g:=(t gb lg.2 h.dgb h.da.1 h.dw.1).trans h.g
  b:=z
  hn:=h.hn
  osz:=h.osz
  nod:=h.nod.move hn fun c k r=>⟨t c k r.2.2.1 r.2.2.2.1 r.2.2.2.2.1,r.1,r.2.1,r.2.2.1,v k,x k,r.2.2.2.2.2⟩
  gxa:=B
  gxw:=C
  giv:=h.giv.move hn fun c k=>t c (h.giv.blk k).2.1 (fun e=>h.di.2 (by rw[k,e])) (fun e=>(h.daw c e).2 k) fun e=>h.dwi c e k
  inf:=h.inf
  dgb:=h.dgb
  da:=⟨v lg.2,v lb.2⟩
  dw:=⟨x lg.2,x lb.2⟩
  di:=h.di
  daw:=fun c k=>⟨(u c k).2,fun e=>by have:=(h.giv.blk e).2.1;have:=(u c k).1;omega⟩
  dwi:=fun c k e=>by have:=(h.giv.blk e).2.1;have:=y c k;omega}
def TwB.jj{l:AV}{q:bu}(h:TwB S5 X gb nb n o sz ps xa xw iv cs ics A W L I)(hn:X.nx<=Z.nx)(z:fC 2 S5 Z l J.length q)(hi:xD q J)(B:∀c,c<X.nx->aN iv≠some c->Z.h.get c=X.h.get c)(C:∀c,aN l=some c->aN iv=some c\/X.nx<=c):TwB S5 ⟨Z.h.set gb (js [jr ps,.sl nb 0 n n o,l]),Z.nx⟩ gb nb n o sz ps xa xw l cs q A W L J:=by
 have lg:=h.lg;have lb:=h.lb;have u:∀c,c<X.nx->c≠gb->aN iv≠some c->(Z.h.set gb (js [jr ps,.sl nb 0 n n o,l])).get c=X.h.get c:=fun c k x v=>by rw[dx,if_neg x];exact B c k v
 have t:∀ {c},c<X.nx->aN iv≠some c->aN l≠some c:=fun k x e=>by
  rcases C _ e with v|v
  .exact x v
  .omega
 have y:∀ {c},aN iv=some c->S5.nx<=c:=fun k=>(h.giv.blk k).1;exact {
  jo:=⟨Aq h.jo.1 hn,fun c k=>by
   have D:=h.jo.1;simp only;rw[u c au au  (fun e=>by have:=y e;omega)];exact h.jo.2 c k⟩
  lg:=⟨lg.1,by show gb<Z.nx;omega⟩
  lb:=⟨lb.1,by show nb<Z.nx;omega⟩
  g:=by simp only;rw[dx,if_pos rfl]
  b:=(u nb lb.2 h.dgb.symm h.di.2).trans h.b
  hn:=h.hn
  osz:=h.osz
  nod:=h.nod.move hn fun c k r=>⟨u c k r.2.1 r.2.2.2.2.2,r.1,r.2.1,r.2.2.1,r.2.2.2.1,r.2.2.2.2.1,t k r.2.2.2.2.2⟩
  gxa:=h.gxa.move hn fun c k=>u c (h.gxa.blk k).2.1 (fun e=>h.da.1 (by rw[k,e])) (h.daw c k).2
  gxw:=h.gxw.move hn fun c k=>u c (h.gxw.blk k).2.1 (fun e=>h.dw.1 (by rw[k,e])) (h.dwi c k)
  giv:=z.move (Af _) fun c k=>by
   simp only;rw[dx,if_neg (fun e=>t lg.2 h.di.1 (by rw[k,e]))]
  inf:=hi
  dgb:=h.dgb
  da:=h.da
  dw:=h.dw
  di:=⟨t lg.2 h.di.1,t lb.2 h.di.2⟩
  daw:=fun c k=>⟨(h.daw c k).1,t (h.gxa.blk k).2.1 (h.daw c k).2⟩
  dwi:=fun c k=>t (h.gxw.blk k).2.1 (h.dwi c k)}
def aLM{bytes:Nat}{new:bu}(q:S.h.get nb=some (.cells cs o sz))(z:cs.length=n * 6)(k:o=true->sz=6)(B:S.h.get t=js new)(C:new.length=6)(r:n+1<=room)(u:(n+1) * bytes<=room):∃S',gQ bytes 6 (.sl nb 0 n n o) (.sl t 0 1 1 false) S=some (.sl S.nx 0 (n+1) (n+1) true,S')/\S'.nx=S.nx+1/\S'.h.get S.nx=some (.cells (cs++new) true 6)/\∀c,c<S.nx->c≠nb->S'.h.get c=S.h.get c:=by
 have v:=aKk (n:=6) B C;have x:Nat.ble (n+1) n=false:=by rw[Ck];intro h;have:=Bd h;omega
 have y:cut cs 0 (n * 6)=some cs:=by
  unfold cut;rw[iA,iG,Di,if_pos au,Bh au]
 cases o with
 | false=>
  refine⟨⟨S.h.set S.nx (some (.cells (cs++new) true 6)),S.nx+1⟩,?_,rfl,jh,fun c D _=>by simp only;rw[dx,if_neg au]⟩;show(bD (some 1) fun j=>bD (eS (.sl t 0 1 1 false) S.h 6 j) fun new=>aAz (.sl nb 0 n n false) bytes 6 j new S)=_;rw[aH,v,aH];show lP bytes 6 nb 0 n n false 1 new S=_;unfold lP;rw[x,aR,Al r,aL,Al u,aL,q,aH];simp only[xJ,y,aH,aR,grown,fT]
 | true=>
  have E:=k rfl;subst E;refine⟨⟨(S.h.set nb none).set S.nx (some (.cells (cs++new) true 6)),S.nx+1⟩,?_,rfl,jh,fun c D l=>by simp only;rw[dx,if_neg au,dx,if_neg l]⟩;show(bD (some 1) fun j=>bD (eS (.sl t 0 1 1 false) S.h 6 j) fun new=>aAz (.sl nb 0 n n true) bytes 6 j new S)=_;rw[aH,v,aH];show lP bytes 6 nb 0 n n true 1 new S=_;unfold lP;have F:Nat.beq (0+n * 6) (mF cs)=true:=by rw[gJ,z,Bn];omega
  have G:Nat.beq 6 6=true:=Fx 6;rw[x,aR,Al r,aL,Al u,aL,q,aH];simp only[xJ,y,aH,aL,F,G,grown,fT]
def TwB.push{e:bu}{a:cD}{m:Nat}(h:TwB S5 X gb nb n o sz ps xa xw iv cs ics A W L I)(hn:X.nx<=m)(v:m<Z.nx)(x:aBs Z (fun c=>S5.nx<=c/\c≠gb/\c<m/\aN xa≠some c/\aN xw≠some c/\aN iv≠some c) e a)(y:Z.h.get m=some (.cells (([jr 1,jr 0,jr 0,xa,xw,.cr]++cs)++e) true 6))(z:∀c,c<X.nx->c≠nb->Z.h.get c=X.h.get c):TwB S5 ⟨Z.h.set gb (js [jr ps,.sl m 0 (n+1) (n+1) true,iv]),Z.nx⟩ gb m (n+1) true 6 ps xa xw iv (cs++e) ics A W (L++ [a]) I:=by
 have lg:=h.lg;have lb:=h.lb;have q:∀c,c<X.nx->c≠gb->c≠nb->(Z.h.set gb (js [jr ps,.sl m 0 (n+1) (n+1) true,iv])).get c=X.h.get c:=fun c k B C=>by rw[dx,if_neg B];exact z c k C
 have r:∀ {c},aN xa=some c->c<X.nx:=fun k=>(h.gxa.blk k).2.1;have t:∀ {c},aN xw=some c->c<X.nx:=fun k=>(h.gxw.blk k).2.1;have u:∀ {c},aN iv=some c->c<X.nx:=fun k=>(h.giv.blk k).2.1;exact {
  jo:=⟨by have:=h.jo.1;show S5.nx<=Z.nx;omega,fun c k=>by
   have D:=h.jo.1;simp only;rw[q c au au au];exact h.jo.2 c k⟩
  lg:=⟨lg.1,by show gb<Z.nx;omega⟩
  lb:=⟨ax h.jo.1,v⟩
  g:=by simp only;rw[dx,if_pos rfl]
  b:=by
   simp only;rw[dx,if_neg au,y,Bg]
  hn:=by rw[h.hn,Ai];rfl
  osz:=fun _=>rfl
  nod:=oG.push (h.nod.move (by show X.nx<=Z.nx;omega) fun c k l=>⟨q c k l.2.1 l.2.2.1,l.1,l.2.1,au,l.2.2.2⟩) (x.move (Af _) fun c _ l=>⟨by simp only;rw[dx,if_neg l.2.1],l.1,l.2.1,ax l.2.2.1,l.2.2.2⟩)
  gxa:=h.gxa.move (by show X.nx<=Z.nx;omega) fun c k=>q c (r k) (fun e=>h.da.1 (by rw[k,e])) (fun e=>h.da.2 (by rw[k,e]))
  gxw:=h.gxw.move (by show X.nx<=Z.nx;omega) fun c k=>q c (t k) (fun e=>h.dw.1 (by rw[k,e])) (fun e=>h.dw.2 (by rw[k,e]))
  giv:=h.giv.move (by show X.nx<=Z.nx;omega) fun c k=>q c (u k) (fun e=>h.di.1 (by rw[k,e])) (fun e=>h.di.2 (by rw[k,e]))
  inf:=h.inf
  dgb:=by omega
  da:=⟨h.da.1,fun e=>by have:=r e;omega⟩
  dw:=⟨h.dw.1,fun e=>by have:=t e;omega⟩
  di:=⟨h.di.1,fun e=>by have:=u e;omega⟩
  daw:=h.daw
  dwi:=h.dwi}
def TwB.ce(h:TwB S5 X gb nb n o sz ps xa xw iv cs ics A W L I):aE 6 bT X (.sl nb 0 n n o) (⟨1,0,0,A,W,[]⟩::L):=by
 have v:n=(⟨1,0,0,A,W,[]⟩::L:List cD).length:=by rw[Aw];exact h.hn
 refine .inr ⟨nb,0,n,o,_,by rw[<-v],au,h.lb.2,by unfold cG;rw[h.b];rfl,fun j a k=>?_⟩;cases j with
 | zero=>
  cases k;refine⟨[jr 1,jr 0,jr 0,xa,xw,.cr],rfl,fun q x l=>?_,xa,xw,.cr,rfl,h.gxa.is,h.gxw.is,.inl ⟨rfl,.inl rfl⟩⟩;have:=(Aj.1 l).1;rw[show 0+0 * 6+q=q by omega,Ak this];exact l
 | succ j=>
  have k:L[j]? =some a:=k;have⟨e,y,z,r,t,u,B,C,D,E,_⟩:=h.nod.2 j a k;refine⟨e,y,fun q x l=>?_,r,t,u,B,C,D,E⟩;have:=z q x l;rw[Ao (by show 6<=_;omega)];show cs[0+(j+1) * 6+q - 6]? =some x;rw[show 0+(j+1) * 6+q - 6=j * 6+q by omega];exact this
end
noncomputable def aT7:List AO:=[oq 102 (.dd 3 (.t 20)),
om 103 1 (ld 102),
mt 104 21,
oq 105 (.dd 3 (.t 20)),
om 106 8 (ld 105),
mt 107 21,
om 108 56 (.c9 (.slice 1) (.t 106) (.t 107)),
om 109 120 (ld 108),
mt 110 18,
om 111 504 (bi .add (.t 109) (.t 110)),
om 112 1023 (.c9 (.slice 1) (.t 103) (.t 104))]
noncomputable def aSn:AC:=qk8
def ShI(X:St)(h:Fr)(xb:Nat)(v:AV)(cells:bu)(l:bt)(f:Int)(k:Nat)(A:bO)(Z:St):Prop:=A.inr=false/\X.nx<=Z.nx/\(∀c,c<X.nx->aN v≠some c->Z.h.get c=X.h.get c)/\Z.h.get xb=js cells/\∃ (i:Nat) (l':bt),i+k=l.length/\l'.length=l.length/\(∀j,j<l.length->l'.getD j 0=if j<i then l.getD j 0+f else l.getD j 0)/\bN .i64 Z v l'/\(∀c,aN v=some c->Wr Z c)/\(∀j,j<21->aA j A.F=aA j h)/\aA 21 A.F=jr (i:Int)
def aRe{G H J:AV}{f:Int}(q:bN .i64 X v l)(u:∀c,aN v=some c->Wr X c)(r:X.h.get xb=js [G,H,J,v,xw,xp])(M:aN v≠some xb)(hl:l.length<=1000)(hb:∀j,j<l.length->0<=l.getD j 0/\l.getD j 0<=100000)(hf:0<=f/\f<=100000)(N:aA 18 F=jr f)(O:aA 20 F= .ptr xb 0)(h:aA 21 F=jr 0):
  jN fns aSn ⟨F,false⟩ X fun o A Z=>o= .normal/\ShI X F xb v [G,H,J,v,xw,xp] l f 0 A Z:=by
 unfold aSn;refine aJ (bL (ShI X F xb v [G,H,J,v,xw,xp] l f) ?_ l.length _ _ ⟨rfl,Af _,fun _ _ _=>rfl,r,0,l,au,rfl,fun j t=>by rw[if_neg au],q,u,fun _ _=>rfl,h⟩);rintro k ⟨F',inr⟩ Z ⟨rfl,nZ,kZ,r,i,l',Q,y,R,q,u,z,h⟩;simp only at z h;have U:=(z 18 au).trans N;have B:=(z 20 au).trans O;refine fZ (ef B h (dD r) q.len @Ag ?_);by_cases C:i<l.length;rotate_left
 .refine aK i7 (bH ?_);refine ae ?_;obtain rfl:k=0:=by omega
  refine⟨rfl,nZ,kZ,r,i,l',Q,y,R,q,u,fun j t=>?_,ah h⟩
  repeat rw[bE,if_neg au]
  exact z j t
 refine aM i7 (aG ?_);refine ae ?_
 have w1:=du i
 have D:=R i C;rw[if_neg au] at D;have ab:=hb i C;have w2:IntKind.i64.wrap (l'.getD i 0+f)=l.getD i 0+f:=by rw[D];exact wrap_i64 au au
 have⟨b,off,e1,V,e3,e4,e5⟩:=aRR q (k:=i) au u;have⟨Xh,x1,x2,x3,x4⟩:=e5 (l.getD i 0+f) (Z.nx+12) au;have Y:=bN.self q;have aa:b≠xb:=fun e=>M (by rw[e1,e]);refine aB (aJ (qL (pre:=aT7) (K:=11) (m:=2047) (n:=1) (x:=.t 112) (v:=.t 111) rfl rfl rfl rfl ?_));unfold aT7;simp only[↓sU,sD,rE,↓reduceIte,rA,U,B,h,dD r,Y,e3,e4,w2];simp only[cF,aH];refine⟨_,x1 ⟨Z.h,Z.nx+12⟩ rfl,?_⟩;refine ae ?_
 refine aF (dz h w1 ?_);refine⟨k - 1,au,rfl,by show X.nx<=Z.nx+12;omega,fun c hc E=>(x2 c (fun e=>E (by rw[e1,e]))).trans (kZ c hc E),(x2 xb aa.symm).trans r,i+1,l'.set i (l.getD i 0+f),au,by rw[Ar];exact y,fun j t=>?_,x3,x4,fun j t=>?_,af⟩
 .rw[eJ au];by_cases e:j=i
  .rw[if_pos e,if_pos au,e]
  .rw[if_neg e,R j t];by_cases V:j<i
   .rw[if_pos V,if_pos au]
   .rw[if_neg V,if_neg au]
 .repeat rw[bE,if_neg au]
  exact z j t
def aSl{l':bt}{f:Int}(k:l'.length=l.length)(h:∀j,j<l.length->l'.getD j 0=if j<l.length then l.getD j 0+f else l.getD j 0):l'=l.map (· +f):=oP (by rw[k,Av]) fun j q=>by
 rw[h j au,if_pos au,aO1 au]
structure TwT(F:Fr)(rb B gb n m cp:Nat)(seen:Bool)(c:Nat):Prop where
 t3:aA 3 F= .int .i64 (cp:Int)
 t4:aA 4 F= .bool seen
 t12:aA 12 F= .ptr rb 0
 t13:aA 13 F= .ptr B 0
 t14:aA 14 F= .int .i64 (n:Int)
 t15:aA 15 F= .int .i64 (m:Int)
 t16:aA 16 F= .ptr gb 0
 t17:aA 17 F= .int .i64 (c:Int)
def TwT.of{F':Fr}{m:Nat}{seen:Bool}(h:TwT F rb B gb n m cp seen c)(k:∀j,j<18->aA j F'=aA j F):TwT F' rb B gb n m cp seen c:=
 ⟨(k 3 au).trans h.t3,(k 4 au).trans h.t4,(k 12 au).trans h.t12,(k 13 au).trans h.t13,(k 14 au).trans h.t14,(k 15 au).trans h.t15,(k 16 au).trans h.t16,(k 17 au).trans h.t17⟩
noncomputable def aRI:AC:=(.block 2 (.loop (.seq (.seq (.reg [mt 84 19,
mt 85 14,
oq 86 (bi .lss (.t 84) (.t 85))])
(.cond (.t 86) .skip (.exit 2)))
(.seq (.block 3 (.seq (.reg [oq 89 (.ld true 3 (.t 13)),
oc 90 44 [(.t 89)] 0,
oq 91 (.fld false 1 1 (.t 90)),
mt 92 19,
oq 93 (.c9 (.slice 6) (.t 91) (.t 92)),
oq 94 (.ld true 6 (.t 93)),
⟨(some 20),(.a (.alloc 84 [(.int .i64 (.ofNat 0)),(.int .i64 (.ofNat 0)),(.int .i64 (.ofNat 0)),.cr,.cr,.cr])),none,0⟩,
⟨none,(.x (.st 6 (.t 20) (.t 94))),none,0⟩])
(.seq (.seq (.reg [oq 21 (.mv (ci 0))])
aSn)
(.seq (.seq (.reg [oq 113 (.dd 0 (.t 20)),
oq 114 (ld 113),
oq 115 (bi .eql (.t 114) (ci 2)),
mt 116 115,
og 117 116 true 0 (.mv (.t 4)),
oq 118 (.pick (.t 116) (.t 117) (.c (.bool false)))])
(.cond (.t 118) (.reg [oq 119 (.dd 2 (.t 20)),
oq 120 (ld 119),
mt 121 17,
mt 122 15,
oq 123 (bi .mul (.t 121) (.t 122)),
oq 124 (bi .add (.t 120) (.t 123)),
oq 125 (.dd 2 (.t 20)),
⟨none,(.x (.st 1 (.t 125) (.t 124))),none,0⟩]) .skip))
(.reg [oq 126 (.dd 1 (.t 16)),
oq 127 (ld 126),
oq 128 (.ld true 6 (.t 20)),
⟨(some 129),(.a (.c7 84 6 1 [(.int .i64 (.ofNat 0)),(.int .i64 (.ofNat 0)),(.int .i64 (.ofNat 0)),.cr,.cr,.cr] [(0,(.t 128))])),none,0⟩,
⟨(some 130),(.x (.app 84 6 96 (.t 127) (.t 129))),none,0⟩,
oq 131 (.dd 1 (.t 16)),
⟨none,(.x (.st 1 (.t 131) (.t 130))),none,0⟩])))))
(.reg [mt 87 19,
oq 88 (bi .add (.t 87) (ci 1)),
mt 19 88])))))
def LmI(S5:St)(rb B gb cp:Nat)(one:aP)(seen:Bool)(c:Nat)(k:Nat)(A:bO)(X:St):Prop:=A.inr=false/\∃ (i nb h sz:Nat) (o:Bool) (xa xw iv:AV) (cs ics:bu),i+k=one.ce.length/\TwB S5 X gb nb h o sz one.ch xa xw iv cs ics (rY one.ce.length (c+1)) (List.replicate (c+1) 1) (oF one seen c++(tQ one seen c).take i) (kJ one seen (c+1))/\TwT A.F rb B gb one.ce.length one.cg.length cp seen c/\aA 18 A.F=jr ((1+c * one.ce.length:Nat):Int)/\aA 19 A.F=jr (i:Int)
def aPu(h:cR g=0):aS6 g:=by
 have G:=gR h;refine⟨ax G.ni,fun x l=>?_⟩;obtain⟨j,k,rfl⟩:=Dj.1 l;have e:ct g j=g.ce[j]:=aA3 (Ab k);have a:=G.nxt j k;have b:=aN6 (aJu h k);have c:=G.jn j k;rw[e] at a b c;omega
def aMH{one:aP}{seen:Bool}(hi:i<one.ce.length):(tQ one seen c).take (i+1)=(tQ one seen c).take i++ [shN ((1+c * one.ce.length:Nat):Int) ((pN one seen c:Nat):Int) (ct one i)]:=by
 have:(tQ one seen c)[i]? =some (shN ((1+c * one.ce.length:Nat):Int) ((pN one seen c:Nat):Int) (ct one i)):=by
  unfold tQ;rw[Ba,cU hi];rfl
 rw[Cc,this];rfl
def aRq{one:aP}{seen:Bool}{aw aI:AV}(H:Has fns)(C:aC8 one)(N:c<3)(hn:aE 6 bT S5 aw one.ce)(hi:aE 2 cC S5 aI one.cg)(gB:S5.h.get B=js [jr one.ch,aw,aI])(lB:B<S5.nx)(h0:LmI S5 rb B gb cp one seen c one.ce.length ⟨F,false⟩ X):
  jN fns aRI ⟨F,false⟩ X fun o A Z=>o= .normal/\LmI S5 rb B gb cp one seen c 0 A Z:=by
 have D:=C.form;have G:=gR D;have aV:=C.n2;have aZ:one.cg.length<=60:=by have:=C.ord.le;rw[Av] at this;omega
 have b3:c * one.ce.length<=2 * 60:=Dx au aV;have b6:c * one.cg.length<=2 * 60:=Dx au aZ;have a0:(oF one seen c).length=c * one.ce.length:=rR;unfold aRI;refine aJ (bL (LmI S5 rb B gb cp one seen c) ?_ one.ce.length _ _ h0);rintro k ⟨F,inr⟩ X ⟨rfl,i,nb,O,sz,o,xa,xw,iv,cs,ics,bq,J,hT,R,K⟩;simp only at hT R K;refine fZ (dz hT.t14 K ?_);by_cases x:i<one.ce.length;rotate_left
 .refine aK i7 (bH ?_);refine ae ?_;obtain rfl:k=0:=by omega
  refine⟨rfl,i,nb,O,sz,o,xa,xw,iv,cs,ics,bq,J,hT.of fun j hj=>?_,ah R,ah K⟩
  repeat rw[bE,if_neg au]
 refine aM i7 (aG ?_);refine ae ?_
 have w1:=du i
 have nX:=J.jo.1;have bs:=(J.jo.2 B lB).trans gB;have bw:(oF one seen c++(tQ one seen c).take i).length<=1000:=by
  rw[Ai,a0,Bx,zS];omega
 refine aB (aJ (aB (aF ?_)));refine gh hT.t13 (gE bs) ?_;refine bJ (am ?_);refine aW (aLS H (aE.jo (E:=bT) bF hn J.jo) (aE.jo (E:=cC) bQ hi J.jo) (aPu D) au) ?_;rintro _ Y ⟨hY,mv,jv,nz,ds,rfl,b8,gM,bM,dM,_⟩;have hF:=bM.isF dM gM;obtain⟨e,be,pe,bx,b',_,⟨u,r,t,rfl,a1,a2,a4,hP,a5⟩,bz,_⟩:=aE.at hF az (cU x);have bA:aJD (.agg [jr one.ch,mv,jv]) false 1 1=some mv:=rfl;refine gy bA K @aY bx bz ?_;apply cB;intro W1 v1 k1 h1
 refine dB (b:=Y.nx) (aq) (by refine am ?_;exact bB _) h1 rfl rfl ?_;intro Y2 v2 k2 h2;refine am ?_;have sY:jq Y Y2:=v2.jo v1 (Af _);have bC:=hY.trans sY;have nY:=hY.1;have ca:=sY.1;have cc:Y.nx<Y2.nx:=by omega
 have U:∀ {c},aN u=some c->c<Y.nx:=fun N=>dK a1 N;have ab:∀ {c},aN r=some c->c<Y.nx:=fun N=>dK a2 N;have ac:∀ {c},aN t=some c->c<Y.nx:=fun N=>dK a4 N;have bI:=G.nxt i x;refine fZ (ae ?_);refine aX (aRe (X:=Y2) (xb:=Y.nx) (v:=u) (xw:=r) (xp:=t) (l:=(ct one i).ji) (f:=((1+c * one.ce.length:Nat):Int)) (a1.jo sY) (fun b h=>(hP b (.inl h)).2.2.eq (sY.2 b (U h))) h2 (fun e=>by have:=U e;omega) bI (fun j hj=>by have:=G.kids i x j hj;omega) au (ah R) (af) (ag)) ?_;rintro o' ⟨F2,inr⟩ Z ⟨rfl,rfl,nZ,kZ,hx,i',l',b2,ba,bb,bP,_,hk,_⟩;simp only at hk;obtain rfl:i'=(ct one i).ji.length:=by omega
 obtain rfl:=aSl ba bb;have T2:TwT F2 rb B gb one.ce.length one.cg.length cp seen c:=hT.of fun j hj=>by
  rw[hk j au]
  repeat rw[bE,if_neg au]
 have an:aA 18 F2=jr ((1+c * one.ce.length:Nat):Int):=(hk 18 au).trans (ah R);have ao:aA 19 F2=jr (i:Int):=(hk 19 au).trans (ah K);have y:aA 20 F2= .ptr Y.nx 0:=(hk 20 au).trans (af);have bR:∀b,b<X.nx->Z.h.get b=X.h.get b:=fun b h=>by
  rw[kZ b au (fun e=>by have:=(hP b (.inl e)).1;omega)];exact bC.2 b h
 have bU:bN .i64 Z r (ct one i).jm:=eH (a2.jo sY) nZ fun b h=>kZ b (by have:=ab h;omega) fun e=>(a5 b e).1 h;have bW:bN .i64 Z t (ct one i).jn:=eH (a4.jo sY) nZ fun b h=>kZ b (by have:=ac h;omega) fun e=>(a5 b e).2 h;have bd:(ct one i).jk=2->0<=(ct one i).jj/\(ct one i).jj<one.cg.length:=fun hk=>⟨(G.inf i x hk).1,(G.inf i x hk).2.1⟩;refine ae ?_
 refine aB (aX (Q:=fun o A' Z'=>o= .normal/\A'.inr=false/\Z'.nx=Z.nx/\(∀b,b≠Y.nx->Z'.h.get b=Z.h.get b)/\Z'.h.get Y.nx=js [jr (ct one i).jk,jr (ct one i).jl,jr (shN ((1+c * one.ce.length:Nat):Int) ((pN one seen c:Nat):Int) (ct one i)).jj,u,r,t]/\TwT A'.F rb B gb one.ce.length one.cg.length cp seen c/\aA 18 A'.F=jr ((1+c * one.ce.length:Nat):Int)/\aA 19 A'.F=jr (i:Int)/\aA 20 A'.F= .ptr Y.nx 0) (aB (aF ?_)) ?_)
 .have t4:=T2.t4;by_cases M:(ct one i).jk=2
  .refine ec y t4 (fF hx) (Ac M) ?_;have q:(shN ((1+c * one.ce.length:Nat):Int) ((pN one seen c:Nat):Int) (ct one i)).jj=(ct one i).jj+((pN one seen c:Nat):Int):=by
    show(if(ct one i).jk=2 then _ else _)=_;rw[if_pos M]
   have⟨i1,i2⟩:=bd M;cases hs:seen with
   | true=>
    refine aM (ag) ?_;have eo:pN one true c=c * one.cg.length:=by unfold pN;rw[if_pos rfl]
    have w2:IntKind.i64.wrap ((c:Int) * (one.cg.length:Int))=((c * one.cg.length:Nat):Int):=by rw[<-Fi];exact wrap_i64 au au
    have w3:IntKind.i64.wrap ((ct one i).jj+((c * one.cg.length:Nat):Int))=(ct one i).jj+((c * one.cg.length:Nat):Int):=wrap_i64 au au;rw[hs,eo] at q;refine aF (eu y T2.t15 T2.t17 (dI hx) w2 w3 ?_);refine eK (v:=.undef) (S1:=⟨Z.h.set Y.nx (js [jr (ct one i).jk,jr (ct one i).jl,jr ((ct one i).jj+((c * one.cg.length:Nat):Int)),u,r,t]),Z.nx⟩) (fun call=>by refine dz @dE @cF ?_;exact xY (cs:=[jr (ct one i).jk,jr (ct one i).jl,jr (ct one i).jj,u,r,t]) (p:=2) hx (by simp)) ?_;refine ae ?_;refine⟨fun b h=>by rw[dx,if_neg h],by rw[dx,if_pos rfl,eo,q],?_,an,ao,y⟩;rw[<-hs];exact T2.of fun j hj=>by repeat rw[bE,if_neg au]
   | false=>
    refine aK (ag) (aG ?_);have eo:pN one false c=0:=by unfold pN;rw[if_neg az]
    rw[hs,eo] at q;refine ae ?_;refine⟨fun _ _=>by trivial,?_,?_,an,ao,y⟩
    .rw[eo,q,hx];show some (AB.cells [_,_,AV.int .i64 (ct one i).jj,_,_,_] _ _)=some (AB.cells [_,_,AV.int .i64 ((ct one i).jj+((0:Nat):Int)),_,_,_] _ _);rw[show(ct one i).jj+((0:Nat):Int)=(ct one i).jj by omega]
    .rw[<-hs];exact T2.of fun j hj=>by repeat rw[bE,if_neg au]
  .refine ec y t4 (fF hx) (Aa M) ?_;refine aK (ag) (aG ?_);have q:(shN ((1+c * one.ce.length:Nat):Int) ((pN one seen c:Nat):Int) (ct one i)).jj=(ct one i).jj:=by
    show(if(ct one i).jk=2 then _ else _)=_;rw[if_neg M]
   refine ae ?_;refine⟨fun _ _=>by trivial,by rw[q];exact hx,T2.of fun j hj=>by repeat rw[bE,if_neg au],an,ao,y⟩
 rintro o' ⟨F3,inr⟩ Z' ⟨rfl,rfl,cf,aa,bY,T3,bj,bk,bm⟩;simp only at T3 bj bk bm;have bZ:jq X Z':=⟨au,fun c N=>(aa c au).trans (bR c N)⟩;have z:=J;have J:=J.sm bZ;have bp:=J.hn;rw[Ai,a0,Bx,zS,Nat.min_eq_left au] at bp;have b0:aBs Z' (fun c=>X.nx<=c/\c<Z'.nx) [jr (ct one i).jk,jr (ct one i).jl,jr (shN ((1+c * one.ce.length:Nat):Int) ((pN one seen c:Nat):Int) (ct one i)).jj,u,r,t] (shN ((1+c * one.ce.length:Nat):Int) ((pN one seen c:Nat):Int) (ct one i)):=
  ⟨u,r,t,rfl,eH bP au fun b h=>aa b (by have:=U h;omega),eH bU au fun b h=>aa b (by have:=ab h;omega),eH bW au fun b h=>aa b (by have:=ac h;omega),fun b h=>by
   have h1:=(hP b h).1;rcases h with h|h|h
   .have:=U h;omega
   .have:=ab h;omega
   .have:=ac h;omega⟩
 apply aF;refine ie bm T3.t16 @aU @aT (fN J.g) (mA (n:=6) bY rfl) ?_;refine fQ (aFo (ag)) ?_;intro W wS wn wb
 have hW:=J.sm wS;have b1:=b0.move (P':=fun c=>X.nx<=c/\c<Z'.nx) wS.1 fun c N hp=>⟨wS.2 c N,hp⟩;have⟨V,eA,nV,bV,kV⟩:=aLM (n:=O) (bytes:=96) hW.b (by rw[Ai,hW.nod.1,hW.hn];show 6+_=_;omega) hW.osz wb rfl ay ay;refine eK (fun call=>by refine c8 @fB ?_;exact eA) ?_;refine c8 T3.t16 ?_;have gV:V.h.get gb=js [jr one.ch,.sl nb 0 O O o,iv]:=(kV gb hW.lg.2 hW.dgb).trans hW.g;refine eK (v:=.undef) (S1:=⟨V.h.set gb (js [jr one.ch,.sl W.nx 0 (O+1) (O+1) true,iv]),V.nx⟩) (fun call=>by refine dz @dE @aIX ?_;exact xY (cs:=[jr one.ch,.sl nb 0 O O o,iv]) (p:=1) gV (by simp)) ?_;refine ae ?_;have hV:=hW.push (Af _) au (b1.move (P':=fun c=>S5.nx<=c/\c≠gb/\c<W.nx/\aN xa≠some c/\aN xw≠some c/\aN iv≠some c) au fun b h hp=>⟨kV b h (ax z.lb.2),ax z.jo.1,ax z.lg.2,h,fun e=>by have:=(z.gxa.blk e).2.1;omega,fun e=>by have:=(z.gxw.blk e).2.1;omega,fun e=>by have:=(z.giv.blk e).2.1;omega⟩) bV kV;rw[Bg,<-aMH x] at hV;refine aF (dz bk w1 ?_);refine⟨k - 1,au,rfl,i+1,W.nx,O+1,6,true,xa,xw,iv,_,ics,au,hV,T3.of fun j hj=>?_,ah bj,af⟩
 repeat rw[bE,if_neg au]
section
variable {S5 X Z:St}{gb nb n sz:Nat}{o:Bool}{ps:Int}{xa xw iv:AV}{cs ics:bu}{A W:bt}{L:List cD}{I:List jL}
def TwB.re(h:TwB S5 X gb nb n o sz ps xa xw iv cs ics A W L I)(hn:X.nx<=Z.nx)(l:∀c,c<X.nx->S5.nx<=c->Z.h.get c=X.h.get c):TwB ⟨Z.h,S5.nx⟩ Z gb nb n o sz ps xa xw iv cs ics A W L I where
 jo:=⟨Aq h.jo.1 hn,fun _ _=>rfl⟩
 lg:=⟨h.lg.1,Ae h.lg.2 hn⟩
 lb:=⟨h.lb.1,Ae h.lb.2 hn⟩
 g:=(l _ h.lg.2 h.lg.1).trans h.g
 b:=(l _ h.lb.2 h.lb.1).trans h.b
 hn:=h.hn
 osz:=h.osz
 nod:=h.nod.move hn fun c k q=>⟨l c k q.1,q⟩
 gxa:=h.gxa.move hn fun c k=>l c (h.gxa.blk k).2.1 (h.gxa.blk k).1
 gxw:=h.gxw.move hn fun c k=>l c (h.gxw.blk k).2.1 (h.gxw.blk k).1
 giv:=h.giv.move hn fun c k=>l c (h.giv.blk k).2.1 (h.giv.blk k).1
 inf:=h.inf
 dgb:=h.dgb
 da:=h.da
 dw:=h.dw
 di:=h.di
 daw:=h.daw
 dwi:=h.dwi
end
def aJw:rY n (c+1)=rY n c++ [((1+c * n:Nat):Int)]:=by
 unfold rY;rw[List.range_succ,Cf];rfl
noncomputable def aRu:AC:=qk2
noncomputable def aTk:AC:=(.block 0 (.loop (.seq (.seq (.reg [mt 41 17,
mt 42 3,
oq 43 (bi .lss (.t 41) (.t 42))])
(.cond (.t 43) .skip (.exit 0)))
(.seq (.block 1 (.seq (.reg [mt 46 17,
mt 47 14,
oq 48 (bi .mul (.t 46) (.t 47)),
oq 49 (bi .add (ci 1) (.t 48)),
mt 18 49])
(.seq aO4
(.seq aRu
(.seq (.reg [oq 19 (.mv (ci 0))])
aRI)))))
(.reg [mt 44 17,
oq 45 (bi .add (.t 44) (ci 1)),
mt 17 45])))))
def TwI(S5:St)(rb B gb cp:Nat)(one:aP)(seen:Bool)(k:Nat)(A:bO)(X:St):Prop:=A.inr=false/\∃ (c nb h sz:Nat) (o:Bool) (xa xw iv:AV) (cs ics:bu),c+k=cp/\TwB S5 X gb nb h o sz one.ch xa xw iv cs ics (rY one.ce.length c) (List.replicate c 1) (oF one seen c) (kJ one seen c)/\TwT A.F rb B gb one.ce.length one.cg.length cp seen c
def aRP{u:Nat}{o:Bool}{one:aP}{seen:Bool}{K z:AV}{ics:bu}{A W:bt}{L:List cD}(x:aC8 one)(hc:c<3)(hi:aE 2 cC S5 z one.cg)(gB:S5.h.get B=js [jr one.ch,K,z])(lB:B<S5.nx)(q:TwB S5 X gb nb u o sz one.ch xa xw iv cs ics A W L (kJ one seen c))(l:TwT F rb B gb one.ce.length one.cg.length cp seen c)(k:aA 18 F=jr ((1+c * one.ce.length:Nat):Int)):
  jN fns aRu ⟨F,false⟩ X fun H y Z=>H= .normal/\y.inr=false/\(∃ (t:AV) (r:bu),TwB S5 Z gb nb u o sz one.ch xa xw t cs r A W L (kJ one seen (c+1)))/\TwT y.F rb B gb one.ce.length one.cg.length cp seen c/\aA 18 y.F=jr ((1+c * one.ce.length:Nat):Int):=by
 have C:one.cg.length<=60:=by have:=x.ord.le;rw[Av] at this;have:=x.n2;omega
 have aa:c * one.cg.length<=2 * 60:=Dx au C;have t4:=l.t4;unfold aRu;have nX:=q.jo.1;have M:=(q.jo.2 B lB).trans gB;have U:(kJ one seen c).length<=300:=by
  cases J:seen with
  | true=>rw[lZ rfl];omega
  | false=>
   cases c with
   | zero=>show 0<=300;omega
   | succ c=>rw[uX rfl au];omega
 by_cases h:c=0\/seen=true;rotate_left
 .have D:c≠0:=fun e=>h (.inl e);have J:seen=false:=by cases seen with | true=>exact absurd (.inr rfl) h | false=>rfl
  have N:kJ one seen (c+1)=kJ one seen c:=by
   show(if _ then _ else _)=_;rw[if_neg h]
  rw[N];rw[J] at t4;apply bS;refine d8 l.t17 t4 (Aa (au:¬ (c:Int)=0)) ?_;refine aK (ag) (aG ?_);refine ae ?_
  refine⟨⟨iv,ics,q⟩,l.of fun j O=>?_,ah k⟩
  repeat rw[bE,if_neg au]
 have N:kJ one seen (c+1)=kJ one seen c++one.cg:=by
  show(if _ then _ else _)=_;rw[if_pos h]
 rw[N];refine aB (aX (Q:=fun H y Z=>H= .normal/\y.inr=false/\Z=X/\aA 77 y.F= .bool true/\TwT y.F rb B gb one.ce.length one.cg.length cp seen c/\aA 18 y.F=jr ((1+c * one.ce.length:Nat):Int)) (aF ?_) ?_)
 .by_cases D:c=0
  .refine dz l.t17 (Ac (au:(c:Int)=0)) ?_;refine⟨l.of fun j O=>?_,k⟩
   repeat rw[bE,if_neg au]
  .have J:seen=true:=h.resolve_left D;rw[J] at t4;refine d8 l.t17 t4 (Aa (au:¬ (c:Int)=0)) ?_;refine⟨l.of fun j O=>?_,k⟩
   repeat rw[bE,if_neg au]
 rintro H ⟨F,inr⟩ _ ⟨rfl,rfl,rfl,G,l,k⟩;simp only at G l k;refine aM (ah G) ?_;have⟨t,V,r,eA,Y,iV,nV,kV,bV⟩:=aL3 q.giv q.inf q.jo (aE.jo (E:=cC) bQ hi q.jo) au;have gg:=q.g;have R:V.h.get gb=js [jr one.ch,.sl nb 0 u u o,iv]:=(kV gb q.lg.2 q.di.1).trans gg;refine aF (ec l.t13 l.t16 (jE M) (jE gg) ?_);refine eK (fun call=>by refine c8 @fB ?_;exact eA) ?_;refine c8 l.t16 ?_;refine eK (v:=.undef) (S1:=⟨V.h.set gb (js [jr one.ch,.sl nb 0 u u o,t]),V.nx⟩) (fun call=>by refine dz @dE Y.cells ?_;exact xY (cs:=[jr one.ch,.sl nb 0 u u o,iv]) (p:=2) R (by simp)) ?_;refine ae ?_;refine⟨⟨t,r,q.jj nV Y iV kV bV⟩,l.of fun j O=>?_,ah k⟩
 repeat rw[bE,if_neg au]
def aSe{one:aP}{seen:Bool}{t u:AV}(H:Has fns)(l:aC8 one)(hc:cp<=3)(hn:aE 6 bT S5 t one.ce)(hi:aE 2 cC S5 u one.cg)(gB:S5.h.get B=js [jr one.ch,t,u])(lB:B<S5.nx)(h0:TwI S5 rb B gb cp one seen cp ⟨F,false⟩ X):
  jN fns aTk ⟨F,false⟩ X fun o A Z=>o= .normal/\TwI S5 rb B gb cp one seen 0 A Z:=by
 unfold aTk;have v:=l.n2;refine aJ (bL (TwI S5 rb B gb cp one seen) ?_ cp _ _ h0);rintro k ⟨F,inr⟩ X ⟨rfl,c,nb,nn,sz,o,xa,xw,iv,cs,ics,M,h,q⟩;simp only at q;refine fZ (dz q.t17 q.t3 ?_);by_cases a0:c<cp;rotate_left
 .refine aK i7 (bH ?_);refine ae ?_;obtain rfl:k=0:=by omega
  refine⟨rfl,c,nb,nn,sz,o,xa,xw,iv,cs,ics,M,h,q.of fun j hj=>?_⟩
  repeat rw[bE,if_neg au]
 refine aM i7 (aG ?_);refine ae ?_
 have a1:c * one.ce.length<=2 * 60:=Dx au v;have w1:=du c
 have w2:IntKind.i64.wrap ((c:Int) * (one.ce.length:Int))=((c * one.ce.length:Nat):Int):=by rw[<-Fi];exact wrap_i64 au au
 have w3:IntKind.i64.wrap (1+((c * one.ce.length:Nat):Int))=((1+c * one.ce.length:Nat):Int):=by rw[wrap_i64 au au];omega
 have N:0<nn:=by have:=h.hn;omega
 refine aB (aJ (aB (aF ?_)));refine ec q.t17 q.t14 w2 w3 ?_;refine aB (aMV (S0:=S5) (gb:=gb) (nb:=nb) (ja q.t16) (ag) h.g h.b N h.gxa h.gxw h.jo h.lg.2 h.lb.2 h.dgb h.da.1 h.dw.1 h.da.2 h.dw.2 (fun b hb=>(h.daw b hb).1) (by rw[aMN];omega) (by rw[Au];omega) ?_);intro F1 Z O Q R nZ bZ x y z C kZ;have D:=h.root nZ bZ x y z C kZ;rw[<-aJw,<-List.replicate_succ'] at D;have T1:TwT F1 rb B gb one.ce.length one.cg.length cp seen c:=q.of fun j hj=>by
  rw[R j au]
  repeat rw[bE,if_neg au]
 have U:aA 18 F1=jr ((1+c * one.ce.length:Nat):Int):=(R 18 au).trans (af);refine aB (aX (aRP l au hi gB lB D T1 U) ?_);rintro o' ⟨F2,inr⟩ Z2 ⟨rfl,rfl,⟨V,E,Y⟩,T2,G⟩;simp only at T2 G;refine ae ?_
 refine bS (ae ?_);refine aX (aRq (cp:=cp) (rb:=rb) H l au hn hi gB lB ⟨rfl,0,nb,nn,sz,o,O,Q,V,cs,E,au,by rw[List.take_zero,Bs];exact Y,T2.of fun j hj=>?_,ah G,ag⟩) ?_
 .repeat rw[bE,if_neg au]
 rintro o' ⟨F3,inr⟩ Z3 ⟨rfl,rfl,i,aa,ab,ac,o3,an,ao,aw,aI,J,a2,K,r,aV,aZ⟩;simp only at r aV aZ;obtain rfl:i=one.ce.length:=by omega
 rw[Bh (by rw[zS];exact Af _)] at K;refine ae ?_
 refine aF (dz r.t17 w1 ?_);refine⟨k - 1,au,rfl,c+1,aa,ab,ac,o3,an,ao,aw,aI,J,au,K,⟨?_,?_,?_,?_,?_,?_,?_,?_⟩⟩
 .simp only[↓sU,sD,rE,↓reduceIte,rA,r.t3]
 .simp only[↓sU,sD,rE,↓reduceIte,rA,r.t4]
 .simp only[↓sU,sD,rE,↓reduceIte,rA,r.t12]
 .simp only[↓sU,sD,rE,↓reduceIte,rA,r.t13]
 .simp only[↓sU,sD,rE,↓reduceIte,rA,r.t14]
 .simp only[↓sU,sD,rE,↓reduceIte,rA,r.t15]
 .simp only[↓sU,sD,rE,↓reduceIte,rA,r.t16]
 .simp only[↓sU,sD,rE,↓reduceIte,rA]
def aVE{b:Nat}(k:aA 37 F=jr ps)(l:aA 39 F= .sl b 0 1 1 false):iC (.build [jr 0,.cr,.cr] [(0,1,.t 37),(1,1,.t 39)]) F h=some (.agg [jr ps,.sl b 0 1 1 false,.cr]):=by
 show(bD (eO _ (dN F [(0,1,.t 37),(1,1,.t 39)])) fun cs=>some (AV.agg cs))=_;simp only[dN,show(cQ.t 37).val F=jr ps from k,show(cQ.t 39).val F= .sl b 0 1 1 false from l,eO,cF,aIX,aH];rfl
def aIq{lv:AV}{dl:bt}{k:Int}{seen zero:Bool}(H:Has fns)(hl:bN .i64 S lv dl)(U:dl.length<=140737488355328)(x:1<=ps/\ps<=4)(hm:1<=k/\k<=61)(hc:1<=cp/\cp<=3):
  iK fns (.fn 23 [] []) [lv,jr ps,jr k,jr (cp:Int),.bool seen,.bool zero] S fun r Z=>jq S Z/\∃ (one:aP) (nv iv:AV),aC8 one/\one.ch=ps/\(one.ce.length:Int)<=mx 1 ((k - 1) / (cp:Int))/\r= .agg [jr ps,nv,iv]/\aE 6 bT Z nv (uP one cp seen).ce/\aE 2 cC Z iv (uP one cp seen).cg/\∀X':St,Z.nx<=X'.nx->(∀c,c<Z.nx->S.nx<c->X'.h.get c=Z.h.get c)->aE 6 bT X' nv (uP one cp seen).ce/\aE 2 cC X' iv (uP one cp seen).cg:=by
 refine cJ H.f23 (by simp) ?_;refine ae ?_;apply bS;apply cB;intro S1 s1 n1 g1;refine am ?_;have w1:IntKind.i64.wrap (k - 1)=k - 1:=wrap_i64 au au;have hq:mL .quo (.p .int) (jr (k - 1)) (jr (cp:Int))=some (jr ((k - 1) / (cp:Int))):=uJ _ au au au;have bk:(k - 1) / (cp:Int)<=60:=by
  have h1:(k - 1) / (cp:Int)<=k - 1:=Int.ediv_le_self _ au;omega
 have V:1<=mx 1 ((k - 1) / (cp:Int))/\mx 1 ((k - 1) / (cp:Int))<=60:=by unfold mx;split<;>omega
 refine bS (ie w1 hq @rZ @iO @kL @aBd ?_);refine bJ (am ?_);refine aW (aGX H (hl.jo s1) U x ⟨V.1,au⟩) ?_;rintro _ y ⟨s2,one,aa,ab,rfl,rfl,l,z,ac,⟨C,D⟩,an,ao,_⟩;have t:aC8 one:=⟨x,by have:=(gR l).n1;omega,au,l,ac,C,D⟩
 apply cB;intro S3 s3 n3 g3
 refine dB (b:=y.nx) (aq) (by refine am ?_;exact bB _) g3 rfl rfl ?_;intro S4 v4 k4 g4;refine am ?_
 have s4:jq y S4:=v4.jo s3 (Af _);have n2:=s2.1;have m4:=s4.1;have lB:y.nx<S4.nx:=by omega
 have aw:S4.h.get S.nx=js [jr 0,.cr,.cr]:=(s4.2 _ au).trans ((s2.2 _ au).trans g1);have aI:jq S S4:=(s1.trans s2).trans s4;have u:=aE.jo (E:=bT) bF an s4;have v:=aE.jo (E:=cC) bQ ao s4;have aV:=aE.len u;have aZ:=aE.len v;have gB:S4.h.get y.nx=js [jr one.ch,aa,ab]:=g4;refine aB (gI ?_);refine ec (fN gB) (jE gB) aV aZ ?_;refine⟨aE.self u,aE.self v,?_⟩;apply bS;obtain⟨S5,q⟩:∃Y:St,Y=⟨S4.h,S4.nx+8⟩:=⟨_,rfl⟩;have e5:(⟨S4.h,S4.nx+8⟩:St)=S5:=q.symm;refine fx @aSv ?_;refine fQ (aFo (by simp only[↓aD,aC,rE,↓reduceIte,rA];try rfl)) ?_;simp only[e5];have s5:jq S4 S5:=by rw[q];exact jq.nx _ _
 have n5:S5.nx=S4.nx+8:=by rw[q]
 intro O s6 n6 g6;simp only[<-n5] at g6 n6 s6 ⊢;refine am ?_
 have a0:∀ (F:Fr) (h:Ev.T AB),aA 37 F=jr one.ch->aA 39 F= .sl S5.nx 0 1 1 false->iC (.build [jr 0,.cr,.cr] [(0,1,.t 37),(1,1,.t 39)]) F h=some (.agg [jr one.ch,.sl S5.nx 0 1 1 false,.cr]):=fun F h a b=>aVE a b;simp only[↓aD,aC,rE,↓reduceIte,rA,a0]
 apply cB;intro S7 s7 n7 g7
 refine dB (b:=O.nx) (aq) (by refine am ?_;exact bB _) g7 rfl rfl ?_;intro S8 v8 k8 g8;refine am ?_
 have Q:jq O S8:=v8.jo s7 (Af _);have m8:=Q.1;have G:=s6.trans Q;have a1:=aE.jo (E:=bT) bF u s5;have a2:=aE.jo (E:=cC) bQ v s5;have a4:=(s5.2 _ lB).trans gB;have a5:=(s5.2 S.nx (ax s1.1)).trans aw;have ba:=aI.trans s5;have J:TwB S5 S8 O.nx S5.nx 1 false 0 one.ch .cr .cr .cr [] [] (rY one.ce.length 0) (List.replicate 0 1) (oF one seen 0) (kJ one seen 0):=
  {
   jo:=G
   lg:=⟨au,au⟩
   lb:=⟨Af _,au⟩
   g:=g8
   b:=(Q.2 _ au).trans g6
   hn:=rfl
   osz:=nofun
   nod:=⟨rfl,fun j a h=>by cases h⟩
   gxa:=.inl ⟨rfl,rfl,rfl⟩
   gxw:=.inl ⟨rfl,rfl,rfl⟩
   giv:=.inl ⟨rfl,rfl,rfl⟩
   inf:=⟨rfl,fun j a h=>by cases h⟩
   dgb:=by omega
   da:=⟨(nofun),(nofun)⟩
   dw:=⟨(nofun),(nofun)⟩
   di:=⟨(nofun),(nofun)⟩
   daw:=fun c h=>by cases h
   dwi:=fun c h=>by cases h}
 refine fZ (ae ?_);refine aX (aSe (rb:=S.nx) (B:=y.nx) (gb:=O.nx) (cp:=cp) (seen:=seen) H t au a1 a2 a4 au ⟨rfl,0,S5.nx,1,0,false,.cr,.cr,.cr,[],[],au,J,⟨?_,?_,?_,?_,?_,?_,?_,?_⟩⟩) ?_
 .simp only[↓sU,sD,rE,↓reduceIte,rA]
 .simp only[↓sU,sD,rE,↓reduceIte,rA]
 .simp only[↓sU,sD,rE,↓reduceIte,rA]
 .simp only[↓sU,sD,rE,↓reduceIte,rA]
 .simp only[↓sU,sD,rE,↓reduceIte,rA]
 .simp only[↓sU,sD,rE,↓reduceIte,rA]
 .simp only[↓sU,sD,rE,↓reduceIte,rA]
 .simp only[↓sU,sD,rE,↓reduceIte,rA];try rfl
 rintro o' ⟨F,inr⟩ X ⟨rfl,rfl,c,nb,nn,sz,o,xa,xw,iv,cs,ics,bm,K,M⟩;simp only at M;obtain rfl:c=cp:=by omega
 refine ae ?_
 have nX:=K.jo.1;have bb:=(K.jo.2 S.nx (ax s1.1)).trans a5;have bd:=gE K.g;refine bS (d8 M.t16 M.t12 bd ?_);refine dB (b:=S.nx) (ja M.t12) (by refine ae ?_;exact bB _) bb rfl rfl ?_;intro Z z1 z2 z3;have N:=gE z3;refine ae ?_;refine aS (d8 @eI M.t12 N ?_);have R:=K.re (Z:=Z) z1.1 fun b hb h5=>z1.2 b hb (ax s1.1);refine⟨z1.jo (ba.trans K.jo) (Af _),one,_,_,t,rfl,z,rfl,R.ce,R.inf.is R.giv,fun X' be bj=>?_⟩;have hX:=R.re (Z:=X') be fun b hb h5=>bj b hb (by have:=s1.1;have:S5.nx<=b:=h5;omega);exact⟨hX.ce,hX.inf.is hX.giv⟩
def KzI(S:St)(g:Nat)(k:Nat)(A:bO)(S':St):Prop:=A.inr=false/\S'.h=S.h/\S.nx<=S'.nx/\∃a b:Int,aA 0 A.F=jr a/\aA 1 A.F=jr b/\a.natAbs<=9223372036854775807/\b.natAbs<=9223372036854775807/\Nat.gcd a.natAbs b.natAbs=g/\b.natAbs=k
def aFK{x y:Int}(H:Has fns)(D:x.natAbs<=9223372036854775807)(E:y.natAbs<=9223372036854775807):iK fns (.fn 34 [] []) [jr x,jr y] S fun r S'=>r=jr ((Nat.gcd x.natAbs y.natAbs:Nat):Int)/\jq S S':=by
 refine cJ H.f34 (by simp) ?_;refine ae ?_
 apply bS;refine ae ?_
 refine aB (aX (Q:=fun o G S'=>o= .normal/\jq S S'/\∃a:Int,aA 0 G.F=jr a/\a.natAbs<=9223372036854775807/\a.natAbs=Nat.gcd x.natAbs y.natAbs) ?_ ?_)
 .refine aJ (bL (KzI S (Nat.gcd x.natAbs y.natAbs)) ?_ y.natAbs _ _ ⟨rfl,rfl,Af _,x,y,af,af,D,E,rfl,rfl⟩);rintro k ⟨F,inr⟩ S' ⟨rfl,B,v,a,b,l,z,C,J,q,rfl⟩;simp only at l z;refine fZ (c8 z ?_);by_cases u:b=0
  .refine aK (ja (Aa (show ¬b≠0 from fun h=>h u))) (bH ?_);rw[u] at q;refine ae ?_;refine⟨aLz B v,a,ah l,C,?_⟩;rw[<-q];exact(Nat.gcd_zero_right _).symm
  .refine aM (ja (Ac (show b≠0 from u))) (aG ?_);refine ae ?_
   have t:=aFH (.p .int) (a:=a) (b:=b) u;have K:(a.tmod b).natAbs=a.natAbs % b.natAbs:=Int.natAbs_tmod a b;have M:=Nat.mod_lt a.natAbs (au:0<b.natAbs);refine aJ (gI ?_);refine d8 l z t ?_;refine⟨(a.tmod b).natAbs,au,rfl,B,by simp;omega,b,a.tmod b,af,af,J,au,?_,rfl⟩;rw[<-q,K,Nat.gcd_comm a.natAbs b.natAbs,Nat.gcd_rec b.natAbs a.natAbs,Nat.gcd_comm]
 .rintro o ⟨F,inr⟩ S' ⟨rfl,N,a,l,C,q⟩;simp only at l;refine ae ?_
  have O:IntKind.i64.wrap (-a)= -a:=wrap_i64 au au;have R:mx a (-a)=((Nat.gcd x.natAbs y.natAbs:Nat):Int):=by rw[<-q];unfold mx;split<;>omega
  refine bS (ez l @aIC O @rZ @iO @kL @aBd R ?_);refine aS (ae ?_);exact N
def aIp(f:Nat->Rat):Nat->Rat
 | 0=>0
 | n+1=>aIp f n+f n
def aSG(f:Nat->Int):Nat->Int
 | 0=>0
 | n+1=>aSG f n+f n
def tM(c:bt)(x:cD):Nat:=if x.jj<c.length/\0<=c.getD x.jj.toNat 0/\c.getD x.jj.toNat 0<x.ji.length then(c.getD x.jj.toNat 0).toNat else 0
def uD(g:aP)(c:bt)(q:Nat):Nat->Nat->Rat
 | 0,_=>0
 | f+1,i=>
  if(ct g i).jk=3 then(((ct g i).jn.getD q 0:Int):Rat)
  else if(ct g i).jk=2 then uD g c q f ((ct g i).ji.getD (tM c (ct g i)) 0).toNat
  else aIp (fun j=>(((ct g i).jm.getD j 0:Int):Rat) * uD g c q f ((ct g i).ji.getD j 0).toNat) (ct g i).ji.length / ((aSG (fun j=>(ct g i).jm.getD j 0) (ct g i).ji.length:Int):Rat)
def iR:Nat->bt->Nat
 | d,[]=>d
 | d,x::l=>iR (Nat.gcd d x.natAbs) l
def uU:∀ {l:bt} {d:Nat},iR d l ∣ d/\∀x∈l,iR d l ∣ x.natAbs
 | [],d=>⟨Nat.dvd_refl _,fun x h=>by cases h⟩
 | y::l,d=>by
  have⟨q,r⟩:=uU (l:=l) (d:=Nat.gcd d y.natAbs);refine⟨Nat.dvd_trans q (Nat.gcd_dvd_left ..),fun x k=>?_⟩;rcases Bm.1 k with rfl|k
  .exact Nat.dvd_trans q (Nat.gcd_dvd_right ..)
  .exact r x k
def aH9:∀ {l:bt} {d k:Nat},k ∣ d->(∀x∈l,k ∣ x.natAbs)->k ∣ iR d l
 | [],d,k,h,_=>h
 | y::l,d,k,h,q=>aH9 (l:=l) (Nat.dvd_gcd h (q y (Be ..))) fun x r=>q x (Az _ r)
def aIn(h:0<d):0<iR d l:=Nat.pos_of_dvd_of_pos uU.1 h
structure aGL(v:Nat->Rat)(n:Nat)(P:bt)(d:Nat):Prop where
 len:P.length=n
 pos:0<d
 eq:∀q,q<n->((P.getD q 0:Int):Rat)=v q * (d:Int)
 low:iR d P=1
def aKR{v:Nat->Rat}(h:aGL v n P d)(h':aGL v n P' d'):d ∣ d':=by
 have u:∀q,q<n->P.getD q 0 * (d':Int)=P'.getD q 0 * (d:Int):=fun q t=>by
  have z:=h.eq q t;have B:=h'.eq q t;have:((P.getD q 0 * (d':Int):Int):Rat)=((P'.getD q 0 * (d:Int):Int):Rat):=by
   rw[Ek,Ek,z,B]
   grind
  exact Rat.intCast_inj.1 this
 have key:d ∣ iR (d * d') (P.map (· * (d':Int))):=aH9 (Nat.dvd_mul_right ..) fun x C=>by
  obtain⟨y,D,rfl⟩:=Cp.1 C;obtain⟨q,t,rfl⟩:=Dj.1 D;have e:P.getD q 0=P[q]:=by rw[Ad,Ab t];rfl
  have:=u q (by rw[<-h.len];exact t);rw[e] at this;rw[this,Fv,Dy];exact Nat.dvd_mul_left ..
 have r:∀ (l:bt) (k:Nat),iR (k * d') (l.map (· * (d':Int)))=iR k l * d':=fun l=>by
  induction l with
  | nil=>intro k;rfl
  | cons x l E=>
   intro k;show iR (Nat.gcd (k * d') (x * (d':Int)).natAbs) _=iR (Nat.gcd k x.natAbs) l * d';rw[Fv,Dy,Nat.gcd_mul_right,E]
 rw[r,h.low,Fu] at key;exact key
def aPz{v:Nat->Rat}(h:aGL v n P d)(h':aGL v n P' d'):P=P'/\d=d':=by
 have l:d=d':=Nat.dvd_antisymm (aKR h h') (aKR h' h);subst l;refine⟨oP (by rw[h.len,h'.len]) fun q k=>?_,rfl⟩;have:=(h.eq q (by rw[<-h.len];exact k)).trans (h'.eq q (by rw[<-h.len];exact k)).symm;exact Rat.intCast_inj.1 this
def aCp{i:Int}:∀ {L:List cL} {T:List cL} {a:Nat},T.drop a=L->∀ (l:cd),l.Pairwise (· < ·)->(∀x∈l,a<=x/\∃t,T[x]? =some t/\t.1=i)->(l.map (dR T)).sum<=oU i L a
 | [],T,a,z,l,_,r=>by
  cases l with
  | nil=>exact Af _
  | cons x l=>
   have⟨N,t,H,_⟩:=r x (Be ..);have:=(Aj.1 H).1;have B:=congrArg List.length z;rw[Cz] at B;simp only[Ca] at B;omega
 | t::L,T,a,z,l,E,r=>by
  have h:a<T.length:=by
   have B:=congrArg List.length z;rw[Cz,Aw] at B;omega
  have e:=Bt h;rw[z] at e;injection e with J F;show _<=(if t.1=i then(t.2.2+1 - (a:Int)).toNat else 0)+oU i L (a+1);cases l with
  | nil=>exact Ct _
  | cons x l=>
   have⟨K,u,v,C⟩:=r x (Be ..);have k:=Ep.1 E;by_cases D:x=a
   .subst D;have G:T[x]? =some t:=by rw[Ab h,J]
    rw[G] at v;cases v;rw[if_pos C,Dh,Er];have M:=aCp (i:=i) (T:=T) (a:=x+1) (L:=L) F.symm l k.2 fun y q=>⟨k.1 y q,(r y (Az _ q)).2⟩;have O:dR T x=(t.2.2+1 - (x:Int)).toNat:=by unfold dR;rw[G]
    omega
   .have M:=aCp (i:=i) (T:=T) (a:=a+1) (L:=L) F.symm (x::l) E fun y q=>by
     refine⟨?_,(r y q).2⟩;rcases Bm.1 q with rfl|q
     .omega
     .have:=k.1 y q;omega
    omega
def zA{T:List cL}(C:fY g=some T)(H:T.length=g.ce.length)(hi:i<g.ce.length):1+(((ct g i).ji.map Int.toNat).map (dR T)).sum<=dR T i:=by
 have z:eT g.ce.length (dP g) (g.ce.length+1) 0 (-1) 0=some T:=C;have k:=mP az z;have B:=jR z;have r:dP g (0+i)=(ct g i).ji:=by rw[An];exact iJ g i
 have⟨J,_⟩:=qE k (au:i<T.length);have q:=B.inc i au;rw[r] at q;have l:=B.cf i au;rw[r] at l;have u:((ct g i).ji.map Int.toNat).Pairwise (· < ·):=by
  rw[List.pairwise_map];refine List.Pairwise.imp_of_mem (fun {a b} D E h=>?_) q;have:=l a D;have:=l b E;omega
 have:=aCp (i:=(i:Int)) (T:=T) (a:=0) (L:=T) rfl _ u fun x F=>by
  obtain⟨y,G,rfl⟩:=Cp.1 F;have⟨_,K,v⟩:=l y G;refine⟨Ct _,?_⟩;unfold jS at v;rw[Ew,Bc] at v;have⟨t,a,b⟩:=v;exact⟨t,a,by rw[b];omega⟩
 omega
section
variable {g:aP}{c m:bt}
def aIj(G:cV g)(C:aEr g c)(hi:i<g.ce.length)(k:(ct g i).jk=2):tM c (ct g i)=(c.getD (ct g i).jj.toNat 0).toNat/\tM c (ct g i)<(ct g i).ji.length:=by
 have⟨r,t,l⟩:=G.inf i hi k;have⟨q,h⟩:=C.ok (ct g i).jj.toNat au;rw[show(((ct g i).jj.toNat:Nat):Int)=(ct g i).jj by omega,l] at h;have u:=C.len;have e:tM c (ct g i)=(c.getD (ct g i).jj.toNat 0).toNat:=by
  unfold tM;rw[if_pos ⟨au,q,h⟩]
 rw[e];exact⟨rfl,au⟩
def aHf(A:gF g m){k:Nat}(hi:i<g.ce.length)(h:k<(ct g i).ji.length):(jP g m i k).toNat<(ct g (fW m i)).ji.length/\((ct g (fW m i)).ji.getD (jP g m i k).toNat 0).toNat=fW m ((ct g i).ji.getD k 0).toNat:=by
 have⟨l,q⟩:=aGg (A.A.kid i k hi h);refine⟨l,?_⟩;unfold jP;rw[q];rfl
def aA8{s:Nat}(h:s<g.cg.length):(dh g m).getD s 0=(ct g (fW m (fS g s))).jj:=by
 unfold dh;rw[Ad,Ba,Cm h];rfl
def aKL{s:Nat}(h:s<g.cg.length):(dk g m).getD s []=(List.range (ct g (fS g s)).ji.length).map fun k=>jP g m (fS g s) k:=by
 unfold dk;rw[Ad,Ba,Cm h];rfl
def aBI{s k:Nat}(h:s<g.cg.length)(l:k<(ct g (fS g s)).ji.length):((dk g m).getD s []).getD k 0=jP g m (fS g s) k:=by
 rw[aKL h,Ad,Ba,Cm l];rfl
def xH(G:cV g){s:Nat}(h:s<g.cg.length):(cu g (s:Int)).cm=(((ct g (fS g s)).ji.length:Nat):Int):=by
 have⟨k,l,q⟩:=G.fst s h;have:=(G.inf _ k l).2.2
 rwa [q] at this
def aIv(G:cV g)(hi:i<g.ce.length)(k:j<g.ce.length)(l:(ct g i).jk=2)(h:(ct g j).jk=2)(e:(ct g i).jj=(ct g j).jj):(ct g i).ji.length=(ct g j).ji.length:=by
 have a3:=(G.inf i hi l).2.2;have q:=(G.inf j k h).2.2;rw[<-e,a3] at q;omega
def wK(G:cV g)(A:gF g m){s:Nat}(h:s<g.cg.length):0<=(dh g m).getD s 0/\(dh g m).getD s 0<g.cg.length:=by
 have⟨k,l,q⟩:=G.fst s h;rw[aA8 h];have:=G.inf _ (A.M.at k).2 (by rw[<- (A.A.like _ k).1];exact l);exact⟨this.1,this.2.1⟩
def aF4(G:cV g)(A:gF g m)(hi:i<g.ce.length)(h:(ct g i).jk=2):(dh g m).getD (ct g i).jj.toNat 0=(ct g (fW m i)).jj:=by
 have⟨l,q,_⟩:=G.inf i hi h;have k:(ct g i).jj.toNat<g.cg.length:=by omega
 have⟨f1,f2,f3⟩:=G.fst _ k;rw[aA8 k];exact(A.A.jj _ _ f1 hi f2 h au).1
def aMb(G:cV g)(A:gF g m){k:Nat}(hi:i<g.ce.length)(h:(ct g i).jk=2)(q:k<(ct g i).ji.length):((dk g m).getD (ct g i).jj.toNat []).getD k 0=jP g m i k:=by
 have⟨r,t,_⟩:=G.inf i hi h;have l:(ct g i).jj.toNat<g.cg.length:=by omega
 have⟨f1,f2,f3⟩:=G.fst _ l;have e:(ct g (fS g (ct g i).jj.toNat)).jj=(ct g i).jj:=by omega
 have el:=aIv G f1 hi f2 h e;rw[aBI l au];exact(A.A.jj _ _ f1 hi f2 h e).2 k au
end
def aF1{e:Nat}(t:0<d)(v:0<e):∃a b:Nat,0<a/\0<b/\0<Nat.gcd d e/\d=Nat.gcd d e * a/\e=Nat.gcd d e * b/\d / Nat.gcd d e=a/\e / Nat.gcd d e=b/\d / Nat.gcd d e * e=a * (Nat.gcd d e * b):=by
 have l:0<Nat.gcd d e:=Nat.gcd_pos_of_pos_left _ t;have⟨a,q⟩:=Nat.gcd_dvd_left d e;have⟨b,k⟩:=Nat.gcd_dvd_right d e;have r:d / Nat.gcd d e=a:=by
  have:=Nat.mul_div_cancel_left a l
  rwa [<-q] at this
 have u:e / Nat.gcd d e=b:=by
  have:=Nat.mul_div_cancel_left b l
  rwa [<-k] at this
 refine⟨a,b,?_,?_,l,q,k,r,u,by rw[r,<-k]⟩
 .rcases Cb a with h|h
  .rw[h] at q;omega
  .exact h
 .rcases Cb b with h|h
  .rw[h] at k;omega
  .exact h
def aNK{P p s:Int}{e:Nat}{S v:Rat}(r:0<d)(t:0<e)(u:((P:Int):Rat)=S * ((d:Nat):Int))(x:((p:Int):Rat)=v * ((e:Nat):Int))(y:P.natAbs<=3 * s.toNat * d)(z:p.natAbs<=3 * e)(J:0<=s)(K:0<=w):
  ((P * ((e / Nat.gcd d e:Nat):Int)+w * p * ((d / Nat.gcd d e:Nat):Int):Int):Rat)=(S+((w:Int):Rat) * v) * ((d / Nat.gcd d e * e:Nat):Int)/\
  (P * ((e / Nat.gcd d e:Nat):Int)).natAbs<=3 * s.toNat * (d / Nat.gcd d e * e)/\(w * p).natAbs<=3 * w.toNat * (d / Nat.gcd d e * e)/\(w * p * ((d / Nat.gcd d e:Nat):Int)).natAbs<=3 * w.toNat * (d / Nat.gcd d e * e)/\
  (P * ((e / Nat.gcd d e:Nat):Int)+w * p * ((d / Nat.gcd d e:Nat):Int)).natAbs<=3 * (s+w).toNat * (d / Nat.gcd d e * e):=by
 have⟨a,b,B,M,C,h,l,D,E,F⟩:=aF1 r t;rw[F,D,E];generalize Nat.gcd d e=k at h l C;subst h l;have G:(P * ((b:Nat):Int)).natAbs<=3 * s.toNat * (a * (k * b)):=by
  rw[Fv,Dy]
  calc P.natAbs * b<=3 * s.toNat * (k * a) * b:=Co _ y
   _=_:=by rw[Nat.mul_assoc,Nat.mul_comm k a,Nat.mul_assoc a k b]
 have q:(w * p).natAbs<=3 * w.toNat * (k * b):=by
  rw[Fv]
  calc w.natAbs * p.natAbs<=w.natAbs * (3 * (k * b)):=Nat.mul_le_mul_left _ z
   _=_:=by rw[<-Nat.mul_assoc,Nat.mul_comm w.natAbs 3,show w.natAbs=w.toNat by omega]
 have H:(w * p * ((a:Nat):Int)).natAbs<=3 * w.toNat * (a * (k * b)):=by
  rw[Fv,Dy]
  calc (w * p).natAbs * a<=3 * w.toNat * (k * b) * a:=Co _ q
   _=_:=by rw[Nat.mul_assoc,Nat.mul_comm (k * b) a]
 refine⟨?_,G,?_,H,?_⟩
 .rw[Rat.intCast_add,Ek,Ek,Ek,u,x];simp only[Fi,Ek]
  grind
 .exact Aq q (Nat.mul_le_mul_left _ (Nat.le_mul_of_pos_left _ B))
 .have:3 * (s+w).toNat * (a * (k * b))=3 * s.toNat * (a * (k * b))+3 * w.toNat * (a * (k * b)):=by
   rw[<-Dl,<-Nat.mul_add];congr 2;omega
  omega
def aNq(h:n<=29):3 ^ n<=68630377364883:=Aq (Nat.pow_le_pow_right az h) az
def aSs{e x y:Nat}(k:0<d)(h:0<e)(l:d<=3 ^ x)(q:e<=3 ^ y):0<d / Nat.gcd d e * e/\d / Nat.gcd d e * e<=3 ^ (x+y):=by
 have⟨a,b,r,u,v,z,B,t,C,D⟩:=aF1 k h;refine⟨Nat.mul_pos (by rw[t];exact r) h,?_⟩;rw[Nat.pow_add];exact Dx (Aq (Nat.div_le_self _ _) l) q
def addN(f:Nat->Nat):Nat->Nat
 | 0=>0
 | n+1=>addN f n+f n
def aB6{f:Nat->Nat}{m:Nat}:∀ {n:Nat},m<=n->addN f m<=addN f n
 | 0,h=>by rw[Nat.le_zero.1 h];exact Af _
 | n+1,h=>by
  rcases Cx n m with k|k
  .rw[show m=n+1 by omega];exact Af _
  .exact Aq (aB6 k) (Br ..)
def aHL{f:Nat->Nat}:((l.map Int.toNat).map f).sum=addN (fun k=>f (l.getD k 0).toNat) l.length:=by
 have key:∀n,n<=l.length->(((l.take n).map Int.toNat).map f).sum=addN (fun k=>f (l.getD k 0).toNat) n:=fun n=>by
  induction n with
  | zero=>intro _;simp [addN]
  | succ n h=>
   intro q;simp only[addN];rw[List.take_succ_eq_append_getElem au,Cf,Cf,List.sum_append,h au,Ad,Ab au];simp
 have:=key l.length (Af _)
 rwa [Eo] at this
def aJb{f:Nat->Nat}:∀ {n:Nat},(∀k,k<n->1<=f k)->addN (fun k=>f k - 1) n+n=addN f n
 | 0,_=>rfl
 | n+1,h=>by
  have l:=aJb (n:=n) fun k q=>h k au;have:=h n au;simp only[addN];omega
def aBE(T:List cL)(g:aP)(i j:Nat):Nat:=addN (fun k=>dR T ((ct g i).ji.getD k 0).toNat - 1) j
def aNk{T:List cL}(h:fY g=some T)(k:T.length=g.ce.length)(hi:i<g.ce.length):1<=dR T i:=by
 have:=zA h k hi;omega
def aGC{T:List cL}(h:fY g=some T)(q:T.length=g.ce.length)(hi:i<g.ce.length):dR T i+i<=g.ce.length:=by
 have l:eT g.ce.length (dP g) (g.ce.length+1) 0 (-1) 0=some T:=h;have k:=mP az l;have⟨r,t,u⟩:=qE k (au:i<T.length);omega
def aG6{T:List cL}(G:cV g)(l:fY g=some T)(q:T.length=g.ce.length)(hi:i<g.ce.length):aBE T g i (ct g i).ji.length+(ct g i).ji.length<=dR T i - 1:=by
 have h:=zA l q hi;rw[aHL] at h;have:=aJb (f:=fun k=>dR T ((ct g i).ji.getD k 0).toNat) (n:=(ct g i).ji.length) fun k r=>aNk l q (by have:=G.kids i hi k r;omega);unfold aBE;omega
def aOa{T:List cL}(q:fY g=some T)(r:T.length=g.ce.length)(G:cV g){k:Nat}(hi:i<g.ce.length)(t:k<(ct g i).ji.length):dR T ((ct g i).ji.getD k 0).toNat+1<=dR T i:=by
 have h:=zA q r hi;rw[aHL] at h;have:∀m,k<m->dR T ((ct g i).ji.getD k 0).toNat<=addN (fun k=>dR T ((ct g i).ji.getD k 0).toNat) m:=fun m v=>by
  induction m with
  | zero=>omega
  | succ m u=>
   simp only[addN];rcases Cx k m with l|l
   .have:=u l;omega
   .rw[show k=m by omega];omega
 have:=this _ t;omega
def aPc{k:Nat}:3 * k<=3 ^ k:=by
 induction k with
 | zero=>decide
 | succ k h=>
  rw[Nat.pow_succ];rcases k with _|k
  .decide
  .omega
def aJX{k:Nat}:iR (k * t) (l.map (· * ((t:Nat):Int)))=iR k l * t:=by
 induction l generalizing k with
 | nil=>rfl
 | cons x l h=>
  show iR (Nat.gcd (k * t) (x * ((t:Nat):Int)).natAbs) _=iR (Nat.gcd k x.natAbs) l * t;rw[Fv,Dy,Nat.gcd_mul_right,h]
def aPn{v:Nat->Rat}(B:P.length=n)(C:0<d)(D:∀q,q<n->((P.getD q 0:Int):Rat)=v q * ((d:Nat):Int)):aGL v n (P.map fun x:Int=>x.tdiv ((iR d P:Nat):Int)) (d / iR d P):=by
 have E:0<iR d P:=aIn C;have⟨F,z⟩:=uU (l:=P) (d:=d);have G:(P.map fun x:Int=>x.tdiv ((iR d P:Nat):Int)).map (· * ((iR d P:Nat):Int))=P:=by
  rw[Eu];refine(Eb fun x H=>?_).trans (List.map_id _);exact Int.tdiv_mul_cancel (Int.ofNat_dvd_left.2 (z x H))
 have u:d / iR d P * iR d P=d:=Nat.div_mul_cancel F;have J:0<d / iR d P:=Fq fun h=>by rw[h] at u;omega
 refine⟨by rw[Av];exact B,J,fun q y=>?_,?_⟩
 .have e:=D q y;have K:P.getD q 0=(P.map fun x:Int=>x.tdiv ((iR d P:Nat):Int)).getD q 0 * ((iR d P:Nat):Int):=by
   have r:q<P.length:=by omega
   have M:P.getD q 0=P[q]:=by rw[Ad,Ab r];rfl
   rw[M,Ad,Ba,Ab r];exact(Int.tdiv_mul_cancel (Int.ofNat_dvd_left.2 (z _ (Bl r)))).symm
  rw[K] at e;have N:(((d:Nat):Int):Rat)=(((d / iR d P:Nat):Int):Rat) * (((iR d P:Nat):Int):Rat):=by
   rw[<-Ek,<-Fi,u]
  rw[Ek,N,<-Rat.mul_assoc] at e;have O:(((iR d P:Nat):Int):Rat)≠0:=fun h=>by
   have:((iR d P:Nat):Int)=0:=Rat.intCast_inj.1 h;omega
  have:=congrArg (· * (((iR d P:Nat):Int):Rat)⁻¹) e;simp only[Rat.mul_assoc,Rat.mul_inv_cancel _ O,Rat.mul_one] at this;exact this
 .have:=aJX (l:=P.map fun x=>x.tdiv ((iR d P:Nat):Int)) (k:=d / iR d P) (t:=iR d P);rw[G,u] at this;exact Nat.eq_of_mul_eq_mul_right E au
structure aOO(g:aP)(T:List cL)(c:bt)(f i n j:Nat)(P:bt)(d:Nat)(s:Int):Prop where
 len:P.length=n
 pos:0<d
 le:d<=3 ^ aBE T g i j
 sum:s=aSG (fun k=>(ct g i).jm.getD k 0) j
 eq:∀q,q<n->((P.getD q 0:Int):Rat)=aIp (fun k=>(((ct g i).jm.getD k 0:Int):Rat) * uD g c q f ((ct g i).ji.getD k 0).toNat) j * ((d:Nat):Int)
 bd:∀q,q<n->(P.getD q 0).natAbs<=3 * s.toNat * d
section
variable {g:aP}{T:List cL}{c P P' p:bt}{f i n j d e:Nat}{s w:Int}
def aIg(h:aOO g T c f i n j P d s)(l:aGL (fun q=>uD g c q f ((ct g i).ji.getD j 0).toNat) n p e)(y:e<=3 ^ (dR T ((ct g i).ji.getD j 0).toNat - 1))(z:∀q,q<n->(p.getD q 0).natAbs<=3 * e)(t:w=(ct g i).jm.getD j 0)(w0:0<=w)(s0:0<=s):
  0<d / Nat.gcd d e * e/\d / Nat.gcd d e * e<=3 ^ aBE T g i (j+1)/\
  (∀q,q<n->(P.getD q 0 * ((e / Nat.gcd d e:Nat):Int)).natAbs<=3 * s.toNat * (d / Nat.gcd d e * e)/\(w * p.getD q 0).natAbs<=3 * w.toNat * (d / Nat.gcd d e * e)/\(w * p.getD q 0 * ((d / Nat.gcd d e:Nat):Int)).natAbs<=3 * w.toNat * (d / Nat.gcd d e * e))/\
  ∀P',P'.length=n->(∀q,q<n->P'.getD q 0=P.getD q 0 * ((e / Nat.gcd d e:Nat):Int)+w * p.getD q 0 * ((d / Nat.gcd d e:Nat):Int))->aOO g T c f i n (j+1) P' (d / Nat.gcd d e * e) (s+w):=by
 have⟨u,B⟩:=aSs h.pos l.pos h.le y;have r:=fun q (k:q<n)=>aNK (P:=P.getD q 0) (p:=p.getD q 0) (w:=w) (s:=s) h.pos l.pos (h.eq q k) (l.eq q k) (h.bd q k) (z q k) s0 w0;have v:d / Nat.gcd d e * e<=3 ^ aBE T g i (j+1):=B;refine⟨u,v,fun q k=>?_,fun P' C x=>⟨C,u,v,?_,fun q k=>?_,fun q k=>?_⟩⟩
 .have⟨_,D,E,F,_⟩:=r q k;exact⟨D,E,F⟩
 .rw[h.sum,t];rfl
 .rw[x q k,(r q k).1,t];rfl
 .rw[x q k];exact(r q k).2.2.2.2
def aPf:aOO g T c f i n 0 (List.replicate n 0) 1 0:=by
 refine⟨Au ..,Nat.one_pos,Af _,rfl,fun q h=>?_,fun q h=>?_⟩
 .rw[Ad,Cj,if_pos h];show((0:Int):Rat)=0 * _;rw[Rat.zero_mul];rfl
 .rw[Ad,Cj,if_pos h];exact Ct _
def aPr(G:cV g)(D:fY g=some T)(E:T.length=g.ce.length)(hi:i<g.ce.length)(Q:(ct g i).jk=1)(h:aOO g T c f i n (ct g i).ji.length P d s)(s1:1<=s)(s2:s<=3 * (ct g i).ji.length):
  aGL (fun q=>uD g c q (f+1) i) n (P.map fun x:Int=>x.tdiv ((iR (d * s.toNat) P:Nat):Int)) (d * s.toNat / iR (d * s.toNat) P)/\d * s.toNat<=3 ^ (dR T i - 1)/\0<d * s.toNat/\∀q,q<n->((P.map fun x:Int=>x.tdiv ((iR (d * s.toNat) P:Nat):Int)).getD q 0).natAbs<=3 * (d * s.toNat / iR (d * s.toNat) P):=by
 have r:0<d * s.toNat:=Nat.mul_pos h.pos au;have B:((s:Int):Rat)≠0:=fun e=>by
  have:s=0:=Rat.intCast_inj.1 e;omega
 have u:=aPn (v:=fun q=>uD g c q (f+1) i) h.len r fun q z=>by
  rw[h.eq q z];simp only[uD];rw[if_neg au,if_neg au,<-h.sum];have F:(((d * s.toNat:Nat):Int):Rat)=((d:Nat):Int) * ((s:Int):Rat):=by
   rw[<-Ek];congr 1;rw[Fi,Cl au]
  rw[F];generalize aIp _ _=x;generalize (((d:Nat):Int):Rat)=y;rw[Rat.mul_comm y,<-Rat.mul_assoc,Rat.div_mul_cancel B]
 refine⟨u,?_,r,fun q z=>?_⟩
 .have H:=aG6 G D E hi;have R:=aPc (k:=(ct g i).ji.length)
  calc d * s.toNat<=3 ^ aBE T g i (ct g i).ji.length * 3 ^ (ct g i).ji.length:=Dx h.le au
   _=3 ^ (aBE T g i (ct g i).ji.length+(ct g i).ji.length):=(Nat.pow_add ..).symm
   _<=_:=Nat.pow_le_pow_right az H
 .have J:=h.bd q z;have t:q<P.length:=by rw[h.len];exact z
  have⟨K,M⟩:=uU (l:=P) (d:=d * s.toNat);have C:P.getD q 0=P[q]:=by rw[Ad,Ab t];rfl
  have N:=M _ (Bl t);rw[<-C] at N;have O:(P.map fun x:Int=>x.tdiv ((iR (d * s.toNat) P:Nat):Int)).getD q 0=(P.getD q 0).tdiv ((iR (d * s.toNat) P:Nat):Int):=by
   rw[C,Ad,Ba,Ab t];rfl
  rw[O,Int.natAbs_tdiv,Dy];have:3 * (d * s.toNat / iR (d * s.toNat) P)=3 * (d * s.toNat) / iR (d * s.toNat) P:=(Nat.mul_div_assoc 3 K).symm;rw[this];exact Nat.div_le_div_right (by rw[Nat.mul_comm d,<-Nat.mul_assoc];exact J)
end
section
variable {S:St}{nv iv av:AV}{g:aP}{a:bt}
def aIK(H:Has fns)(k:cR g=0)(l:aE 6 bT S nv g.ce)(hi:aE 2 cC S iv g.cg)(t:bN .i64 S av a)(A:gF g a):
  iK fns (.fn 49 [] []) [.agg [jr g.ch,nv,iv],av] S fun r S'=>jq S S'/\∃v,r= .tup [v,jr 0]/\bN .i64 S' v (dh g a):=
 aW (aJK (P:=wJ g a) (ok:=iQ g a) H (aEu (g:=g) (m:=a)) l hi t (by have:=(gR k).n2;omega) (aQ8 H l hi t)) fun r S' h=>by
  have⟨s,x,y,e,_,p⟩:=h;rw[A.chk k] at e;have⟨S0,_,q,_⟩:=p (A.chk k);exact⟨s,x,e,q.is⟩
def aFz(H:Has fns)(k:cR g=0)(l:aE 6 bT S nv g.ce)(hi:aE 2 cC S iv g.cg)(q:bN .i64 S av a)(A:gF g a):
  iK fns (.fn 50 [] []) [.agg [jr g.ch,nv,iv],av] S fun r S'=>jq S S'/\∃v,r= .tup [v,jr 0]/\aE 1 nM S' v (dk g a):=
 aW (aGw (P:=wJ g a) (ok:=iQ g a) H (aEu (g:=g) (m:=a)) l hi q (by have:=(gR k).n2;omega) (aQ8 H l hi q)) fun r S' h=>by
  have⟨s,x,y,e,_,p⟩:=h;rw[A.chk k] at e;obtain⟨S0,_,_,B,C,cs,rfl,_,t,u,z⟩:=p (A.chk k);exact⟨s,_,e,z.is u t (Af _)⟩
end
def PuF(x0 x3:AV)(n rb xb:Nat)(d s i:Int)(F:Fr):Prop:=aA 0 F=x0/\aA 2 F=jr (n:Int)/\aA 3 F=x3/\aA 8 F= .sl rb 0 n n false/\aA 9 F=jr d/\aA 10 F= .ptr xb 0/\aA 12 F=jr s/\aA 13 F=jr i
noncomputable def aUn:List AO:=[mt 104 8,
mt 105 17,
mt 106 8,
mt 107 17,
om 108 12 (.c9 (.slice 1) (.t 106) (.t 107)),
om 109 28 (ld 108),
mt 110 15,
mt 111 16,
om 112 192 (bi .quo (.t 110) (.t 111)),
om 113 508 (bi .mul (.t 109) (.t 112)),
oq 114 (.dd 4 (.t 10)),
om 115 1024 (ld 114),
mt 116 13,
om 117 7168 (.c9 (.slice 1) (.t 115) (.t 116)),
om 118 15360 (ld 117),
mt 119 14,
mt 120 17,
om 121 98304 (.c9 (.slice 1) (.t 119) (.t 120)),
om 122 229376 (ld 121),
om 123 523264 (bi .mul (.t 118) (.t 122)),
mt 124 9,
mt 125 16,
om 126 3145728 (bi .quo (.t 124) (.t 125)),
om 127 8387584 (bi .mul (.t 123) (.t 126)),
om 128 16777212 (bi .add (.t 113) (.t 127)),
om 129 33554431 (.c9 (.slice 1) (.t 104) (.t 105))]
def aSR(Y:St)(rb n:Nat)(P:bt)(f:Nat->Int)(Z:Fr->Prop)(k:Nat)(A:bO)(X:St):Prop:=A.inr=false/\cA rb Y X/\∃ (q:Nat) (l:bt),q+k=n/\l.length=n/\(∀j,j<q->l.getD j 0=f j)/\(∀j,q<=j->j<n->l.getD j 0=P.getD j 0)/\X.h.get rb=js (aQ l)/\Z A.F/\aA 17 A.F=jr (q:Int)
def aSF(x0 x3 pv:AV)(n rb xb:Nat)(d s i e g:Int)(F:Fr):Prop:=PuF x0 x3 n rb xb d s i F/\aA 14 F=pv/\aA 15 F=jr e/\aA 16 F=jr g
def aRx{F0:Fr}{e:Nat}{s:Int}{p w:bt}(ht:0<t)(hn:n<=1000)(hd:d<=1000000000000000)(he:e<=1000000000000000)
  (hr:Y.h.get rb=js (aQ P)) (rl:rb<Y.nx) (hP:P.length=n) (hx:Y.h.get xb=js [k0,k1,k2,xa,xw,xp]) (xl:xb<Y.nx) (xr:xb≠rb)
  (hw:bN .i64 Y xw w) (wr:∀c,aN xw=some c->c≠rb) (hj:j<w.length) (hp:bN .i64 Y pv p) (pr:∀c,aN pv=some c->c≠rb) (aV:p.length=n)
  (hb:∀q,q<n->(P.getD q 0 * ((e / t:Nat):Int)).natAbs<=1000000000000000000/\(w.getD j 0 * p.getD q 0).natAbs<=1000000000000000000/\(w.getD j 0 * p.getD q 0 * ((d / t:Nat):Int)).natAbs<=1000000000000000000)
  (hZ:aSF x0 x3 pv n rb xb d s j e t F0):
  jN fns aTN ⟨F0,false⟩ Y fun o A' X=>o= .normal/\aSR Y rb n P (fun q=>P.getD q 0 * ((e / t:Nat):Int)+w.getD j 0 * p.getD q 0 * ((d / t:Nat):Int)) (aSF x0 x3 pv n rb xb d s j e t) 0 A' X:=by
 have⟨⟨U,J,V,M,N,h,E,r⟩,B,C,D⟩:=hZ;refine bS (ae ?_);refine aJ (bL (aSR Y rb n P (fun q=>P.getD q 0 * ((e / t:Nat):Int)+w.getD j 0 * p.getD q 0 * ((d / t:Nat):Int)) (aSF x0 x3 pv n rb xb d s j e t)) ?_ n _ _ ⟨rfl,cA.refl _ _,0,P,au,hP,fun j hj=>au,fun _ _ _=>rfl,hr,⟨⟨ah U,ah J,ah V,ah M,ah N,ah h,ah E,ah r⟩,ah B,ah C,ah D⟩,ag⟩);rintro k ⟨F,inr⟩ X ⟨rfl,O,q,l,an,hl,h1,h2,Q,⟨⟨U,J,V,M,N,h,E,r⟩,B,C,D⟩,G⟩;simp only at U J V M N h E r B C D G;refine fZ (dz J G ?_);by_cases R:q<n;rotate_left
 .refine aK i7 (bH ?_);refine ae ?_;obtain rfl:k=0:=by omega
  exact⟨rfl,O,q,l,an,hl,h1,h2,Q,⟨⟨ah U,ah J,ah V,ah M,ah N,ah h,ah E,ah r⟩,ah B,ah C,ah D⟩,ah G⟩
 refine aM i7 (aG ?_);refine ae ?_
 have⟨b1,b2,b3⟩:=hb q R;have w0:=du q
 have H:q<l.length:=by omega
 have ao:=eX (b:=rb) (o:=false) R;have aa:=aAd Q H;rw[h2 q (Af _) R] at aa;have aw:=(O.2 xb xl xr).trans hx;have ab:=eH hw O.1 fun c hc=>O.2 c (dK hw hc) (wr c hc);have ac:=eH hp O.1 fun c hc=>O.2 c (dK hp hc) (pr c hc);have iw:=ab.c9 hj;have lw:=ab.ld hj;have ip:=ac.c9 (au:q<p.length);have lp:=ac.ld (au:q<p.length);have hf:(fun q=>P.getD q 0 * ((e / t:Nat):Int)+w.getD j 0 * p.getD q 0 * ((d / t:Nat):Int)) q=P.getD q 0 * ((e / t:Nat):Int)+w.getD j 0 * p.getD q 0 * ((d / t:Nat):Int):=rfl;have e1:mL .quo (.p .int) (jr ((e:Nat):Int)) (jr ((t:Nat):Int))=some (jr ((e / t:Nat):Int)):=uJ (.p .int) au au au;have e2:mL .quo (.p .int) (jr ((d:Nat):Int)) (jr ((t:Nat):Int))=some (jr ((d / t:Nat):Int)):=uJ (.p .int) au au au;generalize P.getD q 0=x at *;generalize p.getD q 0=y at *;generalize w.getD j 0=z at *;generalize e / t=u at *;generalize d / t=v at *;have m1:IntKind.i64.wrap (x * ((u:Nat):Int))=x * ((u:Nat):Int):=wrap_i64 au au;have m2:IntKind.i64.wrap (z * y)=z * y:=wrap_i64 au au;have m3:IntKind.i64.wrap (z * y * ((v:Nat):Int))=z * y * ((v:Nat):Int):=wrap_i64 au au;have m4:IntKind.i64.wrap (x * ((u:Nat):Int)+z * y * ((v:Nat):Int))=x * ((u:Nat):Int)+z * y * ((v:Nat):Int):=wrap_i64 au au;refine aB (aJ (qL (pre:=aUn) (K:=26) (m:=67108863) (n:=1) (x:=.t 129) (v:=.t 128) rfl rfl rfl rfl ?_));unfold aUn;simp only[↓aD,aC,rE,↓reduceIte,rA,bN.self hw,M,N,h,r,B,C,D,G,aU,cP,aT,dW aw,aY,ao,aa,iw,lw,ip,lp,e1,e2,m1,m2,m3,m4];simp only[cF,aH];refine⟨_,qQ (S:=⟨X.h,X.nx+27⟩) Q H,?_⟩;refine ae ?_
 refine aF (dz G w0 ?_);refine⟨k - 1,au,rfl,(O.nx 27).put _,q+1,l.set q (x * ((u:Nat):Int)+z * y * ((v:Nat):Int)),au,by rw[Ar];exact hl,fun i hi=>?_,fun i hi aI=>?_,jh,⟨⟨ah U,ah J,ah V,ah M,ah N,ah h,ah E,ah r⟩,ah B,ah C,ah D⟩,af⟩
 .rw[eJ H];split
  .rename_i e;rw[e];exact hf.symm
  .exact h1 i au
 .rw[eJ H,if_neg au];exact h2 i au aI
def aGt{x:Int}:∀ {l:bt} {d:Nat},iR d (l++ [x])=Nat.gcd (iR d l) x.natAbs
 | [],d=>rfl
 | y::l,d=>aGt (l:=l) (d:=Nat.gcd d y.natAbs)
def aKV(h:0<d):iR d l<=d:=Nat.le_of_dvd h uU.1
def GcI(Y:St)(n d:Nat)(P:bt)(Z:Fr->Prop)(k:Nat)(A:bO)(X:St):Prop:=A.inr=false/\jq Y X/\∃ (q:Nat),q+k=n/\Z A.F/\aA 18 A.F=jr ((iR d (P.take q):Nat):Int)/\aA 19 A.F=jr (q:Int)
def aPP{s i:Int}(H:Has fns)(V:0<d)(aa:d<=1000000000000000)(hn:n<=1000)(hr:Y.h.get rb=js (aQ P))(rl:rb<Y.nx)(hP:P.length=n)
  (hb:∀q,q<n->(P.getD q 0).natAbs<=1000000000000000000) (hZ:PuF x0 x3 n rb xb d s i K) (h:aA 18 K=jr (d:Int)):
  jN fns qk3 ⟨K,false⟩ Y fun o A' X=>o= .normal/\GcI Y n d P (PuF x0 x3 n rb xb d s i) 0 A' X:=by
 have⟨D,z,E,B,G,r,t,u⟩:=hZ;refine bS (ae ?_);refine aJ (bL (GcI Y n d P (PuF x0 x3 n rb xb d s i)) ?_ n _ _ ⟨rfl,dy _,0,au,⟨ah D,ah z,ah E,ah B,ah G,ah r,ah t,ah u⟩,by simp only[↓sU,sD,rE,↓reduceIte,rA,h];try rfl,ag⟩);rintro k ⟨F,inr⟩ X ⟨rfl,M,q,N,⟨D,z,E,B,G,r,t,u⟩,h,v⟩;simp only at D z E B G r t u h v;refine fZ (dz z v ?_);by_cases J:q<n;rotate_left
 .refine aK i7 (bH ?_);refine ae ?_;obtain rfl:k=0:=by omega
  exact⟨rfl,M,q,N,⟨ah D,ah z,ah E,ah B,ah G,ah r,ah t,ah u⟩,ah h,ah v⟩
 refine aM i7 (aG ?_);refine ae ?_
 have b1:=hb q J;have w0:=du q
 have C:q<P.length:=by omega
 have O:=eX (b:=rb) (o:=false) J;have Q:=aAd ((M.2 _ rl).trans hr) C;have hg:=aKV (l:=P.take q) V;have R:P.take (q+1)=P.take q++ [P.getD q 0]:=by
  rw[Cc,Ab C,Ad,Ab C];rfl
 refine aB (aJ (aF ?_));refine ef B h v O Q ?_;refine bJ (ae ?_);refine aW (aFK H (x:=((iR d (P.take q):Nat):Int)) (y:=P.getD q 0) au au) ?_;rintro _ X1 ⟨rfl,U⟩;rw[Dy,<-aGt,<-R]
 refine aF (dz v w0 ?_);exact⟨k - 1,au,rfl,M.trans U,q+1,au,⟨ah D,ah z,ah E,ah B,ah G,ah r,ah t,ah u⟩,af,af⟩
def aTC(Y:St)(rb n:Nat)(P:bt)(f:Nat->Int)(Z:Fr->Prop)(k:Nat)(A:bO)(X:St):Prop:=A.inr=false/\cA rb Y X/\∃ (q:Nat) (l:bt),q+k=n/\l.length=n/\(∀j,j<q->l.getD j 0=f j)/\(∀j,q<=j->j<n->l.getD j 0=P.getD j 0)/\X.h.get rb=js (aQ l)/\Z A.F/\aA 20 A.F=jr (q:Int)
def aR6(n rb:Nat)(d g:Int)(F:Fr):Prop:=aA 2 F=jr (n:Int)/\aA 8 F= .sl rb 0 n n false/\aA 9 F=jr d/\aA 18 F=jr g
def aSc(ht:0<t)(hn:n<=1000)(Q:Y.h.get rb=js (aQ P))(R:P.length=n)
  (U:∀q,q<n->(P.getD q 0).natAbs<=1000000000000000000) (V:aR6 n rb d t K):
  jN fns qk5 ⟨K,false⟩ Y fun o A' X=>o= .normal/\aTC Y rb n P (fun q=>(P.getD q 0).tdiv ((t:Nat):Int)) (aR6 n rb d t) 0 A' X:=by
 have⟨v,y,C,h⟩:=V;refine bS (ae ?_);refine aJ (bL (aTC Y rb n P (fun q=>(P.getD q 0).tdiv ((t:Nat):Int)) (aR6 n rb d t)) ?_ n _ _ ⟨rfl,cA.refl _ _,0,P,au,R,fun j hj=>au,fun _ _ _=>rfl,Q,⟨ah v,ah y,ah C,ah h⟩,ag⟩);rintro k ⟨F,inr⟩ X ⟨rfl,M,q,l,E,N,O,G,z,⟨v,y,C,h⟩,r⟩;simp only at v y C h r;refine fZ (dz v r ?_);by_cases B:q<n;rotate_left
 .refine aK i7 (bH ?_);refine ae ?_;obtain rfl:k=0:=by omega
  exact⟨rfl,M,q,l,E,N,O,G,z,⟨ah v,ah y,ah C,ah h⟩,ah r⟩
 refine aM i7 (aG ?_);refine ae ?_
 have b1:=U q B;have w0:=du q
 have u:q<l.length:=by omega
 have H:=eX (b:=rb) (o:=false) B;have D:=aAd z u;rw[G q (Af _) B] at D;have hf:(fun q=>(P.getD q 0).tdiv ((t:Nat):Int)) q=(P.getD q 0).tdiv ((t:Nat):Int):=rfl;have b2:((P.getD q 0).tdiv ((t:Nat):Int)).natAbs<=1000000000000000000:=by
  rw[Int.natAbs_tdiv];exact Aq (Nat.div_le_self _ _) b1
 generalize P.getD q 0=x at *;have e1:mL .quo (.p .int) (jr x) (jr ((t:Nat):Int))=some (jr (x.tdiv ((t:Nat):Int))):=by
  rw[aGn (.p .int) au,wrap_i64 au au]
 refine aB (aJ (aF ?_));refine eu y h r H D e1 ?_;refine eK (fun call=>by refine dz @dE @cF ?_;exact qQ (S:=X) z u) ?_;refine ae ?_;refine aF (dz r w0 ?_);refine⟨k - 1,au,rfl,M.put _,q+1,l.set q (x.tdiv ((t:Nat):Int)),au,by rw[Ar];exact N,fun i hi=>?_,fun i hi J=>?_,jh,⟨ah v,ah y,ah C,ah h⟩,af⟩
 .rw[eJ u];split
  .rename_i e;rw[e];exact hf.symm
  .exact O i au
 .rw[eJ u,if_neg au];exact G i au J
def aKG(g:aP)(T:List cL)(c:bt)(f i n:Nat)(S:St)(r:AV)(S':St):Prop:=jq S S'/\∃ (v:AV) (P:bt) (d:Nat),r= .tup [v,jr (d:Int)]/\bN .i64 S' v P/\(∀c,aN v=some c->S.nx<=c)/\aGL (fun q=>uD g c q f i) n P d/\d<=3 ^ (dR T i - 1)/\∀q,q<n->(P.getD q 0).natAbs<=3 * d
def aS9(S:St)(g:aP)(T:List cL)(c:bt)(f i n rb xb:Nat)(x0 x3 xa xw xp h l q:AV)(k:Nat)(A:bO)(X:St):Prop:=A.inr=false/\jq S X/\rb<X.nx/\xb<X.nx/\X.h.get xb=js [h,l,q,xa,xw,xp]/\∃ (j:Nat) (P:bt) (d:Nat) (s:Int),j+k=(ct g i).ji.length/\aOO g T c f i n j P d s/\(j:Int)<=s/\s<=3 * (j:Int)/\X.h.get rb=js (aQ P)/\PuF x0 x3 n rb xb d s j A.F
def aM5{a D:Nat}(h:a<=9)(k:D<=68630377364883):3 * a * D<=2000000000000000:=by
 have:=Dx (au:3 * a<=27) k;omega
def aPv{O:Fr}{T:List cL}{c:bt}{f:Nat}(H:Has fns)(G:aGe g)(hT:fY g=some T)(V:T.length=g.ce.length)(hi:i<g.ce.length)(hk:(ct g i).jk=1)(cf:g.ce.length<=30)
  (bj:∀w∈(ct g i).jm,1<=w/\w<=3) (h3:(ct g i).ji.length<=3) (hn:n<=4) (bk:bN .i64 S xa (ct g i).ji) (M:bN .i64 S xw (ct g i).jm)
  (hS:jq S Y) (hr:Y.h.get rb=js (aQ (List.replicate n 0))) (rl:rb<Y.nx) (rs:S.nx<=rb) (hx:Y.h.get xb=js [k0,k1,k2,xa,xw,xp]) (xl:xb<Y.nx) (xs:S.nx<=xb) (xr:xb≠rb)
  (an:∀j,j<(ct g i).ji.length->∀X,jq S X->iK fns (.fn 11 [] []) [x0,jr ((ct g i).ji.getD j 0),jr (n:Int),x3] X (aKG g T c f ((ct g i).ji.getD j 0).toNat n X))
  (hZ:aA 0 O=x0/\aA 2 O=jr (n:Int)/\aA 3 O=x3/\aA 8 O= .sl rb 0 n n false/\aA 9 O=jr 1/\aA 10 O= .ptr xb 0/\aA 12 O=jr 0):
  jN fns aUi ⟨O,false⟩ Y fun o A' X=>o= .normal/\aS9 S g T c f i n rb xb x0 x3 xa xw xp k0 k1 k2 0 A' X:=by
 have⟨v,z,B,K,C,h,l⟩:=hZ;refine bS (ae ?_);refine aJ (bL (aS9 S g T c f i n rb xb x0 x3 xa xw xp k0 k1 k2) ?_ (ct g i).ji.length _ _ ⟨rfl,hS,rl,xl,hx,0,_,1,0,au,aPf,au,au,hr,⟨ah v,ah z,ah B,ah K,by simp only[↓sU,sD,rE,↓reduceIte,rA,C];try rfl,ah h,ah l,ag⟩⟩);rintro k ⟨F,inr⟩ X ⟨rfl,hX,rl,xl,hx,j,P,d,s,bm,hA,bp,bq,hr,⟨v,z,B,K,C,h,l,r⟩⟩;simp only at v z B K C h l r;have D:=bk.jo hX;refine fZ (ef h r (dD hx) D.len @Ag ?_);by_cases hj:j<(ct g i).ji.length;rotate_left
 .refine aK i7 (bH ?_);refine ae ?_;obtain rfl:k=0:=by omega
  exact⟨rfl,hX,rl,xl,hx,j,P,d,s,bm,hA,bp,bq,hr,⟨ah v,ah z,ah B,ah K,ah C,ah h,ah l,ah r⟩⟩
 refine aM i7 (aG ?_);refine ae ?_
 have w1:=du j
 have Q:=D.c9 hj;have R:=D.ld hj;have ao:=an j hj;have⟨b1,b2⟩:=G.good.kids i hi j hj;have aw:=aG6 G.good hT V hi;have bs:=aGC hT V hi;have aI:aBE T g i (j+1)<=aBE T g i (ct g i).ji.length:=aB6 au;have bw:aBE T g i j<=aBE T g i (ct g i).ji.length:=aB6 au;have aV:=aGC hT V (i:=((ct g i).ji.getD j 0).toNat) au;have ch:=G.good.wts i hi hk;have E:j<(ct g i).jm.length:=by omega
 obtain⟨wj,u⟩:∃w,(ct g i).jm.getD j 0=w:=⟨_,rfl⟩;have cj:1<=wj/\wj<=3:=by
  have:=bj (ct g i).jm[j] (Bl E);rw[Ad,Ab E] at u;rw[<-u];exact this
 have bx:=@aIg g T c P;refine aB (aJ (aB (aF ?_)));refine ez v z B h r (dD hx) Q R ?_;refine bJ (ae ?_);refine aW (ao X hX) ?_;rintro _ X1 ⟨x1,pv,p,e,rfl,hp,bz,J,aa,bA⟩;refine ae ?_;have ca:=Aq hA.le (aNq (n:=aBE T g i j) au);have cc:=Aq aa (aNq au);have⟨a1,a2,a3,a4⟩:=aIg hA J aa bA u.symm au au;have U:=Aq a2 (aNq (n:=aBE T g i (j+1)) au);have bC:=hA.pos;have ck:=J.pos;have bI:0<Nat.gcd d e:=Nat.gcd_pos_of_pos_left _ bC;have bM:=hA.len;have bP:=J.len;refine bS (c8 C ?_);refine bJ (ae ?_);refine aW (aFK H (x:=((d:Nat):Int)) (y:=((e:Nat):Int)) au au) ?_;rintro _ X2 ⟨rfl,x2⟩;rw[Dy,Dy]
 have aZ:=hX.trans (x1.trans x2);have a0:rb<X2.nx:=Ae rl (x1.trans x2).1;have ab:xb<X2.nx:=Ae xl (x1.trans x2).1;have bR:=((x1.trans x2).2 _ rl).trans hr;have a5:=((x1.trans x2).2 _ xl).trans hx;have bU:=hp.jo x2;have bV:∀c,aN pv=some c->c≠rb:=fun c hc=>by have:=bz c hc;omega
 have bW:∀c,aN xw=some c->c≠rb:=fun c hc=>by have:=dK M hc;omega
 have bY:∀q,q<n->(P.getD q 0 * ((e / Nat.gcd d e:Nat):Int)).natAbs<=1000000000000000000/\((ct g i).jm.getD j 0 * p.getD q 0).natAbs<=1000000000000000000/\((ct g i).jm.getD j 0 * p.getD q 0 * ((d / Nat.gcd d e:Nat):Int)).natAbs<=1000000000000000000:=fun q hq=>by
  have⟨c1,c2,c3⟩:=a3 q hq;rw[u];have m1:=aM5 (a:=s.toNat) au U;have m2:=aM5 (a:=wj.toNat) au U;exact⟨au,au,au⟩
 refine aB (aX (aRx (x0:=x0) (x3:=x3) (pv:=pv) (d:=d) (e:=e) (t:=Nat.gcd d e) (j:=j) (s:=s) (w:=(ct g i).jm) (p:=p) (P:=P) bI au au au bR a0 bM a5 ab xr (M.jo aZ) bW E bU bV bP bY ⟨⟨ah v,ah z,ah B,ah K,ah C,ah h,ah l,ah r⟩,af,af,af⟩) ?_);rintro o ⟨F,inr⟩ X3 ⟨rfl,rfl,N,q,P',cl,ba,bZ,_,b0,⟨⟨v,z,B,K,C,h,l,r⟩,b3,bb,bd⟩,_⟩;simp only at v z B K C h l r b3 bb bd;obtain rfl:n=q:=by omega
 have b6:=a4 P' ba fun q hq=>by rw[bZ q hq,u]
 have ac:jq S X3:=cA.jo aZ N rs;have be:=(N.2 _ ab xr).trans a5;have b8:rb<X3.nx:=Ae a0 N.1;have b':xb<X3.nx:=Ae ab N.1;have iw:=(M.jo ac).c9 E;have lw:=(M.jo ac).ld E;rw[u] at lw;have e2:mL .quo (.p .int) (jr ((d:Nat):Int)) (jr ((Nat.gcd d e:Nat):Int))=some (jr ((d / Nat.gcd d e:Nat):Int)):=uJ (.p .int) au au au;have w2:IntKind.i64.wrap (((d / Nat.gcd d e:Nat):Int) * ((e:Nat):Int))=((d / Nat.gcd d e * e:Nat):Int):=by
  rw[<-Fi];exact wrap_i64 au au
 have w3:IntKind.i64.wrap (s+wj)=s+wj:=wrap_i64 au au;refine ae ?_
 refine bS (ef C bb bd e2 w2 ?_);refine aF (ew h l r (dW be) iw lw w3 ?_);refine aF (dz r w1 ?_);exact⟨k - 1,au,rfl,ac,b8,b',be,j+1,P',_,s+wj,au,b6,au,au,b0,⟨ah v,ah z,ah B,ah K,af,ah h,af,af⟩⟩
structure aEp(g:aP)(T:List cL)(n:Nat):Prop where
 G:aGe g
 walk:fY g=some T
 len:T.length=g.ce.length
 n30:g.ce.length<=30
 pl:g.ch=(n:Int)
 ok:∀x∈g.ce,gN g.ch g.cg x
def aEp.chn{T:List cL}(h:aEp g T n)(hi:i<g.ce.length)(k:(ct g i).jk=1):aTa (ct g i):=by
 rcases h.ok _ (Bb (cU hi)) with e|e|e
 .have:=e.jk;omega
 .exact e
 .have:=e.jk;omega
def aEp.ends{T:List cL}(h:aEp g T n)(hi:i<g.ce.length)(k:(ct g i).jk=3):aP7 g.ch (ct g i):=by
 rcases h.ok _ (Bb (cU hi)) with e|e|e
 .exact e
 .have:=e.jk;omega
 .have:=e.jk;omega
def aCt{g:aP}{T:List cL}{c:bt}{n:Nat}(H:Has fns)(h:aEp g T n):∀ {f i:Nat} {S:St} {nv cv:AV},i<g.ce.length->g.ce.length<=i+f->aE 6 bT S nv g.ce->bN .i64 S cv c->
  iK fns (.fn 11 [] []) [nv,jr (i:Int),jr (n:Int),cv] S (aKG g T c f i n S)
 | 0,i,S,nv,cv,hi,hf,_,_=>absurd hi au
 | f+1,i,S,nv,cv,hi,hf,hn,hc=>by
  have G:=h.G;have ch:=G.prs;have O:=h.pl;have bz:=h.n30;have ih:∀j,j<(ct g i).ji.length->∀X,jq S X->iK fns (.fn 11 [] []) [nv,jr ((ct g i).ji.getD j 0),jr (n:Int),cv] X (aKG g T c f ((ct g i).ji.getD j 0).toNat n X):=fun j hj X hX=>by
   obtain⟨b1,b2⟩:=G.good.kids i hi j hj;have:=aCt (f:=f) (i:=((ct g i).ji.getD j 0).toNat) (S:=X) H h au au  (aE.jo (E:=bT) bF hn hX) (hc.jo hX)
   rwa [show((((ct g i).ji.getD j 0).toNat:Nat):Int)=(ct g i).ji.getD j 0 by omega] at this
  obtain⟨_,bx,qx,a5,cj,_,⟨xa,xw,xp,rfl,ba,bA,bC⟩,bb,_⟩:=aE.at hn az (cU hi);refine cJ H.f11 (by simp) ?_;refine ae ?_;refine bS (ae ?_);apply bS;simp only[↓aD,aC,rE,↓reduceIte,rA,aY,a5,bb];apply cB;intro W1 v1 k1 h1;refine dB (b:=S.nx) (aq) (by refine am ?_;exact bB _) h1 rfl rfl ?_;intro Y v2 k2 h2;refine am ?_;have sY:jq S Y:=v2.jo v1 (Af _);have aV:S.nx<Y.nx:=by omega
  have u:=ba.jo sY;have bd:=bC.jo sY;have R:=hc.jo sY;refine aB (aX (Q:=fun o M Z=>(o= .normal/\M.inr=false/\Z=Y/\(ct g i).jk=1/\aA 0 M.F=nv/\aA 2 M.F=jr (n:Int)/\aA 3 M.F=cv/\aA 10 M.F= .ptr S.nx 0)\/(o= .ret/\∃r0 r1,aA 8 M.F=r0/\aA 9 M.F=r1/\aKG g T c (f+1) i n S (.tup [r0,r1]) Z)) (aB (aF ?_)) ?_)
  .simp only[↓sU,sD,rE,↓reduceIte,rA,fF h2];by_cases C:(ct g i).jk=3
   .have hE:=h.ends hi C;have aZ:(ct g i).jn.length=n:=by have:=G.jn i hi C;omega
    refine aJ (aB (aF ?_));simp only[↓sU,sD,rE,↓reduceIte,rA,Ac C];refine aM (af) ?_;refine bS (am ?_);refine fQ sO ?_;intro Y1 y1 m1 b1;have aI:=(y1.2 _ aV).trans h2;obtain⟨r,Y2,eA,y2,hr⟩:=aBj b1 (bd.jo y1) au;simp only[↓aD,aC,rE,↓reduceIte,rA,aU,aT,fA aI];refine eK (fun call=>by simp only[↓aD,aC,rE,↓reduceIte,rA,fB];exact eA) ?_;refine ae ?_;apply aS;refine .inr ⟨rfl,r,jr ((1:Nat):Int),af,ag,?_⟩;rcases hr with⟨e1,_⟩|⟨hG,_⟩
    .rw[e1] at aZ;simp only[Ca] at aZ;omega
    .refine⟨(sY.trans y1).trans y2,r,(ct g i).jn,1,rfl,hG.is,fun b hb=>?_,⟨aZ,Nat.one_pos,fun q hq=>?_,?_⟩,Nat.pow_pos az,fun q hq=>?_⟩
     .have:=y1.1;rcases hG with⟨_,h0,_⟩|⟨b',rfl,h1,_⟩
      .omega
      .cases hb;omega
     .simp only[uD];rw[if_pos C];show _=_ * (((1:Int)):Rat);rw[show(((1:Int)):Rat)=1 from rfl,Rat.mul_one]
     .have:=uU (l:=(ct g i).jn) (d:=1);exact Nat.dvd_one.1 this.1
     .have:=hE.jn ((ct g i).jn.getD q 0) (by
       rw[Ad,Ab au];exact Bl au)
      omega
   .refine aJ (aB (aF ?_));simp only[↓sU,sD,rE,↓reduceIte,rA,Aa C];refine aK (af) ?_;refine bS (ae ?_);by_cases U:(ct g i).jk=2;rotate_left
    .refine aK (by simp only[↓sU,sD,rE,↓reduceIte,rA,Aa U]) (aG ?_);have an:(ct g i).jk=1:=by rcases G.knd i hi with e|e|e<;>first | exact e | exact absurd e U | exact absurd e C
     exact .inl ⟨rfl,rfl,rfl,an,af,af,af,af⟩
    refine aM (by simp only[↓sU,sD,rE,↓reduceIte,rA,Ac U]) ?_;obtain⟨a1,a2,a3⟩:=G.good.inf i hi U;have ck:=G.mov i hi U;obtain⟨m,hm⟩:∃m:Nat,(ct g i).jj=(m:Int):=⟨(ct g i).jj.toNat,au⟩;refine bS (ae ?_);have cf:uD g c=fun q f' i'=>uD g c q f' i':=rfl;refine aB (aX (Q:=fun o M Z=>o= .normal/\M.inr=false/\jq Y Z/\aA 0 M.F=nv/\aA 2 M.F=jr (n:Int)/\aA 3 M.F=cv/\aA 10 M.F= .ptr S.nx 0/\aA 11 M.F=jr ((tM c (ct g i):Nat):Int)) ?_ ?_)
    .have y:=dI h2;rw[hm] at y;by_cases be:m<c.length;rotate_left
     .have e:tM c (ct g i)=0:=by unfold tM;rw[hm,if_neg au]
      rw[e];refine aB (gI ?_);simp only[↓sU,sD,rE,↓reduceIte,rA,y,R.len,Ag,dO,Aa (show ¬ (m:Int)<(c.length:Int) by omega),sK,mD,oH,aR];refine aK (af) (aG ?_);exact⟨rfl,rfl,jq.nx Y _,af,af,af,af,ag⟩
     have aa:=R.c9 be;have ab:=R.ld be;have bI:(ct g i).jj.toNat=m:=by omega
     have bM:tM c (ct g i)=if 0<=c.getD m 0/\c.getD m 0<(((ct g i).ji.length:Nat):Int) then(c.getD m 0).toNat else 0:=by
      unfold tM;rw[bI];by_cases ao:0<=c.getD m 0/\c.getD m 0<(((ct g i).ji.length:Nat):Int)
      .rw[if_pos ao,if_pos ⟨au,ao.1,ao.2⟩]
      .rw[if_neg ao,if_neg (fun e=>ao ⟨e.2.1,e.2.2⟩)]
     rw[bM];generalize c.getD m 0=z at *;by_cases bj:0<=z;rotate_left
     .rw[if_neg au];refine aB (gI ?_);simp only[↓sU,sD,rE,↓reduceIte,rA,y,R.len,Ag,dO,Ac (show(m:Int)<(c.length:Int) by omega),aa,ab,Aa (show ¬z≥0 by omega),sK,mD,oH,aL,aR];refine aK (af) (aG ?_);exact⟨rfl,rfl,jq.nx Y _,af,af,af,af,ag⟩
     by_cases a0:z<(((ct g i).ji.length:Nat):Int);rotate_left
     .rw[if_neg au];refine aB (gI ?_);simp only[↓sU,sD,rE,↓reduceIte,rA,y,dD h2,bN.self u,R.len,u.len,Ag,dO,Ac (show(m:Int)<(c.length:Int) by omega),aa,ab,Ac (show z≥0 by omega),Aa a0,sK,mD,oH,aL,aR];refine aK (af) (aG ?_);exact⟨rfl,rfl,jq.nx Y _,af,af,af,af,ag⟩
     rw[if_pos ⟨bj,a0⟩,Cl bj];refine aB (gI ?_);simp only[↓sU,sD,rE,↓reduceIte,rA,y,dD h2,bN.self u,R.len,u.len,Ag,dO,Ac (show(m:Int)<(c.length:Int) by omega),aa,ab,Ac (show z≥0 by omega),Ac a0,sK,mD,oH,aL,aR];refine aM (af) ?_;apply aF;simp only[↓sU,sD,rE,↓reduceIte,rA,y,aa,ab];exact jq.nx Y _
    rintro o ⟨F,inr⟩ Z ⟨rfl,rfl,sZ,p0,B,p3,k,bk⟩;simp only at p0 B p3 k bk;have O:tM c (ct g i)<(ct g i).ji.length:=by
     unfold tM;split
     .omega
     .omega
    have bP:=(sZ.2 _ aV).trans h2;have aa:=(u.jo sZ).c9 O;have ab:=(u.jo sZ).ld O;have bR:=ih _ O Z (sY.trans sZ);obtain⟨b1,b2⟩:=G.good.kids i hi _ O;have bU:=aOa h.walk h.len G.good hi O;have hv:∀q,uD g c q (f+1) i=uD g c q f ((ct g i).ji.getD (tM c (ct g i)) 0).toNat:=fun q=>by
     simp only[uD];rw[if_neg C,if_pos U]
    refine ae ?_
    apply bS;simp only[↓sU,sD,rE,↓reduceIte,rA,p0,B,p3,k,bk,dD bP,aa,ab];refine bJ (ae ?_);refine aW bR ?_;rintro _ V ⟨sV,v,P,d,rfl,hP,bV,N,bW,hb⟩;refine ae ?_;apply aS;refine .inr ⟨rfl,v,jr (d:Int),af,af,(sY.trans sZ).trans sV,v,P,d,rfl,hP,fun b hb=>Aq (sY.trans sZ).1 (bV b hb),?_,Aq bW (Nat.pow_le_pow_right az au),hb⟩;exact⟨N.len,N.pos,fun q hq=>by rw[N.eq q hq,hv q],N.low⟩
  rintro o ⟨F,inr⟩ Z (⟨rfl,q0,rfl,an,p0,B,p3,k⟩|⟨rfl,r0,r1,e8,e9,hR⟩);rotate_left
  .simp only at e8 e9;simp only[↓sU,sD,rE,↓reduceIte,rA,e8,e9];exact hR
  simp only at q0 p0 B p3 k;subst q0;have hC:=h.chn hi an;refine ae ?_
  apply bS;simp only[↓aD,aC,rE,↓reduceIte,rA,B];refine fQ (oK (n:=n) (by simp only[↓aD,aC,rE,↓reduceIte,rA,aY]) (by simp only[↓aD,aC,rE,↓reduceIte,rA,aY]) ay ay) ?_;intro Y1 y1 m1 c1;rw[rG] at c1;refine am ?_;have bm:=sY.trans y1;have aI:=(y1.2 _ aV).trans h2;refine bS (ae ?_);have a4:=sY.1;refine aB (aX (aPv (S:=S) (c:=c) (f:=f) (x0:=nv) (x3:=cv) (n:=n) H G h.walk h.len hi an bz hC.wts hC.n2 au ba bA bm c1 au a4 aI au (Af _) au ih ⟨ah p0,ah B,ah p3,af,ag,ah k,ag⟩) ?_);rintro o ⟨F,inr⟩ X ⟨rfl,rfl,sX,rl,xl,hx,j,P,d,s,hj,hA,cl,bY,hr,⟨p0,B,p3,p8,p9,k,J,ac⟩⟩;simp only at p0 B p3 p8 p9 k J ac;obtain rfl:j=(ct g i).ji.length:=by omega
  have c1:=hC.n1;have c2:=hC.n2;obtain⟨z1,z2,z3,z4⟩:=aPr G.good h.walk h.len hi an hA au bY;have bU:=aGC h.walk h.len hi;have bp:=Aq hA.le (aNq (n:=aBE T g i (ct g i).ji.length) (by have:=aG6 G.good h.walk h.len hi;omega));have bq:=Aq z2 (aNq (n:=dR T i - 1) au);obtain⟨st,rfl⟩:∃st:Nat,s=(st:Int):=⟨s.toNat,au⟩;rw[Am] at z1 z2 z3 z4 bq;have w2:IntKind.i64.wrap (((d:Nat):Int) * ((st:Nat):Int))=((d * st:Nat):Int):=by
   rw[<-Fi];exact wrap_i64 au au
  have bs:∀q,q<n->(P.getD q 0).natAbs<=1000000000000000000:=fun q hq=>by
   have b:=hA.bd q hq;have m:=aM5 (a:=st) (D:=d) au bp;rw[Am] at b;omega
  have aw:=hA.len;refine ae ?_
  apply bS;simp only[↓sU,sD,rE,↓reduceIte,rA,p9,J,w2];refine bS (ae ?_);refine aB (aX (aPP (x0:=nv) (x3:=cv) (n:=n) (rb:=Z.nx) (xb:=S.nx) (d:=d * st) (s:=((st:Nat):Int)) (i:=(((ct g i).ji.length:Nat):Int)) (P:=P) H z3 au au  hr rl aw bs ⟨ah p0,ah B,ah p3,ah p8,af,ah k,ah J,ah ac⟩ (af)) ?_);rintro o ⟨F,inr⟩ X2 ⟨rfl,rfl,x2,q,bZ,⟨p0,B,p3,p8,p9,k,J,ac⟩,K,_⟩;simp only at p0 B p3 p8 p9 k J ac K;obtain rfl:n=q:=by omega
  rw[<-aw,Eo] at K;have b0:0<iR (d * st) P:=aIn z3;have cm:=aKV (l:=P) z3;have b3:=(x2.2 _ rl).trans hr;refine ae ?_
  refine aB (aX (aSc (n:=n) (rb:=Z.nx) (d:=d * st) (t:=iR (d * st) P) (P:=P) b0 au b3 aw bs ⟨ah B,ah p8,ah p9,ah K⟩) ?_);rintro o ⟨F,inr⟩ X3 ⟨rfl,rfl,x3,q,P',bZ,bw,b6,_,b8,⟨B,p8,p9,K⟩,_⟩;simp only at B p8 p9 K;obtain rfl:n=q:=by omega
  have eP:P'=P.map fun x:Int=>x.tdiv ((iR (d * st) P:Nat):Int):=oP (by rw[Av,bw,aw]) fun q hq=>by
   rw[b6 q au];have ca:q<P.length:=by omega
   show(P.getD q 0).tdiv ((iR (d * st) P:Nat):Int)=_;rw[Ad,Ad,Ba,Ab ca];rfl
  subst eP;have e2:mL .quo (.p .int) (jr ((d * st:Nat):Int)) (jr ((iR (d * st) P:Nat):Int))=some (jr ((d * st / iR (d * st) P:Nat):Int)):=uJ (.p .int) au au au;have cc:jq S X3:=cA.jo (sX.trans x2) x3 a4;have cn:Z.nx<X3.nx:=Ae rl (Aq x2.1 x3.1);refine ae ?_
  refine aB (gI ?_);simp only[↓sU,sD,rE,↓reduceIte,rA,p8,p9,K,e2];refine aS (ae ?_);exact⟨cc.trans (jq.nx X3 _),_,_,_,rfl,xK (S:=⟨X3.h,_⟩) b8 (by simp only;omega) (by rw[Av];exact aw),fun b hb=>by cases hb;exact a4,z1,Aq (Nat.div_le_self _ _) z2,z4⟩
end Go.Ev.Gl
