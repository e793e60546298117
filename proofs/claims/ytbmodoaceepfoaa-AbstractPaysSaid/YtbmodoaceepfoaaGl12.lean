import Derived.Test.YtbmodoaceepfoaaGl11
set_option linter.all false
open Nat renaming reduceEqDiff -> rE, reduceAdd -> rA
set_option maxHeartbeats 0
namespace Go.Ev.Gl
variable {fns:T fD}
variable {g:aP}{i c b base K nb t n:Nat}{S S' X X':St}{v xa xw xp:AV}{l:bt}{suf:List AO}{Q:Out->bO->St->Prop}{F:Fr}{x:cQ}{P P':Nat->Prop}{cs:bu}
def aC5(hi:i<g.cg.length):g.cg[i]? =some (cu g (i:Int)):=by
 unfold cu;rw[Am,Ad,Ab hi];rfl
def aMI(_:St)(cs:bu)(x:Int):Prop:=cs= [jr x]
def aBY:aFq aMI:=fun h _=>h
def toG(h:bN .i64 S v l):aE 1 aMI S v l:=by
 rcases h with h|⟨b,off,cap,o,cs,rfl,f,g,c,d⟩
 .exact .inl h
 .refine .inr ⟨b,off,cap,o,cs,rfl,f,g,c,fun i a hi=>⟨[jr a],rfl,fun j x e=>?_,rfl⟩⟩;cases j with
  | zero=>simp at e;subst e;rw[Ec,Bw];exact d i a hi
  | succ j=>simp at e
def ofG(h:aE 1 aMI S v l):bN .i64 S v l:=by
 rcases h with h|⟨b,off,cap,o,cs,rfl,g,j,c,d⟩
 .exact .inl h
 .refine .inr ⟨b,off,cap,o,cs,rfl,g,j,c,fun i a hi=>?_⟩;have⟨e,_,k,f⟩:=d i a hi;have f:e= [jr a]:=f;subst f;have:=k 0 _ rfl;rw[Ec,Bw] at this;exact this
def aE.moveB{k:Nat}{g:Type}{E:St->bu->g->Prop}{l:List g}(h:aE k E S v l)(j:S.nx<=S'.nx)(m:∀c,aN v=some c->S'.h.get c=S.h.get c)(n:∀e a,E S e a->E S' e a):aE k E S' v l:=by
 rcases h with h|⟨b,off,cap,o,cs,rfl,p,q,d,f⟩
 .exact .inl h
 .refine .inr ⟨b,off,cap,o,cs,rfl,p,Ae q j,?_,fun i a hi=>?_⟩
  .unfold cG;rw[m b rfl];exact d
  .have⟨e,r,s,t⟩:=f i a hi;exact⟨e,r,s,n e a t⟩
def aTK{k:Nat}{m:Type}{E:St->bu->m->Prop}{l:List m}(w:0<k)(h:aE k E S v l):∃new,mY v=some l.length/\eS v S.h k l.length=some new/\∀i a,l[i]? =some a->∃e:bu,e.length=k/\(∀ (j:Nat) (x:AV),e[j]? =some x->new[i * k+j]? =some x)/\E S e a:=by
 rcases h with⟨rfl,h⟩|⟨b,off,cap,o,cs,rfl,y,z,c,d⟩
 .rcases h with rfl|rfl<;>exact⟨[],rfl,rfl,fun i a hi=>by simp at hi⟩
 .rcases Cb l.length with q|A
  .have r:l= []:=Bj.1 q;subst r;refine⟨[],rfl,?_,fun i a hi=>by simp at hi⟩;show(bD (cG S.h b) fun cs=>cut cs off (0 * k))=_;rw[c,aH,Dz];unfold cut;rw[iA,iG,if_pos (Ct _)];rfl
  .have s:off+l.length * k<=cs.length:=by
    have⟨e,n,f,_⟩:=d (l.length - 1) _ (Ab au);have:=f (k - 1) _ (Ab au);have B:=(Aj.1 this).1;have C:(l.length - 1) * k+k=l.length * k:=by
     rw[<-Du];congr 1;omega
    omega
   refine⟨(cs.drop off).take (l.length * k),rfl,?_,fun i a hi=>?_⟩
   .show(bD (cG S.h b) fun cs=>cut cs off (l.length * k))=_;rw[c,aH];unfold cut;rw[iA,iG,if_pos (by rw[Cz];omega)]
   .have⟨e,n,f,t⟩:=d i a hi;refine⟨e,n,fun j x p=>?_,t⟩;have g:=(Aj.1 hi).1;have u:=(Aj.1 p).1;have D:i * k+k<=l.length * k:=by
     rw[<-Du];exact Co k g
    rw[Eq au,Fp];have:=f j x p;rw[Da] at this;exact this
def Wr(X:St)(c:Nat):Prop:=∃cs o sz,X.h.get c=some (.cells cs o sz)
def Wr.eq(h:Wr X c)(e:X'.h.get c=X.h.get c):Wr X' c:=by
 have⟨cs,o,sz,h⟩:=h;exact⟨cs,o,sz,e.trans h⟩
def aDp{k bytes:Nat}{m:Type}{E:St->bu->m->Prop}{l:List m}(n:aFq E)(o:0<k)(f:S.h.get b=js [])(g:b<S.nx)(h:aE k E S v l)(D:l.length<=room)(p:l.length * bytes<=room):
  ∃r S',gQ bytes k (.sl b 0 0 0 false) v S=some (r,S')/\aE k E S' r l/\jq S S'/\(∀c,aN r=some c->c=b\/S.nx<=c)/\∀c,aN r=some c->Wr S' c:=by
 have⟨new,q,s,t⟩:=aTK o h;unfold gQ;rw[q,aH,s,aH];show ∃r S',lP bytes k b 0 0 0 false l.length new S=some (r,S')/\_;unfold lP;rcases Cb l.length with u|F
 .have w:l= []:=Bj.1 u;subst w;refine⟨.sl b 0 0 0 false,S,rfl,.inr ⟨b,0,0,false,[],rfl,Af _,g,by unfold cG;rw[f];rfl,fun i a hi=>by simp at hi⟩,dy S,fun c d=>?_,fun c d=>?_⟩
  .cases d;exact .inl rfl
  .cases d;exact⟨_,_,_,f⟩
 .have y:Nat.ble (0+l.length) 0=false:=by
   rw[Ck];intro e;have:=Bd e;omega
  rw[y,aR,Al au,aL,Al (by rw[An];exact p),aL,f,aH];have z:cut ([]:bu) 0 (0 * k)=some []:=by
   unfold cut;rw[iA,iG,Dz,if_pos (Ct _)];rfl
  show ∃r S',(bD (cut ([]:bu) 0 (0 * k)) fun old=>bX false _ (grown S.h S.nx (0+l.length) k (yQ old new)))=some (r,S')/\_;rw[z,aH,aR];refine⟨_,_,rfl,.inr ⟨S.nx,0,l.length,true,new,by rw[An],Af _,by simp,?_,fun i a hi=>?_⟩,jq.alloc S _,fun c d=>?_,fun c d=>?_⟩
  .unfold cG;simp only;rw[dx,if_pos rfl];rfl
  .have⟨e,A,B,a3⟩:=t i a hi;exact⟨e,A,fun j x C=>by rw[An];exact B j x C,n a3 (jq.alloc S _)⟩
  .cases d;exact .inr (Af _)
  .cases d;exact⟨_,_,_,jh⟩
def aRd{k bytes:Nat}{f:Type}{E:St->bu->f->Prop}{l:List f}(g:aFq E)(i:0<k)(j:S.h.get b=js [])(e:b<S.nx)(h:aE k E S v l)(m:l.length<=room)(n:l.length * bytes<=room):
  ∃r S',gQ bytes k (.sl b 0 0 0 false) v S=some (r,S')/\aE k E S' r l/\jq S S'/\∀c,aN r=some c->c=b\/S.nx<=c:=by
 have⟨r,S',a,o,c,d,_⟩:=aDp (bytes:=bytes) (E:=E) g i j e h m n;exact⟨r,S',a,o,c,d⟩
theorem aLg{Q:DS->Prop}:∀ {pre:List AO} {i:Nat} {D:DS},wpd fns pre i base D (fun d=>wpd fns suf (i+pre.length) base d Q)->wpd fns (pre++suf) i base D Q:=by
 intro pre i D h;obtain⟨n,D1,e,k,j,f,l⟩:=h;refine⟨max n k,j,?_,l⟩;have c:=uN (lO fns (Fg n k)).call e;have b:=uN (lO fns (Ex n k)).call f;clear e f
 induction pre generalizing i D with
 | nil=>cases c;exact b
 | cons o os m=>
  show bD (tW o i base (ev fns (max n k)).call D) _=_;have a:bD (tW o i base (ev fns (max n k)).call D) (fun d=>wY os (i+1) base (ev fns (max n k)).call d)=some D1:=c;cases g:tW o i base (ev fns (max n k)).call D with
  | none=>rw[g] at a;cases a
  | some d=>
   rw[g,aH] at a;rw[aH];exact m a (by rw[Aw] at b;rw[show i+1+os.length=i+(os.length+1) by omega];exact b)
def Low(K:Nat)(D:DS):Prop:=(∀e∈D.hs,e.1<K)/\∀l∈D.ls,l.i<K/\l.mask<2 ^ K
def aPY{call:gD}{o:AO}{D D':DS}(h:tW o i base call D=some D')(hi:i<K)(n:o.mask<2 ^ K)(f:Low K D):Low K D':=by
 unfold tW at h;cases j:fX o.grd D.F with
 | false=>rw[j,aR] at h;cases h;exact f
 | true=>
  rw[j,aL] at h;have⟨d,op,g,m⟩:=o;cases op with
  | q q=>
   have h:bD (iC q D.F D.S.h) (fun v=>some (⟨cT d D.F v,D.S,D.ps,D.hs,bX (dU q) (⟨q,D.F,v,i,m⟩::D.ls) D.ls⟩:DS))=some D':=h;cases b:iC q D.F D.S.h with
   | none=>rw[b] at h;cases h
   | some v=>
    rw[b,aH] at h;cases h;refine⟨f.1,fun l c=>?_⟩;simp only at c;cases k:dU q with
    | false=>rw[k,aR] at c;exact f.2 l c
    | true=>
     rw[k,aL] at c;rcases Bm.1 c with rfl|c
     .exact⟨hi,n⟩
     .exact f.2 l c
  | a a=>
   have h:bD (uI a D.F (base+i)) (fun r=>some (⟨cT d D.F r.1,D.S,⟨i,base+i,r.2⟩::D.ps,D.hs,D.ls⟩:DS))=some D':=h;cases b:uI a D.F (base+i) with
   | none=>rw[b] at h;cases h
   | some v=>rw[b,aH] at h;cases h;exact f
  | x x=>
   have h:bX (kN D.hs m) (bD (evX x call D.F ⟨(cN m D.ps D.S.h).2,D.S.nx⟩) fun r=>some (⟨cT d D.F r.1,r.2,(cN m D.ps D.S.h).1,(i,m,r.2.h)::D.hs,D.ls⟩:DS)) none=some D':=h;cases c:kN D.hs m with
   | false=>rw[c,aR] at h;cases h
   | true=>
    rw[c,aL] at h;cases b:evX x call D.F ⟨(cN m D.ps D.S.h).2,D.S.nx⟩ with
    | none=>rw[b] at h;cases h
    | some v=>
     rw[b,aH] at h;cases h;refine⟨fun e b=>?_,f.2⟩;rcases Bm.1 b with rfl|b
     .exact hi
     .exact f.1 e b
def aED{call:gD}{base K:Nat}:∀ {l:List AO} {i:Nat} {D D':DS},wY l i base call D=some D'->i+l.length<=K->(∀o∈l,o.mask<2 ^ K)->Low K D->Low K D'
 | [],i,D,D',h,_,_,a=>by cases h;exact a
 | o::os,i,D,D',h,hi,c,a=>by
  have h:bD (tW o i base call D) (fun D'=>wY os (i+1) base call D')=some D':=h;rw[Aw] at hi;cases b:tW o i base call D with
  | none=>rw[b] at h;cases h
  | some e=>
   rw[b,aH] at h;exact aED h au (fun o d=>c o (Az _ d)) (aPY b au (c o (Be ..)) a)
def aEH{W:Nat->Prop}{d:T AB}{base K m:Nat}{h':T AB}{r:List (Nat×Nat×T AB)}{l:mC}(h:cI l.v l.v=true/\aCr W base l.q l.F/\iC l.q l.F d=some l.v)(f:l.i<K/\l.mask<2 ^ K)(p:∀i,i<K->Nat.testBit m i=true):∀ {c:List (Nat×Nat×T AB)} {a:T AB},(∀e∈c,∀b,b<base->¬W b->e.2.2.get b=d.get b)->(∀b,b<base->¬W b->a.get b=d.get b)->eU l (c++(K,m,h')::r) a=true
 | [],a,_,g=>by
  have j:pE l.v (iC l.q l.F a)=true:=by rw[h.2.1.ev g,h.2.2];exact h.1
  have k:Nat.testBit l.mask K=false:=Nat.testBit_lt_two_pow f.2;show eU l ((K,m,h')::r) a=true;unfold eU;rw[k,aR,j,aL,p _ f.1,aL]
 | (i,n,o)::q,a,c,g=>by
  have j:pE l.v (iC l.q l.F a)=true:=by rw[h.2.1.ev g,h.2.2];exact h.1
  have k:eU l (q++(K,m,h')::r) o=true:=aEH h f p (fun e s=>c e (by simp [s])) (c (i,n,o) (by simp));show eU l ((i,n,o)::(q++(K,m,h')::r)) a=true;unfold eU;rw[j,k];cases Nat.testBit l.mask i<;>cases Nat.testBit n l.i<;>rfl
def qA{W:Nat->Prop}{a pre:List AO}{A:bO}{R:Fr->St->List jD->Prop}(b:a=pre++suf)(k:pre.length=K)(f:(pre.all fun o=>decide (o.mask<2 ^ K))=true)
  (h:∀S1,jq S S1->S1.h=S.h->S1.nx=S.nx+a.length->gO fns W S.h S.nx pre 0 A.F S1 [] none R)
  (q:∀F S' ps c ls,R F S' ps->(∀m,(∀i,i<K->Nat.testBit m i=true)->kN c m=true)->(∀m h' r,(∀i,i<K->Nat.testBit m i=true)->iF S.h (c.reverse++(K,m,h')::r) ls=true)->wpd fns suf K S.nx ⟨F,S',ps,c,ls⟩ fun D'=>iF S.h D'.hs.reverse D'.ls=true/\Q .normal ⟨D'.F,A.inr⟩ ⟨(cN (2 ^ a.length - 1) D'.ps D'.S.h).2,D'.S.nx⟩):jN fns (.drw a) A S Q:=by
 apply rC;have⟨n,D',g,s,j⟩:=nK (fns:=fns) (i:=0) (D:=⟨A.F,⟨S.h,S.nx+a.length⟩,[],[],[]⟩) (last:=none) ⟨fun _ _ _=>rfl,Br _ _,fun e b=>(by cases b),fun l d=>(by cases d),fun p t=>(by cases t)⟩ rfl (h ⟨S.h,S.nx+a.length⟩ (jq.nx S _) rfl rfl);have low:Low K D':=aED g au (fun o u=>by have:=Dq.1 f o u;simpa using this) ⟨fun e b=>(by cases b),fun l d=>(by cases d)⟩;have⟨F,S',ps,c,ls⟩:=D';have v:=q F S' ps c ls s (fun m f=>by
  cases c with
  | nil=>rfl
  | cons e r=>exact f _ (low.1 e (Be ..))) (fun m h' r f=>oD fun l d=>aEH (j.lds l d) (low.2 l d) f (fun e b=>j.chain e (Fm.1 b)) (fun _ _ _=>rfl))
 have:wpd fns a 0 S.nx ⟨A.F,⟨S.h,S.nx+a.length⟩,[],[],[]⟩ fun D'=>iF S.h D'.hs.reverse D'.ls=true/\Q .normal ⟨D'.F,A.inr⟩ ⟨(cN (2 ^ a.length - 1) D'.ps D'.S.h).2,D'.S.nx⟩:=by
  subst b;refine aLg ⟨n,_,g,?_⟩;rw[An,k];exact v
 exact this
def aUt(W:St)(F:Fr)(nb:Nat)(a b d:bt)(F':Fr)(Z:St)(ps:List jD):Prop:=ps= []/\jq W Z/\(∀j,j<6->aA j F'=aA j F)/\aA 37 F'= .ptr nb (0+3)/\bN .i64 Z (aA 28 F') a/\bN .i64 Z (aA 32 F') b/\bN .i64 Z (aA 36 F') d/\(∀c,(aN (aA 28 F')=some c\/aN (aA 32 F')=some c\/aN (aA 36 F')=some c)->W.nx<=c)/\(∀c,aN (aA 28 F')=some c->aN (aA 32 F')≠some c/\aN (aA 36 F')≠some c)/\∀c,(aN (aA 28 F')=some c\/aN (aA 32 F')=some c\/aN (aA 36 F')=some c)->Wr Z c
def aBp{d:Type}{k:Nat}{E:St->bu->d->Prop}{l:List d}(h:aE k E S v l)(a:aN v=some c):c<S.nx:=by
 rcases h with⟨_,rfl|rfl⟩|⟨b,off,cap,o,cs,rfl,_,e,_⟩
 .cases a
 .cases a
 .cases a;exact e
def eH(h:bN .i64 S v l)(a:S.nx<=S'.nx)(b:∀c,aN v=some c->S'.h.get c=S.h.get c):bN .i64 S' v l:=ofG (aE.moveB (toG h) a b fun _ _ h=>h)
def aOB{W Y:St}{k p f:AV}{l1 l2 w:bt}(x:aA 5 F= .ptr nb 0)(y:W.h.get nb=js [k,p,f,xa,xw,xp])(lb:nb<W.nx)(N:bN .i64 W xa l1)(O:bN .i64 W xw l2)(P:bN .i64 W xp w)(b1:l1.length * 8<=140737488355328)(b2:l2.length * 8<=140737488355328)(b3:w.length * 8<=140737488355328)
  (Q:jq W Y) (S:Y.nx=W.nx+18):gO fns (fun _=>False) W.h W.nx aQF 0 F Y [] none (aUt W F nb l1 l2 w):=by
 have s1:=bN.self N;have s2:=bN.self O;have s3:=bN.self P;unfold aQF;refine eu x (dD y) lb @Ap @s1 @sO ?_;obtain⟨U1,g⟩:∃U:St,U=⟨Y.h.set (W.nx+0) (js []),Y.nx⟩:=⟨_,rfl⟩;have n:jq W U1:=by rw[g];exact⟨Q.1,fun c a=>by simp only;rw[dx,if_neg au];exact Q.2 c a⟩
 have z:U1.h.get (W.nx+0)=js []:=by rw[g];simp only;rw[dx,if_pos rfl]
 have T:U1.nx=W.nx+18:=by rw[g];exact S
 have⟨R,A,V,B,v1,o,X⟩:=aDp (bytes:=8) (E:=aMI) (l:=l1) aBY Nat.one_pos z au (toG (N.jo n)) ay ay;refine qH rfl (by rw[cK rfl];refine ae ?_;rw[<-g];exact V) ?_ ?_
 .rw[cK rfl,<-g];exact⟨v1.1,fun c a _=>v1.2 c au⟩
 rw[cK rfl];have r:=n.trans v1;refine eu x (dW y) lb @Ap @s2 @sO ?_;obtain⟨U2,d⟩:∃U:St,U=⟨A.h.set (W.nx+4) (js []),A.nx⟩:=⟨_,rfl⟩;have s:jq W U2:=by rw[d];exact⟨r.1,fun c a=>by simp only;rw[dx,if_neg au];exact r.2 c a⟩
 have C:U2.h.get (W.nx+4)=js []:=by rw[d];simp only;rw[dx,if_pos rfl]
 have Z:U2.nx=A.nx:=by rw[d]
 have aa:=v1.1;have D:bN .i64 U2 R l1:=eH (ofG B) au fun c a=>by
  rw[d];simp only;rw[dx,if_neg (by rcases o c a with h|h<;>omega)]
 have⟨r2,G,e2,H,m,t,w2⟩:=aDp (bytes:=8) (E:=aMI) (l:=l2) aBY Nat.one_pos C au (toG (O.jo s)) ay ay;refine qH rfl (by rw[cK rfl];refine ae ?_;rw[<-d];exact e2) ?_ ?_
 .rw[cK rfl,<-d];exact⟨m.1,fun c a _=>m.2 c au⟩
 rw[cK rfl];have u:=s.trans m;have I:=D.jo m;refine eu x (fA y) lb @Ap @s3 @sO ?_;obtain⟨U3,b⟩:∃U:St,U=⟨G.h.set (W.nx+8) (js []),G.nx⟩:=⟨_,rfl⟩;have v:jq W U3:=by rw[b];exact⟨u.1,fun c a=>by simp only;rw[dx,if_neg au];exact u.2 c a⟩
 have J:U3.h.get (W.nx+8)=js []:=by rw[b];simp only;rw[dx,if_pos rfl]
 have ab:U3.nx=G.nx:=by rw[b]
 have ac:=m.1;have K:bN .i64 U3 R l1:=eH I au fun c a=>by
  rw[b];simp only;rw[dx,if_neg (by rcases o c a with h|h<;>omega)]
 have L:bN .i64 U3 r2 l2:=eH (ofG H) au fun c a=>by
  rw[b];simp only;rw[dx,if_neg (by rcases t c a with h|h<;>omega)]
 have⟨r3,V3,e3,i3,i,M,w3⟩:=aDp (bytes:=8) (E:=aMI) (l:=w) aBY Nat.one_pos J au (toG (P.jo v)) ay ay;refine qH rfl (by rw[cK rfl];refine ae ?_;rw[<-b];exact e3) ?_ ?_
 .rw[cK rfl,<-b];exact⟨i.1,fun c a _=>i.2 c au⟩
 rw[cK rfl];refine c8 x ?_;refine⟨rfl,v.trans i,fun j hj=>?_,af,by refine ae ?_;exact K.jo i,by refine ae ?_;exact L.jo i,by refine ae ?_;exact ofG i3,fun c a=>?_,fun c a=>?_,fun c a=>?_⟩
 .have:j=0\/j=1\/j=2\/j=3\/j=4\/j=5:=by omega
  rcases this with rfl|rfl|rfl|rfl|rfl|rfl<;>simp only[↓sU,sD,rE,↓reduceIte,rA]
 .simp only[↓sU,sD,rE,↓reduceIte,rA] at a;rcases a with h|h|h
  .rcases o c h with h|h<;>omega
  .rcases t c h with h|h<;>omega
  .rcases M c h with h|h<;>omega
 .simp only[↓sU,sD,rE,↓reduceIte,rA] at a ⊢;have an:=aBp B a;have ao:=fun h=>aBp H (c:=c) h;rcases o c a with h|h
  .refine⟨fun e=>?_,fun e=>?_⟩
   .rcases t c e with h|h<;>omega
   .rcases M c e with h|h<;>omega
  .refine⟨fun e=>?_,fun e=>?_⟩
   .rcases t c e with h|h<;>omega
   .rcases M c e with h|h<;>omega
 .simp only[↓sU,sD,rE,↓reduceIte,rA] at a;rcases a with h|h|h
  .refine((X c h).eq ?_);have:=aBp B h;have q:=o c h;rw[i.2 c au,b];simp only;rw[dx,if_neg au,m.2 c au,d];simp only;rw[dx,if_neg au]
  .refine((w2 c h).eq ?_);have:=aBp H h;have q:=t c h;rw[i.2 c au,b];simp only;rw[dx,if_neg au]
  .exact w3 c h
def aPZ{q:List AO}{W:St}{inr:Bool}{k p f:AV}{x y z:bt}(O:q=aQF++aR4)(P:aA 5 F= .ptr nb 0)(T:W.h.get nb=js [k,p,f,xa,xw,xp])(lb:nb<W.nx)(V:bN .i64 W xa x)(X:bN .i64 W xw y)(Y:bN .i64 W xp z)(b1:x.length * 8<=140737488355328)(b2:y.length * 8<=140737488355328)(b3:z.length * 8<=140737488355328)
  (hQ:∀F' Z a d g,(∀j,j<6->aA j F'=aA j F)->cA nb W Z->Z.h.get nb=js [k,p,f,a,d,g]->bN .i64 Z a x->bN .i64 Z d y->bN .i64 Z g z->(∀c,(aN a=some c\/aN d=some c\/aN g=some c)->W.nx<=c)->(∀c,aN a=some c->aN d≠some c/\aN g≠some c)->(∀c,(aN a=some c\/aN d=some c\/aN g=some c)->Wr Z c)->Q .normal ⟨F',inr⟩ Z):jN fns (.drw q) ⟨F,inr⟩ W Q:=by
 have u:q.length=18:=by rw[O];rfl
 refine qA (K:=13) (R:=aUt W F nb x y z) O rfl rfl (fun S1 s h n=>aOB P T lb V X Y b1 b2 b3 s (by rw[n,u])) ?_;rintro F' S' ps hs ls ⟨rfl,A,U,B,C,D,E,b,m,o⟩ r G;have w:aA 5 F'= .ptr nb 0:=(U 5 au).trans P;have H:=(A.2 _ lb).trans T;generalize I:aA 28 F'=a at C b m o;generalize J:aA 32 F'=d at D b m o;generalize L:aA 36 F'=g at E b m o;have m1:∀i,i<13->Nat.testBit 8191 i=true:=by decide
 unfold aR4;refine iS (v:=.undef) (S1:=⟨S'.h.set nb (js [k,p,f,a,xw,xp]),S'.nx⟩) (r _ m1) (fun call=>?_) ?_
 .rw[dE];simp only[fO,B,I,bK,bN.cells C,aH];exact xY (S:=S') H (by simp)
 simp only[iT,dJ,aU,aT,cP,aR,fO,bK,fK,bE,w,rE,↓reduceIte,rA];refine iS (v:=.undef) (S1:=⟨(S'.h.set nb (js [k,p,f,a,xw,xp])).set nb (js [k,p,f,a,d,xp]),S'.nx⟩) (az:Nat.testBit 32767 13=true) (fun call=>?_) ?_
 .rw[dE];simp only[fO,bE,rE,↓reduceIte,J,bK,bN.cells D,aH];exact xY (cs:=[k,p,f,a,xw,xp]) (p:=4) (S:=⟨S'.h.set nb (js [k,p,f,a,xw,xp]),S'.nx⟩) jh (by simp)
 simp only[iT,dJ,aU,aT,cP,aR,fO,bK,fK,bE,w,rE,↓reduceIte,rA];refine iS (v:=.undef) (S1:=⟨((S'.h.set nb (js [k,p,f,a,xw,xp])).set nb (js [k,p,f,a,d,xp])).set nb (js [k,p,f,a,d,g]),S'.nx⟩) (az:Nat.testBit 131071 15=true) (fun call=>?_) ?_
 .rw[dE];simp only[fO,bE,rE,↓reduceIte,L,bK,bN.cells E,aH];exact xY (cs:=[k,p,f,a,d,xp]) (p:=5) (S:=⟨(S'.h.set nb (js [k,p,f,a,xw,xp])).set nb (js [k,p,f,a,d,xp]),S'.nx⟩) jh (by simp)
 rw[iL];refine⟨?_,?_⟩
 .simp only[Cg,Bg,Cr,Ci,Bu];exact G _ _ _ m1
 .simp only[bK,fK];have t:∀ {v:AV} {l:bt},bN .i64 S' v l->(∀c,aN v=some c->W.nx<=c)->bN .i64 ⟨((S'.h.set nb (js [k,p,f,a,xw,xp])).set nb (js [k,p,f,a,d,xp])).set nb (js [k,p,f,a,d,g]),S'.nx⟩ v l:=fun {v l} h e=>eH h (Af _) fun c M=>by
   have:=e c M;simp only;rw[dx,if_neg au,dx,if_neg au,dx,if_neg au]
  refine hQ _ _ a d g (fun j hj=>?_) ⟨A.1,fun c e N=>?_⟩ jh (t C fun c e=>b c (.inl e)) (t D fun c e=>b c (.inr (.inl e))) (t E fun c e=>b c (.inr (.inr e))) b m (fun c e=>(o c e).eq (by have:=b c e;simp only;rw[dx,if_neg au,dx,if_neg au,dx,if_neg au]))
  .rw[bE,if_neg au,bE,if_neg au];exact U j hj
  .simp only;rw[dx,if_neg N,dx,if_neg N,dx,if_neg N];exact A.2 c e
def aBs(X:St)(P:Nat->Prop)(e:bu)(a:cD):Prop:=∃xa xw xp,e= [jr a.jk,jr a.jl,jr a.jj,xa,xw,xp]/\bN .i64 X xa a.ji/\bN .i64 X xw a.jm/\bN .i64 X xp a.jn/\∀c,(aN xa=some c\/aN xw=some c\/aN xp=some c)->P c
def oG(X:St)(P:Nat->Prop)(cs:bu)(l:List cD):Prop:=cs.length=l.length * 6/\∀ (j:Nat) (a:cD),l[j]? =some a->∃e:bu,e.length=6/\(∀ (q:Nat) (x:AV),e[q]? =some x->cs[j * 6+q]? =some x)/\aBs X P e a
def dK{k:IntKind}(h:bN k X v l)(a:aN v=some c):c<X.nx:=by
 rcases h with⟨_,rfl|rfl⟩|⟨b,off,cap,o,cs,rfl,_,d,_⟩
 .cases a
 .cases a
 .cases a;exact d
def aBs.move{e:bu}{a:cD}(h:aBs X P e a)(g:X.nx<=X'.nx)(d:∀c,c<X.nx->P c->X'.h.get c=X.h.get c/\P' c):aBs X' P' e a:=by
 obtain⟨xa,xw,xp,rfl,i,j,k,f⟩:=h;refine⟨xa,xw,xp,rfl,eH i g fun c b=>(d c (dK i b) (f c (.inl b))).1,eH j g fun c b=>(d c (dK j b) (f c (.inr (.inl b)))).1,eH k g fun c b=>(d c (dK k b) (f c (.inr (.inr b)))).1,fun c b=>?_⟩;rcases b with b|b|b
 .exact(d c (dK i b) (f c (.inl b))).2
 .exact(d c (dK j b) (f c (.inr (.inl b)))).2
 .exact(d c (dK k b) (f c (.inr (.inr b)))).2
def oG.move{l:List cD}(h:oG X P cs l)(b:X.nx<=X'.nx)(d:∀c,c<X.nx->P c->X'.h.get c=X.h.get c/\P' c):oG X' P' cs l:=
 ⟨h.1,fun j a f=>by
  have⟨e,g,i,k⟩:=h.2 j a f;exact⟨e,g,i,k.move b d⟩⟩
def oG.push{e:bu}{l:List cD}{a:cD}(h:oG X P cs l)(k:aBs X P e a):oG X P (cs++e) (l++ [a]):=by
 have m:e.length=6:=by
  obtain⟨_,_,_,rfl,_⟩:=k;rfl
 refine⟨by rw[Ai,h.1,m,Ai,Ax,Dl],fun j b c=>?_⟩;rw[Eg] at c;split at c
 .have⟨n,o,p,r⟩:=h.2 j b c;refine⟨n,o,fun q x d=>?_,r⟩;have:=p q x d;rw[Ak (Aj.1 this).1];exact this
 .rename_i s;have f:j - l.length=0:=by
   rcases Cb (j - l.length) with g|g
   .exact g
   .have⟨q,d⟩:=Nat.exists_eq_succ_of_ne_zero (Nat.pos_iff_ne_zero.1 g);rw[d] at c;simp at c
  rw[f] at c;simp at c;subst c;have i:j=l.length:=by omega
  subst i;refine⟨e,m,fun q x d=>?_,k⟩;rw[Ao (by rw[h.1];omega),h.1,Dw];exact d
def aFo{id:Nat}{k p f z0 z1 z2 z3 a b:AV}(c:x.val F= .agg [k,p,f,xa,xw,xp]):uI (.c7 t 6 1 [z0,z1,z2,z3,a,b] [(0,x)]) F id=some (.sl id 0 1 1 false,.cells [k,p,f,xa,xw,xp] false 0):=by
 show(bD (eO (repeatL [z0,z1,z2,z3,a,b] 1) [(0 * 6,6,x.val F)]) fun cs=>some (AV.sl id 0 1 1 false,AB.cells cs false 0))=_;rw[c];show(bD (bD (AV.cells (.agg [k,p,f,xa,xw,xp])) _) _)=_;rw[bB,aH];rfl
def aVc{k p f:AV}{o:Bool}{sz:Nat}(h:S.h.get t=some (.cells [k,p,f,xa,xw,xp] o sz)):eS (.sl t 0 1 1 false) S.h 6 1=some [k,p,f,xa,xw,xp]:=by
 show bD (cG S.h t) (fun cs=>cut cs 0 (1 * 6))=_;unfold cG;rw[h];rfl
def fC.appB{k m bytes:Nat}{S0:St}{x:AV}{new:bu}(h:fC k S0 S v n cs)(d:jq S0 S)(i:mY x=some m)(l:eS x S.h k m=some new)(o:new.length=m * k)(y:0<m)(p:n+m<=room)(f:(n+m) * bytes<=room):
  ∃v' S',gQ bytes k v x S=some (v',S')/\fC k S0 S' v' (n+m) (cs++new)/\jq S0 S'/\S.nx<=S'.nx/\(∀c,c<S.nx->aN v≠some c->S'.h.get c=S.h.get c)/\aN v'=some S.nx:=by
 rcases h with⟨rfl,rfl,rfl⟩|⟨b,rfl,q,z,r,a⟩
 .refine⟨.sl S.nx 0 m m true,⟨S.h.set S.nx (some (.cells new true k)),S.nx+1⟩,?_,.inr ⟨S.nx,by rw[An],d.1,by simp,?_,by rw[An];exact o⟩,d.trans (jq.alloc S _),by simp,fun c a _=>(jq.alloc S _).2 c a,rfl⟩
  .show(bD (mY x) fun j=>bD (eS x S.h k j) fun new=>aAz .cr bytes k j new S)=_;rw[i,aH,l,aH];show qV bytes k m new S=_;unfold qV;rw[show Nat.beq m 0=false from Ck.2 fun e=>by rw[Bn] at e;omega,aR,Al au,aL,Al (by rw[An] at f;exact f),aL];rfl
  .simp only;rw[dx,if_pos rfl];rfl
 .refine⟨.sl S.nx 0 (n+m) (n+m) true,⟨(S.h.set b none).set S.nx (some (.cells (cs++new) true k)),S.nx+1⟩,?_,.inr ⟨S.nx,rfl,d.1,by simp,?_,by rw[Ai,a,o,Dl]⟩,⟨Aq d.1 (by simp),fun c a=>?_⟩,by simp,fun c a g=>?_,rfl⟩
  .show(bD (mY x) fun j=>bD (eS x S.h k j) fun new=>aAz (.sl b 0 n n true) bytes k j new S)=_;rw[i,aH,l,aH];show lP bytes k b 0 n n true m new S=_;unfold lP;have s:Nat.ble (n+m) n=false:=by rw[Ck];intro h;have:=Bd h;omega
   rw[s,aR,Al p,aL,Al f,aL,r,aH];have t:cut cs 0 (n * k)=some cs:=by
    unfold cut;rw[iA,iG,Di,if_pos au,Bh au]
   have u:Nat.beq (0+n * k) (mF cs)=true:=by rw[gJ,a,Bn];omega
   have w:Nat.beq k k=true:=Fx k;simp only[xJ,t,aH,aL,u,w,grown,fT]
  .simp only;rw[dx,if_pos rfl]
  .simp only;have:=d.1;rw[dx,if_neg au,dx,if_neg au];exact d.2 c a
  .simp only;have:c≠b:=fun e=>g (by rw[e];rfl);rw[dx,if_neg au,dx,if_neg this]
def aFM(cs:bu)(n:Nat):Prop:=∀j,j<n->∀xa xw xp,cs[j * 6+3]? =some xa->cs[j * 6+4]? =some xw->cs[j * 6+5]? =some xp->∀c,aN xa=some c->aN xw≠some c/\aN xp≠some c
def aFM.push{l m o g i k:AV}(h:aFM cs n)(f:cs.length=n * 6)(p:∀c,aN g=some c->aN i≠some c/\aN k≠some c):aFM (cs++ [l,m,o,g,i,k]) (n+1):=by
 intro j q xa xw xp a b d;by_cases e:j=n
 .subst e;rw[Ao au,f,show j * 6+3 - j * 6=3 by omega] at a;rw[Ao au,f,show j * 6+4 - j * 6=4 by omega] at b;rw[Ao au,f,show j * 6+5 - j * 6=5 by omega] at d;cases a;cases b;cases d;exact p
 .rw[Ak au] at a b d;exact h j au xa xw xp a b d
def OgI(a:St)(gb rb ob:Nat)(b:AV)(g:aP)(k:Nat)(A:bO)(X:St):Prop:=A.inr=false/\a.nx<=X.nx/\(∀c,c<a.nx->c≠ob->X.h.get c=a.h.get c)/\∃ (i:Nat) (pv:AV) (cs:bu),i+k=g.ce.length/\X.h.get ob=js [jr g.ch,pv,b]/\fC 6 a X pv i cs/\oG X (fun c=>a.nx<=c/\aN pv≠some c/\Wr X c) cs (g.ce.take i)/\aFM cs i/\aA 1 A.F= .ptr gb 0/\aA 2 A.F= .ptr rb 0/\aA 3 A.F= .ptr ob 0/\aA 4 A.F=jr (i:Int)
def aJm{W:Nat->Prop}{d:T AB}{m:Nat}{l:List AO}{last:Option Nat}{Q:Fr->St->List jD->Prop}{j id:Nat}{v:cQ}{cs':bu}(b:Nat.testBit m j=true)(h:lL last m=true)(e:x.val F= .ptr id 0)(f:(v.val F).cells=some cs')(g:cs.length=n)(k:cs'.length=n)(o:base<=id)
  (p:∀S1,cA id S S1->S1.nx=S.nx->S1.h.get id=js cs'->gO fns W d base l (i+1) F S1 [] (some i) Q):gO fns W d base (⟨none,.x (.st n x v),none,m⟩::l) i F S [⟨j,id,.cells cs false 0⟩] last Q:=by
 have q:(⟨S.h.set id (js cs),S.nx⟩:St).h.get id=js cs:=by simp only;rw[dx,if_pos rfl]
 refine qC (S1:=⟨(S.h.set id (js cs)).set id (js cs'),S.nx⟩) h ?_ ⟨Af _,fun c r s=>?_⟩ ?_
 .rw[cK b,f,aH,e];exact mM q g k
 .simp only;rw[cK b,dx,if_neg au]
 .rw[cK b];refine p _ ⟨Af _,fun c r a=>?_⟩ rfl ?_
  .simp only;rw[dx,if_neg a,dx,if_neg a]
  .simp only;rw[dx,if_pos rfl]
def aSr{h:Ev.T AB}{ps:Int}{r:AV}(b:aA 7 F=jr ps)(a:aA 11 F=r)(c:r.cells=some [r]):iC (.build [jr 0,.cr,.cr] [(0,1,.t 7),(2,1,.t 11)]) F h=some (.agg [jr ps,.cr,r]):=by
 show(bD (eO _ (dN F [(0,1,.t 7),(2,1,.t 11)])) fun cs=>some (AV.agg cs))=_;simp only[dN,show(cQ.t 7).val F=jr ps from b,show(cQ.t 11).val F=r from a,eO,cF,c,aH];rfl
def zN{k:Nat}{a:Type}{E:St->bu->a->Prop}{l:List a}(h:aE k E S v l):v.cells=some [v]:=by
 rcases h with⟨_,rfl|rfl⟩|⟨b,off,cap,o,cs,rfl,_⟩<;>rfl
def aLS{nv iv:AV}(H:Has fns)(hn:aE 6 bT S nv g.ce)(hi:aE 2 cC S iv g.cg)(hT:aS6 g)(bY:g.ce.length<=100000):
  iK fns (.fn 44 [] []) [.agg [jr g.ch,nv,iv]] S fun r X=>jq S X/\∃mv s nz cs,r= .agg [jr g.ch,mv,s]/\S.nx<=nz/\fC 6 ⟨X.h,nz⟩ X mv g.ce.length cs/\oG X (fun c=>S.nx<=c/\aN mv≠some c/\Wr X c) cs g.ce/\aFM cs g.ce.length/\aE 2 cC X s g.cg:=by
 refine cJ H.f44 (by simp) ?_;refine am ?_;apply bS;refine dC (cs:=[jr g.ch,nv,iv]) rfl ?_;intro S1 s1 n1 c1;apply cB;intro t s2 n2 c2;refine am ?_;have d1:=(s2.2 _ (au:S.nx<S1.nx)).trans c1;have sS:=s1.trans s2;have T:S.nx<t.nx:=by omega
 have a1:=aE.self hi;have bZ:=hT.1;refine aB (pJ (fun _=>False) ?_);intro Y sY hY nY;simp only[Aw,Ca,rA] at nY;refine eu (pG d1) (jE d1) T @Ap a1 @sO ?_;obtain⟨U,hU⟩:∃U:St,U=⟨Y.h.set (t.nx+2) (js []),Y.nx⟩:=⟨_,rfl⟩;have aa:jq t U:=by rw[hU];exact⟨sY.1,fun c d=>by simp only;rw[dx,if_neg au];exact sY.2 c d⟩
 have gU:U.h.get (t.nx+2)=js []:=by rw[hU];simp only;rw[dx,if_pos rfl]
 have nU:U.nx=t.nx+9:=by rw[hU];exact nY
 have⟨s,V,e1,i1,v1,k1⟩:=aRd (k:=2) (bytes:=16) (E:=cC) (l:=g.cg) bQ az gU au (aE.jo (E:=cC) bQ hi (sS.trans aa)) ay ay;have nV:=v1.1;refine qH rfl (by rw[cK rfl];refine ae ?_;rw[<-hU];exact e1) ?_ ?_
 .rw[cK rfl,<-hU];exact⟨v1.1,fun c d _=>v1.2 c au⟩
 rw[cK rfl];refine c8 @pI ?_;rw[aSr (ps:=g.ch) (r:=s) (af) (af) (zN i1)];simp only[↓sU,sD,rE,↓reduceIte,rA,pY,lR,rA];refine aJm (by rfl) rfl (af) (by simp only[↓sU,sD,rE,↓reduceIte,rA,bB];rfl) rfl rfl au ?_;intro Z z nZ gZ;have sZ:jq t Z:=by exact z.jo (aa.trans v1) au
 have ab:∀c,aN s=some c->c≠t.nx+7:=fun c d=>by rcases k1 c d with h|h<;>omega
 have iZ:aE 2 cC Z s g.cg:=aE.moveB i1 z.1 (fun c d=>z.2 c (by
  rcases i1 with⟨_,rfl|rfl⟩|⟨b,off,cap,o,cs,rfl,_,hb,_⟩
  .cases d
  .cases d
  .cases d;exact hb) (ab c d)) fun _ _ h=>h
 refine ae ?_;have b0:t.nx+7<Z.nx:=by omega
 have a2:=(sZ.2 _ T).trans d1;have a4:=(sZ.2 _ (au:S1.nx<t.nx)).trans c2;have ac:∀c,aN s=some c->c<Z.nx:=fun c d=>by
  rcases iZ with⟨_,rfl|rfl⟩|⟨b,off,cap,o,cs,rfl,_,hb,_⟩
  .cases d
  .cases d
  .cases d;exact hb
 have q:=sS.trans sZ;refine aB (aX (Q:=fun o A' X=>o= .normal/\OgI Z S.nx S1.nx (t.nx+7) s g 0 A' X) (aB (aF ?_)) ?_)
 .refine ae ?_;refine aJ (bL (OgI Z S.nx S1.nx (t.nx+7) s g) ?_ g.ce.length _ _ ⟨rfl,Af _,fun _ _ _=>rfl,0,.cr,[],au,gZ,.inl ⟨rfl,rfl,rfl⟩,⟨rfl,fun j a hj=>by simp at hj⟩,fun j hj=>absurd hj (Bo j),af,af,af,af⟩);rintro k ⟨F,inr⟩ X ⟨rfl,N,A,i,pv,cs,an,v,B,O,hD,C,w,G,D⟩;simp only at C w G D;have ao:=(A S.nx au au).trans a2;have I:jq S X:=⟨Aq q.1 N,fun c d=>(A c (ax q.1) au).trans (q.2 c d)⟩;refine fZ (ec C D (fN ao) hn.len ?_);by_cases x:i<g.ce.length;rotate_left
  .refine aK i7 (bH ?_);refine ae ?_;obtain rfl:k=0:=by omega
   exact⟨rfl,N,A,i,pv,cs,an,v,B,O,hD,ah C,ah w,ah G,ah D⟩
  refine aM i7 (aG ?_);refine ae ?_
  have⟨t1,t2,t3⟩:=hT.2 _ (Bb (cU x));obtain⟨_,bx,qx,aw,b1,_,⟨xa,xw,xp,rfl,a5,ba,bb⟩,aI,_⟩:=aE.at (aE.jo (E:=bT) bF hn I) az (cU x);have w0:=du i
  refine aB (aJ (aB (aF ?_)));refine ik C D @aU @aT (fN ao) @aY aw aI ?_;apply cB;intro W1 bd b2 be;refine dB (b:=X.nx) (aq) (by refine am ?_;exact bB _) be rfl rfl ?_;intro W v2 k2 h2;refine am ?_;have y:jq X W:=v2.jo bd (Af _);have bj:X.nx<W.nx:=by omega
  refine aB (aPZ rfl (aq) h2 bj (a5.jo y) (ba.jo y) (bb.jo y) t1 t2 t3 ?_);intro F' u r1 r2 r3 P aV bk bm bp bq bs bv bw;have q1:aA 1 F'= .ptr S.nx 0:=(P 1 au).trans (ar C);have q2:aA 2 F'= .ptr S1.nx 0:=(P 2 au).trans (ar w);have q3:aA 3 F'= .ptr (t.nx+7) 0:=(P 3 au).trans (ar G);have q4:aA 4 F'=jr (i:Int):=(P 4 au).trans (ar D);have q5:aA 5 F'= .ptr X.nx 0:=(P 5 au).trans (aq);have b3:=aV.1;have old:∀c,c<X.nx->u.h.get c=X.h.get c:=fun c d=>(aV.2 c au au).trans (y.2 c d);have J:=(old _ (au:t.nx+7<X.nx)).trans v;have K:fC 6 Z u pv i cs:=B.move au fun c d=>old c (B.blk d).2.1;have bz:oG u (fun c=>Z.nx<=c/\aN pv≠some c/\Wr u c) cs (g.ce.take i):=O.move au fun c d n=>⟨old c d,n.1,n.2.1,n.2.2.eq (old c d)⟩;have bC:aBs u (fun c=>W.nx<=c/\Wr u c) [jr (ct g i).jk,jr (ct g i).jl,jr (ct g i).jj,r1,r2,r3] (ct g i):=⟨r1,r2,r3,rfl,bm,bp,bq,fun c d=>⟨bs c d,bw c d⟩⟩;refine aF (ie q3 q5 @aU @aT (fN J) (ldN bk) ?_);refine fQ (aFo (k:=jr (ct g i).jk) (p:=jr (ct g i).jl) (f:=jr (ct g i).jj) (xa:=r1) (xw:=r2) (xp:=r3) (aq)) ?_;intro U2 u1 m1 g1;have⟨pv',R,eA,gA,sA,nA,rA,bA⟩:=fC.appB (k:=6) (m:=1) (bytes:=96) (S0:=⟨U2.h,Z.nx⟩) (show fC 6 ⟨U2.h,Z.nx⟩ U2 pv i cs from K.step u1) ⟨by show Z.nx<=U2.nx;omega,fun _ _=>rfl⟩ rfl (aVc g1) rfl au ay ay
  refine eK (fun call=>by refine fx @fB ?_;exact eA) ?_;have aZ:=K.off J;have bI:=(rA _ au aZ).trans ((u1.2 _ au).trans J);have bM:=gA.cells;refine gj q3 @aU @aT ?_;refine eK (fun call=>by refine gj @dE bM @aH ?_;exact xY (cs:=[jr g.ch,pv,s]) (p:=1) (S:=R) bI (by simp)) ?_;refine am ?_;refine aF (dz q4 w0 ?_);have L:∀c,c≠t.nx+7->c<u.nx->aN pv≠some c->(R.h.set (t.nx+7) (js ([jr g.ch,pv,s].set 1 pv'))).get c=u.h.get c:=fun c h1 h2 h3=>by
   rw[dx,if_neg h1,rA c au h3,u1.2 c h2]
  refine⟨k - 1,au,rfl,by show Z.nx<=R.nx;omega,fun c d a0=>(L c a0 au fun e=>by have:=(K.blk e).1;omega).trans ((old c au).trans (A c d a0)),i+1,pv',_,au,by simp only;rw[dx,if_pos rfl];rfl,fC.move (S:=R) (by exact gA) (Af _) fun c d=>?_,?_,hD.push (by rw[O.1,Bx,Nat.min_eq_left (Nat.le_of_lt x)]) bv,ah q1,ah q2,ah q3,af⟩
  .simp only;rw[dx,if_neg (by rw[bA] at d;cases d;omega)]
  .rw[Cc,cU x];refine oG.push (bz.move (by show u.nx<=R.nx;omega) fun c d n=>have e:=L c (ax n.1) d n.2.1;⟨e,n.1,fun e=>by rw[bA] at e;cases e;omega,n.2.2.eq e⟩) (bC.move (by show u.nx<=R.nx;omega) fun c d n=>have e:=L c (ax n.1) d (fun e=>by have:=n.1;have:=(B.blk e).2.1;omega);⟨e,ax n.1,fun e=>by rw[bA] at e;cases e;omega,n.2.eq e⟩)
 rintro o ⟨F,inr⟩ X ⟨rfl,rfl,N,A,i,pv,cs,an,v,B,O,hD,C,w,G,D⟩;simp only at C w G D;obtain rfl:i=g.ce.length:=by omega
 rw[Eo] at O;have bP:=(A S1.nx au au).trans a4;have I:jq S X:=⟨Aq q.1 N,fun c d=>(A c (ax q.1) au).trans (q.2 c d)⟩;have iX:aE 2 cC X s g.cg:=aE.moveB iZ N (fun c d=>A c (ac c d) (ab c d)) fun _ _ h=>h;refine am ?_
 refine bS (gj w G (ld3 v) ?_);refine dB (b:=S1.nx) (cs':=[jr g.ch,pv,s]) (ar w) (by refine am ?_;exact bB _) bP rfl rfl ?_;intro X' x' n' g';refine am ?_;apply aS;have bR:jq S X':=x'.jo I au;have M:=x'.1;have bU:fC 6 Z X' pv g.ce.length cs:=B.move M fun c d=>x'.2 c (B.blk d).2.1 (by have:=(B.blk d).1;omega);have bV:oG X' (fun c=>Z.nx<=c/\aN pv≠some c/\Wr X' c) cs g.ce:=O.move M fun c d n=>have e:=x'.2 c d (ax n.1);⟨e,n.1,n.2.1,n.2.2.eq e⟩;have bW:aE 2 cC X' s g.cg:=aE.moveB iX M (fun c d=>x'.2 c (Ae (ac c d) N) (by rcases k1 c d with h|h<;>omega)) fun _ _ h=>h;refine gj w @eI (ld3 g') ?_;exact⟨bR,pv,s,Z.nx,cs,rfl,ax q.1,bU,bV.move (Af _) (fun c _ n=>⟨rfl,ax q.1,n.2⟩),hD,bW⟩
end Go.Ev.Gl
