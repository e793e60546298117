import Derived.Test.YtbmodoaceepfoaaGl11
set_option linter.all false
open Nat renaming reduceEqDiff -> rE, reduceAdd -> rA
set_option maxHeartbeats 0
namespace Go.Ev.Gl
variable {fns:T eY}
variable {g:aX}{i c b n base K nb t:Nat}{S X X':St}{v nv iv xa xw xp:AV}{l:bu}{cs:cd}{x:cT}{suf:List AO}{Q:Out->bO->St->Prop}{F:Fr}{P P':Nat->Prop}
def aC7(hi:i<g.ch.length):g.ch[i]? =some (cv g (i:Int)):=by
 unfold cv;rw[Ay,Ad,Ab hi];rfl
def aMn(_:St)(cs:cd)(x:Int):Prop:=cs= [je x]
def aBZ:aCG aMn:=fun h _=>h
def toG(h:bN .i64 S v l):aG 1 aMn S v l:=by
 rcases h with h|⟨b,off,cap,o,cs,rfl,f,g,c,d⟩
 .exact .inl h
 .refine .inr ⟨b,off,cap,o,cs,rfl,f,g,c,fun i a hi=>⟨[je a],rfl,fun j x e=>?_,rfl⟩⟩;cases j with
  | zero=>simp at e;subst e;rw[Dm,Bs];exact d i a hi
  | succ j=>simp at e
def ofG(h:aG 1 aMn S v l):bN .i64 S v l:=by
 rcases h with h|⟨b,off,cap,o,cs,rfl,g,j,c,d⟩
 .exact .inl h
 .refine .inr ⟨b,off,cap,o,cs,rfl,g,j,c,fun i a hi=>?_⟩;have⟨e,_,k,f⟩:=d i a hi;have f:e= [je a]:=f;subst f;have:=k 0 _ rfl;rw[Dm,Bs] at this;exact this
def aG.moveB{k:Nat}{j:Type}{E:St->cd->j->Prop}{d:St}{l:List j}(h:aG k E S v l)(m:S.nx<=d.nx)(n:∀c,aM v=some c->d.h.get c=S.h.get c)(p:∀e a,E S e a->E d e a):aG k E d v l:=by
 rcases h with h|⟨b,off,cap,o,cs,rfl,q,r,f,g⟩
 .exact .inl h
 .refine .inr ⟨b,off,cap,o,cs,rfl,q,Ae r m,?_,fun i a hi=>?_⟩
  .unfold cI;rw[n b rfl];exact f
  .have⟨e,s,t,u⟩:=g i a hi;exact⟨e,s,t,p e a u⟩
def aS7{k:Nat}{m:Type}{E:St->cd->m->Prop}{l:List m}(w:0<k)(h:aG k E S v l):∃new,mP v=some l.length/\eU v S.h k l.length=some new/\∀i a,l[i]? =some a->∃e:cd,e.length=k/\(∀ (j:Nat) (x:AV),e[j]? =some x->new[i * k+j]? =some x)/\E S e a:=by
 rcases h with⟨rfl,h⟩|⟨b,off,cap,o,cs,rfl,y,z,c,d⟩
 .rcases h with rfl|rfl<;>exact⟨[],rfl,rfl,fun i a hi=>by simp at hi⟩
 .rcases Ci l.length with q|A
  .have r:l= []:=Bo.1 q;subst r;refine⟨[],rfl,?_,fun i a hi=>by simp at hi⟩;show(bG (cI S.h b) fun cs=>cut cs off (0 * k))=_;rw[c,aH,Dy];unfold cut;rw[iG,iP,if_pos (Ck _)];rfl
  .have s:off+l.length * k<=cs.length:=by
    have⟨e,n,f,_⟩:=d (l.length - 1) _ (Ab au);have:=f (k - 1) _ (Ab au);have B:=(Ai.1 this).1;have C:(l.length - 1) * k+k=l.length * k:=by
     rw[<-Dr];congr 1;omega
    omega
   refine⟨(cs.drop off).take (l.length * k),rfl,?_,fun i a hi=>?_⟩
   .show(bG (cI S.h b) fun cs=>cut cs off (l.length * k))=_;rw[c,aH];unfold cut;rw[iG,iP,if_pos (by rw[Dd];omega)]
   .have⟨e,n,f,t⟩:=d i a hi;refine⟨e,n,fun j x p=>?_,t⟩;have g:=(Ai.1 hi).1;have u:=(Ai.1 p).1;have D:i * k+k<=l.length * k:=by
     rw[<-Dr];exact Db k g
    rw[Em au,Fg];have:=f j x p;rw[Cy] at this;exact this
def Wr(X:St)(c:Nat):Prop:=∃cs o sz,X.h.get c=some (.cells cs o sz)
def Wr.eq(h:Wr X c)(e:X'.h.get c=X.h.get c):Wr X' c:=by
 have⟨cs,o,sz,h⟩:=h;exact⟨cs,o,sz,e.trans h⟩
def aDr{k bytes:Nat}{n:Type}{E:St->cd->n->Prop}{l:List n}(o:aCG E)(p:0<k)(g:S.h.get b=jf [])(m:b<S.nx)(h:aG k E S v l)(G:l.length<=room)(q:l.length * bytes<=room):
  ∃r d,gG bytes k (.sl b 0 0 0 false) v S=some (r,d)/\aG k E d r l/\Same S d/\(∀c,aM r=some c->c=b\/S.nx<=c)/\∀c,aM r=some c->Wr d c:=by
 have⟨new,s,t,u⟩:=aS7 p h;unfold gG;rw[s,aH,t,aH];show ∃r d,lR bytes k b 0 0 0 false l.length new S=some (r,d)/\_;unfold lR;rcases Ci l.length with w|H
 .have y:l= []:=Bo.1 w;subst y;refine⟨.sl b 0 0 0 false,S,rfl,.inr ⟨b,0,0,false,[],rfl,Af _,m,by unfold cI;rw[g];rfl,fun i a hi=>by simp at hi⟩,eu S,fun c f=>?_,fun c f=>?_⟩
  .cases f;exact .inl rfl
  .cases f;exact⟨_,_,_,g⟩
 .have z:Nat.ble (0+l.length) 0=false:=by
   rw[Cj];intro e;have:=Bc e;omega
  rw[z,aU,Ak au,aN,Ak (by rw[Am];exact q),aN,g,aH];have A:cut ([]:cd) 0 (0 * k)=some []:=by
   unfold cut;rw[iG,iP,Dy,if_pos (Ck _)];rfl
  show ∃r d,(bG (cut ([]:cd) 0 (0 * k)) fun old=>cC false _ (grown S.h S.nx (0+l.length) k (yX old new)))=some (r,d)/\_;rw[A,aH,aU];refine⟨_,_,rfl,.inr ⟨S.nx,0,l.length,true,new,by rw[Am],Af _,by simp,?_,fun i a hi=>?_⟩,Same.alloc S _,fun c f=>?_,fun c f=>?_⟩
  .unfold cI;simp only;rw[ef,if_pos rfl];rfl
  .have⟨e,B,C,D⟩:=u i a hi;exact⟨e,B,fun j x F=>by rw[Am];exact C j x F,o D (Same.alloc S _)⟩
  .cases f;exact .inr (Af _)
  .cases f;exact⟨_,_,_,jd⟩
def aMI{k bytes:Nat}{g:Type}{E:St->cd->g->Prop}{l:List g}(i:aCG E)(j:0<k)(m:S.h.get b=jf [])(f:b<S.nx)(h:aG k E S v l)(n:l.length<=room)(o:l.length * bytes<=room):
  ∃r e,gG bytes k (.sl b 0 0 0 false) v S=some (r,e)/\aG k E e r l/\Same S e/\∀c,aM r=some c->c=b\/S.nx<=c:=by
 have⟨r,e,a,p,c,d,_⟩:=aDr (bytes:=bytes) (E:=E) i j m f h n o;exact⟨r,e,a,p,c,d⟩
def aM7(p a:Int):nH .neq (.struct [(0,.int),(1,.int)]) (.agg [je p,je a]) (.agg [je p,je a])=some (.bool false):=by
 have e:∀z:Int,yL .int (je z) (je z)=some true:=fun z=>by
  show cC (keq .i64 .i64) (some (ieq z z)) none=_;rw[fO,aN,jG];simp
 show bG (eqs [(0,.int),(1,.int)] [je p,je a] [je p,je a]) (fun b=>some (AV.bool (cC b false true)))=_;have c:nth [AV.int .i64 p,je a] 0=some (je p):=rfl;have d:nth [AV.int .i64 p,je a] 1=some (je a):=rfl;simp only[eqs,c,d,e,aH,aN]
def aSC(S:St)(a b:AV)(n:Nat)(k:Nat)(A:bO)(X:St):Prop:=A.inr=false/\Same S X/\∃i:Nat,i+k=n/\aC 0 A.F=a/\aC 1 A.F=b/\aC 5 A.F=je (i:Int)
def aED{a b:AV}{l:List fU}(H:Has fns)(f:aG 2 cE S a l)(m:aG 2 cE S b l)(D:l.length<=140737488355328):iI fns (.fn 36 [] []) [a,b] S fun r S'=>r= .bool true/\Same S S':=by
 refine cK H.f36 (by simp) ?_;refine am ?_;refine cA (am ?_);refine gH (fo f.len m.len ?_);refine aQ (iz (Aa (show ¬ (l.length:Int)≠(l.length:Int) from fun h=>h rfl))) (aK ?_);refine am ?_
 refine aD (bB (Q:=fun o t X=>o= .normal/\t.inr=false/\Same S X) (aD (aL ?_)) ?_)
 .refine am ?_;refine aO (bX (aSC S a b l.length) ?_ l.length _ _ ⟨rfl,eu _,0,au,by refine⟨?_,?_,?_⟩<;>simp only[↓aF,aE,rE,↓reduceIte,rA]⟩);rintro k ⟨F,inr⟩ X ⟨d,c,i,u,g,n,j⟩;simp only at d g n j;subst d;refine gH (ft g j f.len ?_);by_cases e:i<l.length
  .refine aS io (aK ?_);refine am ?_
   have⟨v,G,I,w,_,_,p,x,_⟩:=aG.at (aG.same (E:=cE) cB f c) az (Ab e);have⟨y,J,K,z,_,_,q,lb,_⟩:=aG.at (aG.same (E:=cE) cB m c) az (Ab e);have p:v= [je l[i].player,je l[i].cr]:=p;have q:y= [je l[i].player,je l[i].cr]:=q;subst p;subst q;have s:=aCg (eM .i64 l[i].player) (eM .i64 l[i].cr);have A:=aG.self f;have B:=aG.self m;have C:=ed i
   refine aD (aO (aD (jK ?_)));simp only[↓aF,aE,rE,↓reduceIte,rA,g,n,j,aJ,w,z,x,lb,s,aM7,A,B];refine aQ (aq) (aK ?_);refine am ?_
   refine aL (fo j C ?_);exact⟨k - 1,au,rfl,c.trans (Same.nx _ _),i+1,au,by refine⟨?_,?_,?_⟩<;>simp only[↓aF,aE,rE,↓reduceIte,rA,g,n]⟩
  .refine aQ io (bT ?_);refine am ?_;exact c
 rintro o ⟨F,inr⟩ X ⟨rfl,d,c⟩;simp only at d;subst d;refine am ?_
 refine cA (am ?_);refine aT (am ?_);exact c
def aDF{ds:cd}{x:cJ}(H:Has fns)(q:cF S cs x)(s:cF S ds x)(t:x.next.length * 8<=140737488355328/\x.weights.length * 8<=140737488355328/\x.pay.length * 8<=140737488355328):iI fns (.fn 37 [] []) [.agg cs,.agg ds] S fun r S'=>r= .bool true/\Same S S':=by
 obtain⟨xa,xw,xp,rfl,h,i,j⟩:=q;obtain⟨v,w,y,rfl,k,l,hyp⟩:=s;have⟨z,A,B⟩:=t;refine cK H.f37 (by simp) ?_;refine am (cA ?_);refine cR (by exact am (aY _)) ?_;intro S1 s1 C u;refine cR (by exact am (aY _)) ?_;intro m s2 D c;refine am ?_;have d1:m.h.get S.nx=_:=(s2.2 _ au).trans u;have n:=s1.trans s2;have o:S.nx<m.nx:=by omega
 have p:S1.nx<m.nx:=by omega
 refine cA ?_;simp only[↓sU,sD,rE,↓reduceIte,rA,aB,aA,fI d1,fI c,eH d1,eH c,dF d1,dF c,dG d1,dG c,Fm];refine bK (ae (aW (tI H (h.same n) (k.same n) au) ?_));rintro _ E ⟨rfl,s3⟩;rw[Ac rfl];have d:=(s3.2 _ o).trans d1;have e:=(s3.2 _ p).trans c;have a:=n.trans s3;refine fe @aB @aA (dT d) (dT e) ?_;refine bK (ae (aW (tI H (i.same a) (l.same a) au) ?_));rintro _ F ⟨rfl,s4⟩;rw[Ac rfl];have f:=(s4.2 _ (Ae o s3.1)).trans d;have g:=(s4.2 _ (Ae p s3.1)).trans e;have b:=a.trans s4;refine fe @aB @aA (eX f) (eX g) ?_;refine bK (ae (aW (tI H (j.same b) (hyp.same b) au) ?_));rintro _ G ⟨rfl,s5⟩;rw[Ac rfl]
 refine aT (ae ?_)
 exact b.trans s5
theorem aKU{Q:DS->Prop}:∀ {pre:List AO} {i:Nat} {D:DS},wpd fns pre i base D (fun d=>wpd fns suf (i+pre.length) base d Q)->wpd fns (pre++suf) i base D Q:=by
 intro pre i D h;obtain⟨n,D1,e,k,j,f,l⟩:=h;refine⟨max n k,j,?_,l⟩;have c:=uT (lQ fns (Fd n k)).call e;have b:=uT (lQ fns (Eu n k)).call f;clear e f
 induction pre generalizing i D with
 | nil=>cases c;exact b
 | cons o os m=>
  show bG (tV o i base (ev fns (max n k)).call D) _=_;have a:bG (tV o i base (ev fns (max n k)).call D) (fun d=>xM os (i+1) base (ev fns (max n k)).call d)=some D1:=c;cases g:tV o i base (ev fns (max n k)).call D with
  | none=>rw[g] at a;cases a
  | some d=>
   rw[g,aH] at a;rw[aH];exact m a (by rw[Ax] at b;rw[show i+1+os.length=i+(os.length+1) by omega];exact b)
def Low(K:Nat)(D:DS):Prop:=(∀e∈D.hs,e.1<K)/\∀l∈D.ls,l.i<K/\l.mask<2 ^ K
theorem aPC{call:fX}{o:AO}{D D':DS}(h:tV o i base call D=some D')(hi:i<K)(n:o.mask<2 ^ K)(f:Low K D):Low K D':=by
 unfold tV at h;cases j:fT o.grd D.F with
 | false=>rw[j,aU] at h;cases h;exact f
 | true=>
  rw[j,aN] at h;have⟨d,op,g,m⟩:=o;cases op with
  | q q=>
   have h:bG (gO q D.F D.S.h) (fun v=>some (⟨cU d D.F v,D.S,D.ps,D.hs,cC (eE q) (⟨q,D.F,v,i,m⟩::D.ls) D.ls⟩:DS))=some D':=h;cases b:gO q D.F D.S.h with
   | none=>rw[b] at h;cases h
   | some v=>
    rw[b,aH] at h;cases h;refine⟨f.1,fun l c=>?_⟩;simp only at c;cases k:eE q with
    | false=>rw[k,aU] at c;exact f.2 l c
    | true=>
     rw[k,aN] at c;rcases Bp.1 c with rfl|c
     .exact⟨hi,n⟩
     .exact f.2 l c
  | a a=>
   have h:bG (uH a D.F (base+i)) (fun r=>some (⟨cU d D.F r.1,D.S,⟨i,base+i,r.2⟩::D.ps,D.hs,D.ls⟩:DS))=some D':=h;cases b:uH a D.F (base+i) with
   | none=>rw[b] at h;cases h
   | some v=>rw[b,aH] at h;cases h;exact f
  | x x=>
   have h:cC (kN D.hs m) (bG (evX x call D.F ⟨(cP m D.ps D.S.h).2,D.S.nx⟩) fun r=>some (⟨cU d D.F r.1,r.2,(cP m D.ps D.S.h).1,(i,m,r.2.h)::D.hs,D.ls⟩:DS)) none=some D':=h;cases c:kN D.hs m with
   | false=>rw[c,aU] at h;cases h
   | true=>
    rw[c,aN] at h;cases b:evX x call D.F ⟨(cP m D.ps D.S.h).2,D.S.nx⟩ with
    | none=>rw[b] at h;cases h
    | some v=>
     rw[b,aH] at h;cases h;refine⟨fun e b=>?_,f.2⟩;rcases Bp.1 b with rfl|b
     .exact hi
     .exact f.1 e b
theorem aEF{call:fX}{base K:Nat}:∀ {l:List AO} {i:Nat} {D D':DS},xM l i base call D=some D'->i+l.length<=K->(∀o∈l,o.mask<2 ^ K)->Low K D->Low K D'
 | [],i,D,D',h,_,_,a=>by cases h;exact a
 | o::os,i,D,D',h,hi,c,a=>by
  have h:bG (tV o i base call D) (fun D'=>xM os (i+1) base call D')=some D':=h;rw[Ax] at hi;cases b:tV o i base call D with
  | none=>rw[b] at h;cases h
  | some e=>
   rw[b,aH] at h;exact aEF h au (fun o d=>c o (Bf _ d)) (aPC b au (c o (Bk ..)) a)
theorem aEI{W:Nat->Prop}{d:T AB}{base K m:Nat}{h':T AB}{r:List (Nat×Nat×T AB)}{l:mC}(h:cO l.v l.v=true/\aCt W base l.q l.F/\gO l.q l.F d=some l.v)(f:l.i<K/\l.mask<2 ^ K)(p:∀i,i<K->Nat.testBit m i=true):∀ {c:List (Nat×Nat×T AB)} {a:T AB},(∀e∈c,∀b,b<base->¬W b->e.2.2.get b=d.get b)->(∀b,b<base->¬W b->a.get b=d.get b)->fA l (c++(K,m,h')::r) a=true
 | [],a,_,g=>by
  have j:oY l.v (gO l.q l.F a)=true:=by rw[h.2.1.ev g,h.2.2];exact h.1
  have k:Nat.testBit l.mask K=false:=Nat.testBit_lt_two_pow f.2;show fA l ((K,m,h')::r) a=true;unfold fA;rw[k,aU,j,aN,p _ f.1,aN]
 | (i,n,o)::q,a,c,g=>by
  have j:oY l.v (gO l.q l.F a)=true:=by rw[h.2.1.ev g,h.2.2];exact h.1
  have k:fA l (q++(K,m,h')::r) o=true:=aEI h f p (fun e s=>c e (by simp [s])) (c (i,n,o) (by simp));show fA l ((i,n,o)::(q++(K,m,h')::r)) a=true;unfold fA;rw[j,k];cases Nat.testBit l.mask i<;>cases Nat.testBit n l.i<;>rfl
def oO{W:Nat->Prop}{a pre:List AO}{A:bO}{R:Fr->St->List iR->Prop}(b:a=pre++suf)(q:pre.length=K)(f:(pre.all fun o=>decide (o.mask<2 ^ K))=true)
  (h:∀S1,Same S S1->S1.h=S.h->S1.nx=S.nx+a.length->gF fns W S.h S.nx pre 0 A.F S1 [] none R)
  (s:∀F g ps c ls,R F g ps->(∀m,(∀i,i<K->Nat.testBit m i=true)->kN c m=true)->(∀m h' r,(∀i,i<K->Nat.testBit m i=true)->iB S.h (c.reverse++(K,m,h')::r) ls=true)->wpd fns suf K S.nx ⟨F,g,ps,c,ls⟩ fun D'=>iB S.h D'.hs.reverse D'.ls=true/\Q .normal ⟨D'.F,A.inr⟩ ⟨(cP (2 ^ a.length - 1) D'.ps D'.S.h).2,D'.S.nx⟩):jP fns (.drw a) A S Q:=by
 apply qZ;have⟨n,D',j,t,k⟩:=nG (fns:=fns) (i:=0) (D:=⟨A.F,⟨S.h,S.nx+a.length⟩,[],[],[]⟩) (last:=none) ⟨fun _ _ _=>rfl,Bq _ _,fun e b=>(by cases b),fun l d=>(by cases d),fun p u=>(by cases u)⟩ rfl (h ⟨S.h,S.nx+a.length⟩ (Same.nx S _) rfl rfl);have low:Low K D':=aEF j au (fun o v=>by have:=Dp.1 f o v;simpa using this) ⟨fun e b=>(by cases b),fun l d=>(by cases d)⟩;have⟨F,g,ps,c,ls⟩:=D';have w:=s F g ps c ls t (fun m f=>by
  cases c with
  | nil=>rfl
  | cons e r=>exact f _ (low.1 e (Bk ..))) (fun m h' r f=>nT fun l d=>aEI (k.lds l d) (low.2 l d) f (fun e b=>k.chain e (List.mem_reverse.1 b)) (fun _ _ _=>rfl))
 have:wpd fns a 0 S.nx ⟨A.F,⟨S.h,S.nx+a.length⟩,[],[],[]⟩ fun D'=>iB S.h D'.hs.reverse D'.ls=true/\Q .normal ⟨D'.F,A.inr⟩ ⟨(cP (2 ^ a.length - 1) D'.ps D'.S.h).2,D'.S.nx⟩:=by
  subst b;refine aKU ⟨n,_,j,?_⟩;rw[Am,q];exact w
 exact this
def aTi(S:St)(b cb:Option AB)(a gb:Nat)(n:Nat)(k:Nat)(A:bO)(X:St):Prop:=A.inr=false/\Same S X/\a<X.nx/\gb<X.nx/\X.h.get a=b/\X.h.get gb=cb/\∃i:Nat,i+k=n/\aC 2 A.F= .ptr a 0/\aC 3 A.F= .ptr gb 0/\aC 5 A.F=je (i:Int)
def aFi{mv l:AV}(H:Has fns)(m:aG 6 cF S nv g.cg)(hi:aG 2 cE S iv g.ch)(u:aG 6 cF S mv g.cg)(hj:aG 2 cE S l g.ch)(T:aQ2 g)(aa:g.cg.length<=100000):
  iI fns (.fn 14 [] []) [.agg [je g.cm,nv,iv],.agg [je g.cm,mv,l]] S fun r S'=>r= .bool true/\Same S S':=by
 refine cK H.f14 (by simp) ?_;refine ae ?_;refine cA ?_;refine cR (cs:=[je g.cm,nv,iv]) rfl ?_;intro S1 s1 n1 c1;refine cR (cs:=[je g.cm,mv,l]) rfl ?_;intro U s2 n2 n;refine ae ?_;have d1:=(s2.2 _ (au:S.nx<S1.nx)).trans c1;have v:=s1.trans s2;have W:S.nx<U.nx:=by omega
 have l2:S1.nx<U.nx:=by omega
 refine gH ?_;simp only[↓sU,sD,rE,↓reduceIte,rA,aB,aA,qV d1,qV n,fV d1,fV n,iS d1,iS n,m.len,u.len,ne_eq,Ct,decide_false];refine bK (ae ?_);refine aW (aED H (aG.same (E:=cE) cB hi v) (aG.same (E:=cE) cB hj v) (ax T.1)) ?_;rintro _ X ⟨rfl,c⟩;have sX:=v.trans c;have dX:=(c.2 _ W).trans d1;have cX:=(c.2 _ l2).trans n;refine ew @fY @Cm ?_;refine aQ (af) (aK ?_);refine ae ?_
 refine aD (bB (Q:=fun o A' Z=>o= .normal/\A'.inr=false/\Same S Z) (aD (aL ?_)) ?_)
 .refine ae ?_;refine aO (bX (aTi S (jf [je g.cm,nv,iv]) (jf [je g.cm,mv,l]) S.nx S1.nx g.cg.length) ?_ g.cg.length _ _ ⟨rfl,sX,Ae W c.1,Ae l2 c.1,dX,cX,0,au,by refine⟨?_,?_,?_⟩<;>simp only[↓sU,sD,rE,↓reduceIte,rA]⟩);rintro k ⟨F,inr⟩ V ⟨d,p,w,lb,y,cV,i,ab,q,z,s⟩;simp only at d q z s;subst d;refine gH (fg q s @aB @aA (fV y) m.len ?_);by_cases b:i<g.cg.length;rotate_left
  .refine aQ im (bT ?_);refine ae ?_;exact p
  refine aS im (aK ?_);refine ae ?_
  have e:cu g i∈g.cg:=Ar (dI b);have⟨_,bx,qx,A,B,_,f,C,_⟩:=aG.at (aG.same (E:=cF) bQ m p) az (dI b);have⟨_,ac,qy,D,G,_,j,I,_⟩:=aG.at (aG.same (E:=cF) bQ u p) az (dI b);have sx:∀ {cs},cF V cs (cu g i)->cO (.agg cs) (.agg cs)=true:=fun {cs} h=>by
   obtain⟨xa,xw,xp,rfl,J,K,L⟩:=h;exact zQ (eM ..) (eM ..) (eM ..) (bN.self J) (bN.self K) (bN.self L)
  have M:=sx f;have N:=sx j;have O:=aG.self m;have P:=aG.self u;have w0:=ed i
  refine aD (aO (aD (iD (fun _=>False) ?_)));intro Y R;simp only[↓sU,sD,rE,↓reduceIte,rA,q,z,s,aB,aP,aA,fV y,fV cV,w,lb,An,O,P,aJ,A,D,C,I,B,G,M,N];refine dR rfl ?_;refine ae ?_;refine aW (aDF (x:=cu g i) H (bQ f R) (bQ j R) (T.2 _ e)) ?_;rintro _ Z ⟨rfl,t⟩;refine⟨t,?_⟩;have a:=R.trans t;simp only[↓sU,sD,rE,↓reduceIte,rA,fY,Cm]
  refine aQ (af) (aK ?_);refine ae ?_
  refine aL (ew s w0 ?_);exact⟨k - 1,au,rfl,p.trans a,Ae w a.1,Ae lb a.1,(a.2 _ w).trans y,(a.2 _ lb).trans cV,i+1,au,by refine⟨?_,?_,?_⟩<;>simp only[↓sU,sD,rE,↓reduceIte,rA,q,z]⟩
 rintro o ⟨F,inr⟩ Z ⟨rfl,d,t⟩;simp only at d;subst d;refine ae ?_
 refine cA (ae ?_);refine aT (ae ?_);exact t
def aTE(W:St)(F:Fr)(nb:Nat)(a b d:bu)(F':Fr)(Z:St)(ps:List iR):Prop:=ps= []/\Same W Z/\(∀j,j<6->aC j F'=aC j F)/\aC 37 F'= .ptr nb (0+3)/\bN .i64 Z (aC 28 F') a/\bN .i64 Z (aC 32 F') b/\bN .i64 Z (aC 36 F') d/\(∀c,(aM (aC 28 F')=some c\/aM (aC 32 F')=some c\/aM (aC 36 F')=some c)->W.nx<=c)/\(∀c,aM (aC 28 F')=some c->aM (aC 32 F')≠some c/\aM (aC 36 F')≠some c)/\∀c,(aM (aC 28 F')=some c\/aM (aC 32 F')=some c\/aM (aC 36 F')=some c)->Wr Z c
def aBo{d:Type}{k:Nat}{E:St->cd->d->Prop}{l:List d}(h:aG k E S v l)(a:aM v=some c):c<S.nx:=by
 rcases h with⟨_,rfl|rfl⟩|⟨b,off,cap,o,cs,rfl,_,e,_⟩
 .cases a
 .cases a
 .cases a;exact e
def eT{a:St}(h:bN .i64 S v l)(b:S.nx<=a.nx)(d:∀c,aM v=some c->a.h.get c=S.h.get c):bN .i64 a v l:=ofG (aG.moveB (toG h) b d fun _ _ h=>h)
def aOo{W Y:St}{k p f:AV}{l1 l2 w:bu}(x:aC 5 F= .ptr nb 0)(y:W.h.get nb=jf [k,p,f,xa,xw,xp])(lb:nb<W.nx)(N:bN .i64 W xa l1)(O:bN .i64 W xw l2)(P:bN .i64 W xp w)(b1:l1.length * 8<=140737488355328)(b2:l2.length * 8<=140737488355328)(b3:w.length * 8<=140737488355328)
  (Q:Same W Y) (S:Y.nx=W.nx+18):gF fns (fun _=>False) W.h W.nx aQk 0 F Y [] none (aTE W F nb l1 l2 w):=by
 have s1:=bN.self N;have s2:=bN.self O;have s3:=bN.self P;unfold aQk;simp only[↓sU,sD,rE,↓reduceIte,rA,x,aB,aP,aA,dG y,lb,An,s1,sK];obtain⟨U1,g⟩:∃U:St,U=⟨Y.h.set (W.nx+0) (jf []),Y.nx⟩:=⟨_,rfl⟩;have n:Same W U1:=by rw[g];exact⟨Q.1,fun c a=>by simp only;rw[ef,if_neg au];exact Q.2 c a⟩
 have z:U1.h.get (W.nx+0)=jf []:=by rw[g];simp only;rw[ef,if_pos rfl]
 have T:U1.nx=W.nx+18:=by rw[g];exact S
 have⟨R,A,V,B,v1,o,X⟩:=aDr (bytes:=8) (E:=aMn) (l:=l1) aBZ Nat.one_pos z au (toG (N.same n)) ay ay;refine oS rfl (by rw[cL rfl];refine ae ?_;rw[<-g];exact V) ?_ ?_
 .rw[cL rfl,<-g];exact⟨v1.1,fun c a _=>v1.2 c au⟩
 rw[cL rfl];have r:=n.trans v1;simp only[↓sU,sD,rE,↓reduceIte,rA,x,aB,aP,aA,dT y,lb,An,s2,sK];obtain⟨U2,d⟩:∃U:St,U=⟨A.h.set (W.nx+4) (jf []),A.nx⟩:=⟨_,rfl⟩;have s:Same W U2:=by rw[d];exact⟨r.1,fun c a=>by simp only;rw[ef,if_neg au];exact r.2 c a⟩
 have C:U2.h.get (W.nx+4)=jf []:=by rw[d];simp only;rw[ef,if_pos rfl]
 have Z:U2.nx=A.nx:=by rw[d]
 have aa:=v1.1;have D:bN .i64 U2 R l1:=eT (ofG B) au fun c a=>by
  rw[d];simp only;rw[ef,if_neg (by rcases o c a with h|h<;>omega)]
 have⟨r2,G,e2,H,m,t,w2⟩:=aDr (bytes:=8) (E:=aMn) (l:=l2) aBZ Nat.one_pos C au (toG (O.same s)) ay ay;refine oS rfl (by rw[cL rfl];refine ae ?_;rw[<-d];exact e2) ?_ ?_
 .rw[cL rfl,<-d];exact⟨m.1,fun c a _=>m.2 c au⟩
 rw[cL rfl];have u:=s.trans m;have I:=D.same m;simp only[↓sU,sD,rE,↓reduceIte,rA,x,aB,aP,aA,eX y,lb,An,s3,sK];obtain⟨U3,b⟩:∃U:St,U=⟨G.h.set (W.nx+8) (jf []),G.nx⟩:=⟨_,rfl⟩;have v:Same W U3:=by rw[b];exact⟨u.1,fun c a=>by simp only;rw[ef,if_neg au];exact u.2 c a⟩
 have J:U3.h.get (W.nx+8)=jf []:=by rw[b];simp only;rw[ef,if_pos rfl]
 have ab:U3.nx=G.nx:=by rw[b]
 have ac:=m.1;have K:bN .i64 U3 R l1:=eT I au fun c a=>by
  rw[b];simp only;rw[ef,if_neg (by rcases o c a with h|h<;>omega)]
 have L:bN .i64 U3 r2 l2:=eT (ofG H) au fun c a=>by
  rw[b];simp only;rw[ef,if_neg (by rcases t c a with h|h<;>omega)]
 have⟨r3,V3,e3,i3,i,M,w3⟩:=aDr (bytes:=8) (E:=aMn) (l:=w) aBZ Nat.one_pos J au (toG (P.same v)) ay ay;refine oS rfl (by rw[cL rfl];refine ae ?_;rw[<-b];exact e3) ?_ ?_
 .rw[cL rfl,<-b];exact⟨i.1,fun c a _=>i.2 c au⟩
 rw[cL rfl];refine fe x @aB @aP @aA ?_;refine⟨rfl,v.trans i,fun j hj=>?_,af,by refine ae ?_;exact K.same i,by refine ae ?_;exact L.same i,by refine ae ?_;exact ofG i3,fun c a=>?_,fun c a=>?_,fun c a=>?_⟩
 .have:j=0\/j=1\/j=2\/j=3\/j=4\/j=5:=by omega
  rcases this with rfl|rfl|rfl|rfl|rfl|rfl<;>simp only[↓sU,sD,rE,↓reduceIte,rA]
 .simp only[↓sU,sD,rE,↓reduceIte,rA] at a;rcases a with h|h|h
  .rcases o c h with h|h<;>omega
  .rcases t c h with h|h<;>omega
  .rcases M c h with h|h<;>omega
 .simp only[↓sU,sD,rE,↓reduceIte,rA] at a ⊢;have an:=aBo B a;have ao:=fun h=>aBo H (c:=c) h;rcases o c a with h|h
  .refine⟨fun e=>?_,fun e=>?_⟩
   .rcases t c e with h|h<;>omega
   .rcases M c e with h|h<;>omega
  .refine⟨fun e=>?_,fun e=>?_⟩
   .rcases t c e with h|h<;>omega
   .rcases M c e with h|h<;>omega
 .simp only[↓sU,sD,rE,↓reduceIte,rA] at a;rcases a with h|h|h
  .refine((X c h).eq ?_);have:=aBo B h;have q:=o c h;rw[i.2 c au,b];simp only;rw[ef,if_neg au,m.2 c au,d];simp only;rw[ef,if_neg au]
  .refine((w2 c h).eq ?_);have:=aBo H h;have q:=t c h;rw[i.2 c au,b];simp only;rw[ef,if_neg au]
  .exact w3 c h
def aPD{r:List AO}{W:St}{inr:Bool}{k p f:AV}{y z A:bu}(P:r=aQk++aRH)(T:aC 5 F= .ptr nb 0)(U:W.h.get nb=jf [k,p,f,xa,xw,xp])(lb:nb<W.nx)(X:bN .i64 W xa y)(Y:bN .i64 W xw z)(h3:bN .i64 W xp A)(b1:y.length * 8<=140737488355328)(b2:z.length * 8<=140737488355328)(b3:A.length * 8<=140737488355328)
  (hQ:∀F' Z a d m,(∀j,j<6->aC j F'=aC j F)->cD nb W Z->Z.h.get nb=jf [k,p,f,a,d,m]->bN .i64 Z a y->bN .i64 Z d z->bN .i64 Z m A->(∀c,(aM a=some c\/aM d=some c\/aM m=some c)->W.nx<=c)->(∀c,aM a=some c->aM d≠some c/\aM m≠some c)->(∀c,(aM a=some c\/aM d=some c\/aM m=some c)->Wr Z c)->Q .normal ⟨F',inr⟩ Z):jP fns (.drw r) ⟨F,inr⟩ W Q:=by
 have w:r.length=18:=by rw[P];rfl
 refine oO (K:=13) (R:=aTE W F nb y z A) P rfl rfl (fun S1 s h n=>aOo T U lb X Y h3 b1 b2 b3 s (by rw[n,w])) ?_;rintro F' e ps hs ls ⟨rfl,B,V,C,D,E,G,b,o,q⟩ t H;have x:aC 5 F'= .ptr nb 0:=(V 5 au).trans T;have I:=(B.2 _ lb).trans U;generalize J:aC 28 F'=a at D b o q;generalize L:aC 32 F'=d at E b o q;generalize M:aC 36 F'=m at G b o q;have m1:∀i,i<13->Nat.testBit 8191 i=true:=by decide
 unfold aRH;refine iQ (v:=.undef) (S1:=⟨e.h.set nb (jf [k,p,f,a,xw,xp]),e.nx⟩) (t _ m1) (fun call=>?_) ?_
 .rw[dL];simp only[fE,C,J,bL,bN.cells D,aH];exact xO (S:=e) I (by simp)
 simp only[iW,dH,aB,aA,aP,aU,fE,bL,fC,bH,x,rE,↓reduceIte,rA];refine iQ (v:=.undef) (S1:=⟨(e.h.set nb (jf [k,p,f,a,xw,xp])).set nb (jf [k,p,f,a,d,xp]),e.nx⟩) (az:Nat.testBit 32767 13=true) (fun call=>?_) ?_
 .rw[dL];simp only[fE,bH,rE,↓reduceIte,L,bL,bN.cells E,aH];exact xO (cs:=[k,p,f,a,xw,xp]) (p:=4) (S:=⟨e.h.set nb (jf [k,p,f,a,xw,xp]),e.nx⟩) jd (by simp)
 simp only[iW,dH,aB,aA,aP,aU,fE,bL,fC,bH,x,rE,↓reduceIte,rA];refine iQ (v:=.undef) (S1:=⟨((e.h.set nb (jf [k,p,f,a,xw,xp])).set nb (jf [k,p,f,a,d,xp])).set nb (jf [k,p,f,a,d,m]),e.nx⟩) (az:Nat.testBit 131071 15=true) (fun call=>?_) ?_
 .rw[dL];simp only[fE,bH,rE,↓reduceIte,M,bL,bN.cells G,aH];exact xO (cs:=[k,p,f,a,d,xp]) (p:=5) (S:=⟨(e.h.set nb (jf [k,p,f,a,xw,xp])).set nb (jf [k,p,f,a,d,xp]),e.nx⟩) jd (by simp)
 rw[iC];refine⟨?_,?_⟩
 .simp only[Ce,Bg,Da,Cf,Bw];exact H _ _ _ m1
 .simp only[bL,fC];have u:∀ {v:AV} {l:bu},bN .i64 e v l->(∀c,aM v=some c->W.nx<=c)->bN .i64 ⟨((e.h.set nb (jf [k,p,f,a,xw,xp])).set nb (jf [k,p,f,a,d,xp])).set nb (jf [k,p,f,a,d,m]),e.nx⟩ v l:=fun {v l} h g=>eT h (Af _) fun c N=>by
   have:=g c N;simp only;rw[ef,if_neg au,ef,if_neg au,ef,if_neg au]
  refine hQ _ _ a d m (fun j hj=>?_) ⟨B.1,fun c g O=>?_⟩ jd (u D fun c g=>b c (.inl g)) (u E fun c g=>b c (.inr (.inl g))) (u G fun c g=>b c (.inr (.inr g))) b o (fun c g=>(q c g).eq (by have:=b c g;simp only;rw[ef,if_neg au,ef,if_neg au,ef,if_neg au]))
  .rw[bH,if_neg au,bH,if_neg au];exact V j hj
  .simp only;rw[ef,if_neg O,ef,if_neg O,ef,if_neg O];exact B.2 c g
def aBs(X:St)(P:Nat->Prop)(e:cd)(a:cJ):Prop:=∃xa xw xp,e= [je a.kind,je a.player,je a.info,xa,xw,xp]/\bN .i64 X xa a.next/\bN .i64 X xw a.weights/\bN .i64 X xp a.pay/\∀c,(aM xa=some c\/aM xw=some c\/aM xp=some c)->P c
def oD(X:St)(P:Nat->Prop)(cs:cd)(l:List cJ):Prop:=cs.length=l.length * 6/\∀ (j:Nat) (a:cJ),l[j]? =some a->∃e:cd,e.length=6/\(∀ (q:Nat) (x:AV),e[q]? =some x->cs[j * 6+q]? =some x)/\aBs X P e a
def dP{k:IntKind}(h:bN k X v l)(a:aM v=some c):c<X.nx:=by
 rcases h with⟨_,rfl|rfl⟩|⟨b,off,cap,o,cs,rfl,_,d,_⟩
 .cases a
 .cases a
 .cases a;exact d
def aBs.move{e:cd}{a:cJ}(h:aBs X P e a)(g:X.nx<=X'.nx)(d:∀c,c<X.nx->P c->X'.h.get c=X.h.get c/\P' c):aBs X' P' e a:=by
 obtain⟨xa,xw,xp,rfl,i,j,k,f⟩:=h;refine⟨xa,xw,xp,rfl,eT i g fun c b=>(d c (dP i b) (f c (.inl b))).1,eT j g fun c b=>(d c (dP j b) (f c (.inr (.inl b)))).1,eT k g fun c b=>(d c (dP k b) (f c (.inr (.inr b)))).1,fun c b=>?_⟩;rcases b with b|b|b
 .exact(d c (dP i b) (f c (.inl b))).2
 .exact(d c (dP j b) (f c (.inr (.inl b)))).2
 .exact(d c (dP k b) (f c (.inr (.inr b)))).2
def oD.move{l:List cJ}(h:oD X P cs l)(b:X.nx<=X'.nx)(d:∀c,c<X.nx->P c->X'.h.get c=X.h.get c/\P' c):oD X' P' cs l:=
 ⟨h.1,fun j a f=>by
  have⟨e,g,i,k⟩:=h.2 j a f;exact⟨e,g,i,k.move b d⟩⟩
def oD.push{e:cd}{l:List cJ}{a:cJ}(h:oD X P cs l)(k:aBs X P e a):oD X P (cs++e) (l++ [a]):=by
 have m:e.length=6:=by
  obtain⟨_,_,_,rfl,_⟩:=k;rfl
 refine⟨by rw[Aj,h.1,m,Aj,Ba,Du],fun j b c=>?_⟩;rw[Ec] at c;split at c
 .have⟨n,o,p,r⟩:=h.2 j b c;refine⟨n,o,fun q x d=>?_,r⟩;have:=p q x d;rw[Ao (Ai.1 this).1];exact this
 .rename_i s;have f:j - l.length=0:=by
   rcases Ci (j - l.length) with g|g
   .exact g
   .have⟨q,d⟩:=Nat.exists_eq_succ_of_ne_zero (Nat.pos_iff_ne_zero.1 g);rw[d] at c;simp at c
  rw[f] at c;simp at c;subst c;have i:j=l.length:=by omega
  subst i;refine⟨e,m,fun q x d=>?_,k⟩;rw[Ap (by rw[h.1];omega),h.1,Nat.add_sub_cancel_left];exact d
def aFo{id:Nat}{k p f z0 z1 z2 z3 a b:AV}(c:x.val F= .agg [k,p,f,xa,xw,xp]):uH (.dd t 6 1 [z0,z1,z2,z3,a,b] [(0,x)]) F id=some (.sl id 0 1 1 false,.cells [k,p,f,xa,xw,xp] false 0):=by
 show(bG (eI (repeatL [z0,z1,z2,z3,a,b] 1) [(0 * 6,6,x.val F)]) fun cs=>some (AV.sl id 0 1 1 false,AB.cells cs false 0))=_;rw[c];show(bG (bG (AV.cells (.agg [k,p,f,xa,xw,xp])) _) _)=_;rw[aY,aH];rfl
def aUm{k p f:AV}{o:Bool}{sz:Nat}(h:S.h.get t=some (.cells [k,p,f,xa,xw,xp] o sz)):eU (.sl t 0 1 1 false) S.h 6 1=some [k,p,f,xa,xw,xp]:=by
 show bG (cI S.h t) (fun cs=>cut cs 0 (1 * 6))=_;unfold cI;rw[h];rfl
def fP.appB{k m bytes:Nat}{S0:St}{x:AV}{new:cd}(h:fP k S0 S v n cs)(d:Same S0 S)(l:mP x=some m)(o:eU x S.h k m=some new)(p:new.length=m * k)(z:0<m)(q:n+m<=room)(g:(n+m) * bytes<=room):
  ∃v' f,gG bytes k v x S=some (v',f)/\fP k S0 f v' (n+m) (cs++new)/\Same S0 f/\S.nx<=f.nx/\(∀c,c<S.nx->aM v≠some c->f.h.get c=S.h.get c)/\aM v'=some S.nx:=by
 rcases h with⟨rfl,rfl,rfl⟩|⟨b,rfl,r,A,s,a⟩
 .refine⟨.sl S.nx 0 m m true,⟨S.h.set S.nx (some (.cells new true k)),S.nx+1⟩,?_,.inr ⟨S.nx,by rw[Am],d.1,by simp,?_,by rw[Am];exact p⟩,d.trans (Same.alloc S _),by simp,fun c a _=>(Same.alloc S _).2 c a,rfl⟩
  .show(bG (mP x) fun j=>bG (eU x S.h k j) fun new=>aAA .ct bytes k j new S)=_;rw[l,aH,o,aH];show qS bytes k m new S=_;unfold qS;rw[show Nat.beq m 0=false from Cj.2 fun e=>by rw[Bl] at e;omega,aU,Ak au,aN,Ak (by rw[Am] at g;exact g),aN];rfl
  .simp only;rw[ef,if_pos rfl];rfl
 .refine⟨.sl S.nx 0 (n+m) (n+m) true,⟨(S.h.set b none).set S.nx (some (.cells (cs++new) true k)),S.nx+1⟩,?_,.inr ⟨S.nx,rfl,d.1,by simp,?_,by rw[Aj,a,p,Du]⟩,⟨Av d.1 (by simp),fun c a=>?_⟩,by simp,fun c a i=>?_,rfl⟩
  .show(bG (mP x) fun j=>bG (eU x S.h k j) fun new=>aAA (.sl b 0 n n true) bytes k j new S)=_;rw[l,aH,o,aH];show lR bytes k b 0 n n true m new S=_;unfold lR;have t:Nat.ble (n+m) n=false:=by rw[Cj];intro h;have:=Bc h;omega
   rw[t,aU,Ak q,aN,Ak g,aN,s,aH];have u:cut cs 0 (n * k)=some cs:=by
    unfold cut;rw[iG,iP,Dn,if_pos au,Bd au]
   have w:Nat.beq (0+n * k) (mF cs)=true:=by rw[gD,a,Bl];omega
   have y:Nat.beq k k=true:=Fq k;simp only[xX,u,aH,aN,w,y,grown,fS]
  .simp only;rw[ef,if_pos rfl]
  .simp only;have:=d.1;rw[ef,if_neg au,ef,if_neg au];exact d.2 c a
  .simp only;have:c≠b:=fun e=>i (by rw[e];rfl);rw[ef,if_neg au,ef,if_neg this]
def aFK(cs:cd)(n:Nat):Prop:=∀j,j<n->∀xa xw xp,cs[j * 6+3]? =some xa->cs[j * 6+4]? =some xw->cs[j * 6+5]? =some xp->∀c,aM xa=some c->aM xw≠some c/\aM xp≠some c
def aFK.push{l m o g i k:AV}(h:aFK cs n)(f:cs.length=n * 6)(p:∀c,aM g=some c->aM i≠some c/\aM k≠some c):aFK (cs++ [l,m,o,g,i,k]) (n+1):=by
 intro j q xa xw xp a b d;by_cases e:j=n
 .subst e;rw[Ap au,f,show j * 6+3 - j * 6=3 by omega] at a;rw[Ap au,f,show j * 6+4 - j * 6=4 by omega] at b;rw[Ap au,f,show j * 6+5 - j * 6=5 by omega] at d;cases a;cases b;cases d;exact p
 .rw[Ao au] at a b d;exact h j au xa xw xp a b d
def OgI(a:St)(gb rb ob:Nat)(b:AV)(g:aX)(k:Nat)(A:bO)(X:St):Prop:=A.inr=false/\a.nx<=X.nx/\(∀c,c<a.nx->c≠ob->X.h.get c=a.h.get c)/\∃ (i:Nat) (pv:AV) (cs:cd),i+k=g.cg.length/\X.h.get ob=jf [je g.cm,pv,b]/\fP 6 a X pv i cs/\oD X (fun c=>a.nx<=c/\aM pv≠some c/\Wr X c) cs (g.cg.take i)/\aFK cs i/\aC 1 A.F= .ptr gb 0/\aC 2 A.F= .ptr rb 0/\aC 3 A.F= .ptr ob 0/\aC 4 A.F=je (i:Int)
def aO2{W:Nat->Prop}{d:T AB}{m:Nat}{l:List AO}{last:Option Nat}{Q:Fr->St->List iR->Prop}{j id:Nat}{v:cT}{cs':cd}(b:Nat.testBit m j=true)(h:kE last m=true)(e:x.val F= .ptr id 0)(f:(v.val F).cells=some cs')(g:cs.length=n)(k:cs'.length=n)(o:base<=id)
  (p:∀S1,cD id S S1->S1.nx=S.nx->S1.h.get id=jf cs'->gF fns W d base l (i+1) F S1 [] (some i) Q):gF fns W d base (⟨none,.x (.st n x v),none,m⟩::l) i F S [⟨j,id,.cells cs false 0⟩] last Q:=by
 have q:(⟨S.h.set id (jf cs),S.nx⟩:St).h.get id=jf cs:=by simp only;rw[ef,if_pos rfl]
 refine qA (S1:=⟨(S.h.set id (jf cs)).set id (jf cs'),S.nx⟩) h ?_ ⟨Af _,fun c r s=>?_⟩ ?_
 .rw[cL b,f,aH,e];exact mI q g k
 .simp only;rw[cL b,ef,if_neg au]
 .rw[cL b];refine p _ ⟨Af _,fun c r a=>?_⟩ rfl ?_
  .simp only;rw[ef,if_neg a,ef,if_neg a]
  .simp only;rw[ef,if_pos rfl]
def aR1{h:Ev.T AB}{ps:Int}{r:AV}(b:aC 7 F=je ps)(a:aC 11 F=r)(c:r.cells=some [r]):gO (.build [je 0,.ct,.ct] [(0,1,.t 7),(2,1,.t 11)]) F h=some (.agg [je ps,.ct,r]):=by
 show(bG (eI _ (dJ F [(0,1,.t 7),(2,1,.t 11)])) fun cs=>some (AV.agg cs))=_;simp only[dJ,show(cT.t 7).val F=je ps from b,show(cT.t 11).val F=r from a,eI,dD,c,aH];rfl
def lK{k:Nat}{a:Type}{E:St->cd->a->Prop}{l:List a}(h:aG k E S v l):v.cells=some [v]:=by
 rcases h with⟨_,rfl|rfl⟩|⟨b,off,cap,o,cs,rfl,_⟩<;>rfl
def aLz(H:Has fns)(hn:aG 6 cF S nv g.cg)(hi:aG 2 cE S iv g.ch)(hT:aQ2 g)(bW:g.cg.length<=100000):
  iI fns (.fn 44 [] []) [.agg [je g.cm,nv,iv]] S fun r X=>Same S X/\∃mv s nz cs,r= .agg [je g.cm,mv,s]/\S.nx<=nz/\fP 6 ⟨X.h,nz⟩ X mv g.cg.length cs/\oD X (fun c=>S.nx<=c/\aM mv≠some c/\Wr X c) cs g.cg/\aFK cs g.cg.length/\aG 2 cE X s g.ch:=by
 refine cK H.f44 (by simp) ?_;refine am ?_;refine cA ?_;refine cR (cs:=[je g.cm,nv,iv]) rfl ?_;intro S1 s1 n1 c1;refine bS ?_;intro t s2 n2 c2;refine am ?_;have d1:=(s2.2 _ (au:S.nx<S1.nx)).trans c1;have sS:=s1.trans s2;have T:S.nx<t.nx:=by omega
 have a1:=aG.self hi;have bY:=hT.1;refine aD (sJ (fun _=>False) ?_);intro Y sY hY nY;simp only[Ax,Cb,rA] at nY;simp only[↓sU,sD,rE,↓reduceIte,rA,aB,aP,aA,qV d1,iS d1,T,An,a1,sK];obtain⟨U,hU⟩:∃U:St,U=⟨Y.h.set (t.nx+2) (jf []),Y.nx⟩:=⟨_,rfl⟩;have aa:Same t U:=by rw[hU];exact⟨sY.1,fun c d=>by simp only;rw[ef,if_neg au];exact sY.2 c d⟩
 have gU:U.h.get (t.nx+2)=jf []:=by rw[hU];simp only;rw[ef,if_pos rfl]
 have nU:U.nx=t.nx+9:=by rw[hU];exact nY
 have⟨s,V,e1,i1,v1,k1⟩:=aMI (k:=2) (bytes:=16) (E:=cE) (l:=g.ch) cB az gU au (aG.same (E:=cE) cB hi (sS.trans aa)) ay ay;have nV:=v1.1;refine oS rfl (by rw[cL rfl];refine ae ?_;rw[<-hU];exact e1) ?_ ?_
 .rw[cL rfl,<-hU];exact⟨v1.1,fun c d _=>v1.2 c au⟩
 rw[cL rfl];refine de @mK ?_;rw[aR1 (ps:=g.cm) (r:=s) (af) (af) (lK i1)];simp only[↓sU,sD,rE,↓reduceIte,rA,rK,lT,rA];refine aO2 (by rfl) rfl (af) (by simp only[↓sU,sD,rE,↓reduceIte,rA,aY];rfl) rfl rfl au ?_;intro Z z nZ gZ;have sZ:Same t Z:=by exact z.same (aa.trans v1) au
 have ab:∀c,aM s=some c->c≠t.nx+7:=fun c d=>by rcases k1 c d with h|h<;>omega
 have iZ:aG 2 cE Z s g.ch:=aG.moveB i1 z.1 (fun c d=>z.2 c (by
  rcases i1 with⟨_,rfl|rfl⟩|⟨b,off,cap,o,cs,rfl,_,hb,_⟩
  .cases d
  .cases d
  .cases d;exact hb) (ab c d)) fun _ _ h=>h
 refine ae ?_;have bZ:t.nx+7<Z.nx:=by omega
 have a2:=(sZ.2 _ T).trans d1;have a3:=(sZ.2 _ (au:S1.nx<t.nx)).trans c2;have ac:∀c,aM s=some c->c<Z.nx:=fun c d=>by
  rcases iZ with⟨_,rfl|rfl⟩|⟨b,off,cap,o,cs,rfl,_,hb,_⟩
  .cases d
  .cases d
  .cases d;exact hb
 have q:=sS.trans sZ;refine aD (bB (Q:=fun o A' X=>o= .normal/\OgI Z S.nx S1.nx (t.nx+7) s g 0 A' X) (aD (aL ?_)) ?_)
 .refine ae ?_;refine aO (bX (OgI Z S.nx S1.nx (t.nx+7) s g) ?_ g.cg.length _ _ ⟨rfl,Af _,fun _ _ _=>rfl,0,.ct,[],au,gZ,.inl ⟨rfl,rfl,rfl⟩,⟨rfl,fun j a hj=>by simp at hj⟩,fun j hj=>absurd hj (Ca j),by refine⟨?_,?_,?_,?_⟩<;>simp only[↓sU,sD,rE,↓reduceIte,rA]⟩);rintro k ⟨F,inr⟩ X ⟨q0,N,A,i,pv,cs,an,v,B,O,hD,C,w,G,D⟩;simp only at q0 C w G D;subst q0;have ao:=(A S.nx au au).trans a2;have I:Same S X:=⟨Av q.1 N,fun c d=>(A c (ax q.1) au).trans (q.2 c d)⟩;refine gH (fg C D @aB @aA (fV ao) hn.len ?_);by_cases x:i<g.cg.length;rotate_left
  .refine aQ im (bT ?_);refine ae ?_;obtain rfl:k=0:=by omega
   exact⟨rfl,N,A,i,pv,cs,an,v,B,O,hD,by refine⟨?_,?_,?_,?_⟩<;>simp only[↓sU,sD,rE,↓reduceIte,rA,C,w,G,D]⟩
  refine aS im (aK ?_);refine ae ?_
  have⟨t1,t2,t3⟩:=hT.2 _ (Ar (dI x));obtain⟨_,bx,qx,aw,b0,_,⟨xa,xw,xp,rfl,a5,a8,ba⟩,aI,_⟩:=aG.at (aG.same (E:=cF) bQ hn I) az (dI x);have w0:=ed i
  refine aD (aO (aD (aL ?_)));refine gu C D @aB @aA (fV ao) @aJ aw aI ?_;refine bS ?_;intro W1 bb b1 bd;refine cQ (b:=X.nx) (aq) (by refine am ?_;exact aY _) bd rfl rfl ?_;intro W v2 k2 h2;refine am ?_;have y:Same X W:=v2.same bb (Af _);have be:X.nx<W.nx:=by omega
  refine aD (aPD rfl (aq) h2 be (a5.same y) (a8.same y) (ba.same y) t1 t2 t3 ?_);intro F' u r1 r2 r3 P aV bj bk bm bn bp bq bs;have q1:aC 1 F'= .ptr S.nx 0:=(P 1 au).trans (ar C);have q2:aC 2 F'= .ptr S1.nx 0:=(P 2 au).trans (ar w);have q3:aC 3 F'= .ptr (t.nx+7) 0:=(P 3 au).trans (ar G);have q4:aC 4 F'=je (i:Int):=(P 4 au).trans (ar D);have q5:aC 5 F'= .ptr X.nx 0:=(P 5 au).trans (aq);clear P C w G D;have b2:=aV.1;have old:∀c,c<X.nx->u.h.get c=X.h.get c:=fun c d=>(aV.2 c au au).trans (y.2 c d);have J:=(old _ (au:t.nx+7<X.nx)).trans v;have K:fP 6 Z u pv i cs:=B.move au fun c d=>old c (B.blk d).2.1;have bv:oD u (fun c=>Z.nx<=c/\aM pv≠some c/\Wr u c) cs (g.cg.take i):=O.move au fun c d n=>⟨old c d,n.1,n.2.1,n.2.2.eq (old c d)⟩;have bw:aBs u (fun c=>W.nx<=c/\Wr u c) [je (cu g i).kind,je (cu g i).player,je (cu g i).info,r1,r2,r3] (cu g i):=⟨r1,r2,r3,rfl,bk,bm,bn,fun c d=>⟨bp c d,bs c d⟩⟩;refine aL (gh q3 q5 @aB @aA (fV J) (ldN bj) ?_);refine fW (aFo (k:=je (cu g i).kind) (p:=je (cu g i).player) (f:=je (cu g i).info) (xa:=r1) (xw:=r2) (xp:=r3) (aq)) ?_;intro U2 u1 m1 g1;have⟨pv',R,eA,gA,sA,nA,rA,bA⟩:=fP.appB (k:=6) (m:=1) (bytes:=96) (S0:=⟨U2.h,Z.nx⟩) (show fP 6 ⟨U2.h,Z.nx⟩ U2 pv i cs from K.step u1) ⟨by show Z.nx<=U2.nx;omega,fun _ _=>rfl⟩ rfl (aUm g1) rfl au ay ay
  refine fN (fun call=>by refine fl @fK ?_;exact eA) ?_;have aZ:=K.off J;have bz:=(rA _ au aZ).trans ((u1.2 _ au).trans J);have bC:=gA.cells;refine ft q3 @aB @aA ?_;refine fN (fun call=>by refine ft @dL bC @aH ?_;exact xO (cs:=[je g.cm,pv,s]) (p:=1) (S:=R) bz (by simp)) ?_;refine am ?_;refine aL (ew q4 w0 ?_);have L:∀c,c≠t.nx+7->c<u.nx->aM pv≠some c->(R.h.set (t.nx+7) (jf ([je g.cm,pv,s].set 1 pv'))).get c=u.h.get c:=fun c h1 h2 h3=>by
   rw[ef,if_neg h1,rA c au h3,u1.2 c h2]
  refine⟨k - 1,au,rfl,by show Z.nx<=R.nx;omega,fun c d a0=>(L c a0 au fun e=>by have:=(K.blk e).1;omega).trans ((old c au).trans (A c d a0)),i+1,pv',_,au,by simp only;rw[ef,if_pos rfl];rfl,fP.move (S:=R) (by exact gA) (Af _) fun c d=>?_,?_,hD.push (by rw[O.1,Bv,Nat.min_eq_left (Nat.le_of_lt x)]) bq,by refine⟨?_,?_,?_,?_⟩<;>simp only[↓sU,sD,rE,↓reduceIte,rA,q1,q2,q3]⟩
  .simp only;rw[ef,if_neg (by rw[bA] at d;cases d;omega)]
  .rw[Bx,dI x];refine oD.push (bv.move (by show u.nx<=R.nx;omega) fun c d n=>have e:=L c (ax n.1) d n.2.1;⟨e,n.1,fun e=>by rw[bA] at e;cases e;omega,n.2.2.eq e⟩) (bw.move (by show u.nx<=R.nx;omega) fun c d n=>have e:=L c (ax n.1) d (fun e=>by have:=n.1;have:=(B.blk e).2.1;omega);⟨e,ax n.1,fun e=>by rw[bA] at e;cases e;omega,n.2.eq e⟩)
 rintro o ⟨F,inr⟩ X ⟨rfl,q0,N,A,i,pv,cs,an,v,B,O,hD,C,w,G,D⟩;simp only at q0 C w G D;subst q0;obtain rfl:i=g.cg.length:=by omega
 rw[List.take_length] at O;have bI:=(A S1.nx au au).trans a3;have I:Same S X:=⟨Av q.1 N,fun c d=>(A c (ax q.1) au).trans (q.2 c d)⟩;have iX:aG 2 cE X s g.ch:=aG.moveB iZ N (fun c d=>A c (ac c d) (ab c d)) fun _ _ h=>h;refine am ?_
 refine cA (ft w G (ld3 v) ?_);refine cQ (b:=S1.nx) (cs':=[je g.cm,pv,s]) (ar w) (by refine am ?_;exact aY _) bI rfl rfl ?_;intro X' x' n' g';refine am ?_;refine aT ?_;have bM:Same S X':=x'.same I au;have M:=x'.1;have bR:fP 6 Z X' pv g.cg.length cs:=B.move M fun c d=>x'.2 c (B.blk d).2.1 (by have:=(B.blk d).1;omega);have bU:oD X' (fun c=>Z.nx<=c/\aM pv≠some c/\Wr X' c) cs g.cg:=O.move M fun c d n=>have e:=x'.2 c d (ax n.1);⟨e,n.1,n.2.1,n.2.2.eq e⟩;have bV:aG 2 cE X' s g.ch:=aG.moveB iX M (fun c d=>x'.2 c (Ae (ac c d) N) (by rcases k1 c d with h|h<;>omega)) fun _ _ h=>h;refine ft w @dE (ld3 g') ?_;exact⟨bM,pv,s,Z.nx,cs,rfl,ax q.1,bR,bU.move (Af _) (fun c _ n=>⟨rfl,ax q.1,n.2⟩),hD,bV⟩
end Go.Ev.Gl
