import Derived.Test.YtoojnpjgnnpllaaGl11
set_option maxHeartbeats 0
set_option linter.unusedSimpArgs false
set_option linter.unusedVariables false
namespace Go.Ev.Gl
variable {fns:T dY}
theorem pJ{g:aS}{i:Nat}(hi:i<g.bj.length):g.bj[i]? =some (cd g (i:Int)):=by
 unfold cd;rw[Az,Ad,Ab hi];rfl
def aRV(_:St)(cs:bf)(x:Int):Prop:=cs= [.int .i64 x]
theorem toG{S:St}{v:AV}{l:ba}(h:bI .i64 S v l):aE 1 aRV S v l:=by
 rcases h with h | ⟨b,off,cap,o,cs,rfl,hc,hb,hcs,hel⟩
 ·exact .inl h
 ·refine .inr ⟨b,off,cap,o,cs,rfl,hc,hb,hcs,fun i a hi=>⟨[.int .i64 a],rfl,fun j x hj=>?_,rfl⟩⟩;cases j with
  | zero=>simp at hj;subst hj;rw[Cr,Br];exact hel i a hi
  | succ j=>simp at hj
theorem ofG{S:St}{v:AV}{l:ba}(h:aE 1 aRV S v l):bI .i64 S v l:=by
 rcases h with h | ⟨b,off,cap,o,cs,rfl,hc,hb,hcs,hel⟩
 ·exact .inl h
 ·refine .inr ⟨b,off,cap,o,cs,rfl,hc,hb,hcs,fun i a hi=>?_⟩;have⟨e,_,h2,h3⟩:=hel i a hi;have h3:e= [.int .i64 a]:=h3;subst h3;have:=h2 0 _ rfl;rw[Cr,Br] at this;exact this
theorem aE.moveB{k:Nat}{α:Type}{E:St->bf->α->Prop}{S S':St}{v:AV}{l:List α}(h:aE k E S v l)(hn:S.nx<=S'.nx)(hh:∀c,aZ v=some c->S'.h.get c=S.h.get c)(hE:∀e a,E S e a->E S' e a):aE k E S' v l:=by
 rcases h with h | ⟨b,off,cap,o,cs,rfl,hc,hb,hcs,hel⟩
 ·exact .inl h
 ·refine .inr ⟨b,off,cap,o,cs,rfl,hc,Ae hb hn,?_,fun i a hi=>?_⟩
  ·unfold cK;rw[hh b rfl];exact hcs
  ·have⟨e,e1,e2,e3⟩:=hel i a hi;exact⟨e,e1,e2,hE e a e3⟩
theorem aSS{k:Nat}{α:Type}{E:St->bf->α->Prop}{S:St}{v:AV}{l:List α}(hk:0<k)(h:aE k E S v l):∃new,mL v=some l.length/\eY v S.h k l.length=some new/\∀i a,l[i]? =some a->∃e:bf,e.length=k/\(∀ (j:Nat) (x:AV),e[j]? =some x->new[i * k+j]? =some x)/\E S e a:=by
 rcases h with⟨rfl,h⟩ | ⟨b,off,cap,o,cs,rfl,hc,hb,hcs,hel⟩
 ·rcases h with rfl | rfl<;>exact⟨[],rfl,rfl,fun i a hi=>by simp at hi⟩
 ·rcases Dh l.length with h0 | hp
  ·have hl:l= []:=Bu.1 h0;subst hl;refine⟨[],rfl,?_,fun i a hi=>by simp at hi⟩;show(bC (cK S.h b) fun cs=>cut cs off (0 * k))=_;rw[hcs,aL,Ep];unfold cut;rw[iF,iX,if_pos (Du _)];rfl
  ·have hle:off+l.length * k<=cs.length:=by
    have⟨e,e1,e2,_⟩:=hel (l.length - 1) _ (Ab ar);have:=e2 (k - 1) _ (Ab ar);have h3:=(Ai.1 this).1;have h4:(l.length - 1) * k+k=l.length * k:=by
     rw[<-Fe];congr 1;omega
    omega
   refine⟨(cs.drop off).take (l.length * k),rfl,?_,fun i a hi=>?_⟩
   ·show(bC (cK S.h b) fun cs=>cut cs off (l.length * k))=_;rw[hcs,aL];unfold cut;rw[iF,iX,if_pos (by rw[Dr];omega)]
   ·have⟨e,e1,e2,e3⟩:=hel i a hi;refine⟨e,e1,fun j x hj=>?_,e3⟩;have hlt:=(Ai.1 hi).1;have hj1:=(Ai.1 hj).1;have h5:i * k+k<=l.length * k:=by
     rw[<-Fe];exact Dm k hlt
    rw[Em ar,Fd];have:=e2 j x hj;rw[Cq] at this;exact this
def Wr(X:St)(c:Nat):Prop:=∃cs o sz,X.h.get c=some (.cells cs o sz)
theorem aNC{k bytes b:Nat}{α:Type}{E:St->bf->α->Prop}{S:St}{v:AV}{l:List α}(hE:kG E)(hk:0<k)(hb:S.h.get b=some (.cells [] false 0))(hbl:b<S.nx)(h:aE k E S v l)(h1:l.length<=room)(h2:l.length * bytes<=room):
  ∃r S',gP bytes k (.sl b 0 0 0 false) v S=some (r,S')/\aE k E S' r l/\Same S S'/\(∀c,aZ r=some c->c=b\/S.nx<=c)/\∀c,aZ r=some c->Wr S' c:=by
 have⟨new,e1,e2,e3⟩:=aSS hk h;unfold gP;rw[e1,aL,e2,aL];show ∃r S',qF bytes k b 0 0 0 false l.length new S=some (r,S')/\_;unfold qF;rcases Dh l.length with h0 | hp
 ·have hl:l= []:=Bu.1 h0;subst hl;refine⟨.sl b 0 0 0 false,S,rfl,.inr ⟨b,0,0,false,[],rfl,Ag _,hbl,by unfold cK;rw[hb];rfl,fun i a hi=>by simp at hi⟩,dk S,fun c hc=>?_,fun c hc=>?_⟩
  ·cases hc;exact .inl rfl
  ·cases hc;exact⟨_,_,_,hb⟩
 ·have e5:Nat.ble (0+l.length) 0=false:=by
   rw[Ei];intro e;have:=Bd e;omega
  rw[e5,bB,Av ar,aR,Av (by rw[An];exact h2),aR,hb,aL];have e4:cut ([]:bf) 0 (0 * k)=some []:=by
   unfold cut;rw[iF,iX,Ep,if_pos (Du _)];rfl
  show ∃r S',(bC (cut ([]:bf) 0 (0 * k)) fun old=>bQ false _ (grown S.h S.nx (0+l.length) k (yA old new)))=some (r,S')/\_;rw[e4,aL,bB];refine⟨_,_,rfl,.inr ⟨S.nx,0,l.length,true,new,by rw[An],Ag _,by simp,?_,fun i a hi=>?_⟩,Same.alloc S _,fun c hc=>?_,fun c hc=>?_⟩
  ·unfold cK;simp only;rw[di,if_pos rfl];rfl
  ·have⟨e,a1,a2,a3⟩:=e3 i a hi;exact⟨e,a1,fun j x hj=>by rw[An];exact a2 j x hj,hE a3 (Same.alloc S _)⟩
  ·cases hc;exact .inr (Ag _)
  ·cases hc;exact⟨_,_,_,fk⟩
theorem aPD{k bytes b:Nat}{α:Type}{E:St->bf->α->Prop}{S:St}{v:AV}{l:List α}(hE:kG E)(hk:0<k)(hb:S.h.get b=some (.cells [] false 0))(hbl:b<S.nx)(h:aE k E S v l)(h1:l.length<=room)(h2:l.length * bytes<=room):
  ∃r S',gP bytes k (.sl b 0 0 0 false) v S=some (r,S')/\aE k E S' r l/\Same S S'/\∀c,aZ r=some c->c=b\/S.nx<=c:=by
 have⟨r,S',a,b',c,d,_⟩:=aNC (bytes:=bytes) (E:=E) hE hk hb hbl h h1 h2;exact⟨r,S',a,b',c,d⟩
theorem aJT{base:Nat}{suf:List AO}{Q:DS->Prop}:∀ {pre:List AO} {i:Nat} {D:DS},zU fns pre i base D (fun D'=>zU fns suf (i+pre.length) base D' Q)->zU fns (pre++suf) i base D Q:=by
 intro pre i D h;obtain⟨n,D1,h1,k,D2,h2,h3⟩:=h;refine⟨max n k,D2,?_,h3⟩;have h1':=uD (kL fns (Ew n k)).call h1;have h2':=uD (kL fns (Er n k)).call h2;clear h1 h2
 induction pre generalizing i D with
 | nil=>cases h1';exact h2'
 | cons o os ih=>
  show bC (tW o i base (ev fns (max n k)).call D) _=_;have h1'':bC (tW o i base (ev fns (max n k)).call D) (fun D'=>wL os (i+1) base (ev fns (max n k)).call D')=some D1:=h1';cases he:tW o i base (ev fns (max n k)).call D with
  | none=>rw[he] at h1'';cases h1''
  | some D'=>
   rw[he,aL] at h1'';rw[aL];exact ih h1'' (by rw[Ax] at h2';rw[show i+1+os.length=i+(os.length+1) by omega];exact h2')
def Low(K:Nat)(D:DS):Prop:=(∀e∈D.hs,e.1<K)/\∀l∈D.ls,l.i<K/\l.mask<2 ^ K
theorem aOx{call:fA}{o:AO}{i base K:Nat}{D D':DS}(h:tW o i base call D=some D')(hi:i<K)(hm:o.mask<2 ^ K)(hD:Low K D):Low K D':=by
 unfold tW at h;cases hw:eS o.grd D.F with
 | false=>rw[hw,bB] at h;cases h;exact hD
 | true=>
  rw[hw,aR] at h;have⟨d,op,g,m⟩:=o;cases op with
  | q q=>
   have h:bC (gM q D.F D.S.h) (fun v=>some (⟨cM d D.F v,D.S,D.ps,D.hs,bQ (dN q) (⟨q,D.F,v,i,m⟩::D.ls) D.ls⟩:DS))=some D':=h;cases he:gM q D.F D.S.h with
   | none=>rw[he] at h;cases h
   | some v=>
    rw[he,aL] at h;cases h;refine⟨hD.1,fun l hl=>?_⟩;simp only at hl;cases hq:dN q with
    | false=>rw[hq,bB] at hl;exact hD.2 l hl
    | true=>
     rw[hq,aR] at hl;rcases Bs.1 hl with rfl | hl
     ·exact⟨hi,hm⟩
     ·exact hD.2 l hl
  | a a=>
   have h:bC (uW a D.F (base+i)) (fun r=>some (⟨cM d D.F r.1,D.S,⟨i,base+i,r.2⟩::D.ps,D.hs,D.ls⟩:DS))=some D':=h;cases he:uW a D.F (base+i) with
   | none=>rw[he] at h;cases h
   | some v=>rw[he,aL] at h;cases h;exact hD
  | x x=>
   have h:bQ (jU D.hs m) (bC (evX x call D.F ⟨(cJ m D.ps D.S.h).2,D.S.nx⟩) fun r=>some (⟨cM d D.F r.1,r.2,(cJ m D.ps D.S.h).1,(i,m,r.2.h)::D.hs,D.ls⟩:DS)) none=some D':=h;cases hl:jU D.hs m with
   | false=>rw[hl,bB] at h;cases h
   | true=>
    rw[hl,aR] at h;cases he:evX x call D.F ⟨(cJ m D.ps D.S.h).2,D.S.nx⟩ with
    | none=>rw[he] at h;cases h
    | some v=>
     rw[he,aL] at h;cases h;refine⟨fun e he=>?_,hD.2⟩;rcases Bs.1 he with rfl | he
     ·exact hi
     ·exact hD.1 e he
theorem aEL{call:fA}{base K:Nat}:∀ {l:List AO} {i:Nat} {D D':DS},wL l i base call D=some D'->i+l.length<=K->(∀o∈l,o.mask<2 ^ K)->Low K D->Low K D'
 | [],i,D,D',h,_,_,hD=>by cases h;exact hD
 | o::os,i,D,D',h,hi,hm,hD=>by
  have h:bC (tW o i base call D) (fun D'=>wL os (i+1) base call D')=some D':=h;rw[Ax] at hi;cases he:tW o i base call D with
  | none=>rw[he] at h;cases h
  | some D1=>
   rw[he,aL] at h;exact aEL h ar (fun o ho=>hm o (Bk _ ho)) (aOx he ar (hm o (Bv ..)) hD)
theorem aEn{W:Nat->Prop}{h0:T AB}{base K m:Nat}{h':T AB}{r:List (Nat×Nat×T AB)}{l:mR}(h:cE l.v l.v=true/\aBz W base l.q l.F/\gM l.q l.F h0=some l.v)(hl:l.i<K/\l.mask<2 ^ K)(hm:∀i,i<K->Nat.testBit m i=true):∀ {hs:List (Nat×Nat×T AB)} {h1:T AB},(∀e∈hs,∀b,b<base->¬W b->e.2.2.get b=h0.get b)->(∀b,b<base->¬W b->h1.get b=h0.get b)->eI l (hs++(K,m,h')::r) h1=true
 | [],h1,_,hh=>by
  have e1:qI l.v (gM l.q l.F h1)=true:=by rw[h.2.1.ev hh,h.2.2];exact h.1
  have e2:Nat.testBit l.mask K=false:=Nat.testBit_lt_two_pow hl.2;show eI l ((K,m,h')::r) h1=true;unfold eI;rw[e2,bB,e1,aR,hm _ hl.1,aR]
 | (i,mm,h2)::rr,h1,hs,hh=>by
  have e1:qI l.v (gM l.q l.F h1)=true:=by rw[h.2.1.ev hh,h.2.2];exact h.1
  have e2:eI l (rr++(K,m,h')::r) h2=true:=aEn h hl hm (fun e he=>hs e (by simp [he])) (hs (i,mm,h2) (by simp));show eI l ((i,mm,h2)::(rr++(K,m,h')::r)) h1=true;unfold eI;rw[e1,e2];cases Nat.testBit l.mask i<;>cases Nat.testBit mm l.i<;>rfl
theorem nI{W:Nat->Prop}{ops pre suf:List AO}{K:Nat}{A:bG}{S:St}{Q:Out->bG->St->Prop}{R:Fr->St->List iQ->Prop}(he:ops=pre++suf)(hK:pre.length=K)(hm:(pre.all fun o=>decide (o.mask<2 ^ K))=true)
  (h:∀S1,Same S S1->S1.h=S.h->S1.nx=S.nx+ops.length->fF fns W S.h S.nx pre 0 A.F S1 [] none R)
  (h2:∀F S' ps hs ls,R F S' ps->(∀m,(∀i,i<K->Nat.testBit m i=true)->jU hs m=true)->(∀m h' r,(∀i,i<K->Nat.testBit m i=true)->fV S.h (hs.reverse++(K,m,h')::r) ls=true)->zU fns suf K S.nx ⟨F,S',ps,hs,ls⟩ fun D'=>fV S.h D'.hs.reverse D'.ls=true/\Q .normal ⟨D'.F,A.inr⟩ ⟨(cJ (2 ^ ops.length - 1) D'.ps D'.S.h).2,D'.S.nx⟩):iM fns (.drw ops) A S Q:=by
 refine tI ?_;have⟨n,D',e1,e2,e3⟩:=mE (fns:=fns) (i:=0) (D:=⟨A.F,⟨S.h,S.nx+ops.length⟩,[],[],[]⟩) (last:=none) ⟨fun _ _ _=>rfl,Ba _ _,fun e he=>(by cases he),fun l hl=>(by cases hl),fun p hp=>(by cases hp)⟩ rfl (h ⟨S.h,S.nx+ops.length⟩ (Same.nx S _) rfl rfl);have low:Low K D':=aEL e1 ar (fun o ho=>by have:=Di.1 hm o ho;simpa using this) ⟨fun e he=>(by cases he),fun l hl=>(by cases hl)⟩;have⟨F,S',ps,hs,ls⟩:=D';have hh:=h2 F S' ps hs ls e2 (fun m hm=>by
  cases hs with
  | nil=>rfl
  | cons e r=>exact hm _ (low.1 e (Bv ..))) (fun m h' r hm=>oR fun l hl=>aEn (e3.lds l hl) (low.2 l hl) hm (fun e he=>e3.chain e (List.mem_reverse.1 he)) (fun _ _ _=>rfl))
 have:zU fns ops 0 S.nx ⟨A.F,⟨S.h,S.nx+ops.length⟩,[],[],[]⟩ fun D'=>fV S.h D'.hs.reverse D'.ls=true/\Q .normal ⟨D'.F,A.inr⟩ ⟨(cJ (2 ^ ops.length - 1) D'.ps D'.S.h).2,D'.S.nx⟩:=by
  subst he;refine aJT ⟨n,_,e1,?_⟩;rw[An,hK];exact hh
 exact this
theorem eT{S S':St}{v:AV}{l:ba}(h:bI .i64 S v l)(hn:S.nx<=S'.nx)(hh:∀c,aZ v=some c->S'.h.get c=S.h.get c):bI .i64 S' v l:=ofG (aE.moveB (toG h) hn hh fun _ _ h=>h)
theorem eU{k:IntKind}{X:St}{v:AV}{l:ba}{c:Nat}(h:bI k X v l)(hc:aZ v=some c):c<X.nx:=by
 rcases h with⟨_,rfl | rfl⟩ | ⟨b,off,cap,o,cs,rfl,_,hb,_⟩
 ·cases hc
 ·cases hc
 ·cases hc;exact hb
theorem aMp{t:Nat}{x:cO}{F:Fr}{id:Nat}{k p f xa xw xp z0 z1 z2 z3 z4 z5:AV}(hx:x.val F= .agg [k,p,f,xa,xw,xp]):uW (.cj t 6 1 [z0,z1,z2,z3,z4,z5] [(0,x)]) F id=some (.sl id 0 1 1 false,.cells [k,p,f,xa,xw,xp] false 0):=by
 show(bC (eQ (repeatL [z0,z1,z2,z3,z4,z5] 1) [(0 * 6,6,x.val F)]) fun cs=>some (AV.sl id 0 1 1 false,AB.cells cs false 0))=_;rw[hx];show(bC (bC (AV.cells (.agg [k,p,f,xa,xw,xp])) _) _)=_;rw[aY,aL];rfl
theorem lI{k:Nat}{α:Type}{E:St->bf->α->Prop}{S:St}{v:AV}{l:List α}(h:aE k E S v l):v.cells=some [v]:=by
 rcases h with⟨_,rfl | rfl⟩ | ⟨b,off,cap,o,cs,rfl,_⟩<;>rfl
end Go.Ev.Gl
