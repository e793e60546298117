import Derived.Test.YtdkehphobhnjoaaGl11
open Nat renaming reduceEqDiff -> rE, reduceAdd -> rA
set_option maxHeartbeats 0
set_option linter.unusedSimpArgs false
set_option linter.unusedVariables false
namespace Go.Ev.Gl
variable {fns:T dU}
def aLn(_:St)(cs:b6)(x:Int):Prop:=cs= [.int .i64 x]
theorem aBk:aEA aLn:=fun h _=>h
theorem toG{S:St}{v:AV}{l:bu}(h:bO .i64 S v l):aP 1 aLn S v l:=by
 rcases h with h | ⟨b,off,cap,o,cs,rfl,hc,hb,hcs,hel⟩
 ·exact .inl h
 ·refine .inr ⟨b,off,cap,o,cs,rfl,hc,hb,hcs,fun i a hi=>⟨[.int .i64 a],rfl,fun j x hj=>?_,rfl⟩⟩;cases j with
  | zero=>simp at hj;subst hj;rw[Dm,Bh];exact hel i a hi
  | succ j=>simp at hj
theorem ofG{S:St}{v:AV}{l:bu}(h:aP 1 aLn S v l):bO .i64 S v l:=by
 rcases h with h | ⟨b,off,cap,o,cs,rfl,hc,hb,hcs,hel⟩
 ·exact .inl h
 ·refine .inr ⟨b,off,cap,o,cs,rfl,hc,hb,hcs,fun i a hi=>?_⟩;have⟨e,_,h2,h3⟩:=hel i a hi;have h3:e= [.int .i64 a]:=h3;subst h3;have:=h2 0 _ rfl;rw[Dm,Bh] at this;exact this
theorem aP.moveB{k:Nat}{α:Type}{E:St->b6->α->Prop}{S S':St}{v:AV}{l:List α}(h:aP k E S v l)(hn:S.nx<=S'.nx)(hh:∀c,aX v=some c->S'.h.get c=S.h.get c)(hE:∀e a,E S e a->E S' e a):aP k E S' v l:=by
 rcases h with h | ⟨b,off,cap,o,cs,rfl,hc,hb,hcs,hel⟩
 ·exact .inl h
 ·refine .inr ⟨b,off,cap,o,cs,rfl,hc,Ae hb hn,?_,fun i a hi=>?_⟩
  ·unfold cJ;rw[hh b rfl];exact hcs
  ·have⟨e,e1,e2,e3⟩:=hel i a hi;exact⟨e,e1,e2,hE e a e3⟩
theorem aRk{k:Nat}{α:Type}{E:St->b6->α->Prop}{S:St}{v:AV}{l:List α}(hk:0<k)(h:aP k E S v l):∃new,mC v=some l.length/\eE v S.h k l.length=some new/\∀i a,l[i]? =some a->∃e:b6,e.length=k/\(∀ (j:Nat) (x:AV),e[j]? =some x->new[i * k+j]? =some x)/\E S e a:=by
 rcases h with⟨rfl,h⟩ | ⟨b,off,cap,o,cs,rfl,hc,hb,hcs,hel⟩
 ·rcases h with rfl | rfl<;>exact⟨[],rfl,rfl,fun i a hi=>by simp at hi⟩
 ·rcases Bk l.length with h0 | hp
  ·have hl:l= []:=Bv.1 h0;subst hl;refine⟨[],rfl,?_,fun i a hi=>by simp at hi⟩;show(bH (cJ S.h b) fun cs=>cut cs off (0 * k))=_;rw[hcs,aN,Cy];unfold cut;rw[fU,fZ,if_pos (Da _)];rfl
  ·have hle:off+l.length * k<=cs.length:=by
    have⟨e,e1,e2,_⟩:=hel (l.length - 1) _ (Ac ay);have:=e2 (k - 1) _ (Ac ay);have h3:=(Aj.1 this).1;have h4:(l.length - 1) * k+k=l.length * k:=by
     rw[<-Cm];congr 1;omega
    omega
   refine⟨(cs.drop off).take (l.length * k),rfl,?_,fun i a hi=>?_⟩
   ·show(bH (cJ S.h b) fun cs=>cut cs off (l.length * k))=_;rw[hcs,aN];unfold cut;rw[fU,fZ,if_pos (by rw[De];omega)]
   ·have⟨e,e1,e2,e3⟩:=hel i a hi;refine⟨e,e1,fun j x hj=>?_,e3⟩;have hlt:=(Aj.1 hi).1;have hj1:=(Aj.1 hj).1;have h5:i * k+k<=l.length * k:=by
     rw[<-Cm];exact Cj k hlt
    rw[Ek ay,Fa];have:=e2 j x hj;rw[Db] at this;exact this
def Wr(X:St)(c:Nat):Prop:=∃cs o sz,X.h.get c=some (.cells cs o sz)
theorem Wr.eq{X X':St}{c:Nat}(h:Wr X c)(e:X'.h.get c=X.h.get c):Wr X' c:=by
 have⟨cs,o,sz,h⟩:=h;exact⟨cs,o,sz,e.trans h⟩
theorem aCx{k bytes b:Nat}{α:Type}{E:St->b6->α->Prop}{S:St}{v:AV}{l:List α}(hE:aEA E)(hk:0<k)(hb:S.h.get b=some (.cells [] false 0))(hbl:b<S.nx)(h:aP k E S v l)(h1:l.length<=room)(h2:l.length * bytes<=room):
  ∃r S',fN bytes k (.sl b 0 0 0 false) v S=some (r,S')/\aP k E S' r l/\Same S S'/\(∀c,aX r=some c->c=b\/S.nx<=c)/\∀c,aX r=some c->Wr S' c:=by
 have⟨new,e1,e2,e3⟩:=aRk hk h;unfold fN;rw[e1,aN,e2,aN];show ∃r S',jK bytes k b 0 0 0 false l.length new S=some (r,S')/\_;unfold jK;rcases Bk l.length with h0 | hp
 ·have hl:l= []:=Bv.1 h0;subst hl;refine⟨.sl b 0 0 0 false,S,rfl,.inr ⟨b,0,0,false,[],rfl,Ag _,hbl,by unfold cJ;rw[hb];rfl,fun i a hi=>by simp at hi⟩,de S,fun c hc=>?_,fun c hc=>?_⟩
  ·cases hc;exact .inl rfl
  ·cases hc;exact⟨_,_,_,hb⟩
 ·have e5:Nat.ble (0+l.length) 0=false:=by
   rw[Ch];intro e;have:=Ba e;omega
  rw[e5,aT,Ak ay,aO,Ak (by rw[An];exact h2),aO,hb,aN];have e4:cut ([]:b6) 0 (0 * k)=some []:=by
   unfold cut;rw[fU,fZ,Cy,if_pos (Da _)];rfl
  show ∃r S',(bH (cut ([]:b6) 0 (0 * k)) fun old=>cB false _ (grown S.h S.nx (0+l.length) k (wR old new)))=some (r,S')/\_;rw[e4,aN,aT];refine⟨_,_,rfl,.inr ⟨S.nx,0,l.length,true,new,by rw[An],Ag _,by simp,?_,fun i a hi=>?_⟩,Same.alloc S _,fun c hc=>?_,fun c hc=>?_⟩
  ·unfold cJ;simp only;rw[dd,if_pos rfl];rfl
  ·have⟨e,a1,a2,a3⟩:=e3 i a hi;exact⟨e,a1,fun j x hj=>by rw[An];exact a2 j x hj,hE a3 (Same.alloc S _)⟩
  ·cases hc;exact .inr (Ag _)
  ·cases hc;exact⟨_,_,_,fq⟩
theorem aPn{k bytes b:Nat}{α:Type}{E:St->b6->α->Prop}{S:St}{v:AV}{l:List α}(hE:aEA E)(hk:0<k)(hb:S.h.get b=some (.cells [] false 0))(hbl:b<S.nx)(h:aP k E S v l)(h1:l.length<=room)(h2:l.length * bytes<=room):
  ∃r S',fN bytes k (.sl b 0 0 0 false) v S=some (r,S')/\aP k E S' r l/\Same S S'/\∀c,aX r=some c->c=b\/S.nx<=c:=by
 have⟨r,S',a,b',c,d,_⟩:=aCx (bytes:=bytes) (E:=E) hE hk hb hbl h h1 h2;exact⟨r,S',a,b',c,d⟩
theorem aJW{base:Nat}{suf:List AO}{Q:DS->Prop}:∀ {pre:List AO} {i:Nat} {D:DS},vW fns pre i base D (fun D'=>vW fns suf (i+pre.length) base D' Q)->vW fns (pre++suf) i base D Q:=by
 intro pre i D h;obtain⟨n,D1,h1,k,D2,h2,h3⟩:=h;refine⟨max n k,D2,?_,h3⟩;have h1':=sN (oP fns (Nat.le_max_left n k)).call h1;have h2':=sN (oP fns (Nat.le_max_right n k)).call h2;clear h1 h2
 induction pre generalizing i D with
 | nil=>cases h1';exact h2'
 | cons o os ih=>
  show bH (pV o i base (ev fns (max n k)).call D) _=_;have h1'':bH (pV o i base (ev fns (max n k)).call D) (fun D'=>vF os (i+1) base (ev fns (max n k)).call D')=some D1:=h1';cases he:pV o i base (ev fns (max n k)).call D with
  | none=>rw[he] at h1'';cases h1''
  | some D'=>
   rw[he,aN] at h1'';rw[aN];exact ih h1'' (by rw[Aw] at h2';rw[show i+1+os.length=i+(os.length+1) by omega];exact h2')
def Low(K:Nat)(D:DS):Prop:=(∀e∈D.hs,e.1<K)/\∀l∈D.ls,l.i<K/\l.mask<2 ^ K
theorem aOo{call:fK}{o:AO}{i base K:Nat}{D D':DS}(h:pV o i base call D=some D')(hi:i<K)(hm:o.mask<2 ^ K)(hD:Low K D):Low K D':=by
 unfold pV at h;cases hw:eT o.grd D.F with
 | false=>rw[hw,aT] at h;cases h;exact hD
 | true=>
  rw[hw,aO] at h;have⟨d,op,g,m⟩:=o;cases op with
  | q q=>
   have h:bH (gT q D.F D.S.h) (fun v=>some (⟨cR d D.F v,D.S,D.ps,D.hs,cB (dR q) (⟨q,D.F,v,i,m⟩::D.ls) D.ls⟩:DS))=some D':=h;cases he:gT q D.F D.S.h with
   | none=>rw[he] at h;cases h
   | some v=>
    rw[he,aN] at h;cases h;refine⟨hD.1,fun l hl=>?_⟩;simp only at hl;cases hq:dR q with
    | false=>rw[hq,aT] at hl;exact hD.2 l hl
    | true=>
     rw[hq,aO] at hl;rcases Bm.1 hl with rfl | hl
     ·exact⟨hi,hm⟩
     ·exact hD.2 l hl
  | a a=>
   have h:bH (sH a D.F (base+i)) (fun r=>some (⟨cR d D.F r.1,D.S,⟨i,base+i,r.2⟩::D.ps,D.hs,D.ls⟩:DS))=some D':=h;cases he:sH a D.F (base+i) with
   | none=>rw[he] at h;cases h
   | some v=>rw[he,aN] at h;cases h;exact hD
  | x x=>
   have h:cB (jL D.hs m) (bH (evX x call D.F ⟨(cO m D.ps D.S.h).2,D.S.nx⟩) fun r=>some (⟨cR d D.F r.1,r.2,(cO m D.ps D.S.h).1,(i,m,r.2.h)::D.hs,D.ls⟩:DS)) none=some D':=h;cases hl:jL D.hs m with
   | false=>rw[hl,aT] at h;cases h
   | true=>
    rw[hl,aO] at h;cases he:evX x call D.F ⟨(cO m D.ps D.S.h).2,D.S.nx⟩ with
    | none=>rw[he] at h;cases h
    | some v=>
     rw[he,aN] at h;cases h;refine⟨fun e he=>?_,hD.2⟩;rcases Bm.1 he with rfl | he
     ·exact hi
     ·exact hD.1 e he
theorem aDH{call:fK}{base K:Nat}:∀ {l:List AO} {i:Nat} {D D':DS},vF l i base call D=some D'->i+l.length<=K->(∀o∈l,o.mask<2 ^ K)->Low K D->Low K D'
 | [],i,D,D',h,_,_,hD=>by cases h;exact hD
 | o::os,i,D,D',h,hi,hm,hD=>by
  have h:bH (pV o i base call D) (fun D'=>vF os (i+1) base call D')=some D':=h;rw[Aw] at hi;cases he:pV o i base call D with
  | none=>rw[he] at h;cases h
  | some D1=>
   rw[he,aN] at h;exact aDH h ay (fun o ho=>hm o (Bj _ ho)) (aOo he ay (hm o (Br ..)) hD)
theorem aDK{W:Nat->Prop}{h0:T AB}{base K m:Nat}{h':T AB}{r:List (Nat×Nat×T AB)}{l:jT}(h:cT l.v l.v=true/\aF4 W base l.q l.F/\gT l.q l.F h0=some l.v)(hl:l.i<K/\l.mask<2 ^ K)(hm:∀i,i<K->Nat.testBit m i=true):∀ {hs:List (Nat×Nat×T AB)} {h1:T AB},(∀e∈hs,∀b,b<base->¬W b->e.2.2.get b=h0.get b)->(∀b,b<base->¬W b->h1.get b=h0.get b)->dY l (hs++(K,m,h')::r) h1=true
 | [],h1,_,hh=>by
  have e1:mP l.v (gT l.q l.F h1)=true:=by rw[h.2.1.ev hh,h.2.2];exact h.1
  have e2:Nat.testBit l.mask K=false:=Nat.testBit_lt_two_pow hl.2;show dY l ((K,m,h')::r) h1=true;unfold dY;rw[e2,aT,e1,aO,hm _ hl.1,aO]
 | (i,mm,h2)::rr,h1,hs,hh=>by
  have e1:mP l.v (gT l.q l.F h1)=true:=by rw[h.2.1.ev hh,h.2.2];exact h.1
  have e2:dY l (rr++(K,m,h')::r) h2=true:=aDK h hl hm (fun e he=>hs e (by simp [he])) (hs (i,mm,h2) (by simp));show dY l ((i,mm,h2)::(rr++(K,m,h')::r)) h1=true;unfold dY;rw[e1,e2];cases Nat.testBit l.mask i<;>cases Nat.testBit mm l.i<;>rfl
theorem aCu{W:Nat->Prop}{ops pre suf:List AO}{K:Nat}{A:bS}{S:St}{Q:Out->bS->St->Prop}{R:Fr->St->List iH->Prop}(he:ops=pre++suf)(hK:pre.length=K)(hm:(pre.all fun o=>decide (o.mask<2 ^ K))=true)
  (h:∀S1,Same S S1->S1.h=S.h->S1.nx=S.nx+ops.length->gN fns W S.h S.nx pre 0 A.F S1 [] none R)
  (h2:∀F S' ps hs ls,R F S' ps->(∀m,(∀i,i<K->Nat.testBit m i=true)->jL hs m=true)->(∀m h' r,(∀i,i<K->Nat.testBit m i=true)->gK S.h (hs.reverse++(K,m,h')::r) ls=true)->vW fns suf K S.nx ⟨F,S',ps,hs,ls⟩ fun D'=>gK S.h D'.hs.reverse D'.ls=true/\Q .normal ⟨D'.F,A.inr⟩ ⟨(cO (2 ^ ops.length - 1) D'.ps D'.S.h).2,D'.S.nx⟩):lU fns (.drw ops) A S Q:=by
 refine oO ?_;have⟨n,D',e1,e2,e3⟩:=mN (fns:=fns) (i:=0) (D:=⟨A.F,⟨S.h,S.nx+ops.length⟩,[],[],[]⟩) (last:=none) ⟨fun _ _ _=>rfl,Cc _ _,fun e he=>(by cases he),fun l hl=>(by cases hl),fun p hp=>(by cases hp)⟩ rfl (h ⟨S.h,S.nx+ops.length⟩ (Same.nx S _) rfl rfl);have low:Low K D':=aDH e1 ay (fun o ho=>by have:=Dp.1 hm o ho;simpa using this) ⟨fun e he=>(by cases he),fun l hl=>(by cases hl)⟩;have⟨F,S',ps,hs,ls⟩:=D';have hh:=h2 F S' ps hs ls e2 (fun m hm=>by
  cases hs with
  | nil=>rfl
  | cons e r=>exact hm _ (low.1 e (Br ..))) (fun m h' r hm=>lG fun l hl=>aDK (e3.lds l hl) (low.2 l hl) hm (fun e he=>e3.chain e (List.mem_reverse.1 he)) (fun _ _ _=>rfl))
 have:vW fns ops 0 S.nx ⟨A.F,⟨S.h,S.nx+ops.length⟩,[],[],[]⟩ fun D'=>gK S.h D'.hs.reverse D'.ls=true/\Q .normal ⟨D'.F,A.inr⟩ ⟨(cO (2 ^ ops.length - 1) D'.ps D'.S.h).2,D'.S.nx⟩:=by
  subst he;refine aJW ⟨n,_,e1,?_⟩;rw[An,hK];exact hh
 exact this
def aRN(W:St)(F:Fr)(nb:Nat)(l1 l2 l3:bu)(F':Fr)(Z:St)(ps:List iH):Prop:=ps= []/\Same W Z/\(∀j,j<6->aD j F'=aD j F)/\aD 37 F'= .ptr nb (0+3)/\bO .i64 Z (aD 28 F') l1/\bO .i64 Z (aD 32 F') l2/\bO .i64 Z (aD 36 F') l3/\(∀c,(aX (aD 28 F')=some c\/aX (aD 32 F')=some c\/aX (aD 36 F')=some c)->W.nx<=c)/\(∀c,aX (aD 28 F')=some c->aX (aD 32 F')≠some c/\aX (aD 36 F')≠some c)/\∀c,(aX (aD 28 F')=some c\/aX (aD 32 F')=some c\/aX (aD 36 F')=some c)->Wr Z c
theorem aAx{α:Type}{k:Nat}{E:St->b6->α->Prop}{S:St}{v:AV}{l:List α}{c:Nat}(h:aP k E S v l)(hc:aX v=some c):c<S.nx:=by
 rcases h with⟨_,rfl | rfl⟩ | ⟨b,off,cap,o,cs,rfl,_,hb,_⟩
 ·cases hc
 ·cases hc
 ·cases hc;exact hb
theorem fO{S S':St}{v:AV}{l:bu}(h:bO .i64 S v l)(hn:S.nx<=S'.nx)(hh:∀c,aX v=some c->S'.h.get c=S.h.get c):bO .i64 S' v l:=ofG (aP.moveB (toG h) hn hh fun _ _ h=>h)
theorem aM9{W Y:St}{F:Fr}{nb:Nat}{k p f:AV}{xa xw xp:AV}{l1 l2 l3:bu}(p5:aD 5 F= .ptr nb 0)(hb:W.h.get nb=some (.cells [k,p,f,xa,xw,xp] false 0))(lb:nb<W.nx)(h1:bO .i64 W xa l1)(h2:bO .i64 W xw l2)(h3:bO .i64 W xp l3)(b1:l1.length * 8<=140737488355328)(b2:l2.length * 8<=140737488355328)(b3:l3.length * 8<=140737488355328)
  (hY:Same W Y) (nY:Y.nx=W.nx+18):gN fns (fun _=>False) W.h W.nx aOY 0 F Y [] none (aRN W F nb l1 l2 l3):=by
 have s1:=bO.self h1;have s2:=bO.self h2;have s3:=bO.self h3;unfold aOY;simp only[↓sU,sD,rE,↓reduceIte,rA,p5,aF,aU,aE,dI hb,lb,Ap,s1,wO];obtain⟨U1,hU1⟩:∃U:St,U=⟨Y.h.set (W.nx+0) (some (.cells [] false 0)),Y.nx⟩:=⟨_,rfl⟩;have sU1:Same W U1:=by rw[hU1];exact⟨hY.1,fun c hc=>by simp only;rw[dd,if_neg ay];exact hY.2 c hc⟩
 have gU1:U1.h.get (W.nx+0)=some (.cells [] false 0):=by rw[hU1];simp only;rw[dd,if_pos rfl]
 have nU1:U1.nx=W.nx+18:=by rw[hU1];exact nY
 have⟨r1,V1,e1,i1,v1,k1,w1⟩:=aCx (bytes:=8) (E:=aLn) (l:=l1) aBk Nat.one_pos gU1 ay (toG (h1.same sU1)) bf bf;refine sR rfl (by rw[cS rfl];refine af ?_;rw[<-hU1];exact e1) ?_ ?_
 ·rw[cS rfl,<-hU1];exact⟨v1.1,fun c hc _=>v1.2 c ay⟩
 rw[cS rfl];have sV1:=sU1.trans v1;simp only[↓sU,sD,rE,↓reduceIte,rA,p5,aF,aU,aE,dP hb,lb,Ap,s2,wO];obtain⟨U2,hU2⟩:∃U:St,U=⟨V1.h.set (W.nx+4) (some (.cells [] false 0)),V1.nx⟩:=⟨_,rfl⟩;have sU2:Same W U2:=by rw[hU2];exact⟨sV1.1,fun c hc=>by simp only;rw[dd,if_neg ay];exact sV1.2 c hc⟩
 have gU2:U2.h.get (W.nx+4)=some (.cells [] false 0):=by rw[hU2];simp only;rw[dd,if_pos rfl]
 have nU2:U2.nx=V1.nx:=by rw[hU2]
 have nV1:=v1.1;have i1U:bO .i64 U2 r1 l1:=fO (ofG i1) ay fun c hc=>by
  rw[hU2];simp only;rw[dd,if_neg (by rcases k1 c hc with h | h<;>omega)]
 have⟨r2,V2,e2,i2,v2,k2,w2⟩:=aCx (bytes:=8) (E:=aLn) (l:=l2) aBk Nat.one_pos gU2 ay (toG (h2.same sU2)) bf bf;refine sR rfl (by rw[cS rfl];refine af ?_;rw[<-hU2];exact e2) ?_ ?_
 ·rw[cS rfl,<-hU2];exact⟨v2.1,fun c hc _=>v2.2 c ay⟩
 rw[cS rfl];have sV2:=sU2.trans v2;have i1V:=i1U.same v2;simp only[↓sU,sD,rE,↓reduceIte,rA,p5,aF,aU,aE,dW hb,lb,Ap,s3,wO];obtain⟨U3,hU3⟩:∃U:St,U=⟨V2.h.set (W.nx+8) (some (.cells [] false 0)),V2.nx⟩:=⟨_,rfl⟩;have sU3:Same W U3:=by rw[hU3];exact⟨sV2.1,fun c hc=>by simp only;rw[dd,if_neg ay];exact sV2.2 c hc⟩
 have gU3:U3.h.get (W.nx+8)=some (.cells [] false 0):=by rw[hU3];simp only;rw[dd,if_pos rfl]
 have nU3:U3.nx=V2.nx:=by rw[hU3]
 have nV2:=v2.1;have i1W:bO .i64 U3 r1 l1:=fO i1V ay fun c hc=>by
  rw[hU3];simp only;rw[dd,if_neg (by rcases k1 c hc with h | h<;>omega)]
 have i2W:bO .i64 U3 r2 l2:=fO (ofG i2) ay fun c hc=>by
  rw[hU3];simp only;rw[dd,if_neg (by rcases k2 c hc with h | h<;>omega)]
 have⟨r3,V3,e3,i3,v3,k3,w3⟩:=aCx (bytes:=8) (E:=aLn) (l:=l3) aBk Nat.one_pos gU3 ay (toG (h3.same sU3)) bf bf;refine sR rfl (by rw[cS rfl];refine af ?_;rw[<-hU3];exact e3) ?_ ?_
 ·rw[cS rfl,<-hU3];exact⟨v3.1,fun c hc _=>v3.2 c ay⟩
 rw[cS rfl];refine dk p5 @aF @aU @aE ?_;refine⟨rfl,sU3.trans v3,fun j hj=>?_,ag,by refine af ?_;exact i1W.same v3,by refine af ?_;exact i2W.same v3,by refine af ?_;exact ofG i3,fun c hc=>?_,fun c hc=>?_,fun c hc=>?_⟩
 ·have:j=0\/j=1\/j=2\/j=3\/j=4\/j=5:=by omega
  rcases this with rfl | rfl | rfl | rfl | rfl | rfl<;>simp only[↓sU,sD,rE,↓reduceIte,rA]
 ·simp only[↓sU,sD,rE,↓reduceIte,rA] at hc;rcases hc with h | h | h
  ·rcases k1 c h with h | h<;>omega
  ·rcases k2 c h with h | h<;>omega
  ·rcases k3 c h with h | h<;>omega
 ·simp only[↓sU,sD,rE,↓reduceIte,rA] at hc ⊢;have l1':=aAx i1 hc;have l2':=fun h=>aAx i2 (c:=c) h;rcases k1 c hc with h | h
  ·refine⟨fun e=>?_,fun e=>?_⟩
   ·rcases k2 c e with h | h<;>omega
   ·rcases k3 c e with h | h<;>omega
  ·refine⟨fun e=>?_,fun e=>?_⟩
   ·rcases k2 c e with h | h<;>omega
   ·rcases k3 c e with h | h<;>omega
 ·simp only[↓sU,sD,rE,↓reduceIte,rA] at hc;rcases hc with h | h | h
  ·refine((w1 c h).eq ?_);have:=aAx i1 h;have q:=k1 c h;rw[v3.2 c ay,hU3];simp only;rw[dd,if_neg ay,v2.2 c ay,hU2];simp only;rw[dd,if_neg ay]
  ·refine((w2 c h).eq ?_);have:=aAx i2 h;have q:=k2 c h;rw[v3.2 c ay,hU3];simp only;rw[dd,if_neg ay]
  ·exact w3 c h
theorem aOp{ops:List AO}{W:St}{F:Fr}{inr:Bool}{nb:Nat}{k p f:AV}{xa xw xp:AV}{l1 l2 l3:bu}{Q:Out->bS->St->Prop}(he:ops=aOY++aQc)(p5:aD 5 F= .ptr nb 0)(hb:W.h.get nb=some (.cells [k,p,f,xa,xw,xp] false 0))(lb:nb<W.nx)(h1:bO .i64 W xa l1)(h2:bO .i64 W xw l2)(h3:bO .i64 W xp l3)(b1:l1.length * 8<=140737488355328)(b2:l2.length * 8<=140737488355328)(b3:l3.length * 8<=140737488355328)
  (hQ:∀F' Z r1 r2 r3,(∀j,j<6->aD j F'=aD j F)->cC nb W Z->Z.h.get nb=some (.cells [k,p,f,r1,r2,r3] false 0)->bO .i64 Z r1 l1->bO .i64 Z r2 l2->bO .i64 Z r3 l3->(∀c,(aX r1=some c\/aX r2=some c\/aX r3=some c)->W.nx<=c)->(∀c,aX r1=some c->aX r2≠some c/\aX r3≠some c)->(∀c,(aX r1=some c\/aX r2=some c\/aX r3=some c)->Wr Z c)->Q .normal ⟨F',inr⟩ Z):lU fns (.drw ops) ⟨F,inr⟩ W Q:=by
 have hlen:ops.length=18:=by rw[he];rfl
 refine aCu (K:=13) (R:=aRN W F nb l1 l2 l3) he rfl rfl (fun S1 s h n=>aM9 p5 hb lb h1 h2 h3 b1 b2 b3 s (by rw[n,hlen])) ?_;rintro F' S' ps hs ls ⟨rfl,sZ,hk,p37,i1,i2,i3,hbk,hdj,hwr⟩ hlast hld;have p5':aD 5 F'= .ptr nb 0:=(hk 5 ay).trans p5;have hb':=(sZ.2 _ lb).trans hb;generalize hr1:aD 28 F'=r1 at i1 hbk hdj hwr;generalize hr2:aD 32 F'=r2 at i2 hbk hdj hwr;generalize hr3:aD 36 F'=r3 at i3 hbk hdj hwr;have m1:∀i,i<13->Nat.testBit 8191 i=true:=by decide
 unfold aQc;refine kE (v:=.undef) (S1:=⟨S'.h.set nb (some (.cells [k,p,f,r1,xw,xp] false 0)),S'.nx⟩) (hlast _ m1) (fun call=>?_) ?_
 ·rw[dS];simp only[fR,p37,hr1,bX,bO.cells i1,aN];exact stc (S:=S') hb' (by simp)
 simp only[iE,dK,aF,aE,aU,aT,fR,bX,gP,bP,p5',rE,↓reduceIte,rA];refine kE (v:=.undef) (S1:=⟨(S'.h.set nb (some (.cells [k,p,f,r1,xw,xp] false 0))).set nb (some (.cells [k,p,f,r1,r2,xp] false 0)),S'.nx⟩) (bg:Nat.testBit 32767 13=true) (fun call=>?_) ?_
 ·rw[dS];simp only[fR,bP,rE,↓reduceIte,hr2,bX,bO.cells i2,aN];exact stc (cs:=[k,p,f,r1,xw,xp]) (p:=4) (S:=⟨S'.h.set nb (some (.cells [k,p,f,r1,xw,xp] false 0)),S'.nx⟩) fq (by simp)
 simp only[iE,dK,aF,aE,aU,aT,fR,bX,gP,bP,p5',rE,↓reduceIte,rA];refine kE (v:=.undef) (S1:=⟨((S'.h.set nb (some (.cells [k,p,f,r1,xw,xp] false 0))).set nb (some (.cells [k,p,f,r1,r2,xp] false 0))).set nb (some (.cells [k,p,f,r1,r2,r3] false 0)),S'.nx⟩) (bg:Nat.testBit 131071 15=true) (fun call=>?_) ?_
 ·rw[dS];simp only[fR,bP,rE,↓reduceIte,hr3,bX,bO.cells i3,aN];exact stc (cs:=[k,p,f,r1,r2,xp]) (p:=5) (S:=⟨(S'.h.set nb (some (.cells [k,p,f,r1,xw,xp] false 0))).set nb (some (.cells [k,p,f,r1,r2,xp] false 0)),S'.nx⟩) fq (by simp)
 rw[jB];refine⟨?_,?_⟩
 ·simp only[Cw,Bd,Dy,Ck,Bq];exact hld _ _ _ m1
 ·simp only[bX,gP];have hne:∀ {v:AV} {l:bu},bO .i64 S' v l->(∀c,aX v=some c->W.nx<=c)->bO .i64 ⟨((S'.h.set nb (some (.cells [k,p,f,r1,xw,xp] false 0))).set nb (some (.cells [k,p,f,r1,r2,xp] false 0))).set nb (some (.cells [k,p,f,r1,r2,r3] false 0)),S'.nx⟩ v l:=fun {v l} h hc=>fO h (Ag _) fun c hcc=>by
   have:=hc c hcc;simp only;rw[dd,if_neg ay,dd,if_neg ay,dd,if_neg ay]
  refine hQ _ _ r1 r2 r3 (fun j hj=>?_) ⟨sZ.1,fun c hc hn=>?_⟩ fq (hne i1 fun c hc=>hbk c (.inl hc)) (hne i2 fun c hc=>hbk c (.inr (.inl hc))) (hne i3 fun c hc=>hbk c (.inr (.inr hc))) hbk hdj (fun c hc=>(hwr c hc).eq (by have:=hbk c hc;simp only;rw[dd,if_neg ay,dd,if_neg ay,dd,if_neg ay]))
  ·rw[bP,if_neg ay,bP,if_neg ay];exact hk j hj
  ·simp only;rw[dd,if_neg hn,dd,if_neg hn,dd,if_neg hn];exact sZ.2 c hc
def aAD(X:St)(P:Nat->Prop)(e:b6)(a:cP):Prop:=∃xa xw xp,e= [.int .i64 a.kind,.int .i64 a.player,.int .i64 a.info,xa,xw,xp]/\bO .i64 X xa a.next/\bO .i64 X xw a.weights/\bO .i64 X xp a.pay/\∀c,(aX xa=some c\/aX xw=some c\/aX xp=some c)->P c
def mX(X:St)(P:Nat->Prop)(cs:b6)(l:List cP):Prop:=cs.length=l.length * 6/\∀ (j:Nat) (a:cP),l[j]? =some a->∃e:b6,e.length=6/\(∀ (q:Nat) (x:AV),e[q]? =some x->cs[j * 6+q]? =some x)/\aAD X P e a
theorem fM{k:IntKind}{X:St}{v:AV}{l:bu}{c:Nat}(h:bO k X v l)(hc:aX v=some c):c<X.nx:=by
 rcases h with⟨_,rfl | rfl⟩ | ⟨b,off,cap,o,cs,rfl,_,hb,_⟩
 ·cases hc
 ·cases hc
 ·cases hc;exact hb
theorem aAD.move{X X':St}{P P':Nat->Prop}{e:b6}{a:cP}(h:aAD X P e a)(hn:X.nx<=X'.nx)(hh:∀c,c<X.nx->P c->X'.h.get c=X.h.get c/\P' c):aAD X' P' e a:=by
 obtain⟨xa,xw,xp,rfl,h1,h2,h3,h4⟩:=h;refine⟨xa,xw,xp,rfl,fO h1 hn fun c hc=>(hh c (fM h1 hc) (h4 c (.inl hc))).1,fO h2 hn fun c hc=>(hh c (fM h2 hc) (h4 c (.inr (.inl hc)))).1,fO h3 hn fun c hc=>(hh c (fM h3 hc) (h4 c (.inr (.inr hc)))).1,fun c hc=>?_⟩;rcases hc with hc | hc | hc
 ·exact(hh c (fM h1 hc) (h4 c (.inl hc))).2
 ·exact(hh c (fM h2 hc) (h4 c (.inr (.inl hc)))).2
 ·exact(hh c (fM h3 hc) (h4 c (.inr (.inr hc)))).2
theorem mX.move{X X':St}{P P':Nat->Prop}{cs:b6}{l:List cP}(h:mX X P cs l)(hn:X.nx<=X'.nx)(hh:∀c,c<X.nx->P c->X'.h.get c=X.h.get c/\P' c):mX X' P' cs l:=
 ⟨h.1,fun j a hj=>by
  have⟨e,e1,e2,e3⟩:=h.2 j a hj;exact⟨e,e1,e2,e3.move hn hh⟩⟩
theorem mX.push{X:St}{P:Nat->Prop}{cs e:b6}{l:List cP}{a:cP}(h:mX X P cs l)(he:aAD X P e a):mX X P (cs++e) (l++ [a]):=by
 have hl:e.length=6:=by
  obtain⟨_,_,_,rfl,_⟩:=he;rfl
 refine⟨by rw[Ai,h.1,hl,Ai,Av,Ec],fun j b hj=>?_⟩;rw[Em] at hj;split at hj
 ·have⟨e',e1,e2,e3⟩:=h.2 j b hj;refine⟨e',e1,fun q x hq=>?_,e3⟩;have:=e2 q x hq;rw[Al (Aj.1 this).1];exact this
 ·rename_i hlt;have hj0:j - l.length=0:=by
   rcases Bk (j - l.length) with h0 | h0
   ·exact h0
   ·have⟨q,hq⟩:=Nat.exists_eq_succ_of_ne_zero (Nat.pos_iff_ne_zero.1 h0);rw[hq] at hj;simp at hj
  rw[hj0] at hj;simp at hj;subst hj;have hjl:j=l.length:=by omega
  subst hjl;refine⟨e,hl,fun q x hq=>?_,he⟩;rw[Am (by rw[h.1];omega),h.1,Ep];exact hq
theorem aGh{t:Nat}{x:cU}{F:Fr}{id:Nat}{k p f xa xw xp z0 z1 z2 z3 z4 z5:AV}(hx:x.val F= .agg [k,p,f,xa,xw,xp]):sH (.ch t 6 1 [z0,z1,z2,z3,z4,z5] [(0,x)]) F id=some (.sl id 0 1 1 false,.cells [k,p,f,xa,xw,xp] false 0):=by
 show(bH (eZ (repeatL [z0,z1,z2,z3,z4,z5] 1) [(0 * 6,6,x.val F)]) fun cs=>some (AV.sl id 0 1 1 false,AB.cells cs false 0))=_;rw[hx];show(bH (bH (AV.cells (.agg [k,p,f,xa,xw,xp])) _) _)=_;rw[bL,aN];rfl
theorem aSw{S:St}{t:Nat}{k p f xa xw xp:AV}{o:Bool}{sz:Nat}(h:S.h.get t=some (.cells [k,p,f,xa,xw,xp] o sz)):eE (.sl t 0 1 1 false) S.h 6 1=some [k,p,f,xa,xw,xp]:=by
 show bH (cJ S.h t) (fun cs=>cut cs 0 (1 * 6))=_;unfold cJ;rw[h];rfl
theorem fX.appB{k n m bytes:Nat}{S0 S:St}{v x:AV}{cs new:b6}(h:fX k S0 S v n cs)(hS:Same S0 S)(hl:mC x=some m)(hs:eE x S.h k m=some new)(hn:new.length=m * k)(hm:0<m)(h1:n+m<=room)(h2:(n+m) * bytes<=room):
  ∃v' S',fN bytes k v x S=some (v',S')/\fX k S0 S' v' (n+m) (cs++new)/\Same S0 S'/\S.nx<=S'.nx/\(∀c,c<S.nx->aX v≠some c->S'.h.get c=S.h.get c)/\aX v'=some S.nx:=by
 rcases h with⟨rfl,rfl,rfl⟩ | ⟨b,rfl,hb0,hb,hg,hc⟩
 ·refine⟨.sl S.nx 0 m m true,⟨S.h.set S.nx (some (.cells new true k)),S.nx+1⟩,?_,.inr ⟨S.nx,by rw[An],hS.1,by simp,?_,by rw[An];exact hn⟩,hS.trans (Same.alloc S _),by simp,fun c hc _=>(Same.alloc S _).2 c hc,rfl⟩
  ·show(bH (mC x) fun j=>bH (eE x S.h k j) fun new=>yA .cb bytes k j new S)=_;rw[hl,aN,hs,aN];show pI bytes k m new S=_;unfold pI;rw[show Nat.beq m 0=false from Ch.2 fun e=>by rw[Bg] at e;omega,aT,Ak ay,aO,Ak (by rw[An] at h2;exact h2),aO];rfl
  ·simp only;rw[dd,if_pos rfl];rfl
 ·refine⟨.sl S.nx 0 (n+m) (n+m) true,⟨(S.h.set b none).set S.nx (some (.cells (cs++new) true k)),S.nx+1⟩,?_,.inr ⟨S.nx,rfl,hS.1,by simp,?_,by rw[Ai,hc,hn,Ec]⟩,⟨Au hS.1 (by simp),fun c hc=>?_⟩,by simp,fun c hc hne=>?_,rfl⟩
  ·show(bH (mC x) fun j=>bH (eE x S.h k j) fun new=>yA (.sl b 0 n n true) bytes k j new S)=_;rw[hl,aN,hs,aN];show jK bytes k b 0 n n true m new S=_;unfold jK;have e2:Nat.ble (n+m) n=false:=by rw[Ch];intro h;have:=Ba h;omega
   rw[e2,aT,Ak h1,aO,Ak h2,aO,hg,aN];have e3:cut cs 0 (n * k)=some cs:=by
    unfold cut;rw[fU,fZ,Di,if_pos ay,Bb ay]
   have e4:Nat.beq (0+n * k) (lO cs)=true:=by rw[fL,hc,Bg];omega
   have e5:Nat.beq k k=true:=Fk k;simp only[vJ,e3,aN,aO,e4,e5,grown,fW]
  ·simp only;rw[dd,if_pos rfl]
  ·simp only;have:=hS.1;rw[dd,if_neg ay,dd,if_neg ay];exact hS.2 c hc
  ·simp only;have:c≠b:=fun e=>hne (by rw[e];rfl);rw[dd,if_neg ay,dd,if_neg this]
def aEH(cs:b6)(n:Nat):Prop:=∀j,j<n->∀xa xw xp,cs[j * 6+3]? =some xa->cs[j * 6+4]? =some xw->cs[j * 6+5]? =some xp->∀c,aX xa=some c->aX xw≠some c/\aX xp≠some c
theorem aEH.push{cs:b6}{n:Nat}{a0 a1 a2 r1 r2 r3:AV}(h:aEH cs n)(hl:cs.length=n * 6)(hd:∀c,aX r1=some c->aX r2≠some c/\aX r3≠some c):aEH (cs++ [a0,a1,a2,r1,r2,r3]) (n+1):=by
 intro j hj xa xw xp h1 h2 h3;by_cases e:j=n
 ·subst e;rw[Am ay,hl,show j * 6+3 - j * 6=3 by omega] at h1;rw[Am ay,hl,show j * 6+4 - j * 6=4 by omega] at h2;rw[Am ay,hl,show j * 6+5 - j * 6=5 by omega] at h3;cases h1;cases h2;cases h3;exact hd
 ·rw[Al ay] at h1 h2 h3;exact h j ay xa xw xp h1 h2 h3
def OgI(X0:St)(gb rb ob:Nat)(jv:AV)(g:bD)(k:Nat)(A:bS)(X:St):Prop:=A.inr=false/\X0.nx<=X.nx/\(∀c,c<X0.nx->c≠ob->X.h.get c=X0.h.get c)/\∃ (i:Nat) (pv:AV) (cs:b6),i+k=g.bk.length/\X.h.get ob=some (.cells [.int .i64 g.bo,pv,jv] false 0)/\fX 6 X0 X pv i cs/\mX X (fun c=>X0.nx<=c/\aX pv≠some c/\Wr X c) cs (g.bk.take i)/\aEH cs i/\aD 1 A.F= .ptr gb 0/\aD 2 A.F= .ptr rb 0/\aD 3 A.F= .ptr ob 0/\aD 4 A.F= .int .i64 (i:Int)
theorem aNL{W:Nat->Prop}{h0:T AB}{base:Nat}{m i:Nat}{l:List AO}{F:Fr}{S:St}{last:Option Nat}{Q:Fr->St->List iH->Prop}{n j id:Nat}{x v:cU}{cs cs':b6}(ht:Nat.testBit m j=true)(h:mB last m=true)(hx:x.val F= .ptr id 0)(hv:(v.val F).cells=some cs')(h1:cs.length=n)(h2:cs'.length=n)(hid:base<=id)
  (hr:∀S1,cC id S S1->S1.nx=S.nx->S1.h.get id=some (.cells cs' false 0)->gN fns W h0 base l (i+1) F S1 [] (some i) Q):gN fns W h0 base (⟨none,.x (.st n x v),none,m⟩::l) i F S [⟨j,id,.cells cs false 0⟩] last Q:=by
 have hb:(⟨S.h.set id (some (.cells cs false 0)),S.nx⟩:St).h.get id=some (.cells cs false 0):=by simp only;rw[dd,if_pos rfl]
 refine xG (S1:=⟨(S.h.set id (some (.cells cs false 0))).set id (some (.cells cs' false 0)),S.nx⟩) h ?_ ⟨Ag _,fun c hc hw=>?_⟩ ?_
 ·rw[cS ht,hv,aN,hx];exact aAH hb h1 h2
 ·simp only;rw[cS ht,dd,if_neg ay]
 ·rw[cS ht];refine hr _ ⟨Ag _,fun c hc hne=>?_⟩ rfl ?_
  ·simp only;rw[dd,if_neg hne,dd,if_neg hne]
  ·simp only;rw[dd,if_pos rfl]
theorem aQr{F:Fr}{h:Ev.T AB}{ps:Int}{r:AV}(h7:aD 7 F= .int .i64 ps)(h11:aD 11 F=r)(hr:r.cells=some [r]):gT (.build [.int .i64 0,.cb,.cb] [(0,1,.t 7),(2,1,.t 11)]) F h=some (.agg [.int .i64 ps,.cb,r]):=by
 show(bH (eZ _ (eH F [(0,1,.t 7),(2,1,.t 11)])) fun cs=>some (AV.agg cs))=_;simp only[eH,show(cU.t 7).val F= .int .i64 ps from h7,show(cU.t 11).val F=r from h11,eZ,cH,hr,aN];rfl
theorem aKC{k:Nat}{α:Type}{E:St->b6->α->Prop}{S:St}{v:AV}{l:List α}(h:aP k E S v l):v.cells=some [v]:=by
 rcases h with⟨_,rfl | rfl⟩ | ⟨b,off,cap,o,cs,rfl,_⟩<;>rfl
theorem aKp{S:St}{nv iv:AV}{g:bD}(H:Has fns)(hn:aP 6 cI S nv g.bk)(hi:aP 2 cW S iv g.bn)(hT:aQR g)(hln:g.bk.length<=100000):
  gH fns (.fn 63 [] []) [.agg [.int .i64 g.bo,nv,iv]] S fun r X=>Same S X/\∃mv jv nz cs,r= .agg [.int .i64 g.bo,mv,jv]/\S.nx<=nz/\fX 6 ⟨X.h,nz⟩ X mv g.bk.length cs/\mX X (fun c=>S.nx<=c/\aX mv≠some c/\Wr X c) cs g.bk/\aEH cs g.bk.length/\aP 2 cW X jv g.bn:=by
 refine cF H.f63 (by simp) ?_;refine aq ?_;refine bQ ?_;refine dV (cs:=[.int .i64 g.bo,nv,iv]) rfl ?_;intro S1 s1 n1 c1;refine dC ?_;intro S2 s2 n2 c2;refine aq ?_;have d1:=(s2.2 _ (ay:S.nx<S1.nx)).trans c1;have sS:=s1.trans s2;have lt1:S.nx<S2.nx:=by omega
 have siv:=aP.self hi;have hib:=hT.1;refine aA (qO (fun _=>False) ?_);intro Y sY hY nY;simp only[Aw,Ci,rA] at nY;simp only[↓sU,sD,rE,↓reduceIte,rA,aF,aU,aE,tE d1,lW d1,lt1,Ap,siv,wO];obtain⟨U,hU⟩:∃U:St,U=⟨Y.h.set (S2.nx+2) (some (.cells [] false 0)),Y.nx⟩:=⟨_,rfl⟩;have sUx:Same S2 U:=by rw[hU];exact⟨sY.1,fun c hc=>by simp only;rw[dd,if_neg ay];exact sY.2 c hc⟩
 have gU:U.h.get (S2.nx+2)=some (.cells [] false 0):=by rw[hU];simp only;rw[dd,if_pos rfl]
 have nU:U.nx=S2.nx+9:=by rw[hU];exact nY
 have⟨jv,V,e1,i1,v1,k1⟩:=aPn (k:=2) (bytes:=16) (E:=cW) (l:=g.bn) cM bg gU ay (aP.same (E:=cW) cM hi (sS.trans sUx)) bf bf;have nV:=v1.1;refine sR rfl (by rw[cS rfl];refine af ?_;rw[<-hU];exact e1) ?_ ?_
 ·rw[cS rfl,<-hU];exact⟨v1.1,fun c hc _=>v1.2 c ay⟩
 rw[cS rfl];refine cm @nS ?_;rw[aQr (ps:=g.bo) (r:=jv) (ag) (ag) (aKC i1)];simp only[↓sU,sD,rE,↓reduceIte,rA,tJ,oF,rA];refine aNL (by rfl) rfl (ag) (by simp only[↓sU,sD,rE,↓reduceIte,rA,bL];rfl) rfl rfl ay ?_;intro Z z nZ gZ;have sZ:Same S2 Z:=by exact z.same (sUx.trans v1) ay
 have hjb:∀c,aX jv=some c->c≠S2.nx+7:=fun c hc=>by rcases k1 c hc with h | h<;>omega
 have iZ:aP 2 cW Z jv g.bn:=aP.moveB i1 z.1 (fun c hc=>z.2 c (by
  rcases i1 with⟨_,rfl | rfl⟩ | ⟨b,off,cap,o,cs,rfl,_,hb,_⟩
  ·cases hc
  ·cases hc
  ·cases hc;exact hb) (hjb c hc)) fun _ _ h=>h
 refine af ?_;have ob7:S2.nx+7<Z.nx:=by omega
 have gbZ:=(sZ.2 _ lt1).trans d1;have rbZ:=(sZ.2 _ (ay:S1.nx<S2.nx)).trans c2;have hjl:∀c,aX jv=some c->c<Z.nx:=fun c hc=>by
  rcases iZ with⟨_,rfl | rfl⟩ | ⟨b,off,cap,o,cs,rfl,_,hb,_⟩
  ·cases hc
  ·cases hc
  ·cases hc;exact hb
 have sSZ:=sS.trans sZ;refine aA (aW (Q:=fun o A' X=>o= .normal/\OgI Z S.nx S1.nx (S2.nx+7) jv g 0 A' X) (aA (aG ?_)) ?_)
 ·refine af ?_;refine aL (bK (OgI Z S.nx S1.nx (S2.nx+7) jv g) ?_ g.bk.length _ _ ⟨rfl,Ag _,fun _ _ _=>rfl,0,.cb,[],ay,gZ,.inl ⟨rfl,rfl,rfl⟩,⟨rfl,fun j a hj=>by simp at hj⟩,fun j hj=>absurd hj (Cf j),by refine⟨?_,?_,?_,?_⟩<;>simp only[↓sU,sD,rE,↓reduceIte,rA]⟩);rintro k ⟨F,inr⟩ X ⟨q0,nX,hR,i,pv,cs,hik,hob,hg,hB,hD,p1,p2,p3,p4⟩;simp only at q0 p1 p2 p3 p4;subst q0;have gbX:=(hR S.nx ay ay).trans gbZ;have sSX:Same S X:=⟨Au sSZ.1 nX,fun c hc=>(hR c (az sSZ.1) ay).trans (sSZ.2 c hc)⟩;refine fE (du p1 p4 @aF @aE (gI gbX) hn.len ?_);by_cases hlt:i<g.bk.length;rotate_left
  ·refine aK fe (bG ?_);refine af ?_;obtain rfl:k=0:=by omega
   exact⟨rfl,nX,hR,i,pv,cs,hik,hob,hg,hB,hD,by refine⟨?_,?_,?_,?_⟩<;>simp only[↓sU,sD,rE,↓reduceIte,rA,p1,p2,p3,p4]⟩
  refine aM fe (aH ?_);refine af ?_;have⟨t1,t2,t3⟩:=hT.2 _ (Bu (eK hlt));obtain⟨_,bx,qx,hiax,hbx,_,⟨xa,xw,xp,rfl,hxa,hxw,hxp⟩,hldx,_⟩:=aP.at (aP.same (E:=cI) bT hn sSX) bg (eK hlt);have w0:=dc i
  refine aA (aL (aA (aG ?_)));refine eg p1 p4 @aF @aE (gI gbX) @aJ hiax hldx ?_;refine dC ?_;intro W1 v1' k1' h1';refine eS (b:=X.nx) (ar) (by refine aq ?_;exact bL _) h1' rfl rfl ?_;intro W v2 k2 h2;refine aq ?_;have sXW:Same X W:=v2.same v1' (Ag _);have lxW:X.nx<W.nx:=by omega
  refine aA (aOp rfl (ar) h2 lxW (hxa.same sXW) (hxw.same sXW) (hxp.same sXW) t1 t2 t3 ?_);intro F' Y2 r1 r2 r3 hk sY2 hnb i1' i2' i3' hbk hdj hwr;have q1:aD 1 F'= .ptr S.nx 0:=(hk 1 ay).trans (ax p1);have q2:aD 2 F'= .ptr S1.nx 0:=(hk 2 ay).trans (ax p2);have q3:aD 3 F'= .ptr (S2.nx+7) 0:=(hk 3 ay).trans (ax p3);have q4:aD 4 F'= .int .i64 (i:Int):=(hk 4 ay).trans (ax p4);have q5:aD 5 F'= .ptr X.nx 0:=(hk 5 ay).trans (ar);clear hk p1 p2 p3 p4;have nY2:=sY2.1;have old:∀c,c<X.nx->Y2.h.get c=X.h.get c:=fun c hc=>(sY2.2 c ay ay).trans (sXW.2 c hc);have obY:=(old _ (ay:S2.nx+7<X.nx)).trans hob;have hgY:fX 6 Z Y2 pv i cs:=hg.move ay fun c hc=>old c (hg.blk hc).2.1;have hBY:mX Y2 (fun c=>Z.nx<=c/\aX pv≠some c/\Wr Y2 c) cs (g.bk.take i):=hB.move ay fun c hc hP=>⟨old c hc,hP.1,hP.2.1,hP.2.2.eq (old c hc)⟩;have heY:aAD Y2 (fun c=>W.nx<=c/\Wr Y2 c) [.int .i64 (cd g i).kind,.int .i64 (cd g i).player,.int .i64 (cd g i).info,r1,r2,r3] (cd g i):=⟨r1,r2,r3,rfl,i1',i2',i3',fun c hc=>⟨hbk c hc,hwr c hc⟩⟩;refine aG (ec q3 q5 @aF @aE (gI obY) (ldN hnb) ?_);refine gO (aGh (k:=.int .i64 (cd g i).kind) (p:=.int .i64 (cd g i).player) (f:=.int .i64 (cd g i).info) (xa:=r1) (xw:=r2) (xp:=r3) (ar)) ?_;intro U2 u1 m1 g1;have⟨pv',U',eA,gA,sA,nA,rA,bA⟩:=fX.appB (k:=6) (m:=1) (bytes:=96) (S0:=⟨U2.h,Z.nx⟩) (show fX 6 ⟨U2.h,Z.nx⟩ U2 pv i cs from hgY.step u1) ⟨by show Z.nx<=U2.nx;omega,fun _ _=>rfl⟩ rfl (aSw g1) rfl ay bf bf;refine fD (fun call=>by refine dz @fY ?_;exact eA) ?_;have hoff:=hgY.off obY;have obU:=(rA _ ay hoff).trans ((u1.2 _ ay).trans obY);have hcl:=gA.cells;refine d7 q3 @aF @aE ?_;refine fD (fun call=>by refine d7 @dS hcl @aN ?_;exact stc (cs:=[.int .i64 g.bo,pv,jv]) (p:=1) (S:=U') obU (by simp)) ?_;refine aq ?_;refine aG (df q4 w0 ?_);have fin:∀c,c≠S2.nx+7->c<Y2.nx->aX pv≠some c->(U'.h.set (S2.nx+7) (some (.cells ([.int .i64 g.bo,pv,jv].set 1 pv') false 0))).get c=Y2.h.get c:=fun c h1 h2 h3=>by
   rw[dd,if_neg h1,rA c ay h3,u1.2 c h2]
  refine⟨k - 1,ay,rfl,by show Z.nx<=U'.nx;omega,fun c hc hne=>(fin c hne ay fun e=>by have:=(hgY.blk e).1;omega).trans ((old c ay).trans (hR c hc hne)),i+1,pv',_,ay,by simp only;rw[dd,if_pos rfl];rfl,fX.move (S:=U') (by exact gA) (Ag _) fun c hc=>?_,?_,hD.push (by rw[hB.1,Bp,Nat.min_eq_left (Nat.le_of_lt hlt)]) hdj,by refine⟨?_,?_,?_,?_⟩<;>simp only[↓sU,sD,rE,↓reduceIte,rA,q1,q2,q3]⟩
  ·simp only;rw[dd,if_neg (by rw[bA] at hc;cases hc;omega)]
  ·rw[Bx,eK hlt];refine mX.push (hBY.move (by show Y2.nx<=U'.nx;omega) fun c hc hP=>have e:=fin c (az hP.1) hc hP.2.1;⟨e,hP.1,fun e=>by rw[bA] at e;cases e;omega,hP.2.2.eq e⟩) (heY.move (by show Y2.nx<=U'.nx;omega) fun c hc hP=>have e:=fin c (az hP.1) hc (fun e=>by have:=hP.1;have:=(hg.blk e).2.1;omega);⟨e,az hP.1,fun e=>by rw[bA] at e;cases e;omega,hP.2.eq e⟩)
 rintro o ⟨F,inr⟩ X ⟨rfl,q0,nX,hR,i,pv,cs,hik,hob,hg,hB,hD,p1,p2,p3,p4⟩;simp only at q0 p1 p2 p3 p4;subst q0;obtain rfl:i=g.bk.length:=by omega
 rw[Ey] at hB;have rbX:=(hR S1.nx ay ay).trans rbZ;have sSX:Same S X:=⟨Au sSZ.1 nX,fun c hc=>(hR c (az sSZ.1) ay).trans (sSZ.2 c hc)⟩;have iX:aP 2 cW X jv g.bn:=aP.moveB iZ nX (fun c hc=>hR c (hjl c hc) (hjb c hc)) fun _ _ h=>h;refine aq ?_;refine bQ (d7 p2 p3 (ld3 hob) ?_);refine eS (b:=S1.nx) (cs':=[.int .i64 g.bo,pv,jv]) (ax p2) (by refine aq ?_;exact bL _) rbX rfl rfl ?_;intro X' x' n' g';refine aq ?_;refine aR ?_;have sX':Same S X':=x'.same sSX ay;have nX':=x'.1;have gX':fX 6 Z X' pv g.bk.length cs:=hg.move nX' fun c hc=>x'.2 c (hg.blk hc).2.1 (by have:=(hg.blk hc).1;omega);have bX':mX X' (fun c=>Z.nx<=c/\aX pv≠some c/\Wr X' c) cs g.bk:=hB.move nX' fun c hc hP=>have e:=x'.2 c hc (az hP.1);⟨e,hP.1,hP.2.1,hP.2.2.eq e⟩;have jX':aP 2 cW X' jv g.bn:=aP.moveB iX nX' (fun c hc=>x'.2 c (Ae (hjl c hc) nX) (by rcases k1 c hc with h | h<;>omega)) fun _ _ h=>h;refine d7 p2 @gF (ld3 g') ?_;exact⟨sX',pv,jv,Z.nx,cs,rfl,az sSZ.1,gX',bX'.move (Ag _) (fun c _ hP=>⟨rfl,az sSZ.1,hP.2⟩),hD,jX'⟩
end Go.Ev.Gl
