import Derived.Test.YtkklchgmpejobaaGreatDoorGl11
set_option maxHeartbeats 16000000
set_option linter.unusedSimpArgs false
set_option linter.unusedVariables false
namespace Go.Ev.Gl
variable {fns:T cW}
def aNA(_:St)(cs:List AV)(x:Int):Prop:=cs= [.int .i64 x]
theorem aKy:aFs aNA:=fun h _=>h
theorem toG{S:St}{v:AV}{l:List Int}(h:bT .i64 S v l):aY 1 aNA S v l:=by
 rcases h with h | ⟨b,off,cap,o,cs,rfl,hc,hb,hcs,hel⟩
 ·exact .inl h
 ·refine .inr ⟨b,off,cap,o,cs,rfl,hc,hb,hcs,fun i a hi=>⟨[.int .i64 a],rfl,fun j x hj=>?_,rfl⟩⟩;cases j with
  | zero=>simp at hj;subst hj;rw[Du,Bt];exact hel i a hi
  | succ j=>simp at hj
theorem ofG{S:St}{v:AV}{l:List Int}(h:aY 1 aNA S v l):bT .i64 S v l:=by
 rcases h with h | ⟨b,off,cap,o,cs,rfl,hc,hb,hcs,hel⟩
 ·exact .inl h
 ·refine .inr ⟨b,off,cap,o,cs,rfl,hc,hb,hcs,fun i a hi=>?_⟩;obtain⟨e,_,h2,h3⟩:=hel i a hi;have h3:e= [.int .i64 a]:=h3;subst h3;have:=h2 0 _ rfl;rw[Du,Bt] at this;exact this
theorem aY.moveB{k:Nat}{α:Type}{E:St→List AV→α→Prop}{S S':St}{v:AV}{l:List α}(h:aY k E S v l)(hn:S.nx≤S'.nx)(hh:∀c,aU v=some c→S'.h.get c=S.h.get c)(hE:∀e a,E S e a→E S' e a):aY k E S' v l:=by
 rcases h with h | ⟨b,off,cap,o,cs,rfl,hc,hb,hcs,hel⟩
 ·exact .inl h
 ·refine .inr ⟨b,off,cap,o,cs,rfl,hc,Ah hb hn,?_,fun i a hi=>?_⟩
  ·unfold cN;rw[hh b rfl];exact hcs
  ·obtain⟨e,e1,e2,e3⟩:=hel i a hi;exact⟨e,e1,e2,hE e a e3⟩
theorem aRj{k:Nat}{α:Type}{E:St→List AV→α→Prop}{S:St}{v:AV}{l:List α}(hk:0<k)(h:aY k E S v l):∃new,nI v=some l.length∧eF v S.h k l.length=some new∧∀i a,l[i]? =some a→∃e:List AV,e.length=k∧(∀ (j:Nat) (x:AV),e[j]? =some x→new[i * k+j]? =some x)∧E S e a:=by
 rcases h with⟨rfl,h⟩ | ⟨b,off,cap,o,cs,rfl,hc,hb,hcs,hel⟩
 ·rcases h with rfl | rfl<;>exact⟨[],rfl,rfl,fun i a hi=>by simp at hi⟩
 ·rcases Cd l.length with h0 | hp
  ·have hl:l= []:=Cc.1 h0;subst hl;refine⟨[],rfl,?_,fun i a hi=>by simp at hi⟩;show(aX (cN S.h b) fun cs=>cut cs off (0 * k))=_;rw[hcs,aK,Dy];unfold cut;rw[fH,fX,if_pos (Cb _)];rfl
  ·have hle:off+l.length * k≤cs.length:=by
    obtain⟨e,e1,e2,_⟩:=hel (l.length - 1) _ (Ad (by omega));have:=e2 (k - 1) _ (Ad (by omega));have h3:=(Ae.1 this).1;have h4:(l.length - 1) * k+k=l.length * k:=by
     rw[←Dg];congr 1;omega
    omega
   refine⟨(cs.drop off).take (l.length * k),rfl,?_,fun i a hi=>?_⟩
   ·show(aX (cN S.h b) fun cs=>cut cs off (l.length * k))=_;rw[hcs,aK];unfold cut;rw[fH,fX,if_pos (by rw[Da];omega)]
   ·obtain⟨e,e1,e2,e3⟩:=hel i a hi;refine⟨e,e1,fun j x hj=>?_,e3⟩;have hlt:=(Ae.1 hi).1;have hj1:=(Ae.1 hj).1;have h5:i * k+k≤l.length * k:=by
     rw[←Dg];exact Cu k hlt
    rw[Em (by omega),Eh];have:=e2 j x hj;rw[Cv] at this;exact this
def Wr(X:St)(c:Nat):Prop:=∃cs o sz,X.h.get c=some (.cells cs o sz)
theorem Wr.eq{X X':St}{c:Nat}(h:Wr X c)(e:X'.h.get c=X.h.get c):Wr X' c:=by
 obtain⟨cs,o,sz,h⟩:=h;exact⟨cs,o,sz,e.trans h⟩
theorem aI0{k bytes b:Nat}{α:Type}{E:St→List AV→α→Prop}{S:St}{v:AV}{l:List α}(hE:aFs E)(hk:0<k)(hb:S.h.get b=some (.cells [] false 0))(hbl:b<S.nx)(h:aY k E S v l)(h1:l.length≤room)(h2:l.length * bytes≤room):
  ∃r S',gS bytes k (.sl b 0 0 0 false) v S=some (r,S')∧aY k E S' r l∧Same S S'∧(∀c,aU r=some c→c=b∨S.nx≤c)∧∀c,aU r=some c→Wr S' c:=by
 obtain⟨new,e1,e2,e3⟩:=aRj hk h;unfold gS;rw[e1,aK,e2,aK];show ∃r S',oW bytes k b 0 0 0 false l.length new S=some (r,S')∧_;unfold oW;rcases Cd l.length with h0 | hp
 ·have hl:l= []:=Cc.1 h0;subst hl;refine⟨.sl b 0 0 0 false,S,rfl,.inr ⟨b,0,0,false,[],rfl,Af _,hbl,by unfold cN;rw[hb];rfl,fun i a hi=>by simp at hi⟩,Same.refl S,fun c hc=>?_,fun c hc=>?_⟩
  ·cases hc;exact .inl rfl
  ·cases hc;exact⟨_,_,_,hb⟩
 ·have e5:Nat.ble (0+l.length) 0=false:=by
   rw[Bs];intro e;have:=Aq e;omega
  rw[e5,aR,Aj (by omega),aL,Aj (by rw[Ao];exact h2),aL,hb,aK];have e4:cut ([]:List AV) 0 (0 * k)=some []:=by
   unfold cut;rw[fH,fX,Dy,if_pos (Cb _)];rfl
  show ∃r S',(aX (cut ([]:List AV) 0 (0 * k)) fun old=>bN false _ (grown S.h S.nx (0+l.length) k (vT old new)))=some (r,S')∧_;rw[e4,aK,aR];refine⟨_,_,rfl,.inr ⟨S.nx,0,l.length,true,new,by rw[Ao],Af _,by simp,?_,fun i a hi=>?_⟩,Same.alloc S _,fun c hc=>?_,fun c hc=>?_⟩
  ·unfold cN;simp only;rw[T.get_set,if_pos rfl];rfl
  ·obtain⟨e,a1,a2,a3⟩:=e3 i a hi;exact⟨e,a1,fun j x hj=>by rw[Ao];exact a2 j x hj,hE a3 (Same.alloc S _)⟩
  ·cases hc;exact .inr (Af _)
  ·cases hc;exact⟨_,_,_,by simp only;rw[T.get_set,if_pos rfl]⟩
theorem aPy{k bytes b:Nat}{α:Type}{E:St→List AV→α→Prop}{S:St}{v:AV}{l:List α}(hE:aFs E)(hk:0<k)(hb:S.h.get b=some (.cells [] false 0))(hbl:b<S.nx)(h:aY k E S v l)(h1:l.length≤room)(h2:l.length * bytes≤room):
  ∃r S',gS bytes k (.sl b 0 0 0 false) v S=some (r,S')∧aY k E S' r l∧Same S S'∧∀c,aU r=some c→c=b∨S.nx≤c:=by
 obtain⟨r,S',a,b',c,d,_⟩:=aI0 (bytes:=bytes) (E:=E) hE hk hb hbl h h1 h2;exact⟨r,S',a,b',c,d⟩
theorem aI2{base:Nat}{suf:List AO}{Q:DS→Prop}:∀ {pre:List AO} {i:Nat} {D:DS},xI fns pre i base D (fun D'=>xI fns suf (i+pre.length) base D' Q)→xI fns (pre++suf) i base D Q:=by
 intro pre i D h;obtain⟨n,D1,h1,k,D2,h2,h3⟩:=h;refine⟨max n k,D2,?_,h3⟩;have h1':=tA (jP fns (Fa n k)).call h1;have h2':=tA (jP fns (Ex n k)).call h2;clear h1 h2
 induction pre generalizing i D with
 | nil=>cases h1';exact h2'
 | cons o os ih=>
  show aX (qV o i base (ev fns (max n k)).call D) _=_;have h1'':aX (qV o i base (ev fns (max n k)).call D) (fun D'=>vI os (i+1) base (ev fns (max n k)).call D')=some D1:=h1';cases he:qV o i base (ev fns (max n k)).call D with
  | none=>rw[he] at h1'';cases h1''
  | some D'=>
   rw[he,aK] at h1'';rw[aK];exact ih h1'' (by rw[An] at h2';rw[show i+1+os.length=i+(os.length+1) by omega];exact h2')
def Low(K:Nat)(D:DS):Prop:=(∀e∈D.hs,e.1<K)∧∀l∈D.ls,l.i<K∧l.mask<2 ^ K
theorem aOc{call:eS}{o:AO}{i base K:Nat}{D D':DS}(h:qV o i base call D=some D')(hi:i<K)(hm:o.mask<2 ^ K)(hD:Low K D):Low K D':=by
 unfold qV at h;cases hw:eK o.grd D.F with
 | false=>rw[hw,aR] at h;cases h;exact hD
 | true=>
  rw[hw,aL] at h;obtain⟨d,op,g,m⟩:=o;cases op with
  | q q=>
   have h:aX (iG q D.F D.S.h) (fun v=>some (⟨cI d D.F v,D.S,D.ps,D.hs,bN (dE q) (⟨q,D.F,v,i,m⟩::D.ls) D.ls⟩:DS))=some D':=h;cases he:iG q D.F D.S.h with
   | none=>rw[he] at h;cases h
   | some v=>
    rw[he,aK] at h;cases h;refine⟨hD.1,fun l hl=>?_⟩;simp only at hl;cases hq:dE q with
    | false=>rw[hq,aR] at hl;exact hD.2 l hl
    | true=>
     rw[hq,aL] at hl;rcases Bm.1 hl with rfl | hl
     ·exact⟨hi,hm⟩
     ·exact hD.2 l hl
  | a a=>
   have h:aX (tH a D.F (base+i)) (fun r=>some (⟨cI d D.F r.1,D.S,⟨i,base+i,r.2⟩::D.ps,D.hs,D.ls⟩:DS))=some D':=h;cases he:tH a D.F (base+i) with
   | none=>rw[he] at h;cases h
   | some v=>rw[he,aK] at h;cases h;exact hD
  | x x=>
   have h:bN (iR D.hs m) (aX (zY x call D.F ⟨(cF m D.ps D.S.h).2,D.S.nx⟩) fun r=>some (⟨cI d D.F r.1,r.2,(cF m D.ps D.S.h).1,(i,m,r.2.h)::D.hs,D.ls⟩:DS)) none=some D':=h;cases hl:iR D.hs m with
   | false=>rw[hl,aR] at h;cases h
   | true=>
    rw[hl,aL] at h;cases he:zY x call D.F ⟨(cF m D.ps D.S.h).2,D.S.nx⟩ with
    | none=>rw[he] at h;cases h
    | some v=>
     rw[he,aK] at h;cases h;refine⟨fun e he=>?_,hD.2⟩;rcases Bm.1 he with rfl | he
     ·exact hi
     ·exact hD.1 e he
theorem aCJ{call:eS}{base K:Nat}:∀ {l:List AO} {i:Nat} {D D':DS},vI l i base call D=some D'→i+l.length≤K→(∀o∈l,o.mask<2 ^ K)→Low K D→Low K D'
 | [],i,D,D',h,_,_,hD=>by cases h;exact hD
 | o::os,i,D,D',h,hi,hm,hD=>by
  have h:aX (qV o i base call D) (fun D'=>vI os (i+1) base call D')=some D':=h;rw[An] at hi;cases he:qV o i base call D with
  | none=>rw[he] at h;cases h
  | some D1=>
   rw[he,aK] at h;exact aCJ h (by omega) (fun o ho=>hm o (Bw _ ho)) (aOc he (by omega) (hm o (Cp ..)) hD)
theorem aCX{W:Nat→Prop}{h0:T AB}{base K m:Nat}{h':T AB}{r:List (Nat×Nat×T AB)}{l:jY}(h:cJ l.v l.v=true∧aFR W base l.q l.F∧iG l.q l.F h0=some l.v)(hl:l.i<K∧l.mask<2 ^ K)(hm:∀i,i<K→Nat.testBit m i=true):∀ {hs:List (Nat×Nat×T AB)} {h1:T AB},(∀e∈hs,∀b,b<base→¬W b→e.2.2.get b=h0.get b)→(∀b,b<base→¬W b→h1.get b=h0.get b)→fY l (hs++(K,m,h')::r) h1=true
 | [],h1,_,hh=>by
  have e1:nM l.v (iG l.q l.F h1)=true:=by rw[h.2.1.ev hh,h.2.2];exact h.1
  have e2:Nat.testBit l.mask K=false:=Nat.testBit_lt_two_pow hl.2;show fY l ((K,m,h')::r) h1=true;unfold fY;rw[e2,aR,e1,aL,hm _ hl.1,aL]
 | (i,mm,h2)::rr,h1,hs,hh=>by
  have e1:nM l.v (iG l.q l.F h1)=true:=by rw[h.2.1.ev hh,h.2.2];exact h.1
  have e2:fY l (rr++(K,m,h')::r) h2=true:=aCX h hl hm (fun e he=>hs e (by simp [he])) (hs (i,mm,h2) (by simp));show fY l ((i,mm,h2)::(rr++(K,m,h')::r)) h1=true;unfold fY;rw[e1,e2];cases Nat.testBit l.mask i<;>cases Nat.testBit mm l.i<;>rfl
theorem uB{W:Nat→Prop}{ops pre suf:List AO}{K:Nat}{A:bQ}{S:St}{Q:Out→bQ→St→Prop}{R:Fr→St→List iJ→Prop}(he:ops=pre++suf)(hK:pre.length=K)(hm:(pre.all fun o=>decide (o.mask<2 ^ K))=true)
  (h:∀S1,Same S S1→S1.h=S.h→S1.nx=S.nx+ops.length→gI fns W S.h S.nx pre 0 A.F S1 [] none R)
  (h2:∀F S' ps hs ls,R F S' ps→(∀m,(∀i,i<K→Nat.testBit m i=true)→iR hs m=true)→(∀m h' r,(∀i,i<K→Nat.testBit m i=true)→fI S.h (hs.reverse++(K,m,h')::r) ls=true)→xI fns suf K S.nx ⟨F,S',ps,hs,ls⟩ fun D'=>fI S.h D'.hs.reverse D'.ls=true∧Q .normal ⟨D'.F,A.inr⟩ ⟨(cF (2 ^ ops.length - 1) D'.ps D'.S.h).2,D'.S.nx⟩):mF fns (.drw ops) A S Q:=by
 refine xN ?_;obtain⟨n,D',e1,e2,e3⟩:=lJ (fns:=fns) (i:=0) (D:=⟨A.F,⟨S.h,S.nx+ops.length⟩,[],[],[]⟩) (last:=none) ⟨fun _ _ _=>rfl,De _ _,fun e he=>(by cases he),fun l hl=>(by cases hl),fun p hp=>(by cases hp)⟩ rfl (h ⟨S.h,S.nx+ops.length⟩ (Same.nx S _) rfl rfl);have low:Low K D':=aCJ e1 (by omega) (fun o ho=>by have:=Dp.1 hm o ho;simpa using this) ⟨fun e he=>(by cases he),fun l hl=>(by cases hl)⟩;obtain⟨F,S',ps,hs,ls⟩:=D';have hh:=h2 F S' ps hs ls e2 (fun m hm=>by
  cases hs with
  | nil=>rfl
  | cons e r=>exact hm _ (low.1 e (Cp ..))) (fun m h' r hm=>nT fun l hl=>aCX (e3.lds l hl) (low.2 l hl) hm (fun e he=>e3.chain e (List.mem_reverse.1 he)) (fun _ _ _=>rfl))
 have:xI fns ops 0 S.nx ⟨A.F,⟨S.h,S.nx+ops.length⟩,[],[],[]⟩ fun D'=>fI S.h D'.hs.reverse D'.ls=true∧Q .normal ⟨D'.F,A.inr⟩ ⟨(cF (2 ^ ops.length - 1) D'.ps D'.S.h).2,D'.S.nx⟩:=by
  subst he;refine aI2 ⟨n,_,e1,?_⟩;rw[Ao,hK];exact hh
 exact this
theorem fJ{S S':St}{v:AV}{l:List Int}(h:bT .i64 S v l)(hn:S.nx≤S'.nx)(hh:∀c,aU v=some c→S'.h.get c=S.h.get c):bT .i64 S' v l:=ofG (aY.moveB (toG h) hn hh fun _ _ h=>h)
def aCn(X:St)(P:Nat→Prop)(e:List AV)(a:bP):Prop:=∃xa xw xp,e= [.int .i64 a.kind,.int .i64 a.player,.int .i64 a.info,xa,xw,xp]∧bT .i64 X xa a.next∧bT .i64 X xw a.weights∧bT .i64 X xp a.pay∧∀c,(aU xa=some c∨aU xw=some c∨aU xp=some c)→P c
def mU(X:St)(P:Nat→Prop)(cs:List AV)(l:List bP):Prop:=cs.length=l.length * 6∧∀ (j:Nat) (a:bP),l[j]? =some a→∃e:List AV,e.length=6∧(∀ (q:Nat) (x:AV),e[q]? =some x→cs[j * 6+q]? =some x)∧aCn X P e a
theorem dN{k:IntKind}{X:St}{v:AV}{l:List Int}{c:Nat}(h:bT k X v l)(hc:aU v=some c):c<X.nx:=by
 rcases h with⟨_,rfl | rfl⟩ | ⟨b,off,cap,o,cs,rfl,_,hb,_⟩
 ·cases hc
 ·cases hc
 ·cases hc;exact hb
theorem aCn.move{X X':St}{P P':Nat→Prop}{e:List AV}{a:bP}(h:aCn X P e a)(hn:X.nx≤X'.nx)(hh:∀c,c<X.nx→P c→X'.h.get c=X.h.get c∧P' c):aCn X' P' e a:=by
 obtain⟨xa,xw,xp,rfl,h1,h2,h3,h4⟩:=h;refine⟨xa,xw,xp,rfl,fJ h1 hn fun c hc=>(hh c (dN h1 hc) (h4 c (.inl hc))).1,fJ h2 hn fun c hc=>(hh c (dN h2 hc) (h4 c (.inr (.inl hc)))).1,fJ h3 hn fun c hc=>(hh c (dN h3 hc) (h4 c (.inr (.inr hc)))).1,fun c hc=>?_⟩;rcases hc with hc | hc | hc
 ·exact(hh c (dN h1 hc) (h4 c (.inl hc))).2
 ·exact(hh c (dN h2 hc) (h4 c (.inr (.inl hc)))).2
 ·exact(hh c (dN h3 hc) (h4 c (.inr (.inr hc)))).2
theorem mU.move{X X':St}{P P':Nat→Prop}{cs:List AV}{l:List bP}(h:mU X P cs l)(hn:X.nx≤X'.nx)(hh:∀c,c<X.nx→P c→X'.h.get c=X.h.get c∧P' c):mU X' P' cs l:=
 ⟨h.1,fun j a hj=>by
  obtain⟨e,e1,e2,e3⟩:=h.2 j a hj;exact⟨e,e1,e2,e3.move hn hh⟩⟩
theorem mU.push{X:St}{P:Nat→Prop}{cs e:List AV}{l:List bP}{a:bP}(h:mU X P cs l)(he:aCn X P e a):mU X P (cs++e) (l++ [a]):=by
 have hl:e.length=6:=by
  obtain⟨_,_,_,rfl,_⟩:=he;rfl
 refine⟨by rw[Ai,h.1,hl,Ai,Am,Dm],fun j b hj=>?_⟩;rw[Eb] at hj;split at hj
 ·obtain⟨e',e1,e2,e3⟩:=h.2 j b hj;refine⟨e',e1,fun q x hq=>?_,e3⟩;have:=e2 q x hq;rw[Ba (Ae.1 this).1];exact this
 ·rename_i hlt;have hj0:j - l.length=0:=by
   rcases Cd (j - l.length) with h0 | h0
   ·exact h0
   ·obtain⟨q,hq⟩:=Nat.exists_eq_succ_of_ne_zero (Nat.pos_iff_ne_zero.1 h0);rw[hq] at hj;simp at hj
  rw[hj0] at hj;simp at hj;subst hj;have hjl:j=l.length:=by omega
  subst hjl;refine⟨e,hl,fun q x hq=>?_,he⟩;rw[Bb (by rw[h.1];omega),h.1,Nat.add_sub_cancel_left];exact hq
theorem mU.is{X0 X:St}{P:Nat→Prop}{pv:AV}{cs:List AV}{l:List bP}(h:mU X P cs l)(hg:iD 6 X0 X pv l.length cs):aY 6 dJ X pv l:=by
 rcases hg with⟨rfl,h0,_⟩ | ⟨b,rfl,_,hb,hc,_⟩
 ·exact .inl ⟨Cc.1 h0,.inl rfl⟩
 ·refine .inr ⟨b,0,l.length,true,cs,rfl,Af _,hb,by unfold cN;rw[hc];rfl,fun j a hj=>?_⟩;obtain⟨e,e1,e2,xa,xw,xp,h3,h4,h5,h6,_⟩:=h.2 j a hj;exact⟨e,e1,fun q x hq=>by rw[Ao];exact e2 q x hq,xa,xw,xp,h3,h4,h5,h6⟩
theorem aIr{t:Nat}{x:cL}{F:Fr}{id:Nat}{k p f xa xw xp z0 z1 z2 z3 z4 z5:AV}(hx:x.val F= .agg [k,p,f,xa,xw,xp]):tH (.bslice t 6 1 [z0,z1,z2,z3,z4,z5] [(0,x)]) F id=some (.sl id 0 1 1 false,.cells [k,p,f,xa,xw,xp] false 0):=by
 show(aX (fL (repeatL [z0,z1,z2,z3,z4,z5] 1) [(0 * 6,6,x.val F)]) fun cs=>some (AV.sl id 0 1 1 false,AB.cells cs false 0))=_;rw[hx];show(aX (aX (AV.cells (.agg [k,p,f,xa,xw,xp])) _) _)=_;rw[bK,aK];rfl
theorem aQ3{S:St}{t:Nat}{k p f xa xw xp:AV}{o:Bool}{sz:Nat}(h:S.h.get t=some (.cells [k,p,f,xa,xw,xp] o sz)):eF (.sl t 0 1 1 false) S.h 6 1=some [k,p,f,xa,xw,xp]:=by
 show aX (cN S.h t) (fun cs=>cut cs 0 (1 * 6))=_;unfold cN;rw[h];rfl
theorem iD.appB{k n m bytes:Nat}{S0 S:St}{v x:AV}{cs new:List AV}(h:iD k S0 S v n cs)(hS:Same S0 S)(hl:nI x=some m)(hs:eF x S.h k m=some new)(hn:new.length=m * k)(hm:0<m)(h1:n+m≤room)(h2:(n+m) * bytes≤room):
  ∃v' S',gS bytes k v x S=some (v',S')∧iD k S0 S' v' (n+m) (cs++new)∧Same S0 S'∧S.nx≤S'.nx∧(∀c,c<S.nx→aU v≠some c→S'.h.get c=S.h.get c)∧aU v'=some S.nx:=by
 rcases h with⟨rfl,rfl,rfl⟩ | ⟨b,rfl,hb0,hb,hg,hc⟩
 ·refine⟨.sl S.nx 0 m m true,⟨S.h.set S.nx (some (.cells new true k)),S.nx+1⟩,?_,.inr ⟨S.nx,by rw[Ao],hS.1,by simp,?_,by rw[Ao];exact hn⟩,hS.trans (Same.alloc S _),by simp,fun c hc _=>(Same.alloc S _).2 c hc,rfl⟩
  ·show(aX (nI x) fun j=>aX (eF x S.h k j) fun new=>aDL .nilsl bytes k j new S)=_;rw[hl,aK,hs,aK];show rM bytes k m new S=_;unfold rM;rw[show Nat.beq m 0=false from Bs.2 fun e=>by rw[Ax] at e;omega,aR,Aj (by omega),aL,Aj (by rw[Ao] at h2;exact h2),aL];rfl
  ·simp only;rw[T.get_set,if_pos rfl];rfl
 ·refine⟨.sl S.nx 0 (n+m) (n+m) true,⟨(S.h.set b none).set S.nx (some (.cells (cs++new) true k)),S.nx+1⟩,?_,.inr ⟨S.nx,rfl,hS.1,by simp,?_,by rw[Ai,hc,hn,Dm]⟩,⟨Az hS.1 (by simp),fun c hc=>?_⟩,by simp,fun c hc hne=>?_,rfl⟩
  ·show(aX (nI x) fun j=>aX (eF x S.h k j) fun new=>aDL (.sl b 0 n n true) bytes k j new S)=_;rw[hl,aK,hs,aK];show oW bytes k b 0 n n true m new S=_;unfold oW;have e2:Nat.ble (n+m) n=false:=by rw[Bs];intro h;have:=Aq h;omega
   rw[e2,aR,Aj h1,aL,Aj h2,aL,hg,aK];have e3:cut cs 0 (n * k)=some cs:=by
    unfold cut;rw[fH,fX,Cq,if_pos (by omega),Bj (by omega)]
   have e4:Nat.beq (0+n * k) (jH cs)=true:=by rw[dL,hc,Ax];omega
   have e5:Nat.beq k k=true:=Nat.beq_refl k;simp only[aBZ,e3,aK,aL,e4,e5,grown,gD]
  ·simp only;rw[T.get_set,if_pos rfl]
  ·simp only;have:=hS.1;rw[T.get_set,if_neg (by omega),T.get_set,if_neg (by omega)];exact hS.2 c hc
  ·simp only;have:c≠b:=fun e=>hne (by rw[e];rfl);rw[T.get_set,if_neg (by omega),T.get_set,if_neg this]
theorem aGS{W:Nat→Prop}{h0:T AB}{base:Nat}{m i:Nat}{l:List AO}{F:Fr}{S:St}{last:Option Nat}{Q:Fr→St→List iJ→Prop}{n j id:Nat}{x v:cL}{cs cs':List AV}(ht:Nat.testBit m j=true)(h:lV last m=true)(hx:x.val F= .ptr id 0)(hv:(v.val F).cells=some cs')(h1:cs.length=n)(h2:cs'.length=n)(hid:base≤id)
  (hr:∀S1,bH id S S1→S1.nx=S.nx→S1.h.get id=some (.cells cs' false 0)→gI fns W h0 base l (i+1) F S1 [] (some i) Q):gI fns W h0 base (⟨none,.x (.st n x v),none,m⟩::l) i F S [⟨j,id,.cells cs false 0⟩] last Q:=by
 have hb:(⟨S.h.set id (some (.cells cs false 0)),S.nx⟩:St).h.get id=some (.cells cs false 0):=by simp only;rw[T.get_set,if_pos rfl]
 refine uJ (S1:=⟨(S.h.set id (some (.cells cs false 0))).set id (some (.cells cs' false 0)),S.nx⟩) h ?_ ⟨Af _,fun c hc hw=>?_⟩ ?_
 ·rw[dT ht,hv,aK,hx];exact aIF hb h1 h2
 ·simp only;rw[dT ht,T.get_set,if_neg (by omega)]
 ·rw[dT ht];refine hr _ ⟨Af _,fun c hc hne=>?_⟩ rfl ?_
  ·simp only;rw[T.get_set,if_neg hne,T.get_set,if_neg hne]
  ·simp only;rw[T.get_set,if_pos rfl]
theorem aEx{k:Nat}{α:Type}{E:St→List AV→α→Prop}{S:St}{v:AV}{l:List α}(h:aY k E S v l):v.cells=some [v]:=by
 rcases h with⟨_,rfl | rfl⟩ | ⟨b,off,cap,o,cs,rfl,_⟩<;>rfl
end Go.Ev.Gl
