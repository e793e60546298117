import Derived.Test.YtkklchgmpejobaaGreatDoorGl11
set_option maxHeartbeats 16000000
set_option linter.unusedSimpArgs false
set_option linter.unusedVariables false
namespace Go.Ev.Gl
variable {fns:T cV}
theorem aHk{g:bH}{i:Nat}(hi:i<g.infos.length):g.infos[i]? =some (infoAt g (i:Int)):=by
 unfold infoAt;rw[Cj,Ae,Ab hi];rfl
def aOT(_:St)(cs:List AV)(x:Int):Prop:=cs= [.int .i64 x]
theorem aKB:aE8 aOT:=fun h _=>h
theorem toG{S:St}{v:AV}{l:List Int}(h:cD .i64 S v l):bB 1 aOT S v l:=by
 rcases h with h | ⟨b,off,cap,o,cs,rfl,hc,hb,hcs,hel⟩
 ·exact .inl h
 ·refine .inr ⟨b,off,cap,o,cs,rfl,hc,hb,hcs,fun i a hi=>⟨[.int .i64 a],rfl,fun j x hj=>?_,rfl⟩⟩;cases j with
  | zero=>simp at hj;subst hj;rw[Eg,Bs];exact hel i a hi
  | succ j=>simp at hj
theorem ofG{S:St}{v:AV}{l:List Int}(h:bB 1 aOT S v l):cD .i64 S v l:=by
 rcases h with h | ⟨b,off,cap,o,cs,rfl,hc,hb,hcs,hel⟩
 ·exact .inl h
 ·refine .inr ⟨b,off,cap,o,cs,rfl,hc,hb,hcs,fun i a hi=>?_⟩;obtain⟨e,_,h2,h3⟩:=hel i a hi;have h3:e= [.int .i64 a]:=h3;subst h3;have:=h2 0 _ rfl;rw[Eg,Bs] at this;exact this
theorem bB.moveB{k:Nat}{α:Type}{E:St→List AV→α→Prop}{S S':St}{v:AV}{l:List α}(h:bB k E S v l)(hn:S.nx≤S'.nx)(hh:∀c,aT v=some c→S'.h.get c=S.h.get c)(hE:∀e a,E S e a→E S' e a):bB k E S' v l:=by
 rcases h with h | ⟨b,off,cap,o,cs,rfl,hc,hb,hcs,hel⟩
 ·exact .inl h
 ·refine .inr ⟨b,off,cap,o,cs,rfl,hc,Ah hb hn,?_,fun i a hi=>?_⟩
  ·unfold cL;rw[hh b rfl];exact hcs
  ·obtain⟨e,e1,e2,e3⟩:=hel i a hi;exact⟨e,e1,e2,hE e a e3⟩
theorem aR3{k:Nat}{α:Type}{E:St→List AV→α→Prop}{S:St}{v:AV}{l:List α}(hk:0<k)(h:bB k E S v l):∃new,nE v=some l.length∧eG v S.h k l.length=some new∧∀i a,l[i]? =some a→∃e:List AV,e.length=k∧(∀ (j:Nat) (x:AV),e[j]? =some x→new[i * k+j]? =some x)∧E S e a:=by
 rcases h with⟨rfl,h⟩ | ⟨b,off,cap,o,cs,rfl,hc,hb,hcs,hel⟩
 ·rcases h with rfl | rfl<;>exact⟨[],rfl,rfl,fun i a hi=>by simp at hi⟩
 ·rcases Ca l.length with h0 | hp
  ·have hl:l= []:=Cf.1 h0;subst hl;refine⟨[],rfl,?_,fun i a hi=>by simp at hi⟩;show(aX (cL S.h b) fun cs=>cut cs off (0 * k))=_;rw[hcs,aK,Ey];unfold cut;rw[fI,fT,if_pos (Bt _)];rfl
  ·have hle:off+l.length * k≤cs.length:=by
    obtain⟨e,e1,e2,_⟩:=hel (l.length - 1) _ (Ab (by omega));have:=e2 (k - 1) _ (Ab (by omega));have h3:=(Af.1 this).1;have h4:(l.length - 1) * k+k=l.length * k:=by
     rw[←Dj];congr 1;omega
    omega
   refine⟨(cs.drop off).take (l.length * k),rfl,?_,fun i a hi=>?_⟩
   ·show(aX (cL S.h b) fun cs=>cut cs off (l.length * k))=_;rw[hcs,aK];unfold cut;rw[fI,fT,if_pos (by rw[Cq];omega)]
   ·obtain⟨e,e1,e2,e3⟩:=hel i a hi;refine⟨e,e1,fun j x hj=>?_,e3⟩;have hlt:=(Af.1 hi).1;have hj1:=(Af.1 hj).1;have h5:i * k+k≤l.length * k:=by
     rw[←Dj];exact Cm k hlt
    rw[Eo (by omega),Ek];have:=e2 j x hj;rw[Cv] at this;exact this
def Wr(X:St)(c:Nat):Prop:=∃cs o sz,X.h.get c=some (.cells cs o sz)
theorem Wr.eq{X X':St}{c:Nat}(h:Wr X c)(e:X'.h.get c=X.h.get c):Wr X' c:=by
 obtain⟨cs,o,sz,h⟩:=h;exact⟨cs,o,sz,e.trans h⟩
theorem aIL{k bytes b:Nat}{α:Type}{E:St→List AV→α→Prop}{S:St}{v:AV}{l:List α}(hE:aE8 E)(hk:0<k)(hb:S.h.get b=some (.cells [] false 0))(hbl:b<S.nx)(h:bB k E S v l)(h1:l.length≤room)(h2:l.length * bytes≤room):
  ∃r S',iA bytes k (.sl b 0 0 0 false) v S=some (r,S')∧bB k E S' r l∧Same S S'∧(∀c,aT r=some c→c=b∨S.nx≤c)∧∀c,aT r=some c→Wr S' c:=by
 obtain⟨new,e1,e2,e3⟩:=aR3 hk h;unfold iA;rw[e1,aK,e2,aK];show ∃r S',oV bytes k b 0 0 0 false l.length new S=some (r,S')∧_;unfold oV;rcases Ca l.length with h0 | hp
 ·have hl:l= []:=Cf.1 h0;subst hl;refine⟨.sl b 0 0 0 false,S,rfl,.inr ⟨b,0,0,false,[],rfl,Ag _,hbl,by unfold cL;rw[hb];rfl,fun i a hi=>by simp at hi⟩,Same.refl S,fun c hc=>?_,fun c hc=>?_⟩
  ·cases hc;exact .inl rfl
  ·cases hc;exact⟨_,_,_,hb⟩
 ·have e5:Nat.ble (0+l.length) 0=false:=by
   rw[Bv];intro e;have:=Ar e;omega
  rw[e5,aQ,Aj (by omega),aL,Aj (by rw[Ao];exact h2),aL,hb,aK];have e4:cut ([]:List AV) 0 (0 * k)=some []:=by
   unfold cut;rw[fI,fT,Ey,if_pos (Bt _)];rfl
  show ∃r S',(aX (cut ([]:List AV) 0 (0 * k)) fun old=>bN false _ (grown S.h S.nx (0+l.length) k (wY old new)))=some (r,S')∧_;rw[e4,aK,aQ];refine⟨_,_,rfl,.inr ⟨S.nx,0,l.length,true,new,by rw[Ao],Ag _,by simp,?_,fun i a hi=>?_⟩,Same.alloc S _,fun c hc=>?_,fun c hc=>?_⟩
  ·unfold cL;simp only;rw[T.get_set,if_pos rfl];rfl
  ·obtain⟨e,a1,a2,a3⟩:=e3 i a hi;exact⟨e,a1,fun j x hj=>by rw[Ao];exact a2 j x hj,hE a3 (Same.alloc S _)⟩
  ·cases hc;exact .inr (Ag _)
  ·cases hc;exact⟨_,_,_,by simp only;rw[T.get_set,if_pos rfl]⟩
theorem aPl{k bytes b:Nat}{α:Type}{E:St→List AV→α→Prop}{S:St}{v:AV}{l:List α}(hE:aE8 E)(hk:0<k)(hb:S.h.get b=some (.cells [] false 0))(hbl:b<S.nx)(h:bB k E S v l)(h1:l.length≤room)(h2:l.length * bytes≤room):
  ∃r S',iA bytes k (.sl b 0 0 0 false) v S=some (r,S')∧bB k E S' r l∧Same S S'∧∀c,aT r=some c→c=b∨S.nx≤c:=by
 obtain⟨r,S',a,b',c,d,_⟩:=aIL (bytes:=bytes) (E:=E) hE hk hb hbl h h1 h2;exact⟨r,S',a,b',c,d⟩
theorem aIW{base:Nat}{suf:List AO}{Q:DS→Prop}:∀ {pre:List AO} {i:Nat} {D:DS},xF fns pre i base D (fun D'=>xF fns suf (i+pre.length) base D' Q)→xF fns (pre++suf) i base D Q:=by
 intro pre i D h;obtain⟨n,D1,h1,k,D2,h2,h3⟩:=h;refine⟨max n k,D2,?_,h3⟩;have h1':=tN (jQ fns (Fe n k)).call h1;have h2':=tN (jQ fns (Fc n k)).call h2;clear h1 h2
 induction pre generalizing i D with
 | nil=>cases h1';exact h2'
 | cons o os ih=>
  show aX (rC o i base (ev fns (max n k)).call D) _=_;have h1'':aX (rC o i base (ev fns (max n k)).call D) (fun D'=>vJ os (i+1) base (ev fns (max n k)).call D')=some D1:=h1';cases he:rC o i base (ev fns (max n k)).call D with
  | none=>rw[he] at h1'';cases h1''
  | some D'=>
   rw[he,aK] at h1'';rw[aK];exact ih h1'' (by rw[Am] at h2';rw[show i+1+os.length=i+(os.length+1) by omega];exact h2')
def Low(K:Nat)(D:DS):Prop:=(∀e∈D.hs,e.1<K)∧∀l∈D.ls,l.i<K∧l.mask<2 ^ K
theorem aNy{call:eU}{o:AO}{i base K:Nat}{D D':DS}(h:rC o i base call D=some D')(hi:i<K)(hm:o.mask<2 ^ K)(hD:Low K D):Low K D':=by
 unfold rC at h;cases hw:eI o.grd D.F with
 | false=>rw[hw,aQ] at h;cases h;exact hD
 | true=>
  rw[hw,aL] at h;obtain⟨d,op,g,m⟩:=o;cases op with
  | q q=>
   have h:aX (iI q D.F D.S.h) (fun v=>some (⟨cI d D.F v,D.S,D.ps,D.hs,bN (dC q) (⟨q,D.F,v,i,m⟩::D.ls) D.ls⟩:DS))=some D':=h;cases he:iI q D.F D.S.h with
   | none=>rw[he] at h;cases h
   | some v=>
    rw[he,aK] at h;cases h;refine⟨hD.1,fun l hl=>?_⟩;simp only at hl;cases hq:dC q with
    | false=>rw[hq,aQ] at hl;exact hD.2 l hl
    | true=>
     rw[hq,aL] at hl;rcases Bi.1 hl with rfl | hl
     ·exact⟨hi,hm⟩
     ·exact hD.2 l hl
  | a a=>
   have h:aX (tQ a D.F (base+i)) (fun r=>some (⟨cI d D.F r.1,D.S,⟨i,base+i,r.2⟩::D.ps,D.hs,D.ls⟩:DS))=some D':=h;cases he:tQ a D.F (base+i) with
   | none=>rw[he] at h;cases h
   | some v=>rw[he,aK] at h;cases h;exact hD
  | x x=>
   have h:bN (iS D.hs m) (aX (zX x call D.F ⟨(cG m D.ps D.S.h).2,D.S.nx⟩) fun r=>some (⟨cI d D.F r.1,r.2,(cG m D.ps D.S.h).1,(i,m,r.2.h)::D.hs,D.ls⟩:DS)) none=some D':=h;cases hl:iS D.hs m with
   | false=>rw[hl,aQ] at h;cases h
   | true=>
    rw[hl,aL] at h;cases he:zX x call D.F ⟨(cG m D.ps D.S.h).2,D.S.nx⟩ with
    | none=>rw[he] at h;cases h
    | some v=>
     rw[he,aK] at h;cases h;refine⟨fun e he=>?_,hD.2⟩;rcases Bi.1 he with rfl | he
     ·exact hi
     ·exact hD.1 e he
theorem aDD{call:eU}{base K:Nat}:∀ {l:List AO} {i:Nat} {D D':DS},vJ l i base call D=some D'→i+l.length≤K→(∀o∈l,o.mask<2 ^ K)→Low K D→Low K D'
 | [],i,D,D',h,_,_,hD=>by cases h;exact hD
 | o::os,i,D,D',h,hi,hm,hD=>by
  have h:aX (rC o i base call D) (fun D'=>vJ os (i+1) base call D')=some D':=h;rw[Am] at hi;cases he:rC o i base call D with
  | none=>rw[he] at h;cases h
  | some D1=>
   rw[he,aK] at h;exact aDD h (by omega) (fun o ho=>hm o (Bq _ ho)) (aNy he (by omega) (hm o (Cd ..)) hD)
theorem aCL{W:Nat→Prop}{h0:T AB}{base K m:Nat}{h':T AB}{r:List (Nat×Nat×T AB)}{l:jW}(h:cM l.v l.v=true∧aFa W base l.q l.F∧iI l.q l.F h0=some l.v)(hl:l.i<K∧l.mask<2 ^ K)(hm:∀i,i<K→Nat.testBit m i=true):∀ {hs:List (Nat×Nat×T AB)} {h1:T AB},(∀e∈hs,∀b,b<base→¬W b→e.2.2.get b=h0.get b)→(∀b,b<base→¬W b→h1.get b=h0.get b)→fY l (hs++(K,m,h')::r) h1=true
 | [],h1,_,hh=>by
  have e1:nN l.v (iI l.q l.F h1)=true:=by rw[h.2.1.ev hh,h.2.2];exact h.1
  have e2:Nat.testBit l.mask K=false:=Nat.testBit_lt_two_pow hl.2;show fY l ((K,m,h')::r) h1=true;unfold fY;rw[e2,aQ,e1,aL,hm _ hl.1,aL]
 | (i,mm,h2)::rr,h1,hs,hh=>by
  have e1:nN l.v (iI l.q l.F h1)=true:=by rw[h.2.1.ev hh,h.2.2];exact h.1
  have e2:fY l (rr++(K,m,h')::r) h2=true:=aCL h hl hm (fun e he=>hs e (by simp [he])) (hs (i,mm,h2) (by simp));show fY l ((i,mm,h2)::(rr++(K,m,h')::r)) h1=true;unfold fY;rw[e1,e2];cases Nat.testBit l.mask i<;>cases Nat.testBit mm l.i<;>rfl
theorem uV{W:Nat→Prop}{ops pre suf:List AO}{K:Nat}{A:bQ}{S:St}{Q:Out→bQ→St→Prop}{R:Fr→St→List iM→Prop}(he:ops=pre++suf)(hK:pre.length=K)(hm:(pre.all fun o=>decide (o.mask<2 ^ K))=true)
  (h:∀S1,Same S S1→S1.h=S.h→S1.nx=S.nx+ops.length→gG fns W S.h S.nx pre 0 A.F S1 [] none R)
  (h2:∀F S' ps hs ls,R F S' ps→(∀m,(∀i,i<K→Nat.testBit m i=true)→iS hs m=true)→(∀m h' r,(∀i,i<K→Nat.testBit m i=true)→fK S.h (hs.reverse++(K,m,h')::r) ls=true)→xF fns suf K S.nx ⟨F,S',ps,hs,ls⟩ fun D'=>fK S.h D'.hs.reverse D'.ls=true∧Q .normal ⟨D'.F,A.inr⟩ ⟨(cG (2 ^ ops.length - 1) D'.ps D'.S.h).2,D'.S.nx⟩):lJ fns (.drw ops) A S Q:=by
 refine wZ ?_;obtain⟨n,D',e1,e2,e3⟩:=lM (fns:=fns) (i:=0) (D:=⟨A.F,⟨S.h,S.nx+ops.length⟩,[],[],[]⟩) (last:=none) ⟨fun _ _ _=>rfl,Dd _ _,fun e he=>(by cases he),fun l hl=>(by cases hl),fun p hp=>(by cases hp)⟩ rfl (h ⟨S.h,S.nx+ops.length⟩ (Same.nx S _) rfl rfl);have low:Low K D':=aDD e1 (by omega) (fun o ho=>by have:=Dt.1 hm o ho;simpa using this) ⟨fun e he=>(by cases he),fun l hl=>(by cases hl)⟩;obtain⟨F,S',ps,hs,ls⟩:=D';have hh:=h2 F S' ps hs ls e2 (fun m hm=>by
  cases hs with
  | nil=>rfl
  | cons e r=>exact hm _ (low.1 e (Cd ..))) (fun m h' r hm=>oB fun l hl=>aCL (e3.lds l hl) (low.2 l hl) hm (fun e he=>e3.chain e (List.mem_reverse.1 he)) (fun _ _ _=>rfl))
 have:xF fns ops 0 S.nx ⟨A.F,⟨S.h,S.nx+ops.length⟩,[],[],[]⟩ fun D'=>fK S.h D'.hs.reverse D'.ls=true∧Q .normal ⟨D'.F,A.inr⟩ ⟨(cG (2 ^ ops.length - 1) D'.ps D'.S.h).2,D'.S.nx⟩:=by
  subst he;refine aIW ⟨n,_,e1,?_⟩;rw[Ao,hK];exact hh
 exact this
theorem eY{S S':St}{v:AV}{l:List Int}(h:cD .i64 S v l)(hn:S.nx≤S'.nx)(hh:∀c,aT v=some c→S'.h.get c=S.h.get c):cD .i64 S' v l:=ofG (bB.moveB (toG h) hn hh fun _ _ h=>h)
def aCc(X:St)(P:Nat→Prop)(e:List AV)(a:bU):Prop:=∃xa xw xp,e= [.int .i64 a.kind,.int .i64 a.player,.int .i64 a.info,xa,xw,xp]∧cD .i64 X xa a.next∧cD .i64 X xw a.weights∧cD .i64 X xp a.pay∧∀c,(aT xa=some c∨aT xw=some c∨aT xp=some c)→P c
def nI(X:St)(P:Nat→Prop)(cs:List AV)(l:List bU):Prop:=cs.length=l.length * 6∧∀ (j:Nat) (a:bU),l[j]? =some a→∃e:List AV,e.length=6∧(∀ (q:Nat) (x:AV),e[q]? =some x→cs[j * 6+q]? =some x)∧aCc X P e a
theorem dG{k:IntKind}{X:St}{v:AV}{l:List Int}{c:Nat}(h:cD k X v l)(hc:aT v=some c):c<X.nx:=by
 rcases h with⟨_,rfl | rfl⟩ | ⟨b,off,cap,o,cs,rfl,_,hb,_⟩
 ·cases hc
 ·cases hc
 ·cases hc;exact hb
theorem aCc.move{X X':St}{P P':Nat→Prop}{e:List AV}{a:bU}(h:aCc X P e a)(hn:X.nx≤X'.nx)(hh:∀c,c<X.nx→P c→X'.h.get c=X.h.get c∧P' c):aCc X' P' e a:=by
 obtain⟨xa,xw,xp,rfl,h1,h2,h3,h4⟩:=h;refine⟨xa,xw,xp,rfl,eY h1 hn fun c hc=>(hh c (dG h1 hc) (h4 c (.inl hc))).1,eY h2 hn fun c hc=>(hh c (dG h2 hc) (h4 c (.inr (.inl hc)))).1,eY h3 hn fun c hc=>(hh c (dG h3 hc) (h4 c (.inr (.inr hc)))).1,fun c hc=>?_⟩;rcases hc with hc | hc | hc
 ·exact(hh c (dG h1 hc) (h4 c (.inl hc))).2
 ·exact(hh c (dG h2 hc) (h4 c (.inr (.inl hc)))).2
 ·exact(hh c (dG h3 hc) (h4 c (.inr (.inr hc)))).2
theorem nI.move{X X':St}{P P':Nat→Prop}{cs:List AV}{l:List bU}(h:nI X P cs l)(hn:X.nx≤X'.nx)(hh:∀c,c<X.nx→P c→X'.h.get c=X.h.get c∧P' c):nI X' P' cs l:=
 ⟨h.1,fun j a hj=>by
  obtain⟨e,e1,e2,e3⟩:=h.2 j a hj;exact⟨e,e1,e2,e3.move hn hh⟩⟩
theorem nI.push{X:St}{P:Nat→Prop}{cs e:List AV}{l:List bU}{a:bU}(h:nI X P cs l)(he:aCc X P e a):nI X P (cs++e) (l++ [a]):=by
 have hl:e.length=6:=by
  obtain⟨_,_,_,rfl,_⟩:=he;rfl
 refine⟨by rw[Ai,h.1,hl,Ai,An,Dx],fun j b hj=>?_⟩;rw[Ec] at hj;split at hj
 ·obtain⟨e',e1,e2,e3⟩:=h.2 j b hj;refine⟨e',e1,fun q x hq=>?_,e3⟩;have:=e2 q x hq;rw[Av (Af.1 this).1];exact this
 ·rename_i hlt;have hj0:j - l.length=0:=by
   rcases Ca (j - l.length) with h0 | h0
   ·exact h0
   ·obtain⟨q,hq⟩:=Nat.exists_eq_succ_of_ne_zero (Nat.pos_iff_ne_zero.1 h0);rw[hq] at hj;simp at hj
  rw[hj0] at hj;simp at hj;subst hj;have hjl:j=l.length:=by omega
  subst hjl;refine⟨e,hl,fun q x hq=>?_,he⟩;rw[Aw (by rw[h.1];omega),h.1,Nat.add_sub_cancel_left];exact hq
theorem nI.is{X0 X:St}{P:Nat→Prop}{pv:AV}{cs:List AV}{l:List bU}(h:nI X P cs l)(hg:gQ 6 X0 X pv l.length cs):bB 6 dJ X pv l:=by
 rcases hg with⟨rfl,h0,_⟩ | ⟨b,rfl,_,hb,hc,_⟩
 ·exact .inl ⟨Cf.1 h0,.inl rfl⟩
 ·refine .inr ⟨b,0,l.length,true,cs,rfl,Ag _,hb,by unfold cL;rw[hc];rfl,fun j a hj=>?_⟩;obtain⟨e,e1,e2,xa,xw,xp,h3,h4,h5,h6,_⟩:=h.2 j a hj;exact⟨e,e1,fun q x hq=>by rw[Ao];exact e2 q x hq,xa,xw,xp,h3,h4,h5,h6⟩
theorem aH0{t:Nat}{x:cK}{F:Fr}{id:Nat}{k p f xa xw xp z0 z1 z2 z3 z4 z5:AV}(hx:x.val F= .agg [k,p,f,xa,xw,xp]):tQ (.bslice t 6 1 [z0,z1,z2,z3,z4,z5] [(0,x)]) F id=some (.sl id 0 1 1 false,.cells [k,p,f,xa,xw,xp] false 0):=by
 show(aX (fG (repeatL [z0,z1,z2,z3,z4,z5] 1) [(0 * 6,6,x.val F)]) fun cs=>some (AV.sl id 0 1 1 false,AB.cells cs false 0))=_;rw[hx];show(aX (aX (AV.cells (.agg [k,p,f,xa,xw,xp])) _) _)=_;rw[bM,aK];rfl
theorem aSa{S:St}{t:Nat}{k p f xa xw xp:AV}{o:Bool}{sz:Nat}(h:S.h.get t=some (.cells [k,p,f,xa,xw,xp] o sz)):eG (.sl t 0 1 1 false) S.h 6 1=some [k,p,f,xa,xw,xp]:=by
 show aX (cL S.h t) (fun cs=>cut cs 0 (1 * 6))=_;unfold cL;rw[h];rfl
theorem gQ.appB{k n m bytes:Nat}{S0 S:St}{v x:AV}{cs new:List AV}(h:gQ k S0 S v n cs)(hS:Same S0 S)(hl:nE x=some m)(hs:eG x S.h k m=some new)(hn:new.length=m * k)(hm:0<m)(h1:n+m≤room)(h2:(n+m) * bytes≤room):
  ∃v' S',iA bytes k v x S=some (v',S')∧gQ k S0 S' v' (n+m) (cs++new)∧Same S0 S'∧S.nx≤S'.nx∧(∀c,c<S.nx→aT v≠some c→S'.h.get c=S.h.get c)∧aT v'=some S.nx:=by
 rcases h with⟨rfl,rfl,rfl⟩ | ⟨b,rfl,hb0,hb,hg,hc⟩
 ·refine⟨.sl S.nx 0 m m true,⟨S.h.set S.nx (some (.cells new true k)),S.nx+1⟩,?_,.inr ⟨S.nx,by rw[Ao],hS.1,by simp,?_,by rw[Ao];exact hn⟩,hS.trans (Same.alloc S _),by simp,fun c hc _=>(Same.alloc S _).2 c hc,rfl⟩
  ·show(aX (nE x) fun j=>aX (eG x S.h k j) fun new=>aCU .nilsl bytes k j new S)=_;rw[hl,aK,hs,aK];show sE bytes k m new S=_;unfold sE;rw[show Nat.beq m 0=false from Bv.2 fun e=>by rw[Bb] at e;omega,aQ,Aj (by omega),aL,Aj (by rw[Ao] at h2;exact h2),aL];rfl
  ·simp only;rw[T.get_set,if_pos rfl];rfl
 ·refine⟨.sl S.nx 0 (n+m) (n+m) true,⟨(S.h.set b none).set S.nx (some (.cells (cs++new) true k)),S.nx+1⟩,?_,.inr ⟨S.nx,rfl,hS.1,by simp,?_,by rw[Ai,hc,hn,Dx]⟩,⟨Ap hS.1 (by simp),fun c hc=>?_⟩,by simp,fun c hc hne=>?_,rfl⟩
  ·show(aX (nE x) fun j=>aX (eG x S.h k j) fun new=>aCU (.sl b 0 n n true) bytes k j new S)=_;rw[hl,aK,hs,aK];show oV bytes k b 0 n n true m new S=_;unfold oV;have e2:Nat.ble (n+m) n=false:=by rw[Bv];intro h;have:=Ar h;omega
   rw[e2,aQ,Aj h1,aL,Aj h2,aL,hg,aK];have e3:cut cs 0 (n * k)=some cs:=by
    unfold cut;rw[fI,fT,Ct,if_pos (by omega),Bj (by omega)]
   have e4:Nat.beq (0+n * k) (jK cs)=true:=by rw[dO,hc,Bb];omega
   have e5:Nat.beq k k=true:=Nat.beq_refl k;simp only[aBP,e3,aK,aL,e4,e5,grown,gD]
  ·simp only;rw[T.get_set,if_pos rfl]
  ·simp only;have:=hS.1;rw[T.get_set,if_neg (by omega),T.get_set,if_neg (by omega)];exact hS.2 c hc
  ·simp only;have:c≠b:=fun e=>hne (by rw[e];rfl);rw[T.get_set,if_neg (by omega),T.get_set,if_neg this]
theorem aG5{W:Nat→Prop}{h0:T AB}{base:Nat}{m i:Nat}{l:List AO}{F:Fr}{S:St}{last:Option Nat}{Q:Fr→St→List iM→Prop}{n j id:Nat}{x v:cK}{cs cs':List AV}(ht:Nat.testBit m j=true)(h:mC last m=true)(hx:x.val F= .ptr id 0)(hv:(v.val F).cells=some cs')(h1:cs.length=n)(h2:cs'.length=n)(hid:base≤id)
  (hr:∀S1,bJ id S S1→S1.nx=S.nx→S1.h.get id=some (.cells cs' false 0)→gG fns W h0 base l (i+1) F S1 [] (some i) Q):gG fns W h0 base (⟨none,.x (.st n x v),none,m⟩::l) i F S [⟨j,id,.cells cs false 0⟩] last Q:=by
 have hb:(⟨S.h.set id (some (.cells cs false 0)),S.nx⟩:St).h.get id=some (.cells cs false 0):=by simp only;rw[T.get_set,if_pos rfl]
 refine aAc (S1:=⟨(S.h.set id (some (.cells cs false 0))).set id (some (.cells cs' false 0)),S.nx⟩) h ?_ ⟨Ag _,fun c hc hw=>?_⟩ ?_
 ·rw[dS ht,hv,aK,hx];exact aIU hb h1 h2
 ·simp only;rw[dS ht,T.get_set,if_neg (by omega)]
 ·rw[dS ht];refine hr _ ⟨Ag _,fun c hc hne=>?_⟩ rfl ?_
  ·simp only;rw[T.get_set,if_neg hne,T.get_set,if_neg hne]
  ·simp only;rw[T.get_set,if_pos rfl]
theorem aEu{k:Nat}{α:Type}{E:St→List AV→α→Prop}{S:St}{v:AV}{l:List α}(h:bB k E S v l):v.cells=some [v]:=by
 rcases h with⟨_,rfl | rfl⟩ | ⟨b,off,cap,o,cs,rfl,_⟩<;>rfl
end Go.Ev.Gl
