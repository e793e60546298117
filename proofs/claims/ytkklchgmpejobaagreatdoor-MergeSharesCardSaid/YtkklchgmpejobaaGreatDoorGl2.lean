import Derived.Test.YtkklchgmpejobaaGreatDoorGl1
set_option maxHeartbeats 16000000
set_option linter.unusedSimpArgs false
set_option linter.unusedVariables false
namespace Go.Ev.Gl
variable {fns:T cW}
def lV(last:Option Nat)(m:Nat):Bool:=
 match last with
 | none=>true
 | some i=>Nat.testBit m i
def aJy(W:Nat→Prop)(base:Nat)(v:AV):Prop:=∃b off,v= .ptr b off∧b<base∧¬W b
def aFR(W:Nat→Prop)(base:Nat)(q:zZ)(F:Fr):Prop:=(∃agg n x,q= .ld agg n x∧aJy W base (x.val F))∨∃sk z ok m k b,q= .lookup sk z ok m k∧m.val F= .map b∧b<base∧¬W b
def aE3(W:Nat→Prop)(base:Nat)(S S':St):Prop:=S.nx≤S'.nx∧∀b,b<base→¬W b→S'.h.get b=S.h.get b
def gI(fns:T cW)(W:Nat→Prop)(h0:T AB)(base:Nat):List AO→Nat→Fr→St→List iJ→Option Nat→(Fr→St→List iJ→Prop)→Prop
 | [],_,F,S,ps,_,Q=>Q F S ps
 | ⟨d,op,g,m⟩::l,i,F,S,ps,last,Q=>
  if eK g F=true then
   match op with
   | .q q=>kD (iG q F (bN (dE q) h0 S.h)) fun v=>(dE q=true→cJ v v=true∧aFR W base q F)∧gI fns W h0 base l (i+1) (cI d F v) S ps last Q
   | .a a=>kD (tH a F (base+i)) fun r=>gI fns W h0 base l (i+1) (cI d F r.1) S (⟨i,base+i,r.2⟩::ps) last Q
   | .x (.call f args)=>lV last m=true∧fR fns (f.val F) (dC args F) ⟨(cF m ps S.h).2,S.nx⟩ fun v S1=>(Same ⟨(cF m ps S.h).2,S.nx⟩ S1∨aE3 W base ⟨(cF m ps S.h).2,S.nx⟩ S1)∧gI fns W h0 base l (i+1) (cI d F v) S1 (cF m ps S.h).1 (some i) Q
   | .x (.inv tbl r args)=>lV last m=true∧∃t f u,r.val F= .iface t u∧vY t tbl=some (f,none)∧fR fns (.fn f [u] []) (dC args F) ⟨(cF m ps S.h).2,S.nx⟩ fun v S1=>Same ⟨(cF m ps S.h).2,S.nx⟩ S1∧gI fns W h0 base l (i+1) (cI d F v) S1 (cF m ps S.h).1 (some i) Q
   | .x x=>lV last m=true∧∃v S1,(∀call,zY x call F ⟨(cF m ps S.h).2,S.nx⟩=some (v,S1))∧aE3 W base ⟨(cF m ps S.h).2,S.nx⟩ S1∧gI fns W h0 base l (i+1) (cI d F v) S1 (cF m ps S.h).1 (some i) Q
  else gI fns W h0 base l (i+1) (cI d F .undef) S ps last Q
structure DOk(W:Nat→Prop)(h0:T AB)(base:Nat)(D:DS):Prop where
 cur:∀b,b<base→¬W b→D.S.h.get b=h0.get b
 nx:base≤D.S.nx
 chain:∀e∈D.hs,∀b,b<base→¬W b→e.2.2.get b=h0.get b
 lds:∀l∈D.ls,cJ l.v l.v=true∧aFR W base l.q l.F∧iG l.q l.F h0=some l.v
 pend:∀p∈D.ps,base≤p.id
theorem aFR.ev{W:Nat→Prop}{base:Nat}{q:zZ}{F:Fr}(h:aFR W base q F){h0 h1:T AB}(hh:∀b,b<base→¬W b→h1.get b=h0.get b):iG q F h1=iG q F h0:=by
 rcases h with⟨agg,n,x,rfl,b,off,hx,hb,hw⟩ | ⟨sk,z,ok,m,k,b,rfl,hx,hb,hw⟩
 ·rw[aCF,aCF,hx];have e:cN h1 b=cN h0 b:=by unfold cN;rw[hh b hb hw]
  simp only[dB,oM,uZ,lI,e]
 ·show(aX (qL h1 (m.val F)) fun es=>_)=aX (qL h0 (m.val F)) fun es=>_;rw[hx];show(aX (aX (h1.get b) rT) fun es=>_)=aX (aX (h0.get b) rT) fun es=>_;rw[hh b hb hw]
theorem aBc{base b:Nat}(hb:b<base){m:Nat}:∀ {ps:List iJ} {h:T AB},(∀p∈ps,base≤p.id)→(cF m ps h).2.get b=h.get b
 | [],h,_=>rfl
 | p::ps,h,hp=>by
  have h1:=hp p (by simp);have h2:∀q∈ps,base≤q.id:=fun q hq=>hp q (by simp [hq]);unfold cF;cases Nat.testBit m p.i with
  | true=>rw[aL,aBc hb h2,T.get_set,if_neg (by omega)]
  | false=>rw[aR];exact aBc hb h2
theorem aBw{base:Nat}{m:Nat}:∀ {ps:List iJ} {h:T AB},(∀p∈ps,base≤p.id)→∀p∈(cF m ps h).1,base≤p.id
 | [],h,_,p,hp=>by cases hp
 | p::ps,h,hq,r,hr=>by
  have h2:∀q∈ps,base≤q.id:=fun q hx=>hq q (by simp [hx]);unfold cF at hr;cases ht:Nat.testBit m p.i with
  | true=>rw[ht,aL] at hr;exact aBw h2 r hr
  | false=>
   rw[ht,aR] at hr;rcases Bm.1 hr with rfl | hr
   ·exact hq r (by simp)
   ·exact aBw h2 r hr
theorem aEX{W:Nat→Prop}{h0:T AB}{base:Nat}{l:jY}(h:cJ l.v l.v=true∧aFR W base l.q l.F∧iG l.q l.F h0=some l.v):∀ {hs:List (Nat×Nat×T AB)} {h1:T AB},(∀e∈hs,∀b,b<base→¬W b→e.2.2.get b=h0.get b)→(∀b,b<base→¬W b→h1.get b=h0.get b)→fY l hs h1=true
 | [],h1,_,hh=>by
  show nM l.v (iG l.q l.F h1)=true;rw[h.2.1.ev hh,h.2.2];exact h.1
 | (i,m,h')::r,h1,hs,hh=>by
  have e1:nM l.v (iG l.q l.F h1)=true:=by rw[h.2.1.ev hh,h.2.2];exact h.1
  have e2:fY l r h'=true:=aEX h (fun e he=>hs e (by simp [he])) (hs (i,m,h') (by simp));unfold fY;rw[e1,e2];cases Nat.testBit l.mask i<;>cases Nat.testBit m l.i<;>rfl
theorem nT{h0:T AB}{hs:List (Nat×Nat×T AB)}:∀ {ls:List jY},(∀l∈ls,fY l hs h0=true)→fI h0 hs ls=true
 | [],_=>rfl
 | l::ls,h=>by rw[uR,h l (by simp),aL];exact nT fun l' hl=>h l' (by simp [hl])
theorem aNo{d:Option Nat}{tbl:List (Nat×Nat×Option (Bool×Nat))}{recv:cL}{args:List cL}{m i base:Nat}{l:List AO}{D:DS}{Q:DS→Prop}{t f:Nat}{u:AV}(hr:recv.val D.F= .iface t u)(hf:vY t tbl=some (f,none))(h:xI fns (⟨d,.x (.call (.c (.fn f [u] [])) args),none,m⟩::l) i base D Q):xI fns (⟨d,.x (.inv tbl recv args),none,m⟩::l) i base D Q:=by
 obtain⟨n,D',e1,e2⟩:=h;refine⟨n,D',?_,e2⟩;have e:qV ⟨d,.x (.inv tbl recv args),none,m⟩ i base (ev fns n).call D=qV ⟨d,.x (.call (.c (.fn f [u] [])) args),none,m⟩ i base (ev fns n).call D:=by
  show bN (iR D.hs m) (aX (zY (.inv tbl recv args) (ev fns n).call D.F ⟨(cF m D.ps D.S.h).2,D.S.nx⟩) _) none=bN (iR D.hs m) (aX (zY (.call (.c (.fn f [u] [])) args) (ev fns n).call D.F ⟨(cF m D.ps D.S.h).2,D.S.nx⟩) _) none;rw[aOu hr hf]
 show aX (qV ⟨d,.x (.inv tbl recv args),none,m⟩ i base (ev fns n).call D) _=_;rw[e];exact e1
theorem lJ{W:Nat→Prop}{h0:T AB}{base:Nat}{Q:Fr→St→List iJ→Prop}:∀ {ops:List AO} {i:Nat} {D:DS} {last:Option Nat},DOk W h0 base D→D.hs.head?.map (·.1)=last→gI fns W h0 base ops i D.F D.S D.ps last Q→
  xI fns ops i base D fun D'=>Q D'.F D'.S D'.ps∧DOk W h0 base D'
 | [],i,D,last,hD,_,hr=>by rw[iH];exact⟨hr,hD⟩
 | ⟨d,op,g,m⟩::l,i,D,last,hD,hlast,hr=>by
  have hlk:lV last m=true→iR D.hs m=true:=fun h=>by
   subst hlast;cases hh:D.hs with
   | nil=>rfl
   | cons e r=>rw[hh] at h;exact h
  unfold gI at hr;by_cases hw:eK g D.F=true
  ·rw[if_pos hw] at hr;have lift:xI fns (⟨d,op,none,m⟩::l) i base D (fun D'=>Q D'.F D'.S D'.ps∧DOk W h0 base D')→xI fns (⟨d,op,g,m⟩::l) i base D (fun D'=>Q D'.F D'.S D'.ps∧DOk W h0 base D'):=by
    rintro⟨n,D',e1,e2⟩;refine⟨n,D',?_,e2⟩;have:qV ⟨d,op,g,m⟩ i base (ev fns n).call D=qV ⟨d,op,none,m⟩ i base (ev fns n).call D:=by
     show bN (eK g D.F) _ _=bN true _ _;rw[hw];cases op<;>rfl
    show aX (qV ⟨d,op,g,m⟩ i base (ev fns n).call D) _=_;rw[this];exact e1
   apply lift;cases op with
   | q q=>
    obtain⟨v,hv,hs,hr⟩:=hr;rw[mS];cases hq:dE q with
    | false=>
     rw[hq,aR] at hv;refine⟨v,hv,?_⟩;simp only[aR];exact lJ (D:=⟨cI d D.F v,D.S,D.ps,D.hs,D.ls⟩) ⟨hD.cur,hD.nx,hD.chain,hD.lds,hD.pend⟩ hlast hr
    | true=>
     rw[hq,aL] at hv;obtain⟨hs1,hs2⟩:=hs hq;refine⟨v,by rw[hs2.ev hD.cur];exact hv,?_⟩;simp only[aL];refine lJ (D:=⟨cI d D.F v,D.S,D.ps,D.hs,⟨q,D.F,v,i,m⟩::D.ls⟩) ⟨hD.cur,hD.nx,hD.chain,fun l' hl=>?_,hD.pend⟩ hlast hr;rcases Bm.1 hl with rfl | hl
     ·exact⟨hs1,hs2,hv⟩
     ·exact hD.lds l' hl
   | a a=>
    obtain⟨r,hv,hr⟩:=hr;rw[aMo];refine⟨r,hv,lJ (D:=⟨cI d D.F r.1,D.S,⟨i,base+i,r.2⟩::D.ps,D.hs,D.ls⟩) ⟨hD.cur,hD.nx,hD.chain,hD.lds,fun p hp=>?_⟩ hlast hr⟩;rcases Bm.1 hp with rfl | hp
    ·exact De _ _
    ·exact hD.pend p hp
   | x x=>
    have next:∀ (v:AV) (S1:St),aE3 W base ⟨(cF m D.ps D.S.h).2,D.S.nx⟩ S1→DOk W h0 base ⟨cI d D.F v,S1,(cF m D.ps D.S.h).1,(i,m,S1.h)::D.hs,D.ls⟩:=fun v S1 hS=>by
     have hc:∀b,b<base→¬W b→S1.h.get b=h0.get b:=fun b hb hw=>by
      rw[hS.2 b hb hw];show(cF m D.ps D.S.h).2.get b=_;rw[aBc hb hD.pend];exact hD.cur b hb hw
     refine⟨hc,Az hD.nx hS.1,fun e he=>?_,hD.lds,aBw hD.pend⟩;rcases Bm.1 he with rfl | he
     ·exact hc
     ·exact hD.chain e he
    have other:(∀f args,x≠ .call f args)→(∀tbl r args,x≠ .inv tbl r args)→(lV last m=true∧∃v S1,(∀call,zY x call D.F ⟨(cF m D.ps D.S.h).2,D.S.nx⟩=some (v,S1))∧aE3 W base ⟨(cF m D.ps D.S.h).2,D.S.nx⟩ S1∧gI fns W h0 base l (i+1) (cI d D.F v) S1 (cF m D.ps D.S.h).1 (some i) Q)→xI fns (⟨d,.x x,none,m⟩::l) i base D (fun D'=>Q D'.F D'.S D'.ps∧DOk W h0 base D'):=by
     rintro _ _ ⟨h1,v,S1,h2,h3,h4⟩;exact jL (hlk h1) h2 (lJ (D:=⟨cI d D.F v,S1,(cF m D.ps D.S.h).1,(i,m,S1.h)::D.hs,D.ls⟩) (next v S1 h3) rfl h4)
    cases x with
    | call f args=>
     obtain⟨h1,n,v,S1,h2,h3,h4⟩:=hr;refine aHu (hlk h1) ⟨n,v,S1,h2,?_⟩;exact lJ (D:=⟨cI d D.F v,S1,(cF m D.ps D.S.h).1,(i,m,S1.h)::D.hs,D.ls⟩) (next v S1 (h3.elim (fun h3=>⟨h3.1,fun b hb _=>h3.2 b (Ah hb hD.nx)⟩) id)) rfl h4
    | inv tbl r args=>
     obtain⟨h1,t,f,u,hu,hf,n,v,S1,h2,h3,h4⟩:=hr;refine aNo hu hf (aHu (hlk h1) ⟨n,v,S1,h2,?_⟩);exact lJ (D:=⟨cI d D.F v,S1,(cF m D.ps D.S.h).1,(i,m,S1.h)::D.hs,D.ls⟩) (next v S1 ⟨h3.1,fun b hb _=>h3.2 b (Ah hb hD.nx)⟩) rfl h4
    | _=>exact other (fun _ _ h=>by cases h) (fun _ _ _ h=>by cases h) hr
  ·rw[if_neg hw] at hr;obtain⟨n,D',e1,e2⟩:=lJ (i:=i+1) (D:=⟨cI d D.F .undef,D.S,D.ps,D.hs,D.ls⟩) (last:=last) ⟨hD.cur,hD.nx,hD.chain,hD.lds,hD.pend⟩ hlast hr;refine⟨n,D',?_,e2⟩;have:qV ⟨d,op,g,m⟩ i base (ev fns n).call D=some ⟨cI d D.F .undef,D.S,D.ps,D.hs,D.ls⟩:=by
    show bN (eK g D.F) _ _=_;rw[show eK g D.F=false by simpa using hw];rfl
   show aX (qV ⟨d,op,g,m⟩ i base (ev fns n).call D) _=_;rw[this];exact e1
theorem aJe(W:Nat→Prop){ops:List AO}{A:bQ}{S:St}{Q:Out→bQ→St→Prop}(h:gI fns W S.h S.nx ops 0 A.F ⟨S.h,S.nx+ops.length⟩ [] none fun F S' ps=>Q .normal ⟨F,A.inr⟩ ⟨(cF (2 ^ ops.length - 1) ps S'.h).2,S'.nx⟩):mF fns (.drw ops) A S Q:=by
 refine xN ?_;obtain⟨n,D',e1,e2,e3⟩:=lJ (fns:=fns) (i:=0) (D:=⟨A.F,⟨S.h,S.nx+ops.length⟩,[],[],[]⟩) (last:=none) ⟨fun _ _ _=>rfl,De _ _,fun e he=>(by cases he),fun l hl=>(by cases hl),fun p hp=>(by cases hp)⟩ rfl h;exact⟨n,D',e1,nT fun l hl=>aEX (e3.lds l hl) (fun e he=>e3.chain e (List.mem_reverse.1 he)) (fun _ _ _=>rfl),e2⟩
def aLd(fns:T cW)(W:Nat→Prop)(h0:T AB)(base:Nat)(x:Option AV)(ld:Bool)(old:Prop)(d:Option Nat)(l:List AO)(i:Nat)(F:Fr)(S:St)(ps:List iJ)(last:Option Nat)(Q:Fr→St→List iJ→Prop):Prop:=kD x fun v=>(ld=true→cJ v v=true∧old)∧gI fns W h0 base l i (cI d F v) S ps last Q
def aIU(fns:T cW)(W:Nat→Prop)(h0:T AB)(base:Nat)(x:Option (AV×AB))(d:Option Nat)(l:List AO)(i:Nat)(F:Fr)(S:St)(ps:List iJ)(last:Option Nat)(Q:Fr→St→List iJ→Prop):Prop:=kD x fun r=>gI fns W h0 base l (i+1) (cI d F r.1) S (⟨i,base+i,r.2⟩::ps) last Q
section
variable {W:Nat→Prop}{h0:T AB}{base:Nat}{d:Option Nat}{m i:Nat}{l:List AO}{F:Fr}{S:St}{ps:List iJ}{last:Option Nat}{Q:Fr→St→List iJ→Prop}
theorem aHo:gI fns W h0 base [] i F S ps last Q↔Q F S ps:=Iff.rfl
theorem aHY{q:zZ}:gI fns W h0 base (⟨d,.q q,none,m⟩::l) i F S ps last Q↔aLd fns W h0 base (iG q F (bN (dE q) h0 S.h)) (dE q) (aFR W base q F) d l (i+1) F S ps last Q:=by
 rw[gI,if_pos (show eK none F=true from rfl)];rfl
theorem zM{v:AV}{ld:Bool}{old:Prop}:aLd fns W h0 base (some v) ld old d l i F S ps last Q↔(ld=true→cJ v v=true∧old)∧gI fns W h0 base l i (cI d F v) S ps last Q:=by unfold aLd;rw[dY]
theorem aLA{a:vL}:gI fns W h0 base (⟨d,.a a,none,m⟩::l) i F S ps last Q↔aIU fns W h0 base (tH a F (base+i)) d l i F S ps last Q:=by
 rw[gI,if_pos (show eK none F=true from rfl)];rfl
theorem iY{r:AV×AB}:aIU fns W h0 base (some r) d l i F S ps last Q↔gI fns W h0 base l (i+1) (cI d F r.1) S (⟨i,base+i,r.2⟩::ps) last Q:=by unfold aIU;rw[dY]
theorem aA4{f:cL}{args:List cL}(h:lV last m=true)(hw:fR fns (f.val F) (dC args F) ⟨(cF m ps S.h).2,S.nx⟩ fun v S1=>Same ⟨(cF m ps S.h).2,S.nx⟩ S1∧gI fns W h0 base l (i+1) (cI d F v) S1 (cF m ps S.h).1 (some i) Q):gI fns W h0 base (⟨d,.x (.call f args),none,m⟩::l) i F S ps last Q:=by
 rw[gI,if_pos (show eK none F=true from rfl)];exact⟨h,aN hw fun v S1 h=>⟨.inl h.1,h.2⟩⟩
theorem jC{f:cL}{args:List cL}(h:lV last m=true)(hw:fR fns (f.val F) (dC args F) ⟨(cF m ps S.h).2,S.nx⟩ fun v S1=>aE3 W base ⟨(cF m ps S.h).2,S.nx⟩ S1∧gI fns W h0 base l (i+1) (cI d F v) S1 (cF m ps S.h).1 (some i) Q):gI fns W h0 base (⟨d,.x (.call f args),none,m⟩::l) i F S ps last Q:=by
 rw[gI,if_pos (show eK none F=true from rfl)];exact⟨h,aN hw fun v S1 h=>⟨.inr h.1,h.2⟩⟩
theorem uJ{n:Nat}{x v:cL}{S1:St}(h:lV last m=true)(he:aX (v.val F).cells (fun cs=>jS (x.val F) n cs ⟨(cF m ps S.h).2,S.nx⟩)=some (.undef,S1))(ho:aE3 W base ⟨(cF m ps S.h).2,S.nx⟩ S1)(hr:gI fns W h0 base l (i+1) (cI d F .undef) S1 (cF m ps S.h).1 (some i) Q):gI fns W h0 base (⟨d,.x (.st n x v),none,m⟩::l) i F S ps last Q:=by
 unfold gI;rw[if_pos (show eK none F=true from rfl)];exact⟨h,_,S1,fun call=>he,ho,hr⟩
theorem aMB{op:AOp}{s:Nat}{b:Bool}:gI fns W h0 base (⟨d,op,some (s,b),m⟩::l) i F S ps last Q↔if isB (aD s F) b=true then gI fns W h0 base (⟨d,op,none,m⟩::l) i F S ps last Q else gI fns W h0 base l (i+1) (cI d F .undef) S ps last Q:=by
 conv=>lhs;unfold gI
 rw[show eK (some (s,b)) F=isB (aD s F) b from rfl];split
 ·conv=>rhs;unfold gI
  rw[if_pos (show eK none F=true from rfl)]
 ·rfl
theorem aI5{agg:Bool}{n:Nat}{x:cL}:aFR W base (.ld agg n x) F↔aJy W base (x.val F):=by
 constructor
 ·rintro(⟨_,_,_,h,h2⟩ | ⟨_,_,_,_,_,_,h,_⟩)
  ·cases h;exact h2
  ·cases h
 ·exact fun h=>.inl ⟨_,_,_,rfl,h⟩
theorem aG7{b off:Nat}:aJy W base (.ptr b off)↔b<base∧¬W b:=by
 constructor
 ·rintro⟨_,_,h,h2⟩;cases h;exact h2
 ·exact fun h=>⟨_,_,rfl,h⟩
end
theorem stV:type_of% (And.intro @aHo (And.intro @aHY (And.intro @aLA (And.intro @aMB (@aBA))))):=And.intro @aHo (And.intro @aHY (And.intro @aLA (And.intro @aMB (@aBA))))
theorem stW:type_of% (And.intro @zM (And.intro @iY (And.intro @aI5 (And.intro @aG7 (And.intro @bR (And.intro (@An AO) (And.intro (@Bp AO) (And.intro (@An AV) (And.intro (@Bp AV) (And.intro (@An Nat) (@Bp Nat))))))))))):=And.intro @zM (And.intro @iY (And.intro @aI5 (And.intro @aG7 (And.intro @bR (And.intro (@An AO) (And.intro (@Bp AO) (And.intro (@An AV) (And.intro (@Bp AV) (And.intro (@An Nat) (@Bp Nat))))))))))
theorem sU:type_of% (And.intro aA stV):=And.intro aA stV
theorem sD:type_of% (And.intro aB stW):=And.intro aB stW
theorem aKp(e:oR){a b:Int}(hb:b≠0):eX .quo e (.int .i64 a) (.int .i64 b)=some (.int .i64 (IntKind.i64.wrap (a.tdiv b))):=by
 show cP .quo .i64 a .i64 b=_;unfold cP;rw[show dS .quo=false from rfl,aR,eG,aL];show aMD .i64 a b=_;unfold aMD;split
 ·rename_i m n;have h0:Nat.beq n 0=false:=by
   rw[Bs];intro h;rw[Ax] at h;subst h;exact hb rfl
  rw[h0,aR,nat_eq];rfl
 ·have h0:ieq b (.ofNat 0)=false:=by
   rw[Bs];intro h;rw[kG] at h;exact hb (by simpa using h)
  rw[h0,aR,sR]
theorem aKn(e:oR){a b:Int}(ha:0≤a)(ha2:a≤9223372036854775807)(hb:0<b):eX .quo e (.int .i64 a) (.int .i64 b)=some (.int .i64 (a / b)):=by
 rw[aKp e (by omega),Int.tdiv_eq_ediv_of_nonneg ha];rw[wrap_i64]
 ·have:=Int.ediv_nonneg ha (Int.le_of_lt hb);omega
 ·have:=Int.ediv_le_self b ha;omega
theorem aLN(a:Int):unV .neg (.int .i64 a)=some (.int .i64 (IntKind.i64.wrap (-a))):=by
 show some (AV.int .i64 (aEB .i64 (.ofNat 0) a))=_;rw[wS];congr 3;show(0:Int) - a= -a;omega
def mx(a b:Int):Int:=if b≤a then a else b
theorem aMj(l:List cL)(F:Fr)(h:T AB):iG (.minmax true l) F h=lM true (dC l F):=rfl
theorem aNN(v:AV)(l:List AV):lM true (v::l)=jN true l v:=rfl
theorem aPt(v:AV):jN true [] v=some v:=rfl
theorem aOV(a b:Int)(l:List AV):jN true (.int .i64 b::l) (.int .i64 a)=jN true l (.int .i64 (mx a b)):=by
 show bN (keq .i64 .i64) (jN true l (.int .i64 (bN true (bN (ile b a) a b) _))) none=_;rw[eG,aL,aL];congr 2;unfold mx;rw[oO];by_cases h:b≤a
 ·rw[if_pos h,Ac h];rfl
 ·rw[if_neg h,Aa h];rfl
theorem aN7(t:Nat)(x:cL)(F:Fr)(id:Nat):tH (.box t x) F id=aX (x.val F).cells fun cs=>some (.ptr id 0,.cells cs false 0):=rfl
theorem aEw(t:Nat)(cs:List AV)(F:Fr)(id:Nat):tH (.alloc t cs) F id=some (.ptr id 0,.cells cs false 0):=rfl
theorem pV(f:Nat)(first cap:List cL)(F:Fr)(h:T AB):iG (.mkFunc f first cap) F h=some (.fn f (dC first F) (dC cap F)):=rfl
theorem mD(f:Nat)(first cap:List cL):dE (.mkFunc f first cap)=false:=rfl
theorem bK(cs:List AV):(AV.agg cs).cells=some cs:=rfl
theorem aE(i:Nat)(x:cL)(F:Fr)(h:T AB):iG (.faddr i x) F h=zQ (x.val F) i:=rfl
theorem aF(b o i:Nat):zQ (.ptr b o) i=some (.ptr b (o+i)):=rfl
theorem aW(i:Nat)(x:cL):dE (.faddr i x)=false:=rfl
theorem uE(z:List AV)(ps:List (Nat×Nat×cL)):dE (.build z ps)=false:=rfl
theorem gE(a:Nat)(agg:Bool)(n:Nat)(rs:List RV)(F:Fr)(h:T AB):results (.cell a agg n::rs) F h=aX (dB (aD a F) agg n h) fun v=>aX (results rs F h) fun vs=>some (v::vs):=rfl
section
variable {h:T AB}{b:Nat}{x y z:AV}{o:Bool}{s:Nat}
theorem ld3(hb:h.get b=some (.cells [x,y,z] o s)):dB (.ptr b 0) true 3 h=some (.agg [x,y,z]):=by
 simp only[dB,oM,aL,uZ,cN,hb,aK,nJ];rfl
end
theorem aIF{S:St}{b n:Nat}{cs cs':List AV}{o:Bool}{s:Nat}(h:S.h.get b=some (.cells cs o s))(h1:cs.length=n)(h2:cs'.length=n):jS (.ptr b 0) n cs' S=some (.undef,⟨S.h.set b (some (.cells cs' o s)),S.nx⟩):=by
 have hp:put cs 0 cs'=some cs':=by
  rw[put_eq,if_pos (by omega)];simp [Eu (show cs.length≤cs'.length by omega)]
 simp only[jS,dL,h2,oU,h,aK,vX,hp];rw[show Nat.beq n n=true from Nat.beq_refl n];rfl
theorem dR{d t m:Nat}{x:cL}{l:List AO}{F:Fr}{S:St}{Q:Fr→St→Prop}{cs:List AV}(hc:(x.val F).cells=some cs)(h:∀S1,Same S S1→S1.nx=S.nx+1→S1.h.get S.nx=some (.cells cs false 0)→tS fns l (cI (some d) F (.ptr S.nx 0)) S1 Q):tS fns (⟨some d,.a (.box t x),none,m⟩::l) F S Q:=by
 rw[aBA];refine⟨(.ptr S.nx 0,.cells cs false 0),by rw[aN7,hc];rfl,h _ (Same.alloc S _) rfl ?_⟩;simp only;rw[T.get_set,if_pos rfl]
theorem cS{d t m:Nat}{l:List AO}{F:Fr}{S:St}{Q:Fr→St→Prop}{cs:List AV}(h:∀S1,Same S S1→S1.nx=S.nx+1→S1.h.get S.nx=some (.cells cs false 0)→tS fns l (cI (some d) F (.ptr S.nx 0)) S1 Q):tS fns (⟨some d,.a (.alloc t cs),none,m⟩::l) F S Q:=by
 rw[aBA];refine⟨(.ptr S.nx 0,.cells cs false 0),rfl,h _ (Same.alloc S _) rfl ?_⟩;simp only;rw[T.get_set,if_pos rfl]
theorem fA{n m b s:Nat}{x v:cL}{l:List AO}{F:Fr}{S:St}{Q:Fr→St→Prop}{cs cs':List AV}{o:Bool}(hx:x.val F= .ptr b 0)(hv:(v.val F).cells=some cs')(hb:S.h.get b=some (.cells cs o s))(h1:cs.length=n)(h2:cs'.length=n)
  (h:∀S1,bH b S S1→S1.nx=S.nx→S1.h.get b=some (.cells cs' o s)→tS fns l F S1 Q):tS fns (⟨none,.x (.st n x v),none,m⟩::l) F S Q:=by
 refine eR (v:=.undef) (fun call=>?_) (h ⟨S.h.set b (some (.cells cs' o s)),S.nx⟩ ((bH.refl b S).put _) rfl ?_)
 ·rw[dD,hv,aK,hx];exact aIF hb h1 h2
 ·simp only;rw[T.get_set,if_pos rfl]
theorem dG(W:Nat→Prop){ops:List AO}{A:bQ}{S:St}{Q:Out→bQ→St→Prop}(h:∀S1,Same S S1→gI fns W S.h S.nx ops 0 A.F S1 [] none fun F S' ps=>Q .normal ⟨F,A.inr⟩ ⟨(cF (2 ^ ops.length - 1) ps S'.h).2,S'.nx⟩):mF fns (.drw ops) A S Q:=aJe W (h _ (Same.nx S _))
section
variable {W:Nat→Prop}{h0:T AB}{base:Nat}{d:Option Nat}{m i:Nat}{l:List AO}{F:Fr}{S:St}{last:Option Nat}{Q:Fr→St→List iJ→Prop}
theorem cH{f:cL}{args:List cL}(h:lV last m=true)(hw:fR fns (f.val F) (dC args F) S fun v S1=>Same S S1∧gI fns W h0 base l (i+1) (cI d F v) S1 [] (some i) Q):gI fns W h0 base (⟨d,.x (.call f args),none,m⟩::l) i F S [] last Q:=
 aA4 h hw
end
theorem fB(b:Bool):unV .not (.bool b)=some (.bool (!b)):=by cases b<;>rfl
theorem aPJ:eY (.int .i64 0)=some 0:=rfl
end Go.Ev.Gl
