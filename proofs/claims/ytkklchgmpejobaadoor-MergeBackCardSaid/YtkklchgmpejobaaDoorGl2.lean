import Derived.Test.YtkklchgmpejobaaDoorGl1
set_option maxHeartbeats 16000000
set_option linter.unusedSimpArgs false
set_option linter.unusedVariables false
namespace Go.Ev.Gl
variable {fns:T dB}
def lP(last:Option Nat)(m:Nat):Bool:=
 match last with
 | none=>true
 | some i=>Nat.testBit m i
def aI0(W:Nat→Prop)(base:Nat)(v:AV):Prop:=∃b off,v= .ptr b off∧b<base∧¬W b
def aFf(W:Nat→Prop)(base:Nat)(q:zM)(F:Fr):Prop:=(∃agg n x,q= .ld agg n x∧aI0 W base (x.val F))∨∃sk z ok m k b,q= .lookup sk z ok m k∧m.val F= .map b∧b<base∧¬W b
def aE2(W:Nat→Prop)(base:Nat)(S S':St):Prop:=S.nx≤S'.nx∧∀b,b<base→¬W b→S'.h.get b=S.h.get b
def fW(fns:T dB)(W:Nat→Prop)(h0:T AB)(base:Nat):List AO→Nat→Fr→St→List iD→Option Nat→(Fr→St→List iD→Prop)→Prop
 | [],_,F,S,ps,_,Q=>Q F S ps
 | ⟨d,op,g,m⟩::l,i,F,S,ps,last,Q=>
  if eJ g F=true then
   match op with
   | .q q=>jY (hJ q F (bL (dE q) h0 S.h)) fun v=>(dE q=true→cL v v=true∧aFf W base q F)∧fW fns W h0 base l (i+1) (cI d F v) S ps last Q
   | .a a=>jY (tE a F (base+i)) fun r=>fW fns W h0 base l (i+1) (cI d F r.1) S (⟨i,base+i,r.2⟩::ps) last Q
   | .x (.call f args)=>lP last m=true∧fP fns (f.val F) (dC args F) ⟨(cG m ps S.h).2,S.nx⟩ fun v S1=>(Same ⟨(cG m ps S.h).2,S.nx⟩ S1∨aE2 W base ⟨(cG m ps S.h).2,S.nx⟩ S1)∧fW fns W h0 base l (i+1) (cI d F v) S1 (cG m ps S.h).1 (some i) Q
   | .x (.inv tbl r args)=>lP last m=true∧∃t f u,r.val F= .iface t u∧wE t tbl=some (f,none)∧fP fns (.fn f [u] []) (dC args F) ⟨(cG m ps S.h).2,S.nx⟩ fun v S1=>Same ⟨(cG m ps S.h).2,S.nx⟩ S1∧fW fns W h0 base l (i+1) (cI d F v) S1 (cG m ps S.h).1 (some i) Q
   | .x x=>lP last m=true∧∃v S1,(∀call,zN x call F ⟨(cG m ps S.h).2,S.nx⟩=some (v,S1))∧aE2 W base ⟨(cG m ps S.h).2,S.nx⟩ S1∧fW fns W h0 base l (i+1) (cI d F v) S1 (cG m ps S.h).1 (some i) Q
  else fW fns W h0 base l (i+1) (cI d F .undef) S ps last Q
structure DOk(W:Nat→Prop)(h0:T AB)(base:Nat)(D:DS):Prop where
 cur:∀b,b<base→¬W b→D.S.h.get b=h0.get b
 nx:base≤D.S.nx
 chain:∀e∈D.hs,∀b,b<base→¬W b→e.2.2.get b=h0.get b
 lds:∀l∈D.ls,cL l.v l.v=true∧aFf W base l.q l.F∧hJ l.q l.F h0=some l.v
 pend:∀p∈D.ps,base≤p.id
theorem aFf.ev{W:Nat→Prop}{base:Nat}{q:zM}{F:Fr}(h:aFf W base q F){h0 h1:T AB}(hh:∀b,b<base→¬W b→h1.get b=h0.get b):hJ q F h1=hJ q F h0:=by
 rcases h with⟨agg,n,x,rfl,b,off,hx,hb,hw⟩ | ⟨sk,z,ok,m,k,b,rfl,hx,hb,hw⟩
 ·rw[aDt,aDt,hx];have e:cM h1 b=cM h0 b:=by unfold cM;rw[hh b hb hw]
  simp only[cW,oC,uS,lA,e]
 ·show(aW (pV h1 (m.val F)) fun es=>_)=aW (pV h0 (m.val F)) fun es=>_;rw[hx];show(aW (aW (h1.get b) qY) fun es=>_)=aW (aW (h0.get b) qY) fun es=>_;rw[hh b hb hw]
theorem aA4{base b:Nat}(hb:b<base){m:Nat}:∀ {ps:List iD} {h:T AB},(∀p∈ps,base≤p.id)→(cG m ps h).2.get b=h.get b
 | [],h,_=>rfl
 | p::ps,h,hp=>by
  have h1:=hp p (by simp);have h2:∀q∈ps,base≤q.id:=fun q hq=>hp q (by simp [hq]);unfold cG;cases Nat.testBit m p.i with
  | true=>rw[aL,aA4 hb h2,T.get_set,if_neg (by omega)]
  | false=>rw[aR];exact aA4 hb h2
theorem aAS{base:Nat}{m:Nat}:∀ {ps:List iD} {h:T AB},(∀p∈ps,base≤p.id)→∀p∈(cG m ps h).1,base≤p.id
 | [],h,_,p,hp=>by cases hp
 | p::ps,h,hq,r,hr=>by
  have h2:∀q∈ps,base≤q.id:=fun q hx=>hq q (by simp [hx]);unfold cG at hr;cases ht:Nat.testBit m p.i with
  | true=>rw[ht,aL] at hr;exact aAS h2 r hr
  | false=>
   rw[ht,aR] at hr;rcases Bl.1 hr with rfl | hr
   ·exact hq r (by simp)
   ·exact aAS h2 r hr
theorem aEu{W:Nat→Prop}{h0:T AB}{base:Nat}{l:jQ}(h:cL l.v l.v=true∧aFf W base l.q l.F∧hJ l.q l.F h0=some l.v):∀ {hs:List (Nat×Nat×T AB)} {h1:T AB},(∀e∈hs,∀b,b<base→¬W b→e.2.2.get b=h0.get b)→(∀b,b<base→¬W b→h1.get b=h0.get b)→fS l hs h1=true
 | [],h1,_,hh=>by
  show nD l.v (hJ l.q l.F h1)=true;rw[h.2.1.ev hh,h.2.2];exact h.1
 | (i,m,h')::r,h1,hs,hh=>by
  have e1:nD l.v (hJ l.q l.F h1)=true:=by rw[h.2.1.ev hh,h.2.2];exact h.1
  have e2:fS l r h'=true:=aEu h (fun e he=>hs e (by simp [he])) (hs (i,m,h') (by simp));unfold fS;rw[e1,e2];cases Nat.testBit l.mask i<;>cases Nat.testBit m l.i<;>rfl
theorem nG{h0:T AB}{hs:List (Nat×Nat×T AB)}:∀ {ls:List jQ},(∀l∈ls,fS l hs h0=true)→fH h0 hs ls=true
 | [],_=>rfl
 | l::ls,h=>by rw[uN,h l (by simp),aL];exact nG fun l' hl=>h l' (by simp [hl])
theorem aNs{d:Option Nat}{tbl:List (Nat×Nat×Option (Bool×Nat))}{recv:cK}{args:List cK}{m i base:Nat}{l:List AO}{D:DS}{Q:DS→Prop}{t f:Nat}{u:AV}(hr:recv.val D.F= .iface t u)(hf:wE t tbl=some (f,none))(h:wZ fns (⟨d,.x (.call (.c (.fn f [u] [])) args),none,m⟩::l) i base D Q):wZ fns (⟨d,.x (.inv tbl recv args),none,m⟩::l) i base D Q:=by
 obtain⟨n,D',e1,e2⟩:=h;refine⟨n,D',?_,e2⟩;have e:qN ⟨d,.x (.inv tbl recv args),none,m⟩ i base (ev fns n).call D=qN ⟨d,.x (.call (.c (.fn f [u] [])) args),none,m⟩ i base (ev fns n).call D:=by
  show bL (iH D.hs m) (aW (zN (.inv tbl recv args) (ev fns n).call D.F ⟨(cG m D.ps D.S.h).2,D.S.nx⟩) _) none=bL (iH D.hs m) (aW (zN (.call (.c (.fn f [u] [])) args) (ev fns n).call D.F ⟨(cG m D.ps D.S.h).2,D.S.nx⟩) _) none;rw[aNk hr hf]
 show aW (qN ⟨d,.x (.inv tbl recv args),none,m⟩ i base (ev fns n).call D) _=_;rw[e];exact e1
theorem lB{W:Nat→Prop}{h0:T AB}{base:Nat}{Q:Fr→St→List iD→Prop}:∀ {ops:List AO} {i:Nat} {D:DS} {last:Option Nat},DOk W h0 base D→D.hs.head?.map (·.1)=last→fW fns W h0 base ops i D.F D.S D.ps last Q→
  wZ fns ops i base D fun D'=>Q D'.F D'.S D'.ps∧DOk W h0 base D'
 | [],i,D,last,hD,_,hr=>by rw[iA];exact⟨hr,hD⟩
 | ⟨d,op,g,m⟩::l,i,D,last,hD,hlast,hr=>by
  have hlk:lP last m=true→iH D.hs m=true:=fun h=>by
   subst hlast;cases hh:D.hs with
   | nil=>rfl
   | cons e r=>rw[hh] at h;exact h
  unfold fW at hr;by_cases hw:eJ g D.F=true
  ·rw[if_pos hw] at hr;have lift:wZ fns (⟨d,op,none,m⟩::l) i base D (fun D'=>Q D'.F D'.S D'.ps∧DOk W h0 base D')→wZ fns (⟨d,op,g,m⟩::l) i base D (fun D'=>Q D'.F D'.S D'.ps∧DOk W h0 base D'):=by
    rintro⟨n,D',e1,e2⟩;refine⟨n,D',?_,e2⟩;have:qN ⟨d,op,g,m⟩ i base (ev fns n).call D=qN ⟨d,op,none,m⟩ i base (ev fns n).call D:=by
     show bL (eJ g D.F) _ _=bL true _ _;rw[hw];cases op<;>rfl
    show aW (qN ⟨d,op,g,m⟩ i base (ev fns n).call D) _=_;rw[this];exact e1
   apply lift;cases op with
   | q q=>
    obtain⟨v,hv,hs,hr⟩:=hr;rw[mI];cases hq:dE q with
    | false=>
     rw[hq,aR] at hv;refine⟨v,hv,?_⟩;simp only[aR];exact lB (D:=⟨cI d D.F v,D.S,D.ps,D.hs,D.ls⟩) ⟨hD.cur,hD.nx,hD.chain,hD.lds,hD.pend⟩ hlast hr
    | true=>
     rw[hq,aL] at hv;obtain⟨hs1,hs2⟩:=hs hq;refine⟨v,by rw[hs2.ev hD.cur];exact hv,?_⟩;simp only[aL];refine lB (D:=⟨cI d D.F v,D.S,D.ps,D.hs,⟨q,D.F,v,i,m⟩::D.ls⟩) ⟨hD.cur,hD.nx,hD.chain,fun l' hl=>?_,hD.pend⟩ hlast hr;rcases Bl.1 hl with rfl | hl
     ·exact⟨hs1,hs2,hv⟩
     ·exact hD.lds l' hl
   | a a=>
    obtain⟨r,hv,hr⟩:=hr;rw[aLu];refine⟨r,hv,lB (D:=⟨cI d D.F r.1,D.S,⟨i,base+i,r.2⟩::D.ps,D.hs,D.ls⟩) ⟨hD.cur,hD.nx,hD.chain,hD.lds,fun p hp=>?_⟩ hlast hr⟩;rcases Bl.1 hp with rfl | hp
    ·exact Dc _ _
    ·exact hD.pend p hp
   | x x=>
    have next:∀ (v:AV) (S1:St),aE2 W base ⟨(cG m D.ps D.S.h).2,D.S.nx⟩ S1→DOk W h0 base ⟨cI d D.F v,S1,(cG m D.ps D.S.h).1,(i,m,S1.h)::D.hs,D.ls⟩:=fun v S1 hS=>by
     have hc:∀b,b<base→¬W b→S1.h.get b=h0.get b:=fun b hb hw=>by
      rw[hS.2 b hb hw];show(cG m D.ps D.S.h).2.get b=_;rw[aA4 hb hD.pend];exact hD.cur b hb hw
     refine⟨hc,Bb hD.nx hS.1,fun e he=>?_,hD.lds,aAS hD.pend⟩;rcases Bl.1 he with rfl | he
     ·exact hc
     ·exact hD.chain e he
    have other:(∀f args,x≠ .call f args)→(∀tbl r args,x≠ .inv tbl r args)→(lP last m=true∧∃v S1,(∀call,zN x call D.F ⟨(cG m D.ps D.S.h).2,D.S.nx⟩=some (v,S1))∧aE2 W base ⟨(cG m D.ps D.S.h).2,D.S.nx⟩ S1∧fW fns W h0 base l (i+1) (cI d D.F v) S1 (cG m D.ps D.S.h).1 (some i) Q)→wZ fns (⟨d,.x x,none,m⟩::l) i base D (fun D'=>Q D'.F D'.S D'.ps∧DOk W h0 base D'):=by
     rintro _ _ ⟨h1,v,S1,h2,h3,h4⟩;exact jH (hlk h1) h2 (lB (D:=⟨cI d D.F v,S1,(cG m D.ps D.S.h).1,(i,m,S1.h)::D.hs,D.ls⟩) (next v S1 h3) rfl h4)
    cases x with
    | call f args=>
     obtain⟨h1,n,v,S1,h2,h3,h4⟩:=hr;refine aFI (hlk h1) ⟨n,v,S1,h2,?_⟩;exact lB (D:=⟨cI d D.F v,S1,(cG m D.ps D.S.h).1,(i,m,S1.h)::D.hs,D.ls⟩) (next v S1 (h3.elim (fun h3=>⟨h3.1,fun b hb _=>h3.2 b (Af hb hD.nx)⟩) id)) rfl h4
    | inv tbl r args=>
     obtain⟨h1,t,f,u,hu,hf,n,v,S1,h2,h3,h4⟩:=hr;refine aNs hu hf (aFI (hlk h1) ⟨n,v,S1,h2,?_⟩);exact lB (D:=⟨cI d D.F v,S1,(cG m D.ps D.S.h).1,(i,m,S1.h)::D.hs,D.ls⟩) (next v S1 ⟨h3.1,fun b hb _=>h3.2 b (Af hb hD.nx)⟩) rfl h4
    | _=>exact other (fun _ _ h=>by cases h) (fun _ _ _ h=>by cases h) hr
  ·rw[if_neg hw] at hr;obtain⟨n,D',e1,e2⟩:=lB (i:=i+1) (D:=⟨cI d D.F .undef,D.S,D.ps,D.hs,D.ls⟩) (last:=last) ⟨hD.cur,hD.nx,hD.chain,hD.lds,hD.pend⟩ hlast hr;refine⟨n,D',?_,e2⟩;have:qN ⟨d,op,g,m⟩ i base (ev fns n).call D=some ⟨cI d D.F .undef,D.S,D.ps,D.hs,D.ls⟩:=by
    show bL (eJ g D.F) _ _=_;rw[show eJ g D.F=false by simpa using hw];rfl
   show aW (qN ⟨d,op,g,m⟩ i base (ev fns n).call D) _=_;rw[this];exact e1
theorem aIh(W:Nat→Prop){ops:List AO}{A:bR}{S:St}{Q:Out→bR→St→Prop}(h:fW fns W S.h S.nx ops 0 A.F ⟨S.h,S.nx+ops.length⟩ [] none fun F S' ps=>Q .normal ⟨F,A.inr⟩ ⟨(cG (2 ^ ops.length - 1) ps S'.h).2,S'.nx⟩):mA fns (.drw ops) A S Q:=by
 refine wS ?_;obtain⟨n,D',e1,e2,e3⟩:=lB (fns:=fns) (i:=0) (D:=⟨A.F,⟨S.h,S.nx+ops.length⟩,[],[],[]⟩) (last:=none) ⟨fun _ _ _=>rfl,Dc _ _,fun e he=>(by cases he),fun l hl=>(by cases hl),fun p hp=>(by cases hp)⟩ rfl h;exact⟨n,D',e1,nG fun l hl=>aEu (e3.lds l hl) (fun e he=>e3.chain e (List.mem_reverse.1 he)) (fun _ _ _=>rfl),e2⟩
def aKS(fns:T dB)(W:Nat→Prop)(h0:T AB)(base:Nat)(x:Option AV)(ld:Bool)(old:Prop)(d:Option Nat)(l:List AO)(i:Nat)(F:Fr)(S:St)(ps:List iD)(last:Option Nat)(Q:Fr→St→List iD→Prop):Prop:=jY x fun v=>(ld=true→cL v v=true∧old)∧fW fns W h0 base l i (cI d F v) S ps last Q
def aIe(fns:T dB)(W:Nat→Prop)(h0:T AB)(base:Nat)(x:Option (AV×AB))(d:Option Nat)(l:List AO)(i:Nat)(F:Fr)(S:St)(ps:List iD)(last:Option Nat)(Q:Fr→St→List iD→Prop):Prop:=jY x fun r=>fW fns W h0 base l (i+1) (cI d F r.1) S (⟨i,base+i,r.2⟩::ps) last Q
section
variable {W:Nat→Prop}{h0:T AB}{base:Nat}{d:Option Nat}{m i:Nat}{l:List AO}{F:Fr}{S:St}{ps:List iD}{last:Option Nat}{Q:Fr→St→List iD→Prop}
theorem aFQ:fW fns W h0 base [] i F S ps last Q↔Q F S ps:=Iff.rfl
theorem aHN{q:zM}:fW fns W h0 base (⟨d,.q q,none,m⟩::l) i F S ps last Q↔aKS fns W h0 base (hJ q F (bL (dE q) h0 S.h)) (dE q) (aFf W base q F) d l (i+1) F S ps last Q:=by
 rw[fW,if_pos (show eJ none F=true from rfl)];rfl
theorem yH{v:AV}{ld:Bool}{old:Prop}:aKS fns W h0 base (some v) ld old d l i F S ps last Q↔(ld=true→cL v v=true∧old)∧fW fns W h0 base l i (cI d F v) S ps last Q:=by unfold aKS;rw[eF]
theorem aL1{a:vE}:fW fns W h0 base (⟨d,.a a,none,m⟩::l) i F S ps last Q↔aIe fns W h0 base (tE a F (base+i)) d l i F S ps last Q:=by
 rw[fW,if_pos (show eJ none F=true from rfl)];rfl
theorem lN{r:AV×AB}:aIe fns W h0 base (some r) d l i F S ps last Q↔fW fns W h0 base l (i+1) (cI d F r.1) S (⟨i,base+i,r.2⟩::ps) last Q:=by unfold aIe;rw[eF]
theorem aAH{f:cK}{args:List cK}(h:lP last m=true)(hw:fP fns (f.val F) (dC args F) ⟨(cG m ps S.h).2,S.nx⟩ fun v S1=>Same ⟨(cG m ps S.h).2,S.nx⟩ S1∧fW fns W h0 base l (i+1) (cI d F v) S1 (cG m ps S.h).1 (some i) Q):fW fns W h0 base (⟨d,.x (.call f args),none,m⟩::l) i F S ps last Q:=by
 rw[fW,if_pos (show eJ none F=true from rfl)];exact⟨h,aN hw fun v S1 h=>⟨.inl h.1,h.2⟩⟩
theorem iV{f:cK}{args:List cK}(h:lP last m=true)(hw:fP fns (f.val F) (dC args F) ⟨(cG m ps S.h).2,S.nx⟩ fun v S1=>aE2 W base ⟨(cG m ps S.h).2,S.nx⟩ S1∧fW fns W h0 base l (i+1) (cI d F v) S1 (cG m ps S.h).1 (some i) Q):fW fns W h0 base (⟨d,.x (.call f args),none,m⟩::l) i F S ps last Q:=by
 rw[fW,if_pos (show eJ none F=true from rfl)];exact⟨h,aN hw fun v S1 h=>⟨.inr h.1,h.2⟩⟩
theorem aAz{n:Nat}{x v:cK}{S1:St}(h:lP last m=true)(he:aW (v.val F).cells (fun cs=>kR (x.val F) n cs ⟨(cG m ps S.h).2,S.nx⟩)=some (.undef,S1))(ho:aE2 W base ⟨(cG m ps S.h).2,S.nx⟩ S1)(hr:fW fns W h0 base l (i+1) (cI d F .undef) S1 (cG m ps S.h).1 (some i) Q):fW fns W h0 base (⟨d,.x (.st n x v),none,m⟩::l) i F S ps last Q:=by
 unfold fW;rw[if_pos (show eJ none F=true from rfl)];exact⟨h,_,S1,fun call=>he,ho,hr⟩
theorem aMp{op:AOp}{s:Nat}{b:Bool}:fW fns W h0 base (⟨d,op,some (s,b),m⟩::l) i F S ps last Q↔if isB (aD s F) b=true then fW fns W h0 base (⟨d,op,none,m⟩::l) i F S ps last Q else fW fns W h0 base l (i+1) (cI d F .undef) S ps last Q:=by
 conv=>lhs;unfold fW
 rw[show eJ (some (s,b)) F=isB (aD s F) b from rfl];split
 ·conv=>rhs;unfold fW
  rw[if_pos (show eJ none F=true from rfl)]
 ·rfl
theorem aIt{agg:Bool}{n:Nat}{x:cK}:aFf W base (.ld agg n x) F↔aI0 W base (x.val F):=by
 constructor
 ·rintro(⟨_,_,_,h,h2⟩ | ⟨_,_,_,_,_,_,h,_⟩)
  ·cases h;exact h2
  ·cases h
 ·exact fun h=>.inl ⟨_,_,_,rfl,h⟩
theorem aG2{b off:Nat}:aI0 W base (.ptr b off)↔b<base∧¬W b:=by
 constructor
 ·rintro⟨_,_,h,h2⟩;cases h;exact h2
 ·exact fun h=>⟨_,_,rfl,h⟩
end
theorem stV:type_of% (And.intro @aFQ (And.intro @aHN (And.intro @aL1 (And.intro @aMp (@aA9))))):=And.intro @aFQ (And.intro @aHN (And.intro @aL1 (And.intro @aMp (@aA9))))
theorem stW:type_of% (And.intro @yH (And.intro @lN (And.intro @aIt (And.intro @aG2 (And.intro @cA (And.intro (@An AO) (And.intro (@Bp AO) (And.intro (@An AV) (And.intro (@Bp AV) (And.intro (@An Nat) (@Bp Nat))))))))))):=And.intro @yH (And.intro @lN (And.intro @aIt (And.intro @aG2 (And.intro @cA (And.intro (@An AO) (And.intro (@Bp AO) (And.intro (@An AV) (And.intro (@Bp AV) (And.intro (@An Nat) (@Bp Nat))))))))))
theorem sU:type_of% (And.intro aA stV):=And.intro aA stV
theorem sD:type_of% (And.intro aB stW):=And.intro aB stW
theorem aJW(e:oG){a b:Int}(hb:b≠0):eX .quo e (.int .i64 a) (.int .i64 b)=some (.int .i64 (IntKind.i64.wrap (a.tdiv b))):=by
 show cP .quo .i64 a .i64 b=_;unfold cP;rw[show dP .quo=false from rfl,aR,eG,aL];show aK5 .i64 a b=_;unfold aK5;split
 ·rename_i m n;have h0:Nat.beq n 0=false:=by
   rw[Br];intro h;rw[Ax] at h;subst h;exact hb rfl
  rw[h0,aR,nat_eq];rfl
 ·have h0:ieq b (.ofNat 0)=false:=by
   rw[Br];intro h;rw[jO] at h;exact hb (by simpa using h)
  rw[h0,aR,sF]
theorem aJK(e:oG){a b:Int}(ha:0≤a)(ha2:a≤9223372036854775807)(hb:0<b):eX .quo e (.int .i64 a) (.int .i64 b)=some (.int .i64 (a / b)):=by
 rw[aJW e (by omega),Int.tdiv_eq_ediv_of_nonneg ha];rw[wrap_i64]
 ·have:=Int.ediv_nonneg ha (Int.le_of_lt hb);omega
 ·have:=Int.ediv_le_self b ha;omega
theorem aMe(a:Int):unV .neg (.int .i64 a)=some (.int .i64 (IntKind.i64.wrap (-a))):=by
 show some (AV.int .i64 (aD3 .i64 (.ofNat 0) a))=_;rw[vY];congr 3;show(0:Int) - a= -a;omega
def mx(a b:Int):Int:=if b≤a then a else b
theorem aL5(l:List cK)(F:Fr)(h:T AB):hJ (.minmax true l) F h=lJ true (dC l F):=rfl
theorem aMY(v:AV)(l:List AV):lJ true (v::l)=jF true l v:=rfl
theorem aPa(v:AV):jF true [] v=some v:=rfl
theorem aOG(a b:Int)(l:List AV):jF true (.int .i64 b::l) (.int .i64 a)=jF true l (.int .i64 (mx a b)):=by
 show bL (keq .i64 .i64) (jF true l (.int .i64 (bL true (bL (ile b a) a b) _))) none=_;rw[eG,aL,aL];congr 2;unfold mx;rw[oH];by_cases h:b≤a
 ·rw[if_pos h,Ac h];rfl
 ·rw[if_neg h,Aa h];rfl
theorem aNv(t:Nat)(x:cK)(F:Fr)(id:Nat):tE (.box t x) F id=aW (x.val F).cells fun cs=>some (.ptr id 0,.cells cs false 0):=rfl
theorem aEb(t:Nat)(cs:List AV)(F:Fr)(id:Nat):tE (.alloc t cs) F id=some (.ptr id 0,.cells cs false 0):=rfl
theorem pG(f:Nat)(first cap:List cK)(F:Fr)(h:T AB):hJ (.mkFunc f first cap) F h=some (.fn f (dC first F) (dC cap F)):=rfl
theorem mB(f:Nat)(first cap:List cK):dE (.mkFunc f first cap)=false:=rfl
theorem bK(cs:List AV):(AV.agg cs).cells=some cs:=rfl
theorem aG(i:Nat)(x:cK)(F:Fr)(h:T AB):hJ (.faddr i x) F h=yV (x.val F) i:=rfl
theorem aF(b o i:Nat):yV (.ptr b o) i=some (.ptr b (o+i)):=rfl
theorem aX(i:Nat)(x:cK):dE (.faddr i x)=false:=rfl
theorem tW(z:List AV)(ps:List (Nat×Nat×cK)):dE (.build z ps)=false:=rfl
theorem fU(a:Nat)(agg:Bool)(n:Nat)(rs:List RV)(F:Fr)(h:T AB):results (.cell a agg n::rs) F h=aW (cW (aD a F) agg n h) fun v=>aW (results rs F h) fun vs=>some (v::vs):=rfl
section
variable {h:T AB}{b:Nat}{x y z:AV}{o:Bool}{s:Nat}
theorem ld3(hb:h.get b=some (.cells [x,y,z] o s)):cW (.ptr b 0) true 3 h=some (.agg [x,y,z]):=by
 simp only[cW,oC,aL,uS,cM,hb,aJ,mD];rfl
end
theorem aID{S:St}{b n:Nat}{cs cs':List AV}{o:Bool}{s:Nat}(h:S.h.get b=some (.cells cs o s))(h1:cs.length=n)(h2:cs'.length=n):kR (.ptr b 0) n cs' S=some (.undef,⟨S.h.set b (some (.cells cs' o s)),S.nx⟩):=by
 have hp:put cs 0 cs'=some cs':=by
  rw[put_eq,if_pos (by omega)];simp [Et (show cs.length≤cs'.length by omega)]
 simp only[kR,dR,h2,pF,h,aJ,yK,hp];rw[show Nat.beq n n=true from Nat.beq_refl n];rfl
theorem dJ{d t m:Nat}{x:cK}{l:List AO}{F:Fr}{S:St}{Q:Fr→St→Prop}{cs:List AV}(hc:(x.val F).cells=some cs)(h:∀S1,Same S S1→S1.nx=S.nx+1→S1.h.get S.nx=some (.cells cs false 0)→uG fns l (cI (some d) F (.ptr S.nx 0)) S1 Q):uG fns (⟨some d,.a (.box t x),none,m⟩::l) F S Q:=by
 rw[aA9];refine⟨(.ptr S.nx 0,.cells cs false 0),by rw[aNv,hc];rfl,h _ (Same.alloc S _) rfl ?_⟩;simp only;rw[T.get_set,if_pos rfl]
theorem cR{d t m:Nat}{l:List AO}{F:Fr}{S:St}{Q:Fr→St→Prop}{cs:List AV}(h:∀S1,Same S S1→S1.nx=S.nx+1→S1.h.get S.nx=some (.cells cs false 0)→uG fns l (cI (some d) F (.ptr S.nx 0)) S1 Q):uG fns (⟨some d,.a (.alloc t cs),none,m⟩::l) F S Q:=by
 rw[aA9];refine⟨(.ptr S.nx 0,.cells cs false 0),rfl,h _ (Same.alloc S _) rfl ?_⟩;simp only;rw[T.get_set,if_pos rfl]
theorem fB{n m b s:Nat}{x v:cK}{l:List AO}{F:Fr}{S:St}{Q:Fr→St→Prop}{cs cs':List AV}{o:Bool}(hx:x.val F= .ptr b 0)(hv:(v.val F).cells=some cs')(hb:S.h.get b=some (.cells cs o s))(h1:cs.length=n)(h2:cs'.length=n)
  (h:∀S1,bH b S S1→S1.nx=S.nx→S1.h.get b=some (.cells cs' o s)→uG fns l F S1 Q):uG fns (⟨none,.x (.st n x v),none,m⟩::l) F S Q:=by
 refine eZ (v:=.undef) (fun call=>?_) (h ⟨S.h.set b (some (.cells cs' o s)),S.nx⟩ ((bH.refl b S).put _) rfl ?_)
 ·rw[dG,hv,aJ,hx];exact aID hb h1 h2
 ·simp only;rw[T.get_set,if_pos rfl]
theorem dI(W:Nat→Prop){ops:List AO}{A:bR}{S:St}{Q:Out→bR→St→Prop}(h:∀S1,Same S S1→fW fns W S.h S.nx ops 0 A.F S1 [] none fun F S' ps=>Q .normal ⟨F,A.inr⟩ ⟨(cG (2 ^ ops.length - 1) ps S'.h).2,S'.nx⟩):mA fns (.drw ops) A S Q:=aIh W (h _ (Same.nx S _))
section
variable {W:Nat→Prop}{h0:T AB}{base:Nat}{d:Option Nat}{m i:Nat}{l:List AO}{F:Fr}{S:St}{last:Option Nat}{Q:Fr→St→List iD→Prop}
theorem cN{f:cK}{args:List cK}(h:lP last m=true)(hw:fP fns (f.val F) (dC args F) S fun v S1=>Same S S1∧fW fns W h0 base l (i+1) (cI d F v) S1 [] (some i) Q):fW fns W h0 base (⟨d,.x (.call f args),none,m⟩::l) i F S [] last Q:=
 aAH h hw
end
theorem fJ(b:Bool):unV .not (.bool b)=some (.bool (!b)):=by cases b<;>rfl
theorem aOB:fA (.int .i64 0)=some 0:=rfl
end Go.Ev.Gl
