import Derived.Test.YtdkehphobhnjoaaGl1
set_option maxHeartbeats 16000000
set_option linter.unusedSimpArgs false
set_option linter.unusedVariables false
namespace Go.Ev.Gl
variable {fns:T dE}
def kV(last:Option Nat)(m:Nat):Bool:=
 match last with
 | none=>true
 | some i=>Nat.testBit m i
def aKO(W:Nat→Prop)(base:Nat)(v:AV):Prop:=∃b off,v= .ptr b off∧b<base∧¬W b
def aGT(W:Nat→Prop)(base:Nat)(q:wJ)(F:Fr):Prop:=(∃agg n x,q= .ld agg n x∧aKO W base (x.val F))∨∃sk z ok m k b,q= .lookup sk z ok m k∧m.val F= .map b∧b<base∧¬W b
def aH0(W:Nat→Prop)(base:Nat)(S S':St):Prop:=S.nx≤S'.nx∧∀b,b<base→¬W b→S'.h.get b=S.h.get b
def fQ(fns:T dE)(W:Nat→Prop)(h0:T AB)(base:Nat):List AO→Nat→Fr→St→List iV→Option Nat→(Fr→St→List iV→Prop)→Prop
 | [],_,F,S,ps,_,Q=>Q F S ps
 | ⟨d,op,g,m⟩::l,i,F,S,ps,last,Q=>
  if dS g F=true then
   match op with
   | .q q=>jD (gS q F (bL (dL q) h0 S.h)) fun v=>(dL q=true→cB v v=true∧aGT W base q F)∧fQ fns W h0 base l (i+1) (cD d F v) S ps last Q
   | .a a=>jD (vG a F (base+i)) fun r=>fQ fns W h0 base l (i+1) (cD d F r.1) S (⟨i,base+i,r.2⟩::ps) last Q
   | .x (.call f args)=>kV last m=true∧fA fns (f.val F) (cO args F) ⟨(cH m ps S.h).2,S.nx⟩ fun v S1=>(Same ⟨(cH m ps S.h).2,S.nx⟩ S1∨aH0 W base ⟨(cH m ps S.h).2,S.nx⟩ S1)∧fQ fns W h0 base l (i+1) (cD d F v) S1 (cH m ps S.h).1 (some i) Q
   | .x (.inv tbl r args)=>kV last m=true∧∃t f u,r.val F= .iface t u∧tX t tbl=some (f,none)∧fA fns (.fn f [u] []) (cO args F) ⟨(cH m ps S.h).2,S.nx⟩ fun v S1=>Same ⟨(cH m ps S.h).2,S.nx⟩ S1∧fQ fns W h0 base l (i+1) (cD d F v) S1 (cH m ps S.h).1 (some i) Q
   | .x x=>kV last m=true∧∃v S1,(∀call,evX x call F ⟨(cH m ps S.h).2,S.nx⟩=some (v,S1))∧aH0 W base ⟨(cH m ps S.h).2,S.nx⟩ S1∧fQ fns W h0 base l (i+1) (cD d F v) S1 (cH m ps S.h).1 (some i) Q
  else fQ fns W h0 base l (i+1) (cD d F .undef) S ps last Q
structure DOk(W:Nat→Prop)(h0:T AB)(base:Nat)(D:DS):Prop where
 cur:∀b,b<base→¬W b→D.S.h.get b=h0.get b
 nx:base≤D.S.nx
 chain:∀e∈D.hs,∀b,b<base→¬W b→e.2.2.get b=h0.get b
 lds:∀l∈D.ls,cB l.v l.v=true∧aGT W base l.q l.F∧gS l.q l.F h0=some l.v
 pend:∀p∈D.ps,base≤p.id
theorem aGT.ev{W:Nat→Prop}{base:Nat}{q:wJ}{F:Fr}(h:aGT W base q F){h0 h1:T AB}(hh:∀b,b<base→¬W b→h1.get b=h0.get b):gS q F h1=gS q F h0:=by
 rcases h with⟨agg,n,x,rfl,b,off,hx,hb,hw⟩ | ⟨sk,z,ok,m,k,b,rfl,hx,hb,hw⟩
 ·rw[kI,kI,hx];have e:cS h1 b=cS h0 b:=by unfold cS;rw[hh b hb hw]
  simp only[dT,lG,tC,jW,e]
 ·show(aZ (oN h1 (m.val F)) fun es=>_)=aZ (oN h0 (m.val F)) fun es=>_;rw[hx];show(aZ (aZ (h1.get b) qM) fun es=>_)=aZ (aZ (h0.get b) qM) fun es=>_;rw[hh b hb hw]
theorem yS{base b:Nat}(hb:b<base){m:Nat}:∀ {ps:List iV} {h:T AB},(∀p∈ps,base≤p.id)→(cH m ps h).2.get b=h.get b
 | [],h,_=>rfl
 | p::ps,h,hp=>by
  have h1:=hp p (by simp);have h2:∀q∈ps,base≤q.id:=fun q hq=>hp q (by simp [hq]);unfold cH;cases Nat.testBit m p.i with
  | true=>rw[aQ,yS hb h2,T.get_set,if_neg (by omega)]
  | false=>rw[aV];exact yS hb h2
theorem yP{base:Nat}{m:Nat}:∀ {ps:List iV} {h:T AB},(∀p∈ps,base≤p.id)→∀p∈(cH m ps h).1,base≤p.id
 | [],h,_,p,hp=>by cases hp
 | p::ps,h,hq,r,hr=>by
  have h2:∀q∈ps,base≤q.id:=fun q hx=>hq q (by simp [hx]);unfold cH at hr;cases ht:Nat.testBit m p.i with
  | true=>rw[ht,aQ] at hr;exact yP h2 r hr
  | false=>
   rw[ht,aV] at hr;rcases Bg.1 hr with rfl | hr
   ·exact hq r (by simp)
   ·exact yP h2 r hr
theorem aDi{W:Nat→Prop}{h0:T AB}{base:Nat}{l:kL}(h:cB l.v l.v=true∧aGT W base l.q l.F∧gS l.q l.F h0=some l.v):∀ {hs:List (Nat×Nat×T AB)} {h1:T AB},(∀e∈hs,∀b,b<base→¬W b→e.2.2.get b=h0.get b)→(∀b,b<base→¬W b→h1.get b=h0.get b)→eY l hs h1=true
 | [],h1,_,hh=>by
  show oK l.v (gS l.q l.F h1)=true;rw[h.2.1.ev hh,h.2.2];exact h.1
 | (i,m,h')::r,h1,hs,hh=>by
  have e1:oK l.v (gS l.q l.F h1)=true:=by rw[h.2.1.ev hh,h.2.2];exact h.1
  have e2:eY l r h'=true:=aDi h (fun e he=>hs e (by simp [he])) (hs (i,m,h') (by simp));unfold eY;rw[e1,e2];cases Nat.testBit l.mask i<;>cases Nat.testBit m l.i<;>rfl
theorem nH{h0:T AB}{hs:List (Nat×Nat×T AB)}:∀ {ls:List kL},(∀l∈ls,eY l hs h0=true)→gI h0 hs ls=true
 | [],_=>rfl
 | l::ls,h=>by rw[lC,h l (by simp),aQ];exact nH fun l' hl=>h l' (by simp [hl])
theorem aK7{d:Option Nat}{tbl:List (Nat×Nat×Option (Bool×Nat))}{recv:cJ}{args:List cJ}{m i base:Nat}{l:List AO}{D:DS}{Q:DS→Prop}{t f:Nat}{u:AV}(hr:recv.val D.F= .iface t u)(hf:tX t tbl=some (f,none))(h:yO fns (⟨d,.x (.call (.c (.fn f [u] [])) args),none,m⟩::l) i base D Q):yO fns (⟨d,.x (.inv tbl recv args),none,m⟩::l) i base D Q:=by
 obtain⟨n,D',e1,e2⟩:=h;refine⟨n,D',?_,e2⟩;have e:sJ ⟨d,.x (.inv tbl recv args),none,m⟩ i base (ev fns n).call D=sJ ⟨d,.x (.call (.c (.fn f [u] [])) args),none,m⟩ i base (ev fns n).call D:=by
  show bL (lJ D.hs m) (aZ (evX (.inv tbl recv args) (ev fns n).call D.F ⟨(cH m D.ps D.S.h).2,D.S.nx⟩) _) none=bL (lJ D.hs m) (aZ (evX (.call (.c (.fn f [u] [])) args) (ev fns n).call D.F ⟨(cH m D.ps D.S.h).2,D.S.nx⟩) _) none;rw[aKL hr hf]
 show aZ (sJ ⟨d,.x (.inv tbl recv args),none,m⟩ i base (ev fns n).call D) _=_;rw[e];exact e1
theorem mB{W:Nat→Prop}{h0:T AB}{base:Nat}{Q:Fr→St→List iV→Prop}:∀ {ops:List AO} {i:Nat} {D:DS} {last:Option Nat},DOk W h0 base D→D.hs.head?.map (·.1)=last→fQ fns W h0 base ops i D.F D.S D.ps last Q→
  yO fns ops i base D fun D'=>Q D'.F D'.S D'.ps∧DOk W h0 base D'
 | [],i,D,last,hD,_,hr=>by rw[oO];exact⟨hr,hD⟩
 | ⟨d,op,g,m⟩::l,i,D,last,hD,hlast,hr=>by
  have hlk:kV last m=true→lJ D.hs m=true:=fun h=>by
   subst hlast;cases hh:D.hs with
   | nil=>rfl
   | cons e r=>rw[hh] at h;exact h
  unfold fQ at hr;by_cases hw:dS g D.F=true
  ·rw[if_pos hw] at hr;have lift:yO fns (⟨d,op,none,m⟩::l) i base D (fun D'=>Q D'.F D'.S D'.ps∧DOk W h0 base D')→yO fns (⟨d,op,g,m⟩::l) i base D (fun D'=>Q D'.F D'.S D'.ps∧DOk W h0 base D'):=by
    rintro⟨n,D',e1,e2⟩;refine⟨n,D',?_,e2⟩;have:sJ ⟨d,op,g,m⟩ i base (ev fns n).call D=sJ ⟨d,op,none,m⟩ i base (ev fns n).call D:=by
     show bL (dS g D.F) _ _=bL true _ _;rw[hw];cases op<;>rfl
    show aZ (sJ ⟨d,op,g,m⟩ i base (ev fns n).call D) _=_;rw[this];exact e1
   apply lift;cases op with
   | q q=>
    obtain⟨v,hv,hs,hr⟩:=hr;rw[mF];cases hq:dL q with
    | false=>
     rw[hq,aV] at hv;refine⟨v,hv,?_⟩;simp only[aV];exact mB (D:=⟨cD d D.F v,D.S,D.ps,D.hs,D.ls⟩) ⟨hD.cur,hD.nx,hD.chain,hD.lds,hD.pend⟩ hlast hr
    | true=>
     rw[hq,aQ] at hv;obtain⟨hs1,hs2⟩:=hs hq;refine⟨v,by rw[hs2.ev hD.cur];exact hv,?_⟩;simp only[aQ];refine mB (D:=⟨cD d D.F v,D.S,D.ps,D.hs,⟨q,D.F,v,i,m⟩::D.ls⟩) ⟨hD.cur,hD.nx,hD.chain,fun l' hl=>?_,hD.pend⟩ hlast hr;rcases Bg.1 hl with rfl | hl
     ·exact⟨hs1,hs2,hv⟩
     ·exact hD.lds l' hl
   | a a=>
    obtain⟨r,hv,hr⟩:=hr;rw[aG4];refine⟨r,hv,mB (D:=⟨cD d D.F r.1,D.S,⟨i,base+i,r.2⟩::D.ps,D.hs,D.ls⟩) ⟨hD.cur,hD.nx,hD.chain,hD.lds,fun p hp=>?_⟩ hlast hr⟩;rcases Bg.1 hp with rfl | hp
    ·exact Cd _ _
    ·exact hD.pend p hp
   | x x=>
    have next:∀ (v:AV) (S1:St),aH0 W base ⟨(cH m D.ps D.S.h).2,D.S.nx⟩ S1→DOk W h0 base ⟨cD d D.F v,S1,(cH m D.ps D.S.h).1,(i,m,S1.h)::D.hs,D.ls⟩:=fun v S1 hS=>by
     have hc:∀b,b<base→¬W b→S1.h.get b=h0.get b:=fun b hb hw=>by
      rw[hS.2 b hb hw];show(cH m D.ps D.S.h).2.get b=_;rw[yS hb hD.pend];exact hD.cur b hb hw
     refine⟨hc,Ay hD.nx hS.1,fun e he=>?_,hD.lds,yP hD.pend⟩;rcases Bg.1 he with rfl | he
     ·exact hc
     ·exact hD.chain e he
    have other:(∀f args,x≠ .call f args)→(∀tbl r args,x≠ .inv tbl r args)→(kV last m=true∧∃v S1,(∀call,evX x call D.F ⟨(cH m D.ps D.S.h).2,D.S.nx⟩=some (v,S1))∧aH0 W base ⟨(cH m D.ps D.S.h).2,D.S.nx⟩ S1∧fQ fns W h0 base l (i+1) (cD d D.F v) S1 (cH m D.ps D.S.h).1 (some i) Q)→yO fns (⟨d,.x x,none,m⟩::l) i base D (fun D'=>Q D'.F D'.S D'.ps∧DOk W h0 base D'):=by
     rintro _ _ ⟨h1,v,S1,h2,h3,h4⟩;exact aC7 (hlk h1) h2 (mB (D:=⟨cD d D.F v,S1,(cH m D.ps D.S.h).1,(i,m,S1.h)::D.hs,D.ls⟩) (next v S1 h3) rfl h4)
    cases x with
    | call f args=>
     obtain⟨h1,n,v,S1,h2,h3,h4⟩:=hr;refine xJ (hlk h1) ⟨n,v,S1,h2,?_⟩;exact mB (D:=⟨cD d D.F v,S1,(cH m D.ps D.S.h).1,(i,m,S1.h)::D.hs,D.ls⟩) (next v S1 (h3.elim (fun h3=>⟨h3.1,fun b hb _=>h3.2 b (Ae hb hD.nx)⟩) id)) rfl h4
    | inv tbl r args=>
     obtain⟨h1,t,f,u,hu,hf,n,v,S1,h2,h3,h4⟩:=hr;refine aK7 hu hf (xJ (hlk h1) ⟨n,v,S1,h2,?_⟩);exact mB (D:=⟨cD d D.F v,S1,(cH m D.ps D.S.h).1,(i,m,S1.h)::D.hs,D.ls⟩) (next v S1 ⟨h3.1,fun b hb _=>h3.2 b (Ae hb hD.nx)⟩) rfl h4
    | _=>exact other (fun _ _ h=>by cases h) (fun _ _ _ h=>by cases h) hr
  ·rw[if_neg hw] at hr;obtain⟨n,D',e1,e2⟩:=mB (i:=i+1) (D:=⟨cD d D.F .undef,D.S,D.ps,D.hs,D.ls⟩) (last:=last) ⟨hD.cur,hD.nx,hD.chain,hD.lds,hD.pend⟩ hlast hr;refine⟨n,D',?_,e2⟩;have:sJ ⟨d,op,g,m⟩ i base (ev fns n).call D=some ⟨cD d D.F .undef,D.S,D.ps,D.hs,D.ls⟩:=by
    show bL (dS g D.F) _ _=_;rw[show dS g D.F=false by simpa using hw];rfl
   show aZ (sJ ⟨d,op,g,m⟩ i base (ev fns n).call D) _=_;rw[this];exact e1
theorem qS(W:Nat→Prop){ops:List AO}{A:bH}{S:St}{Q:Out→bH→St→Prop}(h:fQ fns W S.h S.nx ops 0 A.F ⟨S.h,S.nx+ops.length⟩ [] none fun F S' ps=>Q .normal ⟨F,A.inr⟩ ⟨(cH (2 ^ ops.length - 1) ps S'.h).2,S'.nx⟩):mA fns (.drw ops) A S Q:=by
 refine qX ?_;obtain⟨n,D',e1,e2,e3⟩:=mB (fns:=fns) (i:=0) (D:=⟨A.F,⟨S.h,S.nx+ops.length⟩,[],[],[]⟩) (last:=none) ⟨fun _ _ _=>rfl,Cd _ _,fun e he=>(by cases he),fun l hl=>(by cases hl),fun p hp=>(by cases hp)⟩ rfl h;exact⟨n,D',e1,nH fun l hl=>aDi (e3.lds l hl) (fun e he=>e3.chain e (List.mem_reverse.1 he)) (fun _ _ _=>rfl),e2⟩
def aJy(fns:T dE)(W:Nat→Prop)(h0:T AB)(base:Nat)(x:Option AV)(ld:Bool)(old:Prop)(d:Option Nat)(l:List AO)(i:Nat)(F:Fr)(S:St)(ps:List iV)(last:Option Nat)(Q:Fr→St→List iV→Prop):Prop:=jD x fun v=>(ld=true→cB v v=true∧old)∧fQ fns W h0 base l i (cD d F v) S ps last Q
def aFE(fns:T dE)(W:Nat→Prop)(h0:T AB)(base:Nat)(x:Option (AV×AB))(d:Option Nat)(l:List AO)(i:Nat)(F:Fr)(S:St)(ps:List iV)(last:Option Nat)(Q:Fr→St→List iV→Prop):Prop:=jD x fun r=>fQ fns W h0 base l (i+1) (cD d F r.1) S (⟨i,base+i,r.2⟩::ps) last Q
section
variable {W:Nat→Prop}{h0:T AB}{base:Nat}{d:Option Nat}{m i:Nat}{l:List AO}{F:Fr}{S:St}{ps:List iV}{last:Option Nat}{Q:Fr→St→List iV→Prop}
theorem aFj:fQ fns W h0 base [] i F S ps last Q↔Q F S ps:=Iff.rfl
theorem aJV{q:wJ}:fQ fns W h0 base (⟨d,.q q,none,m⟩::l) i F S ps last Q↔aJy fns W h0 base (gS q F (bL (dL q) h0 S.h)) (dL q) (aGT W base q F) d l (i+1) F S ps last Q:=by
 rw[fQ,if_pos (show dS none F=true from rfl)];rfl
theorem aCr{v:AV}{ld:Bool}{old:Prop}:aJy fns W h0 base (some v) ld old d l i F S ps last Q↔(ld=true→cB v v=true∧old)∧fQ fns W h0 base l i (cD d F v) S ps last Q:=by unfold aJy;rw[eO]
theorem aKs{a:uD}:fQ fns W h0 base (⟨d,.a a,none,m⟩::l) i F S ps last Q↔aFE fns W h0 base (vG a F (base+i)) d l i F S ps last Q:=by
 rw[fQ,if_pos (show dS none F=true from rfl)];rfl
theorem nE{r:AV×AB}:aFE fns W h0 base (some r) d l i F S ps last Q↔fQ fns W h0 base l (i+1) (cD d F r.1) S (⟨i,base+i,r.2⟩::ps) last Q:=by unfold aFE;rw[eO]
theorem aC3{f:cJ}{args:List cJ}(h:kV last m=true)(hw:fA fns (f.val F) (cO args F) ⟨(cH m ps S.h).2,S.nx⟩ fun v S1=>Same ⟨(cH m ps S.h).2,S.nx⟩ S1∧fQ fns W h0 base l (i+1) (cD d F v) S1 (cH m ps S.h).1 (some i) Q):fQ fns W h0 base (⟨d,.x (.call f args),none,m⟩::l) i F S ps last Q:=by
 rw[fQ,if_pos (show dS none F=true from rfl)];exact⟨h,aP hw fun v S1 h=>⟨.inl h.1,h.2⟩⟩
theorem xK{n:Nat}{x v:cJ}{S1:St}(h:kV last m=true)(he:aZ (v.val F).cells (fun cs=>lK (x.val F) n cs ⟨(cH m ps S.h).2,S.nx⟩)=some (.undef,S1))(ho:aH0 W base ⟨(cH m ps S.h).2,S.nx⟩ S1)(hr:fQ fns W h0 base l (i+1) (cD d F .undef) S1 (cH m ps S.h).1 (some i) Q):fQ fns W h0 base (⟨d,.x (.st n x v),none,m⟩::l) i F S ps last Q:=by
 unfold fQ;rw[if_pos (show dS none F=true from rfl)];exact⟨h,_,S1,fun call=>he,ho,hr⟩
theorem aJR{op:AOp}{s:Nat}{b:Bool}:fQ fns W h0 base (⟨d,op,some (s,b),m⟩::l) i F S ps last Q↔if isB (aD s F) b=true then fQ fns W h0 base (⟨d,op,none,m⟩::l) i F S ps last Q else fQ fns W h0 base l (i+1) (cD d F .undef) S ps last Q:=by
 conv=>lhs;unfold fQ
 rw[show dS (some (s,b)) F=isB (aD s F) b from rfl];split
 ·conv=>rhs;unfold fQ
  rw[if_pos (show dS none F=true from rfl)]
 ·rfl
theorem aHg{agg:Bool}{n:Nat}{x:cJ}:aGT W base (.ld agg n x) F↔aKO W base (x.val F):=by
 constructor
 ·rintro(⟨_,_,_,h,h2⟩ | ⟨_,_,_,_,_,_,h,_⟩)
  ·cases h;exact h2
  ·cases h
 ·exact fun h=>.inl ⟨_,_,_,rfl,h⟩
theorem aEF{b off:Nat}:aKO W base (.ptr b off)↔b<base∧¬W b:=by
 constructor
 ·rintro⟨_,_,h,h2⟩;cases h;exact h2
 ·exact fun h=>⟨_,_,rfl,h⟩
end
theorem stV:type_of% (And.intro @aFj (And.intro @aJV (And.intro @aKs (And.intro @aJR (@zW))))):=And.intro @aFj (And.intro @aJV (And.intro @aKs (And.intro @aJR (@zW))))
theorem stW:type_of% (And.intro @aCr (And.intro @nE (And.intro @aHg (And.intro @aEF (And.intro @cK (And.intro (@Au AO) (And.intro (@Bu AO) (And.intro (@Au AV) (And.intro (@Bu AV) (And.intro (@Au Nat) (@Bu Nat))))))))))):=And.intro @aCr (And.intro @nE (And.intro @aHg (And.intro @aEF (And.intro @cK (And.intro (@Au AO) (And.intro (@Bu AO) (And.intro (@Au AV) (And.intro (@Bu AV) (And.intro (@Au Nat) (@Bu Nat))))))))))
theorem sU:type_of% (And.intro aC stV):=And.intro aC stV
theorem sD:type_of% (And.intro aB stW):=And.intro aB stW
theorem aIT(e:nZ){a b:Int}(hb:b≠0):gO .quo e (.int .i64 a) (.int .i64 b)=some (.int .i64 (IntKind.i64.wrap (a.tdiv b))):=by
 show dD .quo .i64 a .i64 b=_;unfold dD;rw[show eI .quo=false from rfl,aV,eH,aQ];show aJA .i64 a b=_;unfold aJA;split
 ·rename_i m n;have h0:Nat.beq n 0=false:=by
   rw[Dh];intro h;rw[Bd] at h;subst h;exact hb rfl
  rw[h0,aV,nat_eq];rfl
 ·have h0:ieq b (.ofNat 0)=false:=by
   rw[Dh];intro h;rw[iK] at h;exact hb (by simpa using h)
  rw[h0,aV,pT]
theorem aH4(e:nZ){a b:Int}(ha:0≤a)(ha2:a≤9223372036854775807)(hb:0<b):gO .quo e (.int .i64 a) (.int .i64 b)=some (.int .i64 (a / b)):=by
 rw[aIT e (by omega),Int.tdiv_eq_ediv_of_nonneg ha];rw[wrap_i64]
 ·have:=Int.ediv_nonneg ha (Int.le_of_lt hb);omega
 ·have:=Int.ediv_le_self b ha;omega
def mx(a b:Int):Int:=if b≤a then a else b
theorem aJ0(l:List cJ)(F:Fr)(h:T AB):gS (.minmax true l) F h=kB true (cO l F):=rfl
theorem aK3(v:AV)(l:List AV):kB true (v::l)=iO true l v:=rfl
theorem aME(v:AV):iO true [] v=some v:=rfl
theorem aMO(a b:Int)(l:List AV):iO true (.int .i64 b::l) (.int .i64 a)=iO true l (.int .i64 (mx a b)):=by
 show bL (keq .i64 .i64) (iO true l (.int .i64 (bL true (bL (ile b a) a b) _))) none=_;rw[eH,aQ,aQ];congr 2;unfold mx;rw[mH];by_cases h:b≤a
 ·rw[if_pos h,Ab h];rfl
 ·rw[if_neg h,Aa h];rfl
theorem aHD(t:Nat)(x:cJ)(F:Fr)(id:Nat):vG (.box t x) F id=aZ (x.val F).cells fun cs=>some (.ptr id 0,.cells cs false 0):=rfl
theorem uW(t:Nat)(cs:List AV)(F:Fr)(id:Nat):vG (.alloc t cs) F id=some (.ptr id 0,.cells cs false 0):=rfl
theorem aFO(f:Nat)(first cap:List cJ)(F:Fr)(h:T AB):gS (.mkFunc f first cap) F h=some (.fn f (cO first F) (cO cap F)):=rfl
theorem bJ(cs:List AV):(AV.agg cs).cells=some cs:=rfl
theorem aH(i:Nat)(x:cJ)(F:Fr)(h:T AB):gS (.faddr i x) F h=wF (x.val F) i:=rfl
theorem aG(b o i:Nat):wF (.ptr b o) i=some (.ptr b (o+i)):=rfl
theorem aX(i:Nat)(x:cJ):dL (.faddr i x)=false:=rfl
theorem mR(z:List AV)(ps:List (Nat×Nat×cJ)):dL (.build z ps)=false:=rfl
theorem iD(a:Nat)(agg:Bool)(n:Nat)(rs:List RV)(F:Fr)(h:T AB):results (.cell a agg n::rs) F h=aZ (dT (aD a F) agg n h) fun v=>aZ (results rs F h) fun vs=>some (v::vs):=rfl
section
variable {h:T AB}{b:Nat}{x y z:AV}{o:Bool}{s:Nat}
theorem jC(hb:h.get b=some (.cells [x,y,z] o s)):dT (.ptr b (0+0)) false 1 h=some x:=by
 simp only[dT,lG,aV,jW,cS,hb,aT,jS,kM];rfl
theorem aHz(hb:h.get b=some (.cells [x,y,z] o s)):dT (.ptr b (0+1)) false 1 h=some y:=by
 simp only[dT,lG,aV,jW,cS,hb,aT,jS,kM];rfl
theorem iW(hb:h.get b=some (.cells [x,y,z] o s)):dT (.ptr b (0+2)) false 1 h=some z:=by
 simp only[dT,lG,aV,jW,cS,hb,aT,jS,kM];rfl
theorem ld3(hb:h.get b=some (.cells [x,y,z] o s)):dT (.ptr b 0) true 3 h=some (.agg [x,y,z]):=by
 simp only[dT,lG,aQ,tC,cS,hb,aT,jS];rfl
end
theorem aA2{S:St}{b n:Nat}{cs cs':List AV}{o:Bool}{s:Nat}(h:S.h.get b=some (.cells cs o s))(h1:cs.length=n)(h2:cs'.length=n):lK (.ptr b 0) n cs' S=some (.undef,⟨S.h.set b (some (.cells cs' o s)),S.nx⟩):=by
 have hp:put cs 0 cs'=some cs':=by
  rw[put_eq,if_pos (by omega)];simp [Cc (show cs.length≤cs'.length by omega)]
 simp only[lK,dV,h2,pD,h,aT,wL,hp];rw[show Nat.beq n n=true from Nat.beq_refl n];rfl
theorem dG{d t m:Nat}{x:cJ}{l:List AO}{F:Fr}{S:St}{Q:Fr→St→Prop}{cs:List AV}(hc:(x.val F).cells=some cs)(h:∀S1,Same S S1→S1.nx=S.nx+1→S1.h.get S.nx=some (.cells cs false 0)→qL fns l (cD (some d) F (.ptr S.nx 0)) S1 Q):qL fns (⟨some d,.a (.box t x),none,m⟩::l) F S Q:=by
 rw[zW];refine⟨(.ptr S.nx 0,.cells cs false 0),by rw[aHD,hc];rfl,h _ (Same.alloc S _) rfl ?_⟩;simp only;rw[T.get_set,if_pos rfl]
theorem dO{d t m:Nat}{l:List AO}{F:Fr}{S:St}{Q:Fr→St→Prop}{cs:List AV}(h:∀S1,Same S S1→S1.nx=S.nx+1→S1.h.get S.nx=some (.cells cs false 0)→qL fns l (cD (some d) F (.ptr S.nx 0)) S1 Q):qL fns (⟨some d,.a (.alloc t cs),none,m⟩::l) F S Q:=by
 rw[zW];refine⟨(.ptr S.nx 0,.cells cs false 0),rfl,h _ (Same.alloc S _) rfl ?_⟩;simp only;rw[T.get_set,if_pos rfl]
theorem fI{n m b s:Nat}{x v:cJ}{l:List AO}{F:Fr}{S:St}{Q:Fr→St→Prop}{cs cs':List AV}{o:Bool}(hx:x.val F= .ptr b 0)(hv:(v.val F).cells=some cs')(hb:S.h.get b=some (.cells cs o s))(h1:cs.length=n)(h2:cs'.length=n)
  (h:∀S1,bQ b S S1→S1.nx=S.nx→S1.h.get b=some (.cells cs' o s)→qL fns l F S1 Q):qL fns (⟨none,.x (.st n x v),none,m⟩::l) F S Q:=by
 refine fD (v:=.undef) (fun call=>?_) (h ⟨S.h.set b (some (.cells cs' o s)),S.nx⟩ ((bQ.refl b S).put _) rfl ?_)
 ·rw[eJ,hv,aT,hx];exact aA2 hb h1 h2
 ·simp only;rw[T.get_set,if_pos rfl]
theorem cR(W:Nat→Prop){ops:List AO}{A:bH}{S:St}{Q:Out→bH→St→Prop}(h:∀S1,Same S S1→fQ fns W S.h S.nx ops 0 A.F S1 [] none fun F S' ps=>Q .normal ⟨F,A.inr⟩ ⟨(cH (2 ^ ops.length - 1) ps S'.h).2,S'.nx⟩):mA fns (.drw ops) A S Q:=qS W (h _ (Same.nx S _))
section
variable {W:Nat→Prop}{h0:T AB}{base:Nat}{d:Option Nat}{m i:Nat}{l:List AO}{F:Fr}{S:St}{last:Option Nat}{Q:Fr→St→List iV→Prop}
theorem bX{f:cJ}{args:List cJ}(h:kV last m=true)(hw:fA fns (f.val F) (cO args F) S fun v S1=>Same S S1∧fQ fns W h0 base l (i+1) (cD d F v) S1 [] (some i) Q):fQ fns W h0 base (⟨d,.x (.call f args),none,m⟩::l) i F S [] last Q:=
 aC3 h hw
end
theorem dH(b:Bool):unV .not (.bool b)=some (.bool (!b)):=by cases b<;>rfl
theorem aIR:eR (.int .i64 0)=some 0:=rfl
end Go.Ev.Gl
