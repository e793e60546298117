import Derived.Test.YtdkehphobhnjoaaGl1
set_option maxHeartbeats 0
set_option linter.unusedSimpArgs false
set_option linter.unusedVariables false
namespace Go.Ev.Gl
variable {fns:T dU}
def mB(last:Option Nat)(m:Nat):Bool:=
 match last with
 | none=>true
 | some i=>Nat.testBit m i
def aNT(W:Nat->Prop)(base:Nat)(v:AV):Prop:=∃b off,v= .ptr b off/\b<base/\¬W b
def aF4(W:Nat->Prop)(base:Nat)(q:zH)(F:Fr):Prop:=(∃agg n x,q= .ld agg n x/\aNT W base (x.val F))\/∃sk z ok m k b,q= .lookup sk z ok m k/\m.val F= .map b/\b<base/\¬W b
def aGG(W:Nat->Prop)(base:Nat)(S S':St):Prop:=S.nx<=S'.nx/\∀b,b<base->¬W b->S'.h.get b=S.h.get b
def gN(fns:T dU)(W:Nat->Prop)(h0:T AB)(base:Nat):List AO->Nat->Fr->St->List iH->Option Nat->(Fr->St->List iH->Prop)->Prop
 | [],_,F,S,ps,_,Q=>Q F S ps
 | ⟨d,op,g,m⟩::l,i,F,S,ps,last,Q=>
  if eT g F=true then
   match op with
   | .q q=>lM (gT q F (cB (dR q) h0 S.h)) fun v=>(dR q=true->cT v v=true/\aF4 W base q F)/\gN fns W h0 base l (i+1) (cR d F v) S ps last Q
   | .a a=>lM (sH a F (base+i)) fun r=>gN fns W h0 base l (i+1) (cR d F r.1) S (⟨i,base+i,r.2⟩::ps) last Q
   | .x (.call f args)=>mB last m=true/\gH fns (f.val F) (dG args F) ⟨(cO m ps S.h).2,S.nx⟩ fun v S1=>(Same ⟨(cO m ps S.h).2,S.nx⟩ S1\/aGG W base ⟨(cO m ps S.h).2,S.nx⟩ S1)/\gN fns W h0 base l (i+1) (cR d F v) S1 (cO m ps S.h).1 (some i) Q
   | .x (.inv tbl r args)=>mB last m=true/\∃t f u,r.val F= .iface t u/\aD0 t tbl=some (f,none)/\gH fns (.fn f [u] []) (dG args F) ⟨(cO m ps S.h).2,S.nx⟩ fun v S1=>Same ⟨(cO m ps S.h).2,S.nx⟩ S1/\gN fns W h0 base l (i+1) (cR d F v) S1 (cO m ps S.h).1 (some i) Q
   | .x x=>mB last m=true/\∃v S1,(∀call,evX x call F ⟨(cO m ps S.h).2,S.nx⟩=some (v,S1))/\aGG W base ⟨(cO m ps S.h).2,S.nx⟩ S1/\gN fns W h0 base l (i+1) (cR d F v) S1 (cO m ps S.h).1 (some i) Q
  else gN fns W h0 base l (i+1) (cR d F .undef) S ps last Q
structure DOk(W:Nat->Prop)(h0:T AB)(base:Nat)(D:DS):Prop where
 cur:∀b,b<base->¬W b->D.S.h.get b=h0.get b
 nx:base<=D.S.nx
 chain:∀e∈D.hs,∀b,b<base->¬W b->e.2.2.get b=h0.get b
 lds:∀l∈D.ls,cT l.v l.v=true/\aF4 W base l.q l.F/\gT l.q l.F h0=some l.v
 pend:∀p∈D.ps,base<=p.id
theorem aF4.ev{W:Nat->Prop}{base:Nat}{q:zH}{F:Fr}(h:aF4 W base q F){h0 h1:T AB}(hh:∀b,b<base->¬W b->h1.get b=h0.get b):gT q F h1=gT q F h0:=by
 rcases h with⟨agg,n,x,rfl,b,off,hx,hb,hw⟩ | ⟨sk,z,ok,m,k,b,rfl,hx,hb,hw⟩
 ·rw[mE,mE,hx];have e:cJ h1 b=cJ h0 b:=by unfold cJ;rw[hh b hb hw]
  simp only[eQ,nP,uY,mM,e]
 ·show(bH (vC h1 (m.val F)) fun es=>_)=bH (vC h0 (m.val F)) fun es=>_;rw[hx];show(bH (bH (h1.get b) tT) fun es=>_)=bH (bH (h0.get b) tT) fun es=>_;rw[hh b hb hw]
theorem aBd{base b:Nat}(hb:b<base){m:Nat}:∀ {ps:List iH} {h:T AB},(∀p∈ps,base<=p.id)->(cO m ps h).2.get b=h.get b
 | [],h,_=>rfl
 | p::ps,h,hp=>by
  have h1:=hp p (by simp);have h2:∀q∈ps,base<=q.id:=fun q hq=>hp q (by simp [hq]);unfold cO;cases Nat.testBit m p.i with
  | true=>rw[aO,aBd hb h2,dd,if_neg ay]
  | false=>rw[aT];exact aBd hb h2
theorem aA8{base:Nat}{m:Nat}:∀ {ps:List iH} {h:T AB},(∀p∈ps,base<=p.id)->∀p∈(cO m ps h).1,base<=p.id
 | [],h,_,p,hp=>by cases hp
 | p::ps,h,hq,r,hr=>by
  have h2:∀q∈ps,base<=q.id:=fun q hx=>hq q (by simp [hx]);unfold cO at hr;cases ht:Nat.testBit m p.i with
  | true=>rw[ht,aO] at hr;exact aA8 h2 r hr
  | false=>
   rw[ht,aT] at hr;rcases Bm.1 hr with rfl | hr
   ·exact hq r (by simp)
   ·exact aA8 h2 r hr
theorem aE7{W:Nat->Prop}{h0:T AB}{base:Nat}{l:jT}(h:cT l.v l.v=true/\aF4 W base l.q l.F/\gT l.q l.F h0=some l.v):∀ {hs:List (Nat×Nat×T AB)} {h1:T AB},(∀e∈hs,∀b,b<base->¬W b->e.2.2.get b=h0.get b)->(∀b,b<base->¬W b->h1.get b=h0.get b)->dY l hs h1=true
 | [],h1,_,hh=>by
  show mP l.v (gT l.q l.F h1)=true;rw[h.2.1.ev hh,h.2.2];exact h.1
 | (i,m,h')::r,h1,hs,hh=>by
  have e1:mP l.v (gT l.q l.F h1)=true:=by rw[h.2.1.ev hh,h.2.2];exact h.1
  have e2:dY l r h'=true:=aE7 h (fun e he=>hs e (by simp [he])) (hs (i,m,h') (by simp));unfold dY;rw[e1,e2];cases Nat.testBit l.mask i<;>cases Nat.testBit m l.i<;>rfl
theorem lG{h0:T AB}{hs:List (Nat×Nat×T AB)}:∀ {ls:List jT},(∀l∈ls,dY l hs h0=true)->gK h0 hs ls=true
 | [],_=>rfl
 | l::ls,h=>by rw[nQ,h l (by simp),aO];exact lG fun l' hl=>h l' (by simp [hl])
theorem aOg{d:Option Nat}{tbl:List (Nat×Nat×Option (Bool×Nat))}{recv:cU}{args:List cU}{m i base:Nat}{l:List AO}{D:DS}{Q:DS->Prop}{t f:Nat}{u:AV}(hr:recv.val D.F= .iface t u)(hf:aD0 t tbl=some (f,none))(h:vW fns (⟨d,.x (.call (.c (.fn f [u] [])) args),none,m⟩::l) i base D Q):vW fns (⟨d,.x (.inv tbl recv args),none,m⟩::l) i base D Q:=by
 have⟨n,D',e1,e2⟩:=h;refine⟨n,D',?_,e2⟩;have e:pV ⟨d,.x (.inv tbl recv args),none,m⟩ i base (ev fns n).call D=pV ⟨d,.x (.call (.c (.fn f [u] [])) args),none,m⟩ i base (ev fns n).call D:=by
  show cB (jL D.hs m) (bH (evX (.inv tbl recv args) (ev fns n).call D.F ⟨(cO m D.ps D.S.h).2,D.S.nx⟩) _) none=cB (jL D.hs m) (bH (evX (.call (.c (.fn f [u] [])) args) (ev fns n).call D.F ⟨(cO m D.ps D.S.h).2,D.S.nx⟩) _) none;rw[aNR hr hf]
 show bH (pV ⟨d,.x (.inv tbl recv args),none,m⟩ i base (ev fns n).call D) _=_;rw[e];exact e1
theorem mN{W:Nat->Prop}{h0:T AB}{base:Nat}{Q:Fr->St->List iH->Prop}:∀ {ops:List AO} {i:Nat} {D:DS} {last:Option Nat},DOk W h0 base D->D.hs.head?.map (·.1)=last->gN fns W h0 base ops i D.F D.S D.ps last Q->
  vW fns ops i base D fun D'=>Q D'.F D'.S D'.ps/\DOk W h0 base D'
 | [],i,D,last,hD,_,hr=>by rw[jB];exact⟨hr,hD⟩
 | ⟨d,op,g,m⟩::l,i,D,last,hD,hlast,hr=>by
  have hlk:mB last m=true->jL D.hs m=true:=fun h=>by
   subst hlast;cases hh:D.hs with
   | nil=>rfl
   | cons e r=>rw[hh] at h;exact h
  unfold gN at hr;by_cases hw:eT g D.F=true
  ·rw[if_pos hw] at hr;have lift:vW fns (⟨d,op,none,m⟩::l) i base D (fun D'=>Q D'.F D'.S D'.ps/\DOk W h0 base D')->vW fns (⟨d,op,g,m⟩::l) i base D (fun D'=>Q D'.F D'.S D'.ps/\DOk W h0 base D'):=by
    rintro⟨n,D',e1,e2⟩;refine⟨n,D',?_,e2⟩;have:pV ⟨d,op,g,m⟩ i base (ev fns n).call D=pV ⟨d,op,none,m⟩ i base (ev fns n).call D:=by
     show cB (eT g D.F) _ _=cB true _ _;rw[hw];cases op<;>rfl
    show bH (pV ⟨d,op,g,m⟩ i base (ev fns n).call D) _=_;rw[this];exact e1
   apply lift;cases op with
   | q q=>
    have⟨v,hv,hs,hr⟩:=hr;rw[iE];cases hq:dR q with
    | false=>
     rw[hq,aT] at hv;refine⟨v,hv,?_⟩;simp only[aT];exact mN (D:=⟨cR d D.F v,D.S,D.ps,D.hs,D.ls⟩) ⟨hD.cur,hD.nx,hD.chain,hD.lds,hD.pend⟩ hlast hr
    | true=>
     rw[hq,aO] at hv;have⟨hs1,hs2⟩:=hs hq;refine⟨v,by rw[hs2.ev hD.cur];exact hv,?_⟩;simp only[aO];refine mN (D:=⟨cR d D.F v,D.S,D.ps,D.hs,⟨q,D.F,v,i,m⟩::D.ls⟩) ⟨hD.cur,hD.nx,hD.chain,fun l' hl=>?_,hD.pend⟩ hlast hr;rcases Bm.1 hl with rfl | hl
     ·exact⟨hs1,hs2,hv⟩
     ·exact hD.lds l' hl
   | a a=>
    have⟨r,hv,hr⟩:=hr;rw[aEe];refine⟨r,hv,mN (D:=⟨cR d D.F r.1,D.S,⟨i,base+i,r.2⟩::D.ps,D.hs,D.ls⟩) ⟨hD.cur,hD.nx,hD.chain,hD.lds,fun p hp=>?_⟩ hlast hr⟩;rcases Bm.1 hp with rfl | hp
    ·exact Cc _ _
    ·exact hD.pend p hp
   | x x=>
    have next:∀ (v:AV) (S1:St),aGG W base ⟨(cO m D.ps D.S.h).2,D.S.nx⟩ S1->DOk W h0 base ⟨cR d D.F v,S1,(cO m D.ps D.S.h).1,(i,m,S1.h)::D.hs,D.ls⟩:=fun v S1 hS=>by
     have hc:∀b,b<base->¬W b->S1.h.get b=h0.get b:=fun b hb hw=>by
      rw[hS.2 b hb hw];show(cO m D.ps D.S.h).2.get b=_;rw[aBd hb hD.pend];exact hD.cur b hb hw
     refine⟨hc,Au hD.nx hS.1,fun e he=>?_,hD.lds,aA8 hD.pend⟩;rcases Bm.1 he with rfl | he
     ·exact hc
     ·exact hD.chain e he
    have other:(∀f args,x≠ .call f args)->(∀tbl r args,x≠ .inv tbl r args)->(mB last m=true/\∃v S1,(∀call,evX x call D.F ⟨(cO m D.ps D.S.h).2,D.S.nx⟩=some (v,S1))/\aGG W base ⟨(cO m D.ps D.S.h).2,D.S.nx⟩ S1/\gN fns W h0 base l (i+1) (cR d D.F v) S1 (cO m D.ps D.S.h).1 (some i) Q)->vW fns (⟨d,.x x,none,m⟩::l) i base D (fun D'=>Q D'.F D'.S D'.ps/\DOk W h0 base D'):=by
     rintro _ _ ⟨h1,v,S1,h2,h3,h4⟩;exact kE (hlk h1) h2 (mN (D:=⟨cR d D.F v,S1,(cO m D.ps D.S.h).1,(i,m,S1.h)::D.hs,D.ls⟩) (next v S1 h3) rfl h4)
    cases x with
    | call f args=>
     have⟨h1,n,v,S1,h2,h3,h4⟩:=hr;refine aAj (hlk h1) ⟨n,v,S1,h2,?_⟩;exact mN (D:=⟨cR d D.F v,S1,(cO m D.ps D.S.h).1,(i,m,S1.h)::D.hs,D.ls⟩) (next v S1 (h3.elim (fun h3=>⟨h3.1,fun b hb _=>h3.2 b (Ae hb hD.nx)⟩) id)) rfl h4
    | inv tbl r args=>
     have⟨h1,t,f,u,hu,hf,n,v,S1,h2,h3,h4⟩:=hr;refine aOg hu hf (aAj (hlk h1) ⟨n,v,S1,h2,?_⟩);exact mN (D:=⟨cR d D.F v,S1,(cO m D.ps D.S.h).1,(i,m,S1.h)::D.hs,D.ls⟩) (next v S1 ⟨h3.1,fun b hb _=>h3.2 b (Ae hb hD.nx)⟩) rfl h4
    | _=>exact other (fun _ _ h=>by cases h) (fun _ _ _ h=>by cases h) hr
  ·rw[if_neg hw] at hr;have⟨n,D',e1,e2⟩:=mN (i:=i+1) (D:=⟨cR d D.F .undef,D.S,D.ps,D.hs,D.ls⟩) (last:=last) ⟨hD.cur,hD.nx,hD.chain,hD.lds,hD.pend⟩ hlast hr;refine⟨n,D',?_,e2⟩;have:pV ⟨d,op,g,m⟩ i base (ev fns n).call D=some ⟨cR d D.F .undef,D.S,D.ps,D.hs,D.ls⟩:=by
    show cB (eT g D.F) _ _=_;rw[show eT g D.F=false by simpa using hw];rfl
   show bH (pV ⟨d,op,g,m⟩ i base (ev fns n).call D) _=_;rw[this];exact e1
theorem qZ(W:Nat->Prop){ops:List AO}{A:bS}{S:St}{Q:Out->bS->St->Prop}(h:gN fns W S.h S.nx ops 0 A.F ⟨S.h,S.nx+ops.length⟩ [] none fun F S' ps=>Q .normal ⟨F,A.inr⟩ ⟨(cO (2 ^ ops.length - 1) ps S'.h).2,S'.nx⟩):lU fns (.drw ops) A S Q:=by
 refine oO ?_;have⟨n,D',e1,e2,e3⟩:=mN (fns:=fns) (i:=0) (D:=⟨A.F,⟨S.h,S.nx+ops.length⟩,[],[],[]⟩) (last:=none) ⟨fun _ _ _=>rfl,Cc _ _,fun e he=>(by cases he),fun l hl=>(by cases hl),fun p hp=>(by cases hp)⟩ rfl h;exact⟨n,D',e1,lG fun l hl=>aE7 (e3.lds l hl) (fun e he=>e3.chain e (List.mem_reverse.1 he)) (fun _ _ _=>rfl),e2⟩
def aL4(fns:T dU)(W:Nat->Prop)(h0:T AB)(base:Nat)(x:Option AV)(ld:Bool)(old:Prop)(d:Option Nat)(l:List AO)(i:Nat)(F:Fr)(S:St)(ps:List iH)(last:Option Nat)(Q:Fr->St->List iH->Prop):Prop:=lM x fun v=>(ld=true->cT v v=true/\old)/\gN fns W h0 base l i (cR d F v) S ps last Q
def aHJ(fns:T dU)(W:Nat->Prop)(h0:T AB)(base:Nat)(x:Option (AV×AB))(d:Option Nat)(l:List AO)(i:Nat)(F:Fr)(S:St)(ps:List iH)(last:Option Nat)(Q:Fr->St->List iH->Prop):Prop:=lM x fun r=>gN fns W h0 base l (i+1) (cR d F r.1) S (⟨i,base+i,r.2⟩::ps) last Q
section
variable {W:Nat->Prop}{h0:T AB}{base:Nat}{d:Option Nat}{m i:Nat}{l:List AO}{F:Fr}{S:St}{ps:List iH}{last:Option Nat}{Q:Fr->St->List iH->Prop}
theorem aHk:gN fns W h0 base [] i F S ps last Q↔Q F S ps:=Iff.rfl
theorem aMH{q:zH}:gN fns W h0 base (⟨d,.q q,none,m⟩::l) i F S ps last Q↔aL4 fns W h0 base (gT q F (cB (dR q) h0 S.h)) (dR q) (aF4 W base q F) d l (i+1) F S ps last Q:=by
 rw[gN,if_pos (show eT none F=true from rfl)];rfl
theorem aD8{v:AV}{ld:Bool}{old:Prop}:aL4 fns W h0 base (some v) ld old d l i F S ps last Q↔(ld=true->cT v v=true/\old)/\gN fns W h0 base l i (cR d F v) S ps last Q:=by unfold aL4;rw[dK]
theorem aNl{a:wY}:gN fns W h0 base (⟨d,.a a,none,m⟩::l) i F S ps last Q↔aHJ fns W h0 base (sH a F (base+i)) d l i F S ps last Q:=by
 rw[gN,if_pos (show eT none F=true from rfl)];rfl
theorem oF{r:AV×AB}:aHJ fns W h0 base (some r) d l i F S ps last Q↔gN fns W h0 base l (i+1) (cR d F r.1) S (⟨i,base+i,r.2⟩::ps) last Q:=by unfold aHJ;rw[dK]
theorem aET{f:cU}{args:List cU}(h:mB last m=true)(hw:gH fns (f.val F) (dG args F) ⟨(cO m ps S.h).2,S.nx⟩ fun v S1=>Same ⟨(cO m ps S.h).2,S.nx⟩ S1/\gN fns W h0 base l (i+1) (cR d F v) S1 (cO m ps S.h).1 (some i) Q):gN fns W h0 base (⟨d,.x (.call f args),none,m⟩::l) i F S ps last Q:=by
 rw[gN,if_pos (show eT none F=true from rfl)];exact⟨h,aQ hw fun v S1 h=>⟨.inl h.1,h.2⟩⟩
theorem lL{f:cU}{args:List cU}(h:mB last m=true)(hw:gH fns (f.val F) (dG args F) ⟨(cO m ps S.h).2,S.nx⟩ fun v S1=>aGG W base ⟨(cO m ps S.h).2,S.nx⟩ S1/\gN fns W h0 base l (i+1) (cR d F v) S1 (cO m ps S.h).1 (some i) Q):gN fns W h0 base (⟨d,.x (.call f args),none,m⟩::l) i F S ps last Q:=by
 rw[gN,if_pos (show eT none F=true from rfl)];exact⟨h,aQ hw fun v S1 h=>⟨.inr h.1,h.2⟩⟩
theorem xG{n:Nat}{x v:cU}{S1:St}(h:mB last m=true)(he:bH (v.val F).cells (fun cs=>mJ (x.val F) n cs ⟨(cO m ps S.h).2,S.nx⟩)=some (.undef,S1))(ho:aGG W base ⟨(cO m ps S.h).2,S.nx⟩ S1)(hr:gN fns W h0 base l (i+1) (cR d F .undef) S1 (cO m ps S.h).1 (some i) Q):gN fns W h0 base (⟨d,.x (.st n x v),none,m⟩::l) i F S ps last Q:=by
 unfold gN;rw[if_pos (show eT none F=true from rfl)];exact⟨h,_,S1,fun call=>he,ho,hr⟩
theorem aMA{op:AOp}{s:Nat}{b:Bool}:gN fns W h0 base (⟨d,op,some (s,b),m⟩::l) i F S ps last Q↔if isB (aD s F) b=true then gN fns W h0 base (⟨d,op,none,m⟩::l) i F S ps last Q else gN fns W h0 base l (i+1) (cR d F .undef) S ps last Q:=by
 conv=>lhs;unfold gN
 rw[show eT (some (s,b)) F=isB (aD s F) b from rfl];split
 ·conv=>rhs;unfold gN
  rw[if_pos (show eT none F=true from rfl)]
 ·rfl
theorem aJB{agg:Bool}{n:Nat}{x:cU}:aF4 W base (.ld agg n x) F↔aNT W base (x.val F):=by
 constructor
 ·rintro(⟨_,_,_,h,h2⟩ | ⟨_,_,_,_,_,_,h,_⟩)
  ·cases h;exact h2
  ·cases h
 ·exact fun h=>.inl ⟨_,_,_,rfl,h⟩
theorem aGz{b off:Nat}:aNT W base (.ptr b off)↔b<base/\¬W b:=by
 constructor
 ·rintro⟨_,_,h,h2⟩;cases h;exact h2
 ·exact fun h=>⟨_,_,rfl,h⟩
end
abbrev stV:=And.intro @aHk (And.intro @aMH (And.intro @aNl (And.intro @aMA (@aBK))))
abbrev stW:=And.intro @aD8 (And.intro @oF (And.intro @aJB (And.intro @aGz (And.intro @bX (And.intro (@Aw AO) (And.intro (@Ci AO) (And.intro (@Aw AV) (And.intro (@Ci AV) (And.intro (@Aw Nat) (@Ci Nat))))))))))
abbrev sU:=And.intro aC stV
abbrev sD:=And.intro aB stW
theorem fe{p:Prop}(h:p:=by simp only[↓sU,sD,Nat.reduceEqDiff,↓reduceIte,Nat.reduceAdd,AV.bool.injEq,decide_eq_true_eq,decide_eq_false_iff_not];omega):p:=h
theorem fg{p r:Prop}(b:r)(h:r->p:=by intro b;simp only[↓sU,sD,Nat.reduceEqDiff,↓reduceIte,Nat.reduceAdd,b]):p:=h b
theorem fh{p r s:Prop}(b:r)(c:s)(h:r->s->p:=by intro b c;simp only[↓sU,sD,Nat.reduceEqDiff,↓reduceIte,Nat.reduceAdd,b,c]):p:=h b c
theorem cm{p q r:Prop}(b:r)(a:q)(h:r->q->p:=by intro b a;simp only[↓sU,sD,Nat.reduceEqDiff,↓reduceIte,Nat.reduceAdd,b];exact a):p:=h b a
theorem df{p q r s:Prop}(b:r)(c:s)(a:q)(h:r->s->q->p:=by intro b c a;simp only[↓sU,sD,Nat.reduceEqDiff,↓reduceIte,Nat.reduceAdd,b,c];exact a):p:=h b c a
theorem dh{p q r s t:Prop}(b:r)(c:s)(d:t)(a:q)(h:r->s->t->q->p:=by intro b c d a;simp only[↓sU,sD,Nat.reduceEqDiff,↓reduceIte,Nat.reduceAdd,b,c,d];exact a):p:=h b c d a
theorem dk{p q r s t u:Prop}(b:r)(c:s)(d:t)(e:u)(a:q)(h:r->s->t->u->q->p:=by intro b c d e a;simp only[↓sU,sD,Nat.reduceEqDiff,↓reduceIte,Nat.reduceAdd,b,c,d,e];exact a):p:=h b c d e a
theorem dt{p q r s t u v:Prop}(b:r)(c:s)(d:t)(e:u)(f:v)(a:q)(h:r->s->t->u->v->q->p:=by intro b c d e f a;simp only[↓sU,sD,Nat.reduceEqDiff,↓reduceIte,Nat.reduceAdd,b,c,d,e,f];exact a):p:=h b c d e f a
theorem du{p q r s t u v w:Prop}(b:r)(c:s)(d:t)(e:u)(f:v)(g:w)(a:q)(h:r->s->t->u->v->w->q->p:=by intro b c d e f g a;simp only[↓sU,sD,Nat.reduceEqDiff,↓reduceIte,Nat.reduceAdd,b,c,d,e,f,g];exact a):p:=h b c d e f g a
theorem dx{p q r s t u v w x:Prop}(b:r)(c:s)(d:t)(e:u)(f:v)(g:w)(i:x)(a:q)(h:r->s->t->u->v->w->x->q->p:=by intro b c d e f g i a;simp only[↓sU,sD,Nat.reduceEqDiff,↓reduceIte,Nat.reduceAdd,b,c,d,e,f,g,i];exact a):p:=h b c d e f g i a
theorem dy{p q r s t u v w x y:Prop}(b:r)(c:s)(d:t)(e:u)(f:v)(g:w)(i:x)(j:y)(a:q)(h:r->s->t->u->v->w->x->y->q->p:=by intro b c d e f g i j a;simp only[↓sU,sD,Nat.reduceEqDiff,↓reduceIte,Nat.reduceAdd,b,c,d,e,f,g,i,j];exact a):p:=h b c d e f g i j a
theorem ae{p q:Prop}(a:q)(h:q->p:=by intro a;simp only[↓sU,sD,Nat.reduceEqDiff,↓reduceIte,a]):p:=h a
theorem af{p q:Prop}(a:q)(h:q->p:=by intro a;simp only[↓sU,sD,Nat.reduceEqDiff,↓reduceIte,Nat.reduceAdd];exact a):p:=h a
theorem ag{p:Prop}(h:p:=by simp only[↓sU,sD,Nat.reduceEqDiff,↓reduceIte,Nat.reduceAdd]):p:=h
theorem ah{p:Prop}(h:p:=by simp only[↓sU,sD,Nat.reduceEqDiff,↓reduceIte,Nat.reduceAdd];try rfl):p:=h
theorem ai{p q:Prop}(a:q)(h:q->p:=by intro a;simp only[↓sU,sD,Nat.reduceEqDiff,↓reduceIte,Nat.reduceAdd,a]):p:=h a
theorem aLi(e:qF){a b:Int}(hb:b≠0):iL .quo e (.int .i64 a) (.int .i64 b)=some (.int .i64 (IntKind.i64.wrap (a.tdiv b))):=by
 show dJ .quo .i64 a .i64 b=_;unfold dJ;rw[show fI .quo=false from rfl,aT,fT,aO];show aL6 .i64 a b=_;unfold aL6;split
 ·rename_i m n;have h0:Nat.beq n 0=false:=by
   rw[Ch];intro h;rw[Bg] at h;subst h;exact hb rfl
  rw[h0,aT,nat_eq];rfl
 ·have h0:ieq b (.ofNat 0)=false:=by
   rw[Ch];intro h;rw[lJ] at h;exact hb (by simpa using h)
  rw[h0,aT,tB]
theorem aEL(e:qF){a b:Int}(ha:0<=a)(ha2:a<=9223372036854775807)(hb:0<b):iL .quo e (.int .i64 a) (.int .i64 b)=some (.int .i64 (a / b)):=by
 rw[aLi e ay,Int.tdiv_eq_ediv_of_nonneg ha];rw[wrap_i64]
 ·have:=Int.ediv_nonneg ha (Int.le_of_lt hb);omega
 ·have:=Int.ediv_le_self b ha;omega
theorem aMN(a:Int):unV .neg (.int .i64 a)=some (.int .i64 (IntKind.i64.wrap (-a))):=by
 show some (AV.int .i64 (aHO .i64 (.ofNat 0) a))=_;rw[aAt];congr 3;show(0:Int) - a= -a;omega
def mx(a b:Int):Int:=if b<=a then a else b
theorem aMO(l:List cU)(F:Fr)(h:T AB):gT (.c9 true l) F h=mT true (dG l F):=rfl
theorem aOa(v:AV)(l:b6):mT true (v::l)=kO true l v:=rfl
theorem aPV(v:AV):kO true [] v=some v:=rfl
theorem aQd(a b:Int)(l:b6):kO true (.int .i64 b::l) (.int .i64 a)=kO true l (.int .i64 (mx a b)):=by
 show cB (keq .i64 .i64) (kO true l (.int .i64 (cB true (cB (ile b a) a b) _))) none=_;rw[fT,aO,aO];congr 2;unfold mx;rw[pE];by_cases h:b<=a
 ·rw[if_pos h,Ab h];rfl
 ·rw[if_neg h,Aa h];rfl
theorem aJX(t:Nat)(x:cU)(F:Fr)(id:Nat):sH (.box t x) F id=bH (x.val F).cells fun cs=>some (.ptr id 0,.cells cs false 0):=rfl
theorem tJ(t:Nat)(cs:b6)(F:Fr)(id:Nat):sH (.alloc t cs) F id=some (.ptr id 0,.cells cs false 0):=rfl
theorem aHS(f:Nat)(first cap:List cU)(F:Fr)(h:T AB):gT (.mkFunc f first cap) F h=some (.fn f (dG first F) (dG cap F)):=rfl
theorem bL(cs:b6):(AV.agg cs).cells=some cs:=rfl
theorem aHF(a b c d:Nat)(e:Bool):(AV.sl a b c d e).cells=some [.sl a b c d e]:=rfl
theorem aF(i:Nat)(x:cU)(F:Fr)(h:T AB):gT (.cr i x) F h=zD (x.val F) i:=rfl
theorem aE(b o i:Nat):zD (.ptr b o) i=some (.ptr b (o+i)):=rfl
theorem aU(i:Nat)(x:cU):dR (.cr i x)=false:=rfl
theorem nS(z:b6)(ps:List (Nat×Nat×cU)):dR (.build z ps)=false:=rfl
theorem gF(a:Nat)(agg:Bool)(n:Nat)(rs:List RV)(F:Fr)(h:T AB):results (.cell a agg n::rs) F h=bH (eQ (aD a F) agg n h) fun v=>bH (results rs F h) fun vs=>some (v::vs):=rfl
section
variable {h:T AB}{b:Nat}{x y z:AV}{o:Bool}{s:Nat}
theorem lI(hb:h.get b=some (.cells [x,y,z] o s)):eQ (.ptr b (0+0)) false 1 h=some x:=by
 simp only[eQ,nP,aT,mM,cJ,hb,aN,mI,mZ];rfl
theorem aJU(hb:h.get b=some (.cells [x,y,z] o s)):eQ (.ptr b (0+1)) false 1 h=some y:=by
 simp only[eQ,nP,aT,mM,cJ,hb,aN,mI,mZ];rfl
theorem lD(hb:h.get b=some (.cells [x,y,z] o s)):eQ (.ptr b (0+2)) false 1 h=some z:=by
 simp only[eQ,nP,aT,mM,cJ,hb,aN,mI,mZ];rfl
theorem ld3(hb:h.get b=some (.cells [x,y,z] o s)):eQ (.ptr b 0) true 3 h=some (.agg [x,y,z]):=by
 simp only[eQ,nP,aO,uY,cJ,hb,aN,mI];rfl
end
theorem aAH{S:St}{b n:Nat}{cs cs':b6}{o:Bool}{s:Nat}(h:S.h.get b=some (.cells cs o s))(h1:cs.length=n)(h2:cs'.length=n):mJ (.ptr b 0) n cs' S=some (.undef,⟨S.h.set b (some (.cells cs' o s)),S.nx⟩):=by
 have hp:put cs 0 cs'=some cs':=by
  rw[put_eq,if_pos ay];simp [Ct (ay:cs.length<=cs'.length)]
 simp only[mJ,fL,h2,pJ,h,aN,vX,hp];rw[show Nat.beq n n=true from Fk n];rfl
theorem dV{d t m:Nat}{x:cU}{l:List AO}{F:Fr}{S:St}{Q:Fr->St->Prop}{cs:b6}(hc:(x.val F).cells=some cs)(h:∀S1,Same S S1->S1.nx=S.nx+1->S1.h.get S.nx=some (.cells cs false 0)->tS fns l (cR (some d) F (.ptr S.nx 0)) S1 Q):tS fns (⟨some d,.a (.box t x),none,m⟩::l) F S Q:=by
 rw[aBK];refine⟨(.ptr S.nx 0,.cells cs false 0),by rw[aJX,hc];rfl,h _ (Same.alloc S _) rfl ?_⟩;simp only;rw[dd,if_pos rfl]
theorem dC{d t m:Nat}{l:List AO}{F:Fr}{S:St}{Q:Fr->St->Prop}{cs:b6}(h:∀S1,Same S S1->S1.nx=S.nx+1->S1.h.get S.nx=some (.cells cs false 0)->tS fns l (cR (some d) F (.ptr S.nx 0)) S1 Q):tS fns (⟨some d,.a (.alloc t cs),none,m⟩::l) F S Q:=by
 rw[aBK];refine⟨(.ptr S.nx 0,.cells cs false 0),rfl,h _ (Same.alloc S _) rfl ?_⟩;simp only;rw[dd,if_pos rfl]
theorem eS{n m b s:Nat}{x v:cU}{l:List AO}{F:Fr}{S:St}{Q:Fr->St->Prop}{cs cs':b6}{o:Bool}(hx:x.val F= .ptr b 0)(hv:(v.val F).cells=some cs')(hb:S.h.get b=some (.cells cs o s))(h1:cs.length=n)(h2:cs'.length=n)
  (h:∀S1,cC b S S1->S1.nx=S.nx->S1.h.get b=some (.cells cs' o s)->tS fns l F S1 Q):tS fns (⟨none,.x (.st n x v),none,m⟩::l) F S Q:=by
 refine fD (v:=.undef) (fun call=>?_) (h ⟨S.h.set b (some (.cells cs' o s)),S.nx⟩ ((cC.refl b S).put _) rfl ?_)
 ·rw[dS,hv,aN,hx];exact aAH hb h1 h2
 ·simp only;rw[dd,if_pos rfl]
theorem dO(W:Nat->Prop){ops:List AO}{A:bS}{S:St}{Q:Out->bS->St->Prop}(h:∀S1,Same S S1->gN fns W S.h S.nx ops 0 A.F S1 [] none fun F S' ps=>Q .normal ⟨F,A.inr⟩ ⟨(cO (2 ^ ops.length - 1) ps S'.h).2,S'.nx⟩):lU fns (.drw ops) A S Q:=qZ W (h _ (Same.nx S _))
section
variable {W:Nat->Prop}{h0:T AB}{base:Nat}{d:Option Nat}{m i:Nat}{l:List AO}{F:Fr}{S:St}{last:Option Nat}{Q:Fr->St->List iH->Prop}
theorem cL{f:cU}{args:List cU}(h:mB last m=true)(hw:gH fns (f.val F) (dG args F) S fun v S1=>Same S S1/\gN fns W h0 base l (i+1) (cR d F v) S1 [] (some i) Q):gN fns W h0 base (⟨d,.x (.call f args),none,m⟩::l) i F S [] last Q:=
 aET h hw
end
theorem eF(b:Bool):unV .not (.bool b)=some (.bool (!b)):=by cases b<;>rfl
theorem aAX:fG (.int .i64 0)=some 0:=rfl
end Go.Ev.Gl
