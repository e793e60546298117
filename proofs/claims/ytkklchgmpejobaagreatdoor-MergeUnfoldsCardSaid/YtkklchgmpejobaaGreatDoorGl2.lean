import Derived.Test.YtkklchgmpejobaaGreatDoorGl1
set_option maxHeartbeats 16000000
set_option linter.unusedSimpArgs false
set_option linter.unusedVariables false
namespace Go.Ev.Gl
variable {fns:T cW}
def mE(last:Option Nat)(m:Nat):Bool:=
 match last with
 | none=>true
 | some i=>Nat.testBit m i
def aHY(W:Nat→Prop)(base:Nat)(v:AV):Prop:=∃b off,v= .ptr b off∧b<base∧¬W b
def aHe(W:Nat→Prop)(base:Nat)(q:QOp)(F:Fr):Prop:=(∃agg n x,q= .ld agg n x∧aHY W base (x.val F))∨∃sk z ok m k b,q= .lookup sk z ok m k∧m.val F= .map b∧b<base∧¬W b
def aGI(W:Nat→Prop)(base:Nat)(S S':St):Prop:=S.nx≤S'.nx∧∀b,b<base→¬W b→S'.h.get b=S.h.get b
def fS(fns:T cW)(W:Nat→Prop)(h0:T AB)(base:Nat):List AO→Nat→Fr→St→List jQ→Option Nat→(Fr→St→List jQ→Prop)→Prop
 | [],_,F,S,ps,_,Q=>Q F S ps
 | ⟨d,op,g,m⟩::l,i,F,S,ps,last,Q=>
  if eG g F=true then
   match op with
   | .q q=>jT (gT q F (bK (dO q) h0 S.h)) fun v=>(dO q=true→bW v v=true∧aHe W base q F)∧fS fns W h0 base l (i+1) (cB d F v) S ps last Q
   | .a a=>jT (xL a F (base+i)) fun r=>fS fns W h0 base l (i+1) (cB d F r.1) S (⟨i,base+i,r.2⟩::ps) last Q
   | .x (.call f args)=>mE last m=true∧fB fns (f.val F) (dF args F) ⟨(cA m ps S.h).2,S.nx⟩ fun v S1=>(Same ⟨(cA m ps S.h).2,S.nx⟩ S1∨aGI W base ⟨(cA m ps S.h).2,S.nx⟩ S1)∧fS fns W h0 base l (i+1) (cB d F v) S1 (cA m ps S.h).1 (some i) Q
   | .x (.inv tbl r args)=>mE last m=true∧∃t f u,r.val F= .iface t u∧wF t tbl=some (f,none)∧fB fns (.fn f [u] []) (dF args F) ⟨(cA m ps S.h).2,S.nx⟩ fun v S1=>Same ⟨(cA m ps S.h).2,S.nx⟩ S1∧fS fns W h0 base l (i+1) (cB d F v) S1 (cA m ps S.h).1 (some i) Q
   | .x x=>mE last m=true∧∃v S1,(∀call,evX x call F ⟨(cA m ps S.h).2,S.nx⟩=some (v,S1))∧aGI W base ⟨(cA m ps S.h).2,S.nx⟩ S1∧fS fns W h0 base l (i+1) (cB d F v) S1 (cA m ps S.h).1 (some i) Q
  else fS fns W h0 base l (i+1) (cB d F .undef) S ps last Q
structure DOk(W:Nat→Prop)(h0:T AB)(base:Nat)(D:DS):Prop where
 cur:∀b,b<base→¬W b→D.S.h.get b=h0.get b
 nx:base≤D.S.nx
 chain:∀e∈D.hs,∀b,b<base→¬W b→e.2.2.get b=h0.get b
 lds:∀l∈D.ls,bW l.v l.v=true∧aHe W base l.q l.F∧gT l.q l.F h0=some l.v
 pend:∀p∈D.ps,base≤p.id
theorem aHe.ev{W:Nat→Prop}{base:Nat}{q:QOp}{F:Fr}(h:aHe W base q F){h0 h1:T AB}(hh:∀b,b<base→¬W b→h1.get b=h0.get b):gT q F h1=gT q F h0:=by
 rcases h with⟨agg,n,x,rfl,b,off,hx,hb,hw⟩ | ⟨sk,z,ok,m,k,b,rfl,hx,hb,hw⟩
 ·rw[mD,mD,hx];have e:cK h1 b=cK h0 b:=by unfold cK;rw[hh b hb hw]
  simp only[cE,mO,wQ,jL,e]
 ·show(aZ (qJ h1 (m.val F)) fun es=>_)=aZ (qJ h0 (m.val F)) fun es=>_;rw[hx];show(aZ (aZ (h1.get b) rT) fun es=>_)=aZ (aZ (h0.get b) rT) fun es=>_;rw[hh b hb hw]
theorem aBm{base b:Nat}(hb:b<base){m:Nat}:∀ {ps:List jQ} {h:T AB},(∀p∈ps,base≤p.id)→(cA m ps h).2.get b=h.get b
 | [],h,_=>rfl
 | p::ps,h,hp=>by
  have h1:=hp p (by simp);have h2:∀q∈ps,base≤q.id:=fun q hq=>hp q (by simp [hq]);unfold cA;cases Nat.testBit m p.i with
  | true=>rw[aP,aBm hb h2,T.get_set,if_neg (by omega)]
  | false=>rw[aU];exact aBm hb h2
theorem aBV{base:Nat}{m:Nat}:∀ {ps:List jQ} {h:T AB},(∀p∈ps,base≤p.id)→∀p∈(cA m ps h).1,base≤p.id
 | [],h,_,p,hp=>by cases hp
 | p::ps,h,hq,r,hr=>by
  have h2:∀q∈ps,base≤q.id:=fun q hx=>hq q (by simp [hx]);unfold cA at hr;cases ht:Nat.testBit m p.i with
  | true=>rw[ht,aP] at hr;exact aBV h2 r hr
  | false=>
   rw[ht,aU] at hr;rcases Bq.1 hr with rfl | hr
   ·exact hq r (by simp)
   ·exact aBV h2 r hr
theorem aER{W:Nat→Prop}{h0:T AB}{base:Nat}{l:lG}(h:bW l.v l.v=true∧aHe W base l.q l.F∧gT l.q l.F h0=some l.v):∀ {hs:List (Nat×Nat×T AB)} {h1:T AB},(∀e∈hs,∀b,b<base→¬W b→e.2.2.get b=h0.get b)→(∀b,b<base→¬W b→h1.get b=h0.get b)→fA l hs h1=true
 | [],h1,_,hh=>by
  show pD l.v (gT l.q l.F h1)=true;rw[h.2.1.ev hh,h.2.2];exact h.1
 | (i,m,h')::r,h1,hs,hh=>by
  have e1:pD l.v (gT l.q l.F h1)=true:=by rw[h.2.1.ev hh,h.2.2];exact h.1
  have e2:fA l r h'=true:=aER h (fun e he=>hs e (by simp [he])) (hs (i,m,h') (by simp));unfold fA;rw[e1,e2];cases Nat.testBit l.mask i<;>cases Nat.testBit m l.i<;>rfl
theorem qH{h0:T AB}{hs:List (Nat×Nat×T AB)}:∀ {ls:List lG},(∀l∈ls,fA l hs h0=true)→fM h0 hs ls=true
 | [],_=>rfl
 | l::ls,h=>by rw[mT,h l (by simp),aP];exact qH fun l' hl=>h l' (by simp [hl])
theorem aM9{d:Option Nat}{tbl:List (Nat×Nat×Option (Bool×Nat))}{recv:cF}{args:List cF}{m i base:Nat}{l:List AO}{D:DS}{Q:DS→Prop}{t f:Nat}{u:AV}(hr:recv.val D.F= .iface t u)(hf:wF t tbl=some (f,none))(h:yV fns (⟨d,.x (.call (.c (.fn f [u] [])) args),none,m⟩::l) i base D Q):yV fns (⟨d,.x (.inv tbl recv args),none,m⟩::l) i base D Q:=by
 obtain⟨n,D',e1,e2⟩:=h;refine⟨n,D',?_,e2⟩;have e:tW ⟨d,.x (.inv tbl recv args),none,m⟩ i base (ev fns n).call D=tW ⟨d,.x (.call (.c (.fn f [u] [])) args),none,m⟩ i base (ev fns n).call D:=by
  show bK (kD D.hs m) (aZ (evX (.inv tbl recv args) (ev fns n).call D.F ⟨(cA m D.ps D.S.h).2,D.S.nx⟩) _) none=bK (kD D.hs m) (aZ (evX (.call (.c (.fn f [u] [])) args) (ev fns n).call D.F ⟨(cA m D.ps D.S.h).2,D.S.nx⟩) _) none;rw[aNM hr hf]
 show aZ (tW ⟨d,.x (.inv tbl recv args),none,m⟩ i base (ev fns n).call D) _=_;rw[e];exact e1
theorem mV{W:Nat→Prop}{h0:T AB}{base:Nat}{Q:Fr→St→List jQ→Prop}:∀ {ops:List AO} {i:Nat} {D:DS} {last:Option Nat},DOk W h0 base D→D.hs.head?.map (·.1)=last→fS fns W h0 base ops i D.F D.S D.ps last Q→
  yV fns ops i base D fun D'=>Q D'.F D'.S D'.ps∧DOk W h0 base D'
 | [],i,D,last,hD,_,hr=>by rw[jP];exact⟨hr,hD⟩
 | ⟨d,op,g,m⟩::l,i,D,last,hD,hlast,hr=>by
  have hlk:mE last m=true→kD D.hs m=true:=fun h=>by
   subst hlast;cases hh:D.hs with
   | nil=>rfl
   | cons e r=>rw[hh] at h;exact h
  unfold fS at hr;by_cases hw:eG g D.F=true
  ·rw[if_pos hw] at hr;have lift:yV fns (⟨d,op,none,m⟩::l) i base D (fun D'=>Q D'.F D'.S D'.ps∧DOk W h0 base D')→yV fns (⟨d,op,g,m⟩::l) i base D (fun D'=>Q D'.F D'.S D'.ps∧DOk W h0 base D'):=by
    rintro⟨n,D',e1,e2⟩;refine⟨n,D',?_,e2⟩;have:tW ⟨d,op,g,m⟩ i base (ev fns n).call D=tW ⟨d,op,none,m⟩ i base (ev fns n).call D:=by
     show bK (eG g D.F) _ _=bK true _ _;rw[hw];cases op<;>rfl
    show aZ (tW ⟨d,op,g,m⟩ i base (ev fns n).call D) _=_;rw[this];exact e1
   apply lift;cases op with
   | q q=>
    obtain⟨v,hv,hs,hr⟩:=hr;rw[oY];cases hq:dO q with
    | false=>
     rw[hq,aU] at hv;refine⟨v,hv,?_⟩;simp only[aU];exact mV (D:=⟨cB d D.F v,D.S,D.ps,D.hs,D.ls⟩) ⟨hD.cur,hD.nx,hD.chain,hD.lds,hD.pend⟩ hlast hr
    | true=>
     rw[hq,aP] at hv;obtain⟨hs1,hs2⟩:=hs hq;refine⟨v,by rw[hs2.ev hD.cur];exact hv,?_⟩;simp only[aP];refine mV (D:=⟨cB d D.F v,D.S,D.ps,D.hs,⟨q,D.F,v,i,m⟩::D.ls⟩) ⟨hD.cur,hD.nx,hD.chain,fun l' hl=>?_,hD.pend⟩ hlast hr;rcases Bq.1 hl with rfl | hl
     ·exact⟨hs1,hs2,hv⟩
     ·exact hD.lds l' hl
   | a a=>
    obtain⟨r,hv,hr⟩:=hr;rw[aIr];refine⟨r,hv,mV (D:=⟨cB d D.F r.1,D.S,⟨i,base+i,r.2⟩::D.ps,D.hs,D.ls⟩) ⟨hD.cur,hD.nx,hD.chain,hD.lds,fun p hp=>?_⟩ hlast hr⟩;rcases Bq.1 hp with rfl | hp
    ·exact Fd _ _
    ·exact hD.pend p hp
   | x x=>
    have next:∀ (v:AV) (S1:St),aGI W base ⟨(cA m D.ps D.S.h).2,D.S.nx⟩ S1→DOk W h0 base ⟨cB d D.F v,S1,(cA m D.ps D.S.h).1,(i,m,S1.h)::D.hs,D.ls⟩:=fun v S1 hS=>by
     have hc:∀b,b<base→¬W b→S1.h.get b=h0.get b:=fun b hb hw=>by
      rw[hS.2 b hb hw];show(cA m D.ps D.S.h).2.get b=_;rw[aBm hb hD.pend];exact hD.cur b hb hw
     refine⟨hc,Ba hD.nx hS.1,fun e he=>?_,hD.lds,aBV hD.pend⟩;rcases Bq.1 he with rfl | he
     ·exact hc
     ·exact hD.chain e he
    have other:(∀f args,x≠ .call f args)→(∀tbl r args,x≠ .inv tbl r args)→(mE last m=true∧∃v S1,(∀call,evX x call D.F ⟨(cA m D.ps D.S.h).2,D.S.nx⟩=some (v,S1))∧aGI W base ⟨(cA m D.ps D.S.h).2,D.S.nx⟩ S1∧fS fns W h0 base l (i+1) (cB d D.F v) S1 (cA m D.ps D.S.h).1 (some i) Q)→yV fns (⟨d,.x x,none,m⟩::l) i base D (fun D'=>Q D'.F D'.S D'.ps∧DOk W h0 base D'):=by
     rintro _ _ ⟨h1,v,S1,h2,h3,h4⟩;exact qB (hlk h1) h2 (mV (D:=⟨cB d D.F v,S1,(cA m D.ps D.S.h).1,(i,m,S1.h)::D.hs,D.ls⟩) (next v S1 h3) rfl h4)
    cases x with
    | call f args=>
     obtain⟨h1,n,v,S1,h2,h3,h4⟩:=hr;refine aD0 (hlk h1) ⟨n,v,S1,h2,?_⟩;exact mV (D:=⟨cB d D.F v,S1,(cA m D.ps D.S.h).1,(i,m,S1.h)::D.hs,D.ls⟩) (next v S1 (h3.elim (fun h3=>⟨h3.1,fun b hb _=>h3.2 b (Ae hb hD.nx)⟩) id)) rfl h4
    | inv tbl r args=>
     obtain⟨h1,t,f,u,hu,hf,n,v,S1,h2,h3,h4⟩:=hr;refine aM9 hu hf (aD0 (hlk h1) ⟨n,v,S1,h2,?_⟩);exact mV (D:=⟨cB d D.F v,S1,(cA m D.ps D.S.h).1,(i,m,S1.h)::D.hs,D.ls⟩) (next v S1 ⟨h3.1,fun b hb _=>h3.2 b (Ae hb hD.nx)⟩) rfl h4
    | _=>exact other (fun _ _ h=>by cases h) (fun _ _ _ h=>by cases h) hr
  ·rw[if_neg hw] at hr;obtain⟨n,D',e1,e2⟩:=mV (i:=i+1) (D:=⟨cB d D.F .undef,D.S,D.ps,D.hs,D.ls⟩) (last:=last) ⟨hD.cur,hD.nx,hD.chain,hD.lds,hD.pend⟩ hlast hr;refine⟨n,D',?_,e2⟩;have:tW ⟨d,op,g,m⟩ i base (ev fns n).call D=some ⟨cB d D.F .undef,D.S,D.ps,D.hs,D.ls⟩:=by
    show bK (eG g D.F) _ _=_;rw[show eG g D.F=false by simpa using hw];rfl
   show aZ (tW ⟨d,op,g,m⟩ i base (ev fns n).call D) _=_;rw[this];exact e1
theorem aI2(W:Nat→Prop){ops:List AO}{A:bH}{S:St}{Q:Out→bH→St→Prop}(h:fS fns W S.h S.nx ops 0 A.F ⟨S.h,S.nx+ops.length⟩ [] none fun F S' ps=>Q .normal ⟨F,A.inr⟩ ⟨(cA (2 ^ ops.length - 1) ps S'.h).2,S'.nx⟩):nO fns (.drw ops) A S Q:=by
 refine uO ?_;obtain⟨n,D',e1,e2,e3⟩:=mV (fns:=fns) (i:=0) (D:=⟨A.F,⟨S.h,S.nx+ops.length⟩,[],[],[]⟩) (last:=none) ⟨fun _ _ _=>rfl,Fd _ _,fun e he=>(by cases he),fun l hl=>(by cases hl),fun p hp=>(by cases hp)⟩ rfl h;exact⟨n,D',e1,qH fun l hl=>aER (e3.lds l hl) (fun e he=>e3.chain e (List.mem_reverse.1 he)) (fun _ _ _=>rfl),e2⟩
def aKX(fns:T cW)(W:Nat→Prop)(h0:T AB)(base:Nat)(x:Option AV)(ld:Bool)(old:Prop)(d:Option Nat)(l:List AO)(i:Nat)(F:Fr)(S:St)(ps:List jQ)(last:Option Nat)(Q:Fr→St→List jQ→Prop):Prop:=jT x fun v=>(ld=true→bW v v=true∧old)∧fS fns W h0 base l i (cB d F v) S ps last Q
def aI1(fns:T cW)(W:Nat→Prop)(h0:T AB)(base:Nat)(x:Option (AV×AB))(d:Option Nat)(l:List AO)(i:Nat)(F:Fr)(S:St)(ps:List jQ)(last:Option Nat)(Q:Fr→St→List jQ→Prop):Prop:=jT x fun r=>fS fns W h0 base l (i+1) (cB d F r.1) S (⟨i,base+i,r.2⟩::ps) last Q
section
variable {W:Nat→Prop}{h0:T AB}{base:Nat}{d:Option Nat}{m i:Nat}{l:List AO}{F:Fr}{S:St}{ps:List jQ}{last:Option Nat}{Q:Fr→St→List jQ→Prop}
theorem aHk:fS fns W h0 base [] i F S ps last Q↔Q F S ps:=Iff.rfl
theorem aIk{q:QOp}:fS fns W h0 base (⟨d,.q q,none,m⟩::l) i F S ps last Q↔aKX fns W h0 base (gT q F (bK (dO q) h0 S.h)) (dO q) (aHe W base q F) d l (i+1) F S ps last Q:=by
 rw[fS,if_pos (show eG none F=true from rfl)];rfl
theorem aAv{v:AV}{ld:Bool}{old:Prop}:aKX fns W h0 base (some v) ld old d l i F S ps last Q↔(ld=true→bW v v=true∧old)∧fS fns W h0 base l i (cB d F v) S ps last Q:=by unfold aKX;rw[eS]
theorem aLl{a:vZ}:fS fns W h0 base (⟨d,.a a,none,m⟩::l) i F S ps last Q↔aI1 fns W h0 base (xL a F (base+i)) d l i F S ps last Q:=by
 rw[fS,if_pos (show eG none F=true from rfl)];rfl
theorem fC{r:AV×AB}:aI1 fns W h0 base (some r) d l i F S ps last Q↔fS fns W h0 base l (i+1) (cB d F r.1) S (⟨i,base+i,r.2⟩::ps) last Q:=by unfold aI1;rw[eS]
theorem aB4{f:cF}{args:List cF}(h:mE last m=true)(hw:fB fns (f.val F) (dF args F) ⟨(cA m ps S.h).2,S.nx⟩ fun v S1=>Same ⟨(cA m ps S.h).2,S.nx⟩ S1∧fS fns W h0 base l (i+1) (cB d F v) S1 (cA m ps S.h).1 (some i) Q):fS fns W h0 base (⟨d,.x (.call f args),none,m⟩::l) i F S ps last Q:=by
 rw[fS,if_pos (show eG none F=true from rfl)];exact⟨h,aO hw fun v S1 h=>⟨.inl h.1,h.2⟩⟩
theorem aDh{f:cF}{args:List cF}(h:mE last m=true)(hw:fB fns (f.val F) (dF args F) ⟨(cA m ps S.h).2,S.nx⟩ fun v S1=>aGI W base ⟨(cA m ps S.h).2,S.nx⟩ S1∧fS fns W h0 base l (i+1) (cB d F v) S1 (cA m ps S.h).1 (some i) Q):fS fns W h0 base (⟨d,.x (.call f args),none,m⟩::l) i F S ps last Q:=by
 rw[fS,if_pos (show eG none F=true from rfl)];exact⟨h,aO hw fun v S1 h=>⟨.inr h.1,h.2⟩⟩
theorem uN{n:Nat}{x v:cF}{S1:St}(h:mE last m=true)(he:aZ (v.val F).cells (fun cs=>kN (x.val F) n cs ⟨(cA m ps S.h).2,S.nx⟩)=some (.undef,S1))(ho:aGI W base ⟨(cA m ps S.h).2,S.nx⟩ S1)(hr:fS fns W h0 base l (i+1) (cB d F .undef) S1 (cA m ps S.h).1 (some i) Q):fS fns W h0 base (⟨d,.x (.st n x v),none,m⟩::l) i F S ps last Q:=by
 unfold fS;rw[if_pos (show eG none F=true from rfl)];exact⟨h,_,S1,fun call=>he,ho,hr⟩
theorem aL8{op:AOp}{s:Nat}{b:Bool}:fS fns W h0 base (⟨d,op,some (s,b),m⟩::l) i F S ps last Q↔if isB (aH s F) b=true then fS fns W h0 base (⟨d,op,none,m⟩::l) i F S ps last Q else fS fns W h0 base l (i+1) (cB d F .undef) S ps last Q:=by
 conv=>lhs;unfold fS
 rw[show eG (some (s,b)) F=isB (aH s F) b from rfl];split
 ·conv=>rhs;unfold fS
  rw[if_pos (show eG none F=true from rfl)]
 ·rfl
theorem aIL{agg:Bool}{n:Nat}{x:cF}:aHe W base (.ld agg n x) F↔aHY W base (x.val F):=by
 constructor
 ·rintro(⟨_,_,_,h,h2⟩ | ⟨_,_,_,_,_,_,h,_⟩)
  ·cases h;exact h2
  ·cases h
 ·exact fun h=>.inl ⟨_,_,_,rfl,h⟩
theorem aGJ{b off:Nat}:aHY W base (.ptr b off)↔b<base∧¬W b:=by
 constructor
 ·rintro⟨_,_,h,h2⟩;cases h;exact h2
 ·exact fun h=>⟨_,_,rfl,h⟩
end
theorem stV:type_of% (And.intro @aHk (And.intro @aIk (And.intro @aLl (And.intro @aL8 (@aBQ))))):=And.intro @aHk (And.intro @aIk (And.intro @aLl (And.intro @aL8 (@aBQ))))
theorem stW:type_of% (And.intro @aAv (And.intro @fC (And.intro @aIL (And.intro @aGJ (And.intro @bT (And.intro (@Am AO) (And.intro (@Bg AO) (And.intro (@Am AV) (And.intro (@Bg AV) (And.intro (@Am Nat) (@Bg Nat))))))))))):=And.intro @aAv (And.intro @fC (And.intro @aIL (And.intro @aGJ (And.intro @bT (And.intro (@Am AO) (And.intro (@Bg AO) (And.intro (@Am AV) (And.intro (@Bg AV) (And.intro (@Am Nat) (@Bg Nat))))))))))
theorem sU:type_of% (And.intro aB stV):=And.intro aB stV
theorem sD:type_of% (And.intro aA stW):=And.intro aA stW
theorem aKr(e:oZ){a b:Int}(hb:b≠0):eY .quo e (.int .i64 a) (.int .i64 b)=some (.int .i64 (IntKind.i64.wrap (a.tdiv b))):=by
 show dB .quo .i64 a .i64 b=_;unfold dB;rw[show eE .quo=false from rfl,aU,eI,aP];show aMh .i64 a b=_;unfold aMh;split
 ·rename_i m n;have h0:Nat.beq n 0=false:=by
   rw[Ch];intro h;rw[Aw] at h;subst h;exact hb rfl
  rw[h0,aU,nat_eq];rfl
 ·have h0:ieq b (.ofNat 0)=false:=by
   rw[Ch];intro h;rw[kG] at h;exact hb (by simpa using h)
  rw[h0,aU,tB]
theorem aKa(e:oZ){a b:Int}(ha:0≤a)(ha2:a≤9223372036854775807)(hb:0<b):eY .quo e (.int .i64 a) (.int .i64 b)=some (.int .i64 (a / b)):=by
 rw[aKr e (by omega),Int.tdiv_eq_ediv_of_nonneg ha];rw[wrap_i64]
 ·have:=Int.ediv_nonneg ha (Int.le_of_lt hb);omega
 ·have:=Int.ediv_le_self b ha;omega
def mx(a b:Int):Int:=if b≤a then a else b
theorem aF4(l:List cF)(F:Fr)(h:T AB):gT (.minmax true l) F h=lR true (dF l F):=rfl
theorem aMU(v:AV)(l:List AV):lR true (v::l)=jM true l v:=rfl
theorem aOP(v:AV):jM true [] v=some v:=rfl
theorem aOx(a b:Int)(l:List AV):jM true (.int .i64 b::l) (.int .i64 a)=jM true l (.int .i64 (mx a b)):=by
 show bK (keq .i64 .i64) (jM true l (.int .i64 (bK true (bK (ile b a) a b) _))) none=_;rw[eI,aP,aP];congr 2;unfold mx;rw[oS];by_cases h:b≤a
 ·rw[if_pos h,Ab h];rfl
 ·rw[if_neg h,Aa h];rfl
theorem aMx(t:Nat)(x:cF)(F:Fr)(id:Nat):xL (.box t x) F id=aZ (x.val F).cells fun cs=>some (.ptr id 0,.cells cs false 0):=rfl
theorem pM(t:Nat)(cs:List AV)(F:Fr)(id:Nat):xL (.alloc t cs) F id=some (.ptr id 0,.cells cs false 0):=rfl
theorem qP(f:Nat)(first cap:List cF)(F:Fr)(h:T AB):gT (.mkFunc f first cap) F h=some (.fn f (dF first F) (dF cap F)):=rfl
theorem mL(f:Nat)(first cap:List cF):dO (.mkFunc f first cap)=false:=rfl
theorem bE(cs:List AV):(AV.agg cs).cells=some cs:=rfl
theorem aE(i:Nat)(x:cF)(F:Fr)(h:T AB):gT (.faddr i x) F h=aAc (x.val F) i:=rfl
theorem aD(b o i:Nat):aAc (.ptr b o) i=some (.ptr b (o+i)):=rfl
theorem aW(i:Nat)(x:cF):dO (.faddr i x)=false:=rfl
theorem iV(z:List AV)(ps:List (Nat×Nat×cF)):dO (.build z ps)=false:=rfl
theorem fD(a:Nat)(agg:Bool)(n:Nat)(rs:List RV)(F:Fr)(h:T AB):results (.cell a agg n::rs) F h=aZ (cE (aH a F) agg n h) fun v=>aZ (results rs F h) fun vs=>some (v::vs):=rfl
section
variable {h:T AB}{b:Nat}{x y z:AV}{o:Bool}{s:Nat}
theorem kC(hb:h.get b=some (.cells [x,y,z] o s)):cE (.ptr b (0+0)) false 1 h=some x:=by
 simp only[cE,mO,aU,jL,cK,hb,aM,jE,kA];rfl
theorem aI3(hb:h.get b=some (.cells [x,y,z] o s)):cE (.ptr b (0+1)) false 1 h=some y:=by
 simp only[cE,mO,aU,jL,cK,hb,aM,jE,kA];rfl
theorem jR(hb:h.get b=some (.cells [x,y,z] o s)):cE (.ptr b (0+2)) false 1 h=some z:=by
 simp only[cE,mO,aU,jL,cK,hb,aM,jE,kA];rfl
theorem ld3(hb:h.get b=some (.cells [x,y,z] o s)):cE (.ptr b 0) true 3 h=some (.agg [x,y,z]):=by
 simp only[cE,mO,aP,wQ,cK,hb,aM,jE];rfl
end
theorem aIF{S:St}{b n:Nat}{cs cs':List AV}{o:Bool}{s:Nat}(h:S.h.get b=some (.cells cs o s))(h1:cs.length=n)(h2:cs'.length=n):kN (.ptr b 0) n cs' S=some (.undef,⟨S.h.set b (some (.cells cs' o s)),S.nx⟩):=by
 have hp:put cs 0 cs'=some cs':=by
  rw[put_eq,if_pos (by omega)];simp [Dc (show cs.length≤cs'.length by omega)]
 simp only[kN,dZ,h2,oT,h,aM,wA,hp];rw[show Nat.beq n n=true from Nat.beq_refl n];rfl
theorem cL{d t m:Nat}{x:cF}{l:List AO}{F:Fr}{S:St}{Q:Fr→St→Prop}{cs:List AV}(hc:(x.val F).cells=some cs)(h:∀S1,Same S S1→S1.nx=S.nx+1→S1.h.get S.nx=some (.cells cs false 0)→uZ fns l (cB (some d) F (.ptr S.nx 0)) S1 Q):uZ fns (⟨some d,.a (.box t x),none,m⟩::l) F S Q:=by
 rw[aBQ];refine⟨(.ptr S.nx 0,.cells cs false 0),by rw[aMx,hc];rfl,h _ (Same.alloc S _) rfl ?_⟩;simp only;rw[T.get_set,if_pos rfl]
theorem cD{d t m:Nat}{l:List AO}{F:Fr}{S:St}{Q:Fr→St→Prop}{cs:List AV}(h:∀S1,Same S S1→S1.nx=S.nx+1→S1.h.get S.nx=some (.cells cs false 0)→uZ fns l (cB (some d) F (.ptr S.nx 0)) S1 Q):uZ fns (⟨some d,.a (.alloc t cs),none,m⟩::l) F S Q:=by
 rw[aBQ];refine⟨(.ptr S.nx 0,.cells cs false 0),rfl,h _ (Same.alloc S _) rfl ?_⟩;simp only;rw[T.get_set,if_pos rfl]
theorem eF{n m b s:Nat}{x v:cF}{l:List AO}{F:Fr}{S:St}{Q:Fr→St→Prop}{cs cs':List AV}{o:Bool}(hx:x.val F= .ptr b 0)(hv:(v.val F).cells=some cs')(hb:S.h.get b=some (.cells cs o s))(h1:cs.length=n)(h2:cs'.length=n)
  (h:∀S1,bB b S S1→S1.nx=S.nx→S1.h.get b=some (.cells cs' o s)→uZ fns l F S1 Q):uZ fns (⟨none,.x (.st n x v),none,m⟩::l) F S Q:=by
 refine eT (v:=.undef) (fun call=>?_) (h ⟨S.h.set b (some (.cells cs' o s)),S.nx⟩ ((bB.refl b S).put _) rfl ?_)
 ·rw[dN,hv,aM,hx];exact aIF hb h1 h2
 ·simp only;rw[T.get_set,if_pos rfl]
theorem dM(W:Nat→Prop){ops:List AO}{A:bH}{S:St}{Q:Out→bH→St→Prop}(h:∀S1,Same S S1→fS fns W S.h S.nx ops 0 A.F S1 [] none fun F S' ps=>Q .normal ⟨F,A.inr⟩ ⟨(cA (2 ^ ops.length - 1) ps S'.h).2,S'.nx⟩):nO fns (.drw ops) A S Q:=aI2 W (h _ (Same.nx S _))
section
variable {W:Nat→Prop}{h0:T AB}{base:Nat}{d:Option Nat}{m i:Nat}{l:List AO}{F:Fr}{S:St}{last:Option Nat}{Q:Fr→St→List jQ→Prop}
theorem bS{f:cF}{args:List cF}(h:mE last m=true)(hw:fB fns (f.val F) (dF args F) S fun v S1=>Same S S1∧fS fns W h0 base l (i+1) (cB d F v) S1 [] (some i) Q):fS fns W h0 base (⟨d,.x (.call f args),none,m⟩::l) i F S [] last Q:=
 aB4 h hw
end
theorem eC(b:Bool):unV .not (.bool b)=some (.bool (!b)):=by cases b<;>rfl
theorem aOo:eZ (.int .i64 0)=some 0:=rfl
end Go.Ev.Gl
