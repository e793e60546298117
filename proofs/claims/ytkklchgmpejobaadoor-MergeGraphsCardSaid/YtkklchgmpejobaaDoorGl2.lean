import Derived.Test.YtkklchgmpejobaaDoorGl1
set_option maxHeartbeats 16000000
set_option linter.unusedSimpArgs false
set_option linter.unusedVariables false
namespace Go.Ev.Gl
variable {fns:T cR}
def kF(last:Option Nat)(m:Nat):Bool:=
 match last with
 | none=>true
 | some i=>Nat.testBit m i
def aGI(W:Nat→Prop)(base:Nat)(v:AV):Prop:=∃b off,v= .ptr b off∧b<base∧¬W b
def aFD(W:Nat→Prop)(base:Nat)(q:xO)(F:Fr):Prop:=(∃agg n x,q= .ld agg n x∧aGI W base (x.val F))∨∃sk z ok m k b,q= .lookup sk z ok m k∧m.val F= .map b∧b<base∧¬W b
def aFp(W:Nat→Prop)(base:Nat)(S S':St):Prop:=S.nx≤S'.nx∧∀b,b<base→¬W b→S'.h.get b=S.h.get b
def eS(fns:T cR)(W:Nat→Prop)(h0:T AB)(base:Nat):List AO→Nat→Fr→St→List iE→Option Nat→(Fr→St→List iE→Prop)→Prop
 | [],_,F,S,ps,_,Q=>Q F S ps
 | ⟨d,op,g,m⟩::l,i,F,S,ps,last,Q=>
  if dL g F=true then
   match op with
   | .q q=>iY (gB q F (bG (dE q) h0 S.h)) fun v=>(dE q=true→bW v v=true∧aFD W base q F)∧eS fns W h0 base l (i+1) (bY d F v) S ps last Q
   | .a a=>iY (uP a F (base+i)) fun r=>eS fns W h0 base l (i+1) (bY d F r.1) S (⟨i,base+i,r.2⟩::ps) last Q
   | .x (.call f args)=>kF last m=true∧fH fns (f.val F) (cM args F) ⟨(bV m ps S.h).2,S.nx⟩ fun v S1=>(Same ⟨(bV m ps S.h).2,S.nx⟩ S1∨aFp W base ⟨(bV m ps S.h).2,S.nx⟩ S1)∧eS fns W h0 base l (i+1) (bY d F v) S1 (bV m ps S.h).1 (some i) Q
   | .x (.inv tbl r args)=>kF last m=true∧∃t f u,r.val F= .iface t u∧tO t tbl=some (f,none)∧fH fns (.fn f [u] []) (cM args F) ⟨(bV m ps S.h).2,S.nx⟩ fun v S1=>Same ⟨(bV m ps S.h).2,S.nx⟩ S1∧eS fns W h0 base l (i+1) (bY d F v) S1 (bV m ps S.h).1 (some i) Q
   | .x x=>kF last m=true∧∃v S1,(∀call,zF x call F ⟨(bV m ps S.h).2,S.nx⟩=some (v,S1))∧aFp W base ⟨(bV m ps S.h).2,S.nx⟩ S1∧eS fns W h0 base l (i+1) (bY d F v) S1 (bV m ps S.h).1 (some i) Q
  else eS fns W h0 base l (i+1) (bY d F .undef) S ps last Q
structure DOk(W:Nat→Prop)(h0:T AB)(base:Nat)(D:DS):Prop where
 cur:∀b,b<base→¬W b→D.S.h.get b=h0.get b
 nx:base≤D.S.nx
 chain:∀e∈D.hs,∀b,b<base→¬W b→e.2.2.get b=h0.get b
 lds:∀l∈D.ls,bW l.v l.v=true∧aFD W base l.q l.F∧gB l.q l.F h0=some l.v
 pend:∀p∈D.ps,base≤p.id
theorem aFD.ev{W:Nat→Prop}{base:Nat}{q:xO}{F:Fr}(h:aFD W base q F){h0 h1:T AB}(hh:∀b,b<base→¬W b→h1.get b=h0.get b):gB q F h1=gB q F h0:=by
 rcases h with⟨agg,n,x,rfl,b,off,hx,hb,hw⟩ | ⟨sk,z,ok,m,k,b,rfl,hx,hb,hw⟩
 ·rw[kH,kH,hx];have e:cK h1 b=cK h0 b:=by unfold cK;rw[hh b hb hw]
  simp only[cJ,lL,tZ,iJ,e]
 ·show(aW (oJ h1 (m.val F)) fun es=>_)=aW (oJ h0 (m.val F)) fun es=>_;rw[hx];show(aW (aW (h1.get b) pP) fun es=>_)=aW (aW (h0.get b) pP) fun es=>_;rw[hh b hb hw]
theorem zK{base b:Nat}(hb:b<base){m:Nat}:∀ {ps:List iE} {h:T AB},(∀p∈ps,base≤p.id)→(bV m ps h).2.get b=h.get b
 | [],h,_=>rfl
 | p::ps,h,hp=>by
  have h1:=hp p (by simp);have h2:∀q∈ps,base≤q.id:=fun q hq=>hp q (by simp [hq]);unfold bV;cases Nat.testBit m p.i with
  | true=>rw[aM,zK hb h2,T.get_set,if_neg (by omega)]
  | false=>rw[aT];exact zK hb h2
theorem aAd{base:Nat}{m:Nat}:∀ {ps:List iE} {h:T AB},(∀p∈ps,base≤p.id)→∀p∈(bV m ps h).1,base≤p.id
 | [],h,_,p,hp=>by cases hp
 | p::ps,h,hq,r,hr=>by
  have h2:∀q∈ps,base≤q.id:=fun q hx=>hq q (by simp [hx]);unfold bV at hr;cases ht:Nat.testBit m p.i with
  | true=>rw[ht,aM] at hr;exact aAd h2 r hr
  | false=>
   rw[ht,aT] at hr;rcases Bf.1 hr with rfl | hr
   ·exact hq r (by simp)
   ·exact aAd h2 r hr
theorem aDe{W:Nat→Prop}{h0:T AB}{base:Nat}{l:jN}(h:bW l.v l.v=true∧aFD W base l.q l.F∧gB l.q l.F h0=some l.v):∀ {hs:List (Nat×Nat×T AB)} {h1:T AB},(∀e∈hs,∀b,b<base→¬W b→e.2.2.get b=h0.get b)→(∀b,b<base→¬W b→h1.get b=h0.get b)→eC l hs h1=true
 | [],h1,_,hh=>by
  show mO l.v (gB l.q l.F h1)=true;rw[h.2.1.ev hh,h.2.2];exact h.1
 | (i,m,h')::r,h1,hs,hh=>by
  have e1:mO l.v (gB l.q l.F h1)=true:=by rw[h.2.1.ev hh,h.2.2];exact h.1
  have e2:eC l r h'=true:=aDe h (fun e he=>hs e (by simp [he])) (hs (i,m,h') (by simp));unfold eC;rw[e1,e2];cases Nat.testBit l.mask i<;>cases Nat.testBit m l.i<;>rfl
theorem nL{h0:T AB}{hs:List (Nat×Nat×T AB)}:∀ {ls:List jN},(∀l∈ls,eC l hs h0=true)→eO h0 hs ls=true
 | [],_=>rfl
 | l::ls,h=>by rw[lJ,h l (by simp),aM];exact nL fun l' hl=>h l' (by simp [hl])
theorem aK7{d:Option Nat}{tbl:List (Nat×Nat×Option (Bool×Nat))}{recv:cC}{args:List cC}{m i base:Nat}{l:List AO}{D:DS}{Q:DS→Prop}{t f:Nat}{u:AV}(hr:recv.val D.F= .iface t u)(hf:tO t tbl=some (f,none))(h:vU fns (⟨d,.x (.call (.c (.fn f [u] [])) args),none,m⟩::l) i base D Q):vU fns (⟨d,.x (.inv tbl recv args),none,m⟩::l) i base D Q:=by
 obtain⟨n,D',e1,e2⟩:=h;refine⟨n,D',?_,e2⟩;have e:qO ⟨d,.x (.inv tbl recv args),none,m⟩ i base (ev fns n).call D=qO ⟨d,.x (.call (.c (.fn f [u] [])) args),none,m⟩ i base (ev fns n).call D:=by
  show bG (iQ D.hs m) (aW (zF (.inv tbl recv args) (ev fns n).call D.F ⟨(bV m D.ps D.S.h).2,D.S.nx⟩) _) none=bG (iQ D.hs m) (aW (zF (.call (.c (.fn f [u] [])) args) (ev fns n).call D.F ⟨(bV m D.ps D.S.h).2,D.S.nx⟩) _) none;rw[aKp hr hf]
 show aW (qO ⟨d,.x (.inv tbl recv args),none,m⟩ i base (ev fns n).call D) _=_;rw[e];exact e1
theorem lN{W:Nat→Prop}{h0:T AB}{base:Nat}{Q:Fr→St→List iE→Prop}:∀ {ops:List AO} {i:Nat} {D:DS} {last:Option Nat},DOk W h0 base D→D.hs.head?.map (·.1)=last→eS fns W h0 base ops i D.F D.S D.ps last Q→
  vU fns ops i base D fun D'=>Q D'.F D'.S D'.ps∧DOk W h0 base D'
 | [],i,D,last,hD,_,hr=>by rw[jY];exact⟨hr,hD⟩
 | ⟨d,op,g,m⟩::l,i,D,last,hD,hlast,hr=>by
  have hlk:kF last m=true→iQ D.hs m=true:=fun h=>by
   subst hlast;cases hh:D.hs with
   | nil=>rfl
   | cons e r=>rw[hh] at h;exact h
  unfold eS at hr;by_cases hw:dL g D.F=true
  ·rw[if_pos hw] at hr;have lift:vU fns (⟨d,op,none,m⟩::l) i base D (fun D'=>Q D'.F D'.S D'.ps∧DOk W h0 base D')→vU fns (⟨d,op,g,m⟩::l) i base D (fun D'=>Q D'.F D'.S D'.ps∧DOk W h0 base D'):=by
    rintro⟨n,D',e1,e2⟩;refine⟨n,D',?_,e2⟩;have:qO ⟨d,op,g,m⟩ i base (ev fns n).call D=qO ⟨d,op,none,m⟩ i base (ev fns n).call D:=by
     show bG (dL g D.F) _ _=bG true _ _;rw[hw];cases op<;>rfl
    show aW (qO ⟨d,op,g,m⟩ i base (ev fns n).call D) _=_;rw[this];exact e1
   apply lift;cases op with
   | q q=>
    obtain⟨v,hv,hs,hr⟩:=hr;rw[lM];cases hq:dE q with
    | false=>
     rw[hq,aT] at hv;refine⟨v,hv,?_⟩;simp only[aT];exact lN (D:=⟨bY d D.F v,D.S,D.ps,D.hs,D.ls⟩) ⟨hD.cur,hD.nx,hD.chain,hD.lds,hD.pend⟩ hlast hr
    | true=>
     rw[hq,aM] at hv;obtain⟨hs1,hs2⟩:=hs hq;refine⟨v,by rw[hs2.ev hD.cur];exact hv,?_⟩;simp only[aM];refine lN (D:=⟨bY d D.F v,D.S,D.ps,D.hs,⟨q,D.F,v,i,m⟩::D.ls⟩) ⟨hD.cur,hD.nx,hD.chain,fun l' hl=>?_,hD.pend⟩ hlast hr;rcases Bf.1 hl with rfl | hl
     ·exact⟨hs1,hs2,hv⟩
     ·exact hD.lds l' hl
   | a a=>
    obtain⟨r,hv,hr⟩:=hr;rw[aGl];refine⟨r,hv,lN (D:=⟨bY d D.F r.1,D.S,⟨i,base+i,r.2⟩::D.ps,D.hs,D.ls⟩) ⟨hD.cur,hD.nx,hD.chain,hD.lds,fun p hp=>?_⟩ hlast hr⟩;rcases Bf.1 hp with rfl | hp
    ·exact Er _ _
    ·exact hD.pend p hp
   | x x=>
    have next:∀ (v:AV) (S1:St),aFp W base ⟨(bV m D.ps D.S.h).2,D.S.nx⟩ S1→DOk W h0 base ⟨bY d D.F v,S1,(bV m D.ps D.S.h).1,(i,m,S1.h)::D.hs,D.ls⟩:=fun v S1 hS=>by
     have hc:∀b,b<base→¬W b→S1.h.get b=h0.get b:=fun b hb hw=>by
      rw[hS.2 b hb hw];show(bV m D.ps D.S.h).2.get b=_;rw[zK hb hD.pend];exact hD.cur b hb hw
     refine⟨hc,Ax hD.nx hS.1,fun e he=>?_,hD.lds,aAd hD.pend⟩;rcases Bf.1 he with rfl | he
     ·exact hc
     ·exact hD.chain e he
    have other:(∀f args,x≠ .call f args)→(∀tbl r args,x≠ .inv tbl r args)→(kF last m=true∧∃v S1,(∀call,zF x call D.F ⟨(bV m D.ps D.S.h).2,D.S.nx⟩=some (v,S1))∧aFp W base ⟨(bV m D.ps D.S.h).2,D.S.nx⟩ S1∧eS fns W h0 base l (i+1) (bY d D.F v) S1 (bV m D.ps D.S.h).1 (some i) Q)→vU fns (⟨d,.x x,none,m⟩::l) i base D (fun D'=>Q D'.F D'.S D'.ps∧DOk W h0 base D'):=by
     rintro _ _ ⟨h1,v,S1,h2,h3,h4⟩;exact oG (hlk h1) h2 (lN (D:=⟨bY d D.F v,S1,(bV m D.ps D.S.h).1,(i,m,S1.h)::D.hs,D.ls⟩) (next v S1 h3) rfl h4)
    cases x with
    | call f args=>
     obtain⟨h1,n,v,S1,h2,h3,h4⟩:=hr;refine aCk (hlk h1) ⟨n,v,S1,h2,?_⟩;exact lN (D:=⟨bY d D.F v,S1,(bV m D.ps D.S.h).1,(i,m,S1.h)::D.hs,D.ls⟩) (next v S1 (h3.elim (fun h3=>⟨h3.1,fun b hb _=>h3.2 b (Ae hb hD.nx)⟩) id)) rfl h4
    | inv tbl r args=>
     obtain⟨h1,t,f,u,hu,hf,n,v,S1,h2,h3,h4⟩:=hr;refine aK7 hu hf (aCk (hlk h1) ⟨n,v,S1,h2,?_⟩);exact lN (D:=⟨bY d D.F v,S1,(bV m D.ps D.S.h).1,(i,m,S1.h)::D.hs,D.ls⟩) (next v S1 ⟨h3.1,fun b hb _=>h3.2 b (Ae hb hD.nx)⟩) rfl h4
    | _=>exact other (fun _ _ h=>by cases h) (fun _ _ _ h=>by cases h) hr
  ·rw[if_neg hw] at hr;obtain⟨n,D',e1,e2⟩:=lN (i:=i+1) (D:=⟨bY d D.F .undef,D.S,D.ps,D.hs,D.ls⟩) (last:=last) ⟨hD.cur,hD.nx,hD.chain,hD.lds,hD.pend⟩ hlast hr;refine⟨n,D',?_,e2⟩;have:qO ⟨d,op,g,m⟩ i base (ev fns n).call D=some ⟨bY d D.F .undef,D.S,D.ps,D.hs,D.ls⟩:=by
    show bG (dL g D.F) _ _=_;rw[show dL g D.F=false by simpa using hw];rfl
   show aW (qO ⟨d,op,g,m⟩ i base (ev fns n).call D) _=_;rw[this];exact e1
theorem aGX(W:Nat→Prop){ops:List AO}{A:bK}{S:St}{Q:Out→bK→St→Prop}(h:eS fns W S.h S.nx ops 0 A.F ⟨S.h,S.nx+ops.length⟩ [] none fun F S' ps=>Q .normal ⟨F,A.inr⟩ ⟨(bV (2 ^ ops.length - 1) ps S'.h).2,S'.nx⟩):oL fns (.drw ops) A S Q:=by
 refine rJ ?_;obtain⟨n,D',e1,e2,e3⟩:=lN (fns:=fns) (i:=0) (D:=⟨A.F,⟨S.h,S.nx+ops.length⟩,[],[],[]⟩) (last:=none) ⟨fun _ _ _=>rfl,Er _ _,fun e he=>(by cases he),fun l hl=>(by cases hl),fun p hp=>(by cases hp)⟩ rfl h;exact⟨n,D',e1,nL fun l hl=>aDe (e3.lds l hl) (fun e he=>e3.chain e (List.mem_reverse.1 he)) (fun _ _ _=>rfl),e2⟩
def aJl(fns:T cR)(W:Nat→Prop)(h0:T AB)(base:Nat)(x:Option AV)(ld:Bool)(old:Prop)(d:Option Nat)(l:List AO)(i:Nat)(F:Fr)(S:St)(ps:List iE)(last:Option Nat)(Q:Fr→St→List iE→Prop):Prop:=iY x fun v=>(ld=true→bW v v=true∧old)∧eS fns W h0 base l i (bY d F v) S ps last Q
def aHb(fns:T cR)(W:Nat→Prop)(h0:T AB)(base:Nat)(x:Option (AV×AB))(d:Option Nat)(l:List AO)(i:Nat)(F:Fr)(S:St)(ps:List iE)(last:Option Nat)(Q:Fr→St→List iE→Prop):Prop:=iY x fun r=>eS fns W h0 base l (i+1) (bY d F r.1) S (⟨i,base+i,r.2⟩::ps) last Q
section
variable {W:Nat→Prop}{h0:T AB}{base:Nat}{d:Option Nat}{m i:Nat}{l:List AO}{F:Fr}{S:St}{ps:List iE}{last:Option Nat}{Q:Fr→St→List iE→Prop}
theorem aFF:eS fns W h0 base [] i F S ps last Q↔Q F S ps:=Iff.rfl
theorem aGb{q:xO}:eS fns W h0 base (⟨d,.q q,none,m⟩::l) i F S ps last Q↔aJl fns W h0 base (gB q F (bG (dE q) h0 S.h)) (dE q) (aFD W base q F) d l (i+1) F S ps last Q:=by
 rw[eS,if_pos (show dL none F=true from rfl)];rfl
theorem xF{v:AV}{ld:Bool}{old:Prop}:aJl fns W h0 base (some v) ld old d l i F S ps last Q↔(ld=true→bW v v=true∧old)∧eS fns W h0 base l i (bY d F v) S ps last Q:=by unfold aJl;rw[dH]
theorem aIF{a:uG}:eS fns W h0 base (⟨d,.a a,none,m⟩::l) i F S ps last Q↔aHb fns W h0 base (uP a F (base+i)) d l i F S ps last Q:=by
 rw[eS,if_pos (show dL none F=true from rfl)];rfl
theorem eK{r:AV×AB}:aHb fns W h0 base (some r) d l i F S ps last Q↔eS fns W h0 base l (i+1) (bY d F r.1) S (⟨i,base+i,r.2⟩::ps) last Q:=by unfold aHb;rw[dH]
theorem aAA{f:cC}{args:List cC}(h:kF last m=true)(hw:fH fns (f.val F) (cM args F) ⟨(bV m ps S.h).2,S.nx⟩ fun v S1=>Same ⟨(bV m ps S.h).2,S.nx⟩ S1∧eS fns W h0 base l (i+1) (bY d F v) S1 (bV m ps S.h).1 (some i) Q):eS fns W h0 base (⟨d,.x (.call f args),none,m⟩::l) i F S ps last Q:=by
 rw[eS,if_pos (show dL none F=true from rfl)];exact⟨h,aP hw fun v S1 h=>⟨.inl h.1,h.2⟩⟩
theorem aGN{f:cC}{args:List cC}(h:kF last m=true)(hw:fH fns (f.val F) (cM args F) ⟨(bV m ps S.h).2,S.nx⟩ fun v S1=>aFp W base ⟨(bV m ps S.h).2,S.nx⟩ S1∧eS fns W h0 base l (i+1) (bY d F v) S1 (bV m ps S.h).1 (some i) Q):eS fns W h0 base (⟨d,.x (.call f args),none,m⟩::l) i F S ps last Q:=by
 rw[eS,if_pos (show dL none F=true from rfl)];exact⟨h,aP hw fun v S1 h=>⟨.inr h.1,h.2⟩⟩
theorem rF{n:Nat}{x v:cC}{S1:St}(h:kF last m=true)(he:aW (v.val F).cells (fun cs=>lO (x.val F) n cs ⟨(bV m ps S.h).2,S.nx⟩)=some (.undef,S1))(ho:aFp W base ⟨(bV m ps S.h).2,S.nx⟩ S1)(hr:eS fns W h0 base l (i+1) (bY d F .undef) S1 (bV m ps S.h).1 (some i) Q):eS fns W h0 base (⟨d,.x (.st n x v),none,m⟩::l) i F S ps last Q:=by
 unfold eS;rw[if_pos (show dL none F=true from rfl)];exact⟨h,_,S1,fun call=>he,ho,hr⟩
theorem aI4{op:AOp}{s:Nat}{b:Bool}:eS fns W h0 base (⟨d,op,some (s,b),m⟩::l) i F S ps last Q↔if isB (aH s F) b=true then eS fns W h0 base (⟨d,op,none,m⟩::l) i F S ps last Q else eS fns W h0 base l (i+1) (bY d F .undef) S ps last Q:=by
 conv=>lhs;unfold eS
 rw[show dL (some (s,b)) F=isB (aH s F) b from rfl];split
 ·conv=>rhs;unfold eS
  rw[if_pos (show dL none F=true from rfl)]
 ·rfl
theorem aHg{agg:Bool}{n:Nat}{x:cC}:aFD W base (.ld agg n x) F↔aGI W base (x.val F):=by
 constructor
 ·rintro(⟨_,_,_,h,h2⟩ | ⟨_,_,_,_,_,_,h,_⟩)
  ·cases h;exact h2
  ·cases h
 ·exact fun h=>.inl ⟨_,_,_,rfl,h⟩
theorem aE0{b off:Nat}:aGI W base (.ptr b off)↔b<base∧¬W b:=by
 constructor
 ·rintro⟨_,_,h,h2⟩;cases h;exact h2
 ·exact fun h=>⟨_,_,rfl,h⟩
end
theorem stV:type_of% (And.intro @aFF (And.intro @aGb (And.intro @aIF (And.intro @aI4 (@aAl))))):=And.intro @aFF (And.intro @aGb (And.intro @aIF (And.intro @aI4 (@aAl))))
theorem stW:type_of% (And.intro @xF (And.intro @eK (And.intro @aHg (And.intro @aE0 (And.intro @bR (And.intro (@Al AO) (And.intro (@Az AO) (And.intro (@Al AV) (And.intro (@Az AV) (And.intro (@Al Nat) (@Az Nat))))))))))):=And.intro @xF (And.intro @eK (And.intro @aHg (And.intro @aE0 (And.intro @bR (And.intro (@Al AO) (And.intro (@Az AO) (And.intro (@Al AV) (And.intro (@Az AV) (And.intro (@Al Nat) (@Az Nat))))))))))
theorem sU:type_of% (And.intro aA stV):=And.intro aA stV
theorem sD:type_of% (And.intro aB stW):=And.intro aB stW
theorem aHW(e:mM){a b:Int}(hb:b≠0):eB .quo e (.int .i64 a) (.int .i64 b)=some (.int .i64 (IntKind.i64.wrap (a.tdiv b))):=by
 show cI .quo .i64 a .i64 b=_;unfold cI;rw[show dJ .quo=false from rfl,aT,dK,aM];show aJW .i64 a b=_;unfold aJW;split
 ·rename_i m n;have h0:Nat.beq n 0=false:=by
   rw[Cf];intro h;rw[Aq] at h;subst h;exact hb rfl
  rw[h0,aT,nat_eq];rfl
 ·have h0:ieq b (.ofNat 0)=false:=by
   rw[Cf];intro h;rw[iD] at h;exact hb (by simpa using h)
  rw[h0,aT,qH]
theorem aIo(e:mM){a b:Int}(ha:0≤a)(ha2:a≤9223372036854775807)(hb:0<b):eB .quo e (.int .i64 a) (.int .i64 b)=some (.int .i64 (a / b)):=by
 rw[aHW e (by omega),Int.tdiv_eq_ediv_of_nonneg ha];rw[wrap_i64]
 ·have:=Int.ediv_nonneg ha (Int.le_of_lt hb);omega
 ·have:=Int.ediv_le_self b ha;omega
def mx(a b:Int):Int:=if b≤a then a else b
theorem aD1(l:List cC)(F:Fr)(h:T AB):gB (.minmax true l) F h=mE true (cM l F):=rfl
theorem aLo(v:AV)(l:List AV):mE true (v::l)=jE true l v:=rfl
theorem aMw(v:AV):jE true [] v=some v:=rfl
theorem aLW(a b:Int)(l:List AV):jE true (.int .i64 b::l) (.int .i64 a)=jE true l (.int .i64 (mx a b)):=by
 show bG (keq .i64 .i64) (jE true l (.int .i64 (bG true (bG (ile b a) a b) _))) none=_;rw[dK,aM,aM];congr 2;unfold mx;rw[oC];by_cases h:b≤a
 ·rw[if_pos h,Ab h];rfl
 ·rw[if_neg h,Aa h];rfl
theorem aKv(t:Nat)(x:cC)(F:Fr)(id:Nat):uP (.box t x) F id=aW (x.val F).cells fun cs=>some (.ptr id 0,.cells cs false 0):=rfl
theorem qL(t:Nat)(cs:List AV)(F:Fr)(id:Nat):uP (.alloc t cs) F id=some (.ptr id 0,.cells cs false 0):=rfl
theorem tE(f:Nat)(first cap:List cC)(F:Fr)(h:T AB):gB (.mkFunc f first cap) F h=some (.fn f (cM first F) (cM cap F)):=rfl
theorem oV(f:Nat)(first cap:List cC):dE (.mkFunc f first cap)=false:=rfl
theorem bL(cs:List AV):(AV.agg cs).cells=some cs:=rfl
theorem aF(i:Nat)(x:cC)(F:Fr)(h:T AB):gB (.faddr i x) F h=xC (x.val F) i:=rfl
theorem aE(b o i:Nat):xC (.ptr b o) i=some (.ptr b (o+i)):=rfl
theorem aU(i:Nat)(x:cC):dE (.faddr i x)=false:=rfl
theorem lI(z:List AV)(ps:List (Nat×Nat×cC)):dE (.build z ps)=false:=rfl
theorem gL(a:Nat)(agg:Bool)(n:Nat)(rs:List RV)(F:Fr)(h:T AB):results (.cell a agg n::rs) F h=aW (cJ (aH a F) agg n h) fun v=>aW (results rs F h) fun vs=>some (v::vs):=rfl
section
variable {h:T AB}{b:Nat}{x y z:AV}{o:Bool}{s:Nat}
theorem iW(hb:h.get b=some (.cells [x,y,z] o s)):cJ (.ptr b (0+0)) false 1 h=some x:=by
 simp only[cJ,lL,aT,iJ,cK,hb,aO,gT,iO];rfl
theorem aHn(hb:h.get b=some (.cells [x,y,z] o s)):cJ (.ptr b (0+1)) false 1 h=some y:=by
 simp only[cJ,lL,aT,iJ,cK,hb,aO,gT,iO];rfl
theorem iT(hb:h.get b=some (.cells [x,y,z] o s)):cJ (.ptr b (0+2)) false 1 h=some z:=by
 simp only[cJ,lL,aT,iJ,cK,hb,aO,gT,iO];rfl
theorem ld3(hb:h.get b=some (.cells [x,y,z] o s)):cJ (.ptr b 0) true 3 h=some (.agg [x,y,z]):=by
 simp only[cJ,lL,aM,tZ,cK,hb,aO,gT];rfl
end
theorem aHj{S:St}{b n:Nat}{cs cs':List AV}{o:Bool}{s:Nat}(h:S.h.get b=some (.cells cs o s))(h1:cs.length=n)(h2:cs'.length=n):lO (.ptr b 0) n cs' S=some (.undef,⟨S.h.set b (some (.cells cs' o s)),S.nx⟩):=by
 have hp:put cs 0 cs'=some cs':=by
  rw[put_eq,if_pos (by omega)];simp [Cr (show cs.length≤cs'.length by omega)]
 simp only[lO,dI,h2,pN,h,aO,vZ,hp];rw[show Nat.beq n n=true from Nat.beq_refl n];rfl
theorem cW{d t m:Nat}{x:cC}{l:List AO}{F:Fr}{S:St}{Q:Fr→St→Prop}{cs:List AV}(hc:(x.val F).cells=some cs)(h:∀S1,Same S S1→S1.nx=S.nx+1→S1.h.get S.nx=some (.cells cs false 0)→qU fns l (bY (some d) F (.ptr S.nx 0)) S1 Q):qU fns (⟨some d,.a (.box t x),none,m⟩::l) F S Q:=by
 rw[aAl];refine⟨(.ptr S.nx 0,.cells cs false 0),by rw[aKv,hc];rfl,h _ (Same.alloc S _) rfl ?_⟩;simp only;rw[T.get_set,if_pos rfl]
theorem dB{d t m:Nat}{l:List AO}{F:Fr}{S:St}{Q:Fr→St→Prop}{cs:List AV}(h:∀S1,Same S S1→S1.nx=S.nx+1→S1.h.get S.nx=some (.cells cs false 0)→qU fns l (bY (some d) F (.ptr S.nx 0)) S1 Q):qU fns (⟨some d,.a (.alloc t cs),none,m⟩::l) F S Q:=by
 rw[aAl];refine⟨(.ptr S.nx 0,.cells cs false 0),rfl,h _ (Same.alloc S _) rfl ?_⟩;simp only;rw[T.get_set,if_pos rfl]
theorem gH{n m b s:Nat}{x v:cC}{l:List AO}{F:Fr}{S:St}{Q:Fr→St→Prop}{cs cs':List AV}{o:Bool}(hx:x.val F= .ptr b 0)(hv:(v.val F).cells=some cs')(hb:S.h.get b=some (.cells cs o s))(h1:cs.length=n)(h2:cs'.length=n)
  (h:∀S1,bB b S S1→S1.nx=S.nx→S1.h.get b=some (.cells cs' o s)→qU fns l F S1 Q):qU fns (⟨none,.x (.st n x v),none,m⟩::l) F S Q:=by
 refine eZ (v:=.undef) (fun call=>?_) (h ⟨S.h.set b (some (.cells cs' o s)),S.nx⟩ ((bB.refl b S).put _) rfl ?_)
 ·rw[dN,hv,aO,hx];exact aHj hb h1 h2
 ·simp only;rw[T.get_set,if_pos rfl]
theorem dC(W:Nat→Prop){ops:List AO}{A:bK}{S:St}{Q:Out→bK→St→Prop}(h:∀S1,Same S S1→eS fns W S.h S.nx ops 0 A.F S1 [] none fun F S' ps=>Q .normal ⟨F,A.inr⟩ ⟨(bV (2 ^ ops.length - 1) ps S'.h).2,S'.nx⟩):oL fns (.drw ops) A S Q:=aGX W (h _ (Same.nx S _))
section
variable {W:Nat→Prop}{h0:T AB}{base:Nat}{d:Option Nat}{m i:Nat}{l:List AO}{F:Fr}{S:St}{last:Option Nat}{Q:Fr→St→List iE→Prop}
theorem cF{f:cC}{args:List cC}(h:kF last m=true)(hw:fH fns (f.val F) (cM args F) S fun v S1=>Same S S1∧eS fns W h0 base l (i+1) (bY d F v) S1 [] (some i) Q):eS fns W h0 base (⟨d,.x (.call f args),none,m⟩::l) i F S [] last Q:=
 aAA h hw
end
theorem eH(b:Bool):unV .not (.bool b)=some (.bool (!b)):=by cases b<;>rfl
theorem aLS:eG (.int .i64 0)=some 0:=rfl
end Go.Ev.Gl
