import Derived.Test.YtkklchgmpejobaaGreatDoorGl1
set_option maxHeartbeats 16000000
set_option linter.unusedSimpArgs false
set_option linter.unusedVariables false
namespace Go.Ev.Gl
variable {fns:T cV}
def mC(last:Option Nat)(m:Nat):Bool:=
 match last with
 | none=>true
 | some i=>Nat.testBit m i
def aJY(W:Nat→Prop)(base:Nat)(v:AV):Prop:=∃b off,v= .ptr b off∧b<base∧¬W b
def aFa(W:Nat→Prop)(base:Nat)(q:zW)(F:Fr):Prop:=(∃agg n x,q= .ld agg n x∧aJY W base (x.val F))∨∃sk z ok m k b,q= .lookup sk z ok m k∧m.val F= .map b∧b<base∧¬W b
def aFb(W:Nat→Prop)(base:Nat)(S S':St):Prop:=S.nx≤S'.nx∧∀b,b<base→¬W b→S'.h.get b=S.h.get b
def gG(fns:T cV)(W:Nat→Prop)(h0:T AB)(base:Nat):List AO→Nat→Fr→St→List iM→Option Nat→(Fr→St→List iM→Prop)→Prop
 | [],_,F,S,ps,_,Q=>Q F S ps
 | ⟨d,op,g,m⟩::l,i,F,S,ps,last,Q=>
  if eI g F=true then
   match op with
   | .q q=>jY (iI q F (bN (dC q) h0 S.h)) fun v=>(dC q=true→cM v v=true∧aFa W base q F)∧gG fns W h0 base l (i+1) (cI d F v) S ps last Q
   | .a a=>jY (tQ a F (base+i)) fun r=>gG fns W h0 base l (i+1) (cI d F r.1) S (⟨i,base+i,r.2⟩::ps) last Q
   | .x (.call f args)=>mC last m=true∧fR fns (f.val F) (cW args F) ⟨(cG m ps S.h).2,S.nx⟩ fun v S1=>(Same ⟨(cG m ps S.h).2,S.nx⟩ S1∨aFb W base ⟨(cG m ps S.h).2,S.nx⟩ S1)∧gG fns W h0 base l (i+1) (cI d F v) S1 (cG m ps S.h).1 (some i) Q
   | .x (.inv tbl r args)=>mC last m=true∧∃t f u,r.val F= .iface t u∧wT t tbl=some (f,none)∧fR fns (.fn f [u] []) (cW args F) ⟨(cG m ps S.h).2,S.nx⟩ fun v S1=>Same ⟨(cG m ps S.h).2,S.nx⟩ S1∧gG fns W h0 base l (i+1) (cI d F v) S1 (cG m ps S.h).1 (some i) Q
   | .x x=>mC last m=true∧∃v S1,(∀call,zX x call F ⟨(cG m ps S.h).2,S.nx⟩=some (v,S1))∧aFb W base ⟨(cG m ps S.h).2,S.nx⟩ S1∧gG fns W h0 base l (i+1) (cI d F v) S1 (cG m ps S.h).1 (some i) Q
  else gG fns W h0 base l (i+1) (cI d F .undef) S ps last Q
structure DOk(W:Nat→Prop)(h0:T AB)(base:Nat)(D:DS):Prop where
 cur:∀b,b<base→¬W b→D.S.h.get b=h0.get b
 nx:base≤D.S.nx
 chain:∀e∈D.hs,∀b,b<base→¬W b→e.2.2.get b=h0.get b
 lds:∀l∈D.ls,cM l.v l.v=true∧aFa W base l.q l.F∧iI l.q l.F h0=some l.v
 pend:∀p∈D.ps,base≤p.id
theorem aFa.ev{W:Nat→Prop}{base:Nat}{q:zW}{F:Fr}(h:aFa W base q F){h0 h1:T AB}(hh:∀b,b<base→¬W b→h1.get b=h0.get b):iI q F h1=iI q F h0:=by
 rcases h with⟨agg,n,x,rfl,b,off,hx,hb,hw⟩ | ⟨sk,z,ok,m,k,b,rfl,hx,hb,hw⟩
 ·rw[aCq,aCq,hx];have e:cL h1 b=cL h0 b:=by unfold cL;rw[hh b hb hw]
  simp only[dB,oJ,vG,lP,e]
 ·show(aX (pT h1 (m.val F)) fun es=>_)=aX (pT h0 (m.val F)) fun es=>_;rw[hx];show(aX (aX (h1.get b) rT) fun es=>_)=aX (aX (h0.get b) rT) fun es=>_;rw[hh b hb hw]
theorem aBh{base b:Nat}(hb:b<base){m:Nat}:∀ {ps:List iM} {h:T AB},(∀p∈ps,base≤p.id)→(cG m ps h).2.get b=h.get b
 | [],h,_=>rfl
 | p::ps,h,hp=>by
  have h1:=hp p (by simp);have h2:∀q∈ps,base≤q.id:=fun q hq=>hp q (by simp [hq]);unfold cG;cases Nat.testBit m p.i with
  | true=>rw[aL,aBh hb h2,T.get_set,if_neg (by omega)]
  | false=>rw[aQ];exact aBh hb h2
theorem aBx{base:Nat}{m:Nat}:∀ {ps:List iM} {h:T AB},(∀p∈ps,base≤p.id)→∀p∈(cG m ps h).1,base≤p.id
 | [],h,_,p,hp=>by cases hp
 | p::ps,h,hq,r,hr=>by
  have h2:∀q∈ps,base≤q.id:=fun q hx=>hq q (by simp [hx]);unfold cG at hr;cases ht:Nat.testBit m p.i with
  | true=>rw[ht,aL] at hr;exact aBx h2 r hr
  | false=>
   rw[ht,aQ] at hr;rcases Bi.1 hr with rfl | hr
   ·exact hq r (by simp)
   ·exact aBx h2 r hr
theorem aEk{W:Nat→Prop}{h0:T AB}{base:Nat}{l:jW}(h:cM l.v l.v=true∧aFa W base l.q l.F∧iI l.q l.F h0=some l.v):∀ {hs:List (Nat×Nat×T AB)} {h1:T AB},(∀e∈hs,∀b,b<base→¬W b→e.2.2.get b=h0.get b)→(∀b,b<base→¬W b→h1.get b=h0.get b)→fY l hs h1=true
 | [],h1,_,hh=>by
  show nN l.v (iI l.q l.F h1)=true;rw[h.2.1.ev hh,h.2.2];exact h.1
 | (i,m,h')::r,h1,hs,hh=>by
  have e1:nN l.v (iI l.q l.F h1)=true:=by rw[h.2.1.ev hh,h.2.2];exact h.1
  have e2:fY l r h'=true:=aEk h (fun e he=>hs e (by simp [he])) (hs (i,m,h') (by simp));unfold fY;rw[e1,e2];cases Nat.testBit l.mask i<;>cases Nat.testBit m l.i<;>rfl
theorem oB{h0:T AB}{hs:List (Nat×Nat×T AB)}:∀ {ls:List jW},(∀l∈ls,fY l hs h0=true)→fK h0 hs ls=true
 | [],_=>rfl
 | l::ls,h=>by rw[uE,h l (by simp),aL];exact oB fun l' hl=>h l' (by simp [hl])
theorem aOk{d:Option Nat}{tbl:List (Nat×Nat×Option (Bool×Nat))}{recv:cK}{args:List cK}{m i base:Nat}{l:List AO}{D:DS}{Q:DS→Prop}{t f:Nat}{u:AV}(hr:recv.val D.F= .iface t u)(hf:wT t tbl=some (f,none))(h:xF fns (⟨d,.x (.call (.c (.fn f [u] [])) args),none,m⟩::l) i base D Q):xF fns (⟨d,.x (.inv tbl recv args),none,m⟩::l) i base D Q:=by
 obtain⟨n,D',e1,e2⟩:=h;refine⟨n,D',?_,e2⟩;have e:rC ⟨d,.x (.inv tbl recv args),none,m⟩ i base (ev fns n).call D=rC ⟨d,.x (.call (.c (.fn f [u] [])) args),none,m⟩ i base (ev fns n).call D:=by
  show bN (iS D.hs m) (aX (zX (.inv tbl recv args) (ev fns n).call D.F ⟨(cG m D.ps D.S.h).2,D.S.nx⟩) _) none=bN (iS D.hs m) (aX (zX (.call (.c (.fn f [u] [])) args) (ev fns n).call D.F ⟨(cG m D.ps D.S.h).2,D.S.nx⟩) _) none;rw[aOc hr hf]
 show aX (rC ⟨d,.x (.inv tbl recv args),none,m⟩ i base (ev fns n).call D) _=_;rw[e];exact e1
theorem lM{W:Nat→Prop}{h0:T AB}{base:Nat}{Q:Fr→St→List iM→Prop}:∀ {ops:List AO} {i:Nat} {D:DS} {last:Option Nat},DOk W h0 base D→D.hs.head?.map (·.1)=last→gG fns W h0 base ops i D.F D.S D.ps last Q→
  xF fns ops i base D fun D'=>Q D'.F D'.S D'.ps∧DOk W h0 base D'
 | [],i,D,last,hD,_,hr=>by rw[iL];exact⟨hr,hD⟩
 | ⟨d,op,g,m⟩::l,i,D,last,hD,hlast,hr=>by
  have hlk:mC last m=true→iS D.hs m=true:=fun h=>by
   subst hlast;cases hh:D.hs with
   | nil=>rfl
   | cons e r=>rw[hh] at h;exact h
  unfold gG at hr;by_cases hw:eI g D.F=true
  ·rw[if_pos hw] at hr;have lift:xF fns (⟨d,op,none,m⟩::l) i base D (fun D'=>Q D'.F D'.S D'.ps∧DOk W h0 base D')→xF fns (⟨d,op,g,m⟩::l) i base D (fun D'=>Q D'.F D'.S D'.ps∧DOk W h0 base D'):=by
    rintro⟨n,D',e1,e2⟩;refine⟨n,D',?_,e2⟩;have:rC ⟨d,op,g,m⟩ i base (ev fns n).call D=rC ⟨d,op,none,m⟩ i base (ev fns n).call D:=by
     show bN (eI g D.F) _ _=bN true _ _;rw[hw];cases op<;>rfl
    show aX (rC ⟨d,op,g,m⟩ i base (ev fns n).call D) _=_;rw[this];exact e1
   apply lift;cases op with
   | q q=>
    obtain⟨v,hv,hs,hr⟩:=hr;rw[nB];cases hq:dC q with
    | false=>
     rw[hq,aQ] at hv;refine⟨v,hv,?_⟩;simp only[aQ];exact lM (D:=⟨cI d D.F v,D.S,D.ps,D.hs,D.ls⟩) ⟨hD.cur,hD.nx,hD.chain,hD.lds,hD.pend⟩ hlast hr
    | true=>
     rw[hq,aL] at hv;obtain⟨hs1,hs2⟩:=hs hq;refine⟨v,by rw[hs2.ev hD.cur];exact hv,?_⟩;simp only[aL];refine lM (D:=⟨cI d D.F v,D.S,D.ps,D.hs,⟨q,D.F,v,i,m⟩::D.ls⟩) ⟨hD.cur,hD.nx,hD.chain,fun l' hl=>?_,hD.pend⟩ hlast hr;rcases Bi.1 hl with rfl | hl
     ·exact⟨hs1,hs2,hv⟩
     ·exact hD.lds l' hl
   | a a=>
    obtain⟨r,hv,hr⟩:=hr;rw[aMZ];refine⟨r,hv,lM (D:=⟨cI d D.F r.1,D.S,⟨i,base+i,r.2⟩::D.ps,D.hs,D.ls⟩) ⟨hD.cur,hD.nx,hD.chain,hD.lds,fun p hp=>?_⟩ hlast hr⟩;rcases Bi.1 hp with rfl | hp
    ·exact Dd _ _
    ·exact hD.pend p hp
   | x x=>
    have next:∀ (v:AV) (S1:St),aFb W base ⟨(cG m D.ps D.S.h).2,D.S.nx⟩ S1→DOk W h0 base ⟨cI d D.F v,S1,(cG m D.ps D.S.h).1,(i,m,S1.h)::D.hs,D.ls⟩:=fun v S1 hS=>by
     have hc:∀b,b<base→¬W b→S1.h.get b=h0.get b:=fun b hb hw=>by
      rw[hS.2 b hb hw];show(cG m D.ps D.S.h).2.get b=_;rw[aBh hb hD.pend];exact hD.cur b hb hw
     refine⟨hc,Ap hD.nx hS.1,fun e he=>?_,hD.lds,aBx hD.pend⟩;rcases Bi.1 he with rfl | he
     ·exact hc
     ·exact hD.chain e he
    have other:(∀f args,x≠ .call f args)→(∀tbl r args,x≠ .inv tbl r args)→(mC last m=true∧∃v S1,(∀call,zX x call D.F ⟨(cG m D.ps D.S.h).2,D.S.nx⟩=some (v,S1))∧aFb W base ⟨(cG m D.ps D.S.h).2,D.S.nx⟩ S1∧gG fns W h0 base l (i+1) (cI d D.F v) S1 (cG m D.ps D.S.h).1 (some i) Q)→xF fns (⟨d,.x x,none,m⟩::l) i base D (fun D'=>Q D'.F D'.S D'.ps∧DOk W h0 base D'):=by
     rintro _ _ ⟨h1,v,S1,h2,h3,h4⟩;exact jR (hlk h1) h2 (lM (D:=⟨cI d D.F v,S1,(cG m D.ps D.S.h).1,(i,m,S1.h)::D.hs,D.ls⟩) (next v S1 h3) rfl h4)
    cases x with
    | call f args=>
     obtain⟨h1,n,v,S1,h2,h3,h4⟩:=hr;refine aHE (hlk h1) ⟨n,v,S1,h2,?_⟩;exact lM (D:=⟨cI d D.F v,S1,(cG m D.ps D.S.h).1,(i,m,S1.h)::D.hs,D.ls⟩) (next v S1 (h3.elim (fun h3=>⟨h3.1,fun b hb _=>h3.2 b (Ah hb hD.nx)⟩) id)) rfl h4
    | inv tbl r args=>
     obtain⟨h1,t,f,u,hu,hf,n,v,S1,h2,h3,h4⟩:=hr;refine aOk hu hf (aHE (hlk h1) ⟨n,v,S1,h2,?_⟩);exact lM (D:=⟨cI d D.F v,S1,(cG m D.ps D.S.h).1,(i,m,S1.h)::D.hs,D.ls⟩) (next v S1 ⟨h3.1,fun b hb _=>h3.2 b (Ah hb hD.nx)⟩) rfl h4
    | _=>exact other (fun _ _ h=>by cases h) (fun _ _ _ h=>by cases h) hr
  ·rw[if_neg hw] at hr;obtain⟨n,D',e1,e2⟩:=lM (i:=i+1) (D:=⟨cI d D.F .undef,D.S,D.ps,D.hs,D.ls⟩) (last:=last) ⟨hD.cur,hD.nx,hD.chain,hD.lds,hD.pend⟩ hlast hr;refine⟨n,D',?_,e2⟩;have:rC ⟨d,op,g,m⟩ i base (ev fns n).call D=some ⟨cI d D.F .undef,D.S,D.ps,D.hs,D.ls⟩:=by
    show bN (eI g D.F) _ _=_;rw[show eI g D.F=false by simpa using hw];rfl
   show aX (rC ⟨d,op,g,m⟩ i base (ev fns n).call D) _=_;rw[this];exact e1
theorem aJa(W:Nat→Prop){ops:List AO}{A:bQ}{S:St}{Q:Out→bQ→St→Prop}(h:gG fns W S.h S.nx ops 0 A.F ⟨S.h,S.nx+ops.length⟩ [] none fun F S' ps=>Q .normal ⟨F,A.inr⟩ ⟨(cG (2 ^ ops.length - 1) ps S'.h).2,S'.nx⟩):lJ fns (.drw ops) A S Q:=by
 refine wZ ?_;obtain⟨n,D',e1,e2,e3⟩:=lM (fns:=fns) (i:=0) (D:=⟨A.F,⟨S.h,S.nx+ops.length⟩,[],[],[]⟩) (last:=none) ⟨fun _ _ _=>rfl,Dd _ _,fun e he=>(by cases he),fun l hl=>(by cases hl),fun p hp=>(by cases hp)⟩ rfl h;exact⟨n,D',e1,oB fun l hl=>aEk (e3.lds l hl) (fun e he=>e3.chain e (List.mem_reverse.1 he)) (fun _ _ _=>rfl),e2⟩
def aLK(fns:T cV)(W:Nat→Prop)(h0:T AB)(base:Nat)(x:Option AV)(ld:Bool)(old:Prop)(d:Option Nat)(l:List AO)(i:Nat)(F:Fr)(S:St)(ps:List iM)(last:Option Nat)(Q:Fr→St→List iM→Prop):Prop:=jY x fun v=>(ld=true→cM v v=true∧old)∧gG fns W h0 base l i (cI d F v) S ps last Q
def aJb(fns:T cV)(W:Nat→Prop)(h0:T AB)(base:Nat)(x:Option (AV×AB))(d:Option Nat)(l:List AO)(i:Nat)(F:Fr)(S:St)(ps:List iM)(last:Option Nat)(Q:Fr→St→List iM→Prop):Prop:=jY x fun r=>gG fns W h0 base l (i+1) (cI d F r.1) S (⟨i,base+i,r.2⟩::ps) last Q
section
variable {W:Nat→Prop}{h0:T AB}{base:Nat}{d:Option Nat}{m i:Nat}{l:List AO}{F:Fr}{S:St}{ps:List iM}{last:Option Nat}{Q:Fr→St→List iM→Prop}
theorem aHu:gG fns W h0 base [] i F S ps last Q↔Q F S ps:=Iff.rfl
theorem aHX{q:zW}:gG fns W h0 base (⟨d,.q q,none,m⟩::l) i F S ps last Q↔aLK fns W h0 base (iI q F (bN (dC q) h0 S.h)) (dC q) (aFa W base q F) d l (i+1) F S ps last Q:=by
 rw[gG,if_pos (show eI none F=true from rfl)];rfl
theorem zF{v:AV}{ld:Bool}{old:Prop}:aLK fns W h0 base (some v) ld old d l i F S ps last Q↔(ld=true→cM v v=true∧old)∧gG fns W h0 base l i (cI d F v) S ps last Q:=by unfold aLK;rw[dV]
theorem aMS{a:wU}:gG fns W h0 base (⟨d,.a a,none,m⟩::l) i F S ps last Q↔aJb fns W h0 base (tQ a F (base+i)) d l i F S ps last Q:=by
 rw[gG,if_pos (show eI none F=true from rfl)];rfl
theorem mE{r:AV×AB}:aJb fns W h0 base (some r) d l i F S ps last Q↔gG fns W h0 base l (i+1) (cI d F r.1) S (⟨i,base+i,r.2⟩::ps) last Q:=by unfold aJb;rw[dV]
theorem aBj{f:cK}{args:List cK}(h:mC last m=true)(hw:fR fns (f.val F) (cW args F) ⟨(cG m ps S.h).2,S.nx⟩ fun v S1=>Same ⟨(cG m ps S.h).2,S.nx⟩ S1∧gG fns W h0 base l (i+1) (cI d F v) S1 (cG m ps S.h).1 (some i) Q):gG fns W h0 base (⟨d,.x (.call f args),none,m⟩::l) i F S ps last Q:=by
 rw[gG,if_pos (show eI none F=true from rfl)];exact⟨h,aP hw fun v S1 h=>⟨.inl h.1,h.2⟩⟩
theorem jC{f:cK}{args:List cK}(h:mC last m=true)(hw:fR fns (f.val F) (cW args F) ⟨(cG m ps S.h).2,S.nx⟩ fun v S1=>aFb W base ⟨(cG m ps S.h).2,S.nx⟩ S1∧gG fns W h0 base l (i+1) (cI d F v) S1 (cG m ps S.h).1 (some i) Q):gG fns W h0 base (⟨d,.x (.call f args),none,m⟩::l) i F S ps last Q:=by
 rw[gG,if_pos (show eI none F=true from rfl)];exact⟨h,aP hw fun v S1 h=>⟨.inr h.1,h.2⟩⟩
theorem aAc{n:Nat}{x v:cK}{S1:St}(h:mC last m=true)(he:aX (v.val F).cells (fun cs=>lI (x.val F) n cs ⟨(cG m ps S.h).2,S.nx⟩)=some (.undef,S1))(ho:aFb W base ⟨(cG m ps S.h).2,S.nx⟩ S1)(hr:gG fns W h0 base l (i+1) (cI d F .undef) S1 (cG m ps S.h).1 (some i) Q):gG fns W h0 base (⟨d,.x (.st n x v),none,m⟩::l) i F S ps last Q:=by
 unfold gG;rw[if_pos (show eI none F=true from rfl)];exact⟨h,_,S1,fun call=>he,ho,hr⟩
theorem aLC{op:AOp}{s:Nat}{b:Bool}:gG fns W h0 base (⟨d,op,some (s,b),m⟩::l) i F S ps last Q↔if isB (aD s F) b=true then gG fns W h0 base (⟨d,op,none,m⟩::l) i F S ps last Q else gG fns W h0 base l (i+1) (cI d F .undef) S ps last Q:=by
 conv=>lhs;unfold gG
 rw[show eI (some (s,b)) F=isB (aD s F) b from rfl];split
 ·conv=>rhs;unfold gG
  rw[if_pos (show eI none F=true from rfl)]
 ·rfl
theorem aIN{agg:Bool}{n:Nat}{x:cK}:aFa W base (.ld agg n x) F↔aJY W base (x.val F):=by
 constructor
 ·rintro(⟨_,_,_,h,h2⟩ | ⟨_,_,_,_,_,_,h,_⟩)
  ·cases h;exact h2
  ·cases h
 ·exact fun h=>.inl ⟨_,_,_,rfl,h⟩
theorem aGp{b off:Nat}:aJY W base (.ptr b off)↔b<base∧¬W b:=by
 constructor
 ·rintro⟨_,_,h,h2⟩;cases h;exact h2
 ·exact fun h=>⟨_,_,rfl,h⟩
end
theorem stV:type_of% (And.intro @aHu (And.intro @aHX (And.intro @aMS (And.intro @aLC (@aAX))))):=And.intro @aHu (And.intro @aHX (And.intro @aMS (And.intro @aLC (@aAX))))
theorem stW:type_of% (And.intro @zF (And.intro @mE (And.intro @aIN (And.intro @aGp (And.intro @cB (And.intro (@Am AO) (And.intro (@Bo AO) (And.intro (@Am AV) (And.intro (@Bo AV) (And.intro (@Am Nat) (@Bo Nat))))))))))):=And.intro @zF (And.intro @mE (And.intro @aIN (And.intro @aGp (And.intro @cB (And.intro (@Am AO) (And.intro (@Bo AO) (And.intro (@Am AV) (And.intro (@Bo AV) (And.intro (@Am Nat) (@Bo Nat))))))))))
theorem sU:type_of% (And.intro aA stV):=And.intro aA stV
theorem sD:type_of% (And.intro aB stW):=And.intro aB stW
theorem ak{p q:Prop}(a:q)(h:q→p:=by intro a;simp only[↓sU,sD,Nat.reduceEqDiff,↓reduceIte,a]):p:=h a
theorem am{p q:Prop}(a:q)(h:q→p:=by intro a;simp only[↓sU,sD,Nat.reduceEqDiff,↓reduceIte,Nat.reduceAdd];exact a):p:=h a
theorem aq{p:Prop}(h:p:=by simp only[↓sU,sD,Nat.reduceEqDiff,↓reduceIte,Nat.reduceAdd]):p:=h
theorem ar{p:Prop}(h:p:=by simp only[↓sU,sD,Nat.reduceEqDiff,↓reduceIte,Nat.reduceAdd];try rfl):p:=h
theorem au{p q:Prop}(a:q)(h:q→p:=by intro a;simp only[↓sU,sD,Nat.reduceEqDiff,↓reduceIte,Nat.reduceAdd,a]):p:=h a
theorem aEG(e:oO){a b:Int}(hb:b≠0):eJ .quo e (.int .i64 a) (.int .i64 b)=some (.int .i64 (IntKind.i64.wrap (a.tdiv b))):=by
 show cN .quo .i64 a .i64 b=_;unfold cN;rw[show dP .quo=false from rfl,aQ,eQ,aL];show aMx .i64 a b=_;unfold aMx;split
 ·rename_i m n;have h0:Nat.beq n 0=false:=by
   rw[Bv];intro h;rw[Bb] at h;subst h;exact hb rfl
  rw[h0,aQ,nat_eq];rfl
 ·have h0:ieq b (.ofNat 0)=false:=by
   rw[Bv];intro h;rw[lG] at h;exact hb (by simpa using h)
  rw[h0,aQ,tM]
theorem tK(e:oO){a b:Int}(ha:0≤a)(ha2:a≤9223372036854775807)(hb:0<b):eJ .quo e (.int .i64 a) (.int .i64 b)=some (.int .i64 (a / b)):=by
 rw[aEG e (by omega),Int.tdiv_eq_ediv_of_nonneg ha];rw[wrap_i64]
 ·have:=Int.ediv_nonneg ha (Int.le_of_lt hb);omega
 ·have:=Int.ediv_le_self b ha;omega
theorem aGn(a:Int):unV .neg (.int .i64 a)=some (.int .i64 (IntKind.i64.wrap (-a))):=by
 show some (AV.int .i64 (aED .i64 (.ofNat 0) a))=_;rw[wH];congr 3;show(0:Int) - a= -a;omega
def mx(a b:Int):Int:=if b≤a then a else b
theorem aLO(l:List cK)(F:Fr)(h:T AB):iI (.minmax true l) F h=kR true (cW l F):=rfl
theorem aOU(v:AV)(l:List AV):kR true (v::l)=jO true l v:=rfl
theorem aPL(v:AV):jO true [] v=some v:=rfl
theorem aPg(a b:Int)(l:List AV):jO true (.int .i64 b::l) (.int .i64 a)=jO true l (.int .i64 (mx a b)):=by
 show bN (keq .i64 .i64) (jO true l (.int .i64 (bN true (bN (ile b a) a b) _))) none=_;rw[eQ,aL,aL];congr 2;unfold mx;rw[oR];by_cases h:b≤a
 ·rw[if_pos h,Ad h];rfl
 ·rw[if_neg h,Aa h];rfl
theorem aOp(t:Nat)(x:cK)(F:Fr)(id:Nat):tQ (.box t x) F id=aX (x.val F).cells fun cs=>some (.ptr id 0,.cells cs false 0):=rfl
theorem aEj(t:Nat)(cs:List AV)(F:Fr)(id:Nat):tQ (.alloc t cs) F id=some (.ptr id 0,.cells cs false 0):=rfl
theorem qK(f:Nat)(first cap:List cK)(F:Fr)(h:T AB):iI (.mkFunc f first cap) F h=some (.fn f (cW first F) (cW cap F)):=rfl
theorem mJ(f:Nat)(first cap:List cK):dC (.mkFunc f first cap)=false:=rfl
theorem bM(cs:List AV):(AV.agg cs).cells=some cs:=rfl
theorem aE(i:Nat)(x:cK)(F:Fr)(h:T AB):iI (.faddr i x) F h=yV (x.val F) i:=rfl
theorem aF(b o i:Nat):yV (.ptr b o) i=some (.ptr b (o+i)):=rfl
theorem aW(i:Nat)(x:cK):dC (.faddr i x)=false:=rfl
theorem uX(z:List AV)(ps:List (Nat×Nat×cK)):dC (.build z ps)=false:=rfl
theorem fZ(a:Nat)(agg:Bool)(n:Nat)(rs:List RV)(F:Fr)(h:T AB):results (.cell a agg n::rs) F h=aX (dB (aD a F) agg n h) fun v=>aX (results rs F h) fun vs=>some (v::vs):=rfl
section
variable {h:T AB}{b:Nat}{x y z:AV}{o:Bool}{s:Nat}
theorem ld3(hb:h.get b=some (.cells [x,y,z] o s)):dB (.ptr b 0) true 3 h=some (.agg [x,y,z]):=by
 simp only[dB,oJ,aL,vG,cL,hb,aK,mV];rfl
end
theorem aIU{S:St}{b n:Nat}{cs cs':List AV}{o:Bool}{s:Nat}(h:S.h.get b=some (.cells cs o s))(h1:cs.length=n)(h2:cs'.length=n):lI (.ptr b 0) n cs' S=some (.undef,⟨S.h.set b (some (.cells cs' o s)),S.nx⟩):=by
 have hp:put cs 0 cs'=some cs':=by
  rw[put_eq,if_pos (by omega)];simp [Ez (show cs.length≤cs'.length by omega)]
 simp only[lI,dO,h2,qH,h,aK,zG,hp];rw[show Nat.beq n n=true from Nat.beq_refl n];rfl
theorem eH{d t m:Nat}{x:cK}{l:List AO}{F:Fr}{S:St}{Q:Fr→St→Prop}{cs:List AV}(hc:(x.val F).cells=some cs)(h:∀S1,Same S S1→S1.nx=S.nx+1→S1.h.get S.nx=some (.cells cs false 0)→tW fns l (cI (some d) F (.ptr S.nx 0)) S1 Q):tW fns (⟨some d,.a (.box t x),none,m⟩::l) F S Q:=by
 rw[aAX];refine⟨(.ptr S.nx 0,.cells cs false 0),by rw[aOp,hc];rfl,h _ (Same.alloc S _) rfl ?_⟩;simp only;rw[T.get_set,if_pos rfl]
theorem cR{d t m:Nat}{l:List AO}{F:Fr}{S:St}{Q:Fr→St→Prop}{cs:List AV}(h:∀S1,Same S S1→S1.nx=S.nx+1→S1.h.get S.nx=some (.cells cs false 0)→tW fns l (cI (some d) F (.ptr S.nx 0)) S1 Q):tW fns (⟨some d,.a (.alloc t cs),none,m⟩::l) F S Q:=by
 rw[aAX];refine⟨(.ptr S.nx 0,.cells cs false 0),rfl,h _ (Same.alloc S _) rfl ?_⟩;simp only;rw[T.get_set,if_pos rfl]
theorem fC{n m b s:Nat}{x v:cK}{l:List AO}{F:Fr}{S:St}{Q:Fr→St→Prop}{cs cs':List AV}{o:Bool}(hx:x.val F= .ptr b 0)(hv:(v.val F).cells=some cs')(hb:S.h.get b=some (.cells cs o s))(h1:cs.length=n)(h2:cs'.length=n)
  (h:∀S1,bJ b S S1→S1.nx=S.nx→S1.h.get b=some (.cells cs' o s)→tW fns l F S1 Q):tW fns (⟨none,.x (.st n x v),none,m⟩::l) F S Q:=by
 refine eR (v:=.undef) (fun call=>?_) (h ⟨S.h.set b (some (.cells cs' o s)),S.nx⟩ ((bJ.refl b S).put _) rfl ?_)
 ·rw[dD,hv,aK,hx];exact aIU hb h1 h2
 ·simp only;rw[T.get_set,if_pos rfl]
theorem dK(W:Nat→Prop){ops:List AO}{A:bQ}{S:St}{Q:Out→bQ→St→Prop}(h:∀S1,Same S S1→gG fns W S.h S.nx ops 0 A.F S1 [] none fun F S' ps=>Q .normal ⟨F,A.inr⟩ ⟨(cG (2 ^ ops.length - 1) ps S'.h).2,S'.nx⟩):lJ fns (.drw ops) A S Q:=aJa W (h _ (Same.nx S _))
section
variable {W:Nat→Prop}{h0:T AB}{base:Nat}{d:Option Nat}{m i:Nat}{l:List AO}{F:Fr}{S:St}{last:Option Nat}{Q:Fr→St→List iM→Prop}
theorem cP{f:cK}{args:List cK}(h:mC last m=true)(hw:fR fns (f.val F) (cW args F) S fun v S1=>Same S S1∧gG fns W h0 base l (i+1) (cI d F v) S1 [] (some i) Q):gG fns W h0 base (⟨d,.x (.call f args),none,m⟩::l) i F S [] last Q:=
 aBj h hw
end
theorem fQ(b:Bool):unV .not (.bool b)=some (.bool (!b)):=by cases b<;>rfl
theorem aPA:fB (.int .i64 0)=some 0:=rfl
end Go.Ev.Gl
