import Derived.Test.YtoojnpjgnnpllaaGl1
set_option maxHeartbeats 16000000
set_option linter.unusedSimpArgs false
set_option linter.unusedVariables false
namespace Go.Ev.Gl
variable {fns:T eG}
def kQ(last:Option Nat)(m:Nat):Bool:=
 match last with
 | none=>true
 | some i=>Nat.testBit m i
def aN1(W:Nat→Prop)(base:Nat)(v:AV):Prop:=∃b off,v= .ptr b off∧b<base∧¬W b
def aAr(W:Nat→Prop)(base:Nat)(q:xL)(F:Fr):Prop:=(∃agg n x,q= .ld agg n x∧aN1 W base (x.val F))∨∃sk z ok m k b,q= .lookup sk z ok m k∧m.val F= .map b∧b<base∧¬W b
def aGS(W:Nat→Prop)(base:Nat)(S S':St):Prop:=S.nx≤S'.nx∧∀b,b<base→¬W b→S'.h.get b=S.h.get b
def fK(fns:T eG)(W:Nat→Prop)(h0:T AB)(base:Nat):List AO→Nat→Fr→St→List iJ→Option Nat→(Fr→St→List iJ→Prop)→Prop
 | [],_,F,S,ps,_,Q=>Q F S ps
 | ⟨d,op,g,m⟩::l,i,F,S,ps,last,Q=>
  if eM g F=true then
   match op with
   | .q q=>kR (fV q F (bN (dI q) h0 S.h)) fun v=>(dI q=true→cC v v=true∧aAr W base q F)∧fK fns W h0 base l (i+1) (cK d F v) S ps last Q
   | .a a=>kR (uL a F (base+i)) fun r=>fK fns W h0 base l (i+1) (cK d F r.1) S (⟨i,base+i,r.2⟩::ps) last Q
   | .x (.call f args)=>kQ last m=true∧gH fns (f.val F) (dD args F) ⟨(cF m ps S.h).2,S.nx⟩ fun v S1=>(Same ⟨(cF m ps S.h).2,S.nx⟩ S1∨aGS W base ⟨(cF m ps S.h).2,S.nx⟩ S1)∧fK fns W h0 base l (i+1) (cK d F v) S1 (cF m ps S.h).1 (some i) Q
   | .x (.inv tbl r args)=>kQ last m=true∧∃t f u,r.val F= .iface t u∧aCk t tbl=some (f,none)∧gH fns (.fn f [u] []) (dD args F) ⟨(cF m ps S.h).2,S.nx⟩ fun v S1=>Same ⟨(cF m ps S.h).2,S.nx⟩ S1∧fK fns W h0 base l (i+1) (cK d F v) S1 (cF m ps S.h).1 (some i) Q
   | .x x=>kQ last m=true∧∃v S1,(∀call,zB x call F ⟨(cF m ps S.h).2,S.nx⟩=some (v,S1))∧aGS W base ⟨(cF m ps S.h).2,S.nx⟩ S1∧fK fns W h0 base l (i+1) (cK d F v) S1 (cF m ps S.h).1 (some i) Q
  else fK fns W h0 base l (i+1) (cK d F .undef) S ps last Q
structure DOk(W:Nat→Prop)(h0:T AB)(base:Nat)(D:DS):Prop where
 cur:∀b,b<base→¬W b→D.S.h.get b=h0.get b
 nx:base≤D.S.nx
 chain:∀e∈D.hs,∀b,b<base→¬W b→e.2.2.get b=h0.get b
 lds:∀l∈D.ls,cC l.v l.v=true∧aAr W base l.q l.F∧fV l.q l.F h0=some l.v
 pend:∀p∈D.ps,base≤p.id
theorem aAr.ev{W:Nat→Prop}{base:Nat}{q:xL}{F:Fr}(h:aAr W base q F){h0 h1:T AB}(hh:∀b,b<base→¬W b→h1.get b=h0.get b):fV q F h1=fV q F h0:=by
 rcases h with⟨agg,n,x,rfl,b,off,hx,hb,hw⟩ | ⟨sk,z,ok,m,k,b,rfl,hx,hb,hw⟩
 ·rw[lN,lN,hx];have e:cN h1 b=cN h0 b:=by unfold cN;rw[hh b hb hw]
  simp only[eH,mW,xD,kL,e]
 ·show(aZ (sO h1 (m.val F)) fun es=>_)=aZ (sO h0 (m.val F)) fun es=>_;rw[hx];show(aZ (aZ (h1.get b) rH) fun es=>_)=aZ (aZ (h0.get b) rH) fun es=>_;rw[hh b hb hw]
theorem aAA{base b:Nat}(hb:b<base){m:Nat}:∀ {ps:List iJ} {h:T AB},(∀p∈ps,base≤p.id)→(cF m ps h).2.get b=h.get b
 | [],h,_=>rfl
 | p::ps,h,hp=>by
  have h1:=hp p (by simp);have h2:∀q∈ps,base≤q.id:=fun q hq=>hp q (by simp [hq]);unfold cF;cases Nat.testBit m p.i with
  | true=>rw[aQ,aAA hb h2,T.get_set,if_neg (by omega)]
  | false=>rw[aW];exact aAA hb h2
theorem aAJ{base:Nat}{m:Nat}:∀ {ps:List iJ} {h:T AB},(∀p∈ps,base≤p.id)→∀p∈(cF m ps h).1,base≤p.id
 | [],h,_,p,hp=>by cases hp
 | p::ps,h,hq,r,hr=>by
  have h2:∀q∈ps,base≤q.id:=fun q hx=>hq q (by simp [hx]);unfold cF at hr;cases ht:Nat.testBit m p.i with
  | true=>rw[ht,aQ] at hr;exact aAJ h2 r hr
  | false=>
   rw[ht,aW] at hr;rcases Bm.1 hr with rfl | hr
   ·exact hq r (by simp)
   ·exact aAJ h2 r hr
theorem aEe{W:Nat→Prop}{h0:T AB}{base:Nat}{l:lS}(h:cC l.v l.v=true∧aAr W base l.q l.F∧fV l.q l.F h0=some l.v):∀ {hs:List (Nat×Nat×T AB)} {h1:T AB},(∀e∈hs,∀b,b<base→¬W b→e.2.2.get b=h0.get b)→(∀b,b<base→¬W b→h1.get b=h0.get b)→eI l hs h1=true
 | [],h1,_,hh=>by
  show oW l.v (fV l.q l.F h1)=true;rw[h.2.1.ev hh,h.2.2];exact h.1
 | (i,m,h')::r,h1,hs,hh=>by
  have e1:oW l.v (fV l.q l.F h1)=true:=by rw[h.2.1.ev hh,h.2.2];exact h.1
  have e2:eI l r h'=true:=aEe h (fun e he=>hs e (by simp [he])) (hs (i,m,h') (by simp));unfold eI;rw[e1,e2];cases Nat.testBit l.mask i<;>cases Nat.testBit m l.i<;>rfl
theorem nH{h0:T AB}{hs:List (Nat×Nat×T AB)}:∀ {ls:List lS},(∀l∈ls,eI l hs h0=true)→fN h0 hs ls=true
 | [],_=>rfl
 | l::ls,h=>by rw[mL,h l (by simp),aQ];exact nH fun l' hl=>h l' (by simp [hl])
theorem aMv{d:Option Nat}{tbl:List (Nat×Nat×Option (Bool×Nat))}{recv:cL}{args:List cL}{m i base:Nat}{l:List AO}{D:DS}{Q:DS→Prop}{t f:Nat}{u:AV}(hr:recv.val D.F= .iface t u)(hf:aCk t tbl=some (f,none))(h:yG fns (⟨d,.x (.call (.c (.fn f [u] [])) args),none,m⟩::l) i base D Q):yG fns (⟨d,.x (.inv tbl recv args),none,m⟩::l) i base D Q:=by
 obtain⟨n,D',e1,e2⟩:=h;refine⟨n,D',?_,e2⟩;have e:rT ⟨d,.x (.inv tbl recv args),none,m⟩ i base (ev fns n).call D=rT ⟨d,.x (.call (.c (.fn f [u] [])) args),none,m⟩ i base (ev fns n).call D:=by
  show bN (iY D.hs m) (aZ (zB (.inv tbl recv args) (ev fns n).call D.F ⟨(cF m D.ps D.S.h).2,D.S.nx⟩) _) none=bN (iY D.hs m) (aZ (zB (.call (.c (.fn f [u] [])) args) (ev fns n).call D.F ⟨(cF m D.ps D.S.h).2,D.S.nx⟩) _) none;rw[aLQ hr hf]
 show aZ (rT ⟨d,.x (.inv tbl recv args),none,m⟩ i base (ev fns n).call D) _=_;rw[e];exact e1
theorem lG{W:Nat→Prop}{h0:T AB}{base:Nat}{Q:Fr→St→List iJ→Prop}:∀ {ops:List AO} {i:Nat} {D:DS} {last:Option Nat},DOk W h0 base D→D.hs.head?.map (·.1)=last→fK fns W h0 base ops i D.F D.S D.ps last Q→
  yG fns ops i base D fun D'=>Q D'.F D'.S D'.ps∧DOk W h0 base D'
 | [],i,D,last,hD,_,hr=>by rw[fZ];exact⟨hr,hD⟩
 | ⟨d,op,g,m⟩::l,i,D,last,hD,hlast,hr=>by
  have hlk:kQ last m=true→iY D.hs m=true:=fun h=>by
   subst hlast;cases hh:D.hs with
   | nil=>rfl
   | cons e r=>rw[hh] at h;exact h
  unfold fK at hr;by_cases hw:eM g D.F=true
  ·rw[if_pos hw] at hr;have lift:yG fns (⟨d,op,none,m⟩::l) i base D (fun D'=>Q D'.F D'.S D'.ps∧DOk W h0 base D')→yG fns (⟨d,op,g,m⟩::l) i base D (fun D'=>Q D'.F D'.S D'.ps∧DOk W h0 base D'):=by
    rintro⟨n,D',e1,e2⟩;refine⟨n,D',?_,e2⟩;have:rT ⟨d,op,g,m⟩ i base (ev fns n).call D=rT ⟨d,op,none,m⟩ i base (ev fns n).call D:=by
     show bN (eM g D.F) _ _=bN true _ _;rw[hw];cases op<;>rfl
    show aZ (rT ⟨d,op,g,m⟩ i base (ev fns n).call D) _=_;rw[this];exact e1
   apply lift;cases op with
   | q q=>
    obtain⟨v,hv,hs,hr⟩:=hr;rw[lA];cases hq:dI q with
    | false=>
     rw[hq,aW] at hv;refine⟨v,hv,?_⟩;simp only[aW];exact lG (D:=⟨cK d D.F v,D.S,D.ps,D.hs,D.ls⟩) ⟨hD.cur,hD.nx,hD.chain,hD.lds,hD.pend⟩ hlast hr
    | true=>
     rw[hq,aQ] at hv;obtain⟨hs1,hs2⟩:=hs hq;refine⟨v,by rw[hs2.ev hD.cur];exact hv,?_⟩;simp only[aQ];refine lG (D:=⟨cK d D.F v,D.S,D.ps,D.hs,⟨q,D.F,v,i,m⟩::D.ls⟩) ⟨hD.cur,hD.nx,hD.chain,fun l' hl=>?_,hD.pend⟩ hlast hr;rcases Bm.1 hl with rfl | hl
     ·exact⟨hs1,hs2,hv⟩
     ·exact hD.lds l' hl
   | a a=>
    obtain⟨r,hv,hr⟩:=hr;rw[aHx];refine⟨r,hv,lG (D:=⟨cK d D.F r.1,D.S,⟨i,base+i,r.2⟩::D.ps,D.hs,D.ls⟩) ⟨hD.cur,hD.nx,hD.chain,hD.lds,fun p hp=>?_⟩ hlast hr⟩;rcases Bm.1 hp with rfl | hp
    ·exact Av _ _
    ·exact hD.pend p hp
   | x x=>
    have next:∀ (v:AV) (S1:St),aGS W base ⟨(cF m D.ps D.S.h).2,D.S.nx⟩ S1→DOk W h0 base ⟨cK d D.F v,S1,(cF m D.ps D.S.h).1,(i,m,S1.h)::D.hs,D.ls⟩:=fun v S1 hS=>by
     have hc:∀b,b<base→¬W b→S1.h.get b=h0.get b:=fun b hb hw=>by
      rw[hS.2 b hb hw];show(cF m D.ps D.S.h).2.get b=_;rw[aAA hb hD.pend];exact hD.cur b hb hw
     refine⟨hc,Ak hD.nx hS.1,fun e he=>?_,hD.lds,aAJ hD.pend⟩;rcases Bm.1 he with rfl | he
     ·exact hc
     ·exact hD.chain e he
    have other:(∀f args,x≠ .call f args)→(∀tbl r args,x≠ .inv tbl r args)→(kQ last m=true∧∃v S1,(∀call,zB x call D.F ⟨(cF m D.ps D.S.h).2,D.S.nx⟩=some (v,S1))∧aGS W base ⟨(cF m D.ps D.S.h).2,D.S.nx⟩ S1∧fK fns W h0 base l (i+1) (cK d D.F v) S1 (cF m D.ps D.S.h).1 (some i) Q)→yG fns (⟨d,.x x,none,m⟩::l) i base D (fun D'=>Q D'.F D'.S D'.ps∧DOk W h0 base D'):=by
     rintro _ _ ⟨h1,v,S1,h2,h3,h4⟩;exact jP (hlk h1) h2 (lG (D:=⟨cK d D.F v,S1,(cF m D.ps D.S.h).1,(i,m,S1.h)::D.hs,D.ls⟩) (next v S1 h3) rfl h4)
    cases x with
    | call f args=>
     obtain⟨h1,n,v,S1,h2,h3,h4⟩:=hr;refine vG (hlk h1) ⟨n,v,S1,h2,?_⟩;exact lG (D:=⟨cK d D.F v,S1,(cF m D.ps D.S.h).1,(i,m,S1.h)::D.hs,D.ls⟩) (next v S1 (h3.elim (fun h3=>⟨h3.1,fun b hb _=>h3.2 b (Ae hb hD.nx)⟩) id)) rfl h4
    | inv tbl r args=>
     obtain⟨h1,t,f,u,hu,hf,n,v,S1,h2,h3,h4⟩:=hr;refine aMv hu hf (vG (hlk h1) ⟨n,v,S1,h2,?_⟩);exact lG (D:=⟨cK d D.F v,S1,(cF m D.ps D.S.h).1,(i,m,S1.h)::D.hs,D.ls⟩) (next v S1 ⟨h3.1,fun b hb _=>h3.2 b (Ae hb hD.nx)⟩) rfl h4
    | _=>exact other (fun _ _ h=>by cases h) (fun _ _ _ h=>by cases h) hr
  ·rw[if_neg hw] at hr;obtain⟨n,D',e1,e2⟩:=lG (i:=i+1) (D:=⟨cK d D.F .undef,D.S,D.ps,D.hs,D.ls⟩) (last:=last) ⟨hD.cur,hD.nx,hD.chain,hD.lds,hD.pend⟩ hlast hr;refine⟨n,D',?_,e2⟩;have:rT ⟨d,op,g,m⟩ i base (ev fns n).call D=some ⟨cK d D.F .undef,D.S,D.ps,D.hs,D.ls⟩:=by
    show bN (eM g D.F) _ _=_;rw[show eM g D.F=false by simpa using hw];rfl
   show aZ (rT ⟨d,op,g,m⟩ i base (ev fns n).call D) _=_;rw[this];exact e1
theorem jN(W:Nat→Prop){ops:List AO}{A:bH}{S:St}{Q:Out→bH→St→Prop}(h:fK fns W S.h S.nx ops 0 A.F ⟨S.h,S.nx+ops.length⟩ [] none fun F S' ps=>Q .normal ⟨F,A.inr⟩ ⟨(cF (2 ^ ops.length - 1) ps S'.h).2,S'.nx⟩):iH fns (.drw ops) A S Q:=by
 refine qO ?_;obtain⟨n,D',e1,e2,e3⟩:=lG (fns:=fns) (i:=0) (D:=⟨A.F,⟨S.h,S.nx+ops.length⟩,[],[],[]⟩) (last:=none) ⟨fun _ _ _=>rfl,Av _ _,fun e he=>(by cases he),fun l hl=>(by cases hl),fun p hp=>(by cases hp)⟩ rfl h;exact⟨n,D',e1,nH fun l hl=>aEe (e3.lds l hl) (fun e he=>e3.chain e (List.mem_reverse.1 he)) (fun _ _ _=>rfl),e2⟩
def aKM(fns:T eG)(W:Nat→Prop)(h0:T AB)(base:Nat)(x:Option AV)(ld:Bool)(old:Prop)(d:Option Nat)(l:List AO)(i:Nat)(F:Fr)(S:St)(ps:List iJ)(last:Option Nat)(Q:Fr→St→List iJ→Prop):Prop:=kR x fun v=>(ld=true→cC v v=true∧old)∧fK fns W h0 base l i (cK d F v) S ps last Q
def aF8(fns:T eG)(W:Nat→Prop)(h0:T AB)(base:Nat)(x:Option (AV×AB))(d:Option Nat)(l:List AO)(i:Nat)(F:Fr)(S:St)(ps:List iJ)(last:Option Nat)(Q:Fr→St→List iJ→Prop):Prop:=kR x fun r=>fK fns W h0 base l (i+1) (cK d F r.1) S (⟨i,base+i,r.2⟩::ps) last Q
section
variable {W:Nat→Prop}{h0:T AB}{base:Nat}{d:Option Nat}{m i:Nat}{l:List AO}{F:Fr}{S:St}{ps:List iJ}{last:Option Nat}{Q:Fr→St→List iJ→Prop}
theorem aGg:fK fns W h0 base [] i F S ps last Q↔Q F S ps:=Iff.rfl
theorem aJ3{q:xL}:fK fns W h0 base (⟨d,.q q,none,m⟩::l) i F S ps last Q↔aKM fns W h0 base (fV q F (bN (dI q) h0 S.h)) (dI q) (aAr W base q F) d l (i+1) F S ps last Q:=by
 rw[fK,if_pos (show eM none F=true from rfl)];rfl
theorem aDe{v:AV}{ld:Bool}{old:Prop}:aKM fns W h0 base (some v) ld old d l i F S ps last Q↔(ld=true→cC v v=true∧old)∧fK fns W h0 base l i (cK d F v) S ps last Q:=by unfold aKM;rw[dW]
theorem aJJ{a:uS}:fK fns W h0 base (⟨d,.a a,none,m⟩::l) i F S ps last Q↔aF8 fns W h0 base (uL a F (base+i)) d l i F S ps last Q:=by
 rw[fK,if_pos (show eM none F=true from rfl)];rfl
theorem nL{r:AV×AB}:aF8 fns W h0 base (some r) d l i F S ps last Q↔fK fns W h0 base l (i+1) (cK d F r.1) S (⟨i,base+i,r.2⟩::ps) last Q:=by unfold aF8;rw[dW]
theorem aEs{f:cL}{args:List cL}(h:kQ last m=true)(hw:gH fns (f.val F) (dD args F) ⟨(cF m ps S.h).2,S.nx⟩ fun v S1=>Same ⟨(cF m ps S.h).2,S.nx⟩ S1∧fK fns W h0 base l (i+1) (cK d F v) S1 (cF m ps S.h).1 (some i) Q):fK fns W h0 base (⟨d,.x (.call f args),none,m⟩::l) i F S ps last Q:=by
 rw[fK,if_pos (show eM none F=true from rfl)];exact⟨h,aX hw fun v S1 h=>⟨.inl h.1,h.2⟩⟩
theorem yM{f:cL}{args:List cL}(h:kQ last m=true)(hw:gH fns (f.val F) (dD args F) ⟨(cF m ps S.h).2,S.nx⟩ fun v S1=>aGS W base ⟨(cF m ps S.h).2,S.nx⟩ S1∧fK fns W h0 base l (i+1) (cK d F v) S1 (cF m ps S.h).1 (some i) Q):fK fns W h0 base (⟨d,.x (.call f args),none,m⟩::l) i F S ps last Q:=by
 rw[fK,if_pos (show eM none F=true from rfl)];exact⟨h,aX hw fun v S1 h=>⟨.inr h.1,h.2⟩⟩
theorem rG{n:Nat}{x v:cL}{S1:St}(h:kQ last m=true)(he:aZ (v.val F).cells (fun cs=>rU (x.val F) n cs ⟨(cF m ps S.h).2,S.nx⟩)=some (.undef,S1))(ho:aGS W base ⟨(cF m ps S.h).2,S.nx⟩ S1)(hr:fK fns W h0 base l (i+1) (cK d F .undef) S1 (cF m ps S.h).1 (some i) Q):fK fns W h0 base (⟨d,.x (.st n x v),none,m⟩::l) i F S ps last Q:=by
 unfold fK;rw[if_pos (show eM none F=true from rfl)];exact⟨h,_,S1,fun call=>he,ho,hr⟩
theorem aJK{op:AOp}{s:Nat}{b:Bool}:fK fns W h0 base (⟨d,op,some (s,b),m⟩::l) i F S ps last Q↔if isB (aB s F) b=true then fK fns W h0 base (⟨d,op,none,m⟩::l) i F S ps last Q else fK fns W h0 base l (i+1) (cK d F .undef) S ps last Q:=by
 conv=>lhs;unfold fK
 rw[show eM (some (s,b)) F=isB (aB s F) b from rfl];split
 ·conv=>rhs;unfold fK
  rw[if_pos (show eM none F=true from rfl)]
 ·rfl
theorem aHV{agg:Bool}{n:Nat}{x:cL}:aAr W base (.ld agg n x) F↔aN1 W base (x.val F):=by
 constructor
 ·rintro(⟨_,_,_,h,h2⟩ | ⟨_,_,_,_,_,_,h,_⟩)
  ·cases h;exact h2
  ·cases h
 ·exact fun h=>.inl ⟨_,_,_,rfl,h⟩
theorem vQ{sk:sC}{z:AV}{ok:Bool}{m k:cL}{b:Nat}(h:m.val F= .map b)(hb:b<base)(hw:¬W b):aAr W base (.lookup sk z ok m k) F:=.inr ⟨_,_,_,_,_,b,rfl,h,hb,hw⟩
theorem aFw{b off:Nat}:aN1 W base (.ptr b off)↔b<base∧¬W b:=by
 constructor
 ·rintro⟨_,_,h,h2⟩;cases h;exact h2
 ·exact fun h=>⟨_,_,rfl,h⟩
end
theorem stV:type_of% (And.intro @aGg (And.intro @aJ3 (And.intro @aJJ (And.intro @aJK (@aAK))))):=And.intro @aGg (And.intro @aJ3 (And.intro @aJJ (And.intro @aJK (@aAK))))
theorem stW:type_of% (And.intro @aDe (And.intro @nL (And.intro @aHV (And.intro @aFw (And.intro @bE (And.intro (@Ay AO) (And.intro (@Bv AO) (And.intro (@Ay AV) (And.intro (@Bv AV) (And.intro (@Ay Nat) (@Bv Nat))))))))))):=And.intro @aDe (And.intro @nL (And.intro @aHV (And.intro @aFw (And.intro @bE (And.intro (@Ay AO) (And.intro (@Bv AO) (And.intro (@Ay AV) (And.intro (@Bv AV) (And.intro (@Ay Nat) (@Bv Nat))))))))))
theorem sU:type_of% (And.intro aF stV):=And.intro aF stV
theorem sD:type_of% (And.intro aE stW):=And.intro aE stW
def mx(a b:Int):Int:=if b≤a then a else b
theorem aKV(l:List cL)(F:Fr)(h:T AB):fV (.minmax true l) F h=lK true (dD l F):=rfl
theorem aMu(v:AV)(l:List AV):lK true (v::l)=jL true l v:=rfl
theorem aNT(v:AV):jL true [] v=some v:=rfl
theorem aOa(a b:Int)(l:List AV):jL true (.int .i64 b::l) (.int .i64 a)=jL true l (.int .i64 (mx a b)):=by
 show bN (keq .i64 .i64) (jL true l (.int .i64 (bN true (bN (ile b a) a b) _))) none=_;rw[fC,aQ,aQ];congr 2;unfold mx;rw[oT];by_cases h:b≤a
 ·rw[if_pos h,Ac h];rfl
 ·rw[if_neg h,Aa h];rfl
theorem aIv(t:Nat)(x:cL)(F:Fr)(id:Nat):uL (.box t x) F id=aZ (x.val F).cells fun cs=>some (.ptr id 0,.cells cs false 0):=rfl
theorem nP(t:Nat)(cs:List AV)(F:Fr)(id:Nat):uL (.alloc t cs) F id=some (.ptr id 0,.cells cs false 0):=rfl
theorem zK(f:Nat)(first cap:List cL)(F:Fr)(h:T AB):fV (.mkFunc f first cap) F h=some (.fn f (dD first F) (dD cap F)):=rfl
theorem bB(cs:List AV):(AV.agg cs).cells=some cs:=rfl
theorem aC(i:Nat)(x:cL)(F:Fr)(h:T AB):fV (.faddr i x) F h=xO (x.val F) i:=rfl
theorem aD(b o i:Nat):xO (.ptr b o) i=some (.ptr b (o+i)):=rfl
theorem aU(i:Nat)(x:cL):dI (.faddr i x)=false:=rfl
theorem kK(z:List AV)(ps:List (Nat×Nat×cL)):dI (.build z ps)=false:=rfl
theorem dK(a:Nat)(agg:Bool)(n:Nat)(rs:List RV)(F:Fr)(h:T AB):results (.cell a agg n::rs) F h=aZ (eH (aB a F) agg n h) fun v=>aZ (results rs F h) fun vs=>some (v::vs):=rfl
section
variable {h:T AB}{b:Nat}{x y z:AV}{o:Bool}{s:Nat}
theorem jU(hb:h.get b=some (.cells [x,y,z] o s)):eH (.ptr b (0+0)) false 1 h=some x:=by
 simp only[eH,mW,aW,kL,cN,hb,aK,jS,oS];rfl
theorem aIc(hb:h.get b=some (.cells [x,y,z] o s)):eH (.ptr b (0+1)) false 1 h=some y:=by
 simp only[eH,mW,aW,kL,cN,hb,aK,jS,oS];rfl
theorem jR(hb:h.get b=some (.cells [x,y,z] o s)):eH (.ptr b (0+2)) false 1 h=some z:=by
 simp only[eH,mW,aW,kL,cN,hb,aK,jS,oS];rfl
theorem ld3(hb:h.get b=some (.cells [x,y,z] o s)):eH (.ptr b 0) true 3 h=some (.agg [x,y,z]):=by
 simp only[eH,mW,aQ,xD,cN,hb,aK,jS];rfl
end
theorem kD{S:St}{b n:Nat}{cs cs':List AV}{o:Bool}{s:Nat}(h:S.h.get b=some (.cells cs o s))(h1:cs.length=n)(h2:cs'.length=n):rU (.ptr b 0) n cs' S=some (.undef,⟨S.h.set b (some (.cells cs' o s)),S.nx⟩):=by
 have hp:put cs 0 cs'=some cs':=by
  rw[put_eq,if_pos (by omega)];simp [Ch (show cs.length≤cs'.length by omega)]
 simp only[rU,fL,h2,rZ,h,aK,aAO,hp];rw[show Nat.beq n n=true from Nat.beq_refl n];rfl
theorem cM{d t m:Nat}{x:cL}{l:List AO}{F:Fr}{S:St}{Q:Fr→St→Prop}{cs:List AV}(hc:(x.val F).cells=some cs)(h:∀S1,Same S S1→S1.nx=S.nx+1→S1.h.get S.nx=some (.cells cs false 0)→tX fns l (cK (some d) F (.ptr S.nx 0)) S1 Q):tX fns (⟨some d,.a (.box t x),none,m⟩::l) F S Q:=by
 rw[aAK];refine⟨(.ptr S.nx 0,.cells cs false 0),by rw[aIv,hc];rfl,h _ (Same.alloc S _) rfl ?_⟩;simp only;rw[T.get_set,if_pos rfl]
theorem cH{d t m:Nat}{l:List AO}{F:Fr}{S:St}{Q:Fr→St→Prop}{cs:List AV}(h:∀S1,Same S S1→S1.nx=S.nx+1→S1.h.get S.nx=some (.cells cs false 0)→tX fns l (cK (some d) F (.ptr S.nx 0)) S1 Q):tX fns (⟨some d,.a (.alloc t cs),none,m⟩::l) F S Q:=by
 rw[aAK];refine⟨(.ptr S.nx 0,.cells cs false 0),rfl,h _ (Same.alloc S _) rfl ?_⟩;simp only;rw[T.get_set,if_pos rfl]
theorem dB{n m b s:Nat}{x v:cL}{l:List AO}{F:Fr}{S:St}{Q:Fr→St→Prop}{cs cs':List AV}{o:Bool}(hx:x.val F= .ptr b 0)(hv:(v.val F).cells=some cs')(hb:S.h.get b=some (.cells cs o s))(h1:cs.length=n)(h2:cs'.length=n)
  (h:∀S1,bS b S S1→S1.nx=S.nx→S1.h.get b=some (.cells cs' o s)→tX fns l F S1 Q):tX fns (⟨none,.x (.st n x v),none,m⟩::l) F S Q:=by
 refine fJ (v:=.undef) (fun call=>?_) (h ⟨S.h.set b (some (.cells cs' o s)),S.nx⟩ ((bS.refl b S).put _) rfl ?_)
 ·rw[dN,hv,aK,hx];exact kD hb h1 h2
 ·simp only;rw[T.get_set,if_pos rfl]
theorem iE(W:Nat→Prop){ops:List AO}{A:bH}{S:St}{Q:Out→bH→St→Prop}(h:∀S1,Same S S1→fK fns W S.h S.nx ops 0 A.F S1 [] none fun F S' ps=>Q .normal ⟨F,A.inr⟩ ⟨(cF (2 ^ ops.length - 1) ps S'.h).2,S'.nx⟩):iH fns (.drw ops) A S Q:=jN W (h _ (Same.nx S _))
section
variable {W:Nat→Prop}{h0:T AB}{base:Nat}{d:Option Nat}{m i:Nat}{l:List AO}{F:Fr}{S:St}{last:Option Nat}{Q:Fr→St→List iJ→Prop}
theorem dS{f:cL}{args:List cL}(h:kQ last m=true)(hw:gH fns (f.val F) (dD args F) S fun v S1=>Same S S1∧fK fns W h0 base l (i+1) (cK d F v) S1 [] (some i) Q):fK fns W h0 base (⟨d,.x (.call f args),none,m⟩::l) i F S [] last Q:=
 aEs h hw
end
theorem gE(b:Bool):unV .not (.bool b)=some (.bool (!b)):=by cases b<;>rfl
theorem aIC:fI (.int .i64 0)=some 0:=rfl
end Go.Ev.Gl
