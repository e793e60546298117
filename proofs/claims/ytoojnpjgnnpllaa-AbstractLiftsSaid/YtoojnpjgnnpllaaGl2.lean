import Derived.Test.YtoojnpjgnnpllaaGl1
set_option maxHeartbeats 0
set_option linter.unusedSimpArgs false
set_option linter.unusedVariables false
namespace Go.Ev.Gl
variable {fns:T dY}
def jQ(last:Option Nat)(m:Nat):Bool:=
 match last with
 | none=>true
 | some i=>Nat.testBit m i
def aPk(W:Nat->Prop)(base:Nat)(v:AV):Prop:=∃b off,v= .ptr b off/\b<base/\¬W b
def aBz(W:Nat->Prop)(base:Nat)(q:QOp)(F:Fr):Prop:=(∃agg n x,q= .ld agg n x/\aPk W base (x.val F))\/∃sk z ok m k b,q= .lookup sk z ok m k/\m.val F= .map b/\b<base/\¬W b
def aGF(W:Nat->Prop)(base:Nat)(S S':St):Prop:=S.nx<=S'.nx/\∀b,b<base->¬W b->S'.h.get b=S.h.get b
def fF(fns:T dY)(W:Nat->Prop)(h0:T AB)(base:Nat):List AO->Nat->Fr->St->List iQ->Option Nat->(Fr->St->List iQ->Prop)->Prop
 | [],_,F,S,ps,_,Q=>Q F S ps
 | ⟨d,op,g,m⟩::l,i,F,S,ps,last,Q=>
  if eS g F=true then
   match op with
   | .q q=>lL (gM q F (bQ (dN q) h0 S.h)) fun v=>(dN q=true->cE v v=true/\aBz W base q F)/\fF fns W h0 base l (i+1) (cM d F v) S ps last Q
   | .a a=>lL (uW a F (base+i)) fun r=>fF fns W h0 base l (i+1) (cM d F r.1) S (⟨i,base+i,r.2⟩::ps) last Q
   | .x (.call f args)=>jQ last m=true/\fZ fns (f.val F) (dG args F) ⟨(cJ m ps S.h).2,S.nx⟩ fun v S1=>(Same ⟨(cJ m ps S.h).2,S.nx⟩ S1\/aGF W base ⟨(cJ m ps S.h).2,S.nx⟩ S1)/\fF fns W h0 base l (i+1) (cM d F v) S1 (cJ m ps S.h).1 (some i) Q
   | .x (.inv tbl r args)=>jQ last m=true/\∃t f u,r.val F= .iface t u/\aDu t tbl=some (f,none)/\fZ fns (.fn f [u] []) (dG args F) ⟨(cJ m ps S.h).2,S.nx⟩ fun v S1=>Same ⟨(cJ m ps S.h).2,S.nx⟩ S1/\fF fns W h0 base l (i+1) (cM d F v) S1 (cJ m ps S.h).1 (some i) Q
   | .x x=>jQ last m=true/\∃v S1,(∀call,evX x call F ⟨(cJ m ps S.h).2,S.nx⟩=some (v,S1))/\aGF W base ⟨(cJ m ps S.h).2,S.nx⟩ S1/\fF fns W h0 base l (i+1) (cM d F v) S1 (cJ m ps S.h).1 (some i) Q
  else fF fns W h0 base l (i+1) (cM d F .undef) S ps last Q
structure DOk(W:Nat->Prop)(h0:T AB)(base:Nat)(D:DS):Prop where
 cur:∀b,b<base->¬W b->D.S.h.get b=h0.get b
 nx:base<=D.S.nx
 chain:∀e∈D.hs,∀b,b<base->¬W b->e.2.2.get b=h0.get b
 lds:∀l∈D.ls,cE l.v l.v=true/\aBz W base l.q l.F/\gM l.q l.F h0=some l.v
 pend:∀p∈D.ps,base<=p.id
theorem aBz.ev{W:Nat->Prop}{base:Nat}{q:QOp}{F:Fr}(h:aBz W base q F){h0 h1:T AB}(hh:∀b,b<base->¬W b->h1.get b=h0.get b):gM q F h1=gM q F h0:=by
 rcases h with⟨agg,n,x,rfl,b,off,hx,hb,hw⟩ | ⟨sk,z,ok,m,k,b,rfl,hx,hb,hw⟩
 ·rw[mP,mP,hx];have e:cK h1 b=cK h0 b:=by unfold cK;rw[hh b hb hw]
  simp only[dT,pS,aAF,lK,e]
 ·show(bC (uE h1 (m.val F)) fun es=>_)=bC (uE h0 (m.val F)) fun es=>_;rw[hx];show(bC (bC (h1.get b) tQ) fun es=>_)=bC (bC (h0.get b) tQ) fun es=>_;rw[hh b hb hw]
theorem aBt{base b:Nat}(hb:b<base){m:Nat}:∀ {ps:List iQ} {h:T AB},(∀p∈ps,base<=p.id)->(cJ m ps h).2.get b=h.get b
 | [],h,_=>rfl
 | p::ps,h,hp=>by
  have h1:=hp p (by simp);have h2:∀q∈ps,base<=q.id:=fun q hq=>hp q (by simp [hq]);unfold cJ;cases Nat.testBit m p.i with
  | true=>rw[aR,aBt hb h2,di,if_neg ar]
  | false=>rw[bB];exact aBt hb h2
theorem aBR{base:Nat}{m:Nat}:∀ {ps:List iQ} {h:T AB},(∀p∈ps,base<=p.id)->∀p∈(cJ m ps h).1,base<=p.id
 | [],h,_,p,hp=>by cases hp
 | p::ps,h,hq,r,hr=>by
  have h2:∀q∈ps,base<=q.id:=fun q hx=>hq q (by simp [hx]);unfold cJ at hr;cases ht:Nat.testBit m p.i with
  | true=>rw[ht,aR] at hr;exact aBR h2 r hr
  | false=>
   rw[ht,bB] at hr;rcases Bs.1 hr with rfl | hr
   ·exact hq r (by simp)
   ·exact aBR h2 r hr
theorem aFb{W:Nat->Prop}{h0:T AB}{base:Nat}{l:mR}(h:cE l.v l.v=true/\aBz W base l.q l.F/\gM l.q l.F h0=some l.v):∀ {hs:List (Nat×Nat×T AB)} {h1:T AB},(∀e∈hs,∀b,b<base->¬W b->e.2.2.get b=h0.get b)->(∀b,b<base->¬W b->h1.get b=h0.get b)->eI l hs h1=true
 | [],h1,_,hh=>by
  show qI l.v (gM l.q l.F h1)=true;rw[h.2.1.ev hh,h.2.2];exact h.1
 | (i,m,h')::r,h1,hs,hh=>by
  have e1:qI l.v (gM l.q l.F h1)=true:=by rw[h.2.1.ev hh,h.2.2];exact h.1
  have e2:eI l r h'=true:=aFb h (fun e he=>hs e (by simp [he])) (hs (i,m,h') (by simp));unfold eI;rw[e1,e2];cases Nat.testBit l.mask i<;>cases Nat.testBit m l.i<;>rfl
theorem oR{h0:T AB}{hs:List (Nat×Nat×T AB)}:∀ {ls:List mR},(∀l∈ls,eI l hs h0=true)->fV h0 hs ls=true
 | [],_=>rfl
 | l::ls,h=>by rw[nT,h l (by simp),aR];exact oR fun l' hl=>h l' (by simp [hl])
theorem aNU{d:Option Nat}{tbl:List (Nat×Nat×Option (Bool×Nat))}{recv:cO}{args:List cO}{m i base:Nat}{l:List AO}{D:DS}{Q:DS->Prop}{t f:Nat}{u:AV}(hr:recv.val D.F= .iface t u)(hf:aDu t tbl=some (f,none))(h:zU fns (⟨d,.x (.call (.c (.fn f [u] [])) args),none,m⟩::l) i base D Q):zU fns (⟨d,.x (.inv tbl recv args),none,m⟩::l) i base D Q:=by
 have⟨n,D',e1,e2⟩:=h;refine⟨n,D',?_,e2⟩;have e:tW ⟨d,.x (.inv tbl recv args),none,m⟩ i base (ev fns n).call D=tW ⟨d,.x (.call (.c (.fn f [u] [])) args),none,m⟩ i base (ev fns n).call D:=by
  show bQ (jU D.hs m) (bC (evX (.inv tbl recv args) (ev fns n).call D.F ⟨(cJ m D.ps D.S.h).2,D.S.nx⟩) _) none=bQ (jU D.hs m) (bC (evX (.call (.c (.fn f [u] [])) args) (ev fns n).call D.F ⟨(cJ m D.ps D.S.h).2,D.S.nx⟩) _) none;rw[aOq hr hf]
 show bC (tW ⟨d,.x (.inv tbl recv args),none,m⟩ i base (ev fns n).call D) _=_;rw[e];exact e1
theorem mE{W:Nat->Prop}{h0:T AB}{base:Nat}{Q:Fr->St->List iQ->Prop}:∀ {ops:List AO} {i:Nat} {D:DS} {last:Option Nat},DOk W h0 base D->D.hs.head?.map (·.1)=last->fF fns W h0 base ops i D.F D.S D.ps last Q->
  zU fns ops i base D fun D'=>Q D'.F D'.S D'.ps/\DOk W h0 base D'
 | [],i,D,last,hD,_,hr=>by rw[gG];exact⟨hr,hD⟩
 | ⟨d,op,g,m⟩::l,i,D,last,hD,hlast,hr=>by
  have hlk:jQ last m=true->jU D.hs m=true:=fun h=>by
   subst hlast;cases hh:D.hs with
   | nil=>rfl
   | cons e r=>rw[hh] at h;exact h
  unfold fF at hr;by_cases hw:eS g D.F=true
  ·rw[if_pos hw] at hr;have lift:zU fns (⟨d,op,none,m⟩::l) i base D (fun D'=>Q D'.F D'.S D'.ps/\DOk W h0 base D')->zU fns (⟨d,op,g,m⟩::l) i base D (fun D'=>Q D'.F D'.S D'.ps/\DOk W h0 base D'):=by
    rintro⟨n,D',e1,e2⟩;refine⟨n,D',?_,e2⟩;have:tW ⟨d,op,g,m⟩ i base (ev fns n).call D=tW ⟨d,op,none,m⟩ i base (ev fns n).call D:=by
     show bQ (eS g D.F) _ _=bQ true _ _;rw[hw];cases op<;>rfl
    show bC (tW ⟨d,op,g,m⟩ i base (ev fns n).call D) _=_;rw[this];exact e1
   apply lift;cases op with
   | q q=>
    have⟨v,hv,hs,hr⟩:=hr;rw[lM];cases hq:dN q with
    | false=>
     rw[hq,bB] at hv;refine⟨v,hv,?_⟩;simp only[bB];exact mE (D:=⟨cM d D.F v,D.S,D.ps,D.hs,D.ls⟩) ⟨hD.cur,hD.nx,hD.chain,hD.lds,hD.pend⟩ hlast hr
    | true=>
     rw[hq,aR] at hv;have⟨hs1,hs2⟩:=hs hq;refine⟨v,by rw[hs2.ev hD.cur];exact hv,?_⟩;simp only[aR];refine mE (D:=⟨cM d D.F v,D.S,D.ps,D.hs,⟨q,D.F,v,i,m⟩::D.ls⟩) ⟨hD.cur,hD.nx,hD.chain,fun l' hl=>?_,hD.pend⟩ hlast hr;rcases Bs.1 hl with rfl | hl
     ·exact⟨hs1,hs2,hv⟩
     ·exact hD.lds l' hl
   | a a=>
    have⟨r,hv,hr⟩:=hr;rw[aIk];refine⟨r,hv,mE (D:=⟨cM d D.F r.1,D.S,⟨i,base+i,r.2⟩::D.ps,D.hs,D.ls⟩) ⟨hD.cur,hD.nx,hD.chain,hD.lds,fun p hp=>?_⟩ hlast hr⟩;rcases Bs.1 hp with rfl | hp
    ·exact Ba _ _
    ·exact hD.pend p hp
   | x x=>
    have next:∀ (v:AV) (S1:St),aGF W base ⟨(cJ m D.ps D.S.h).2,D.S.nx⟩ S1->DOk W h0 base ⟨cM d D.F v,S1,(cJ m D.ps D.S.h).1,(i,m,S1.h)::D.hs,D.ls⟩:=fun v S1 hS=>by
     have hc:∀b,b<base->¬W b->S1.h.get b=h0.get b:=fun b hb hw=>by
      rw[hS.2 b hb hw];show(cJ m D.ps D.S.h).2.get b=_;rw[aBt hb hD.pend];exact hD.cur b hb hw
     refine⟨hc,Al hD.nx hS.1,fun e he=>?_,hD.lds,aBR hD.pend⟩;rcases Bs.1 he with rfl | he
     ·exact hc
     ·exact hD.chain e he
    have other:(∀f args,x≠ .call f args)->(∀tbl r args,x≠ .inv tbl r args)->(jQ last m=true/\∃v S1,(∀call,evX x call D.F ⟨(cJ m D.ps D.S.h).2,D.S.nx⟩=some (v,S1))/\aGF W base ⟨(cJ m D.ps D.S.h).2,D.S.nx⟩ S1/\fF fns W h0 base l (i+1) (cM d D.F v) S1 (cJ m D.ps D.S.h).1 (some i) Q)->zU fns (⟨d,.x x,none,m⟩::l) i base D (fun D'=>Q D'.F D'.S D'.ps/\DOk W h0 base D'):=by
     rintro _ _ ⟨h1,v,S1,h2,h3,h4⟩;exact jZ (hlk h1) h2 (mE (D:=⟨cM d D.F v,S1,(cJ m D.ps D.S.h).1,(i,m,S1.h)::D.hs,D.ls⟩) (next v S1 h3) rfl h4)
    cases x with
    | call f args=>
     have⟨h1,n,v,S1,h2,h3,h4⟩:=hr;refine xQ (hlk h1) ⟨n,v,S1,h2,?_⟩;exact mE (D:=⟨cM d D.F v,S1,(cJ m D.ps D.S.h).1,(i,m,S1.h)::D.hs,D.ls⟩) (next v S1 (h3.elim (fun h3=>⟨h3.1,fun b hb _=>h3.2 b (Ae hb hD.nx)⟩) id)) rfl h4
    | inv tbl r args=>
     have⟨h1,t,f,u,hu,hf,n,v,S1,h2,h3,h4⟩:=hr;refine aNU hu hf (xQ (hlk h1) ⟨n,v,S1,h2,?_⟩);exact mE (D:=⟨cM d D.F v,S1,(cJ m D.ps D.S.h).1,(i,m,S1.h)::D.hs,D.ls⟩) (next v S1 ⟨h3.1,fun b hb _=>h3.2 b (Ae hb hD.nx)⟩) rfl h4
    | _=>exact other (fun _ _ h=>by cases h) (fun _ _ _ h=>by cases h) hr
  ·rw[if_neg hw] at hr;have⟨n,D',e1,e2⟩:=mE (i:=i+1) (D:=⟨cM d D.F .undef,D.S,D.ps,D.hs,D.ls⟩) (last:=last) ⟨hD.cur,hD.nx,hD.chain,hD.lds,hD.pend⟩ hlast hr;refine⟨n,D',?_,e2⟩;have:tW ⟨d,op,g,m⟩ i base (ev fns n).call D=some ⟨cM d D.F .undef,D.S,D.ps,D.hs,D.ls⟩:=by
    show bQ (eS g D.F) _ _=_;rw[show eS g D.F=false by simpa using hw];rfl
   show bC (tW ⟨d,op,g,m⟩ i base (ev fns n).call D) _=_;rw[this];exact e1
theorem kJ(W:Nat->Prop){ops:List AO}{A:bG}{S:St}{Q:Out->bG->St->Prop}(h:fF fns W S.h S.nx ops 0 A.F ⟨S.h,S.nx+ops.length⟩ [] none fun F S' ps=>Q .normal ⟨F,A.inr⟩ ⟨(cJ (2 ^ ops.length - 1) ps S'.h).2,S'.nx⟩):iM fns (.drw ops) A S Q:=by
 refine tI ?_;have⟨n,D',e1,e2,e3⟩:=mE (fns:=fns) (i:=0) (D:=⟨A.F,⟨S.h,S.nx+ops.length⟩,[],[],[]⟩) (last:=none) ⟨fun _ _ _=>rfl,Ba _ _,fun e he=>(by cases he),fun l hl=>(by cases hl),fun p hp=>(by cases hp)⟩ rfl h;exact⟨n,D',e1,oR fun l hl=>aFb (e3.lds l hl) (fun e he=>e3.chain e (List.mem_reverse.1 he)) (fun _ _ _=>rfl),e2⟩
def aLW(fns:T dY)(W:Nat->Prop)(h0:T AB)(base:Nat)(x:Option AV)(ld:Bool)(old:Prop)(d:Option Nat)(l:List AO)(i:Nat)(F:Fr)(S:St)(ps:List iQ)(last:Option Nat)(Q:Fr->St->List iQ->Prop):Prop:=lL x fun v=>(ld=true->cE v v=true/\old)/\fF fns W h0 base l i (cM d F v) S ps last Q
def aHO(fns:T dY)(W:Nat->Prop)(h0:T AB)(base:Nat)(x:Option (AV×AB))(d:Option Nat)(l:List AO)(i:Nat)(F:Fr)(S:St)(ps:List iQ)(last:Option Nat)(Q:Fr->St->List iQ->Prop):Prop:=lL x fun r=>fF fns W h0 base l (i+1) (cM d F r.1) S (⟨i,base+i,r.2⟩::ps) last Q
section
variable {W:Nat->Prop}{h0:T AB}{base:Nat}{d:Option Nat}{m i:Nat}{l:List AO}{F:Fr}{S:St}{ps:List iQ}{last:Option Nat}{Q:Fr->St->List iQ->Prop}
theorem aHm:fF fns W h0 base [] i F S ps last Q↔Q F S ps:=Iff.rfl
theorem aMk{q:QOp}:fF fns W h0 base (⟨d,.q q,none,m⟩::l) i F S ps last Q↔aLW fns W h0 base (gM q F (bQ (dN q) h0 S.h)) (dN q) (aBz W base q F) d l (i+1) F S ps last Q:=by
 rw[fF,if_pos (show eS none F=true from rfl)];rfl
theorem aEf{v:AV}{ld:Bool}{old:Prop}:aLW fns W h0 base (some v) ld old d l i F S ps last Q↔(ld=true->cE v v=true/\old)/\fF fns W h0 base l i (cM d F v) S ps last Q:=by unfold aLW;rw[eC]
theorem aIo{a:wN}:fF fns W h0 base (⟨d,.a a,none,m⟩::l) i F S ps last Q↔aHO fns W h0 base (uW a F (base+i)) d l i F S ps last Q:=by
 rw[fF,if_pos (show eS none F=true from rfl)];rfl
theorem mM{r:AV×AB}:aHO fns W h0 base (some r) d l i F S ps last Q↔fF fns W h0 base l (i+1) (cM d F r.1) S (⟨i,base+i,r.2⟩::ps) last Q:=by unfold aHO;rw[eC]
theorem aE4{f:cO}{args:List cO}(h:jQ last m=true)(hw:fZ fns (f.val F) (dG args F) ⟨(cJ m ps S.h).2,S.nx⟩ fun v S1=>Same ⟨(cJ m ps S.h).2,S.nx⟩ S1/\fF fns W h0 base l (i+1) (cM d F v) S1 (cJ m ps S.h).1 (some i) Q):fF fns W h0 base (⟨d,.x (.call f args),none,m⟩::l) i F S ps last Q:=by
 rw[fF,if_pos (show eS none F=true from rfl)];exact⟨h,aW hw fun v S1 h=>⟨.inl h.1,h.2⟩⟩
theorem aAg{f:cO}{args:List cO}(h:jQ last m=true)(hw:fZ fns (f.val F) (dG args F) ⟨(cJ m ps S.h).2,S.nx⟩ fun v S1=>aGF W base ⟨(cJ m ps S.h).2,S.nx⟩ S1/\fF fns W h0 base l (i+1) (cM d F v) S1 (cJ m ps S.h).1 (some i) Q):fF fns W h0 base (⟨d,.x (.call f args),none,m⟩::l) i F S ps last Q:=by
 rw[fF,if_pos (show eS none F=true from rfl)];exact⟨h,aW hw fun v S1 h=>⟨.inr h.1,h.2⟩⟩
theorem pD{n:Nat}{x v:cO}{S1:St}(h:jQ last m=true)(he:bC (v.val F).cells (fun cs=>sO (x.val F) n cs ⟨(cJ m ps S.h).2,S.nx⟩)=some (.undef,S1))(ho:aGF W base ⟨(cJ m ps S.h).2,S.nx⟩ S1)(hr:fF fns W h0 base l (i+1) (cM d F .undef) S1 (cJ m ps S.h).1 (some i) Q):fF fns W h0 base (⟨d,.x (.st n x v),none,m⟩::l) i F S ps last Q:=by
 unfold fF;rw[if_pos (show eS none F=true from rfl)];exact⟨h,_,S1,fun call=>he,ho,hr⟩
theorem aMy{op:AOp}{s:Nat}{b:Bool}:fF fns W h0 base (⟨d,op,some (s,b),m⟩::l) i F S ps last Q↔if isB (aD s F) b=true then fF fns W h0 base (⟨d,op,none,m⟩::l) i F S ps last Q else fF fns W h0 base l (i+1) (cM d F .undef) S ps last Q:=by
 conv=>lhs;unfold fF
 rw[show eS (some (s,b)) F=isB (aD s F) b from rfl];split
 ·conv=>rhs;unfold fF
  rw[if_pos (show eS none F=true from rfl)]
 ·rfl
theorem aJn{agg:Bool}{n:Nat}{x:cO}:aBz W base (.ld agg n x) F↔aPk W base (x.val F):=by
 constructor
 ·rintro(⟨_,_,_,h,h2⟩ | ⟨_,_,_,_,_,_,h,_⟩)
  ·cases h;exact h2
  ·cases h
 ·exact fun h=>.inl ⟨_,_,_,rfl,h⟩
theorem xT{sk:tZ}{z:AV}{ok:Bool}{m k:cO}{b:Nat}(h:m.val F= .map b)(hb:b<base)(hw:¬W b):aBz W base (.lookup sk z ok m k) F:=.inr ⟨_,_,_,_,_,b,rfl,h,hb,hw⟩
theorem aGU{b off:Nat}:aPk W base (.ptr b off)↔b<base/\¬W b:=by
 constructor
 ·rintro⟨_,_,h,h2⟩;cases h;exact h2
 ·exact fun h=>⟨_,_,rfl,h⟩
end
abbrev stV:=And.intro @aHm (And.intro @aMk (And.intro @aIo (And.intro @aMy (@aBN))))
abbrev stW:=And.intro @aEf (And.intro @mM (And.intro @aJn (And.intro @aGU (And.intro @bF (And.intro (@Ax AO) (And.intro (@Bq AO) (And.intro (@Ax AV) (And.intro (@Bq AV) (And.intro (@Ax Nat) (@Bq Nat))))))))))
abbrev sU:=And.intro aF stV
abbrev sD:=And.intro aG stW
theorem dm{p q r:Prop}(b:r)(a:q)(h:r->q->p:=by intro b a;simp only[↓sU,sD,Nat.reduceEqDiff,↓reduceIte,Nat.reduceAdd,b];exact a):p:=h b a
theorem dn{p q r s:Prop}(b:r)(c:s)(a:q)(h:r->s->q->p:=by intro b c a;simp only[↓sU,sD,Nat.reduceEqDiff,↓reduceIte,Nat.reduceAdd,b,c];exact a):p:=h b c a
theorem dp{p q r s t:Prop}(b:r)(c:s)(d:t)(a:q)(h:r->s->t->q->p:=by intro b c d a;simp only[↓sU,sD,Nat.reduceEqDiff,↓reduceIte,Nat.reduceAdd,b,c,d];exact a):p:=h b c d a
theorem dq{p q r s t u:Prop}(b:r)(c:s)(d:t)(e:u)(a:q)(h:r->s->t->u->q->p:=by intro b c d e a;simp only[↓sU,sD,Nat.reduceEqDiff,↓reduceIte,Nat.reduceAdd,b,c,d,e];exact a):p:=h b c d e a
theorem dr{p q r s t u v:Prop}(b:r)(c:s)(d:t)(e:u)(f:v)(a:q)(h:r->s->t->u->v->q->p:=by intro b c d e f a;simp only[↓sU,sD,Nat.reduceEqDiff,↓reduceIte,Nat.reduceAdd,b,c,d,e,f];exact a):p:=h b c d e f a
theorem dt{p q r s t u v w:Prop}(b:r)(c:s)(d:t)(e:u)(f:v)(g:w)(a:q)(h:r->s->t->u->v->w->q->p:=by intro b c d e f g a;simp only[↓sU,sD,Nat.reduceEqDiff,↓reduceIte,Nat.reduceAdd,b,c,d,e,f,g];exact a):p:=h b c d e f g a
theorem du{p q r s t u v w x:Prop}(b:r)(c:s)(d:t)(e:u)(f:v)(g:w)(i:x)(a:q)(h:r->s->t->u->v->w->x->q->p:=by intro b c d e f g i a;simp only[↓sU,sD,Nat.reduceEqDiff,↓reduceIte,Nat.reduceAdd,b,c,d,e,f,g,i];exact a):p:=h b c d e f g i a
theorem dw{p q r s t u v w x y:Prop}(b:r)(c:s)(d:t)(e:u)(f:v)(g:w)(i:x)(j:y)(a:q)(h:r->s->t->u->v->w->x->y->q->p:=by intro b c d e f g i j a;simp only[↓sU,sD,Nat.reduceEqDiff,↓reduceIte,Nat.reduceAdd,b,c,d,e,f,g,i,j];exact a):p:=h b c d e f g i j a
theorem ad{p q:Prop}(a:q)(h:q->p:=by intro a;simp only[↓sU,sD,Nat.reduceEqDiff,↓reduceIte,a]):p:=h a
theorem ae{p q:Prop}(a:q)(h:q->p:=by intro a;simp only[↓sU,sD,Nat.reduceEqDiff,↓reduceIte,Nat.reduceAdd];exact a):p:=h a
theorem af{p:Prop}(h:p:=by simp only[↓sU,sD,Nat.reduceEqDiff,↓reduceIte,Nat.reduceAdd]):p:=h
theorem ag{p:Prop}(h:p:=by simp only[↓sU,sD,Nat.reduceEqDiff,↓reduceIte,Nat.reduceAdd];try rfl):p:=h
theorem ah{p q:Prop}(a:q)(h:q->p:=by intro a;simp only[↓sU,sD,Nat.reduceEqDiff,↓reduceIte,Nat.reduceAdd,a]):p:=h a
def mx(a b:Int):Int:=if b<=a then a else b
theorem aMG(l:List cO)(F:Fr)(h:T AB):gM (.dg true l) F h=mH true (dG l F):=rfl
theorem aNO(v:AV)(l:bf):mH true (v::l)=kI true l v:=rfl
theorem aP3(v:AV):kI true [] v=some v:=rfl
theorem aPI(a b:Int)(l:bf):kI true (.int .i64 b::l) (.int .i64 a)=kI true l (.int .i64 (mx a b)):=by
 show bQ (keq .i64 .i64) (kI true l (.int .i64 (bQ true (bQ (ile b a) a b) _))) none=_;rw[fL,aR,aR];congr 2;unfold mx;rw[pX];by_cases h:b<=a
 ·rw[if_pos h,Ac h];rfl
 ·rw[if_neg h,Aa h];rfl
theorem vO{S:St}{v:AV}{l:bg}(h:gK S v l):v.cells=some [v]:=by
 rcases h with⟨_,h | h⟩ | ⟨b,off,cap,o,cs,rfl,_⟩
 ·subst h;rfl
 ·subst h;rfl
 ·rfl
theorem aJK(t:Nat)(x:cO)(F:Fr)(id:Nat):uW (.box t x) F id=bC (x.val F).cells fun cs=>some (.ptr id 0,.cells cs false 0):=rfl
theorem oS(t:Nat)(cs:bf)(F:Fr)(id:Nat):uW (.alloc t cs) F id=some (.ptr id 0,.cells cs false 0):=rfl
theorem aA3(f:Nat)(first cap:List cO)(F:Fr)(h:T AB):gM (.mkFunc f first cap) F h=some (.fn f (dG first F) (dG cap F)):=rfl
theorem aY(cs:bf):(AV.agg cs).cells=some cs:=rfl
theorem aDc(b:Bool):(AV.bool b).cells=some [.bool b]:=rfl
theorem aC(i:Nat)(x:cO)(F:Fr)(h:T AB):gM (.cw i x) F h=zR (x.val F) i:=rfl
theorem aB(b o i:Nat):zR (.ptr b o) i=some (.ptr b (o+i)):=rfl
theorem aQ(i:Nat)(x:cO):dN (.cw i x)=false:=rfl
theorem iW(z:bf)(ps:List (Nat×Nat×cO)):dN (.build z ps)=false:=rfl
theorem dJ(a:Nat)(agg:Bool)(n:Nat)(rs:List RV)(F:Fr)(h:T AB):results (.cell a agg n::rs) F h=bC (dT (aD a F) agg n h) fun v=>bC (results rs F h) fun vs=>some (v::vs):=rfl
theorem aLc{z0 z1 z2:AV}{x y z:cO}{F:Fr}{h:T AB}(h1:(x.val F).cells=some [x.val F])(h2:(y.val F).cells=some [y.val F])(h3:(z.val F).cells=some [z.val F]):gM (.build [z0,z1,z2] [(0,1,x),(1,1,y),(2,1,z)]) F h=some (.agg [x.val F,y.val F,z.val F]):=by
 show bC (eQ [z0,z1,z2] [(0,1,x.val F),(1,1,y.val F),(2,1,z.val F)]) (fun cs=>some (AV.agg cs))=_;simp only[eQ,h1,h2,h3,aL];rfl
section
variable {h:T AB}{b:Nat}{x y z:AV}{o:Bool}{s:Nat}
theorem gT(hb:h.get b=some (.cells [x,y,z] o s)):dT (.ptr b (0+0)) false 1 h=some x:=by
 simp only[dT,pS,bB,lK,cK,hb,aL,lR,pZ];rfl
theorem zE(hb:h.get b=some (.cells [x,y,z] o s)):dT (.ptr b (0+1)) false 1 h=some y:=by
 simp only[dT,pS,bB,lK,cK,hb,aL,lR,pZ];rfl
theorem iY(hb:h.get b=some (.cells [x,y,z] o s)):dT (.ptr b (0+2)) false 1 h=some z:=by
 simp only[dT,pS,bB,lK,cK,hb,aL,lR,pZ];rfl
theorem ld3(hb:h.get b=some (.cells [x,y,z] o s)):dT (.ptr b 0) true 3 h=some (.agg [x,y,z]):=by
 simp only[dT,pS,aR,aAF,cK,hb,aL,lR];rfl
end
theorem kH{S:St}{b n:Nat}{cs cs':bf}{o:Bool}{s:Nat}(h:S.h.get b=some (.cells cs o s))(h1:cs.length=n)(h2:cs'.length=n):sO (.ptr b 0) n cs' S=some (.undef,⟨S.h.set b (some (.cells cs' o s)),S.nx⟩):=by
 have hp:put cs 0 cs'=some cs':=by
  rw[put_eq,if_pos ar];simp [Cn (show cs.length<=cs'.length by omega)]
 simp only[sO,fS,h2,tN,h,aL,aBJ,hp];rw[show Nat.beq n n=true from Nat.beq_refl n];rfl
theorem cI{d t m:Nat}{x:cO}{l:List AO}{F:Fr}{S:St}{Q:Fr->St->Prop}{cs:bf}(hc:(x.val F).cells=some cs)(h:∀S1,Same S S1->S1.nx=S.nx+1->S1.h.get S.nx=some (.cells cs false 0)->vL fns l (cM (some d) F (.ptr S.nx 0)) S1 Q):vL fns (⟨some d,.a (.box t x),none,m⟩::l) F S Q:=by
 rw[aBN];refine⟨(.ptr S.nx 0,.cells cs false 0),by rw[aJK,hc];rfl,h _ (Same.alloc S _) rfl ?_⟩;simp only;rw[di,if_pos rfl]
theorem cA{d t m:Nat}{l:List AO}{F:Fr}{S:St}{Q:Fr->St->Prop}{cs:bf}(h:∀S1,Same S S1->S1.nx=S.nx+1->S1.h.get S.nx=some (.cells cs false 0)->vL fns l (cM (some d) F (.ptr S.nx 0)) S1 Q):vL fns (⟨some d,.a (.alloc t cs),none,m⟩::l) F S Q:=by
 rw[aBN];refine⟨(.ptr S.nx 0,.cells cs false 0),rfl,h _ (Same.alloc S _) rfl ?_⟩;simp only;rw[di,if_pos rfl]
theorem cQ{n m b s:Nat}{x v:cO}{l:List AO}{F:Fr}{S:St}{Q:Fr->St->Prop}{cs cs':bf}{o:Bool}(hx:x.val F= .ptr b 0)(hv:(v.val F).cells=some cs')(hb:S.h.get b=some (.cells cs o s))(h1:cs.length=n)(h2:cs'.length=n)
  (h:∀S1,bT b S S1->S1.nx=S.nx->S1.h.get b=some (.cells cs' o s)->vL fns l F S1 Q):vL fns (⟨none,.x (.st n x v),none,m⟩::l) F S Q:=by
 refine fI (v:=.undef) (fun call=>?_) (h ⟨S.h.set b (some (.cells cs' o s)),S.nx⟩ ((bT.refl b S).put _) rfl ?_)
 ·rw[dS,hv,aL,hx];exact kH hb h1 h2
 ·simp only;rw[di,if_pos rfl]
theorem gS(W:Nat->Prop){ops:List AO}{A:bG}{S:St}{Q:Out->bG->St->Prop}(h:∀S1,Same S S1->fF fns W S.h S.nx ops 0 A.F S1 [] none fun F S' ps=>Q .normal ⟨F,A.inr⟩ ⟨(cJ (2 ^ ops.length - 1) ps S'.h).2,S'.nx⟩):iM fns (.drw ops) A S Q:=kJ W (h _ (Same.nx S _))
section
variable {W:Nat->Prop}{h0:T AB}{base:Nat}{d:Option Nat}{m i:Nat}{l:List AO}{F:Fr}{S:St}{last:Option Nat}{Q:Fr->St->List iQ->Prop}
theorem cU{f:cO}{args:List cO}(h:jQ last m=true)(hw:fZ fns (f.val F) (dG args F) S fun v S1=>Same S S1/\fF fns W h0 base l (i+1) (cM d F v) S1 [] (some i) Q):fF fns W h0 base (⟨d,.x (.call f args),none,m⟩::l) i F S [] last Q:=
 aE4 h hw
theorem aH7{n b s:Nat}{x v:cO}{cs cs':bf}{o:Bool}(h:jQ last m=true)(hx:x.val F= .ptr b 0)(hv:(v.val F).cells=some cs')(hb:S.h.get b=some (.cells cs o s))(h1:cs.length=n)(h2:cs'.length=n)(hW:W b)
  (hr:∀S1,bT b S S1->S1.nx=S.nx->S1.h.get b=some (.cells cs' o s)->fF fns W h0 base l (i+1) F S1 [] (some i) Q):fF fns W h0 base (⟨none,.x (.st n x v),none,m⟩::l) i F S [] last Q:=by
 have hS:bT b S ⟨S.h.set b (some (.cells cs' o s)),S.nx⟩:=(bT.refl b S).put _;refine pD (S1:=⟨S.h.set b (some (.cells cs' o s)),S.nx⟩) h ?_ ⟨Ag _,fun c hc hw=>?_⟩ (hr _ hS rfl ?_)
 ·rw[hv,aL,hx];exact kH hb h1 h2
 ·simp only;rw[di,if_neg (show ¬c=b from fun e=>hw (by rw[e];exact hW))];rfl
 ·simp only;rw[di,if_pos rfl]
end
theorem qU{S:St}{v:AV}{l:bg}(h:gK S v l):cE v v=true:=by
 rcases h with⟨_,h | h⟩ | ⟨b,off,cap,o,cs,rfl,_⟩
 ·subst h;rfl
 ·subst h;rfl
 ·exact nH ..
theorem eM(b:Bool):unV .not (.bool b)=some (.bool (!b)):=by cases b<;>rfl
theorem aKt:fP (.int .i64 0)=some 0:=rfl
theorem aBg(p q:Bool):pV .eql (.p .bool) (.bool p) (.bool q)=some (.bool (p==q)):=by cases p<;>cases q<;>rfl
end Go.Ev.Gl
