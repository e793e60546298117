import Derived.Test.YtiiplmagnlcpbaaGreatDoorGl1
set_option linter.unusedSimpArgs false
set_option linter.unusedVariables false
open Nat renaming reduceEqDiff -> rE, reduceAdd -> rA
set_option maxHeartbeats 0
namespace Go.Ev.Gl
variable {fns:T dD}
def oB(last:Option Nat)(m:Nat):Bool:=
 match last with
 | none=>true
 | some i=>Nat.testBit m i
def aM1(W:Nat->Prop)(base:Nat)(v:AV):Prop:=∃b off,v= .ptr b off/\b<base/\¬W b
def aGN(W:Nat->Prop)(base:Nat)(q:QOp)(F:Fr):Prop:=(∃agg n x,q= .ld agg n x/\aM1 W base (x.val F))\/∃sk z ok m k b,q= .lookup sk z ok m k/\m.val F= .map b/\b<base/\¬W b
def aJe(W:Nat->Prop)(base:Nat)(S S':St):Prop:=S.nx<=S'.nx/\∀b,b<base->¬W b->S'.h.get b=S.h.get b
def hJ(fns:T dD)(W:Nat->Prop)(h0:T AB)(base:Nat):List AO->Nat->Fr->St->List kB->Option Nat->(Fr->St->List kB->Prop)->Prop
 | [],_,F,S,ps,_,Q=>Q F S ps
 | ⟨d,op,g,m⟩::l,i,F,S,ps,last,Q=>
  if fI g F=true then
   match op with
   | .q q=>mT (iT q F (bO (dK q) h0 S.h)) fun v=>(dK q=true->cQ v v=true/\aGN W base q F)/\hJ fns W h0 base l (i+1) (cJ d F v) S ps last Q
   | .a a=>mT (tA a F (base+i)) fun r=>hJ fns W h0 base l (i+1) (cJ d F r.1) S (⟨i,base+i,r.2⟩::ps) last Q
   | .x (.call f args)=>oB last m=true/\eT fns (f.val F) (dE args F) ⟨(cG m ps S.h).2,S.nx⟩ fun v S1=>(Same ⟨(cG m ps S.h).2,S.nx⟩ S1\/aJe W base ⟨(cG m ps S.h).2,S.nx⟩ S1)/\hJ fns W h0 base l (i+1) (cJ d F v) S1 (cG m ps S.h).1 (some i) Q
   | .x (.inv tbl r args)=>oB last m=true/\∃t f u,r.val F= .iface t u/\pS t tbl=some (f,none)/\eT fns (.fn f [u] []) (dE args F) ⟨(cG m ps S.h).2,S.nx⟩ fun v S1=>Same ⟨(cG m ps S.h).2,S.nx⟩ S1/\hJ fns W h0 base l (i+1) (cJ d F v) S1 (cG m ps S.h).1 (some i) Q
   | .x x=>oB last m=true/\∃v S1,(∀call,xN x call F ⟨(cG m ps S.h).2,S.nx⟩=some (v,S1))/\aJe W base ⟨(cG m ps S.h).2,S.nx⟩ S1/\hJ fns W h0 base l (i+1) (cJ d F v) S1 (cG m ps S.h).1 (some i) Q
  else hJ fns W h0 base l (i+1) (cJ d F .undef) S ps last Q
structure DOk(W:Nat->Prop)(h0:T AB)(base:Nat)(D:DS):Prop where
 cur:∀b,b<base->¬W b->D.S.h.get b=h0.get b
 nx:base<=D.S.nx
 chain:∀e∈D.hs,∀b,b<base->¬W b->e.2.2.get b=h0.get b
 lds:∀l∈D.ls,cQ l.v l.v=true/\aGN W base l.q l.F/\iT l.q l.F h0=some l.v
 pend:∀p∈D.ps,base<=p.id
theorem aGN.ev{W:Nat->Prop}{base:Nat}{q:QOp}{F:Fr}(h:aGN W base q F){h0 h1:T AB}(hh:∀b,b<base->¬W b->h1.get b=h0.get b):iT q F h1=iT q F h0:=by
 rcases h with⟨agg,n,x,rfl,b,off,hx,hb,hw⟩ | ⟨sk,z,ok,m,k,b,rfl,hx,hb,hw⟩
 ·rw[mQ,mQ,hx];have e:cA h1 b=cA h0 b:=by unfold cA;rw[hh b hb hw]
  simp only[dJ,iQ,oM,jQ,e]
 ·show(aU (tX h1 (m.val F)) fun es=>_)=aU (tX h0 (m.val F)) fun es=>_;rw[hx];show(aU (aU (h1.get b) zU) fun es=>_)=aU (aU (h0.get b) zU) fun es=>_;rw[hh b hb hw]
theorem aBG{base b:Nat}(hb:b<base){m:Nat}:∀ {ps:List kB} {h:T AB},(∀p∈ps,base<=p.id)->(cG m ps h).2.get b=h.get b
 | [],h,_=>rfl
 | p::ps,h,hp=>by
  have h1:=hp p (by simp);have h2:∀q∈ps,base<=q.id:=fun q hq=>hp q (by simp [hq]);unfold cG;cases Nat.testBit m p.i with
  | true=>rw[aN,aBG hb h2,dq,if_neg au]
  | false=>rw[aR];exact aBG hb h2
theorem aBE{base:Nat}{m:Nat}:∀ {ps:List kB} {h:T AB},(∀p∈ps,base<=p.id)->∀p∈(cG m ps h).1,base<=p.id
 | [],h,_,p,hp=>by cases hp
 | p::ps,h,hq,r,hr=>by
  have h2:∀q∈ps,base<=q.id:=fun q hx=>hq q (by simp [hx]);unfold cG at hr;cases ht:Nat.testBit m p.i with
  | true=>rw[ht,aN] at hr;exact aBE h2 r hr
  | false=>
   rw[ht,aR] at hr;rcases Br.1 hr with rfl | hr
   ·exact hq r (by simp)
   ·exact aBE h2 r hr
theorem aFB{W:Nat->Prop}{h0:T AB}{base:Nat}{l:nL}(h:cQ l.v l.v=true/\aGN W base l.q l.F/\iT l.q l.F h0=some l.v):∀ {hs:List (Nat×Nat×T AB)} {h1:T AB},(∀e∈hs,∀b,b<base->¬W b->e.2.2.get b=h0.get b)->(∀b,b<base->¬W b->h1.get b=h0.get b)->gN l hs h1=true
 | [],h1,_,hh=>by
  show qE l.v (iT l.q l.F h1)=true;rw[h.2.1.ev hh,h.2.2];exact h.1
 | (i,m,h')::r,h1,hs,hh=>by
  have e1:qE l.v (iT l.q l.F h1)=true:=by rw[h.2.1.ev hh,h.2.2];exact h.1
  have e2:gN l r h'=true:=aFB h (fun e he=>hs e (by simp [he])) (hs (i,m,h') (by simp));unfold gN;rw[e1,e2];cases Nat.testBit l.mask i<;>cases Nat.testBit m l.i<;>rfl
theorem qZ{h0:T AB}{hs:List (Nat×Nat×T AB)}:∀ {ls:List nL},(∀l∈ls,gN l hs h0=true)->fT h0 hs ls=true
 | [],_=>rfl
 | l::ls,h=>by rw[vN,h l (by simp),aN];exact qZ fun l' hl=>h l' (by simp [hl])
theorem aPM{d:Option Nat}{tbl:List (Nat×Nat×Option (Bool×Nat))}{recv:cP}{args:List cP}{m i base:Nat}{l:List AO}{D:DS}{Q:DS->Prop}{t f:Nat}{u:AV}(hr:recv.val D.F= .iface t u)(hf:pS t tbl=some (f,none))(h:wpd fns (⟨d,.x (.call (.c (.fn f [u] [])) args),none,m⟩::l) i base D Q):wpd fns (⟨d,.x (.inv tbl recv args),none,m⟩::l) i base D Q:=by
 have⟨n,D',e1,e2⟩:=h;refine⟨n,D',?_,e2⟩;have e:tB ⟨d,.x (.inv tbl recv args),none,m⟩ i base (ev fns n).call D=tB ⟨d,.x (.call (.c (.fn f [u] [])) args),none,m⟩ i base (ev fns n).call D:=by
  show bO (jE D.hs m) (aU (xN (.inv tbl recv args) (ev fns n).call D.F ⟨(cG m D.ps D.S.h).2,D.S.nx⟩) _) none=bO (jE D.hs m) (aU (xN (.call (.c (.fn f [u] [])) args) (ev fns n).call D.F ⟨(cG m D.ps D.S.h).2,D.S.nx⟩) _) none;rw[aKf hr hf]
 show aU (tB ⟨d,.x (.inv tbl recv args),none,m⟩ i base (ev fns n).call D) _=_;rw[e];exact e1
theorem mY{W:Nat->Prop}{h0:T AB}{base:Nat}{Q:Fr->St->List kB->Prop}:∀ {ops:List AO} {i:Nat} {D:DS} {last:Option Nat},DOk W h0 base D->D.hs.head?.map (·.1)=last->hJ fns W h0 base ops i D.F D.S D.ps last Q->
  wpd fns ops i base D fun D'=>Q D'.F D'.S D'.ps/\DOk W h0 base D'
 | [],i,D,last,hD,_,hr=>by rw[nF];exact⟨hr,hD⟩
 | ⟨d,op,g,m⟩::l,i,D,last,hD,hlast,hr=>by
  have hlk:oB last m=true->jE D.hs m=true:=fun h=>by
   subst hlast;cases hh:D.hs with
   | nil=>rfl
   | cons e r=>rw[hh] at h;exact h
  unfold hJ at hr;by_cases hw:fI g D.F=true
  ·rw[if_pos hw] at hr;have lift:wpd fns (⟨d,op,none,m⟩::l) i base D (fun D'=>Q D'.F D'.S D'.ps/\DOk W h0 base D')->wpd fns (⟨d,op,g,m⟩::l) i base D (fun D'=>Q D'.F D'.S D'.ps/\DOk W h0 base D'):=by
    rintro⟨n,D',e1,e2⟩;refine⟨n,D',?_,e2⟩;have:tB ⟨d,op,g,m⟩ i base (ev fns n).call D=tB ⟨d,op,none,m⟩ i base (ev fns n).call D:=by
     show bO (fI g D.F) _ _=bO true _ _;rw[hw];cases op<;>rfl
    show aU (tB ⟨d,op,g,m⟩ i base (ev fns n).call D) _=_;rw[this];exact e1
   apply lift;cases op with
   | q q=>
    have⟨v,hv,hs,hr⟩:=hr;rw[sR];cases hq:dK q with
    | false=>
     rw[hq,aR] at hv;refine⟨v,hv,?_⟩;simp only[aR];exact mY (D:=⟨cJ d D.F v,D.S,D.ps,D.hs,D.ls⟩) ⟨hD.cur,hD.nx,hD.chain,hD.lds,hD.pend⟩ hlast hr
    | true=>
     rw[hq,aN] at hv;have⟨hs1,hs2⟩:=hs hq;refine⟨v,by rw[hs2.ev hD.cur];exact hv,?_⟩;simp only[aN];refine mY (D:=⟨cJ d D.F v,D.S,D.ps,D.hs,⟨q,D.F,v,i,m⟩::D.ls⟩) ⟨hD.cur,hD.nx,hD.chain,fun l' hl=>?_,hD.pend⟩ hlast hr;rcases Br.1 hl with rfl | hl
     ·exact⟨hs1,hs2,hv⟩
     ·exact hD.lds l' hl
   | a a=>
    have⟨r,hv,hr⟩:=hr;rw[aPe];refine⟨r,hv,mY (D:=⟨cJ d D.F r.1,D.S,⟨i,base+i,r.2⟩::D.ps,D.hs,D.ls⟩) ⟨hD.cur,hD.nx,hD.chain,hD.lds,fun p hp=>?_⟩ hlast hr⟩;rcases Br.1 hp with rfl | hp
    ·exact En _ _
    ·exact hD.pend p hp
   | x x=>
    have next:∀ (v:AV) (S1:St),aJe W base ⟨(cG m D.ps D.S.h).2,D.S.nx⟩ S1->DOk W h0 base ⟨cJ d D.F v,S1,(cG m D.ps D.S.h).1,(i,m,S1.h)::D.hs,D.ls⟩:=fun v S1 hS=>by
     have hc:∀b,b<base->¬W b->S1.h.get b=h0.get b:=fun b hb hw=>by
      rw[hS.2 b hb hw];show(cG m D.ps D.S.h).2.get b=_;rw[aBG hb hD.pend];exact hD.cur b hb hw
     refine⟨hc,Bb hD.nx hS.1,fun e he=>?_,hD.lds,aBE hD.pend⟩;rcases Br.1 he with rfl | he
     ·exact hc
     ·exact hD.chain e he
    have other:(∀f args,x≠ .call f args)->(∀tbl r args,x≠ .inv tbl r args)->(oB last m=true/\∃v S1,(∀call,xN x call D.F ⟨(cG m D.ps D.S.h).2,D.S.nx⟩=some (v,S1))/\aJe W base ⟨(cG m D.ps D.S.h).2,D.S.nx⟩ S1/\hJ fns W h0 base l (i+1) (cJ d D.F v) S1 (cG m D.ps D.S.h).1 (some i) Q)->wpd fns (⟨d,.x x,none,m⟩::l) i base D (fun D'=>Q D'.F D'.S D'.ps/\DOk W h0 base D'):=by
     rintro _ _ ⟨h1,v,S1,h2,h3,h4⟩;exact oN (hlk h1) h2 (mY (D:=⟨cJ d D.F v,S1,(cG m D.ps D.S.h).1,(i,m,S1.h)::D.hs,D.ls⟩) (next v S1 h3) rfl h4)
    cases x with
    | call f args=>
     have⟨h1,n,v,S1,h2,h3,h4⟩:=hr;refine aHp (hlk h1) ⟨n,v,S1,h2,?_⟩;exact mY (D:=⟨cJ d D.F v,S1,(cG m D.ps D.S.h).1,(i,m,S1.h)::D.hs,D.ls⟩) (next v S1 (h3.elim (fun h3=>⟨h3.1,fun b hb _=>h3.2 b (Ag hb hD.nx)⟩) id)) rfl h4
    | inv tbl r args=>
     have⟨h1,t,f,u,hu,hf,n,v,S1,h2,h3,h4⟩:=hr;refine aPM hu hf (aHp (hlk h1) ⟨n,v,S1,h2,?_⟩);exact mY (D:=⟨cJ d D.F v,S1,(cG m D.ps D.S.h).1,(i,m,S1.h)::D.hs,D.ls⟩) (next v S1 ⟨h3.1,fun b hb _=>h3.2 b (Ag hb hD.nx)⟩) rfl h4
    | _=>exact other (fun _ _ h=>by cases h) (fun _ _ _ h=>by cases h) hr
  ·rw[if_neg hw] at hr;have⟨n,D',e1,e2⟩:=mY (i:=i+1) (D:=⟨cJ d D.F .undef,D.S,D.ps,D.hs,D.ls⟩) (last:=last) ⟨hD.cur,hD.nx,hD.chain,hD.lds,hD.pend⟩ hlast hr;refine⟨n,D',?_,e2⟩;have:tB ⟨d,op,g,m⟩ i base (ev fns n).call D=some ⟨cJ d D.F .undef,D.S,D.ps,D.hs,D.ls⟩:=by
    show bO (fI g D.F) _ _=_;rw[show fI g D.F=false by simpa using hw];rfl
   show aU (tB ⟨d,op,g,m⟩ i base (ev fns n).call D) _=_;rw[this];exact e1
theorem aGh(W:Nat->Prop){ops:List AO}{A:bN}{S:St}{Q:Out->bN->St->Prop}(h:hJ fns W S.h S.nx ops 0 A.F ⟨S.h,S.nx+ops.length⟩ [] none fun F S' ps=>Q .normal ⟨F,A.inr⟩ ⟨(cG (2 ^ ops.length - 1) ps S'.h).2,S'.nx⟩):nD fns (.drw ops) A S Q:=by
 refine vC ?_;have⟨n,D',e1,e2,e3⟩:=mY (fns:=fns) (i:=0) (D:=⟨A.F,⟨S.h,S.nx+ops.length⟩,[],[],[]⟩) (last:=none) ⟨fun _ _ _=>rfl,En _ _,fun e he=>(by cases he),fun l hl=>(by cases hl),fun p hp=>(by cases hp)⟩ rfl h;exact⟨n,D',e1,qZ fun l hl=>aFB (e3.lds l hl) (fun e he=>e3.chain e (List.mem_reverse.1 he)) (fun _ _ _=>rfl),e2⟩
def aNw(fns:T dD)(W:Nat->Prop)(h0:T AB)(base:Nat)(x:Option AV)(ld:Bool)(old:Prop)(d:Option Nat)(l:List AO)(i:Nat)(F:Fr)(S:St)(ps:List kB)(last:Option Nat)(Q:Fr->St->List kB->Prop):Prop:=mT x fun v=>(ld=true->cQ v v=true/\old)/\hJ fns W h0 base l i (cJ d F v) S ps last Q
def aKY(fns:T dD)(W:Nat->Prop)(h0:T AB)(base:Nat)(x:Option (AV×AB))(d:Option Nat)(l:List AO)(i:Nat)(F:Fr)(S:St)(ps:List kB)(last:Option Nat)(Q:Fr->St->List kB->Prop):Prop:=mT x fun r=>hJ fns W h0 base l (i+1) (cJ d F r.1) S (⟨i,base+i,r.2⟩::ps) last Q
section
variable {W:Nat->Prop}{h0:T AB}{base:Nat}{d:Option Nat}{m i:Nat}{l:List AO}{F:Fr}{S:St}{ps:List kB}{last:Option Nat}{Q:Fr->St->List kB->Prop}
theorem aH5:hJ fns W h0 base [] i F S ps last Q↔Q F S ps:=Iff.rfl
theorem aN9{q:QOp}:hJ fns W h0 base (⟨d,.q q,none,m⟩::l) i F S ps last Q↔aNw fns W h0 base (iT q F (bO (dK q) h0 S.h)) (dK q) (aGN W base q F) d l (i+1) F S ps last Q:=by
 rw[hJ,if_pos (show fI none F=true from rfl)];rfl
theorem aEw{v:AV}{ld:Bool}{old:Prop}:aNw fns W h0 base (some v) ld old d l i F S ps last Q↔(ld=true->cQ v v=true/\old)/\hJ fns W h0 base l i (cJ d F v) S ps last Q:=by unfold aNw;rw[cI]
theorem aOU{a:wS}:hJ fns W h0 base (⟨d,.a a,none,m⟩::l) i F S ps last Q↔aKY fns W h0 base (tA a F (base+i)) d l i F S ps last Q:=by
 rw[hJ,if_pos (show fI none F=true from rfl)];rfl
theorem qU{r:AV×AB}:aKY fns W h0 base (some r) d l i F S ps last Q↔hJ fns W h0 base l (i+1) (cJ d F r.1) S (⟨i,base+i,r.2⟩::ps) last Q:=by unfold aKY;rw[cI]
theorem tT{f:cP}{args:List cP}(h:oB last m=true)(hw:eT fns (f.val F) (dE args F) ⟨(cG m ps S.h).2,S.nx⟩ fun v S1=>Same ⟨(cG m ps S.h).2,S.nx⟩ S1/\hJ fns W h0 base l (i+1) (cJ d F v) S1 (cG m ps S.h).1 (some i) Q):hJ fns W h0 base (⟨d,.x (.call f args),none,m⟩::l) i F S ps last Q:=by
 rw[hJ,if_pos (show fI none F=true from rfl)];exact⟨h,aF hw fun v S1 h=>⟨.inl h.1,h.2⟩⟩
theorem lT{f:cP}{args:List cP}(h:oB last m=true)(hw:eT fns (f.val F) (dE args F) ⟨(cG m ps S.h).2,S.nx⟩ fun v S1=>aJe W base ⟨(cG m ps S.h).2,S.nx⟩ S1/\hJ fns W h0 base l (i+1) (cJ d F v) S1 (cG m ps S.h).1 (some i) Q):hJ fns W h0 base (⟨d,.x (.call f args),none,m⟩::l) i F S ps last Q:=by
 rw[hJ,if_pos (show fI none F=true from rfl)];exact⟨h,aF hw fun v S1 h=>⟨.inr h.1,h.2⟩⟩
theorem aO7{tbl:List (Nat×Nat×Option (Bool×Nat))}{r:cP}{args:List cP}{t f:Nat}{u:AV}(h:oB last m=true)(hu:r.val F= .iface t u)(hf:pS t tbl=some (f,none))(hw:eT fns (.fn f [u] []) (dE args F) ⟨(cG m ps S.h).2,S.nx⟩ fun v S1=>Same ⟨(cG m ps S.h).2,S.nx⟩ S1/\hJ fns W h0 base l (i+1) (cJ d F v) S1 (cG m ps S.h).1 (some i) Q):hJ fns W h0 base (⟨d,.x (.inv tbl r args),none,m⟩::l) i F S ps last Q:=by
 unfold hJ;rw[if_pos (show fI none F=true from rfl)];exact⟨h,t,f,u,hu,hf,hw⟩
theorem aGb{n:Nat}{x v:cP}{S1:St}(h:oB last m=true)(he:aU (v.val F).cells (fun cs=>oT (x.val F) n cs ⟨(cG m ps S.h).2,S.nx⟩)=some (.undef,S1))(ho:aJe W base ⟨(cG m ps S.h).2,S.nx⟩ S1)(hr:hJ fns W h0 base l (i+1) (cJ d F .undef) S1 (cG m ps S.h).1 (some i) Q):hJ fns W h0 base (⟨d,.x (.st n x v),none,m⟩::l) i F S ps last Q:=by
 unfold hJ;rw[if_pos (show fI none F=true from rfl)];exact⟨h,_,S1,fun call=>he,ho,hr⟩
theorem aN3{op:AOp}{s:Nat}{b:Bool}:hJ fns W h0 base (⟨d,op,some (s,b),m⟩::l) i F S ps last Q↔if isB (aB s F) b=true then hJ fns W h0 base (⟨d,op,none,m⟩::l) i F S ps last Q else hJ fns W h0 base l (i+1) (cJ d F .undef) S ps last Q:=by
 conv=>lhs;unfold hJ
 rw[show fI (some (s,b)) F=isB (aB s F) b from rfl];split
 ·conv=>rhs;unfold hJ
  rw[if_pos (show fI none F=true from rfl)]
 ·rfl
theorem aKB{agg:Bool}{n:Nat}{x:cP}:aGN W base (.ld agg n x) F↔aM1 W base (x.val F):=by
 constructor
 ·rintro(⟨_,_,_,h,h2⟩ | ⟨_,_,_,_,_,_,h,_⟩)
  ·cases h;exact h2
  ·cases h
 ·exact fun h=>.inl ⟨_,_,_,rfl,h⟩
theorem aHv{b off:Nat}:aM1 W base (.ptr b off)↔b<base/\¬W b:=by
 constructor
 ·rintro⟨_,_,h,h2⟩;cases h;exact h2
 ·exact fun h=>⟨_,_,rfl,h⟩
end
abbrev stV:=And.intro @aH5 (And.intro @aN9 (And.intro @aOU (And.intro @aN3 (@tG))))
abbrev stW:=And.intro @aEw (And.intro @qU (And.intro @aKB (And.intro @aHv (And.intro @dF (And.intro (@Av AO) (And.intro (@Co AO) (And.intro (@Av AV) (And.intro (@Co AV) (And.intro (@Av Nat) (@Co Nat))))))))))
abbrev sU:=And.intro stU stV
abbrev sD:=And.intro aG stW
theorem cp{p q r:Prop}(b:r)(a:q)(h:r->q->p:=by intro b a;simp only[↓sU,sD,Nat.reduceEqDiff,↓reduceIte,Nat.reduceAdd,b];exact a):p:=h b a
theorem c9{p q r s:Prop}(b:r)(c:s)(a:q)(h:r->s->q->p:=by intro b c a;simp only[↓sU,sD,Nat.reduceEqDiff,↓reduceIte,Nat.reduceAdd,b,c];exact a):p:=h b c a
theorem dh{p q r s t:Prop}(b:r)(c:s)(d:t)(a:q)(h:r->s->t->q->p:=by intro b c d a;simp only[↓sU,sD,Nat.reduceEqDiff,↓reduceIte,Nat.reduceAdd,b,c,d];exact a):p:=h b c d a
theorem di{p q r s t u:Prop}(b:r)(c:s)(d:t)(e:u)(a:q)(h:r->s->t->u->q->p:=by intro b c d e a;simp only[↓sU,sD,Nat.reduceEqDiff,↓reduceIte,Nat.reduceAdd,b,c,d,e];exact a):p:=h b c d e a
theorem du{p q r s t u v:Prop}(b:r)(c:s)(d:t)(e:u)(f:v)(a:q)(h:r->s->t->u->v->q->p:=by intro b c d e f a;simp only[↓sU,sD,Nat.reduceEqDiff,↓reduceIte,Nat.reduceAdd,b,c,d,e,f];exact a):p:=h b c d e f a
theorem dw{p q r s t u v w:Prop}(b:r)(c:s)(d:t)(e:u)(f:v)(g:w)(a:q)(h:r->s->t->u->v->w->q->p:=by intro b c d e f g a;simp only[↓sU,sD,Nat.reduceEqDiff,↓reduceIte,Nat.reduceAdd,b,c,d,e,f,g];exact a):p:=h b c d e f g a
theorem dx{p q r s t u v w x:Prop}(b:r)(c:s)(d:t)(e:u)(f:v)(g:w)(i:x)(a:q)(h:r->s->t->u->v->w->x->q->p:=by intro b c d e f g i a;simp only[↓sU,sD,Nat.reduceEqDiff,↓reduceIte,Nat.reduceAdd,b,c,d,e,f,g,i];exact a):p:=h b c d e f g i a
theorem dy{p q r s t u v w x y:Prop}(b:r)(c:s)(d:t)(e:u)(f:v)(g:w)(i:x)(j:y)(a:q)(h:r->s->t->u->v->w->x->y->q->p:=by intro b c d e f g i j a;simp only[↓sU,sD,Nat.reduceEqDiff,↓reduceIte,Nat.reduceAdd,b,c,d,e,f,g,i,j];exact a):p:=h b c d e f g i j a
theorem ac{p q:Prop}(a:q)(h:q->p:=by intro a;simp only[↓sU,sD,Nat.reduceEqDiff,↓reduceIte,a]):p:=h a
theorem ae{p q:Prop}(a:q)(h:q->p:=by intro a;simp only[↓sU,sD,Nat.reduceEqDiff,↓reduceIte,Nat.reduceAdd];exact a):p:=h a
theorem af{p:Prop}(h:p:=by simp only[↓sU,sD,Nat.reduceEqDiff,↓reduceIte,Nat.reduceAdd]):p:=h
theorem ag{p:Prop}(h:p:=by simp only[↓sU,sD,Nat.reduceEqDiff,↓reduceIte,Nat.reduceAdd];try rfl):p:=h
theorem ah{p q:Prop}(a:q)(h:q->p:=by intro a;simp only[↓sU,sD,Nat.reduceEqDiff,↓reduceIte,Nat.reduceAdd,a]):p:=h a
theorem aCc(e:qM){a b:Int}(hb:b≠0):kA .quo e (.int .i64 a) (.int .i64 b)=some (.int .i64 (IntKind.i64.wrap (a.tdiv b))):=by
 show cU .quo .i64 a .i64 b=_;unfold cU;rw[show eX .quo=false from rfl,aR,fR,aN];show aNz .i64 a b=_;unfold aNz;split
 ·rename_i m n;have h0:Nat.beq n 0=false:=by
   rw[Ca];intro h;rw[Az] at h;subst h;exact hb rfl
  rw[h0,aR,nat_eq];rfl
 ·have h0:ieq b (.ofNat 0)=false:=by
   rw[Ca];intro h;rw[nJ] at h;exact hb (by simpa using h)
  rw[h0,aR,tW]
theorem mB(e:qM){a b:Int}(ha:0<=a)(ha2:a<=9223372036854775807)(hb:0<b):kA .quo e (.int .i64 a) (.int .i64 b)=some (.int .i64 (a / b)):=by
 rw[aCc e au,Int.tdiv_eq_ediv_of_nonneg ha];rw[wrap_i64]
 ·have:=Int.ediv_nonneg ha (Int.le_of_lt hb);omega
 ·have:=Int.ediv_le_self b ha;omega
theorem xS(a:Int):unV .neg (.int .i64 a)=some (.int .i64 (IntKind.i64.wrap (-a))):=by
 show some (AV.int .i64 (aFH .i64 (.ofNat 0) a))=_;rw[xM];congr 3;show(0:Int) - a= -a;omega
def mx(a b:Int):Int:=if b<=a then a else b
theorem aGz(l:List cP)(F:Fr)(h:T AB):iT (.dj true l) F h=pI true (dE l F):=rfl
theorem aCK(v:AV)(l:bo):pI true (v::l)=mA true l v:=rfl
theorem aGm(v:AV):mA true [] v=some v:=rfl
theorem aGG(a b:Int)(l:bo):mA true (.int .i64 b::l) (.int .i64 a)=mA true l (.int .i64 (mx a b)):=by
 show bO (keq .i64 .i64) (mA true l (.int .i64 (bO true (bO (ile b a) a b) _))) none=_;rw[fR,aN,aN];congr 2;unfold mx;rw[rK];by_cases h:b<=a
 ·rw[if_pos h,Ac h];rfl
 ·rw[if_neg h,Aa h];rfl
theorem aNb{a b c:Int}:mx a b<c↔a<c/\b<c:=by unfold mx;split<;>omega
def aRm(S:St)(a b P E:Int)(k:Nat)(A:bN)(S':St):Prop:=
 A.inr=false/\S'=S/\∃p e w x y z,aB 0 A.F= .int .i64 p/\aB 1 A.F= .int .i64 e/\aB 4 A.F= .int .i64 w/\aB 5 A.F= .int .i64 x/\aB 6 A.F= .int .i64 y/\aB 7 A.F= .int .i64 z/\Leh a b P E p e w x y z/\(k:Int)=y * a+z * b
theorem aIX{S:St}{a b P E f g tens d:Int}(H:Has fns)(hb0:0<=b)(hE:0<=E)(hEP:E<=P)(hP:P<1000000000000000000)(hab:b<=a)(ht:0<tens)(hf:0<=f)(hfd:f<d)(hg:0<=g)(hgd:g<d)(ha:tens * a=P * d+f)(hb:tens * b=E * d+g):
  eT fns (.fn 119 [] []) [.int .i64 P,.int .i64 E] S fun r S'=>S'=S/\∃p e w x y z,r= .tup [.int .i64 w,.int .i64 x,.int .i64 y,.int .i64 z]/\Leh a b P E p e w x y z:=by
 refine bL H.f119 (by simp) ?_;refine aj ?_;refine bK (aj ?_);refine bK (aj ?_);have⟨bn,hbn⟩:=Eu hb0;refine aE (bG (Q:=fun o A' S'=>o= .normal/\A'.inr=false/\S'=S/\∃p e w x y z,aB 4 A'.F= .int .i64 w/\aB 5 A'.F= .int .i64 x/\aB 6 A'.F= .int .i64 y/\aB 7 A'.F= .int .i64 z/\Leh a b P E p e w x y z) ?_ ?_)
 ·refine aQ (bX (aRm S a b P E) ?_ bn _ _ ⟨rfl,rfl,P,E,1,0,0,1,ak,ak,ak,ak,ak,ak,Leh.start hb0 hE hEP hP,au⟩);rintro k ⟨F,inr⟩ S' ⟨q0,hS',p,e,w,x,y,z,p0,p1,p4,p5,p6,p7,hL,hk⟩;simp only at q0 p0 p1 p4 p5 p6 p7;subst q0;rw[hS'];have hey:=hL.ey;have hez:=hL.ez;have hpw:=hL.pw;have hpx:=hL.px;have hsz:=hL.size;have we:IntKind.i64.wrap (e+y)=e+y:=wrap_i64 au au;have wz:IntKind.i64.wrap (e+z)=e+z:=wrap_i64 au au;have wpw:IntKind.i64.wrap (p+w)=p+w:=wrap_i64 au au;have wpx:IntKind.i64.wrap (p+x)=p+x:=wrap_i64 au au;have out:∀ (F':Fr),aB 4 F'= .int .i64 w->aB 5 F'= .int .i64 x->aB 6 F'= .int .i64 y->aB 7 F'= .int .i64 z->(∃p e w x y z,aB 4 F'= .int .i64 w/\aB 5 F'= .int .i64 x/\aB 6 F'= .int .i64 y/\aB 7 F'= .int .i64 z/\Leh a b P E p e w x y z):=fun F' h1 h2 h3 h4=>⟨p,e,w,x,y,z,h1,h2,h3,h4,hL⟩;refine fA ?_;by_cases h1:e+y=0
  ·have d1:decide (e+y≠0)=false:=Aa au;refine eu p1 p6 we d1 ?_;refine aO (ak) (bS ?_);refine aj ?_;exact out F p4 p5 p6 p7
  have d1:decide (e+y≠0)=true:=Ac h1;by_cases h2:e+z=0
  ·have d2:decide (e+z≠0)=false:=Aa au;refine fg p1 p6 p7 we wz d1 d2 ?_;refine aO (ak) (bS ?_);refine aj ?_;exact out F p4 p5 p6 p7
  have d2:decide (e+z≠0)=true:=Ac h2;refine fg p1 p6 p7 we wz d1 d2 ?_;refine aP (ak) (aJ ?_);refine aj ?_;have q1:=mB (.p .int) (a:=p+w) (b:=e+y) hpw.1 au au;have q2:=mB (.p .int) (a:=p+x) (b:=e+z) hpx.1 au au;obtain⟨q,hq⟩:∃q,q=(p+w) / (e+y):=⟨_,rfl⟩;rw[<-hq] at q1;refine aQ (aE (aM ?_));refine fg p0 p1 p4 p6 we wpw q1 ?_;refine fA (fg p0 p1 p5 p7 wz wpx q2 ?_);by_cases h3:q=(p+x) / (e+z)
  ·have d3:decide (q≠(p+x) / (e+z))=false:=Aa (by simp [h3]);refine aO (am d3) (aJ ?_);refine aj ?_;have⟨⟨m1,m2,m3,m4,m5,m6⟩,hstep⟩:=hL.step hab ht hf hfd hg hgd ha hb h1 h2 hq h3;have w1:IntKind.i64.wrap (q * y)=q * y:=wrap_i64 au au;have w2:IntKind.i64.wrap (q * z)=q * z:=wrap_i64 au au;have w3:IntKind.i64.wrap (w - q * y)=w - q * y:=wrap_i64 au au;have w4:IntKind.i64.wrap (x - q * z)=x - q * z:=wrap_i64 au au;have w5:IntKind.i64.wrap (-(w - q * y))= -(w - q * y):=wrap_i64 au au;have w6:IntKind.i64.wrap (-(x - q * z))= -(x - q * z):=wrap_i64 au au;have w7:IntKind.i64.wrap (q * e)=q * e:=wrap_i64 au au;have hpp:0<=p/\p<=1000000000000000000:=by rcases hL.signs with h | h<;>omega
   have w8:IntKind.i64.wrap (p - q * e)=p - q * e:=wrap_i64 au au;refine bK ?_;simp only[↓stU,aG,rE,↓reduceIte,p4,p5,p6,p7,w1,w2,w3,w4];refine fA (fg @xS w5 w6 @aGz @aCK @aGG @aGm ?_);by_cases h4:mx (mx (mx (w - q * y) (-(w - q * y))) (x - q * z)) (-(x - q * z))<1000000000
   ·have d4:decide ((1000000000:Int)<=mx (mx (mx (w - q * y) (-(w - q * y))) (x - q * z)) (-(x - q * z)))=false:=Aa au;refine aO (am d4) (aJ ?_);refine aj ?_;rw[aNb,aNb,aNb] at h4;have⟨hL',hlt⟩:=hstep au au au au;refine bK (eo p6 p7 ?_);refine aM (eu p0 p1 w7 w8 ?_);have hlow:=hL'.low;have⟨k',hk'⟩:=Eu hlow;refine⟨k',au,rfl,rfl,e,p - q * e,y,z,w - q * y,x - q * z,ak,ak,ak,ak,ak,ak,hL',au⟩
   ·have d4:decide ((1000000000:Int)<=mx (mx (mx (w - q * y) (-(w - q * y))) (x - q * z)) (-(x - q * z)))=true:=Ac au;refine aP (am d4) (bS ?_);refine aj ?_;exact out F p4 p5 p6 p7
  ·have d3:decide (q≠(p+x) / (e+z))=true:=Ac h3;refine aP (am d3) (bS ?_);refine aj ?_;exact out F p4 p5 p6 p7
 ·rintro o ⟨F,inr⟩ S' ⟨rfl,q0,hS',p,e,w,x,y,z,p4,p5,p6,p7,hL⟩;simp only at q0 p4 p5 p6 p7;subst q0;refine aj ?_;refine bK (eu p4 p5 p6 p7 ?_);refine aK (aj ?_);exact⟨hS',p,e,w,x,y,z,rfl,hL⟩
theorem aNg{vd x va y vb c b ai bi w c' t:Int}(hinv:vd+c * b=x * va+y * vb)(ht:t=x * ai+c+y * bi)(hw:w+c' * 1000000000=t):(vd+b * w)+c' * (b * 1000000000)=x * (va+b * ai)+y * (vb+b * bi):=by
 have e:b * (w+c' * 1000000000)=b * (x * ai+c+y * bi):=by rw[hw,ht]
 grind
theorem aTc(t:Int):t.tdiv 1000000000=t / 1000000000\/t.tdiv 1000000000=t / 1000000000+1/\t % 1000000000≠0:=by
 rw[Int.tdiv_eq_ediv];by_cases h:0<=t\/(1000000000:Int) ∣ t
 ·rw[if_pos h];exact .inl au
 ·rw[if_neg h];refine .inr ⟨rfl,fun h2=>h (.inr (Int.dvd_of_emod_eq_zero h2))⟩
def aS0(S:St)(a b:AV)(l n:bt)(x y:Int)(k:Nat)(A:bN)(S':St):Prop:=
 A.inr=false/\∃ (i:Nat) (d:bt) (c:Int),i+k=l.length/\d.length=i/\aB 0 A.F=a/\aB 1 A.F=b/\aB 2 A.F= .int .i64 x/\aB 3 A.F= .int .i64 y/\aB 9 A.F= .sl S.nx 0 l.length l.length false/\aB 10 A.F= .int .i64 c/\aB 17 A.F= .int .i64 (l.length:Int)/\aB 18 A.F= .int .i64 (i:Int)/\
  Same S S'/\S.nx<S'.nx/\S'.h.get S.nx=some (.cells (cC (d++List.replicate (l.length - i) 0)) false 0)/\cK d/\ -1000000000<=c/\c<=1000000000/\(val d:Int)+c * ((B ^ i:Nat):Int)=x * (val (l.take i):Int)+y * (val (n.take i):Int)
theorem aLV{x y p q:Int}(hx: -1000000000<x/\x<1000000000)(hy: -1000000000<y/\y<1000000000)(hs:0<=x/\y<=0\/x<=0/\0<=y)(hp:0<=p/\p<1000000000)(hq:0<=q/\q<1000000000): -999999998000000001<=x * p/\x * p<=999999998000000001/\ -999999998000000001<=y * q/\y * q<=999999998000000001/\ -999999998000000001<=x * p+y * q/\x * p+y * q<=999999998000000001:=by
 have key:∀ {u v:Int},0<=u->u<1000000000->0<=v->v<1000000000->0<=u * v/\u * v<=999999998000000001:=fun {u v} h1 h2 h3 h4=>by
  have a1:=Cz h1 h3;have a2:u * v<=u * 999999999:=Cj au h1;omega
 rcases hs with⟨h1,h2⟩ | ⟨h1,h2⟩
 ·have k1:=key h1 hx.2 hp.1 hp.2;have k2:=key (u:= -y) au au  hq.1 hq.2;rw[Int.neg_mul] at k2;omega
 ·have k1:=key (u:= -x) au au  hp.1 hp.2;have k2:=key h2 hy.2 hq.1 hq.2;rw[Int.neg_mul] at k1;omega
theorem aIF{S:St}{a b:AV}{A Bv:Nat}{x y:Int}{R:Nat}(H:Has fns)(ha:dG S a A)(hb:dG S b Bv)(hA:Fits A)(hAB:Bv<=A)(hx: -1000000000<x/\x<1000000000)(hy: -1000000000<y/\y<1000000000)(hs:0<=x/\y<=0\/x<=0/\0<=y)(hR:(R:Int)=x * A+y * Bv)(hRA:R<=A):
  eT fns (.fn 122 [] []) [a,b,.int .i64 x,.int .i64 y] S fun r S'=>dG S' r R/\Same S S':=by
 have hB:B=1000000000:=rfl;obtain⟨l,ha,hl,rfl⟩:=ha;obtain⟨n,hb,hn,rfl⟩:=hb;have hlen:=Fits.len hl hA;have hnl:n.length<=l.length:=by
  rcases Bj l.length n.length with h | h
  ·have:=gK hl.1 hn h;omega
  ·exact h
 have hmk:=fun F id (x:cP) (hx:dS (x.val F)=some l.length)=>oJ (t:=97) (s:=1) (bytes:=4) (z:=[AV.int .u32 0]) (l:=x) (c:=x) (F:=F) (id:=id) (n:=l.length) hx hx ax ax;refine bL H.f122 (by simp) ?_;refine ae ?_;refine bK (ae ?_);refine bK (cp ha.len ?_);rw[hmk _ _ _ (af)];refine ae ?_;refine bK (ae ?_);refine fA (cp ha.len ?_);refine bG (Q:=fun o A' S'=>o= .normal/\aS0 S a b l n x y 0 A' S') ?_ ?_
 ·refine aQ (bX (aS0 S a b l n x y) ?_ l.length _ _ ⟨rfl,0,[],0,au,rfl,af,af,af,af,af,af,af,af,Same.alloc S _,by simp,?_,cK.nil,au,au,by simp [dV]⟩)
  ·rintro k ⟨F,inr⟩ S' ⟨q0,i,d,c,hik,hd,p0,p1,p2,p3,p9,p10,p17,p18,hS,hnx,hblk,hds,hc1,hc2,hinv⟩;simp only at q0 p0 p1 p2 p3 p9 p10 p17 p18;subst q0;have ha':=ha.same hS;have hb':=hb.same hS;refine bK ?_;by_cases hi:i<l.length
   ·have d1:decide ((i:Int)<(l.length:Int))=true:=Ac au;refine dh p17 p18 d1 ?_;refine aE (aP (af) (aJ ?_));refine ae ?_;have hld:=ha'.ld hi;rw[Ae] at hld;have hxl:=getD_lt hl.1 i;have hyl:=getD_lt hn.1 i;have hyld:∀h:i<n.length,dJ (nQ b i) false 1 S'.h=some (.int .u32 ((n[i]?.getD 0:Nat):Int)):=fun h=>by
     have:=hb'.ld h
     rwa [Ae] at this
    have hyz:¬i<n.length->n[i]?.getD 0=0:=fun h=>by simp [show n.length<=i by omega]
    have ea:=dU l i;have eb:=dU n i;generalize l[i]?.getD 0=ai at *;generalize n[i]?.getD 0=bi at *;have⟨s1,s2,s3,s4,s5,s6⟩:=aLV (p:=(ai:Int)) (q:=(bi:Int)) hx hy hs au au;have w1:IntKind.i64.wrap (ai:Int)=(ai:Int):=wrap_i64 au au;have w2:IntKind.i64.wrap (x * (ai:Int))=x * (ai:Int):=wrap_i64 au au;have w3:IntKind.i64.wrap (x * (ai:Int)+c)=x * (ai:Int)+c:=wrap_i64 au au;have w4:IntKind.i64.wrap (bi:Int)=(bi:Int):=wrap_i64 au au;have w5:IntKind.i64.wrap (y * (bi:Int))=y * (bi:Int):=wrap_i64 au au;obtain⟨t,ht⟩:∃t,t=x * (ai:Int)+c+y * (bi:Int):=⟨_,rfl⟩;have w6:IntKind.i64.wrap (x * (ai:Int)+c+y * (bi:Int))=t:=by rw[wrap_i64 au au];exact ht.symm
    refine aE (aQ (aE (aM ?_)));refine cp p18 ?_;refine bK (dy p0 p2 p10 (ha'.cq hi) hld w1 w2 w3 ?_);refine aE (bG (Q:=fun o A' S''=>o= .normal/\S''=S'/\A'.inr=false/\aB 0 A'.F=a/\aB 1 A'.F=b/\aB 2 A'.F= .int .i64 x/\aB 3 A'.F= .int .i64 y/\aB 9 A'.F= .sl S.nx 0 l.length l.length false/\aB 11 A'.F= .int .i64 (i:Int)/\aB 12 A'.F= .int .i64 t/\aB 17 A'.F= .int .i64 (l.length:Int)/\aB 18 A'.F= .int .i64 (i:Int)) ?_ ?_)
    ·refine bK ?_;by_cases hin:i<n.length
     ·have d2:decide ((i:Int)<(n.length:Int))=true:=Ac au;refine dh p1 hb'.len d2 ?_;refine aP (af) (aM ?_);refine dx p1 p3 (hb'.cq hin) (hyld hin) w4 w5 w6 ?_;exact⟨p0,p2,p9,p17,p18⟩
     ·have d2:decide ((i:Int)<(n.length:Int))=false:=Aa au;have hb0:=hyz hin;refine dh p1 hb'.len d2 ?_;refine aO (af) (aJ ?_);refine ae ?_;refine⟨p0,p1,p2,p3,p9,?_,p17,p18⟩;rw[ht,hb0];simp
    rintro o ⟨F,inr⟩ S'' ⟨rfl,hS'',q0,p0,p1,p2,p3,p9,p11,p12,p17,p18⟩;simp only at q0 p0 p1 p2 p3 p9 p11 p12 p17 p18;subst q0;rw[hS''];refine ae ?_;have hquo:=aCc (.p .int) (a:=t) (b:=1000000000) ay;have htd:=aTc t;generalize t.tdiv 1000000000=q0 at *;have w7:IntKind.i64.wrap q0=q0:=wrap_i64 au au;have w8:IntKind.i64.wrap (q0 * 1000000000)=q0 * 1000000000:=wrap_i64 au au;have w9:IntKind.i64.wrap (t - q0 * 1000000000)=t - q0 * 1000000000:=wrap_i64 au au;rw[w7] at hquo;refine bK (c9 p12 hquo ?_);refine bK (dh p12 w8 w9 ?_);have⟨wn,hwn⟩:=Eu (Int.emod_nonneg t (show(1000000000:Int)≠0 by decide));refine aE (bG (Q:=fun o A' S''=>o= .normal/\S''=S'/\A'.inr=false/\aB 0 A'.F=a/\aB 1 A'.F=b/\aB 2 A'.F= .int .i64 x/\aB 3 A'.F= .int .i64 y/\aB 9 A'.F= .sl S.nx 0 l.length l.length false/\aB 10 A'.F= .int .i64 (t / 1000000000)/\aB 11 A'.F= .int .i64 (i:Int)/\aB 12 A'.F= .int .i64 (wn:Int)/\aB 17 A'.F= .int .i64 (l.length:Int)/\aB 18 A'.F= .int .i64 (i:Int)) ?_ ?_)
    ·refine bK ?_;by_cases hneg:t - q0 * 1000000000<0
     ·have d2:decide (t - q0 * 1000000000<0)=true:=Ac hneg;have w10:IntKind.i64.wrap (t - q0 * 1000000000+1000000000)=(wn:Int):=by rw[wrap_i64 au au];omega
      have w11:IntKind.i64.wrap (q0 - 1)=t / 1000000000:=by rw[wrap_i64 au au];omega
      refine cp d2 ?_;refine aP (af) ?_;refine bK (cp w10 ?_);refine aM (cp w11 ?_);exact⟨p0,p1,p2,p3,p9,p11,p17,p18⟩
     ·have d2:decide (t - q0 * 1000000000<0)=false:=Aa hneg;refine cp d2 ?_;refine aO (af) (aJ ?_);refine ae ?_;exact⟨p0,p1,p2,p3,p9,(by congr 1;omega),p11,(by congr 1;omega),p17,p18⟩
    rintro o ⟨F,inr⟩ S'' ⟨rfl,hS'',q0,p0,p1,p2,p3,p9,p10,p11,p12,p17,p18⟩;simp only at q0 p0 p1 p2 p3 p9 p10 p11 p12 p17 p18;subst q0;rw[hS''];refine ae ?_;have hwB:wn<B:=by omega
    have w12:IntKind.u32.wrap (wn:Int)=(wn:Int):=wrap_u32 au au;have hiad:dT (.slice 1) (.sl S.nx 0 l.length l.length false) i=some (.ptr S.nx i):=by rw[lY hi];simp
    have hst:=aA7 (w:=wn) hblk (p:=i) (by simp [hd];omega);have hset:(d++List.replicate (l.length - i) 0).set i wn=d++ [wn]++List.replicate (l.length - (i+1)) 0:=by rw[<-hd];exact qQ au
    rw[hset] at hst;refine aM (du p9 p11 p12 w12 hiad ?_);refine fK (fun call=>by refine c9 @dW @cN ?_;exact hst) ?_;refine ae ?_;refine aM ?_;have w13:=dk i
    refine c9 p18 w13 ?_;refine⟨k - 1,au,rfl,i+1,d++ [wn],t / 1000000000,au,by simp [hd],ah p0,ah p1,ah p2,ah p3,ah p9,ah p10,ah p17,af,hS.put (Af _) _,hnx,?_,cK.append.2 ⟨hds,yR hwB⟩,au,au,?_⟩
    ·simp only;rw[dq,if_pos rfl]
    ·rw[iO,hd,ea,eb,Cy];simp only[Int.natCast_add,Bk];exact aNg hinv ht (by rw[<-hwn];omega)
   ·have ei:i=l.length:=by omega
    have d1:decide ((i:Int)<(l.length:Int))=false:=Aa au;refine dh p17 p18 d1 ?_;refine aE (aO (af) (bS ?_));refine ae ?_;exact⟨rfl,i,d,c,au,hd,ah p0,ah p1,ah p2,ah p3,ah p9,ah p10,ah p17,ah p18,hS,hnx,hblk,hds,hc1,hc2,hinv⟩
  ·simp only;rw[dq,if_pos rfl,jF];simp
 ·rintro o ⟨F,inr⟩ S' ⟨rfl,q0,i,d,c,hik,hd,p0,p1,p2,p3,p9,p10,p17,p18,hS,hnx,hblk,hds,hc1,hc2,hinv⟩;simp only at q0 p9;subst q0;have ei:i=l.length:=by omega
  subst ei;rw[Ay au,Ay au,<-hR] at hinv;have hval:val d=R:=by
   have h1:=iA hds;rw[hd] at h1;have h2:=iA hl.1;generalize B ^ l.length=Z at *;rcases Int.lt_trichotomy c 0 with h | h | h
   ·have:c * (Z:Int)<=(-1) * (Z:Int):=Int.mul_le_mul_of_nonneg_right au au;omega
   ·subst h;omega
   ·have:1 * (Z:Int)<=c * (Z:Int):=Int.mul_le_mul_of_nonneg_right au au;omega
  rw[Ef,List.replicate_zero,Cb] at hblk;have hout:=mF (n:=l.length) (o':=false) (cap:=l.length) hblk hnx au (Af _);refine ae ?_;refine bK (cp p9 ?_);refine aL (ae ?_);refine aF (qR H.f139 hout hds au) ?_;rintro v S1 ⟨hN,hS1⟩;rw[hS1];try refine ae ?_
  refine aK (ae ?_);rw[<-hval];exact⟨hN,hS⟩
theorem oH{S:St}{c:Nat}{v:AV}{o:Bool}{s:Nat}(h:S.h.get c=some (.cells [v] o s)):dJ (.ptr c 0) false 1 S.h=some v:=by
 simp only[dJ,iQ,aR,jQ,cA,h,aH,dN,jY];rfl
theorem aGi{S:St}{c:Nat}{v w:AV}{o:Bool}{s:Nat}(h:S.h.get c=some (.cells [v] o s)):oT (.ptr c 0) 1 [w] S=some (.undef,⟨S.h.set c (some (.cells [w] o s)),S.nx⟩):=by
 simp only[oT,mU,h,aH,rJ];rfl
theorem aEd{S:St}{v:AV}{l:bt}(h:cO S v l):v.cells=some [v]:=by
 rcases h with⟨_,h | h⟩ | ⟨b,off,cap,o,cs,rfl,_⟩
 ·subst h;rfl
 ·subst h;rfl
 ·rfl
theorem aGR(t:Nat)(x:cP)(F:Fr)(id:Nat):tA (.box t x) F id=aU (x.val F).cells fun cs=>some (.ptr id 0,.cells cs false 0):=rfl
theorem aFN(t:Nat)(cs:bo)(F:Fr)(id:Nat):tA (.alloc t cs) F id=some (.ptr id 0,.cells cs false 0):=rfl
theorem uF(f:Nat)(first cap:List cP)(F:Fr)(h:T AB):iT (.mkFunc f first cap) F h=some (.fn f (dE first F) (dE cap F)):=rfl
theorem aLq{S:St}{v:AV}{l:bt}{c i:Nat}(H:Has fns)(hl:cO S v l)(hs:cK l)(hc:S.h.get c=some (.cells [v] false 0)):
  eT fns (.fn 135 [] [.ptr c 0]) [.int .i64 (i:Int)] S fun r S'=>r= .int .u64 ((l[i]?.getD 0:Nat):Int)/\S'=S:=by
 have hB:B=1000000000:=rfl;have hx:=getD_lt hs i;have w1:IntKind.u64.wrap ((l[i]?.getD 0:Nat):Int)=((l[i]?.getD 0:Nat):Int):=wrap_u64 au au;refine bL H.f135 (by simp) ?_;refine ae ?_;refine bK (ae ?_);refine fA (c9 (oH hc) hl.len ?_);by_cases hi:i<l.length
 ·have hld:=hl.ld hi;rw[Ae] at hld;refine aP (by simp only[↓sU,sD,rE,↓reduceIte,rA,Ac (show(i:Int)<(l.length:Int) by omega)]) ?_;refine bK (di (oH hc) (hl.cq hi) hld w1 ?_);refine aK ?_;simp only[↓sU,sD,rE,↓reduceIte,rA]
 ·refine aO (by simp only[↓sU,sD,rE,↓reduceIte,rA,Aa (show ¬ (i:Int)<(l.length:Int) by omega)]) (aJ ?_);refine ae ?_;refine bK (ae ?_);refine aK ?_;have:l[i]?.getD 0=0:=by simp [show l.length<=i by omega]
  simp only[↓sU,sD,rE,↓reduceIte,rA,this]
theorem aDk{S:St}{v:AV}{l:bt}{c6 c7 n tens:Nat}(H:Has fns)(hl:cO S v l)(hs:cK l)(h6:S.h.get c6=some (.cells [.int .i64 ((n+3:Nat):Int)] false 0))(h7:S.h.get c7=some (.cells [.int .u64 (tens:Int)] false 0))(h6l:c6<S.nx)(h7l:c7<S.nx)(hn:n<=100000)
  (ht:tens<=1000000000) (hfit:(l[n+2]?.getD 0 * 1000000000+l[n+1]?.getD 0) * tens+l[n]?.getD 0 * tens / 1000000000<1000000000000000000):
  eT fns (.fn 134 [] [.ptr c6 0,.ptr c7 0]) [v] S fun r S'=>r= .int .i64 (((l[n+2]?.getD 0 * 1000000000+l[n+1]?.getD 0) * tens+l[n]?.getD 0 * tens / 1000000000:Nat):Int)/\Same S S':=by
 have hB:B=1000000000:=rfl;have e1:=getD_lt hs (n+2);have e2:=getD_lt hs (n+1);have e3:=getD_lt hs n;refine bL H.f134 (by simp) ?_;refine ae ?_;refine bK (c9 @aGR (aEd hl) ?_);refine bK (cp @uF ?_);have hS1:=Same.alloc S (.cells [v] false 0);obtain⟨S1,hS1e⟩:∃S1,S1=(⟨S.h.set S.nx (some (.cells [v] false 0)),S.nx+1⟩:St):=⟨_,rfl⟩;rw[<-hS1e] at hS1 ⊢;have hnx1:S1.nx=S.nx+1:=by rw[hS1e]
 have hc3:S1.h.get S.nx=some (.cells [v] false 0):=by rw[hS1e];simp only;rw[dq,if_pos rfl]
 have hl1:=hl.same hS1;have h6':S1.h.get c6=some (.cells [.int .i64 ((n+3:Nat):Int)] false 0):=by rw[hS1.2 _ h6l];exact h6
 have h7':S1.h.get c7=some (.cells [.int .u64 (tens:Int)] false 0):=by rw[hS1.2 _ h7l];exact h7
 have hS2:=Same.nx S1 22;have wa:IntKind.i64.wrap (((n+3:Nat):Int) - 1)=((n+2:Nat):Int):=by rw[wrap_i64 au au];omega
 have wb:IntKind.i64.wrap (((n+3:Nat):Int) - 2)=((n+1:Nat):Int):=by rw[wrap_i64 au au];omega
 have wc:IntKind.i64.wrap (((n+3:Nat):Int) - 3)=((n:Nat):Int):=by rw[wrap_i64 au au];omega
 have sp:=fun i=>aLq (S:=⟨S1.h,S1.nx+22⟩) (i:=i) H (hl1.same hS2) hs hc3;have lt6:c6<S1.nx:=by omega
 have lt7:c7<S1.nx:=by omega
 have sp1:=sp (n+2);have sp2:=sp (n+1);have sp3:=sp n;clear sp;generalize l[n+2]?.getD 0=x1 at *;generalize l[n+1]?.getD 0=x2 at *;generalize l[n]?.getD 0=x3 at *;have b1:x1 * 1000000000<=999999999 * 1000000000:=Ar _ au;have b3:x3 * tens<=999999999 * 1000000000:=Dw au au;obtain⟨u,hu⟩:∃u,x1 * 1000000000+x2=u:=⟨_,rfl⟩;rw[hu] at hfit ⊢;have w1:IntKind.u64.wrap ((x1:Int) * 1000000000)=((x1 * 1000000000:Nat):Int):=by rw[wrap_u64 au au];omega
 have w2:IntKind.u64.wrap (((x1 * 1000000000:Nat):Int)+(x2:Int))=(u:Int):=by rw[wrap_u64 au au];omega
 have w3:IntKind.u64.wrap ((u:Int) * (tens:Int))=((u * tens:Nat):Int):=by rw[<-Bk];exact wrap_u64 au au
 have w4:IntKind.u64.wrap ((x3:Int) * (tens:Int))=((x3 * tens:Nat):Int):=by rw[<-Bk];exact wrap_u64 au au
 have hquo:=aNc (.p .int) (t:=x3 * tens) au;rw[hB] at hquo;have w5:IntKind.u64.wrap (((u * tens:Nat):Int)+((x3 * tens / 1000000000:Nat):Int))=((u * tens+x3 * tens / 1000000000:Nat):Int):=by rw[<-Int.natCast_add];exact wrap_u64 au au
 have w6:IntKind.i64.wrap ((u * tens+x3 * tens / 1000000000:Nat):Int)=((u * tens+x3 * tens / 1000000000:Nat):Int):=wrap_i64 au au;refine aE (aGh (fun _=>False) ?_);refine di (oH h6') lt6 wa @Am ?_;refine tT rfl ?_;refine ae ?_;refine aF sp1 ?_;rintro _ T ⟨rfl,hT⟩;rw[hT];refine⟨Same.refl _,?_⟩;refine du (oH h6') lt6 wb w1 @Am ?_;refine tT rfl ?_;refine ae ?_;refine aF sp2 ?_;rintro _ T ⟨rfl,hT⟩;rw[hT];refine⟨Same.refl _,?_⟩;refine dy (oH h6') (oH h7') lt6 lt7 wc w2 w3 @Am ?_;refine tT rfl ?_;refine ae ?_;refine aF sp3 ?_;rintro _ T ⟨rfl,hT⟩;rw[hT];refine⟨Same.refl _,?_⟩;refine dx (oH h7') lt7 w4 hquo w5 w6 @Am ?_;refine aK (ae ?_);exact hS1.trans hS2
def aQQ(S0 S:St)(a b:AV)(c6 c7 t:Nat)(n:Nat)(k:Nat)(A:bN)(S':St):Prop:=
 A.inr=false/\∃e,e+k=8/\t * 10 ^ e<1000000000/\aB 0 A.F=a/\aB 1 A.F=b/\aB 6 A.F= .ptr c6 0/\aB 7 A.F= .ptr c7 0/\Same S0 S'/\c6<S'.nx/\c7<S'.nx/\S'.h.get c6=some (.cells [.int .i64 ((n+3:Nat):Int)] false 0)/\S'.h.get c7=some (.cells [.int .u64 ((10 ^ e:Nat):Int)] false 0)
theorem aFk{e:Nat}(h:e<=8):10 ^ e * 10 ^ (9 - e)=1000000000:=by rw[<-Hl,show e+(9 - e)=9 by omega]
theorem aEq{l:bt}{n:Nat}(h:l.length<=n+3):val l=val (l.take n)+B ^ n * (l[n]?.getD 0+B * (l[n+1]?.getD 0+B * l[n+2]?.getD 0)):=by
 have e1:=dU l (n+2);have e2:=dU l (n+1);have e3:=dU l n;rw[Ay au] at e1;rw[e1,e2,e3,Cy,Cy]
 grind
theorem aID{l:bt}{n e:Nat}(hl:cK l)(h:l.length<=n+3)(he:e<=8):∃f,10 ^ e * val l=((l[n+2]?.getD 0 * 1000000000+l[n+1]?.getD 0) * 10 ^ e+l[n]?.getD 0 * 10 ^ e / 1000000000) * (B ^ n * B)+f/\f<B ^ n * B:=by
 have hlow:val (l.take n)<B ^ n:=by
  have h1:=iA (hl.take n);have h2:B ^ (l.take n).length<=B ^ n:=Ci jB (by simp;omega);omega
 have:=aJo (l1:=l[n+2]?.getD 0) (l2:=l[n+1]?.getD 0) (l3:=l[n]?.getD 0) (low:=val (l.take n)) (tens:=10 ^ e) (k:=10 ^ (9 - e)) (p:=B ^ n) hlow (Fx ay) (Fx ay);rw[aFk he] at this;rw[aEq h];exact this
theorem aP5{P E d f g X Y:Nat}(h1:X=P * d+f)(h2:Y=E * d+g)(hf:f<d)(h:Y<=X):E<=P:=by
 rcases Bj P E with h3 | h3
 ·have:(P+1) * d<=E * d:=Ar _ h3;rw[Ch] at this;omega
 ·exact h3
theorem aL5{S:St}{a b:AV}{x y:Nat}{l:bt}(H:Has fns)(ha:cO S a l)(hl:oK l)(hlx:val l=x)(hb:dG S b y)(hx:Fits x)(hyx:y<=x)(h3:3<=l.length):
  eT fns (.fn 120 [] []) [a,b] S fun r S'=>Same S S'/\∃P E f g tens d:Nat,r= .tup [.int .i64 (P:Int),.int .i64 (E:Int)]/\E<=P/\P<1000000000000000000/\0<tens/\f<d/\g<d/\tens * x=P * d+f/\tens * y=E * d+g:=by
 have hB:B=1000000000:=rfl;have⟨m,hb,hm,hmy⟩:=hb;have hlen:=Fits.len hl (by rw[hlx];exact hx);have hml:m.length<=l.length:=by
  rcases Bj l.length m.length with h | h
  ·have:=gK hl.1 hm h;omega
  ·exact h
 obtain⟨n,hn⟩:∃n,l.length=n+3:=⟨l.length - 3,au⟩;have htl:=getD_lt hl.1 (n+2);have htp:0<l[n+2]?.getD 0:=by
  have h2:l[n+2]? =l.getLast? :=by rw[List.getLast?_eq_getElem?];congr 1;omega
  rcases An (l[n+2]?.getD 0) with h | h
  ·exfalso
   have h3:n+2<l.length:=by omega
   rw[Ad h3] at h h2;simp at h;exact hl.2 (by rw[<-h2,h])
  ·exact h
 refine bL H.f120 (by simp) ?_;refine ae ?_;refine bK (ae ?_);refine bK (c9 ha.len @aFN ?_);refine fK (fun call=>by refine c9 @dW @cN ?_;exact aGi (v:=.int .i64 0) (o:=false) (s:=0) fh) ?_;refine ae ?_;refine bK (cp @aFN ?_);refine fK (fun call=>by refine c9 @dW @cN ?_;exact aGi (v:=.int .u64 0) (o:=false) (s:=0) fh) ?_;refine ae ?_;have hld0:=fun(S':St) (hS:Same S S')=>(ha.same hS).ld (i:=n+2) au;simp only[Ae] at hld0;have hia0:=ha.cq (i:=n+2) au;obtain⟨t,ht⟩:∃t,l[n+2]?.getD 0=t:=⟨_,rfl⟩;rw[ht] at htl htp hld0;rw[hn];refine aE (bG (Q:=fun o A' S'=>o= .normal/\∃k,aQQ S S a b S.nx (S.nx+1) t n k A' S') ?_ ?_)
 ·refine aQ (bX (aQQ S S a b S.nx (S.nx+1) t n) ?_ 8 _ _ ⟨rfl,0,rfl,au,af,af,af,af,⟨by simp only;omega,fun c hc=>?_⟩,by simp only;omega,by simp only;omega,?_,?_⟩)
  ·rintro k ⟨F,inr⟩ S' ⟨q0,e,hek,hte,p0,p1,p6,p7,hS,hn6,hn7,g6,g7⟩;simp only at q0 p0 p1 p6 p7;subst q0;have wa:IntKind.i64.wrap (((n+3:Nat):Int) - 1)=((n+2:Nat):Int):=by rw[wrap_i64 au au];omega
   have wt:IntKind.u64.wrap (t:Int)=(t:Int):=wrap_u64 au au;have w1:IntKind.u64.wrap ((t:Int) * ((10 ^ e:Nat):Int))=((t * 10 ^ e:Nat):Int):=by rw[<-Bk];exact wrap_u64 au au
   have w2:IntKind.u64.wrap (((t * 10 ^ e:Nat):Int) * 10)=((t * 10 ^ e * 10:Nat):Int):=by rw[wrap_u64 au au];omega
   refine aE (aE (jK ?_));simp only[↓sU,sD,rE,↓reduceIte,rA,p0,p6,p7,oH g6,oH g7,wa,hia0,hld0 S' hS,wt,w1,w2];by_cases hlt:t * 10 ^ e * 10<1000000000
   ·refine aP (by simp only[↓sU,sD,rE,↓reduceIte,rA,Ac (show((t * 10 ^ e * 10:Nat):Int)<1000000000 by omega)]) (aJ ?_);refine ae ?_;have hpe:10 ^ (e+1)=10 ^ e * 10:=Cy ..;have hle:1 * (10 ^ e * 10)<=t * (10 ^ e * 10):=Ar _ htp;have e4:t * (10 ^ e * 10)=t * 10 ^ e * 10:=by rw[Bl]
    have he8:e<8:=by
     rcases Bj e 8 with h | h
     ·exact h
     ·have:e=8:=by omega
      subst this;omega
    have w3:IntKind.u64.wrap (((10 ^ e:Nat):Int) * 10)=((10 ^ (e+1):Nat):Int):=by rw[hpe,wrap_u64 au au];omega
    refine aQ (aM ?_);refine dh p7 (oH (S:=⟨S'.h,S'.nx+10⟩) g7) w3 ?_;refine fK (fun call=>by refine dh @dW @cN p7 ?_;exact aGi (S:=⟨S'.h,_⟩) g7) ?_;refine ae ?_;refine⟨k - 1,au,rfl,e+1,au,by rw[hpe];omega,ah p0,ah p1,ah p6,ah p7,?_,by simp;omega,by simp;omega,?_,?_⟩
    ·exact(hS.trans (Same.nx S' _)).put au _
    ·simp only;rw[dq,if_neg au];exact g6
    ·simp only;rw[dq,if_pos rfl]
   ·refine aO (by simp only[↓sU,sD,rE,↓reduceIte,rA,Aa (show ¬ ((t * 10 ^ e * 10:Nat):Int)<1000000000 by omega)]) (bS ?_);refine ae ?_;exact⟨k,rfl,e,hek,hte,ah p0,ah p1,ah p6,ah p7,hS.trans (Same.nx S' _),by simp;omega,by simp;omega,g6,g7⟩
  ·simp only;rw[dq,if_neg au,dq,if_neg au,dq,if_neg au,dq,if_neg au]
  ·simp only;rw[dq,if_neg au,dq,if_neg au,dq,if_pos rfl]
  ·simp only;rw[dq,if_pos rfl];rfl
 ·rintro o ⟨F,inr⟩ S' ⟨rfl,k,q0,e,hek,hte,p0,p1,p6,p7,hS,hn6,hn7,g6,g7⟩;simp only at q0 p0 p1 p6 p7;subst q0;refine ae ?_;refine bK (dh @uF p6 p7 ?_);have he8:e<=8:=by omega
  have hp1:10 ^ e<=1000000000:=by
   have:=aFk he8;have h2:1<=10 ^ (9 - e):=Fx ay;have h3:10 ^ e * 1<=10 ^ e * 10 ^ (9 - e):=Bh _ h2;omega
  have hmt:m[n+2]?.getD 0<=t:=by
   rcases Bj t (m[n+2]?.getD 0) with h | h
   ·exfalso
    have v1:=aEq (l:=l) (n:=n) au;have v2:=aEq (l:=m) (n:=n) au;have:=getD_lt hl.1 (n+1);have:=getD_lt hl.1 n;rw[ht] at v1;have hlow:val (l.take n)<B ^ n:=by
     have h1:=iA (hl.1.take n);have h2:B ^ (l.take n).length<=B ^ n:=Ci jB (by simp;omega);omega
    generalize l[n+1]?.getD 0=l2 at *;generalize l[n]?.getD 0=l3 at *;generalize m[n+1]?.getD 0=m2 at *;generalize m[n]?.getD 0=m3 at *;generalize m[n+2]?.getD 0=m1 at *;have k1:l3+B * (l2+B * t)+1<=m3+B * (m2+B * m1):=by
     have a1:B * (t+1)<=B * m1:=Bh _ h;have a2:B * (l2+B * t+1)<=B * (m2+B * m1):=Bh _ (by rw[Cn] at a1;omega);rw[Cn _ _ 1] at a2;omega
    have k2:=Bh (B ^ n) k1;rw[Cn _ _ 1] at k2;omega
   ·exact h
  have hfit:∀ (q:bt),cK q->q[n+2]?.getD 0<=t->(q[n+2]?.getD 0 * 1000000000+q[n+1]?.getD 0) * 10 ^ e+q[n]?.getD 0 * 10 ^ e / 1000000000<1000000000000000000:=fun q hq hqt=>by
   have h1:q[n+2]?.getD 0 * 10 ^ e<=t * 10 ^ e:=Ar _ hqt;have:=aQz (l1:=q[n+2]?.getD 0) (l2:=q[n+1]?.getD 0) (l3:=q[n]?.getD 0) (low:=0) (tens:=10 ^ e) (k:=10 ^ (9 - e)) (p:=1) au (by rw[aFk he8];exact getD_lt hq n) (by rw[aFk he8];exact getD_lt hq (n+1)) (by rw[aFk he8];omega);rw[aFk he8] at this;exact this
  refine bK (cp p0 ?_);refine aL (ae ?_);refine aF (aDk (n:=n) (tens:=10 ^ e) H (ha.same hS) hl.1 g6 g7 hn6 hn7 au hp1 (hfit l hl.1 au)) ?_;rintro _ S2 ⟨rfl,hS2⟩;refine cp p1 ?_;refine aL (ae ?_);have g6':S2.h.get S.nx=some (.cells [.int .i64 ((n+3:Nat):Int)] false 0):=by rw[hS2.2 _ hn6];exact g6
  have g7':S2.h.get (S.nx+1)=some (.cells [.int .u64 ((10 ^ e:Nat):Int)] false 0):=by rw[hS2.2 _ hn7];exact g7
  refine aF (aDk (n:=n) (tens:=10 ^ e) H (hb.same (hS.trans hS2)) hm.1 g6' g7' (Ag hn6 hS2.1) (Ag hn7 hS2.1) au hp1 (hfit m hm.1 hmt)) ?_;rintro _ S3 ⟨rfl,hS3⟩;try refine ae ?_
  refine aK (ae ?_);have⟨f,hf1,hf2⟩:=aID (n:=n) (e:=e) hl.1 au he8;have⟨g,hg1,hg2⟩:=aID (n:=n) (e:=e) hm.1 au he8;have hPl:=hfit l hl.1 au;exact⟨hS.trans (hS2.trans hS3),_,_,f,g,10 ^ e,B ^ n * B,rfl,aP5 hf1 hg1 hf2 (Bh _ au),hPl,Fx ay,hf2,hg2,by rw[<-hlx];exact hf1,by rw[<-hmy];exact hg1⟩
theorem ex3(a b c d:AV)(l:bo):mW (.tup (a::b::c::d::l)) 3=some d:=rfl
theorem pM{S:St}{v:AV}{l:bt}(H:Has fns)(h:cO S v l)(hl:oK l)(hlen:l.length<=2):eT fns (.fn 99 [] []) [v] S fun r S'=>r= .int .u64 (val l:Int)/\S'=S:=aMe H.f99 h hl.1 hlen
theorem oW{l:bt}(h:cK l)(hl:l.length<=2):val l<1000000000000000000:=by
 have h1:=iA h;have h2:B ^ l.length<=B ^ 2:=Ci jB hl;have h3:B ^ 2=1000000000000000000:=by decide
 omega
def aRJ(S:St)(X g:Nat)(k:Nat)(A:bN)(S':St):Prop:=
 A.inr=false/\∃ (x y:Nat) (a b:AV),aB 0 A.F=a/\aB 1 A.F=b/\dG S' a x/\dG S' b y/\y<=x/\x<=X/\Nat.gcd x y=g/\Same S S'/\k=y
theorem uJ{S:St}{a b:AV}{x y:Nat}(H:Has fns)(hL:Laid S)(ha:dG S a x)(hb:dG S b y)(hx:Fits x)(hy:Fits y):
  eT fns (.fn 100 [] []) [a,b] S fun r S'=>dG S' r (Nat.gcd x y)/\Same S S':=by
 have hB:B=1000000000:=rfl;have⟨l,ha1,hl,hlx⟩:=id ha;have⟨m,hb1,hm,hmy⟩:=id hb;have hlen:=Fits.len hl (by rw[hlx];exact hx);have hmen:=Fits.len hm (by rw[hmy];exact hy);refine bL H.f100 (by simp) ?_;try refine ae ?_
 refine bK ?_;try refine ae ?_
 refine fA ?_;have small:l.length<=2/\m.length<=2\/¬ (l.length<=2/\m.length<=2):=Decidable.em _;rcases small with⟨h1,h2⟩ | hbig
 ·have d1:decide ((l.length:Int)<=2)=true:=Ac au;have d2:decide ((m.length:Int)<=2)=true:=Ac au;refine di ha1.len hb1.len d1 d2 ?_;refine aP (af) ?_;refine bK ?_;try refine ae ?_
  refine aL ?_;try refine ae ?_
  refine aF (pM H ha1 hl h1) ?_;rintro _ T ⟨rfl,hT⟩;rw[hT];try refine ae ?_
  refine aL ?_;try refine ae ?_
  refine aF (pM H hb1 hm h2) ?_;rintro _ T ⟨rfl,hT⟩;rw[hT];try refine ae ?_
  refine aL ?_;try refine ae ?_
  have k1:=oW hl.1 h1;have k2:=oW hm.1 h2;refine aF (sE H hL au au) ?_;rintro _ T ⟨rfl,hT⟩;rw[hT];try refine ae ?_
  refine aL ?_;try refine ae ?_
  have k3:Nat.gcd (val l) (val m)<=18446744073709551615:=by
   rcases An (val l) with h | h
   ·rw[h,Nat.gcd_zero_left];omega
   ·have:=Gt (val m) h;omega
  refine aF (uQ H.f82 k3) ?_;rintro r S' ⟨hr,hS'⟩;try refine ae ?_
  refine aK ?_;try refine ae ?_
  rw[<-hlx,<-hmy];exact⟨hr,hS'⟩
 have go1:∀ (Q:Fr->St->Prop) (F:Fr),aB 0 F=a->aB 1 F=b->(∀F',aB 0 F'=a->aB 1 F'=b->aB 20 F'= .bool false->Q F' S)->pU fns [mt 13 0,oq 14 (.ct (.t 13)),oq 15 (bi .leq (.t 14) (ci 2)),mt 16 15,og 17 16 true 0 (.mv (.t 1)),og 18 16 true 0 (.ct (.t 17)),og 19 16 true 0 (bi .leq (.t 18) (ci 2)),oq 20 (.pick (.t 16) (.t 19) (.c (.bool false)))] F S Q:=by
  intro Q F p0 p1 hQ;by_cases h1:l.length<=2
  ·have d1:decide ((l.length:Int)<=2)=true:=Ac au;have d2:decide ((m.length:Int)<=2)=false:=Aa au;refine dw p0 p1 ha1.len hb1.len d1 d2 ?_;exact hQ _ (ah p0) (ah p1) (af)
  ·have d1:decide ((l.length:Int)<=2)=false:=Aa au;refine di p0 p1 ha1.len d1 ?_;exact hQ _ (ah p0) (ah p1) (af)
 refine go1 _ _ (af) (af) ?_;intro F p0 p1 p20;try refine ae ?_
 refine aO (ah p20) (aJ ?_);try refine ae ?_
 refine fA (cp p0 ?_);refine aL ?_;try refine ae ?_
 refine aF (aD3 H.f117 ha1) ?_;rintro _ T ⟨rfl,hT⟩;rw[hT];by_cases h1:l= [1]
 ·have hg:Nat.gcd x y=1:=by rw[<-hlx,h1,qL,Nat.gcd_one_left]
  refine cp (Ac h1) ?_;refine aP (af) ?_;refine bK ?_;refine aL ?_;try refine ae ?_
  refine aF (xP H.f108) ?_;rintro r S' ⟨hr,hS'⟩;try refine ae ?_
  refine aK ?_;try refine ae ?_
  rw[hg];exact⟨hr,hS'⟩
 refine c9 (Aa h1) p1 ?_;refine aL ?_;try refine ae ?_
 refine aF (aD3 H.f117 hb1) ?_;rintro _ T ⟨rfl,hT⟩;rw[hT];try refine ae ?_
 by_cases h2:m= [1]
 ·have hg:Nat.gcd x y=1:=by rw[<-hmy,h2,qL,Nat.gcd_one_right]
  refine aP (by simp only[↓sU,sD,rE,↓reduceIte,rA,Ac h2]) ?_;refine bK ?_;refine aL ?_;try refine ae ?_
  refine aF (xP H.f108) ?_;rintro r S' ⟨hr,hS'⟩;try refine ae ?_
  refine aK ?_;try refine ae ?_
  rw[hg];exact⟨hr,hS'⟩
 refine aO (by simp only[↓sU,sD,rE,↓reduceIte,rA,Aa h2]) (aJ ?_);try refine ae ?_
 refine aE (bG (Q:=fun o A' S'=>o= .normal/\aRJ S (max x y) (Nat.gcd x y) (min x y) A' S') ?_ ?_)
 ·refine bK (c9 p0 p1 ?_);refine aL ?_;try refine ae ?_
  refine aF (aEt H.f118 ha hb hx) ?_;rintro _ S1 ⟨rfl,hS1⟩;refine cp @aKk ?_;by_cases hlt:x<y
  ·refine aP (by simp only[↓sU,sD,rE,↓reduceIte,rA,Ac hlt]) (aM ?_);refine c9 p0 p1 ?_;exact⟨rfl,y,x,b,a,af,af,hb.same hS1,ha.same hS1,au,au,Eb y x,hS1,au⟩
  ·refine aO (by simp only[↓sU,sD,rE,↓reduceIte,rA,Aa hlt]) (aJ ?_);try refine ae ?_
   exact⟨rfl,x,y,a,b,ah p0,ah p1,ha.same hS1,hb.same hS1,au,au,rfl,hS1,au⟩
 rintro o A' S' ⟨rfl,hI⟩;try refine ae ?_
 have hFX:Fits (max x y):=by
   rcases Nat.le_total x y with h | h
   ·rw[Nat.max_eq_right h];exact hy
   ·rw[Nat.max_eq_left h];exact hx
 refine aE (bG (Q:=fun o A' S'=>o= .normal/\∃k,aRJ S (max x y) (Nat.gcd x y) k A' S'/\k<1000000000000000000) ?_ ?_)
 ·refine aQ (bX (aRJ S (max x y) (Nat.gcd x y)) ?_ _ _ _ hI);rintro k ⟨F,inr⟩ S' ⟨q0,x',y',a',b',p0,p1,ha',hb',hyx,hxX,hg,hS,rfl⟩;simp only at q0 p0 p1;subst q0;have hx':=hFX.mono hxX;have⟨l',ha1,hl',hlx'⟩:=id ha';have⟨m',hb1,hm',hmy'⟩:=id hb';have hml:m'.length<=l'.length:=by
   rcases Bj l'.length m'.length with h | h
   ·have:=gK hl'.1 hm' h;omega
   ·exact h
  refine fA (c9 p1 hb1.len ?_);by_cases h3:2<m'.length
  ·refine aP (by simp only[↓sU,sD,rE,↓reduceIte,rA,Ac (show(2:Int)<(m'.length:Int) by omega)]) (aJ ?_);try refine ae ?_
   have hkp:0<k:=by
    rcases An k with h | h
    ·have:=(zA hm').1 au;subst this;simp at h3
    ·exact h
   refine aQ (aE (aM ?_));refine c9 p0 p1 ?_;refine aL ?_;try refine ae ?_
   refine aF (aL5 H ha1 hl' hlx' hb' hx' hyx au) ?_;rintro _ S1 ⟨hS1,P,E,f,g,tens,d,rfl,hEP,hP,ht,hfd,hgd,ea,eb⟩;refine c9 @tU @tP ?_;refine aL ?_;try refine ae ?_
   refine aF (aIX (a:=(x':Int)) (b:=(k:Int)) (P:=(P:Int)) (E:=(E:Int)) (f:=(f:Int)) (g:=(g:Int)) (tens:=(tens:Int)) (d:=(d:Int)) H au au au au au au au au au au  (by rw[<-Bk,ea];simp) (by rw[<-Bk,eb];simp)) ?_;rintro _ T ⟨hT,p,e,w,xx,yy,z,rfl,hLeh⟩;rw[hT];refine di @tU @tP @ex2 @ex3 ?_;refine fA ?_;try refine ae ?_
   by_cases h0:xx=0
   ·refine aP (by simp only[↓sU,sD,rE,↓reduceIte,rA,Ac h0]) ?_;refine bK (c9 p0 p1 ?_);refine aL ?_;try refine ae ?_
    refine aF (aDG H (ha'.same hS1) (hb'.same hS1) hx' hkp) ?_;rintro _ S2 ⟨qv,rv,rfl,hq,hr,hS2⟩;refine c9 @tU @tP ?_;refine bK (cp p1 ?_);refine bS ?_;try refine ae ?_
    refine⟨x' % k,Dj _ hkp,rfl,k,x' % k,b',rv,af,af,hb'.same (hS1.trans hS2),hr,Nat.le_of_lt (Dj _ hkp),au,?_,hS.trans (hS1.trans hS2),rfl⟩;rw[<-hg,Eb x' k,Nat.gcd_rec k x',Eb]
   ·refine aO (by simp only[↓sU,sD,rE,↓reduceIte,rA,Aa h0]) (aJ ?_);try refine ae ?_
    have hlow:=hLeh.low;have hsz:=hLeh.size;rcases hLeh.made with h5 | ⟨h5,h6⟩
    ·exact absurd h5.2.1 h0
    have⟨na,hna⟩:=Eu (show 0<=w * (x':Int)+xx * (k:Int) by omega);have⟨nb,hnb⟩:=Eu hlow;have hgg:=aPT (a:=x') (b:=k) (a':=na) (b':=nb) hLeh.det hna.symm hnb.symm;refine aM (c9 p0 p1 ?_);refine aL ?_;try refine ae ?_
    refine aF (aIF (R:=na) H (ha'.same hS1) (hb'.same hS1) hx' hyx au au  (by rcases hLeh.signs with h | h<;>omega) hna.symm au) ?_;rintro va S2 ⟨hva,hS2⟩;refine c9 p0 p1 ?_;refine aL ?_;try refine ae ?_
    refine aF (aIF (R:=nb) H (ha'.same (hS1.trans hS2)) (hb'.same (hS1.trans hS2)) hx' hyx au au  (by rcases hLeh.signs with h | h<;>omega) hnb.symm au) ?_;rintro vb S3 ⟨hvb,hS3⟩;try refine ae ?_
    exact⟨nb,au,rfl,na,nb,va,vb,af,af,hva.same hS3,hvb,au,au,by rw[hgg];exact hg,hS.trans (hS1.trans (hS2.trans hS3)),rfl⟩
  ·refine aO (by simp only[↓sU,sD,rE,↓reduceIte,rA,Aa (show ¬ (2:Int)<(m'.length:Int) by omega)]) (bS ?_);try refine ae ?_
   have:=oW hm'.1 au;exact⟨k,⟨rfl,x',k,a',b',ah p0,ah p1,ha',hb',hyx,hxX,hg,hS,rfl⟩,au⟩
 ·rintro o ⟨F,inr⟩ S' ⟨rfl,k,⟨q0,x',y',a',b',p0,p1,ha',hb',hyx,hxX,hg,hS,rfl⟩,hk⟩;simp only at q0 p0 p1;subst q0;have hx':=hFX.mono hxX;have⟨m',hb1,hm',hmy'⟩:=id hb';have hml:m'.length<=2:=aC0 hm' (by rw[hmy'];exact hk);try refine ae ?_
  refine fA (c9 p1 hb1.len ?_);by_cases h0:m'.length=0
  ·have hk0:k=0:=by rw[<-hmy',Cf.1 h0];rfl
   refine aP (by simp only[↓sU,sD,rE,↓reduceIte,rA,Ac (show(m'.length:Int)=0 by omega)]) ?_;refine bK (cp p0 ?_);refine aL ?_;try refine ae ?_
   refine aF (oG H.f101 ha' hx') ?_;rintro r S1 ⟨hr,hS1⟩;try refine ae ?_
   refine aK ?_;try refine ae ?_
   rw[hk0,Hf] at hg;rw[<-hg];exact⟨hr,hS.trans hS1⟩
  ·have hkp:0<k:=by
    rcases An k with h | h
    ·have:=(zA hm').1 au;subst this;simp at h0
    ·exact h
   refine aO (by simp only[↓sU,sD,rE,↓reduceIte,rA,Aa (show ¬ (m'.length:Int)=0 by omega)]) (aJ ?_);try refine ae ?_
   refine bK (c9 p0 p1 ?_);refine aL ?_;try refine ae ?_
   refine aF (aDG H ha' hb' hx' hkp) ?_;rintro _ S2 ⟨qv,rv,rfl,hq,⟨r,hr1,hr2,hr3⟩,hS2⟩;refine c9 @tU @tP ?_;have hrk:x' % k<k:=Dj _ hkp;have hrl:r.length<=2:=aC0 hr2 (by rw[hr3];exact Nat.lt_trans hrk hk);refine bK (cp p1 ?_);refine aL ?_;try refine ae ?_
   refine aF (pM H (hb1.same hS2) hm' hml) ?_;rintro _ T ⟨rfl,hT⟩;rw[hT];try refine ae ?_
   refine aL ?_;try refine ae ?_
   refine aF (pM H hr1 hr2 hrl) ?_;rintro _ T ⟨rfl,hT⟩;rw[hT];try refine ae ?_
   refine aL ?_;try refine ae ?_
   rw[hmy',hr3];refine aF (sE H (hL.same (hS.trans hS2)) au au) ?_;rintro _ T ⟨rfl,hT⟩;rw[hT];try refine ae ?_
   refine aL ?_;try refine ae ?_
   have hgk:Nat.gcd k (x' % k)=Nat.gcd x y:=by rw[<-hg,Eb x' k,Nat.gcd_rec k x',Eb]
   have k3:Nat.gcd k (x' % k)<=18446744073709551615:=by
    have:=Gt (x' % k) hkp;omega
   refine aF (uQ H.f82 k3) ?_;rintro r' S4 ⟨hr',hS4⟩;try refine ae ?_
   refine aK ?_;try refine ae ?_
   rw[<-hgk];exact⟨hr',hS.trans (hS2.trans hS4)⟩
theorem aS(cs:bo):(AV.agg cs).cells=some cs:=rfl
theorem kJ(b:Bool):(AV.bool b).cells=some [.bool b]:=rfl
theorem aD(i:Nat)(x:cP)(F:Fr)(h:T AB):iT (.cw i x) F h=aAh (x.val F) i:=rfl
theorem aC(b o i:Nat):aAh (.ptr b o) i=some (.ptr b (o+i)):=rfl
theorem aX(i:Nat)(x:cP):dK (.cw i x)=false:=rfl
theorem gL(z:bo)(ps:List (Nat×Nat×cP)):dK (.build z ps)=false:=rfl
theorem bR(a:Nat)(agg:Bool)(n:Nat)(rs:List RV)(F:Fr)(h:T AB):results (.cell a agg n::rs) F h=aU (dJ (aB a F) agg n h) fun v=>aU (results rs F h) fun vs=>some (v::vs):=rfl
theorem yF{z0 z1 z2:AV}{x y z:cP}{F:Fr}{h:T AB}(h1:(x.val F).cells=some [x.val F])(h2:(y.val F).cells=some [y.val F])(h3:(z.val F).cells=some [z.val F]):iT (.build [z0,z1,z2] [(0,1,x),(1,1,y),(2,1,z)]) F h=some (.agg [x.val F,y.val F,z.val F]):=by
 show aU (eQ [z0,z1,z2] [(0,1,x.val F),(1,1,y.val F),(2,1,z.val F)]) (fun cs=>some (AV.agg cs))=_;simp only[eQ,h1,h2,h3,aH];rfl
section
variable {h:T AB}{b:Nat}{x y z:AV}{o:Bool}{s:Nat}
theorem oE(hb:h.get b=some (.cells [x,y,z] o s)):dJ (.ptr b (0+0)) false 1 h=some x:=by
 simp only[dJ,iQ,aR,jQ,cA,hb,aH,dN,jY];rfl
theorem gE(hb:h.get b=some (.cells [x,y,z] o s)):dJ (.ptr b (0+1)) false 1 h=some y:=by
 simp only[dJ,iQ,aR,jQ,cA,hb,aH,dN,jY];rfl
theorem iJ(hb:h.get b=some (.cells [x,y,z] o s)):dJ (.ptr b (0+2)) false 1 h=some z:=by
 simp only[dJ,iQ,aR,jQ,cA,hb,aH,dN,jY];rfl
theorem mZ(hb:h.get b=some (.cells [x,y,z] o s)):dJ (.ptr b 0) true 3 h=some (.agg [x,y,z]):=by
 simp only[dJ,iQ,aN,oM,cA,hb,aH,dN];rfl
end
theorem vG{S:St}{b n:Nat}{cs cs':bo}{o:Bool}{s:Nat}(h:S.h.get b=some (.cells cs o s))(h1:cs.length=n)(h2:cs'.length=n):oT (.ptr b 0) n cs' S=some (.undef,⟨S.h.set b (some (.cells cs' o s)),S.nx⟩):=by
 have hp:put cs 0 cs'=some cs':=by
  rw[put_eq,if_pos au];simp [Dp (show cs.length<=cs'.length by omega)]
 simp only[oT,eR,h2,mU,h,aH,rJ,hp];rw[show Nat.beq n n=true from Nat.beq_refl n];rfl
theorem cD{d t m:Nat}{x:cP}{l:List AO}{F:Fr}{S:St}{Q:Fr->St->Prop}{cs:bo}(hc:(x.val F).cells=some cs)(h:∀S1,Same S S1->S1.nx=S.nx+1->S1.h.get S.nx=some (.cells cs false 0)->pU fns l (cJ (some d) F (.ptr S.nx 0)) S1 Q):pU fns (⟨some d,.a (.box t x),none,m⟩::l) F S Q:=by
 rw[tG];refine⟨(.ptr S.nx 0,.cells cs false 0),by rw[aGR,hc];rfl,h _ (Same.alloc S _) rfl ?_⟩;simp only;rw[dq,if_pos rfl]
theorem cM{d t m:Nat}{l:List AO}{F:Fr}{S:St}{Q:Fr->St->Prop}{cs:bo}(h:∀S1,Same S S1->S1.nx=S.nx+1->S1.h.get S.nx=some (.cells cs false 0)->pU fns l (cJ (some d) F (.ptr S.nx 0)) S1 Q):pU fns (⟨some d,.a (.alloc t cs),none,m⟩::l) F S Q:=by
 rw[tG];refine⟨(.ptr S.nx 0,.cells cs false 0),rfl,h _ (Same.alloc S _) rfl ?_⟩;simp only;rw[dq,if_pos rfl]
theorem dH{n m b s:Nat}{x v:cP}{l:List AO}{F:Fr}{S:St}{Q:Fr->St->Prop}{cs cs':bo}{o:Bool}(hx:x.val F= .ptr b 0)(hv:(v.val F).cells=some cs')(hb:S.h.get b=some (.cells cs o s))(h1:cs.length=n)(h2:cs'.length=n)
  (h:∀S1,cB b S S1->S1.nx=S.nx->S1.h.get b=some (.cells cs' o s)->pU fns l F S1 Q):pU fns (⟨none,.x (.st n x v),none,m⟩::l) F S Q:=by
 refine fK (v:=.undef) (fun call=>?_) (h ⟨S.h.set b (some (.cells cs' o s)),S.nx⟩ ((cB.refl b S).put _) rfl ?_)
 ·rw[dW,hv,aH,hx];exact vG hb h1 h2
 ·simp only;rw[dq,if_pos rfl]
theorem fJ(W:Nat->Prop){ops:List AO}{A:bN}{S:St}{Q:Out->bN->St->Prop}(h:∀S1,Same S S1->hJ fns W S.h S.nx ops 0 A.F S1 [] none fun F S' ps=>Q .normal ⟨F,A.inr⟩ ⟨(cG (2 ^ ops.length - 1) ps S'.h).2,S'.nx⟩):nD fns (.drw ops) A S Q:=aGh W (h _ (Same.nx S _))
section
variable {W:Nat->Prop}{h0:T AB}{base:Nat}{d:Option Nat}{m i:Nat}{l:List AO}{F:Fr}{S:St}{last:Option Nat}{Q:Fr->St->List kB->Prop}
theorem cF{f:cP}{args:List cP}(h:oB last m=true)(hw:eT fns (f.val F) (dE args F) S fun v S1=>Same S S1/\hJ fns W h0 base l (i+1) (cJ d F v) S1 [] (some i) Q):hJ fns W h0 base (⟨d,.x (.call f args),none,m⟩::l) i F S [] last Q:=
 tT h hw
theorem pR{n b s:Nat}{x v:cP}{cs cs':bo}{o:Bool}(h:oB last m=true)(hx:x.val F= .ptr b 0)(hv:(v.val F).cells=some cs')(hb:S.h.get b=some (.cells cs o s))(h1:cs.length=n)(h2:cs'.length=n)(hW:W b)
  (hr:∀S1,cB b S S1->S1.nx=S.nx->S1.h.get b=some (.cells cs' o s)->hJ fns W h0 base l (i+1) F S1 [] (some i) Q):hJ fns W h0 base (⟨none,.x (.st n x v),none,m⟩::l) i F S [] last Q:=by
 have hS:cB b S ⟨S.h.set b (some (.cells cs' o s)),S.nx⟩:=(cB.refl b S).put _;refine aGb (S1:=⟨S.h.set b (some (.cells cs' o s)),S.nx⟩) h ?_ ⟨Af _,fun c hc hw=>?_⟩ (hr _ hS rfl ?_)
 ·rw[hv,aH,hx];exact vG hb h1 h2
 ·simp only;rw[dq,if_neg (show ¬c=b from fun e=>hw (by rw[e];exact hW))];rfl
 ·simp only;rw[dq,if_pos rfl]
end
theorem eS{S:St}{v:AV}{n:Nat}(h:dG S v n):v.cells=some [v]:=by
 have⟨l,h,_⟩:=h;exact aEd h
theorem jO{S:St}{v:AV}{l:bt}(h:cO S v l):cQ v v=true:=by
 rcases h with⟨_,h | h⟩ | ⟨b,off,cap,o,cs,rfl,_⟩
 ·subst h;rfl
 ·subst h;rfl
 ·exact rX ..
theorem fL{S:St}{v:AV}{n:Nat}(h:dG S v n):cQ v v=true:=by
 have⟨l,h,_⟩:=h;exact jO h
theorem aHj{x y z:AV}(h1:cQ x x=true)(h2:cQ y y=true)(h3:cQ z z=true):cQ (.agg [x,y,z]) (.agg [x,y,z])=true:=by
 simp only[cQ,oZ,h1,h2,h3,aN]
def wH:bo->Bool
 | []=>true
 | .int _ _::_=>false
 | _::l=>wH l
theorem aFn:∀ {cs:bo} {i:Nat} {k:IntKind} {n:Int},wH cs=true->cs[i]? ≠some (.int k n)
 | [],i,k,n,_,h=>by simp at h
 | c::cs,0,k,n,h,he=>by
  simp at he;subst he;simp [wH] at h
 | c::cs,i+1,k,n,h,he=>by
  have:wH cs=true:=by
   cases c<;>simp only[wH,Aw] at h<;>exact h
  exact aFn this (by simpa using he)
theorem cO.st{S S':St}{v:AV}{l:bt}{b:Nat}{cs cs':bo}{o o':Bool}{s s':Nat}(h:cO S v l)(hb:S.h.get b=some (.cells cs o s))(hn:wH cs=true)(hs:cB b S S')(hb':S'.h.get b=some (.cells cs' o' s')):cO S' v l:=by
 rcases h with h | ⟨c,off,cap,o1,ds,rfl,hc,hlt,hcs,hel⟩
 ·exact .inl h
 ·by_cases hcb:c=b
  ·subst hcb;refine .inr ⟨c,off,cap,o1,cs',rfl,hc,Ag hlt hs.1,by simp [cA,hb',dN],fun i x hx=>?_⟩;have h1:=hel i x hx;have:ds=cs:=by simpa [cA,hb,dN] using hcs.symm
   subst this;exact absurd h1 (aFn hn)
  ·refine .inr ⟨c,off,cap,o1,ds,rfl,hc,Ag hlt hs.1,?_,hel⟩;unfold cA;rw[hs.2 c hlt hcb];exact hcs
theorem dG.st{S S':St}{v:AV}{n:Nat}{b:Nat}{cs cs':bo}{o o':Bool}{s s':Nat}(h:dG S v n)(hb:S.h.get b=some (.cells cs o s))(hn:wH cs=true)(hs:cB b S S')(hb':S'.h.get b=some (.cells cs' o' s')):dG S' v n:=by
 have⟨l,h1,h2⟩:=h;exact⟨l,h1.st hb hn hs hb',h2⟩
def cE(S:St)(v:AV)(q:Rat):Prop:=∃nv dv,v= .agg [.bool (decide (q.num<0)),nv,dv]/\dG S nv q.num.natAbs/\dG S dv q.den
def aFC(q:Rat):Prop:=Fits q.num.natAbs/\Fits q.den
theorem cE.same{S S':St}{v:AV}{q:Rat}(h:cE S v q)(hs:Same S S'):cE S' v q:=by
 have⟨nv,dv,h1,h2,h3⟩:=h;exact⟨nv,dv,h1,h2.same hs,h3.same hs⟩
theorem cE.st{S S':St}{v:AV}{q:Rat}{b:Nat}{cs cs':bo}{o o':Bool}{s s':Nat}(h:cE S v q)(hb:S.h.get b=some (.cells cs o s))(hn:wH cs=true)(hs:cB b S S')(hb':S'.h.get b=some (.cells cs' o' s')):cE S' v q:=by
 have⟨nv,dv,h1,h2,h3⟩:=h;exact⟨nv,dv,h1,h2.st hb hn hs hb',h3.st hb hn hs hb'⟩
theorem cE.cells{S:St}{v:AV}{q:Rat}(h:cE S v q):∃x y z,v= .agg [x,y,z]:=by
 have⟨nv,dv,h1,h2,h3⟩:=h;exact⟨_,_,_,h1⟩
theorem nR{S:St}{neg:Bool}{nv dv:AV}{n d:Nat}(hn:dG S nv n)(hd:dG S dv d)(hd0:d≠0)(hc:Nat.Coprime n d)(hneg:n=0->neg=false):cE S (.agg [.bool neg,nv,dv]) (mkRat (sg neg n) d):=by
 have⟨h1,h2⟩:=aNQ (n:=sg neg n) hd0 (by rw[pD];exact hc);refine⟨nv,dv,?_,?_,?_⟩
 ·rw[h1,aRa hneg]
 ·rw[h1,pD];exact hn
 ·rw[h2];exact hd
theorem aI7{S:St}{dv:AV}(hd:dG S dv 1):cE S (.agg [.bool false,.ce,dv]) 0:=⟨.ce,dv,rfl,aKg,hd⟩
theorem aAT{q:Rat}(h:q.num.natAbs=0):q=0:=by
 have:q.num=0:=by omega
 exact Rat.num_eq_zero.1 this
theorem aGE{S:St}{a b:AV}{x y:Nat}(H:Has fns)(hL:Laid S)(ha:dG S a x)(hb:dG S b y)(hx:Fits x)(hy:Fits y):
  eT fns (.fn 141 [] []) [a,b] S fun r S'=>r= .bool (decide (Nat.gcd x y=1))/\Same S S':=by
 have⟨l,ha1,hl,hlx⟩:=id ha;have⟨m,hb1,hm,hmy⟩:=id hb;refine bL H.f141 (by simp) ?_;refine ae ?_;refine bK (ae ?_);refine aE (aE (bG (Q:=fun o A' S'=>o= .normal/\S'=S/\A'.inr=false/\aB 0 A'.F=a/\aB 1 A'.F=b/\aB 12 A'.F= .bool (decide (l.length<=2/\m.length<=2))) ?_ ?_))
 ·refine aM ?_;by_cases h1:l.length<=2
  ·have d1:decide ((l.length:Int)<=2)=true:=Ac au;by_cases h2:m.length<=2
   ·have d2:decide ((m.length:Int)<=2)=true:=Ac au;simp only[↓sU,sD,rE,↓reduceIte,rA,ha1.len,hb1.len,d1,d2];simp [h1,h2]
   ·have d2:decide ((m.length:Int)<=2)=false:=Aa au;simp only[↓sU,sD,rE,↓reduceIte,rA,ha1.len,hb1.len,d1,d2];simp [h2]
  ·have d1:decide ((l.length:Int)<=2)=false:=Aa au;simp only[↓sU,sD,rE,↓reduceIte,rA,ha1.len,d1];simp [h1]
 rintro o ⟨F,inr⟩ S' ⟨rfl,hS',q0,p0,p1,p12⟩;simp only at q0 p0 p1 p12;subst q0;rw[hS'];try refine ae ?_
 by_cases h12:l.length<=2/\m.length<=2
 ·refine aP (by simp only[↓sU,sD,rE,↓reduceIte,rA,p12,Ac h12]) ?_;refine bK (cp p0 ?_);refine aL (ae ?_);refine aF (pM H ha1 hl h12.1) ?_;rintro _ T ⟨rfl,hT⟩;rw[hT];refine cp p1 ?_;refine aL (ae ?_);refine aF (pM H hb1 hm h12.2) ?_;rintro _ T ⟨rfl,hT⟩;rw[hT];try refine ae ?_
  refine aL (ae ?_);have k1:=oW hl.1 h12.1;have k2:=oW hm.1 h12.2;refine aF (sE H hL au au) ?_;rintro _ T ⟨rfl,hT⟩;rw[hT];try refine ae ?_
  refine aK (c9 hlx hmy ?_);refine⟨?_,Same.refl _⟩;congr 1;exact Fq.2 au
 ·refine aO (by simp only[↓sU,sD,rE,↓reduceIte,rA,p12,Aa h12]) (aJ ?_);refine ae ?_;refine bK (c9 p0 p1 ?_);refine aL (ae ?_);refine aF (uJ H hL ha hb hx hy) ?_;rintro g S1 ⟨⟨gl,hg1,hg2,hg3⟩,hS1⟩;try refine ae ?_
  refine aL (ae ?_);refine aF (aD3 H.f117 hg1) ?_;rintro _ T ⟨rfl,hT⟩;rw[hT];try refine ae ?_
  refine aK (ae ?_);refine⟨?_,hS1⟩;congr 1;exact Fq.2 ((aF4 hg2).symm.trans (by rw[hg3]))
theorem uB{S:St}(H:Has fns):eT fns (.fn 97 [] []) [] S fun r S'=>cE S' r 0/\Same S S':=by
 refine bL H.f97 (by simp) ?_;refine aj ?_;refine bK ?_;refine cM ?_;intro S1 hS1 hn1 hb1;refine aj ?_;refine bK ?_;refine aL (aj ?_);refine aF (xP H.f108) ?_;rintro dv S2 ⟨hd,hS2⟩;have hbd:∀F:Fr,aB 1 F=dv->iT (.build [(.bool false),.ce,.ce] [(2,1,(.t 1))]) F S2.h=some (.agg [.bool false,.ce,dv]):=fun F h=>by
  show aU (eQ [.bool false,.ce,.ce] [(2,1,aB 1 F)]) (fun cs=>some (AV.agg cs))=_;rw[h];simp only[eQ,eS hd,aH];rfl
 try refine aj ?_
 rw[hbd _ (ak)];refine aj ?_;have hb2:S2.h.get S.nx=some (.cells [.bool false,.ce,.ce] false 0):=by rw[hS2.2 _ au];exact hb1
 refine dH (b:=S.nx) (ak) (by simp only[↓stU,aG,rE,↓reduceIte,aS];rfl) hb2 rfl rfl ?_;intro S3 hS3 hn3 hb3;refine aj ?_;refine aK ?_;have hS:=hS3.same (hS1.trans hS2) (Af _);have hd3:=hd.st hb2 rfl hS3 hb3;refine eo @bR (mZ hb3) ?_;exact⟨aI7 hd3,hS⟩
theorem aQo(z:Int):mkRat z 1=(z:Rat):=by
 rw[<-Rat.mk_eq_mkRat z 1 ay (by simp)];rfl
theorem aJW{S:St}{neg:Bool}{v:AV}{n:Nat}(H:Has fns)(h:dG S v n)(hn:Fits n):eT fns (.fn 107 [] []) [.bool neg,v] S fun r S'=>cE S' r ((sg neg n:Int):Rat)/\Same S S':=by
 have⟨l,hl1,hl2,hl3⟩:=id h;refine bL H.f107 (by simp) ?_;refine aj ?_;refine bK ?_;refine cM ?_;intro S1 hS1 hn1 hb1;refine aj ?_;have h1:=h.same hS1;have hl:=hl1.same hS1;refine aE (bG (Q:=fun o A' S'=>o= .normal/\cB S.nx S1 S'/\∃nv dv,S'.h.get S.nx=some (.cells [.bool (neg && decide (0<n)),nv,dv] false 0)/\dG S' nv n/\dG S' dv 1/\aB 4 A'.F= .ptr S.nx 0) ?_ ?_)
 ·refine aM ?_;have tail:∀ (F:Fr),aB 11 F=v->aB 4 F= .ptr S.nx 0->aB 10 F= .bool (neg && decide (0<n))->pU fns [oc 12 101 [(.t 11)] 0,oc 13 108 [] 0,oq 14 (.build [(.bool false),.ce,.ce] [(0,1,(.t 10)),(1,1,(.t 12)),(2,1,(.t 13))]),⟨none,(.x (.st 3 (.t 4) (.t 14))),none,0⟩] F S1
    (fun F' S'=>cB S.nx S1 S'/\∃nv dv,S'.h.get S.nx=some (.cells [.bool (neg && decide (0<n)),nv,dv] false 0)/\dG S' nv n/\dG S' dv 1/\aB 4 F'= .ptr S.nx 0):=by
   intro F p1 p4 p10;refine aL (ek p1 ?_);refine aF (oG H.f101 h1 hn) ?_;rintro nv S2 ⟨hnv,hS2⟩;refine aL (aj ?_);refine aF (xP H.f108) ?_;rintro dv S3 ⟨hdv,hS3⟩;refine fa @yF p10 @kJ (eS hnv) (eS hdv) ?_;have hb3:S3.h.get S.nx=some (.cells [.bool false,.ce,.ce] false 0):=by rw[hS3.2 _ (aw hS2.1),hS2.2 _ au];exact hb1
   refine dH (b:=S.nx) (am p4) (by simp only[↓stU,aG,rE,↓reduceIte,aS];rfl) hb3 rfl rfl ?_;intro S4 hS4 hn4 hb4;refine ek p4 ?_;have h23:=hS2.trans hS3;exact⟨⟨Bb h23.1 hS4.1,fun c hc hne=>(hS4.2 c (Ag hc h23.1) hne).trans (h23.2 c hc)⟩,nv,dv,hb4,(hnv.same hS3).st hb3 rfl hS4 hb4,hdv.st hb3 rfl hS4 hb4⟩
  cases neg with
  | false=>
   refine aj ?_;exact tail _ (ak) (ak) (by simp only[↓stU,aG,rE,↓reduceIte];rfl)
  | true=>
   have e:decide ((0:Int)<(l.length:Int))=decide (0<n):=by
    apply Fq.2;rw[<-hl3];have:=zA hl2;rcases An (val l) with h0 | h0
    ·rw[this.1 h0];simp [dV]
    ·have:l≠ []:=fun e=>by rw[e,dV] at h0;omega
     have:=Ep.2 this;omega
   refine eo hl.len e ?_;exact tail _ (ak) (ak) (by simp only[↓stU,aG,rE,↓reduceIte];rfl)
 ·rintro o ⟨F,inr⟩ S' ⟨rfl,hSb,nv,dv,hb,hnv,hdv,p4⟩;simp only at p4;refine aj ?_;refine aK (er @bR p4 (mZ hb) ?_);refine⟨?_,hSb.same hS1 (Af _)⟩;have:((sg neg n:Int):Rat)=mkRat (sg (neg && decide (0<n)) n) 1:=by
   rw[aQo];congr 1;rcases An n with h0 | h0
   ·subst h0;cases neg<;>rfl
   ·simp [h0]
  rw[this];exact nR hnv hdv ay (Nat.coprime_one_right _) (fun h0=>by subst h0;simp)
theorem aDF{S:St}{v:AV}{q:Rat}(H:Has fns)(h:cE S v q)(hf:aFC q):eT fns (.fn 145 [] []) [v] S fun r S'=>cE S' r q/\Same S S':=by
 obtain⟨nv,dv,rfl,h1,h2⟩:=h;refine bL H.f145 (by simp) ?_;refine aj ?_;refine bK ?_;refine cD (by simp only[↓stU,aG,rE,↓reduceIte,aS];rfl) ?_;intro S1 hS1 hn1 hb1;refine cM ?_;intro S2 hS2 hn2 hb2;refine aj ?_;have hb1':S2.h.get S.nx=some (.cells [.bool (decide (q.num<0)),nv,dv] false 0):=by rw[hS2.2 _ au];exact hb1
 have hS12:=hS1.trans hS2;have lt1:S.nx<S2.nx:=by omega
 have ne1:¬S.nx=S1.nx:=by omega
 refine aE (fJ (fun c=>c=S1.nx) ?_);intro S3 hS3;have hS13:=hS12.trans hS3;simp only[↓sU,sD,rE,↓reduceIte,rA,aD,aC,aX,oE hb1',gE hb1',lt1,ne1,Am,fL h1];refine cF rfl ?_;refine ae ?_;refine aF (oG H.f101 (h1.same hS13) hf.1) ?_;rintro nv' S4 ⟨hn',hS4⟩;refine⟨hS4,?_⟩;refine dy @aD @aC @aX (iJ hb1') lt1 ne1 @Am (fL h2) ?_;refine cF rfl ?_;refine ae ?_;refine aF (oG H.f101 (h2.same (hS13.trans hS4)) hf.2) ?_;rintro dv' S5 ⟨hd',hS5⟩;refine⟨hS5,?_⟩;refine du @gL @yF @kJ (eS hn') (eS hd') ?_;have hb5:S5.h.get S1.nx=some (.cells [.bool false,.ce,.ce] false 0):=by
  have:=hS3.1;have:=hS4.1;rw[hS5.2 _ au,hS4.2 _ au,hS3.2 _ au];exact hb2
 refine pR (b:=S1.nx) rfl (af) (by simp only[↓sU,sD,rE,↓reduceIte,rA,aS];rfl) hb5 rfl rfl rfl ?_;intro S6 hS6 hn6 hb6;refine ae ?_;refine aK (c9 @bR (mZ hb6) ?_);refine⟨⟨nv',dv',rfl,(hn'.same hS5).st hb5 rfl hS6 hb6,hd'.st hb5 rfl hS6 hb6⟩,hS6.same (hS13.trans (hS4.trans hS5)) au⟩
theorem aS2(b:Bool):(b==b)=true:=by cases b<;>rfl
theorem kS{S:St}{a b:AV}{x y:Nat}(H:Has fns)(ha:dG S a x)(hb:dG S b y)(hx:Fits x)(hy:0<y):eT fns (.fn 102 [] []) [a,b] S fun r S'=>dG S' r (x / y)/\Same S S':=by
 have⟨m,hb1,hm,hmy⟩:=id hb;refine bL H.f102 (by simp) ?_;refine aj ?_;refine bK (aj ?_);refine fA (aj ?_);refine aL (aj ?_);refine aF (aD3 H.f117 hb1) ?_;rintro _ T ⟨rfl,hT⟩;rw[hT];try refine aj ?_
 by_cases h1:m= [1]
 ·refine aP (by simp only[↓stU,aG,rE,↓reduceIte,Ac h1]) ?_;refine bK (aj ?_);refine aK (aj ?_);have:y=1:=by rw[<-hmy,h1,qL]
  rw[this,Hb];exact⟨ha,Same.refl _⟩
 ·refine aO (by simp only[↓stU,aG,rE,↓reduceIte,Aa h1]) (aJ ?_);refine aj ?_;refine bK (aj ?_);refine aL (aj ?_);refine aF (aDG H ha hb hx hy) ?_;rintro _ S2 ⟨qv,rv,rfl,hq,hr,hS2⟩;refine eo @tU @tP ?_;refine bK (aj ?_);refine aK (aj ?_);exact⟨hq,hS2⟩
theorem rT{S:St}{neg:Bool}{n d:Nat}(H:Has fns)(hL:Laid S)(hn:0<n)(hd:0<d)(hn2:n<=18446744073709551615)(hd2:d<=18446744073709551615):eT fns (.fn 98 [] []) [.bool neg,.int .u64 (n:Int),.int .u64 (d:Int)] S fun r S'=>cE S' r (mkRat (sg neg n) d)/\Same S S':=by
 have hg:0<Nat.gcd n d:=Dx _ hn;have q1:=nO (.p .int) (t:=n) (d:=Nat.gcd n d) hn2 hg;have q2:=nO (.p .int) (t:=d) (d:=Nat.gcd n d) hd2 hg;refine bL H.f98 (by simp) ?_;refine aj ?_;refine bK ?_;refine cM ?_;intro S1 hS1 hn1 hb1;refine aj ?_;refine bK (aj ?_);refine aL (aj ?_);refine aF (sE H (hL.same hS1) hn2 hd2) ?_;rintro _ T ⟨rfl,hT⟩;rw[hT];try refine aj ?_
 refine aE (fJ (fun c=>c=S.nx) ?_);intro S2 hS2;refine cp q1 ?_;refine cF rfl ?_;refine ae ?_;refine aF (uQ H.f82 (by have:=Di n (Nat.gcd n d);omega)) ?_;rintro nv S3 ⟨hnv,hS3⟩;refine⟨hS3,?_⟩;refine cp q2 ?_;refine cF rfl ?_;refine ae ?_;refine aF (uQ H.f82 (by have:=Di d (Nat.gcd n d);omega)) ?_;rintro dv S4 ⟨hdv,hS4⟩;refine⟨hS4,?_⟩;refine du @gL @yF @kJ (eS hnv) (eS hdv) ?_;have hb4:S4.h.get S.nx=some (.cells [.bool false,.ce,.ce] false 0):=by
  have:=hS2.1;have:=hS3.1;rw[hS4.2 _ au,hS3.2 _ au,hS2.2 _ au];exact hb1
 refine pR (b:=S.nx) rfl (af) (by simp only[↓sU,sD,rE,↓reduceIte,rA,aS];rfl) hb4 rfl rfl rfl ?_;intro S5 hS5 hn5 hb5;refine ae ?_;refine aK (c9 @bR (mZ hb5) ?_);have⟨e1,e2,e3⟩:=lowest (neg:=neg) (n:=n) (d:=d) (g:=Nat.gcd n d) rfl au;rw[<-e1];refine⟨nR ((hnv.same hS4).st hb4 rfl hS5 hb5) (hdv.st hb4 rfl hS5 hb5) e3 e2 (fun h0=>?_),hS5.same (hS1.trans (hS2.trans (hS3.trans hS4))) (Af _)⟩;have:=Hd (Gt d hn) hg;omega
theorem aB0{l:bt}(h:oK l):l.length=0↔val l=0:=by rw[Cf,zA h]
theorem aKa{S:St}{neg:Bool}{a b:AV}{x y:Nat}(H:Has fns)(hL:Laid S)(ha:dG S a x)(hb:dG S b y)(hx:Fits x)(hy:Fits y)(hy0:0<y):eT fns (.fn 81 [] []) [.bool neg,a,b] S fun r S'=>cE S' r (mkRat (sg neg x) y)/\Same S S':=by
 have⟨l,ha1,hl,hlx⟩:=id ha;have⟨m,hb1,hm,hmy⟩:=id hb;refine bL H.f81 (by simp) ?_;refine aj ?_;refine bK ?_;refine cM ?_;intro S1 hS1 hn1 hbk1;refine aj ?_;have ha':=ha1.same hS1;have hb':=hb1.same hS1;have haN:=ha.same hS1;have hbN:=hb.same hS1;refine fA (ek ha'.len ?_);by_cases h0:l.length=0
 ·refine aP (by simp only[↓stU,aG,rE,↓reduceIte,Ac (show(l.length:Int)=0 by omega)]) ?_;refine bK ?_;refine aL (aj ?_);refine aF (uB H) ?_;rintro z S2 ⟨hz,hS2⟩;obtain⟨c1,c2,c3,rfl⟩:=hz.cells;have hb2:S2.h.get S.nx=some (.cells [.bool false,.ce,.ce] false 0):=by rw[hS2.2 _ au];exact hbk1
  refine dH (b:=S.nx) (ak) (by simp only[↓stU,aG,rE,↓reduceIte,aS];rfl) hb2 rfl rfl ?_;intro S3 hS3 hn3 hb3;refine aj ?_;refine aK (eo @bR (mZ hb3) ?_);have hx0:x=0:=by rw[<-hlx];exact(aB0 hl).1 h0
  have e:mkRat (sg neg x) y=0:=by subst hx0;cases neg<;>simp [sg]
  rw[e];exact⟨hz.st hb2 rfl hS3 hb3,hS3.same (hS1.trans hS2) (Af _)⟩
 have hxp:0<x:=by
  rcases An x with h | h
  ·exact absurd ((aB0 hl).2 au) h0
  ·exact h
 refine aO (by simp only[↓stU,aG,rE,↓reduceIte,Aa (show ¬ (l.length:Int)=0 by omega)]) (aJ ?_);refine aj ?_;refine aE (aE (bG (Q:=fun o A' S'=>o= .normal/\S'=S1/\A'.inr=false/\aB 0 A'.F= .bool neg/\aB 1 A'.F=a/\aB 2 A'.F=b/\aB 6 A'.F= .ptr S.nx 0/\aB 19 A'.F= .bool (decide (l.length<=2/\m.length<=2))) ?_ ?_))
 ·refine aM ?_;by_cases h1:l.length<=2
  ·have d1:decide ((l.length:Int)<=2)=true:=Ac au;by_cases h2:m.length<=2
   ·have d2:decide ((m.length:Int)<=2)=true:=Ac au;simp only[↓sU,sD,rE,↓reduceIte,rA,ha'.len,hb'.len,d1,d2];simp [h1,h2]
   ·have d2:decide ((m.length:Int)<=2)=false:=Aa au;simp only[↓sU,sD,rE,↓reduceIte,rA,ha'.len,hb'.len,d1,d2];simp [h2]
  ·have d1:decide ((l.length:Int)<=2)=false:=Aa au;simp only[↓sU,sD,rE,↓reduceIte,rA,ha'.len,d1];simp [h1]
 rintro o ⟨F,inr⟩ S' ⟨rfl,hS',q0,p0,p1,p2,p6,p19⟩;simp only at q0 p0 p1 p2 p6 p19;subst q0;rw[hS'];try refine ae ?_
 by_cases h12:l.length<=2/\m.length<=2
 ·refine aP (by simp only[↓sU,sD,rE,↓reduceIte,rA,p19,Ac h12]) ?_;refine bK (c9 p0 p1 ?_);refine aL (ae ?_);refine aF (pM H ha' hl h12.1) ?_;rintro _ T ⟨rfl,hT⟩;rw[hT];refine cp p2 ?_;refine aL (ae ?_);refine aF (pM H hb' hm h12.2) ?_;rintro _ T ⟨rfl,hT⟩;rw[hT];try refine ae ?_
  refine aL (c9 hlx hmy ?_);have k1:=oW hl.1 h12.1;have k2:=oW hm.1 h12.2;refine aF (rT H (hL.same hS1) hxp hy0 au au) ?_;rintro z S2 ⟨hz,hS2⟩;obtain⟨c1,c2,c3,rfl⟩:=hz.cells;have hb2:S2.h.get S.nx=some (.cells [.bool false,.ce,.ce] false 0):=by rw[hS2.2 _ au];exact hbk1
  refine dH (b:=S.nx) (ah p6) (by simp only[↓sU,sD,rE,↓reduceIte,rA,aS];rfl) hb2 rfl rfl ?_;intro S3 hS3 hn3 hb3;refine ae ?_;refine aK (dh @bR p6 (mZ hb3) ?_);exact⟨hz.st hb2 rfl hS3 hb3,hS3.same (hS1.trans hS2) (Af _)⟩
 refine aO (by simp only[↓sU,sD,rE,↓reduceIte,rA,p19,Aa h12]) (aJ ?_);refine ae ?_;have hg:0<Nat.gcd x y:=Dx _ hxp;refine bK (c9 p1 p2 ?_);refine aL (ae ?_);refine aF (uJ H (hL.same hS1) haN hbN hx hy) ?_;rintro gv S2 ⟨hgv,hS2⟩;try refine ae ?_
 refine bK (c9 p0 p1 ?_);refine aL (ae ?_);refine aF (kS H (haN.same hS2) hgv hx hg) ?_;rintro v1 S3 ⟨hv1,hS3⟩;try refine ae ?_
 refine aL (ae ?_);refine aF (oG H.f101 hv1 (hx.mono (Di ..))) ?_;rintro v2 S4 ⟨hv2,hS4⟩;refine cp p2 ?_;refine aL (ae ?_);have h24:=hS2.trans (hS3.trans hS4);refine aF (kS H (hbN.same h24) (hgv.same (hS3.trans hS4)) hy hg) ?_;rintro v3 S5 ⟨hv3,hS5⟩;try refine ae ?_
 refine aL (ae ?_);refine aF (oG H.f101 hv3 (hy.mono (Di ..))) ?_;rintro v4 S6 ⟨hv4,hS6⟩;refine dw @gL @yF p0 @kJ (eS hv2) (eS hv4) ?_;have h26:=h24.trans (hS5.trans hS6);have hb6:S6.h.get S.nx=some (.cells [.bool false,.ce,.ce] false 0):=by rw[h26.2 _ au];exact hbk1
 refine dH (b:=S.nx) (ah p6) (by simp only[↓sU,sD,rE,↓reduceIte,rA,aS];rfl) hb6 rfl rfl ?_;intro S7 hS7 hn7 hb7;refine ae ?_;refine aK (dh @bR p6 (mZ hb7) ?_);have⟨e1,e2,e3⟩:=lowest (neg:=neg) (n:=x) (d:=y) (g:=Nat.gcd x y) rfl au;rw[<-e1];refine⟨nR ((hv2.same (hS5.trans hS6)).st hb6 rfl hS7 hb7) (hv4.st hb6 rfl hS7 hb7) e3 e2 (fun h0=>?_),hS7.same (hS1.trans h26) (Af _)⟩;have:=Hd (Gt y hxp) hg;omega
theorem aLL{S:St}{s t:Bool}{a b:AV}{x y:Nat}(H:Has fns)(ha:dG S a x)(hb:dG S b y)(hx:Fits x)(hy:Fits y):eT fns (.fn 147 [] []) [.bool s,a,.bool t,b] S fun r S'=>∃u z n,r= .tup [.bool u,z]/\dG S' z n/\sg u n=sg s x+sg t y/\Same S S':=by
 have heq:∀p q:Bool,kA .eql (.p .bool) (.bool p) (.bool q)=some (.bool (p==q)):=by intro p q;cases p<;>cases q<;>rfl
 refine bL H.f147 (by simp) ?_;refine aj ?_;refine bK (aj ?_);refine fA (ek heq ?_);by_cases hst:s=t
 ·subst hst;refine aP (by simp only[↓stU,aG,rE,↓reduceIte,aS2]) ?_;refine bK (aj ?_);refine aL (aj ?_);refine aF (aOy H.f152 ha hb hx hy) ?_;rintro z S1 ⟨hz,hS1⟩;try refine aj ?_
  refine aK (aj ?_);refine⟨s,z,x+y,rfl,hz,?_,hS1⟩;cases s<;>simp [sg]<;>omega
 refine aO (by refine aj ?_;cases s<;>cases t<;>first | rfl | exact absurd rfl hst) (aJ ?_);refine aj ?_;refine fA (aj ?_);refine aL (aj ?_);refine aF (aEt H.f118 ha hb hx) ?_;rintro _ S1 ⟨rfl,hS1⟩;refine aj ?_;have hc:decide (0<=aER x y)=decide (y<=x):=by
  unfold aER;by_cases h1:x<y
  ·rw[if_pos h1];exact Fq.2 au
  ·rw[if_neg h1];by_cases h2:x=y
   ·rw[if_pos h2];exact Fq.2 au
   ·rw[if_neg h2];exact Fq.2 au
 by_cases hle:y<=x
 ·refine aP (by simp only[↓stU,aG,rE,↓reduceIte,hc,Ac hle]) ?_;refine bK (aj ?_);refine aL (aj ?_);refine aF (aHc H.f139 H.f153 (ha.same hS1) (hb.same hS1) hle hx) ?_;rintro z S2 ⟨hz,hS2⟩;try refine aj ?_
  refine aK (aj ?_);refine⟨s,z,x - y,rfl,hz,?_,hS1.trans hS2⟩;cases s<;>cases t<;>simp [sg]<;>first | omega | exact absurd rfl hst
 ·refine aO (by simp only[↓stU,aG,rE,↓reduceIte,hc,Aa hle]) (aJ ?_);refine aj ?_;refine bK (aj ?_);refine aL (aj ?_);refine aF (aHc H.f139 H.f153 (hb.same hS1) (ha.same hS1) au hy) ?_;rintro z S2 ⟨hz,hS2⟩;try refine aj ?_
  refine aK (aj ?_);refine⟨t,z,y - x,rfl,hz,?_,hS1.trans hS2⟩;cases s<;>cases t<;>simp [sg]<;>first | omega | exact absurd rfl hst
theorem aKj{q:Rat}(h:q.num≠0):mkRat (sg (decide (q.num<0)) q.den) q.num.natAbs=q⁻¹ :=by
 symm
 apply Rat.inv_eq_of_mul_eq_one;have hq:=Fd q
 conv=>lhs;lhs;rw[<-hq]
 rw[Rat.mkRat_mul_mkRat,show(1:Rat)=mkRat 1 1 from rfl,Rat.mkRat_eq_iff (Hg q.den_nz au) ay];by_cases hn:q.num<0
 ·simp only[hn,decide_true,sg,Cq,Bk];have:(q.num.natAbs:Int)= -q.num:=by omega
  rw[this];grind
 ·simp only[hn,decide_false,sg,Aw,Bx,Bk];have:(q.num.natAbs:Int)=q.num:=by omega
  rw[this];grind
theorem aGv{S:St}{v:AV}{q:Rat}(H:Has fns)(h:cE S v q)(hf:aFC q)(h0:q.num≠0):eT fns (.fn 106 [] []) [v] S fun r S'=>cE S' r q⁻¹ /\Same S S':=by
 obtain⟨nv,dv,rfl,h1,h2⟩:=h;refine bL H.f106 (by simp) ?_;refine aj ?_;refine bK ?_;refine cD (by simp only[↓stU,aG,rE,↓reduceIte,aS];rfl) ?_;intro S1 hS1 hn1 hb1;refine cM ?_;intro S2 hS2 hn2 hb2;refine aj ?_;have hb1':S2.h.get S.nx=some (.cells [.bool (decide (q.num<0)),nv,dv] false 0):=by rw[hS2.2 _ au];exact hb1
 have hS12:=hS1.trans hS2;have lt1:S.nx<S2.nx:=by omega
 have ne1:¬S.nx=S1.nx:=by omega
 refine aE (fJ (fun c=>c=S1.nx) ?_);intro S3 hS3;have hS13:=hS12.trans hS3;simp only[↓sU,sD,rE,↓reduceIte,rA,aD,aC,aX,oE hb1',iJ hb1',lt1,ne1,Am,fL h2];refine cF rfl ?_;refine ae ?_;refine aF (oG H.f101 (h2.same hS13) hf.2) ?_;rintro nv' S4 ⟨hn',hS4⟩;refine⟨hS4,?_⟩;refine dy @aD @aC @aX (gE hb1') lt1 ne1 @Am (fL h1) ?_;refine cF rfl ?_;refine ae ?_;refine aF (oG H.f101 (h1.same (hS13.trans hS4)) hf.1) ?_;rintro dv' S5 ⟨hd',hS5⟩;refine⟨hS5,?_⟩;refine du @gL @yF @kJ (eS hn') (eS hd') ?_;have hb5:S5.h.get S1.nx=some (.cells [.bool false,.ce,.ce] false 0):=by
  have:=hS3.1;have:=hS4.1;rw[hS5.2 _ au,hS4.2 _ au,hS3.2 _ au];exact hb2
 refine pR (b:=S1.nx) rfl (af) (by simp only[↓sU,sD,rE,↓reduceIte,rA,aS];rfl) hb5 rfl rfl rfl ?_;intro S6 hS6 hn6 hb6;refine ae ?_;refine aK (c9 @bR (mZ hb6) ?_);refine⟨?_,hS6.same (hS13.trans (hS4.trans hS5)) au⟩;rw[<-aKj h0];exact nR ((hn'.same hS5).st hb5 rfl hS6 hb6) (hd'.st hb5 rfl hS6 hb6) au (Nat.Coprime.symm q.reduced) (fun h=>absurd h q.den_nz)
theorem aBH{S:St}{v:AV}{n:Nat}(h:dG S v n):∃k:Nat,lB v=some (.int .i64 (k:Int))/\(k=0↔n=0):=by
 have⟨l,h1,h2,h3⟩:=h;exact⟨l.length,h1.len,by rw[<-h3];exact aB0 h2⟩
theorem uX(b:Bool):unV .not (.bool b)=some (.bool (!b)):=by cases b<;>rfl
theorem aBy{S:St}{s t:Bool}{a b c d:AV}{l1 l2 l3 l4:bt}(H:Has fns)(h1:cO S a l1)(h2:cO S b l2)(h3:cO S c l3)(h4:cO S d l4):
  eT fns (.fn 142 [] []) [.agg [.bool s,a,b],.agg [.bool t,c,d]] S fun r S'=>r= .bool (decide (l1.length=1/\l2.length=1/\l3.length=1/\l4.length=1))/\Same S S':=by
 refine bL H.f142 (by simp) ?_;refine aj ?_;refine bK ?_;refine cD (by simp only[↓stU,aG,rE,↓reduceIte,aS];rfl) ?_;intro S1 hS1 hn1 hb1;refine cD (by simp only[↓stU,aG,rE,↓reduceIte,aS];rfl) ?_;intro S2 hS2 hn2 hb2;refine aj ?_;have hb1':S2.h.get S.nx=some (.cells [.bool s,a,b] false 0):=by rw[hS2.2 _ au];exact hb1
 have hS12:=hS1.trans hS2;refine aE (bG (Q:=fun o A' S'=>o= .normal/\Same S S'/\aB 4 A'.F= .bool (decide (l1.length=1/\l2.length=1/\l3.length=1/\l4.length=1))) ?_ ?_)
 ·refine aM ?_;by_cases e1:l1.length=1
  ·have d1:decide ((l1.length:Int)=1)=true:=Ac au;by_cases e2:l2.length=1
   ·have d2:decide ((l2.length:Int)=1)=true:=Ac au;by_cases e3:l3.length=1
    ·have d3:decide ((l3.length:Int)=1)=true:=Ac au;by_cases e4:l4.length=1
     ·have d4:decide ((l4.length:Int)=1)=true:=Ac au;simp only[↓sU,sD,rE,↓reduceIte,rA,aD,aC,gE hb1',iJ hb1',gE hb2,iJ hb2,h1.len,h2.len,h3.len,h4.len,d1,d2,d3,d4];exact⟨hS12,by simp [e1,e2,e3,e4]⟩
     ·have d4:decide ((l4.length:Int)=1)=false:=Aa au;simp only[↓sU,sD,rE,↓reduceIte,rA,aD,aC,gE hb1',iJ hb1',gE hb2,iJ hb2,h1.len,h2.len,h3.len,h4.len,d1,d2,d3,d4];exact⟨hS12,by simp [e4]⟩
    ·have d3:decide ((l3.length:Int)=1)=false:=Aa au;simp only[↓sU,sD,rE,↓reduceIte,rA,aD,aC,gE hb1',iJ hb1',gE hb2,h1.len,h2.len,h3.len,d1,d2,d3];exact⟨hS12,by simp [e3]⟩
   ·have d2:decide ((l2.length:Int)=1)=false:=Aa au;refine dy @aD @aC (gE hb1') (iJ hb1') h1.len h2.len d1 d2 ?_;exact⟨hS12,by simp [e2]⟩
  ·have d1:decide ((l1.length:Int)=1)=false:=Aa au;refine du @aD @aC (gE hb1') h1.len d1 ?_;exact⟨hS12,by simp [e1]⟩
 ·rintro o ⟨F,inr⟩ S' ⟨rfl,hS,p4⟩;simp only at p4;refine aj ?_;refine aK (ek p4 ?_);exact hS
theorem tD{S:St}{v:AV}{x:Nat}(h:cO S v [x]):dJ (nQ v 0) false 1 S.h=some (.int .u32 ((x:Nat):Int)):=by
 have:=h.ld (i:=0) (by simp);simpa using this
theorem tF{S:St}{v:AV}{x:Nat}(h:cO S v [x]):dT (.slice 1) v 0=some (nQ v 0):=h.cq (i:=0) (by simp)
theorem aMA:dS (.int .i64 0)=some 0:=rfl
theorem aG0(p q:Bool):kA .eql (.p .bool) (.bool p) (.bool q)=some (.bool (p==q)):=by cases p<;>cases q<;>rfl
theorem aKM(p q:Bool):kA .neq (.p .bool) (.bool p) (.bool q)=some (.bool (p !=q)):=by cases p<;>cases q<;>rfl
theorem aPN{S:St}{v:AV}{x:Nat}{W:Nat->Prop}(h:cO S v [x])(hW:∀b,b<S.nx->¬W b){base:Nat}(hb:S.nx<=base):aM1 W base (nQ v 0):=by
 rcases h with⟨h0,_⟩ | ⟨b,off,cap,o,cs,rfl,hc,hlt,_⟩
 ·simp at h0
 ·exact⟨b,off+0 * 1,rfl,au,hW b hlt⟩
theorem aC2{S:St}{s t:Bool}{a b c d:AV}{x1 y1 x2 y2:Nat}(H:Has fns)(hL:Laid S)(h1:cO S a [x1])(h2:cO S b [y1])(h3:cO S c [x2])(h4:cO S d [y2])(b1:x1<B)(b2:y1<B)(b3:x2<B)(b4:y2<B)(z1:0<x1)(z2:0<y1)(z3:0<x2)(z4:0<y2):
  eT fns (.fn 146 [] []) [.agg [.bool s,a,b],.agg [.bool t,c,d]] S fun r S'=>cE S' r (mkRat (sg s x1) y1+mkRat (sg t x2) y2)/\Same S S':=by
 have hB:B=1000000000:=rfl;have m1:x1 * y2<=999999999 * 999999999:=Dw au au;have m2:x2 * y1<=999999999 * 999999999:=Dw au au;have m3:y1 * y2<=999999999 * 999999999:=Dw au au;have p1:0<x1 * y2:=Ew z1 z4;have p2:0<x2 * y1:=Ew z3 z2;have p3:0<y1 * y2:=Ew z2 z4;have w1:IntKind.u64.wrap (x1:Int)=(x1:Int):=wrap_u64 au au;have w2:IntKind.u64.wrap (y1:Int)=(y1:Int):=wrap_u64 au au;have w3:IntKind.u64.wrap (x2:Int)=(x2:Int):=wrap_u64 au au;have w4:IntKind.u64.wrap (y2:Int)=(y2:Int):=wrap_u64 au au;have w5:IntKind.u64.wrap ((x1:Int) * (y2:Int))=((x1 * y2:Nat):Int):=by rw[<-Bk];exact wrap_u64 au au
 have w6:IntKind.u64.wrap ((x2:Int) * (y1:Int))=((x2 * y1:Nat):Int):=by rw[<-Bk];exact wrap_u64 au au
 have w7:IntKind.u64.wrap ((y1:Int) * (y2:Int))=((y1 * y2:Nat):Int):=by rw[<-Bk];exact wrap_u64 au au
 have hsum:mkRat (sg s x1) y1+mkRat (sg t x2) y2=mkRat (sg s (x1 * y2)+sg t (x2 * y1)) (y1 * y2):=by
  rw[Rat.mkRat_add_mkRat _ _ au au];congr 1;cases s<;>cases t<;>simp [sg]<;>grind
 rw[hsum];obtain⟨x,hx⟩:∃x,x1 * y2=x:=⟨_,rfl⟩;obtain⟨y,hy⟩:∃y,x2 * y1=y:=⟨_,rfl⟩;obtain⟨z,hz⟩:∃z,y1 * y2=z:=⟨_,rfl⟩;rw[hx] at w5 p1 m1;rw[hy] at w6 p2 m2;rw[hz] at w7 p3 m3;rw[hx,hy,hz];refine bL H.f146 (by simp) ?_;refine aj ?_;refine bK ?_;refine cD (by simp only[↓stU,aG,rE,↓reduceIte,aS];rfl) ?_;intro S1 hS1 hn1 hb1;refine cD (by simp only[↓stU,aG,rE,↓reduceIte,aS];rfl) ?_;intro S2 hS2 hn2 hb2;refine cM ?_;intro S3 hS3 hn3 hb3;refine aj ?_;have g1:S3.h.get S.nx=some (.cells [.bool s,a,b] false 0):=by rw[hS3.2 _ au,hS2.2 _ au];exact hb1
 have g2:S3.h.get S1.nx=some (.cells [.bool t,c,d] false 0):=by rw[hS3.2 _ au];exact hb2
 have hS:=hS1.trans (hS2.trans hS3);have k1:=h1.same hS;have k2:=h2.same hS;have k3:=h3.same hS;have k4:=h4.same hS;refine aE (jK ?_);simp only[↓sU,sD,rE,↓reduceIte,rA,aD,aC,aX,gE g1,iJ g1,gE g2,iJ g2,jO k1,jO k2,jO k3,jO k4,aMA,tF k1,tF k2,tF k3,tF k4,tD k1,tD k2,tD k3,tD k4,w1,w2,w3,w4,w5,w6];refine aE (jK ?_);simp only[↓sU,sD,rE,↓reduceIte,rA,aD,aC,aX,iJ g1,iJ g2,jO k2,jO k4,aMA,tF k2,tF k4,tD k2,tD k4,w2,w4,w7];have go:∀ (S4:St),Same S3 S4->∀ (v:AV) (Q:Rat),cE S4 v Q->∃c0 c1 c2,v= .agg [c0,c1,c2]/\S4.h.get S2.nx=some (.cells [.bool false,.ce,.ce] false 0)/\∀S5,cB S2.nx S4 S5->S5.h.get S2.nx=some (.cells [c0,c1,c2] false 0)->cE S5 (.agg [c0,c1,c2]) Q/\Same S S5:=by
  intro S4 hS4 v Q hv;obtain⟨c0,c1,c2,rfl⟩:=hv.cells;have hb4:S4.h.get S2.nx=some (.cells [.bool false,.ce,.ce] false 0):=by rw[hS4.2 _ au];exact hb3
  exact⟨c0,c1,c2,rfl,hb4,fun S5 hS5 hb5=>⟨hv.st hb4 rfl hS5 hb5,hS5.same (hS.trans hS4) au⟩⟩
 obtain⟨T,hT⟩:∃T:St,T=⟨S3.h,S3.nx+24+12⟩:=⟨_,rfl⟩;have hST:Same S3 T:=by rw[hT];exact(Same.nx S3 24).trans (Same.nx _ 12)
 have gT1:T.h.get S.nx=some (.cells [.bool s,a,b] false 0):=by rw[hT];exact g1
 have gT2:T.h.get S1.nx=some (.cells [.bool t,c,d] false 0):=by rw[hT];exact g2
 rw[<-hT];clear hT;have hLT:=hL.same (hS.trans hST);refine fA (du @aD @aC (oE gT1) (oE gT2) @aG0 ?_);by_cases hst:s=t
 ·subst hst;have w8:IntKind.u64.wrap ((x:Int)+(y:Int))=((x+y:Nat):Int):=by rw[wrap_u64 au au];omega
  refine aP (by simp only[↓sU,sD,rE,↓reduceIte,rA,aS2]) ?_;refine bK (di @aD @aC (oE gT1) w8 ?_);refine aL (ae ?_);refine aF (rT H hLT au p3 au au) ?_;rintro v S4 ⟨hv,hS4⟩;obtain⟨c0,c1,c2,rfl,hb4,fin⟩:=go S4 (hST.trans hS4) v _ hv;refine dH (b:=S2.nx) (af) (by simp only[↓sU,sD,rE,↓reduceIte,rA,aS];rfl) hb4 rfl rfl ?_;intro S5 hS5 hn5 hb5;refine ae ?_;refine aK (c9 @bR (mZ hb5) ?_);have e:sg s x+sg s y=sg s (x+y):=by cases s<;>simp [sg]<;>omega
  rw[e];exact fin S5 hS5 hb5
 have hne:(s==t)=false:=by cases s<;>cases t<;>first | rfl | exact absurd rfl hst
 refine aO (ah hne) (aJ ?_);refine ae ?_;refine fA (ae ?_);by_cases hxy:x=y
 ·refine aP (by simp only[↓sU,sD,rE,↓reduceIte,rA,Ac (show(x:Int)=(y:Int) by omega)]) ?_;refine bK ?_;refine aL (ae ?_);refine aF (uB H) ?_;rintro v S4 ⟨hv,hS4⟩;obtain⟨c0,c1,c2,rfl,hb4,fin⟩:=go S4 (hST.trans hS4) v _ hv;refine dH (b:=S2.nx) (af) (by simp only[↓sU,sD,rE,↓reduceIte,rA,aS];rfl) hb4 rfl rfl ?_;intro S5 hS5 hn5 hb5;refine ae ?_;refine aK (c9 @bR (mZ hb5) ?_);have e:sg s x+sg t y=0:=by subst hxy;cases s<;>cases t<;>simp [sg]<;>first | omega | exact absurd rfl hst
  rw[e,Rat.zero_mkRat];exact fin S5 hS5 hb5
 refine aO (by simp only[↓sU,sD,rE,↓reduceIte,rA,Aa (show ¬ (x:Int)=(y:Int) by omega)]) (aJ ?_);refine ae ?_;refine fA (ae ?_);by_cases hgt:y<x
 ·have w8:IntKind.u64.wrap ((x:Int) - (y:Int))=((x - y:Nat):Int):=by rw[wrap_u64 au au];omega
  refine aP (by simp only[↓sU,sD,rE,↓reduceIte,rA,Ac (show(y:Int)<(x:Int) by omega)]) ?_;refine bK (di @aD @aC (oE gT1) w8 ?_);refine aL (ae ?_);refine aF (rT H hLT au p3 au au) ?_;rintro v S4 ⟨hv,hS4⟩;obtain⟨c0,c1,c2,rfl,hb4,fin⟩:=go S4 (hST.trans hS4) v _ hv;refine dH (b:=S2.nx) (af) (by simp only[↓sU,sD,rE,↓reduceIte,rA,aS];rfl) hb4 rfl rfl ?_;intro S5 hS5 hn5 hb5;refine ae ?_;refine aK (c9 @bR (mZ hb5) ?_);have e:sg s x+sg t y=sg s (x - y):=by cases s<;>cases t<;>simp [sg]<;>first | omega | exact absurd rfl hst
  rw[e];exact fin S5 hS5 hb5
 have w8:IntKind.u64.wrap ((y:Int) - (x:Int))=((y - x:Nat):Int):=by rw[wrap_u64 au au];omega
 refine aO (by simp only[↓sU,sD,rE,↓reduceIte,rA,Aa (show ¬ (y:Int)<(x:Int) by omega)]) (aJ ?_);refine ae ?_;refine bK (di @aD @aC (oE gT2) w8 ?_);refine aL (ae ?_);refine aF (rT H hLT au p3 au au) ?_;rintro v S4 ⟨hv,hS4⟩;obtain⟨c0,c1,c2,rfl,hb4,fin⟩:=go S4 (hST.trans hS4) v _ hv;refine dH (b:=S2.nx) (af) (by simp only[↓sU,sD,rE,↓reduceIte,rA,aS];rfl) hb4 rfl rfl ?_;intro S5 hS5 hn5 hb5;refine ae ?_;refine aK (c9 @bR (mZ hb5) ?_);have e:sg s x+sg t y=sg t (y - x):=by cases s<;>cases t<;>simp [sg]<;>first | omega | exact absurd rfl hst
 rw[e];exact fin S5 hS5 hb5
end Go.Ev.Gl
