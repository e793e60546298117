import Derived.Test.YtiiplmagnlcpbaaGreatDoorGl1
set_option linter.unusedSimpArgs false
set_option linter.unusedVariables false
open Nat renaming reduceEqDiff -> rE, reduceAdd -> rA
set_option maxHeartbeats 0
namespace Go.Ev.Gl
variable {fns:T cM}
def nL(last:Option Nat)(m:Nat):Bool:=
 match last with
 | none=>true
 | some i=>Nat.testBit m i
def aLs(W:Nat->Prop)(base:Nat)(v:AV):Prop:=∃b off,v= .ptr b off/\b<base/\¬W b
def aHD(W:Nat->Prop)(base:Nat)(q:QOp)(F:Fr):Prop:=(∃agg n x,q= .ld agg n x/\aLs W base (x.val F))\/∃sk z ok m k b,q= .lookup sk z ok m k/\m.val F= .map b/\b<base/\¬W b
def aKa(W:Nat->Prop)(base:Nat)(S S':St):Prop:=S.nx<=S'.nx/\∀b,b<base->¬W b->S'.h.get b=S.h.get b
def iD(fns:T cM)(W:Nat->Prop)(h0:T AB)(base:Nat):List AO->Nat->Fr->St->List kQ->Option Nat->(Fr->St->List kQ->Prop)->Prop
 | [],_,F,S,ps,_,Q=>Q F S ps
 | ⟨d,op,g,m⟩::l,i,F,S,ps,last,Q=>
  if fI g F=true then
   match op with
   | .q q=>lM (jK q F (bM (dU q) h0 S.h)) fun v=>(dU q=true->cC v v=true/\aHD W base q F)/\iD fns W h0 base l (i+1) (cB d F v) S ps last Q
   | .a a=>lM (vC a F (base+i)) fun r=>iD fns W h0 base l (i+1) (cB d F r.1) S (⟨i,base+i,r.2⟩::ps) last Q
   | .x (.call f args)=>nL last m=true/\eR fns (f.val F) (cO args F) ⟨(cA m ps S.h).2,S.nx⟩ fun v S1=>(Same ⟨(cA m ps S.h).2,S.nx⟩ S1\/aKa W base ⟨(cA m ps S.h).2,S.nx⟩ S1)/\iD fns W h0 base l (i+1) (cB d F v) S1 (cA m ps S.h).1 (some i) Q
   | .x (.inv tbl r args)=>nL last m=true/\∃t f u,r.val F= .iface t u/\wU t tbl=some (f,none)/\eR fns (.fn f [u] []) (cO args F) ⟨(cA m ps S.h).2,S.nx⟩ fun v S1=>Same ⟨(cA m ps S.h).2,S.nx⟩ S1/\iD fns W h0 base l (i+1) (cB d F v) S1 (cA m ps S.h).1 (some i) Q
   | .x x=>nL last m=true/\∃v S1,(∀call,xX x call F ⟨(cA m ps S.h).2,S.nx⟩=some (v,S1))/\aKa W base ⟨(cA m ps S.h).2,S.nx⟩ S1/\iD fns W h0 base l (i+1) (cB d F v) S1 (cA m ps S.h).1 (some i) Q
  else iD fns W h0 base l (i+1) (cB d F .undef) S ps last Q
structure DOk(W:Nat->Prop)(h0:T AB)(base:Nat)(D:DS):Prop where
 cur:∀b,b<base->¬W b->D.S.h.get b=h0.get b
 nx:base<=D.S.nx
 chain:∀e∈D.hs,∀b,b<base->¬W b->e.2.2.get b=h0.get b
 lds:∀l∈D.ls,cC l.v l.v=true/\aHD W base l.q l.F/\jK l.q l.F h0=some l.v
 pend:∀p∈D.ps,base<=p.id
theorem aHD.ev{W:Nat->Prop}{base:Nat}{q:QOp}{F:Fr}(h:aHD W base q F){h0 h1:T AB}(hh:∀b,b<base->¬W b->h1.get b=h0.get b):jK q F h1=jK q F h0:=by
 rcases h with⟨agg,n,x,rfl,b,off,hx,hb,hw⟩ | ⟨sk,z,ok,m,k,b,rfl,hx,hb,hw⟩
 ·rw[gI,gI,hx];have e:bU h1 b=bU h0 b:=by unfold bU;rw[hh b hb hw]
  simp only[cT,iO,oH,jE,e]
 ·show(aU (tC h1 (m.val F)) fun es=>_)=aU (tC h0 (m.val F)) fun es=>_;rw[hx];show(aU (aU (h1.get b) yN) fun es=>_)=aU (aU (h0.get b) yN) fun es=>_;rw[hh b hb hw]
theorem aA5{base b:Nat}(hb:b<base){m:Nat}:∀ {ps:List kQ} {h:T AB},(∀p∈ps,base<=p.id)->(cA m ps h).2.get b=h.get b
 | [],h,_=>rfl
 | p::ps,h,hp=>by
  have h1:=hp p (by simp);have h2:∀q∈ps,base<=q.id:=fun q hq=>hp q (by simp [hq]);unfold cA;cases Nat.testBit m p.i with
  | true=>rw[aP,aA5 hb h2,dr,if_neg au]
  | false=>rw[aS];exact aA5 hb h2
theorem aA3{base:Nat}{m:Nat}:∀ {ps:List kQ} {h:T AB},(∀p∈ps,base<=p.id)->∀p∈(cA m ps h).1,base<=p.id
 | [],h,_,p,hp=>by cases hp
 | p::ps,h,hq,r,hr=>by
  have h2:∀q∈ps,base<=q.id:=fun q hx=>hq q (by simp [hx]);unfold cA at hr;cases ht:Nat.testBit m p.i with
  | true=>rw[ht,aP] at hr;exact aA3 h2 r hr
  | false=>
   rw[ht,aS] at hr;rcases Br.1 hr with rfl | hr
   ·exact hq r (by simp)
   ·exact aA3 h2 r hr
theorem aEW{W:Nat->Prop}{h0:T AB}{base:Nat}{l:mW}(h:cC l.v l.v=true/\aHD W base l.q l.F/\jK l.q l.F h0=some l.v):∀ {hs:List (Nat×Nat×T AB)} {h1:T AB},(∀e∈hs,∀b,b<base->¬W b->e.2.2.get b=h0.get b)->(∀b,b<base->¬W b->h1.get b=h0.get b)->fN l hs h1=true
 | [],h1,_,hh=>by
  show rF l.v (jK l.q l.F h1)=true;rw[h.2.1.ev hh,h.2.2];exact h.1
 | (i,m,h')::r,h1,hs,hh=>by
  have e1:rF l.v (jK l.q l.F h1)=true:=by rw[h.2.1.ev hh,h.2.2];exact h.1
  have e2:fN l r h'=true:=aEW h (fun e he=>hs e (by simp [he])) (hs (i,m,h') (by simp));unfold fN;rw[e1,e2];cases Nat.testBit l.mask i<;>cases Nat.testBit m l.i<;>rfl
theorem tX{h0:T AB}{hs:List (Nat×Nat×T AB)}:∀ {ls:List mW},(∀l∈ls,fN l hs h0=true)->gM h0 hs ls=true
 | [],_=>rfl
 | l::ls,h=>by rw[mV,h l (by simp),aP];exact tX fun l' hl=>h l' (by simp [hl])
theorem aNw{d:Option Nat}{tbl:List (Nat×Nat×Option (Bool×Nat))}{recv:cL}{args:List cL}{m i base:Nat}{l:List AO}{D:DS}{Q:DS->Prop}{t f:Nat}{u:AV}(hr:recv.val D.F= .iface t u)(hf:wU t tbl=some (f,none))(h:wpd fns (⟨d,.x (.call (.c (.fn f [u] [])) args),none,m⟩::l) i base D Q):wpd fns (⟨d,.x (.inv tbl recv args),none,m⟩::l) i base D Q:=by
 have⟨n,D',e1,e2⟩:=h;refine⟨n,D',?_,e2⟩;have e:rT ⟨d,.x (.inv tbl recv args),none,m⟩ i base (ev fns n).call D=rT ⟨d,.x (.call (.c (.fn f [u] [])) args),none,m⟩ i base (ev fns n).call D:=by
  show bM (jB D.hs m) (aU (xX (.inv tbl recv args) (ev fns n).call D.F ⟨(cA m D.ps D.S.h).2,D.S.nx⟩) _) none=bM (jB D.hs m) (aU (xX (.call (.c (.fn f [u] [])) args) (ev fns n).call D.F ⟨(cA m D.ps D.S.h).2,D.S.nx⟩) _) none;rw[aNf hr hf]
 show aU (rT ⟨d,.x (.inv tbl recv args),none,m⟩ i base (ev fns n).call D) _=_;rw[e];exact e1
theorem mO{W:Nat->Prop}{h0:T AB}{base:Nat}{Q:Fr->St->List kQ->Prop}:∀ {ops:List AO} {i:Nat} {D:DS} {last:Option Nat},DOk W h0 base D->D.hs.head?.map (·.1)=last->iD fns W h0 base ops i D.F D.S D.ps last Q->
  wpd fns ops i base D fun D'=>Q D'.F D'.S D'.ps/\DOk W h0 base D'
 | [],i,D,last,hD,_,hr=>by rw[mT];exact⟨hr,hD⟩
 | ⟨d,op,g,m⟩::l,i,D,last,hD,hlast,hr=>by
  have hlk:nL last m=true->jB D.hs m=true:=fun h=>by
   subst hlast;cases hh:D.hs with
   | nil=>rfl
   | cons e r=>rw[hh] at h;exact h
  unfold iD at hr;by_cases hw:fI g D.F=true
  ·rw[if_pos hw] at hr;have lift:wpd fns (⟨d,op,none,m⟩::l) i base D (fun D'=>Q D'.F D'.S D'.ps/\DOk W h0 base D')->wpd fns (⟨d,op,g,m⟩::l) i base D (fun D'=>Q D'.F D'.S D'.ps/\DOk W h0 base D'):=by
    rintro⟨n,D',e1,e2⟩;refine⟨n,D',?_,e2⟩;have:rT ⟨d,op,g,m⟩ i base (ev fns n).call D=rT ⟨d,op,none,m⟩ i base (ev fns n).call D:=by
     show bM (fI g D.F) _ _=bM true _ _;rw[hw];cases op<;>rfl
    show aU (rT ⟨d,op,g,m⟩ i base (ev fns n).call D) _=_;rw[this];exact e1
   apply lift;cases op with
   | q q=>
    have⟨v,hv,hs,hr⟩:=hr;rw[pP];cases hq:dU q with
    | false=>
     rw[hq,aS] at hv;refine⟨v,hv,?_⟩;simp only[aS];exact mO (D:=⟨cB d D.F v,D.S,D.ps,D.hs,D.ls⟩) ⟨hD.cur,hD.nx,hD.chain,hD.lds,hD.pend⟩ hlast hr
    | true=>
     rw[hq,aP] at hv;have⟨hs1,hs2⟩:=hs hq;refine⟨v,by rw[hs2.ev hD.cur];exact hv,?_⟩;simp only[aP];refine mO (D:=⟨cB d D.F v,D.S,D.ps,D.hs,⟨q,D.F,v,i,m⟩::D.ls⟩) ⟨hD.cur,hD.nx,hD.chain,fun l' hl=>?_,hD.pend⟩ hlast hr;rcases Br.1 hl with rfl | hl
     ·exact⟨hs1,hs2,hv⟩
     ·exact hD.lds l' hl
   | a a=>
    have⟨r,hv,hr⟩:=hr;rw[aI3];refine⟨r,hv,mO (D:=⟨cB d D.F r.1,D.S,⟨i,base+i,r.2⟩::D.ps,D.hs,D.ls⟩) ⟨hD.cur,hD.nx,hD.chain,hD.lds,fun p hp=>?_⟩ hlast hr⟩;rcases Br.1 hp with rfl | hp
    ·exact Nat.le_add_right _ _
    ·exact hD.pend p hp
   | x x=>
    have next:∀ (v:AV) (S1:St),aKa W base ⟨(cA m D.ps D.S.h).2,D.S.nx⟩ S1->DOk W h0 base ⟨cB d D.F v,S1,(cA m D.ps D.S.h).1,(i,m,S1.h)::D.hs,D.ls⟩:=fun v S1 hS=>by
     have hc:∀b,b<base->¬W b->S1.h.get b=h0.get b:=fun b hb hw=>by
      rw[hS.2 b hb hw];show(cA m D.ps D.S.h).2.get b=_;rw[aA5 hb hD.pend];exact hD.cur b hb hw
     refine⟨hc,Bd hD.nx hS.1,fun e he=>?_,hD.lds,aA3 hD.pend⟩;rcases Br.1 he with rfl | he
     ·exact hc
     ·exact hD.chain e he
    have other:(∀f args,x≠ .call f args)->(∀tbl r args,x≠ .inv tbl r args)->(nL last m=true/\∃v S1,(∀call,xX x call D.F ⟨(cA m D.ps D.S.h).2,D.S.nx⟩=some (v,S1))/\aKa W base ⟨(cA m D.ps D.S.h).2,D.S.nx⟩ S1/\iD fns W h0 base l (i+1) (cB d D.F v) S1 (cA m D.ps D.S.h).1 (some i) Q)->wpd fns (⟨d,.x x,none,m⟩::l) i base D (fun D'=>Q D'.F D'.S D'.ps/\DOk W h0 base D'):=by
     rintro _ _ ⟨h1,v,S1,h2,h3,h4⟩;exact sT (hlk h1) h2 (mO (D:=⟨cB d D.F v,S1,(cA m D.ps D.S.h).1,(i,m,S1.h)::D.hs,D.ls⟩) (next v S1 h3) rfl h4)
    cases x with
    | call f args=>
     have⟨h1,n,v,S1,h2,h3,h4⟩:=hr;refine aCK (hlk h1) ⟨n,v,S1,h2,?_⟩;exact mO (D:=⟨cB d D.F v,S1,(cA m D.ps D.S.h).1,(i,m,S1.h)::D.hs,D.ls⟩) (next v S1 (h3.elim (fun h3=>⟨h3.1,fun b hb _=>h3.2 b (Ag hb hD.nx)⟩) id)) rfl h4
    | inv tbl r args=>
     have⟨h1,t,f,u,hu,hf,n,v,S1,h2,h3,h4⟩:=hr;refine aNw hu hf (aCK (hlk h1) ⟨n,v,S1,h2,?_⟩);exact mO (D:=⟨cB d D.F v,S1,(cA m D.ps D.S.h).1,(i,m,S1.h)::D.hs,D.ls⟩) (next v S1 ⟨h3.1,fun b hb _=>h3.2 b (Ag hb hD.nx)⟩) rfl h4
    | _=>exact other (fun _ _ h=>by cases h) (fun _ _ _ h=>by cases h) hr
  ·rw[if_neg hw] at hr;have⟨n,D',e1,e2⟩:=mO (i:=i+1) (D:=⟨cB d D.F .undef,D.S,D.ps,D.hs,D.ls⟩) (last:=last) ⟨hD.cur,hD.nx,hD.chain,hD.lds,hD.pend⟩ hlast hr;refine⟨n,D',?_,e2⟩;have:rT ⟨d,op,g,m⟩ i base (ev fns n).call D=some ⟨cB d D.F .undef,D.S,D.ps,D.hs,D.ls⟩:=by
    show bM (fI g D.F) _ _=_;rw[show fI g D.F=false by simpa using hw];rfl
   show aU (rT ⟨d,op,g,m⟩ i base (ev fns n).call D) _=_;rw[this];exact e1
theorem aCn(W:Nat->Prop){ops:List AO}{A:bK}{S:St}{Q:Out->bK->St->Prop}(h:iD fns W S.h S.nx ops 0 A.F ⟨S.h,S.nx+ops.length⟩ [] none fun F S' ps=>Q .normal ⟨F,A.inr⟩ ⟨(cA (2 ^ ops.length - 1) ps S'.h).2,S'.nx⟩):oD fns (.drw ops) A S Q:=by
 refine rB ?_;have⟨n,D',e1,e2,e3⟩:=mO (fns:=fns) (i:=0) (D:=⟨A.F,⟨S.h,S.nx+ops.length⟩,[],[],[]⟩) (last:=none) ⟨fun _ _ _=>rfl,Nat.le_add_right _ _,fun e he=>(by cases he),fun l hl=>(by cases hl),fun p hp=>(by cases hp)⟩ rfl h;exact⟨n,D',e1,tX fun l hl=>aEW (e3.lds l hl) (fun e he=>e3.chain e (List.mem_reverse.1 he)) (fun _ _ _=>rfl),e2⟩
def aLL(fns:T cM)(W:Nat->Prop)(h0:T AB)(base:Nat)(x:Option AV)(ld:Bool)(old:Prop)(d:Option Nat)(l:List AO)(i:Nat)(F:Fr)(S:St)(ps:List kQ)(last:Option Nat)(Q:Fr->St->List kQ->Prop):Prop:=lM x fun v=>(ld=true->cC v v=true/\old)/\iD fns W h0 base l i (cB d F v) S ps last Q
def aJz(fns:T cM)(W:Nat->Prop)(h0:T AB)(base:Nat)(x:Option (AV×AB))(d:Option Nat)(l:List AO)(i:Nat)(F:Fr)(S:St)(ps:List kQ)(last:Option Nat)(Q:Fr->St->List kQ->Prop):Prop:=lM x fun r=>iD fns W h0 base l (i+1) (cB d F r.1) S (⟨i,base+i,r.2⟩::ps) last Q
section
variable {W:Nat->Prop}{h0:T AB}{base:Nat}{d:Option Nat}{m i:Nat}{l:List AO}{F:Fr}{S:St}{ps:List kQ}{last:Option Nat}{Q:Fr->St->List kQ->Prop}
theorem aHb:iD fns W h0 base [] i F S ps last Q↔Q F S ps:=Iff.rfl
theorem aL6{q:QOp}:iD fns W h0 base (⟨d,.q q,none,m⟩::l) i F S ps last Q↔aLL fns W h0 base (jK q F (bM (dU q) h0 S.h)) (dU q) (aHD W base q F) d l (i+1) F S ps last Q:=by
 rw[iD,if_pos (show fI none F=true from rfl)];rfl
theorem aD0{v:AV}{ld:Bool}{old:Prop}:aLL fns W h0 base (some v) ld old d l i F S ps last Q↔(ld=true->cC v v=true/\old)/\iD fns W h0 base l i (cB d F v) S ps last Q:=by unfold aLL;rw[bX]
theorem aML{a:vH}:iD fns W h0 base (⟨d,.a a,none,m⟩::l) i F S ps last Q↔aJz fns W h0 base (vC a F (base+i)) d l i F S ps last Q:=by
 rw[iD,if_pos (show fI none F=true from rfl)];rfl
theorem nI{r:AV×AB}:aJz fns W h0 base (some r) d l i F S ps last Q↔iD fns W h0 base l (i+1) (cB d F r.1) S (⟨i,base+i,r.2⟩::ps) last Q:=by unfold aJz;rw[bX]
theorem sQ{f:cL}{args:List cL}(h:nL last m=true)(hw:eR fns (f.val F) (cO args F) ⟨(cA m ps S.h).2,S.nx⟩ fun v S1=>Same ⟨(cA m ps S.h).2,S.nx⟩ S1/\iD fns W h0 base l (i+1) (cB d F v) S1 (cA m ps S.h).1 (some i) Q):iD fns W h0 base (⟨d,.x (.call f args),none,m⟩::l) i F S ps last Q:=by
 rw[iD,if_pos (show fI none F=true from rfl)];exact⟨h,aG hw fun v S1 h=>⟨.inl h.1,h.2⟩⟩
theorem aFt{n:Nat}{x v:cL}{S1:St}(h:nL last m=true)(he:aU (v.val F).cells (fun cs=>oT (x.val F) n cs ⟨(cA m ps S.h).2,S.nx⟩)=some (.undef,S1))(ho:aKa W base ⟨(cA m ps S.h).2,S.nx⟩ S1)(hr:iD fns W h0 base l (i+1) (cB d F .undef) S1 (cA m ps S.h).1 (some i) Q):iD fns W h0 base (⟨d,.x (.st n x v),none,m⟩::l) i F S ps last Q:=by
 unfold iD;rw[if_pos (show fI none F=true from rfl)];exact⟨h,_,S1,fun call=>he,ho,hr⟩
theorem aL4{op:AOp}{s:Nat}{b:Bool}:iD fns W h0 base (⟨d,op,some (s,b),m⟩::l) i F S ps last Q↔if isB (aD s F) b=true then iD fns W h0 base (⟨d,op,none,m⟩::l) i F S ps last Q else iD fns W h0 base l (i+1) (cB d F .undef) S ps last Q:=by
 conv=>lhs;unfold iD
 rw[show fI (some (s,b)) F=isB (aD s F) b from rfl];split
 ·conv=>rhs;unfold iD
  rw[if_pos (show fI none F=true from rfl)]
 ·rfl
theorem aJk{agg:Bool}{n:Nat}{x:cL}:aHD W base (.ld agg n x) F↔aLs W base (x.val F):=by
 constructor
 ·rintro(⟨_,_,_,h,h2⟩ | ⟨_,_,_,_,_,_,h,_⟩)
  ·cases h;exact h2
  ·cases h
 ·exact fun h=>.inl ⟨_,_,_,rfl,h⟩
theorem aGB{b off:Nat}:aLs W base (.ptr b off)↔b<base/\¬W b:=by
 constructor
 ·rintro⟨_,_,h,h2⟩;cases h;exact h2
 ·exact fun h=>⟨_,_,rfl,h⟩
end
abbrev stV:=And.intro @aHb (And.intro @aL6 (And.intro @aML (And.intro @aL4 (@sA))))
abbrev stW:=And.intro @aD0 (And.intro @nI (And.intro @aJk (And.intro @aGB (And.intro @cS (And.intro (@Ax AO) (And.intro (@Cd AO) (And.intro (@Ax AV) (And.intro (@Cd AV) (And.intro (@Ax Nat) (@Cd Nat))))))))))
abbrev sU:=And.intro stU stV
abbrev sD:=And.intro aB stW
theorem dh{p q r:Prop}(b:r)(a:q)(h:r->q->p:=by intro b a;simp only[↓sU,sD,Nat.reduceEqDiff,↓reduceIte,Nat.reduceAdd,b];exact a):p:=h b a
theorem dk{p q r s:Prop}(b:r)(c:s)(a:q)(h:r->s->q->p:=by intro b c a;simp only[↓sU,sD,Nat.reduceEqDiff,↓reduceIte,Nat.reduceAdd,b,c];exact a):p:=h b c a
theorem dm{p q r s t:Prop}(b:r)(c:s)(d:t)(a:q)(h:r->s->t->q->p:=by intro b c d a;simp only[↓sU,sD,Nat.reduceEqDiff,↓reduceIte,Nat.reduceAdd,b,c,d];exact a):p:=h b c d a
theorem du{p q r s t u:Prop}(b:r)(c:s)(d:t)(e:u)(a:q)(h:r->s->t->u->q->p:=by intro b c d e a;simp only[↓sU,sD,Nat.reduceEqDiff,↓reduceIte,Nat.reduceAdd,b,c,d,e];exact a):p:=h b c d e a
theorem dx{p q r s t u v:Prop}(b:r)(c:s)(d:t)(e:u)(f:v)(a:q)(h:r->s->t->u->v->q->p:=by intro b c d e f a;simp only[↓sU,sD,Nat.reduceEqDiff,↓reduceIte,Nat.reduceAdd,b,c,d,e,f];exact a):p:=h b c d e f a
theorem dy{p q r s t u v w:Prop}(b:r)(c:s)(d:t)(e:u)(f:v)(g:w)(a:q)(h:r->s->t->u->v->w->q->p:=by intro b c d e f g a;simp only[↓sU,sD,Nat.reduceEqDiff,↓reduceIte,Nat.reduceAdd,b,c,d,e,f,g];exact a):p:=h b c d e f g a
theorem dz{p q r s t u v w x:Prop}(b:r)(c:s)(d:t)(e:u)(f:v)(g:w)(i:x)(a:q)(h:r->s->t->u->v->w->x->q->p:=by intro b c d e f g i a;simp only[↓sU,sD,Nat.reduceEqDiff,↓reduceIte,Nat.reduceAdd,b,c,d,e,f,g,i];exact a):p:=h b c d e f g i a
theorem d7{p q r s t u v w x y:Prop}(b:r)(c:s)(d:t)(e:u)(f:v)(g:w)(i:x)(j:y)(a:q)(h:r->s->t->u->v->w->x->y->q->p:=by intro b c d e f g i j a;simp only[↓sU,sD,Nat.reduceEqDiff,↓reduceIte,Nat.reduceAdd,b,c,d,e,f,g,i,j];exact a):p:=h b c d e f g i j a
theorem ac{p q:Prop}(a:q)(h:q->p:=by intro a;simp only[↓sU,sD,Nat.reduceEqDiff,↓reduceIte,a]):p:=h a
theorem ae{p q:Prop}(a:q)(h:q->p:=by intro a;simp only[↓sU,sD,Nat.reduceEqDiff,↓reduceIte,Nat.reduceAdd];exact a):p:=h a
theorem af{p:Prop}(h:p:=by simp only[↓sU,sD,Nat.reduceEqDiff,↓reduceIte,Nat.reduceAdd]):p:=h
theorem ag{p:Prop}(h:p:=by simp only[↓sU,sD,Nat.reduceEqDiff,↓reduceIte,Nat.reduceAdd];try rfl):p:=h
theorem ah{p q:Prop}(a:q)(h:q->p:=by intro a;simp only[↓sU,sD,Nat.reduceEqDiff,↓reduceIte,Nat.reduceAdd,a]):p:=h a
theorem aBA(e:oZ){a b:Int}(hb:b≠0):kH .quo e (.int .i64 a) (.int .i64 b)=some (.int .i64 (IntKind.i64.wrap (a.tdiv b))):=by
 show cQ .quo .i64 a .i64 b=_;unfold cQ;rw[show eZ .quo=false from rfl,aS,fQ,aP];show aKd .i64 a b=_;unfold aKd;split
 ·rename_i m n;have h0:Nat.beq n 0=false:=by
   rw[Bx];intro h;rw[Av] at h;subst h;exact hb rfl
  rw[h0,aS,nat_eq];rfl
 ·have h0:ieq b (.ofNat 0)=false:=by
   rw[Bx];intro h;rw[mD] at h;exact hb (by simpa using h)
  rw[h0,aS,tB]
theorem kC(e:oZ){a b:Int}(ha:0<=a)(ha2:a<=9223372036854775807)(hb:0<b):kH .quo e (.int .i64 a) (.int .i64 b)=some (.int .i64 (a / b)):=by
 rw[aBA e au,Int.tdiv_eq_ediv_of_nonneg ha];rw[wrap_i64]
 ·have:=Int.ediv_nonneg ha (Int.le_of_lt hb);omega
 ·have:=Int.ediv_le_self b ha;omega
theorem aHc(a:Int):unV .neg (.int .i64 a)=some (.int .i64 (IntKind.i64.wrap (-a))):=by
 show some (AV.int .i64 (aEY .i64 (.ofNat 0) a))=_;rw[wA];congr 3;show(0:Int) - a= -a;omega
def mx(a b:Int):Int:=if b<=a then a else b
theorem aFM(l:List cL)(F:Fr)(h:T AB):jK (.dn true l) F h=lF true (cO l F):=rfl
theorem aFr(v:AV)(l:bo):lF true (v::l)=jQ true l v:=rfl
theorem aIz(v:AV):jQ true [] v=some v:=rfl
theorem aIO(a b:Int)(l:bo):jQ true (.int .i64 b::l) (.int .i64 a)=jQ true l (.int .i64 (mx a b)):=by
 show bM (keq .i64 .i64) (jQ true l (.int .i64 (bM true (bM (ile b a) a b) _))) none=_;rw[fQ,aP,aP];congr 2;unfold mx;rw[qB];by_cases h:b<=a
 ·rw[if_pos h,Ab h];rfl
 ·rw[if_neg h,Aa h];rfl
theorem aLx{a b c:Int}:mx a b<c↔a<c/\b<c:=by unfold mx;split<;>omega
def aPq(S:St)(a b P E:Int)(k:Nat)(A:bK)(S':St):Prop:=
 A.inr=false/\S'=S/\∃p e w x y z,aD 0 A.F= .int .i64 p/\aD 1 A.F= .int .i64 e/\aD 4 A.F= .int .i64 w/\aD 5 A.F= .int .i64 x/\aD 6 A.F= .int .i64 y/\aD 7 A.F= .int .i64 z/\Leh a b P E p e w x y z/\(k:Int)=y * a+z * b
theorem aH1{S:St}{a b P E f g tens d:Int}(H:Has fns)(hb0:0<=b)(hE:0<=E)(hEP:E<=P)(hP:P<1000000000000000000)(hab:b<=a)(ht:0<tens)(hf:0<=f)(hfd:f<d)(hg:0<=g)(hgd:g<d)(ha:tens * a=P * d+f)(hb:tens * b=E * d+g):
  eR fns (.fn 119 [] []) [.int .i64 P,.int .i64 E] S fun r S'=>S'=S/\∃p e w x y z,r= .tup [.int .i64 w,.int .i64 x,.int .i64 y,.int .i64 z]/\Leh a b P E p e w x y z:=by
 refine bE H.f119 (by simp) ?_;refine aj ?_;refine aY (aj ?_);refine aY (aj ?_);have⟨bn,hbn⟩:=Es hb0;refine aC (aX (Q:=fun o A' S'=>o= .normal/\A'.inr=false/\S'=S/\∃p e w x y z,aD 4 A'.F= .int .i64 w/\aD 5 A'.F= .int .i64 x/\aD 6 A'.F= .int .i64 y/\aD 7 A'.F= .int .i64 z/\Leh a b P E p e w x y z) ?_ ?_)
 ·refine aO (bJ (aPq S a b P E) ?_ bn _ _ ⟨rfl,rfl,P,E,1,0,0,1,ak,ak,ak,ak,ak,ak,Leh.start hb0 hE hEP hP,au⟩);rintro k ⟨F,inr⟩ S' ⟨q0,hS',p,e,w,x,y,z,p0,p1,p4,p5,p6,p7,hL,hk⟩;simp only at q0 p0 p1 p4 p5 p6 p7;subst q0;rw[hS'];have hey:=hL.ey;have hez:=hL.ez;have hpw:=hL.pw;have hpx:=hL.px;have hsz:=hL.size;have we:IntKind.i64.wrap (e+y)=e+y:=wrap_i64 au au;have wz:IntKind.i64.wrap (e+z)=e+z:=wrap_i64 au au;have wpw:IntKind.i64.wrap (p+w)=p+w:=wrap_i64 au au;have wpx:IntKind.i64.wrap (p+x)=p+x:=wrap_i64 au au;have out:∀ (F':Fr),aD 4 F'= .int .i64 w->aD 5 F'= .int .i64 x->aD 6 F'= .int .i64 y->aD 7 F'= .int .i64 z->(∃p e w x y z,aD 4 F'= .int .i64 w/\aD 5 F'= .int .i64 x/\aD 6 F'= .int .i64 y/\aD 7 F'= .int .i64 z/\Leh a b P E p e w x y z):=fun F' h1 h2 h3 h4=>⟨p,e,w,x,y,z,h1,h2,h3,h4,hL⟩;refine dS ?_;by_cases h1:e+y=0
  ·have d1:decide (e+y≠0)=false:=Aa au;refine ew p1 p6 we d1 ?_;refine aM (ak) (bD ?_);refine aj ?_;exact out F p4 p5 p6 p7
  have d1:decide (e+y≠0)=true:=Ab h1;by_cases h2:e+z=0
  ·have d2:decide (e+z≠0)=false:=Aa au;refine fa p1 p6 p7 we wz d1 d2 ?_;refine aM (ak) (bD ?_);refine aj ?_;exact out F p4 p5 p6 p7
  have d2:decide (e+z≠0)=true:=Ab h2;refine fa p1 p6 p7 we wz d1 d2 ?_;refine aN (ak) (aH ?_);refine aj ?_;have q1:=kC (.p .int) (a:=p+w) (b:=e+y) hpw.1 au au;have q2:=kC (.p .int) (a:=p+x) (b:=e+z) hpx.1 au au;obtain⟨q,hq⟩:∃q,q=(p+w) / (e+y):=⟨_,rfl⟩;rw[<-hq] at q1;refine aO (aC (aJ ?_));refine fa p0 p1 p4 p6 we wpw q1 ?_;refine dS (fa p0 p1 p5 p7 wz wpx q2 ?_);by_cases h3:q=(p+x) / (e+z)
  ·have d3:decide (q≠(p+x) / (e+z))=false:=Aa (by simp [h3]);refine aM (am d3) (aH ?_);refine aj ?_;have⟨⟨m1,m2,m3,m4,m5,m6⟩,hstep⟩:=hL.step hab ht hf hfd hg hgd ha hb h1 h2 hq h3;have w1:IntKind.i64.wrap (q * y)=q * y:=wrap_i64 au au;have w2:IntKind.i64.wrap (q * z)=q * z:=wrap_i64 au au;have w3:IntKind.i64.wrap (w - q * y)=w - q * y:=wrap_i64 au au;have w4:IntKind.i64.wrap (x - q * z)=x - q * z:=wrap_i64 au au;have w5:IntKind.i64.wrap (-(w - q * y))= -(w - q * y):=wrap_i64 au au;have w6:IntKind.i64.wrap (-(x - q * z))= -(x - q * z):=wrap_i64 au au;have w7:IntKind.i64.wrap (q * e)=q * e:=wrap_i64 au au;have hpp:0<=p/\p<=1000000000000000000:=by rcases hL.signs with h | h<;>omega
   have w8:IntKind.i64.wrap (p - q * e)=p - q * e:=wrap_i64 au au;refine aY ?_;simp only[↓stU,aB,rE,↓reduceIte,p4,p5,p6,p7,w1,w2,w3,w4];refine dS (fa @aHc w5 w6 @aFM @aFr @aIO @aIz ?_);by_cases h4:mx (mx (mx (w - q * y) (-(w - q * y))) (x - q * z)) (-(x - q * z))<1000000000
   ·have d4:decide ((1000000000:Int)<=mx (mx (mx (w - q * y) (-(w - q * y))) (x - q * z)) (-(x - q * z)))=false:=Aa au;refine aM (am d4) (aH ?_);refine aj ?_;rw[aLx,aLx,aLx] at h4;have⟨hL',hlt⟩:=hstep au au au au;refine aY (er p6 p7 ?_);refine aJ (ew p0 p1 w7 w8 ?_);have hlow:=hL'.low;have⟨k',hk'⟩:=Es hlow;refine⟨k',au,rfl,rfl,e,p - q * e,y,z,w - q * y,x - q * z,ak,ak,ak,ak,ak,ak,hL',au⟩
   ·have d4:decide ((1000000000:Int)<=mx (mx (mx (w - q * y) (-(w - q * y))) (x - q * z)) (-(x - q * z)))=true:=Ab au;refine aN (am d4) (bD ?_);refine aj ?_;exact out F p4 p5 p6 p7
  ·have d3:decide (q≠(p+x) / (e+z))=true:=Ab h3;refine aN (am d3) (bD ?_);refine aj ?_;exact out F p4 p5 p6 p7
 ·rintro o ⟨F,inr⟩ S' ⟨rfl,q0,hS',p,e,w,x,y,z,p4,p5,p6,p7,hL⟩;simp only at q0 p4 p5 p6 p7;subst q0;refine aj ?_;refine aY (ew p4 p5 p6 p7 ?_);refine aI (aj ?_);exact⟨hS',p,e,w,x,y,z,rfl,hL⟩
theorem aLy{vd x va y vb c b ai bi w c' t:Int}(hinv:vd+c * b=x * va+y * vb)(ht:t=x * ai+c+y * bi)(hw:w+c' * 1000000000=t):(vd+b * w)+c' * (b * 1000000000)=x * (va+b * ai)+y * (vb+b * bi):=by
 have e:b * (w+c' * 1000000000)=b * (x * ai+c+y * bi):=by rw[hw,ht]
 grind
theorem aQ0(t:Int):t.tdiv 1000000000=t / 1000000000\/t.tdiv 1000000000=t / 1000000000+1/\t % 1000000000≠0:=by
 rw[Int.tdiv_eq_ediv];by_cases h:0<=t\/(1000000000:Int) ∣ t
 ·rw[if_pos h];exact .inl au
 ·rw[if_neg h];refine .inr ⟨rfl,fun h2=>h (.inr (Int.dvd_of_emod_eq_zero h2))⟩
def aQS(S:St)(a b:AV)(l n:bt)(x y:Int)(k:Nat)(A:bK)(S':St):Prop:=
 A.inr=false/\∃ (i:Nat) (d:bt) (c:Int),i+k=l.length/\d.length=i/\aD 0 A.F=a/\aD 1 A.F=b/\aD 2 A.F= .int .i64 x/\aD 3 A.F= .int .i64 y/\aD 9 A.F= .sl S.nx 0 l.length l.length false/\aD 10 A.F= .int .i64 c/\aD 17 A.F= .int .i64 (l.length:Int)/\aD 18 A.F= .int .i64 (i:Int)/\
  Same S S'/\S.nx<S'.nx/\S'.h.get S.nx=some (.cells (bL (d++List.replicate (l.length - i) 0)) false 0)/\bR d/\ -1000000000<=c/\c<=1000000000/\(val d:Int)+c * ((B ^ i:Nat):Int)=x * (val (l.take i):Int)+y * (val (n.take i):Int)
theorem aKq{x y p q:Int}(hx: -1000000000<x/\x<1000000000)(hy: -1000000000<y/\y<1000000000)(hs:0<=x/\y<=0\/x<=0/\0<=y)(hp:0<=p/\p<1000000000)(hq:0<=q/\q<1000000000): -999999998000000001<=x * p/\x * p<=999999998000000001/\ -999999998000000001<=y * q/\y * q<=999999998000000001/\ -999999998000000001<=x * p+y * q/\x * p+y * q<=999999998000000001:=by
 have key:∀ {u v:Int},0<=u->u<1000000000->0<=v->v<1000000000->0<=u * v/\u * v<=999999998000000001:=fun {u v} h1 h2 h3 h4=>by
  have a1:=Dc h1 h3;have a2:u * v<=u * 999999999:=Cl au h1;omega
 rcases hs with⟨h1,h2⟩ | ⟨h1,h2⟩
 ·have k1:=key h1 hx.2 hp.1 hp.2;have k2:=key (u:= -y) au au  hq.1 hq.2;rw[Int.neg_mul] at k2;omega
 ·have k1:=key (u:= -x) au au  hp.1 hp.2;have k2:=key h2 hy.2 hq.1 hq.2;rw[Int.neg_mul] at k1;omega
theorem aHK{S:St}{a b:AV}{A Bv:Nat}{x y:Int}{R:Nat}(H:Has fns)(ha:bV S a A)(hb:bV S b Bv)(hA:Fits A)(hAB:Bv<=A)(hx: -1000000000<x/\x<1000000000)(hy: -1000000000<y/\y<1000000000)(hs:0<=x/\y<=0\/x<=0/\0<=y)(hR:(R:Int)=x * A+y * Bv)(hRA:R<=A):
  eR fns (.fn 122 [] []) [a,b,.int .i64 x,.int .i64 y] S fun r S'=>bV S' r R/\Same S S':=by
 have hB:B=1000000000:=rfl;obtain⟨l,ha,hl,rfl⟩:=ha;obtain⟨n,hb,hn,rfl⟩:=hb;have hlen:=Fits.len hl hA;have hnl:n.length<=l.length:=by
  rcases Be l.length n.length with h | h
  ·have:=fF hl.1 hn h;omega
  ·exact h
 have hmk:=fun F id (x:cL) (hx:dY (x.val F)=some l.length)=>kZ (t:=97) (s:=1) (bytes:=4) (z:=[AV.int .u32 0]) (l:=x) (c:=x) (F:=F) (id:=id) (n:=l.length) hx hx ax ax;refine bE H.f122 (by simp) ?_;refine ae ?_;refine aY (ae ?_);refine aY (dh ha.len ?_);rw[hmk _ _ _ (af)];refine ae ?_;refine aY (ae ?_);refine dS (dh ha.len ?_);refine aX (Q:=fun o A' S'=>o= .normal/\aQS S a b l n x y 0 A' S') ?_ ?_
 ·refine aO (bJ (aQS S a b l n x y) ?_ l.length _ _ ⟨rfl,0,[],0,au,rfl,af,af,af,af,af,af,af,af,Same.alloc S _,by simp,?_,bR.nil,au,au,by simp [cN]⟩)
  ·rintro k ⟨F,inr⟩ S' ⟨q0,i,d,c,hik,hd,p0,p1,p2,p3,p9,p10,p17,p18,hS,hnx,hblk,hds,hc1,hc2,hinv⟩;simp only at q0 p0 p1 p2 p3 p9 p10 p17 p18;subst q0;have ha':=ha.same hS;have hb':=hb.same hS;refine aY ?_;by_cases hi:i<l.length
   ·have d1:decide ((i:Int)<(l.length:Int))=true:=Ab au;refine dm p17 p18 d1 ?_;refine aC (aN (af) (aH ?_));refine ae ?_;have hld:=ha'.ld hi;rw[Ae] at hld;have hxl:=getD_lt hl.1 i;have hyl:=getD_lt hn.1 i;have hyld:∀h:i<n.length,cT (nC b i) false 1 S'.h=some (.int .u32 ((n[i]?.getD 0:Nat):Int)):=fun h=>by
     have:=hb'.ld h
     rwa [Ae] at this
    have hyz:¬i<n.length->n[i]?.getD 0=0:=fun h=>by simp [show n.length<=i by omega]
    have ea:=cK l i;have eb:=cK n i;generalize l[i]?.getD 0=ai at *;generalize n[i]?.getD 0=bi at *;have⟨s1,s2,s3,s4,s5,s6⟩:=aKq (p:=(ai:Int)) (q:=(bi:Int)) hx hy hs au au;have w1:IntKind.i64.wrap (ai:Int)=(ai:Int):=wrap_i64 au au;have w2:IntKind.i64.wrap (x * (ai:Int))=x * (ai:Int):=wrap_i64 au au;have w3:IntKind.i64.wrap (x * (ai:Int)+c)=x * (ai:Int)+c:=wrap_i64 au au;have w4:IntKind.i64.wrap (bi:Int)=(bi:Int):=wrap_i64 au au;have w5:IntKind.i64.wrap (y * (bi:Int))=y * (bi:Int):=wrap_i64 au au;obtain⟨t,ht⟩:∃t,t=x * (ai:Int)+c+y * (bi:Int):=⟨_,rfl⟩;have w6:IntKind.i64.wrap (x * (ai:Int)+c+y * (bi:Int))=t:=by rw[wrap_i64 au au];exact ht.symm
    refine aC (aO (aC (aJ ?_)));refine dh p18 ?_;refine aY (d7 p0 p2 p10 (ha'.cw hi) hld w1 w2 w3 ?_);refine aC (aX (Q:=fun o A' S''=>o= .normal/\S''=S'/\A'.inr=false/\aD 0 A'.F=a/\aD 1 A'.F=b/\aD 2 A'.F= .int .i64 x/\aD 3 A'.F= .int .i64 y/\aD 9 A'.F= .sl S.nx 0 l.length l.length false/\aD 11 A'.F= .int .i64 (i:Int)/\aD 12 A'.F= .int .i64 t/\aD 17 A'.F= .int .i64 (l.length:Int)/\aD 18 A'.F= .int .i64 (i:Int)) ?_ ?_)
    ·refine aY ?_;by_cases hin:i<n.length
     ·have d2:decide ((i:Int)<(n.length:Int))=true:=Ab au;refine dm p1 hb'.len d2 ?_;refine aN (af) (aJ ?_);refine dz p1 p3 (hb'.cw hin) (hyld hin) w4 w5 w6 ?_;exact⟨p0,p2,p9,p17,p18⟩
     ·have d2:decide ((i:Int)<(n.length:Int))=false:=Aa au;have hb0:=hyz hin;refine dm p1 hb'.len d2 ?_;refine aM (af) (aH ?_);refine ae ?_;refine⟨p0,p1,p2,p3,p9,?_,p17,p18⟩;rw[ht,hb0];simp
    rintro o ⟨F,inr⟩ S'' ⟨rfl,hS'',q0,p0,p1,p2,p3,p9,p11,p12,p17,p18⟩;simp only at q0 p0 p1 p2 p3 p9 p11 p12 p17 p18;subst q0;rw[hS''];refine ae ?_;have hquo:=aBA (.p .int) (a:=t) (b:=1000000000) ay;have htd:=aQ0 t;generalize t.tdiv 1000000000=q0 at *;have w7:IntKind.i64.wrap q0=q0:=wrap_i64 au au;have w8:IntKind.i64.wrap (q0 * 1000000000)=q0 * 1000000000:=wrap_i64 au au;have w9:IntKind.i64.wrap (t - q0 * 1000000000)=t - q0 * 1000000000:=wrap_i64 au au;rw[w7] at hquo;refine aY (dk p12 hquo ?_);refine aY (dm p12 w8 w9 ?_);have⟨wn,hwn⟩:=Es (Int.emod_nonneg t (show(1000000000:Int)≠0 by decide));refine aC (aX (Q:=fun o A' S''=>o= .normal/\S''=S'/\A'.inr=false/\aD 0 A'.F=a/\aD 1 A'.F=b/\aD 2 A'.F= .int .i64 x/\aD 3 A'.F= .int .i64 y/\aD 9 A'.F= .sl S.nx 0 l.length l.length false/\aD 10 A'.F= .int .i64 (t / 1000000000)/\aD 11 A'.F= .int .i64 (i:Int)/\aD 12 A'.F= .int .i64 (wn:Int)/\aD 17 A'.F= .int .i64 (l.length:Int)/\aD 18 A'.F= .int .i64 (i:Int)) ?_ ?_)
    ·refine aY ?_;by_cases hneg:t - q0 * 1000000000<0
     ·have d2:decide (t - q0 * 1000000000<0)=true:=Ab hneg;have w10:IntKind.i64.wrap (t - q0 * 1000000000+1000000000)=(wn:Int):=by rw[wrap_i64 au au];omega
      have w11:IntKind.i64.wrap (q0 - 1)=t / 1000000000:=by rw[wrap_i64 au au];omega
      refine dh d2 ?_;refine aN (af) ?_;refine aY (dh w10 ?_);refine aJ (dh w11 ?_);exact⟨p0,p1,p2,p3,p9,p11,p17,p18⟩
     ·have d2:decide (t - q0 * 1000000000<0)=false:=Aa hneg;refine dh d2 ?_;refine aM (af) (aH ?_);refine ae ?_;exact⟨p0,p1,p2,p3,p9,(by congr 1;omega),p11,(by congr 1;omega),p17,p18⟩
    rintro o ⟨F,inr⟩ S'' ⟨rfl,hS'',q0,p0,p1,p2,p3,p9,p10,p11,p12,p17,p18⟩;simp only at q0 p0 p1 p2 p3 p9 p10 p11 p12 p17 p18;subst q0;rw[hS''];refine ae ?_;have hwB:wn<B:=by omega
    have w12:IntKind.u32.wrap (wn:Int)=(wn:Int):=wrap_u32 au au;have hiad:dN (.slice 1) (.sl S.nx 0 l.length l.length false) i=some (.ptr S.nx i):=by rw[jZ hi];simp
    have hst:=sR (w:=wn) hblk (p:=i) (by simp [hd];omega);have hset:(d++List.replicate (l.length - i) 0).set i wn=d++ [wn]++List.replicate (l.length - (i+1)) 0:=by rw[<-hd];exact nS au
    rw[hset] at hst;refine aJ (dx p9 p11 p12 w12 hiad ?_);refine gB (fun call=>by refine dk @eC @cH ?_;exact hst) ?_;refine ae ?_;refine aJ ?_;have w13:=dq i
    refine dk p18 w13 ?_;refine⟨k - 1,au,rfl,i+1,d++ [wn],t / 1000000000,au,by simp [hd],ah p0,ah p1,ah p2,ah p3,ah p9,ah p10,ah p17,af,hS.put (Af _) _,hnx,?_,bR.append.2 ⟨hds,lB hwB⟩,au,au,?_⟩
    ·simp only;rw[dr,if_pos rfl]
    ·rw[fK,hd,ea,eb,Ci];simp only[Int.natCast_add,Bj];exact aLy hinv ht (by rw[<-hwn];omega)
   ·have ei:i=l.length:=by omega
    have d1:decide ((i:Int)<(l.length:Int))=false:=Aa au;refine dm p17 p18 d1 ?_;refine aC (aM (af) (bD ?_));refine ae ?_;exact⟨rfl,i,d,c,au,hd,ah p0,ah p1,ah p2,ah p3,ah p9,ah p10,ah p17,ah p18,hS,hnx,hblk,hds,hc1,hc2,hinv⟩
  ·simp only;rw[dr,if_pos rfl,gF];simp
 ·rintro o ⟨F,inr⟩ S' ⟨rfl,q0,i,d,c,hik,hd,p0,p1,p2,p3,p9,p10,p17,p18,hS,hnx,hblk,hds,hc1,hc2,hinv⟩;simp only at q0 p9;subst q0;have ei:i=l.length:=by omega
  subst ei;rw[Am au,Am au,<-hR] at hinv;have hval:val d=R:=by
   have h1:=eX hds;rw[hd] at h1;have h2:=eX hl.1;generalize B ^ l.length=Z at *;rcases Int.lt_trichotomy c 0 with h | h | h
   ·have:c * (Z:Int)<=(-1) * (Z:Int):=Int.mul_le_mul_of_nonneg_right au au;omega
   ·subst h;omega
   ·have:1 * (Z:Int)<=c * (Z:Int):=Int.mul_le_mul_of_nonneg_right au au;omega
  rw[Fk,List.replicate_zero,Cm] at hblk;have hout:=fL (n:=l.length) (o':=false) (cap:=l.length) hblk hnx au (Af _);refine ae ?_;refine aY (dh p9 ?_);refine aK (ae ?_);refine aG (nW H.f139 hout hds au) ?_;rintro v S1 ⟨hN,hS1⟩;rw[hS1];try refine ae ?_
  refine aI (ae ?_);rw[<-hval];exact⟨hN,hS⟩
theorem mS{S:St}{c:Nat}{v:AV}{o:Bool}{s:Nat}(h:S.h.get c=some (.cells [v] o s)):cT (.ptr c 0) false 1 S.h=some v:=by
 simp only[cT,iO,aS,jE,bU,h,aL,dI,jI];rfl
theorem aFz{S:St}{c:Nat}{v w:AV}{o:Bool}{s:Nat}(h:S.h.get c=some (.cells [v] o s)):oT (.ptr c 0) 1 [w] S=some (.undef,⟨S.h.set c (some (.cells [w] o s)),S.nx⟩):=by
 simp only[oT,lN,h,aL,qA];rfl
theorem aDL{S:St}{v:AV}{l:bt}(h:bQ S v l):v.cells=some [v]:=by
 rcases h with⟨_,h | h⟩ | ⟨b,off,cap,o,cs,rfl,_⟩
 ·subst h;rfl
 ·subst h;rfl
 ·rfl
theorem aF4(t:Nat)(x:cL)(F:Fr)(id:Nat):vC (.box t x) F id=aU (x.val F).cells fun cs=>some (.ptr id 0,.cells cs false 0):=rfl
theorem aE2(t:Nat)(cs:bo)(F:Fr)(id:Nat):vC (.alloc t cs) F id=some (.ptr id 0,.cells cs false 0):=rfl
theorem wT(f:Nat)(first cap:List cL)(F:Fr)(h:T AB):jK (.mkFunc f first cap) F h=some (.fn f (cO first F) (cO cap F)):=rfl
theorem aJ3{S:St}{v:AV}{l:bt}{c i:Nat}(H:Has fns)(hl:bQ S v l)(hs:bR l)(hc:S.h.get c=some (.cells [v] false 0)):
  eR fns (.fn 135 [] [.ptr c 0]) [.int .i64 (i:Int)] S fun r S'=>r= .int .u64 ((l[i]?.getD 0:Nat):Int)/\S'=S:=by
 have hB:B=1000000000:=rfl;have hx:=getD_lt hs i;have w1:IntKind.u64.wrap ((l[i]?.getD 0:Nat):Int)=((l[i]?.getD 0:Nat):Int):=wrap_u64 au au;refine bE H.f135 (by simp) ?_;refine ae ?_;refine aY (ae ?_);refine dS (dk (mS hc) hl.len ?_);by_cases hi:i<l.length
 ·have hld:=hl.ld hi;rw[Ae] at hld;refine aN (by simp only[↓sU,sD,rE,↓reduceIte,rA,Ab (show(i:Int)<(l.length:Int) by omega)]) ?_;refine aY (du (mS hc) (hl.cw hi) hld w1 ?_);refine aI ?_;simp only[↓sU,sD,rE,↓reduceIte,rA]
 ·refine aM (by simp only[↓sU,sD,rE,↓reduceIte,rA,Aa (show ¬ (i:Int)<(l.length:Int) by omega)]) (aH ?_);refine ae ?_;refine aY (ae ?_);refine aI ?_;have:l[i]?.getD 0=0:=by simp [show l.length<=i by omega]
  simp only[↓sU,sD,rE,↓reduceIte,rA,this]
theorem aCS{S:St}{v:AV}{l:bt}{c6 c7 n tens:Nat}(H:Has fns)(hl:bQ S v l)(hs:bR l)(h6:S.h.get c6=some (.cells [.int .i64 ((n+3:Nat):Int)] false 0))(h7:S.h.get c7=some (.cells [.int .u64 (tens:Int)] false 0))(h6l:c6<S.nx)(h7l:c7<S.nx)(hn:n<=100000)
  (ht:tens<=1000000000) (hfit:(l[n+2]?.getD 0 * 1000000000+l[n+1]?.getD 0) * tens+l[n]?.getD 0 * tens / 1000000000<1000000000000000000):
  eR fns (.fn 134 [] [.ptr c6 0,.ptr c7 0]) [v] S fun r S'=>r= .int .i64 (((l[n+2]?.getD 0 * 1000000000+l[n+1]?.getD 0) * tens+l[n]?.getD 0 * tens / 1000000000:Nat):Int)/\Same S S':=by
 have hB:B=1000000000:=rfl;have e1:=getD_lt hs (n+2);have e2:=getD_lt hs (n+1);have e3:=getD_lt hs n;refine bE H.f134 (by simp) ?_;refine ae ?_;refine aY (dk @aF4 (aDL hl) ?_);refine aY (dh @wT ?_);have hS1:=Same.alloc S (.cells [v] false 0);obtain⟨S1,hS1e⟩:∃S1,S1=(⟨S.h.set S.nx (some (.cells [v] false 0)),S.nx+1⟩:St):=⟨_,rfl⟩;rw[<-hS1e] at hS1 ⊢;have hnx1:S1.nx=S.nx+1:=by rw[hS1e]
 have hc3:S1.h.get S.nx=some (.cells [v] false 0):=by rw[hS1e];simp only;rw[dr,if_pos rfl]
 have hl1:=hl.same hS1;have h6':S1.h.get c6=some (.cells [.int .i64 ((n+3:Nat):Int)] false 0):=by rw[hS1.2 _ h6l];exact h6
 have h7':S1.h.get c7=some (.cells [.int .u64 (tens:Int)] false 0):=by rw[hS1.2 _ h7l];exact h7
 have hS2:=Same.nx S1 22;have wa:IntKind.i64.wrap (((n+3:Nat):Int) - 1)=((n+2:Nat):Int):=by rw[wrap_i64 au au];omega
 have wb:IntKind.i64.wrap (((n+3:Nat):Int) - 2)=((n+1:Nat):Int):=by rw[wrap_i64 au au];omega
 have wc:IntKind.i64.wrap (((n+3:Nat):Int) - 3)=((n:Nat):Int):=by rw[wrap_i64 au au];omega
 have sp:=fun i=>aJ3 (S:=⟨S1.h,S1.nx+22⟩) (i:=i) H (hl1.same hS2) hs hc3;have lt6:c6<S1.nx:=by omega
 have lt7:c7<S1.nx:=by omega
 have sp1:=sp (n+2);have sp2:=sp (n+1);have sp3:=sp n;clear sp;generalize l[n+2]?.getD 0=x1 at *;generalize l[n+1]?.getD 0=x2 at *;generalize l[n]?.getD 0=x3 at *;have b1:x1 * 1000000000<=999999999 * 1000000000:=Aq _ au;have b3:x3 * tens<=999999999 * 1000000000:=Ef au au;obtain⟨u,hu⟩:∃u,x1 * 1000000000+x2=u:=⟨_,rfl⟩;rw[hu] at hfit ⊢;have w1:IntKind.u64.wrap ((x1:Int) * 1000000000)=((x1 * 1000000000:Nat):Int):=by rw[wrap_u64 au au];omega
 have w2:IntKind.u64.wrap (((x1 * 1000000000:Nat):Int)+(x2:Int))=(u:Int):=by rw[wrap_u64 au au];omega
 have w3:IntKind.u64.wrap ((u:Int) * (tens:Int))=((u * tens:Nat):Int):=by rw[<-Bj];exact wrap_u64 au au
 have w4:IntKind.u64.wrap ((x3:Int) * (tens:Int))=((x3 * tens:Nat):Int):=by rw[<-Bj];exact wrap_u64 au au
 have hquo:=aJ1 (.p .int) (t:=x3 * tens) au;rw[hB] at hquo;have w5:IntKind.u64.wrap (((u * tens:Nat):Int)+((x3 * tens / 1000000000:Nat):Int))=((u * tens+x3 * tens / 1000000000:Nat):Int):=by rw[<-Int.natCast_add];exact wrap_u64 au au
 have w6:IntKind.i64.wrap ((u * tens+x3 * tens / 1000000000:Nat):Int)=((u * tens+x3 * tens / 1000000000:Nat):Int):=wrap_i64 au au;refine aC (aCn (fun _=>False) ?_);refine du (mS h6') lt6 wa @Ak ?_;refine sQ rfl ?_;refine ae ?_;refine aG sp1 ?_;rintro _ T ⟨rfl,hT⟩;rw[hT];refine⟨Same.refl _,?_⟩;refine dx (mS h6') lt6 wb w1 @Ak ?_;refine sQ rfl ?_;refine ae ?_;refine aG sp2 ?_;rintro _ T ⟨rfl,hT⟩;rw[hT];refine⟨Same.refl _,?_⟩;refine d7 (mS h6') (mS h7') lt6 lt7 wc w2 w3 @Ak ?_;refine sQ rfl ?_;refine ae ?_;refine aG sp3 ?_;rintro _ T ⟨rfl,hT⟩;rw[hT];refine⟨Same.refl _,?_⟩;refine dz (mS h7') lt7 w4 hquo w5 w6 @Ak ?_;refine aI (ae ?_);exact hS1.trans hS2
def aOM(S0 S:St)(a b:AV)(c6 c7 t:Nat)(n:Nat)(k:Nat)(A:bK)(S':St):Prop:=
 A.inr=false/\∃e,e+k=8/\t * 10 ^ e<1000000000/\aD 0 A.F=a/\aD 1 A.F=b/\aD 6 A.F= .ptr c6 0/\aD 7 A.F= .ptr c7 0/\Same S0 S'/\c6<S'.nx/\c7<S'.nx/\S'.h.get c6=some (.cells [.int .i64 ((n+3:Nat):Int)] false 0)/\S'.h.get c7=some (.cells [.int .u64 ((10 ^ e:Nat):Int)] false 0)
theorem aEI{e:Nat}(h:e<=8):10 ^ e * 10 ^ (9 - e)=1000000000:=by rw[<-Hd,show e+(9 - e)=9 by omega]
theorem aDW{l:bt}{n:Nat}(h:l.length<=n+3):val l=val (l.take n)+B ^ n * (l[n]?.getD 0+B * (l[n+1]?.getD 0+B * l[n+2]?.getD 0)):=by
 have e1:=cK l (n+2);have e2:=cK l (n+1);have e3:=cK l n;rw[Am au] at e1;rw[e1,e2,e3,Ci,Ci]
 grind
theorem aHI{l:bt}{n e:Nat}(hl:bR l)(h:l.length<=n+3)(he:e<=8):∃f,10 ^ e * val l=((l[n+2]?.getD 0 * 1000000000+l[n+1]?.getD 0) * 10 ^ e+l[n]?.getD 0 * 10 ^ e / 1000000000) * (B ^ n * B)+f/\f<B ^ n * B:=by
 have hlow:val (l.take n)<B ^ n:=by
  have h1:=eX (hl.take n);have h2:B ^ (l.take n).length<=B ^ n:=Ch gS (by simp;omega);omega
 have:=aIp (l1:=l[n+2]?.getD 0) (l2:=l[n+1]?.getD 0) (l3:=l[n]?.getD 0) (low:=val (l.take n)) (tens:=10 ^ e) (k:=10 ^ (9 - e)) (p:=B ^ n) hlow (Gb ay) (Gb ay);rw[aEI he] at this;rw[aDW h];exact this
theorem aNR{P E d f g X Y:Nat}(h1:X=P * d+f)(h2:Y=E * d+g)(hf:f<d)(h:Y<=X):E<=P:=by
 rcases Be P E with h3 | h3
 ·have:(P+1) * d<=E * d:=Aq _ h3;rw[Cb] at this;omega
 ·exact h3
theorem aKx{S:St}{a b:AV}{x y:Nat}{l:bt}(H:Has fns)(ha:bQ S a l)(hl:jM l)(hlx:val l=x)(hb:bV S b y)(hx:Fits x)(hyx:y<=x)(h3:3<=l.length):
  eR fns (.fn 120 [] []) [a,b] S fun r S'=>Same S S'/\∃P E f g tens d:Nat,r= .tup [.int .i64 (P:Int),.int .i64 (E:Int)]/\E<=P/\P<1000000000000000000/\0<tens/\f<d/\g<d/\tens * x=P * d+f/\tens * y=E * d+g:=by
 have hB:B=1000000000:=rfl;have⟨m,hb,hm,hmy⟩:=hb;have hlen:=Fits.len hl (by rw[hlx];exact hx);have hml:m.length<=l.length:=by
  rcases Be l.length m.length with h | h
  ·have:=fF hl.1 hm h;omega
  ·exact h
 obtain⟨n,hn⟩:∃n,l.length=n+3:=⟨l.length - 3,au⟩;have htl:=getD_lt hl.1 (n+2);have htp:0<l[n+2]?.getD 0:=by
  have h2:l[n+2]? =l.getLast? :=by rw[List.getLast?_eq_getElem?];congr 1;omega
  rcases Ap (l[n+2]?.getD 0) with h | h
  ·exfalso
   have h3:n+2<l.length:=by omega
   rw[Ad h3] at h h2;simp at h;exact hl.2 (by rw[<-h2,h])
  ·exact h
 refine bE H.f120 (by simp) ?_;refine ae ?_;refine aY (ae ?_);refine aY (dk ha.len @aE2 ?_);refine gB (fun call=>by refine dk @eC @cH ?_;exact aFz (v:=.int .i64 0) (o:=false) (s:=0) fc) ?_;refine ae ?_;refine aY (dh @aE2 ?_);refine gB (fun call=>by refine dk @eC @cH ?_;exact aFz (v:=.int .u64 0) (o:=false) (s:=0) fc) ?_;refine ae ?_;have hld0:=fun(S':St) (hS:Same S S')=>(ha.same hS).ld (i:=n+2) au;simp only[Ae] at hld0;have hia0:=ha.cw (i:=n+2) au;obtain⟨t,ht⟩:∃t,l[n+2]?.getD 0=t:=⟨_,rfl⟩;rw[ht] at htl htp hld0;rw[hn];refine aC (aX (Q:=fun o A' S'=>o= .normal/\∃k,aOM S S a b S.nx (S.nx+1) t n k A' S') ?_ ?_)
 ·refine aO (bJ (aOM S S a b S.nx (S.nx+1) t n) ?_ 8 _ _ ⟨rfl,0,rfl,au,af,af,af,af,⟨by simp only;omega,fun c hc=>?_⟩,by simp only;omega,by simp only;omega,?_,?_⟩)
  ·rintro k ⟨F,inr⟩ S' ⟨q0,e,hek,hte,p0,p1,p6,p7,hS,hn6,hn7,g6,g7⟩;simp only at q0 p0 p1 p6 p7;subst q0;have wa:IntKind.i64.wrap (((n+3:Nat):Int) - 1)=((n+2:Nat):Int):=by rw[wrap_i64 au au];omega
   have wt:IntKind.u64.wrap (t:Int)=(t:Int):=wrap_u64 au au;have w1:IntKind.u64.wrap ((t:Int) * ((10 ^ e:Nat):Int))=((t * 10 ^ e:Nat):Int):=by rw[<-Bj];exact wrap_u64 au au
   have w2:IntKind.u64.wrap (((t * 10 ^ e:Nat):Int) * 10)=((t * 10 ^ e * 10:Nat):Int):=by rw[wrap_u64 au au];omega
   refine aC (aC (jA ?_));simp only[↓sU,sD,rE,↓reduceIte,rA,p0,p6,p7,mS g6,mS g7,wa,hia0,hld0 S' hS,wt,w1,w2];by_cases hlt:t * 10 ^ e * 10<1000000000
   ·refine aN (by simp only[↓sU,sD,rE,↓reduceIte,rA,Ab (show((t * 10 ^ e * 10:Nat):Int)<1000000000 by omega)]) (aH ?_);refine ae ?_;have hpe:10 ^ (e+1)=10 ^ e * 10:=Ci ..;have hle:1 * (10 ^ e * 10)<=t * (10 ^ e * 10):=Aq _ htp;have e4:t * (10 ^ e * 10)=t * 10 ^ e * 10:=by rw[Bl]
    have he8:e<8:=by
     rcases Be e 8 with h | h
     ·exact h
     ·have:e=8:=by omega
      subst this;omega
    have w3:IntKind.u64.wrap (((10 ^ e:Nat):Int) * 10)=((10 ^ (e+1):Nat):Int):=by rw[hpe,wrap_u64 au au];omega
    refine aO (aJ ?_);refine dm p7 (mS (S:=⟨S'.h,S'.nx+10⟩) g7) w3 ?_;refine gB (fun call=>by refine dm @eC @cH p7 ?_;exact aFz (S:=⟨S'.h,_⟩) g7) ?_;refine ae ?_;refine⟨k - 1,au,rfl,e+1,au,by rw[hpe];omega,ah p0,ah p1,ah p6,ah p7,?_,by simp;omega,by simp;omega,?_,?_⟩
    ·exact(hS.trans (Same.nx S' _)).put au _
    ·simp only;rw[dr,if_neg au];exact g6
    ·simp only;rw[dr,if_pos rfl]
   ·refine aM (by simp only[↓sU,sD,rE,↓reduceIte,rA,Aa (show ¬ ((t * 10 ^ e * 10:Nat):Int)<1000000000 by omega)]) (bD ?_);refine ae ?_;exact⟨k,rfl,e,hek,hte,ah p0,ah p1,ah p6,ah p7,hS.trans (Same.nx S' _),by simp;omega,by simp;omega,g6,g7⟩
  ·simp only;rw[dr,if_neg au,dr,if_neg au,dr,if_neg au,dr,if_neg au]
  ·simp only;rw[dr,if_neg au,dr,if_neg au,dr,if_pos rfl]
  ·simp only;rw[dr,if_pos rfl];rfl
 ·rintro o ⟨F,inr⟩ S' ⟨rfl,k,q0,e,hek,hte,p0,p1,p6,p7,hS,hn6,hn7,g6,g7⟩;simp only at q0 p0 p1 p6 p7;subst q0;refine ae ?_;refine aY (dm @wT p6 p7 ?_);have he8:e<=8:=by omega
  have hp1:10 ^ e<=1000000000:=by
   have:=aEI he8;have h2:1<=10 ^ (9 - e):=Gb ay;have h3:10 ^ e * 1<=10 ^ e * 10 ^ (9 - e):=Bb _ h2;omega
  have hmt:m[n+2]?.getD 0<=t:=by
   rcases Be t (m[n+2]?.getD 0) with h | h
   ·exfalso
    have v1:=aDW (l:=l) (n:=n) au;have v2:=aDW (l:=m) (n:=n) au;have:=getD_lt hl.1 (n+1);have:=getD_lt hl.1 n;rw[ht] at v1;have hlow:val (l.take n)<B ^ n:=by
     have h1:=eX (hl.1.take n);have h2:B ^ (l.take n).length<=B ^ n:=Ch gS (by simp;omega);omega
    generalize l[n+1]?.getD 0=l2 at *;generalize l[n]?.getD 0=l3 at *;generalize m[n+1]?.getD 0=m2 at *;generalize m[n]?.getD 0=m3 at *;generalize m[n+2]?.getD 0=m1 at *;have k1:l3+B * (l2+B * t)+1<=m3+B * (m2+B * m1):=by
     have a1:B * (t+1)<=B * m1:=Bb _ h;have a2:B * (l2+B * t+1)<=B * (m2+B * m1):=Bb _ (by rw[Ca] at a1;omega);rw[Ca _ _ 1] at a2;omega
    have k2:=Bb (B ^ n) k1;rw[Ca _ _ 1] at k2;omega
   ·exact h
  have hfit:∀ (q:bt),bR q->q[n+2]?.getD 0<=t->(q[n+2]?.getD 0 * 1000000000+q[n+1]?.getD 0) * 10 ^ e+q[n]?.getD 0 * 10 ^ e / 1000000000<1000000000000000000:=fun q hq hqt=>by
   have h1:q[n+2]?.getD 0 * 10 ^ e<=t * 10 ^ e:=Aq _ hqt;have:=aOr (l1:=q[n+2]?.getD 0) (l2:=q[n+1]?.getD 0) (l3:=q[n]?.getD 0) (low:=0) (tens:=10 ^ e) (k:=10 ^ (9 - e)) (p:=1) au (by rw[aEI he8];exact getD_lt hq n) (by rw[aEI he8];exact getD_lt hq (n+1)) (by rw[aEI he8];omega);rw[aEI he8] at this;exact this
  refine aY (dh p0 ?_);refine aK (ae ?_);refine aG (aCS (n:=n) (tens:=10 ^ e) H (ha.same hS) hl.1 g6 g7 hn6 hn7 au hp1 (hfit l hl.1 au)) ?_;rintro _ S2 ⟨rfl,hS2⟩;refine dh p1 ?_;refine aK (ae ?_);have g6':S2.h.get S.nx=some (.cells [.int .i64 ((n+3:Nat):Int)] false 0):=by rw[hS2.2 _ hn6];exact g6
  have g7':S2.h.get (S.nx+1)=some (.cells [.int .u64 ((10 ^ e:Nat):Int)] false 0):=by rw[hS2.2 _ hn7];exact g7
  refine aG (aCS (n:=n) (tens:=10 ^ e) H (hb.same (hS.trans hS2)) hm.1 g6' g7' (Ag hn6 hS2.1) (Ag hn7 hS2.1) au hp1 (hfit m hm.1 hmt)) ?_;rintro _ S3 ⟨rfl,hS3⟩;try refine ae ?_
  refine aI (ae ?_);have⟨f,hf1,hf2⟩:=aHI (n:=n) (e:=e) hl.1 au he8;have⟨g,hg1,hg2⟩:=aHI (n:=n) (e:=e) hm.1 au he8;have hPl:=hfit l hl.1 au;exact⟨hS.trans (hS2.trans hS3),_,_,f,g,10 ^ e,B ^ n * B,rfl,aNR hf1 hg1 hf2 (Bb _ au),hPl,Gb ay,hf2,hg2,by rw[<-hlx];exact hf1,by rw[<-hmy];exact hg1⟩
theorem ex3(a b c d:AV)(l:bo):lQ (.tup (a::b::c::d::l)) 3=some d:=rfl
theorem oK{S:St}{v:AV}{l:bt}(H:Has fns)(h:bQ S v l)(hl:jM l)(hlen:l.length<=2):eR fns (.fn 99 [] []) [v] S fun r S'=>r= .int .u64 (val l:Int)/\S'=S:=aKG H.f99 h hl.1 hlen
theorem nQ{l:bt}(h:bR l)(hl:l.length<=2):val l<1000000000000000000:=by
 have h1:=eX h;have h2:B ^ l.length<=B ^ 2:=Ch gS hl;have h3:B ^ 2=1000000000000000000:=by decide
 omega
def aPM(S:St)(X g:Nat)(k:Nat)(A:bK)(S':St):Prop:=
 A.inr=false/\∃ (x y:Nat) (a b:AV),aD 0 A.F=a/\aD 1 A.F=b/\bV S' a x/\bV S' b y/\y<=x/\x<=X/\Nat.gcd x y=g/\Same S S'/\k=y
theorem tL{S:St}{a b:AV}{x y:Nat}(H:Has fns)(hL:Laid S)(ha:bV S a x)(hb:bV S b y)(hx:Fits x)(hy:Fits y):
  eR fns (.fn 100 [] []) [a,b] S fun r S'=>bV S' r (Nat.gcd x y)/\Same S S':=by
 have hB:B=1000000000:=rfl;have⟨l,ha1,hl,hlx⟩:=id ha;have⟨m,hb1,hm,hmy⟩:=id hb;have hlen:=Fits.len hl (by rw[hlx];exact hx);have hmen:=Fits.len hm (by rw[hmy];exact hy);refine bE H.f100 (by simp) ?_;try refine ae ?_
 refine aY ?_;try refine ae ?_
 refine dS ?_;have small:l.length<=2/\m.length<=2\/¬ (l.length<=2/\m.length<=2):=Decidable.em _;rcases small with⟨h1,h2⟩ | hbig
 ·have d1:decide ((l.length:Int)<=2)=true:=Ab au;have d2:decide ((m.length:Int)<=2)=true:=Ab au;refine du ha1.len hb1.len d1 d2 ?_;refine aN (af) ?_;refine aY ?_;try refine ae ?_
  refine aK ?_;try refine ae ?_
  refine aG (oK H ha1 hl h1) ?_;rintro _ T ⟨rfl,hT⟩;rw[hT];try refine ae ?_
  refine aK ?_;try refine ae ?_
  refine aG (oK H hb1 hm h2) ?_;rintro _ T ⟨rfl,hT⟩;rw[hT];try refine ae ?_
  refine aK ?_;try refine ae ?_
  have k1:=nQ hl.1 h1;have k2:=nQ hm.1 h2;refine aG (qV H hL au au) ?_;rintro _ T ⟨rfl,hT⟩;rw[hT];try refine ae ?_
  refine aK ?_;try refine ae ?_
  have k3:Nat.gcd (val l) (val m)<=18446744073709551615:=by
   rcases Ap (val l) with h | h
   ·rw[h,Nat.gcd_zero_left];omega
   ·have:=Gk (val m) h;omega
  refine aG (tT H.f82 k3) ?_;rintro r S' ⟨hr,hS'⟩;try refine ae ?_
  refine aI ?_;try refine ae ?_
  rw[<-hlx,<-hmy];exact⟨hr,hS'⟩
 have go1:∀ (Q:Fr->St->Prop) (F:Fr),aD 0 F=a->aD 1 F=b->(∀F',aD 0 F'=a->aD 1 F'=b->aD 20 F'= .bool false->Q F' S)->pA fns [mt 13 0,oq 14 (.c9 (.t 13)),oq 15 (bi .leq (.t 14) (ci 2)),mt 16 15,og 17 16 true 0 (.mv (.t 1)),og 18 16 true 0 (.c9 (.t 17)),og 19 16 true 0 (bi .leq (.t 18) (ci 2)),oq 20 (.pick (.t 16) (.t 19) (.c (.bool false)))] F S Q:=by
  intro Q F p0 p1 hQ;by_cases h1:l.length<=2
  ·have d1:decide ((l.length:Int)<=2)=true:=Ab au;have d2:decide ((m.length:Int)<=2)=false:=Aa au;refine dy p0 p1 ha1.len hb1.len d1 d2 ?_;exact hQ _ (ah p0) (ah p1) (af)
  ·have d1:decide ((l.length:Int)<=2)=false:=Aa au;refine du p0 p1 ha1.len d1 ?_;exact hQ _ (ah p0) (ah p1) (af)
 refine go1 _ _ (af) (af) ?_;intro F p0 p1 p20;try refine ae ?_
 refine aM (ah p20) (aH ?_);try refine ae ?_
 refine dS (dh p0 ?_);refine aK ?_;try refine ae ?_
 refine aG (aDz H.f117 ha1) ?_;rintro _ T ⟨rfl,hT⟩;rw[hT];by_cases h1:l= [1]
 ·have hg:Nat.gcd x y=1:=by rw[<-hlx,h1,lT,Nat.gcd_one_left]
  refine dh (Ab h1) ?_;refine aN (af) ?_;refine aY ?_;refine aK ?_;try refine ae ?_
  refine aG (wD H.f108) ?_;rintro r S' ⟨hr,hS'⟩;try refine ae ?_
  refine aI ?_;try refine ae ?_
  rw[hg];exact⟨hr,hS'⟩
 refine dk (Aa h1) p1 ?_;refine aK ?_;try refine ae ?_
 refine aG (aDz H.f117 hb1) ?_;rintro _ T ⟨rfl,hT⟩;rw[hT];try refine ae ?_
 by_cases h2:m= [1]
 ·have hg:Nat.gcd x y=1:=by rw[<-hmy,h2,lT,Nat.gcd_one_right]
  refine aN (by simp only[↓sU,sD,rE,↓reduceIte,rA,Ab h2]) ?_;refine aY ?_;refine aK ?_;try refine ae ?_
  refine aG (wD H.f108) ?_;rintro r S' ⟨hr,hS'⟩;try refine ae ?_
  refine aI ?_;try refine ae ?_
  rw[hg];exact⟨hr,hS'⟩
 refine aM (by simp only[↓sU,sD,rE,↓reduceIte,rA,Aa h2]) (aH ?_);try refine ae ?_
 refine aC (aX (Q:=fun o A' S'=>o= .normal/\aPM S (max x y) (Nat.gcd x y) (min x y) A' S') ?_ ?_)
 ·refine aY (dk p0 p1 ?_);refine aK ?_;try refine ae ?_
  refine aG (aAT H.f118 ha hb hx) ?_;rintro _ S1 ⟨rfl,hS1⟩;refine dh @aFf ?_;by_cases hlt:x<y
  ·refine aN (by simp only[↓sU,sD,rE,↓reduceIte,rA,Ab hlt]) (aJ ?_);refine dk p0 p1 ?_;exact⟨rfl,y,x,b,a,af,af,hb.same hS1,ha.same hS1,au,au,Dx y x,hS1,au⟩
  ·refine aM (by simp only[↓sU,sD,rE,↓reduceIte,rA,Aa hlt]) (aH ?_);try refine ae ?_
   exact⟨rfl,x,y,a,b,ah p0,ah p1,ha.same hS1,hb.same hS1,au,au,rfl,hS1,au⟩
 rintro o A' S' ⟨rfl,hI⟩;try refine ae ?_
 have hFX:Fits (max x y):=by
   rcases Nat.le_total x y with h | h
   ·rw[Nat.max_eq_right h];exact hy
   ·rw[Nat.max_eq_left h];exact hx
 refine aC (aX (Q:=fun o A' S'=>o= .normal/\∃k,aPM S (max x y) (Nat.gcd x y) k A' S'/\k<1000000000000000000) ?_ ?_)
 ·refine aO (bJ (aPM S (max x y) (Nat.gcd x y)) ?_ _ _ _ hI);rintro k ⟨F,inr⟩ S' ⟨q0,x',y',a',b',p0,p1,ha',hb',hyx,hxX,hg,hS,rfl⟩;simp only at q0 p0 p1;subst q0;have hx':=hFX.mono hxX;have⟨l',ha1,hl',hlx'⟩:=id ha';have⟨m',hb1,hm',hmy'⟩:=id hb';have hml:m'.length<=l'.length:=by
   rcases Be l'.length m'.length with h | h
   ·have:=fF hl'.1 hm' h;omega
   ·exact h
  refine dS (dk p1 hb1.len ?_);by_cases h3:2<m'.length
  ·refine aN (by simp only[↓sU,sD,rE,↓reduceIte,rA,Ab (show(2:Int)<(m'.length:Int) by omega)]) (aH ?_);try refine ae ?_
   have hkp:0<k:=by
    rcases Ap k with h | h
    ·have:=(xR hm').1 au;subst this;simp at h3
    ·exact h
   refine aO (aC (aJ ?_));refine dk p0 p1 ?_;refine aK ?_;try refine ae ?_
   refine aG (aKx H ha1 hl' hlx' hb' hx' hyx au) ?_;rintro _ S1 ⟨hS1,P,E,f,g,tens,d,rfl,hEP,hP,ht,hfd,hgd,ea,eb⟩;refine dk @nP @nN ?_;refine aK ?_;try refine ae ?_
   refine aG (aH1 (a:=(x':Int)) (b:=(k:Int)) (P:=(P:Int)) (E:=(E:Int)) (f:=(f:Int)) (g:=(g:Int)) (tens:=(tens:Int)) (d:=(d:Int)) H au au au au au au au au au au  (by rw[<-Bj,ea];simp) (by rw[<-Bj,eb];simp)) ?_;rintro _ T ⟨hT,p,e,w,xx,yy,z,rfl,hLeh⟩;rw[hT];refine du @nP @nN @ex2 @ex3 ?_;refine dS ?_;try refine ae ?_
   by_cases h0:xx=0
   ·refine aN (by simp only[↓sU,sD,rE,↓reduceIte,rA,Ab h0]) ?_;refine aY (dk p0 p1 ?_);refine aK ?_;try refine ae ?_
    refine aG (aDc H (ha'.same hS1) (hb'.same hS1) hx' hkp) ?_;rintro _ S2 ⟨qv,rv,rfl,hq,hr,hS2⟩;refine dk @nP @nN ?_;refine aY (dh p1 ?_);refine bD ?_;try refine ae ?_
    refine⟨x' % k,Dn _ hkp,rfl,k,x' % k,b',rv,af,af,hb'.same (hS1.trans hS2),hr,Nat.le_of_lt (Dn _ hkp),au,?_,hS.trans (hS1.trans hS2),rfl⟩;rw[<-hg,Dx x' k,Nat.gcd_rec k x',Dx]
   ·refine aM (by simp only[↓sU,sD,rE,↓reduceIte,rA,Aa h0]) (aH ?_);try refine ae ?_
    have hlow:=hLeh.low;have hsz:=hLeh.size;rcases hLeh.made with h5 | ⟨h5,h6⟩
    ·exact absurd h5.2.1 h0
    have⟨na,hna⟩:=Es (show 0<=w * (x':Int)+xx * (k:Int) by omega);have⟨nb,hnb⟩:=Es hlow;have hgg:=aNG (a:=x') (b:=k) (a':=na) (b':=nb) hLeh.det hna.symm hnb.symm;refine aJ (dk p0 p1 ?_);refine aK ?_;try refine ae ?_
    refine aG (aHK (R:=na) H (ha'.same hS1) (hb'.same hS1) hx' hyx au au  (by rcases hLeh.signs with h | h<;>omega) hna.symm au) ?_;rintro va S2 ⟨hva,hS2⟩;refine dk p0 p1 ?_;refine aK ?_;try refine ae ?_
    refine aG (aHK (R:=nb) H (ha'.same (hS1.trans hS2)) (hb'.same (hS1.trans hS2)) hx' hyx au au  (by rcases hLeh.signs with h | h<;>omega) hnb.symm au) ?_;rintro vb S3 ⟨hvb,hS3⟩;try refine ae ?_
    exact⟨nb,au,rfl,na,nb,va,vb,af,af,hva.same hS3,hvb,au,au,by rw[hgg];exact hg,hS.trans (hS1.trans (hS2.trans hS3)),rfl⟩
  ·refine aM (by simp only[↓sU,sD,rE,↓reduceIte,rA,Aa (show ¬ (2:Int)<(m'.length:Int) by omega)]) (bD ?_);try refine ae ?_
   have:=nQ hm'.1 au;exact⟨k,⟨rfl,x',k,a',b',ah p0,ah p1,ha',hb',hyx,hxX,hg,hS,rfl⟩,au⟩
 ·rintro o ⟨F,inr⟩ S' ⟨rfl,k,⟨q0,x',y',a',b',p0,p1,ha',hb',hyx,hxX,hg,hS,rfl⟩,hk⟩;simp only at q0 p0 p1;subst q0;have hx':=hFX.mono hxX;have⟨m',hb1,hm',hmy'⟩:=id hb';have hml:m'.length<=2:=pQ hm' (by rw[hmy'];exact hk);try refine ae ?_
  refine dS (dk p1 hb1.len ?_);by_cases h0:m'.length=0
  ·have hk0:k=0:=by rw[<-hmy',Ce.1 h0];rfl
   refine aN (by simp only[↓sU,sD,rE,↓reduceIte,rA,Ab (show(m'.length:Int)=0 by omega)]) ?_;refine aY (dh p0 ?_);refine aK ?_;try refine ae ?_
   refine aG (mR H.f101 ha' hx') ?_;rintro r S1 ⟨hr,hS1⟩;try refine ae ?_
   refine aI ?_;try refine ae ?_
   rw[hk0,Gh] at hg;rw[<-hg];exact⟨hr,hS.trans hS1⟩
  ·have hkp:0<k:=by
    rcases Ap k with h | h
    ·have:=(xR hm').1 au;subst this;simp at h0
    ·exact h
   refine aM (by simp only[↓sU,sD,rE,↓reduceIte,rA,Aa (show ¬ (m'.length:Int)=0 by omega)]) (aH ?_);try refine ae ?_
   refine aY (dk p0 p1 ?_);refine aK ?_;try refine ae ?_
   refine aG (aDc H ha' hb' hx' hkp) ?_;rintro _ S2 ⟨qv,rv,rfl,hq,⟨r,hr1,hr2,hr3⟩,hS2⟩;refine dk @nP @nN ?_;have hrk:x' % k<k:=Dn _ hkp;have hrl:r.length<=2:=pQ hr2 (by rw[hr3];exact Nat.lt_trans hrk hk);refine aY (dh p1 ?_);refine aK ?_;try refine ae ?_
   refine aG (oK H (hb1.same hS2) hm' hml) ?_;rintro _ T ⟨rfl,hT⟩;rw[hT];try refine ae ?_
   refine aK ?_;try refine ae ?_
   refine aG (oK H hr1 hr2 hrl) ?_;rintro _ T ⟨rfl,hT⟩;rw[hT];try refine ae ?_
   refine aK ?_;try refine ae ?_
   rw[hmy',hr3];refine aG (qV H (hL.same (hS.trans hS2)) au au) ?_;rintro _ T ⟨rfl,hT⟩;rw[hT];try refine ae ?_
   refine aK ?_;try refine ae ?_
   have hgk:Nat.gcd k (x' % k)=Nat.gcd x y:=by rw[<-hg,Dx x' k,Nat.gcd_rec k x',Dx]
   have k3:Nat.gcd k (x' % k)<=18446744073709551615:=by
    have:=Gk (x' % k) hkp;omega
   refine aG (tT H.f82 k3) ?_;rintro r' S4 ⟨hr',hS4⟩;try refine ae ?_
   refine aI ?_;try refine ae ?_
   rw[<-hgk];exact⟨hr',hS.trans (hS2.trans hS4)⟩
theorem aR(cs:bo):(AV.agg cs).cells=some cs:=rfl
theorem iV(b:Bool):(AV.bool b).cells=some [.bool b]:=rfl
theorem aHu(a b c d:Nat)(e:Bool):(AV.sl a b c d e).cells=some [.sl a b c d e]:=rfl
theorem aF(i:Nat)(x:cL)(F:Fr)(h:T AB):jK (.df i x) F h=zA (x.val F) i:=rfl
theorem aE(b o i:Nat):zA (.ptr b o) i=some (.ptr b (o+i)):=rfl
theorem aV(i:Nat)(x:cL):dU (.df i x)=false:=rfl
theorem iC(z:bo)(ps:List (Nat×Nat×cL)):dU (.build z ps)=false:=rfl
theorem bF(a:Nat)(agg:Bool)(n:Nat)(rs:List RV)(F:Fr)(h:T AB):results (.cell a agg n::rs) F h=aU (cT (aD a F) agg n h) fun v=>aU (results rs F h) fun vs=>some (v::vs):=rfl
theorem sC{z0 z1 z2:AV}{x y z:cL}{F:Fr}{h:T AB}(h1:(x.val F).cells=some [x.val F])(h2:(y.val F).cells=some [y.val F])(h3:(z.val F).cells=some [z.val F]):jK (.build [z0,z1,z2] [(0,1,x),(1,1,y),(2,1,z)]) F h=some (.agg [x.val F,y.val F,z.val F]):=by
 show aU (iJ [z0,z1,z2] [(0,1,x.val F),(1,1,y.val F),(2,1,z.val F)]) (fun cs=>some (AV.agg cs))=_;simp only[iJ,h1,h2,h3,aL];rfl
section
variable {h:T AB}{b:Nat}{x y z:AV}{o:Bool}{s:Nat}
theorem eJ(hb:h.get b=some (.cells [x,y,z] o s)):cT (.ptr b (0+0)) false 1 h=some x:=by
 simp only[cT,iO,aS,jE,bU,hb,aL,dI,jI];rfl
theorem eY(hb:h.get b=some (.cells [x,y,z] o s)):cT (.ptr b (0+1)) false 1 h=some y:=by
 simp only[cT,iO,aS,jE,bU,hb,aL,dI,jI];rfl
theorem dC(hb:h.get b=some (.cells [x,y,z] o s)):cT (.ptr b (0+2)) false 1 h=some z:=by
 simp only[cT,iO,aS,jE,bU,hb,aL,dI,jI];rfl
theorem kJ(hb:h.get b=some (.cells [x,y,z] o s)):cT (.ptr b 0) true 3 h=some (.agg [x,y,z]):=by
 simp only[cT,iO,aP,oH,bU,hb,aL,dI];rfl
end
theorem rG{S:St}{b n:Nat}{cs cs':bo}{o:Bool}{s:Nat}(h:S.h.get b=some (.cells cs o s))(h1:cs.length=n)(h2:cs'.length=n):oT (.ptr b 0) n cs' S=some (.undef,⟨S.h.set b (some (.cells cs' o s)),S.nx⟩):=by
 have hp:put cs 0 cs'=some cs':=by
  rw[put_eq,if_pos au];simp [Bw (show cs.length<=cs'.length by omega)]
 simp only[oT,eQ,h2,lN,h,aL,qA,hp];rw[show Nat.beq n n=true from Nat.beq_refl n];rfl
theorem bW{d t m:Nat}{x:cL}{l:List AO}{F:Fr}{S:St}{Q:Fr->St->Prop}{cs:bo}(hc:(x.val F).cells=some cs)(h:∀S1,Same S S1->S1.nx=S.nx+1->S1.h.get S.nx=some (.cells cs false 0)->pA fns l (cB (some d) F (.ptr S.nx 0)) S1 Q):pA fns (⟨some d,.a (.box t x),none,m⟩::l) F S Q:=by
 rw[sA];refine⟨(.ptr S.nx 0,.cells cs false 0),by rw[aF4,hc];rfl,h _ (Same.alloc S _) rfl ?_⟩;simp only;rw[dr,if_pos rfl]
theorem bY{d t m:Nat}{l:List AO}{F:Fr}{S:St}{Q:Fr->St->Prop}{cs:bo}(h:∀S1,Same S S1->S1.nx=S.nx+1->S1.h.get S.nx=some (.cells cs false 0)->pA fns l (cB (some d) F (.ptr S.nx 0)) S1 Q):pA fns (⟨some d,.a (.alloc t cs),none,m⟩::l) F S Q:=by
 rw[sA];refine⟨(.ptr S.nx 0,.cells cs false 0),rfl,h _ (Same.alloc S _) rfl ?_⟩;simp only;rw[dr,if_pos rfl]
theorem cR{n m b s:Nat}{x v:cL}{l:List AO}{F:Fr}{S:St}{Q:Fr->St->Prop}{cs cs':bo}{o:Bool}(hx:x.val F= .ptr b 0)(hv:(v.val F).cells=some cs')(hb:S.h.get b=some (.cells cs o s))(h1:cs.length=n)(h2:cs'.length=n)
  (h:∀S1,bN b S S1->S1.nx=S.nx->S1.h.get b=some (.cells cs' o s)->pA fns l F S1 Q):pA fns (⟨none,.x (.st n x v),none,m⟩::l) F S Q:=by
 refine gB (v:=.undef) (fun call=>?_) (h ⟨S.h.set b (some (.cells cs' o s)),S.nx⟩ ((bN.refl b S).put _) rfl ?_)
 ·rw[eC,hv,aL,hx];exact rG hb h1 h2
 ·simp only;rw[dr,if_pos rfl]
theorem eM(W:Nat->Prop){ops:List AO}{A:bK}{S:St}{Q:Out->bK->St->Prop}(h:∀S1,Same S S1->iD fns W S.h S.nx ops 0 A.F S1 [] none fun F S' ps=>Q .normal ⟨F,A.inr⟩ ⟨(cA (2 ^ ops.length - 1) ps S'.h).2,S'.nx⟩):oD fns (.drw ops) A S Q:=aCn W (h _ (Same.nx S _))
section
variable {W:Nat->Prop}{h0:T AB}{base:Nat}{d:Option Nat}{m i:Nat}{l:List AO}{F:Fr}{S:St}{last:Option Nat}{Q:Fr->St->List kQ->Prop}
theorem bH{f:cL}{args:List cL}(h:nL last m=true)(hw:eR fns (f.val F) (cO args F) S fun v S1=>Same S S1/\iD fns W h0 base l (i+1) (cB d F v) S1 [] (some i) Q):iD fns W h0 base (⟨d,.x (.call f args),none,m⟩::l) i F S [] last Q:=
 sQ h hw
theorem jJ{n b s:Nat}{x v:cL}{cs cs':bo}{o:Bool}(h:nL last m=true)(hx:x.val F= .ptr b 0)(hv:(v.val F).cells=some cs')(hb:S.h.get b=some (.cells cs o s))(h1:cs.length=n)(h2:cs'.length=n)(hW:W b)
  (hr:∀S1,bN b S S1->S1.nx=S.nx->S1.h.get b=some (.cells cs' o s)->iD fns W h0 base l (i+1) F S1 [] (some i) Q):iD fns W h0 base (⟨none,.x (.st n x v),none,m⟩::l) i F S [] last Q:=by
 have hS:bN b S ⟨S.h.set b (some (.cells cs' o s)),S.nx⟩:=(bN.refl b S).put _;refine aFt (S1:=⟨S.h.set b (some (.cells cs' o s)),S.nx⟩) h ?_ ⟨Af _,fun c hc hw=>?_⟩ (hr _ hS rfl ?_)
 ·rw[hv,aL,hx];exact rG hb h1 h2
 ·simp only;rw[dr,if_neg (show ¬c=b from fun e=>hw (by rw[e];exact hW))];rfl
 ·simp only;rw[dr,if_pos rfl]
end
theorem eK{S:St}{v:AV}{n:Nat}(h:bV S v n):v.cells=some [v]:=by
 have⟨l,h,_⟩:=h;exact aDL h
theorem jD{S:St}{v:AV}{l:bt}(h:bQ S v l):cC v v=true:=by
 rcases h with⟨_,h | h⟩ | ⟨b,off,cap,o,cs,rfl,_⟩
 ·subst h;rfl
 ·subst h;rfl
 ·exact tS ..
theorem cP{S:St}{v:AV}{n:Nat}(h:bV S v n):cC v v=true:=by
 have⟨l,h,_⟩:=h;exact jD h
theorem aGq{x y z:AV}(h1:cC x x=true)(h2:cC y y=true)(h3:cC z z=true):cC (.agg [x,y,z]) (.agg [x,y,z])=true:=by
 simp only[cC,mX,h1,h2,h3,aP]
def vB:bo->Bool
 | []=>true
 | .int _ _::_=>false
 | _::l=>vB l
theorem aEM:∀ {cs:bo} {i:Nat} {k:IntKind} {n:Int},vB cs=true->cs[i]? ≠some (.int k n)
 | [],i,k,n,_,h=>by simp at h
 | c::cs,0,k,n,h,he=>by
  simp at he;subst he;simp [vB] at h
 | c::cs,i+1,k,n,h,he=>by
  have:vB cs=true:=by
   cases c<;>simp only[vB,Ao] at h<;>exact h
  exact aEM this (by simpa using he)
theorem bQ.st{S S':St}{v:AV}{l:bt}{b:Nat}{cs cs':bo}{o o':Bool}{s s':Nat}(h:bQ S v l)(hb:S.h.get b=some (.cells cs o s))(hn:vB cs=true)(hs:bN b S S')(hb':S'.h.get b=some (.cells cs' o' s')):bQ S' v l:=by
 rcases h with h | ⟨c,off,cap,o1,ds,rfl,hc,hlt,hcs,hel⟩
 ·exact .inl h
 ·by_cases hcb:c=b
  ·subst hcb;refine .inr ⟨c,off,cap,o1,cs',rfl,hc,Ag hlt hs.1,by simp [bU,hb',dI],fun i x hx=>?_⟩;have h1:=hel i x hx;have:ds=cs:=by simpa [bU,hb,dI] using hcs.symm
   subst this;exact absurd h1 (aEM hn)
  ·refine .inr ⟨c,off,cap,o1,ds,rfl,hc,Ag hlt hs.1,?_,hel⟩;unfold bU;rw[hs.2 c hlt hcb];exact hcs
theorem bV.st{S S':St}{v:AV}{n:Nat}{b:Nat}{cs cs':bo}{o o':Bool}{s s':Nat}(h:bV S v n)(hb:S.h.get b=some (.cells cs o s))(hn:vB cs=true)(hs:bN b S S')(hb':S'.h.get b=some (.cells cs' o' s')):bV S' v n:=by
 have⟨l,h1,h2⟩:=h;exact⟨l,h1.st hb hn hs hb',h2⟩
def bP(S:St)(v:AV)(q:Rat):Prop:=∃nv dv,v= .agg [.bool (decide (q.num<0)),nv,dv]/\bV S nv q.num.natAbs/\bV S dv q.den
def aDK(q:Rat):Prop:=Fits q.num.natAbs/\Fits q.den
theorem bP.same{S S':St}{v:AV}{q:Rat}(h:bP S v q)(hs:Same S S'):bP S' v q:=by
 have⟨nv,dv,h1,h2,h3⟩:=h;exact⟨nv,dv,h1,h2.same hs,h3.same hs⟩
theorem bP.st{S S':St}{v:AV}{q:Rat}{b:Nat}{cs cs':bo}{o o':Bool}{s s':Nat}(h:bP S v q)(hb:S.h.get b=some (.cells cs o s))(hn:vB cs=true)(hs:bN b S S')(hb':S'.h.get b=some (.cells cs' o' s')):bP S' v q:=by
 have⟨nv,dv,h1,h2,h3⟩:=h;exact⟨nv,dv,h1,h2.st hb hn hs hb',h3.st hb hn hs hb'⟩
theorem bP.cells{S:St}{v:AV}{q:Rat}(h:bP S v q):∃x y z,v= .agg [x,y,z]:=by
 have⟨nv,dv,h1,h2,h3⟩:=h;exact⟨_,_,_,h1⟩
theorem mI{S:St}{neg:Bool}{nv dv:AV}{n d:Nat}(hn:bV S nv n)(hd:bV S dv d)(hd0:d≠0)(hc:Nat.Coprime n d)(hneg:n=0->neg=false):bP S (.agg [.bool neg,nv,dv]) (mkRat (sg neg n) d):=by
 have⟨h1,h2⟩:=aLX (n:=sg neg n) hd0 (by rw[nT];exact hc);refine⟨nv,dv,?_,?_,?_⟩
 ·rw[h1,aPb hneg]
 ·rw[h1,nT];exact hn
 ·rw[h2];exact hd
theorem yQ{S:St}{dv:AV}(hd:bV S dv 1):bP S (.agg [.bool false,.cd,dv]) 0:=⟨.cd,dv,rfl,aFb,hd⟩
theorem aAk{q:Rat}(h:q.num.natAbs=0):q=0:=by
 have:q.num=0:=by omega
 exact Rat.num_eq_zero.1 this
theorem aFR{S:St}{a b:AV}{x y:Nat}(H:Has fns)(hL:Laid S)(ha:bV S a x)(hb:bV S b y)(hx:Fits x)(hy:Fits y):
  eR fns (.fn 141 [] []) [a,b] S fun r S'=>r= .bool (decide (Nat.gcd x y=1))/\Same S S':=by
 have⟨l,ha1,hl,hlx⟩:=id ha;have⟨m,hb1,hm,hmy⟩:=id hb;refine bE H.f141 (by simp) ?_;refine ae ?_;refine aY (ae ?_);refine aC (aC (aX (Q:=fun o A' S'=>o= .normal/\S'=S/\A'.inr=false/\aD 0 A'.F=a/\aD 1 A'.F=b/\aD 12 A'.F= .bool (decide (l.length<=2/\m.length<=2))) ?_ ?_))
 ·refine aJ ?_;by_cases h1:l.length<=2
  ·have d1:decide ((l.length:Int)<=2)=true:=Ab au;by_cases h2:m.length<=2
   ·have d2:decide ((m.length:Int)<=2)=true:=Ab au;simp only[↓sU,sD,rE,↓reduceIte,rA,ha1.len,hb1.len,d1,d2];simp [h1,h2]
   ·have d2:decide ((m.length:Int)<=2)=false:=Aa au;simp only[↓sU,sD,rE,↓reduceIte,rA,ha1.len,hb1.len,d1,d2];simp [h2]
  ·have d1:decide ((l.length:Int)<=2)=false:=Aa au;simp only[↓sU,sD,rE,↓reduceIte,rA,ha1.len,d1];simp [h1]
 rintro o ⟨F,inr⟩ S' ⟨rfl,hS',q0,p0,p1,p12⟩;simp only at q0 p0 p1 p12;subst q0;rw[hS'];try refine ae ?_
 by_cases h12:l.length<=2/\m.length<=2
 ·refine aN (by simp only[↓sU,sD,rE,↓reduceIte,rA,p12,Ab h12]) ?_;refine aY (dh p0 ?_);refine aK (ae ?_);refine aG (oK H ha1 hl h12.1) ?_;rintro _ T ⟨rfl,hT⟩;rw[hT];refine dh p1 ?_;refine aK (ae ?_);refine aG (oK H hb1 hm h12.2) ?_;rintro _ T ⟨rfl,hT⟩;rw[hT];try refine ae ?_
  refine aK (ae ?_);have k1:=nQ hl.1 h12.1;have k2:=nQ hm.1 h12.2;refine aG (qV H hL au au) ?_;rintro _ T ⟨rfl,hT⟩;rw[hT];try refine ae ?_
  refine aI (dk hlx hmy ?_);refine⟨?_,Same.refl _⟩;congr 1;exact Fi.2 au
 ·refine aM (by simp only[↓sU,sD,rE,↓reduceIte,rA,p12,Aa h12]) (aH ?_);refine ae ?_;refine aY (dk p0 p1 ?_);refine aK (ae ?_);refine aG (tL H hL ha hb hx hy) ?_;rintro g S1 ⟨⟨gl,hg1,hg2,hg3⟩,hS1⟩;try refine ae ?_
  refine aK (ae ?_);refine aG (aDz H.f117 hg1) ?_;rintro _ T ⟨rfl,hT⟩;rw[hT];try refine ae ?_
  refine aI (ae ?_);refine⟨?_,hS1⟩;congr 1;exact Fi.2 ((aFl hg2).symm.trans (by rw[hg3]))
theorem tH{S:St}(H:Has fns):eR fns (.fn 97 [] []) [] S fun r S'=>bP S' r 0/\Same S S':=by
 refine bE H.f97 (by simp) ?_;refine aj ?_;refine aY ?_;refine bY ?_;intro S1 hS1 hn1 hb1;refine aj ?_;refine aY ?_;refine aK (aj ?_);refine aG (wD H.f108) ?_;rintro dv S2 ⟨hd,hS2⟩;have hbd:∀F:Fr,aD 1 F=dv->jK (.build [(.bool false),.cd,.cd] [(2,1,(.t 1))]) F S2.h=some (.agg [.bool false,.cd,dv]):=fun F h=>by
  show aU (iJ [.bool false,.cd,.cd] [(2,1,aD 1 F)]) (fun cs=>some (AV.agg cs))=_;rw[h];simp only[iJ,eK hd,aL];rfl
 try refine aj ?_
 rw[hbd _ (ak)];refine aj ?_;have hb2:S2.h.get S.nx=some (.cells [.bool false,.cd,.cd] false 0):=by rw[hS2.2 _ au];exact hb1
 refine cR (b:=S.nx) (ak) (by simp only[↓stU,aB,rE,↓reduceIte,aR];rfl) hb2 rfl rfl ?_;intro S3 hS3 hn3 hb3;refine aj ?_;refine aI ?_;have hS:=hS3.same (hS1.trans hS2) (Af _);have hd3:=hd.st hb2 rfl hS3 hb3;refine er @bF (kJ hb3) ?_;exact⟨yQ hd3,hS⟩
theorem aJA(z:Int):mkRat z 1=(z:Rat):=by
 rw[<-Rat.mk_eq_mkRat z 1 ay (by simp)];rfl
theorem aIU{S:St}{neg:Bool}{v:AV}{n:Nat}(H:Has fns)(h:bV S v n)(hn:Fits n):eR fns (.fn 107 [] []) [.bool neg,v] S fun r S'=>bP S' r ((sg neg n:Int):Rat)/\Same S S':=by
 have⟨l,hl1,hl2,hl3⟩:=id h;refine bE H.f107 (by simp) ?_;refine aj ?_;refine aY ?_;refine bY ?_;intro S1 hS1 hn1 hb1;refine aj ?_;have h1:=h.same hS1;have hl:=hl1.same hS1;refine aC (aX (Q:=fun o A' S'=>o= .normal/\bN S.nx S1 S'/\∃nv dv,S'.h.get S.nx=some (.cells [.bool (neg && decide (0<n)),nv,dv] false 0)/\bV S' nv n/\bV S' dv 1/\aD 4 A'.F= .ptr S.nx 0) ?_ ?_)
 ·refine aJ ?_;have tail:∀ (F:Fr),aD 11 F=v->aD 4 F= .ptr S.nx 0->aD 10 F= .bool (neg && decide (0<n))->pA fns [oc 12 101 [(.t 11)] 0,oc 13 108 [] 0,oq 14 (.build [(.bool false),.cd,.cd] [(0,1,(.t 10)),(1,1,(.t 12)),(2,1,(.t 13))]),⟨none,(.x (.st 3 (.t 4) (.t 14))),none,0⟩] F S1
    (fun F' S'=>bN S.nx S1 S'/\∃nv dv,S'.h.get S.nx=some (.cells [.bool (neg && decide (0<n)),nv,dv] false 0)/\bV S' nv n/\bV S' dv 1/\aD 4 F'= .ptr S.nx 0):=by
   intro F p1 p4 p10;refine aK (eo p1 ?_);refine aG (mR H.f101 h1 hn) ?_;rintro nv S2 ⟨hnv,hS2⟩;refine aK (aj ?_);refine aG (wD H.f108) ?_;rintro dv S3 ⟨hdv,hS3⟩;refine e7 @sC p10 @iV (eK hnv) (eK hdv) ?_;have hb3:S3.h.get S.nx=some (.cells [.bool false,.cd,.cd] false 0):=by rw[hS3.2 _ (aw hS2.1),hS2.2 _ au];exact hb1
   refine cR (b:=S.nx) (am p4) (by simp only[↓stU,aB,rE,↓reduceIte,aR];rfl) hb3 rfl rfl ?_;intro S4 hS4 hn4 hb4;refine eo p4 ?_;have h23:=hS2.trans hS3;exact⟨⟨Bd h23.1 hS4.1,fun c hc hne=>(hS4.2 c (Ag hc h23.1) hne).trans (h23.2 c hc)⟩,nv,dv,hb4,(hnv.same hS3).st hb3 rfl hS4 hb4,hdv.st hb3 rfl hS4 hb4⟩
  cases neg with
  | false=>
   refine aj ?_;exact tail _ (ak) (ak) (by simp only[↓stU,aB,rE,↓reduceIte];rfl)
  | true=>
   have e:decide ((0:Int)<(l.length:Int))=decide (0<n):=by
    apply Fi.2;rw[<-hl3];have:=xR hl2;rcases Ap (val l) with h0 | h0
    ·rw[this.1 h0];simp [cN]
    ·have:l≠ []:=fun e=>by rw[e,cN] at h0;omega
     have:=Du.2 this;omega
   refine er hl.len e ?_;exact tail _ (ak) (ak) (by simp only[↓stU,aB,rE,↓reduceIte];rfl)
 ·rintro o ⟨F,inr⟩ S' ⟨rfl,hSb,nv,dv,hb,hnv,hdv,p4⟩;simp only at p4;refine aj ?_;refine aI (eu @bF p4 (kJ hb) ?_);refine⟨?_,hSb.same hS1 (Af _)⟩;have:((sg neg n:Int):Rat)=mkRat (sg (neg && decide (0<n)) n) 1:=by
   rw[aJA];congr 1;rcases Ap n with h0 | h0
   ·subst h0;cases neg<;>rfl
   ·simp [h0]
  rw[this];exact mI hnv hdv ay (Nat.coprime_one_right _) (fun h0=>by subst h0;simp)
theorem aDb{S:St}{v:AV}{q:Rat}(H:Has fns)(h:bP S v q)(hf:aDK q):eR fns (.fn 145 [] []) [v] S fun r S'=>bP S' r q/\Same S S':=by
 obtain⟨nv,dv,rfl,h1,h2⟩:=h;refine bE H.f145 (by simp) ?_;refine aj ?_;refine aY ?_;refine bW (by simp only[↓stU,aB,rE,↓reduceIte,aR];rfl) ?_;intro S1 hS1 hn1 hb1;refine bY ?_;intro S2 hS2 hn2 hb2;refine aj ?_;have hb1':S2.h.get S.nx=some (.cells [.bool (decide (q.num<0)),nv,dv] false 0):=by rw[hS2.2 _ au];exact hb1
 have hS12:=hS1.trans hS2;have lt1:S.nx<S2.nx:=by omega
 have ne1:¬S.nx=S1.nx:=by omega
 refine aC (eM (fun c=>c=S1.nx) ?_);intro S3 hS3;have hS13:=hS12.trans hS3;simp only[↓sU,sD,rE,↓reduceIte,rA,aF,aE,aV,eJ hb1',eY hb1',lt1,ne1,Ak,cP h1];refine bH rfl ?_;refine ae ?_;refine aG (mR H.f101 (h1.same hS13) hf.1) ?_;rintro nv' S4 ⟨hn',hS4⟩;refine⟨hS4,?_⟩;refine d7 @aF @aE @aV (dC hb1') lt1 ne1 @Ak (cP h2) ?_;refine bH rfl ?_;refine ae ?_;refine aG (mR H.f101 (h2.same (hS13.trans hS4)) hf.2) ?_;rintro dv' S5 ⟨hd',hS5⟩;refine⟨hS5,?_⟩;refine dx @iC @sC @iV (eK hn') (eK hd') ?_;have hb5:S5.h.get S1.nx=some (.cells [.bool false,.cd,.cd] false 0):=by
  have:=hS3.1;have:=hS4.1;rw[hS5.2 _ au,hS4.2 _ au,hS3.2 _ au];exact hb2
 refine jJ (b:=S1.nx) rfl (af) (by simp only[↓sU,sD,rE,↓reduceIte,rA,aR];rfl) hb5 rfl rfl rfl ?_;intro S6 hS6 hn6 hb6;refine ae ?_;refine aI (dk @bF (kJ hb6) ?_);refine⟨⟨nv',dv',rfl,(hn'.same hS5).st hb5 rfl hS6 hb6,hd'.st hb5 rfl hS6 hb6⟩,hS6.same (hS13.trans (hS4.trans hS5)) au⟩
theorem kE{S:St}{a b:AV}{x y:Nat}(H:Has fns)(ha:bV S a x)(hb:bV S b y)(hx:Fits x)(hy:0<y):eR fns (.fn 102 [] []) [a,b] S fun r S'=>bV S' r (x / y)/\Same S S':=by
 have⟨m,hb1,hm,hmy⟩:=id hb;refine bE H.f102 (by simp) ?_;refine aj ?_;refine aY (aj ?_);refine dS (aj ?_);refine aK (aj ?_);refine aG (aDz H.f117 hb1) ?_;rintro _ T ⟨rfl,hT⟩;rw[hT];try refine aj ?_
 by_cases h1:m= [1]
 ·refine aN (by simp only[↓stU,aB,rE,↓reduceIte,Ab h1]) ?_;refine aY (aj ?_);refine aI (aj ?_);have:y=1:=by rw[<-hmy,h1,lT]
  rw[this,Nat.div_one];exact⟨ha,Same.refl _⟩
 ·refine aM (by simp only[↓stU,aB,rE,↓reduceIte,Aa h1]) (aH ?_);refine aj ?_;refine aY (aj ?_);refine aK (aj ?_);refine aG (aDc H ha hb hx hy) ?_;rintro _ S2 ⟨qv,rv,rfl,hq,hr,hS2⟩;refine er @nP @nN ?_;refine aY (aj ?_);refine aI (aj ?_);exact⟨hq,hS2⟩
theorem qL{S:St}{neg:Bool}{n d:Nat}(H:Has fns)(hL:Laid S)(hn:0<n)(hd:0<d)(hn2:n<=18446744073709551615)(hd2:d<=18446744073709551615):eR fns (.fn 98 [] []) [.bool neg,.int .u64 (n:Int),.int .u64 (d:Int)] S fun r S'=>bP S' r (mkRat (sg neg n) d)/\Same S S':=by
 have hg:0<Nat.gcd n d:=Dr _ hn;have q1:=iT (.p .int) (t:=n) (d:=Nat.gcd n d) hn2 hg;have q2:=iT (.p .int) (t:=d) (d:=Nat.gcd n d) hd2 hg;refine bE H.f98 (by simp) ?_;refine aj ?_;refine aY ?_;refine bY ?_;intro S1 hS1 hn1 hb1;refine aj ?_;refine aY (aj ?_);refine aK (aj ?_);refine aG (qV H (hL.same hS1) hn2 hd2) ?_;rintro _ T ⟨rfl,hT⟩;rw[hT];try refine aj ?_
 refine aC (eM (fun c=>c=S.nx) ?_);intro S2 hS2;refine dh q1 ?_;refine bH rfl ?_;refine ae ?_;refine aG (tT H.f82 (by have:=Ea n (Nat.gcd n d);omega)) ?_;rintro nv S3 ⟨hnv,hS3⟩;refine⟨hS3,?_⟩;refine dh q2 ?_;refine bH rfl ?_;refine ae ?_;refine aG (tT H.f82 (by have:=Ea d (Nat.gcd n d);omega)) ?_;rintro dv S4 ⟨hdv,hS4⟩;refine⟨hS4,?_⟩;refine dx @iC @sC @iV (eK hnv) (eK hdv) ?_;have hb4:S4.h.get S.nx=some (.cells [.bool false,.cd,.cd] false 0):=by
  have:=hS2.1;have:=hS3.1;rw[hS4.2 _ au,hS3.2 _ au,hS2.2 _ au];exact hb1
 refine jJ (b:=S.nx) rfl (af) (by simp only[↓sU,sD,rE,↓reduceIte,rA,aR];rfl) hb4 rfl rfl rfl ?_;intro S5 hS5 hn5 hb5;refine ae ?_;refine aI (dk @bF (kJ hb5) ?_);have⟨e1,e2,e3⟩:=lowest (neg:=neg) (n:=n) (d:=d) (g:=Nat.gcd n d) rfl au;rw[<-e1];refine⟨mI ((hnv.same hS4).st hb4 rfl hS5 hb5) (hdv.st hb4 rfl hS5 hb5) e3 e2 (fun h0=>?_),hS5.same (hS1.trans (hS2.trans (hS3.trans hS4))) (Af _)⟩;have:=Gc (Gk d hn) hg;omega
theorem aBm{l:bt}(h:jM l):l.length=0↔val l=0:=by rw[Ce,xR h]
theorem aI7{S:St}{neg:Bool}{a b:AV}{x y:Nat}(H:Has fns)(hL:Laid S)(ha:bV S a x)(hb:bV S b y)(hx:Fits x)(hy:Fits y)(hy0:0<y):eR fns (.fn 81 [] []) [.bool neg,a,b] S fun r S'=>bP S' r (mkRat (sg neg x) y)/\Same S S':=by
 have⟨l,ha1,hl,hlx⟩:=id ha;have⟨m,hb1,hm,hmy⟩:=id hb;refine bE H.f81 (by simp) ?_;refine aj ?_;refine aY ?_;refine bY ?_;intro S1 hS1 hn1 hbk1;refine aj ?_;have ha':=ha1.same hS1;have hb':=hb1.same hS1;have haN:=ha.same hS1;have hbN:=hb.same hS1;refine dS (eo ha'.len ?_);by_cases h0:l.length=0
 ·refine aN (by simp only[↓stU,aB,rE,↓reduceIte,Ab (show(l.length:Int)=0 by omega)]) ?_;refine aY ?_;refine aK (aj ?_);refine aG (tH H) ?_;rintro z S2 ⟨hz,hS2⟩;obtain⟨c1,c2,c3,rfl⟩:=hz.cells;have hb2:S2.h.get S.nx=some (.cells [.bool false,.cd,.cd] false 0):=by rw[hS2.2 _ au];exact hbk1
  refine cR (b:=S.nx) (ak) (by simp only[↓stU,aB,rE,↓reduceIte,aR];rfl) hb2 rfl rfl ?_;intro S3 hS3 hn3 hb3;refine aj ?_;refine aI (er @bF (kJ hb3) ?_);have hx0:x=0:=by rw[<-hlx];exact(aBm hl).1 h0
  have e:mkRat (sg neg x) y=0:=by subst hx0;cases neg<;>simp [sg]
  rw[e];exact⟨hz.st hb2 rfl hS3 hb3,hS3.same (hS1.trans hS2) (Af _)⟩
 have hxp:0<x:=by
  rcases Ap x with h | h
  ·exact absurd ((aBm hl).2 au) h0
  ·exact h
 refine aM (by simp only[↓stU,aB,rE,↓reduceIte,Aa (show ¬ (l.length:Int)=0 by omega)]) (aH ?_);refine aj ?_;refine aC (aC (aX (Q:=fun o A' S'=>o= .normal/\S'=S1/\A'.inr=false/\aD 0 A'.F= .bool neg/\aD 1 A'.F=a/\aD 2 A'.F=b/\aD 6 A'.F= .ptr S.nx 0/\aD 19 A'.F= .bool (decide (l.length<=2/\m.length<=2))) ?_ ?_))
 ·refine aJ ?_;by_cases h1:l.length<=2
  ·have d1:decide ((l.length:Int)<=2)=true:=Ab au;by_cases h2:m.length<=2
   ·have d2:decide ((m.length:Int)<=2)=true:=Ab au;simp only[↓sU,sD,rE,↓reduceIte,rA,ha'.len,hb'.len,d1,d2];simp [h1,h2]
   ·have d2:decide ((m.length:Int)<=2)=false:=Aa au;simp only[↓sU,sD,rE,↓reduceIte,rA,ha'.len,hb'.len,d1,d2];simp [h2]
  ·have d1:decide ((l.length:Int)<=2)=false:=Aa au;simp only[↓sU,sD,rE,↓reduceIte,rA,ha'.len,d1];simp [h1]
 rintro o ⟨F,inr⟩ S' ⟨rfl,hS',q0,p0,p1,p2,p6,p19⟩;simp only at q0 p0 p1 p2 p6 p19;subst q0;rw[hS'];try refine ae ?_
 by_cases h12:l.length<=2/\m.length<=2
 ·refine aN (by simp only[↓sU,sD,rE,↓reduceIte,rA,p19,Ab h12]) ?_;refine aY (dk p0 p1 ?_);refine aK (ae ?_);refine aG (oK H ha' hl h12.1) ?_;rintro _ T ⟨rfl,hT⟩;rw[hT];refine dh p2 ?_;refine aK (ae ?_);refine aG (oK H hb' hm h12.2) ?_;rintro _ T ⟨rfl,hT⟩;rw[hT];try refine ae ?_
  refine aK (dk hlx hmy ?_);have k1:=nQ hl.1 h12.1;have k2:=nQ hm.1 h12.2;refine aG (qL H (hL.same hS1) hxp hy0 au au) ?_;rintro z S2 ⟨hz,hS2⟩;obtain⟨c1,c2,c3,rfl⟩:=hz.cells;have hb2:S2.h.get S.nx=some (.cells [.bool false,.cd,.cd] false 0):=by rw[hS2.2 _ au];exact hbk1
  refine cR (b:=S.nx) (ah p6) (by simp only[↓sU,sD,rE,↓reduceIte,rA,aR];rfl) hb2 rfl rfl ?_;intro S3 hS3 hn3 hb3;refine ae ?_;refine aI (dm @bF p6 (kJ hb3) ?_);exact⟨hz.st hb2 rfl hS3 hb3,hS3.same (hS1.trans hS2) (Af _)⟩
 refine aM (by simp only[↓sU,sD,rE,↓reduceIte,rA,p19,Aa h12]) (aH ?_);refine ae ?_;have hg:0<Nat.gcd x y:=Dr _ hxp;refine aY (dk p1 p2 ?_);refine aK (ae ?_);refine aG (tL H (hL.same hS1) haN hbN hx hy) ?_;rintro gv S2 ⟨hgv,hS2⟩;try refine ae ?_
 refine aY (dk p0 p1 ?_);refine aK (ae ?_);refine aG (kE H (haN.same hS2) hgv hx hg) ?_;rintro v1 S3 ⟨hv1,hS3⟩;try refine ae ?_
 refine aK (ae ?_);refine aG (mR H.f101 hv1 (hx.mono (Ea ..))) ?_;rintro v2 S4 ⟨hv2,hS4⟩;refine dh p2 ?_;refine aK (ae ?_);have h24:=hS2.trans (hS3.trans hS4);refine aG (kE H (hbN.same h24) (hgv.same (hS3.trans hS4)) hy hg) ?_;rintro v3 S5 ⟨hv3,hS5⟩;try refine ae ?_
 refine aK (ae ?_);refine aG (mR H.f101 hv3 (hy.mono (Ea ..))) ?_;rintro v4 S6 ⟨hv4,hS6⟩;refine dy @iC @sC p0 @iV (eK hv2) (eK hv4) ?_;have h26:=h24.trans (hS5.trans hS6);have hb6:S6.h.get S.nx=some (.cells [.bool false,.cd,.cd] false 0):=by rw[h26.2 _ au];exact hbk1
 refine cR (b:=S.nx) (ah p6) (by simp only[↓sU,sD,rE,↓reduceIte,rA,aR];rfl) hb6 rfl rfl ?_;intro S7 hS7 hn7 hb7;refine ae ?_;refine aI (dm @bF p6 (kJ hb7) ?_);have⟨e1,e2,e3⟩:=lowest (neg:=neg) (n:=x) (d:=y) (g:=Nat.gcd x y) rfl au;rw[<-e1];refine⟨mI ((hv2.same (hS5.trans hS6)).st hb6 rfl hS7 hb7) (hv4.st hb6 rfl hS7 hb7) e3 e2 (fun h0=>?_),hS7.same (hS1.trans h26) (Af _)⟩;have:=Gc (Gk y hxp) hg;omega
theorem aPR(b:Bool):(b==b)=true:=by cases b<;>rfl
theorem aKl{S:St}{s t:Bool}{a b:AV}{x y:Nat}(H:Has fns)(ha:bV S a x)(hb:bV S b y)(hx:Fits x)(hy:Fits y):eR fns (.fn 147 [] []) [.bool s,a,.bool t,b] S fun r S'=>∃u z n,r= .tup [.bool u,z]/\bV S' z n/\sg u n=sg s x+sg t y/\Same S S':=by
 have heq:∀p q:Bool,kH .eql (.p .bool) (.bool p) (.bool q)=some (.bool (p==q)):=by intro p q;cases p<;>cases q<;>rfl
 refine bE H.f147 (by simp) ?_;refine aj ?_;refine aY (aj ?_);refine dS (eo heq ?_);by_cases hst:s=t
 ·subst hst;refine aN (by simp only[↓stU,aB,rE,↓reduceIte,aPR]) ?_;refine aY (aj ?_);refine aK (aj ?_);refine aG (aMu H.f152 ha hb hx hy) ?_;rintro z S1 ⟨hz,hS1⟩;try refine aj ?_
  refine aI (aj ?_);refine⟨s,z,x+y,rfl,hz,?_,hS1⟩;cases s<;>simp [sg]<;>omega
 refine aM (by refine aj ?_;cases s<;>cases t<;>first | rfl | exact absurd rfl hst) (aH ?_);refine aj ?_;refine dS (aj ?_);refine aK (aj ?_);refine aG (aAT H.f118 ha hb hx) ?_;rintro _ S1 ⟨rfl,hS1⟩;refine aj ?_;have hc:decide (0<=yV x y)=decide (y<=x):=by
  unfold yV;by_cases h1:x<y
  ·rw[if_pos h1];exact Fi.2 au
  ·rw[if_neg h1];by_cases h2:x=y
   ·rw[if_pos h2];exact Fi.2 au
   ·rw[if_neg h2];exact Fi.2 au
 by_cases hle:y<=x
 ·refine aN (by simp only[↓stU,aB,rE,↓reduceIte,hc,Ab hle]) ?_;refine aY (aj ?_);refine aK (aj ?_);refine aG (aGk H.f139 H.f153 (ha.same hS1) (hb.same hS1) hle hx) ?_;rintro z S2 ⟨hz,hS2⟩;try refine aj ?_
  refine aI (aj ?_);refine⟨s,z,x - y,rfl,hz,?_,hS1.trans hS2⟩;cases s<;>cases t<;>simp [sg]<;>first | omega | exact absurd rfl hst
 ·refine aM (by simp only[↓stU,aB,rE,↓reduceIte,hc,Aa hle]) (aH ?_);refine aj ?_;refine aY (aj ?_);refine aK (aj ?_);refine aG (aGk H.f139 H.f153 (hb.same hS1) (ha.same hS1) au hy) ?_;rintro z S2 ⟨hz,hS2⟩;try refine aj ?_
  refine aI (aj ?_);refine⟨t,z,y - x,rfl,hz,?_,hS1.trans hS2⟩;cases s<;>cases t<;>simp [sg]<;>first | omega | exact absurd rfl hst
theorem aFe{q:Rat}(h:q.num≠0):mkRat (sg (decide (q.num<0)) q.den) q.num.natAbs=q⁻¹ :=by
 symm
 apply Rat.inv_eq_of_mul_eq_one;have hq:=Ep q
 conv=>lhs;lhs;rw[<-hq]
 rw[Rat.mkRat_mul_mkRat,show(1:Rat)=mkRat 1 1 from rfl,Rat.mkRat_eq_iff (Gx q.den_nz au) ay];by_cases hn:q.num<0
 ·simp only[hn,decide_true,sg,Ck,Bj];have:(q.num.natAbs:Int)= -q.num:=by omega
  rw[this];grind
 ·simp only[hn,decide_false,sg,Ao,Bm,Bj];have:(q.num.natAbs:Int)=q.num:=by omega
  rw[this];grind
theorem aFK{S:St}{v:AV}{q:Rat}(H:Has fns)(h:bP S v q)(hf:aDK q)(h0:q.num≠0):eR fns (.fn 106 [] []) [v] S fun r S'=>bP S' r q⁻¹ /\Same S S':=by
 obtain⟨nv,dv,rfl,h1,h2⟩:=h;refine bE H.f106 (by simp) ?_;refine aj ?_;refine aY ?_;refine bW (by simp only[↓stU,aB,rE,↓reduceIte,aR];rfl) ?_;intro S1 hS1 hn1 hb1;refine bY ?_;intro S2 hS2 hn2 hb2;refine aj ?_;have hb1':S2.h.get S.nx=some (.cells [.bool (decide (q.num<0)),nv,dv] false 0):=by rw[hS2.2 _ au];exact hb1
 have hS12:=hS1.trans hS2;have lt1:S.nx<S2.nx:=by omega
 have ne1:¬S.nx=S1.nx:=by omega
 refine aC (eM (fun c=>c=S1.nx) ?_);intro S3 hS3;have hS13:=hS12.trans hS3;simp only[↓sU,sD,rE,↓reduceIte,rA,aF,aE,aV,eJ hb1',dC hb1',lt1,ne1,Ak,cP h2];refine bH rfl ?_;refine ae ?_;refine aG (mR H.f101 (h2.same hS13) hf.2) ?_;rintro nv' S4 ⟨hn',hS4⟩;refine⟨hS4,?_⟩;refine d7 @aF @aE @aV (eY hb1') lt1 ne1 @Ak (cP h1) ?_;refine bH rfl ?_;refine ae ?_;refine aG (mR H.f101 (h1.same (hS13.trans hS4)) hf.1) ?_;rintro dv' S5 ⟨hd',hS5⟩;refine⟨hS5,?_⟩;refine dx @iC @sC @iV (eK hn') (eK hd') ?_;have hb5:S5.h.get S1.nx=some (.cells [.bool false,.cd,.cd] false 0):=by
  have:=hS3.1;have:=hS4.1;rw[hS5.2 _ au,hS4.2 _ au,hS3.2 _ au];exact hb2
 refine jJ (b:=S1.nx) rfl (af) (by simp only[↓sU,sD,rE,↓reduceIte,rA,aR];rfl) hb5 rfl rfl rfl ?_;intro S6 hS6 hn6 hb6;refine ae ?_;refine aI (dk @bF (kJ hb6) ?_);refine⟨?_,hS6.same (hS13.trans (hS4.trans hS5)) au⟩;rw[<-aFe h0];exact mI ((hn'.same hS5).st hb5 rfl hS6 hb6) (hd'.st hb5 rfl hS6 hb6) au (Nat.Coprime.symm q.reduced) (fun h=>absurd h q.den_nz)
theorem tW{S:St}{v:AV}{n:Nat}(h:bV S v n):∃k:Nat,kT v=some (.int .i64 (k:Int))/\(k=0↔n=0):=by
 have⟨l,h1,h2,h3⟩:=h;exact⟨l.length,h1.len,by rw[<-h3];exact aBm h2⟩
theorem pV(b:Bool):unV .not (.bool b)=some (.bool (!b)):=by cases b<;>rfl
theorem aAZ{S:St}{s t:Bool}{a b c d:AV}{l1 l2 l3 l4:bt}(H:Has fns)(h1:bQ S a l1)(h2:bQ S b l2)(h3:bQ S c l3)(h4:bQ S d l4):
  eR fns (.fn 142 [] []) [.agg [.bool s,a,b],.agg [.bool t,c,d]] S fun r S'=>r= .bool (decide (l1.length=1/\l2.length=1/\l3.length=1/\l4.length=1))/\Same S S':=by
 refine bE H.f142 (by simp) ?_;refine aj ?_;refine aY ?_;refine bW (by simp only[↓stU,aB,rE,↓reduceIte,aR];rfl) ?_;intro S1 hS1 hn1 hb1;refine bW (by simp only[↓stU,aB,rE,↓reduceIte,aR];rfl) ?_;intro S2 hS2 hn2 hb2;refine aj ?_;have hb1':S2.h.get S.nx=some (.cells [.bool s,a,b] false 0):=by rw[hS2.2 _ au];exact hb1
 have hS12:=hS1.trans hS2;refine aC (aX (Q:=fun o A' S'=>o= .normal/\Same S S'/\aD 4 A'.F= .bool (decide (l1.length=1/\l2.length=1/\l3.length=1/\l4.length=1))) ?_ ?_)
 ·refine aJ ?_;by_cases e1:l1.length=1
  ·have d1:decide ((l1.length:Int)=1)=true:=Ab au;by_cases e2:l2.length=1
   ·have d2:decide ((l2.length:Int)=1)=true:=Ab au;by_cases e3:l3.length=1
    ·have d3:decide ((l3.length:Int)=1)=true:=Ab au;by_cases e4:l4.length=1
     ·have d4:decide ((l4.length:Int)=1)=true:=Ab au;simp only[↓sU,sD,rE,↓reduceIte,rA,aF,aE,eY hb1',dC hb1',eY hb2,dC hb2,h1.len,h2.len,h3.len,h4.len,d1,d2,d3,d4];exact⟨hS12,by simp [e1,e2,e3,e4]⟩
     ·have d4:decide ((l4.length:Int)=1)=false:=Aa au;simp only[↓sU,sD,rE,↓reduceIte,rA,aF,aE,eY hb1',dC hb1',eY hb2,dC hb2,h1.len,h2.len,h3.len,h4.len,d1,d2,d3,d4];exact⟨hS12,by simp [e4]⟩
    ·have d3:decide ((l3.length:Int)=1)=false:=Aa au;simp only[↓sU,sD,rE,↓reduceIte,rA,aF,aE,eY hb1',dC hb1',eY hb2,h1.len,h2.len,h3.len,d1,d2,d3];exact⟨hS12,by simp [e3]⟩
   ·have d2:decide ((l2.length:Int)=1)=false:=Aa au;refine d7 @aF @aE (eY hb1') (dC hb1') h1.len h2.len d1 d2 ?_;exact⟨hS12,by simp [e2]⟩
  ·have d1:decide ((l1.length:Int)=1)=false:=Aa au;refine dx @aF @aE (eY hb1') h1.len d1 ?_;exact⟨hS12,by simp [e1]⟩
 ·rintro o ⟨F,inr⟩ S' ⟨rfl,hS,p4⟩;simp only at p4;refine aj ?_;refine aI (eo p4 ?_);exact hS
theorem rW{S:St}{v:AV}{x:Nat}(h:bQ S v [x]):cT (nC v 0) false 1 S.h=some (.int .u32 ((x:Nat):Int)):=by
 have:=h.ld (i:=0) (by simp);simpa using this
theorem rY{S:St}{v:AV}{x:Nat}(h:bQ S v [x]):dN (.slice 1) v 0=some (nC v 0):=h.cw (i:=0) (by simp)
theorem aF7:dY (.int .i64 0)=some 0:=rfl
theorem aCw(p q:Bool):kH .eql (.p .bool) (.bool p) (.bool q)=some (.bool (p==q)):=by cases p<;>cases q<;>rfl
theorem aCq(p q:Bool):kH .neq (.p .bool) (.bool p) (.bool q)=some (.bool (p !=q)):=by cases p<;>cases q<;>rfl
theorem aNy{S:St}{v:AV}{x:Nat}{W:Nat->Prop}(h:bQ S v [x])(hW:∀b,b<S.nx->¬W b){base:Nat}(hb:S.nx<=base):aLs W base (nC v 0):=by
 rcases h with⟨h0,_⟩ | ⟨b,off,cap,o,cs,rfl,hc,hlt,_⟩
 ·simp at h0
 ·exact⟨b,off+0 * 1,rfl,au,hW b hlt⟩
theorem aCB{S:St}{s t:Bool}{a b c d:AV}{x1 y1 x2 y2:Nat}(H:Has fns)(hL:Laid S)(h1:bQ S a [x1])(h2:bQ S b [y1])(h3:bQ S c [x2])(h4:bQ S d [y2])(b1:x1<B)(b2:y1<B)(b3:x2<B)(b4:y2<B)(z1:0<x1)(z2:0<y1)(z3:0<x2)(z4:0<y2):
  eR fns (.fn 146 [] []) [.agg [.bool s,a,b],.agg [.bool t,c,d]] S fun r S'=>bP S' r (mkRat (sg s x1) y1+mkRat (sg t x2) y2)/\Same S S':=by
 have hB:B=1000000000:=rfl;have m1:x1 * y2<=999999999 * 999999999:=Ef au au;have m2:x2 * y1<=999999999 * 999999999:=Ef au au;have m3:y1 * y2<=999999999 * 999999999:=Ef au au;have p1:0<x1 * y2:=Em z1 z4;have p2:0<x2 * y1:=Em z3 z2;have p3:0<y1 * y2:=Em z2 z4;have w1:IntKind.u64.wrap (x1:Int)=(x1:Int):=wrap_u64 au au;have w2:IntKind.u64.wrap (y1:Int)=(y1:Int):=wrap_u64 au au;have w3:IntKind.u64.wrap (x2:Int)=(x2:Int):=wrap_u64 au au;have w4:IntKind.u64.wrap (y2:Int)=(y2:Int):=wrap_u64 au au;have w5:IntKind.u64.wrap ((x1:Int) * (y2:Int))=((x1 * y2:Nat):Int):=by rw[<-Bj];exact wrap_u64 au au
 have w6:IntKind.u64.wrap ((x2:Int) * (y1:Int))=((x2 * y1:Nat):Int):=by rw[<-Bj];exact wrap_u64 au au
 have w7:IntKind.u64.wrap ((y1:Int) * (y2:Int))=((y1 * y2:Nat):Int):=by rw[<-Bj];exact wrap_u64 au au
 have hsum:mkRat (sg s x1) y1+mkRat (sg t x2) y2=mkRat (sg s (x1 * y2)+sg t (x2 * y1)) (y1 * y2):=by
  rw[Rat.mkRat_add_mkRat _ _ au au];congr 1;cases s<;>cases t<;>simp [sg]<;>grind
 rw[hsum];obtain⟨x,hx⟩:∃x,x1 * y2=x:=⟨_,rfl⟩;obtain⟨y,hy⟩:∃y,x2 * y1=y:=⟨_,rfl⟩;obtain⟨z,hz⟩:∃z,y1 * y2=z:=⟨_,rfl⟩;rw[hx] at w5 p1 m1;rw[hy] at w6 p2 m2;rw[hz] at w7 p3 m3;rw[hx,hy,hz];refine bE H.f146 (by simp) ?_;refine aj ?_;refine aY ?_;refine bW (by simp only[↓stU,aB,rE,↓reduceIte,aR];rfl) ?_;intro S1 hS1 hn1 hb1;refine bW (by simp only[↓stU,aB,rE,↓reduceIte,aR];rfl) ?_;intro S2 hS2 hn2 hb2;refine bY ?_;intro S3 hS3 hn3 hb3;refine aj ?_;have g1:S3.h.get S.nx=some (.cells [.bool s,a,b] false 0):=by rw[hS3.2 _ au,hS2.2 _ au];exact hb1
 have g2:S3.h.get S1.nx=some (.cells [.bool t,c,d] false 0):=by rw[hS3.2 _ au];exact hb2
 have hS:=hS1.trans (hS2.trans hS3);have k1:=h1.same hS;have k2:=h2.same hS;have k3:=h3.same hS;have k4:=h4.same hS;refine aC (jA ?_);simp only[↓sU,sD,rE,↓reduceIte,rA,aF,aE,aV,eY g1,dC g1,eY g2,dC g2,jD k1,jD k2,jD k3,jD k4,aF7,rY k1,rY k2,rY k3,rY k4,rW k1,rW k2,rW k3,rW k4,w1,w2,w3,w4,w5,w6];refine aC (jA ?_);simp only[↓sU,sD,rE,↓reduceIte,rA,aF,aE,aV,dC g1,dC g2,jD k2,jD k4,aF7,rY k2,rY k4,rW k2,rW k4,w2,w4,w7];have go:∀ (S4:St),Same S3 S4->∀ (v:AV) (Q:Rat),bP S4 v Q->∃c0 c1 c2,v= .agg [c0,c1,c2]/\S4.h.get S2.nx=some (.cells [.bool false,.cd,.cd] false 0)/\∀S5,bN S2.nx S4 S5->S5.h.get S2.nx=some (.cells [c0,c1,c2] false 0)->bP S5 (.agg [c0,c1,c2]) Q/\Same S S5:=by
  intro S4 hS4 v Q hv;obtain⟨c0,c1,c2,rfl⟩:=hv.cells;have hb4:S4.h.get S2.nx=some (.cells [.bool false,.cd,.cd] false 0):=by rw[hS4.2 _ au];exact hb3
  exact⟨c0,c1,c2,rfl,hb4,fun S5 hS5 hb5=>⟨hv.st hb4 rfl hS5 hb5,hS5.same (hS.trans hS4) au⟩⟩
 obtain⟨T,hT⟩:∃T:St,T=⟨S3.h,S3.nx+24+12⟩:=⟨_,rfl⟩;have hST:Same S3 T:=by rw[hT];exact(Same.nx S3 24).trans (Same.nx _ 12)
 have gT1:T.h.get S.nx=some (.cells [.bool s,a,b] false 0):=by rw[hT];exact g1
 have gT2:T.h.get S1.nx=some (.cells [.bool t,c,d] false 0):=by rw[hT];exact g2
 rw[<-hT];clear hT;have hLT:=hL.same (hS.trans hST);refine dS (dx @aF @aE (eJ gT1) (eJ gT2) @aCw ?_);by_cases hst:s=t
 ·subst hst;have w8:IntKind.u64.wrap ((x:Int)+(y:Int))=((x+y:Nat):Int):=by rw[wrap_u64 au au];omega
  refine aN (by simp only[↓sU,sD,rE,↓reduceIte,rA,aPR]) ?_;refine aY (du @aF @aE (eJ gT1) w8 ?_);refine aK (ae ?_);refine aG (qL H hLT au p3 au au) ?_;rintro v S4 ⟨hv,hS4⟩;obtain⟨c0,c1,c2,rfl,hb4,fin⟩:=go S4 (hST.trans hS4) v _ hv;refine cR (b:=S2.nx) (af) (by simp only[↓sU,sD,rE,↓reduceIte,rA,aR];rfl) hb4 rfl rfl ?_;intro S5 hS5 hn5 hb5;refine ae ?_;refine aI (dk @bF (kJ hb5) ?_);have e:sg s x+sg s y=sg s (x+y):=by cases s<;>simp [sg]<;>omega
  rw[e];exact fin S5 hS5 hb5
 have hne:(s==t)=false:=by cases s<;>cases t<;>first | rfl | exact absurd rfl hst
 refine aM (ah hne) (aH ?_);refine ae ?_;refine dS (ae ?_);by_cases hxy:x=y
 ·refine aN (by simp only[↓sU,sD,rE,↓reduceIte,rA,Ab (show(x:Int)=(y:Int) by omega)]) ?_;refine aY ?_;refine aK (ae ?_);refine aG (tH H) ?_;rintro v S4 ⟨hv,hS4⟩;obtain⟨c0,c1,c2,rfl,hb4,fin⟩:=go S4 (hST.trans hS4) v _ hv;refine cR (b:=S2.nx) (af) (by simp only[↓sU,sD,rE,↓reduceIte,rA,aR];rfl) hb4 rfl rfl ?_;intro S5 hS5 hn5 hb5;refine ae ?_;refine aI (dk @bF (kJ hb5) ?_);have e:sg s x+sg t y=0:=by subst hxy;cases s<;>cases t<;>simp [sg]<;>first | omega | exact absurd rfl hst
  rw[e,Rat.zero_mkRat];exact fin S5 hS5 hb5
 refine aM (by simp only[↓sU,sD,rE,↓reduceIte,rA,Aa (show ¬ (x:Int)=(y:Int) by omega)]) (aH ?_);refine ae ?_;refine dS (ae ?_);by_cases hgt:y<x
 ·have w8:IntKind.u64.wrap ((x:Int) - (y:Int))=((x - y:Nat):Int):=by rw[wrap_u64 au au];omega
  refine aN (by simp only[↓sU,sD,rE,↓reduceIte,rA,Ab (show(y:Int)<(x:Int) by omega)]) ?_;refine aY (du @aF @aE (eJ gT1) w8 ?_);refine aK (ae ?_);refine aG (qL H hLT au p3 au au) ?_;rintro v S4 ⟨hv,hS4⟩;obtain⟨c0,c1,c2,rfl,hb4,fin⟩:=go S4 (hST.trans hS4) v _ hv;refine cR (b:=S2.nx) (af) (by simp only[↓sU,sD,rE,↓reduceIte,rA,aR];rfl) hb4 rfl rfl ?_;intro S5 hS5 hn5 hb5;refine ae ?_;refine aI (dk @bF (kJ hb5) ?_);have e:sg s x+sg t y=sg s (x - y):=by cases s<;>cases t<;>simp [sg]<;>first | omega | exact absurd rfl hst
  rw[e];exact fin S5 hS5 hb5
 have w8:IntKind.u64.wrap ((y:Int) - (x:Int))=((y - x:Nat):Int):=by rw[wrap_u64 au au];omega
 refine aM (by simp only[↓sU,sD,rE,↓reduceIte,rA,Aa (show ¬ (y:Int)<(x:Int) by omega)]) (aH ?_);refine ae ?_;refine aY (du @aF @aE (eJ gT2) w8 ?_);refine aK (ae ?_);refine aG (qL H hLT au p3 au au) ?_;rintro v S4 ⟨hv,hS4⟩;obtain⟨c0,c1,c2,rfl,hb4,fin⟩:=go S4 (hST.trans hS4) v _ hv;refine cR (b:=S2.nx) (af) (by simp only[↓sU,sD,rE,↓reduceIte,rA,aR];rfl) hb4 rfl rfl ?_;intro S5 hS5 hn5 hb5;refine ae ?_;refine aI (dk @bF (kJ hb5) ?_);have e:sg s x+sg t y=sg t (y - x):=by cases s<;>cases t<;>simp [sg]<;>first | omega | exact absurd rfl hst
 rw[e];exact fin S5 hS5 hb5
end Go.Ev.Gl
