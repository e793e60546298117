import Derived.Test.YtbmodoaceepfoaaGl1
set_option linter.all false
set_option maxHeartbeats 0
namespace Go.Ev.Gl
variable {fns:T fD}
variable {base d n b:Nat}{F:Fr}{args:List cQ}{l:List AO}{Q:Fr->St->Prop}{t u x v r w y G H I J K L:Prop}{A:bO}{S:St}{cs cs':bu}
def lL(last:Option Nat)(m:Nat):Bool:=
 match last with
 | none=>true
 | some i=>Nat.testBit m i
def aRc(W:Nat->Prop)(base:Nat)(v:AV):Prop:=∃b off,v= .ptr b off/\b<base/\¬W b
def aCr(W:Nat->Prop)(base:Nat)(q:QOp)(F:Fr):Prop:=(∃agg n x,q= .ld agg n x/\aRc W base (x.val F))\/∃a z ok m k b,q= .lookup a z ok m k/\m.val F= .map b/\b<base/\¬W b
def aGK(W:Nat->Prop)(base:Nat)(S S':St):Prop:=S.nx<=S'.nx/\∀b,b<base->¬W b->S'.h.get b=S.h.get b
def gO(fns:T fD)(W:Nat->Prop)(h0:T AB)(base:Nat):List AO->Nat->Fr->St->List jD->Option Nat->(Fr->St->List jD->Prop)->Prop
 | [],_,F,S,ps,_,Q=>Q F S ps
 | ⟨d,op,g,m⟩::l,i,F,S,ps,last,Q=>
  if fX g F=true then
   match op with
   | .q q=>nE (iC q F (bX (dU q) h0 S.h)) fun v=>(dU q=true->cI v v=true/\aCr W base q F)/\gO fns W h0 base l (i+1) (cT d F v) S ps last Q
   | .a a=>nE (uI a F (base+i)) fun r=>gO fns W h0 base l (i+1) (cT d F r.1) S (⟨i,base+i,r.2⟩::ps) last Q
   | .x (.call f args)=>lL last m=true/\iK fns (f.val F) (dV args F) ⟨(cN m ps S.h).2,S.nx⟩ fun v S1=>(jq ⟨(cN m ps S.h).2,S.nx⟩ S1\/aGK W base ⟨(cN m ps S.h).2,S.nx⟩ S1)/\gO fns W h0 base l (i+1) (cT d F v) S1 (cN m ps S.h).1 (some i) Q
   | .x (.inv c r args)=>lL last m=true/\∃t f u,r.val F= .iface t u/\aEZ t c=some (f,none)/\iK fns (.fn f [u] []) (dV args F) ⟨(cN m ps S.h).2,S.nx⟩ fun v S1=>jq ⟨(cN m ps S.h).2,S.nx⟩ S1/\gO fns W h0 base l (i+1) (cT d F v) S1 (cN m ps S.h).1 (some i) Q
   | .x x=>lL last m=true/\∃v S1,(∀call,evX x call F ⟨(cN m ps S.h).2,S.nx⟩=some (v,S1))/\aGK W base ⟨(cN m ps S.h).2,S.nx⟩ S1/\gO fns W h0 base l (i+1) (cT d F v) S1 (cN m ps S.h).1 (some i) Q
  else gO fns W h0 base l (i+1) (cT d F .undef) S ps last Q
structure DOk(W:Nat->Prop)(h0:T AB)(base:Nat)(D:DS):Prop where
 cur:∀b,b<base->¬W b->D.S.h.get b=h0.get b
 nx:base<=D.S.nx
 chain:∀e∈D.hs,∀b,b<base->¬W b->e.2.2.get b=h0.get b
 lds:∀l∈D.ls,cI l.v l.v=true/\aCr W base l.q l.F/\iC l.q l.F h0=some l.v
 pend:∀p∈D.ps,base<=p.id
def aCr.ev{W:Nat->Prop}{q:QOp}(h:aCr W base q F){h0 a:T AB}(p:∀b,b<base->¬W b->a.get b=h0.get b):iC q F a=iC q F h0:=by
 rcases h with⟨agg,n,x,rfl,b,off,c,f,g⟩|⟨r,z,ok,m,k,b,rfl,c,f,g⟩
 .rw[nC,nC,c];have e:cG a b=cG h0 b:=by unfold cG;rw[p b f g]
  simp only[eE,qK,aAi,nJ,e]
 .show(bD (uW a (m.val F)) fun j=>_)=bD (uW h0 (m.val F)) fun j=>_;rw[c];show(bD (bD (a.get b) tS) fun j=>_)=bD (bD (h0.get b) tS) fun j=>_;rw[p b f g]
def aBU{base b:Nat}(a:b<base){m:Nat}:∀ {ps:List jD} {h:T AB},(∀p∈ps,base<=p.id)->(cN m ps h).2.get b=h.get b
 | [],h,_=>rfl
 | p::ps,h,c=>by
  have g:=c p (by simp);have e:∀q∈ps,base<=q.id:=fun q f=>c q (by simp [f]);unfold cN;cases Nat.testBit m p.i with
  | true=>rw[aL,aBU a e,dx,if_neg au]
  | false=>rw[aR];exact aBU a e
def aBT{base:Nat}{m:Nat}:∀ {ps:List jD} {h:T AB},(∀p∈ps,base<=p.id)->∀p∈(cN m ps h).1,base<=p.id
 | [],h,_,p,g=>by cases g
 | p::ps,h,c,r,a=>by
  have e:∀q∈ps,base<=q.id:=fun q j=>c q (by simp [j]);unfold cN at a;cases f:Nat.testBit m p.i with
  | true=>rw[f,aL] at a;exact aBT e r a
  | false=>
   rw[f,aR] at a;rcases Bm.1 a with rfl|a
   .exact c r (by simp)
   .exact aBT e r a
def aGi{W:Nat->Prop}{h0:T AB}{base:Nat}{l:mC}(h:cI l.v l.v=true/\aCr W base l.q l.F/\iC l.q l.F h0=some l.v):∀ {c:List (Nat×Nat×T AB)} {a:T AB},(∀e∈c,∀b,b<base->¬W b->e.2.2.get b=h0.get b)->(∀b,b<base->¬W b->a.get b=h0.get b)->eU l c a=true
 | [],a,_,f=>by
  show pE l.v (iC l.q l.F a)=true;rw[h.2.1.ev f,h.2.2];exact h.1
 | (i,m,h')::r,a,c,f=>by
  have g:pE l.v (iC l.q l.F a)=true:=by rw[h.2.1.ev f,h.2.2];exact h.1
  have j:eU l r h'=true:=aGi h (fun e k=>c e (by simp [k])) (c (i,m,h') (by simp));unfold eU;rw[g,j];cases Nat.testBit l.mask i<;>cases Nat.testBit m l.i<;>rfl
def oD{h0:T AB}{a:List (Nat×Nat×T AB)}:∀ {ls:List mC},(∀l∈ls,eU l a h0=true)->iF h0 a ls=true
 | [],_=>rfl
 | l::ls,h=>by rw[pH,h l (by simp),aL];exact oD fun l' c=>h l' (by simp [c])
def aPQ{d:Option Nat}{a:List (Nat×Nat×Option (Bool×Nat))}{recv:cQ}{m i:Nat}{D:DS}{Q:DS->Prop}{t f:Nat}{u:AV}(c:recv.val D.F= .iface t u)(g:aEZ t a=some (f,none))(h:wpd fns (⟨d,.x (.call (.c (.fn f [u] [])) args),none,m⟩::l) i base D Q):wpd fns (⟨d,.x (.inv a recv args),none,m⟩::l) i base D Q:=by
 have⟨n,j,k,p⟩:=h;refine⟨n,j,?_,p⟩;have e:tW ⟨d,.x (.inv a recv args),none,m⟩ i base (ev fns n).call D=tW ⟨d,.x (.call (.c (.fn f [u] [])) args),none,m⟩ i base (ev fns n).call D:=by
  show bX (kN D.hs m) (bD (evX (.inv a recv args) (ev fns n).call D.F ⟨(cN m D.ps D.S.h).2,D.S.nx⟩) _) none=bX (kN D.hs m) (bD (evX (.call (.c (.fn f [u] [])) args) (ev fns n).call D.F ⟨(cN m D.ps D.S.h).2,D.S.nx⟩) _) none;rw[aPo c g]
 show bD (tW ⟨d,.x (.inv a recv args),none,m⟩ i base (ev fns n).call D) _=_;rw[e];exact k
def nK{W:Nat->Prop}{h0:T AB}{base:Nat}{Q:Fr->St->List jD->Prop}:∀ {H:List AO} {i:Nat} {D:DS} {last:Option Nat},DOk W h0 base D->D.hs.head?.map (·.1)=last->gO fns W h0 base H i D.F D.S D.ps last Q->
  wpd fns H i base D fun j=>Q j.F j.S j.ps/\DOk W h0 base j
 | [],i,D,last,c,_,w=>by rw[iL];exact⟨w,c⟩
 | ⟨d,op,g,m⟩::l,i,D,last,c,k,w=>by
  have B:lL last m=true->kN D.hs m=true:=fun h=>by
   subst k;cases hh:D.hs with
   | nil=>rfl
   | cons e r=>rw[hh] at h;exact h
  unfold gO at w;by_cases C:fX g D.F=true
  .rw[if_pos C] at w;have lift:wpd fns (⟨d,op,none,m⟩::l) i base D (fun j=>Q j.F j.S j.ps/\DOk W h0 base j)->wpd fns (⟨d,op,g,m⟩::l) i base D (fun j=>Q j.F j.S j.ps/\DOk W h0 base j):=by
    rintro⟨n,j,N,O⟩;refine⟨n,j,?_,O⟩;have:tW ⟨d,op,g,m⟩ i base (ev fns n).call D=tW ⟨d,op,none,m⟩ i base (ev fns n).call D:=by
     show bX (fX g D.F) _ _=bX true _ _;rw[C];cases op<;>rfl
    show bD (tW ⟨d,op,g,m⟩ i base (ev fns n).call D) _=_;rw[this];exact N
   apply lift;cases op with
   | q q=>
    have⟨v,E,hs,w⟩:=w;rw[iT];cases P:dU q with
    | false=>
     rw[P,aR] at E;refine⟨v,E,?_⟩;simp only[aR];exact nK (D:=⟨cT d D.F v,D.S,D.ps,D.hs,D.ls⟩) ⟨c.cur,c.nx,c.chain,c.lds,c.pend⟩ k w
    | true=>
     rw[P,aL] at E;have⟨R,I⟩:=hs P;refine⟨v,by rw[I.ev c.cur];exact E,?_⟩;simp only[aL];refine nK (D:=⟨cT d D.F v,D.S,D.ps,D.hs,⟨q,D.F,v,i,m⟩::D.ls⟩) ⟨c.cur,c.nx,c.chain,fun l' U=>?_,c.pend⟩ k w;rcases Bm.1 U with rfl|U
     .exact⟨R,I,E⟩
     .exact c.lds l' U
   | a a=>
    have⟨r,E,w⟩:=w;rw[aFf];refine⟨r,E,nK (D:=⟨cT d D.F r.1,D.S,⟨i,base+i,r.2⟩::D.ps,D.hs,D.ls⟩) ⟨c.cur,c.nx,c.chain,c.lds,fun p V=>?_⟩ k w⟩;rcases Bm.1 V with rfl|V
    .exact Br _ _
    .exact c.pend p V
   | x x=>
    have ji:∀ (v:AV) (S1:St),aGK W base ⟨(cN m D.ps D.S.h).2,D.S.nx⟩ S1->DOk W h0 base ⟨cT d D.F v,S1,(cN m D.ps D.S.h).1,(i,m,S1.h)::D.hs,D.ls⟩:=fun v S1 Y=>by
     have Z:∀b,b<base->¬W b->S1.h.get b=h0.get b:=fun b G C=>by
      rw[Y.2 b G C];show(cN m D.ps D.S.h).2.get b=_;rw[aBU G c.pend];exact c.cur b G C
     refine⟨Z,Aq c.nx Y.1,fun e X=>?_,c.lds,aBT c.pend⟩;rcases Bm.1 X with rfl|X
     .exact Z
     .exact c.chain e X
    have other:(∀f args,x≠ .call f args)->(∀J r args,x≠ .inv J r args)->(lL last m=true/\∃v S1,(∀call,evX x call D.F ⟨(cN m D.ps D.S.h).2,D.S.nx⟩=some (v,S1))/\aGK W base ⟨(cN m D.ps D.S.h).2,D.S.nx⟩ S1/\gO fns W h0 base l (i+1) (cT d D.F v) S1 (cN m D.ps D.S.h).1 (some i) Q)->wpd fns (⟨d,.x x,none,m⟩::l) i base D (fun j=>Q j.F j.S j.ps/\DOk W h0 base j):=by
     rintro _ _ ⟨K,v,S1,L,A,M⟩;exact iS (B K) L (nK (D:=⟨cT d D.F v,S1,(cN m D.ps D.S.h).1,(i,m,S1.h)::D.hs,D.ls⟩) (ji v S1 A) rfl M)
    cases x with
    | call f args=>
     have⟨K,n,v,S1,L,A,M⟩:=w;refine aBe (B K) ⟨n,v,S1,L,?_⟩;exact nK (D:=⟨cT d D.F v,S1,(cN m D.ps D.S.h).1,(i,m,S1.h)::D.hs,D.ls⟩) (ji v S1 (A.elim (fun A=>⟨A.1,fun b G _=>A.2 b (Ae G c.nx)⟩) id)) rfl M
    | inv J r args=>
     have⟨K,t,f,u,hu,hf,n,v,S1,L,A,M⟩:=w;refine aPQ hu hf (aBe (B K) ⟨n,v,S1,L,?_⟩);exact nK (D:=⟨cT d D.F v,S1,(cN m D.ps D.S.h).1,(i,m,S1.h)::D.hs,D.ls⟩) (ji v S1 ⟨A.1,fun b G _=>A.2 b (Ae G c.nx)⟩) rfl M
    | _=>exact other (fun _ _ h=>by cases h) (fun _ _ _ h=>by cases h) w
  .rw[if_neg C] at w;have⟨n,j,N,O⟩:=nK (i:=i+1) (D:=⟨cT d D.F .undef,D.S,D.ps,D.hs,D.ls⟩) (last:=last) ⟨c.cur,c.nx,c.chain,c.lds,c.pend⟩ k w;refine⟨n,j,?_,O⟩;have:tW ⟨d,op,g,m⟩ i base (ev fns n).call D=some ⟨cT d D.F .undef,D.S,D.ps,D.hs,D.ls⟩:=by
    show bX (fX g D.F) _ _=_;rw[show fX g D.F=false by simpa using C];rfl
   show bD (tW ⟨d,op,g,m⟩ i base (ev fns n).call D) _=_;rw[this];exact N
def nR(W:Nat->Prop){a:List AO}{Q:Out->bO->St->Prop}(h:gO fns W S.h S.nx a 0 A.F ⟨S.h,S.nx+a.length⟩ [] none fun F S' ps=>Q .normal ⟨F,A.inr⟩ ⟨(cN (2 ^ a.length - 1) ps S'.h).2,S'.nx⟩):jN fns (.drw a) A S Q:=by
 apply rC;have⟨n,j,k,q,g⟩:=nK (fns:=fns) (i:=0) (D:=⟨A.F,⟨S.h,S.nx+a.length⟩,[],[],[]⟩) (last:=none) ⟨fun _ _ _=>rfl,Br _ _,fun e c=>(by cases c),fun l f=>(by cases f),fun p r=>(by cases r)⟩ rfl h;exact⟨n,j,k,oD fun l f=>aGi (g.lds l f) (fun e c=>g.chain e (Fm.1 c)) (fun _ _ _=>rfl),q⟩
def aNx(fns:T fD)(W:Nat->Prop)(h0:T AB)(base:Nat)(x:Option AV)(ld:Bool)(old:Prop)(d:Option Nat)(l:List AO)(i:Nat)(F:Fr)(S:St)(ps:List jD)(last:Option Nat)(Q:Fr->St->List jD->Prop):Prop:=nE x fun v=>(ld=true->cI v v=true/\old)/\gO fns W h0 base l i (cT d F v) S ps last Q
def aI0(fns:T fD)(W:Nat->Prop)(h0:T AB)(base:Nat)(x:Option (AV×AB))(d:Option Nat)(l:List AO)(i:Nat)(F:Fr)(S:St)(ps:List jD)(last:Option Nat)(Q:Fr->St->List jD->Prop):Prop:=nE x fun r=>gO fns W h0 base l (i+1) (cT d F r.1) S (⟨i,base+i,r.2⟩::ps) last Q
section
variable {W:Nat->Prop}{h0:T AB}{base:Nat}{d:Option Nat}{m i:Nat}{l:List AO}{F:Fr}{S:St}{ps:List jD}{last:Option Nat}{Q:Fr->St->List jD->Prop}
def aIB:gO fns W h0 base [] i F S ps last Q↔Q F S ps:=Iff.rfl
def aOe{q:QOp}:gO fns W h0 base (⟨d,.q q,none,m⟩::l) i F S ps last Q↔aNx fns W h0 base (iC q F (bX (dU q) h0 S.h)) (dU q) (aCr W base q F) d l (i+1) F S ps last Q:=by
 rw[gO,if_pos (show fX none F=true from rfl)];rfl
def aE7{v:AV}{ld:Bool}{old:Prop}:aNx fns W h0 base (some v) ld old d l i F S ps last Q↔(ld=true->cI v v=true/\old)/\gO fns W h0 base l i (cT d F v) S ps last Q:=by unfold aNx;rw[dJ]
def aOP{a:yX}:gO fns W h0 base (⟨d,.a a,none,m⟩::l) i F S ps last Q↔aI0 fns W h0 base (uI a F (base+i)) d l i F S ps last Q:=by
 rw[gO,if_pos (show fX none F=true from rfl)];rfl
def lR{r:AV×AB}:aI0 fns W h0 base (some r) d l i F S ps last Q↔gO fns W h0 base l (i+1) (cT d F r.1) S (⟨i,base+i,r.2⟩::ps) last Q:=by unfold aI0;rw[dJ]
def aF2{f:cQ}(h:lL last m=true)(a:iK fns (f.val F) (dV args F) ⟨(cN m ps S.h).2,S.nx⟩ fun v S1=>jq ⟨(cN m ps S.h).2,S.nx⟩ S1/\gO fns W h0 base l (i+1) (cT d F v) S1 (cN m ps S.h).1 (some i) Q):gO fns W h0 base (⟨d,.x (.call f args),none,m⟩::l) i F S ps last Q:=by
 rw[gO,if_pos (show fX none F=true from rfl)];exact⟨h,aW a fun v S1 h=>⟨.inl h.1,h.2⟩⟩
def jH{f:cQ}(h:lL last m=true)(a:iK fns (f.val F) (dV args F) ⟨(cN m ps S.h).2,S.nx⟩ fun v S1=>aGK W base ⟨(cN m ps S.h).2,S.nx⟩ S1/\gO fns W h0 base l (i+1) (cT d F v) S1 (cN m ps S.h).1 (some i) Q):gO fns W h0 base (⟨d,.x (.call f args),none,m⟩::l) i F S ps last Q:=by
 rw[gO,if_pos (show fX none F=true from rfl)];exact⟨h,aW a fun v S1 h=>⟨.inr h.1,h.2⟩⟩
def qC{x v:cQ}{S1:St}(h:lL last m=true)(a:bD (v.val F).cells (fun cs=>qZ (x.val F) n cs ⟨(cN m ps S.h).2,S.nx⟩)=some (.undef,S1))(c:aGK W base ⟨(cN m ps S.h).2,S.nx⟩ S1)(e:gO fns W h0 base l (i+1) (cT d F .undef) S1 (cN m ps S.h).1 (some i) Q):gO fns W h0 base (⟨d,.x (.st n x v),none,m⟩::l) i F S ps last Q:=by
 unfold gO;rw[if_pos (show fX none F=true from rfl)];exact⟨h,_,S1,fun call=>a,c,e⟩
def aN4{op:AOp}{s:Nat}{b:Bool}:gO fns W h0 base (⟨d,op,some (s,b),m⟩::l) i F S ps last Q↔if isB (aA s F) b=true then gO fns W h0 base (⟨d,op,none,m⟩::l) i F S ps last Q else gO fns W h0 base l (i+1) (cT d F .undef) S ps last Q:=by
 conv=>lhs;unfold gO
 rw[show fX (some (s,b)) F=isB (aA s F) b from rfl];split
 .conv=>rhs;unfold gO
  rw[if_pos (show fX none F=true from rfl)]
 .rfl
def aKS{agg:Bool}{n:Nat}{x:cQ}:aCr W base (.ld agg n x) F↔aRc W base (x.val F):=by
 constructor
 .rintro(⟨_,_,_,h,a⟩|⟨_,_,_,_,_,_,h,_⟩)
  .cases h;exact a
  .cases h
 .exact fun h=>.inl ⟨_,_,_,rfl,h⟩
def xM{a:tC}{z:AV}{ok:Bool}{m k:cQ}(h:m.val F= .map b)(c:b<base)(e:¬W b):aCr W base (.lookup a z ok m k) F:=.inr ⟨_,_,_,_,_,b,rfl,h,c,e⟩
def aHY{b off:Nat}:aRc W base (.ptr b off)↔b<base/\¬W b:=by
 constructor
 .rintro⟨_,_,h,a⟩;cases h;exact a
 .exact fun h=>⟨_,_,rfl,h⟩
end
abbrev stV:=And.intro @aIB (And.intro @aOe (And.intro @aOP (And.intro @aN4 (@aCm))))
abbrev stW:=And.intro @aE7 (And.intro @lR (And.intro @aKS (And.intro @aHY (And.intro @bK (And.intro (@Aw AO) (And.intro (@Ca AO) (And.intro (@Aw AV) (And.intro (@Ca AV) (And.intro (@Aw Nat) (@Ca Nat))))))))))
def aU(i:Nat)(x:cQ)(F:Fr)(h:T AB):iC (.dd i x) F h=aAE (x.val F) i:=rfl
def aT(b o i:Nat):aAE (.ptr b o) i=some (.ptr b (o+i)):=rfl
def cP(i:Nat)(x:cQ):dU (.dd i x)=false:=rfl
def dG(x:cQ)(F:Fr)(h:T AB):iC (.cw x) F h=wN (x.val F):=rfl
def dH(b o:Nat):wN (.ptr b o)=some (.ptr b o):=rfl
def fG(x:cQ):dU (.cw x)=false:=rfl
abbrev sU:=And.intro aD stV
abbrev sD:=And.intro aC (And.intro stW (And.intro @aU (And.intro @aT (And.intro @cP (And.intro @aY (And.intro @dG (And.intro @dH (And.intro @fG (And.intro @ex0 @ex1)))))))))
def i7{p:Prop}(h:p:=by simp only[↓sU,sD,Nat.reduceEqDiff,↓reduceIte,Nat.reduceAdd,AV.bool.injEq,decide_eq_true_eq,decide_eq_false_iff_not];omega):p:=h
def ja{p:Prop}(b:r)(h:r->p:=by intro b;simp only[↓sU,sD,Nat.reduceEqDiff,↓reduceIte,Nat.reduceAdd,b]):p:=h b
def jc{p s:Prop}(b:r)(c:s)(h:r->s->p:=by intro b c;simp only[↓sU,sD,Nat.reduceEqDiff,↓reduceIte,Nat.reduceAdd,b,c]):p:=h b c
def c8{p q:Prop}(b:r)(a:q)(h:r->q->p:=by intro b a;simp only[↓sU,sD,Nat.reduceEqDiff,↓reduceIte,Nat.reduceAdd,b];exact a):p:=h b a
def dz{p q s:Prop}(b:r)(c:s)(a:q)(h:r->s->q->p:=by intro b c a;simp only[↓sU,sD,Nat.reduceEqDiff,↓reduceIte,Nat.reduceAdd,b,c];exact a):p:=h b c a
def d8{p q s:Prop}(b:r)(c:s)(d:t)(a:q)(h:r->s->t->q->p:=by intro b c d a;simp only[↓sU,sD,Nat.reduceEqDiff,↓reduceIte,Nat.reduceAdd,b,c,d];exact a):p:=h b c d a
def ec{p q s:Prop}(b:r)(c:s)(d:t)(e:u)(a:q)(h:r->s->t->u->q->p:=by intro b c d e a;simp only[↓sU,sD,Nat.reduceEqDiff,↓reduceIte,Nat.reduceAdd,b,c,d,e];exact a):p:=h b c d e a
def ef{p q s:Prop}(b:r)(c:s)(d:t)(e:u)(f:v)(a:q)(h:r->s->t->u->v->q->p:=by intro b c d e f a;simp only[↓sU,sD,Nat.reduceEqDiff,↓reduceIte,Nat.reduceAdd,b,c,d,e,f];exact a):p:=h b c d e f a
def eu{p q s:Prop}(b:r)(c:s)(d:t)(e:u)(f:v)(g:w)(a:q)(h:r->s->t->u->v->w->q->p:=by intro b c d e f g a;simp only[↓sU,sD,Nat.reduceEqDiff,↓reduceIte,Nat.reduceAdd,b,c,d,e,f,g];exact a):p:=h b c d e f g a
def ew{p q s:Prop}(b:r)(c:s)(d:t)(e:u)(f:v)(g:w)(i:x)(a:q)(h:r->s->t->u->v->w->x->q->p:=by intro b c d e f g i a;simp only[↓sU,sD,Nat.reduceEqDiff,↓reduceIte,Nat.reduceAdd,b,c,d,e,f,g,i];exact a):p:=h b c d e f g i a
def ez{p q s:Prop}(b:r)(c:s)(d:t)(e:u)(f:v)(g:w)(i:x)(j:y)(a:q)(h:r->s->t->u->v->w->x->y->q->p:=by intro b c d e f g i j a;simp only[↓sU,sD,Nat.reduceEqDiff,↓reduceIte,Nat.reduceAdd,b,c,d,e,f,g,i,j];exact a):p:=h b c d e f g i j a
def fe{p q s z:Prop}(b:r)(c:s)(d:t)(e:u)(f:v)(g:w)(i:x)(j:y)(k:z)(a:q)(h:r->s->t->u->v->w->x->y->z->q->p:=by intro b c d e f g i j k a;simp only[↓sU,sD,Nat.reduceEqDiff,↓reduceIte,Nat.reduceAdd,b,c,d,e,f,g,i,j,k];exact a):p:=h b c d e f g i j k a
def ff{p q s z:Prop}(b:r)(c:s)(d:t)(e:u)(f:v)(g:w)(i:x)(j:y)(k:z)(l:G)(a:q)(h:r->s->t->u->v->w->x->y->z->G->q->p:=by intro b c d e f g i j k l a;simp only[↓sU,sD,Nat.reduceEqDiff,↓reduceIte,Nat.reduceAdd,b,c,d,e,f,g,i,j,k,l];exact a):p:=h b c d e f g i j k l a
def fg{p q s z:Prop}(b:r)(c:s)(d:t)(e:u)(f:v)(g:w)(i:x)(j:y)(k:z)(l:G)(m:H)(a:q)(h:r->s->t->u->v->w->x->y->z->G->H->q->p:=by intro b c d e f g i j k l m a;simp only[↓sU,sD,Nat.reduceEqDiff,↓reduceIte,Nat.reduceAdd,b,c,d,e,f,g,i,j,k,l,m];exact a):p:=h b c d e f g i j k l m a
def fh{p q s z:Prop}(b:r)(c:s)(d:t)(e:u)(f:v)(g:w)(i:x)(j:y)(k:z)(l:G)(m:H)(n:I)(a:q)(h:r->s->t->u->v->w->x->y->z->G->H->I->q->p:=by intro b c d e f g i j k l m n a;simp only[↓sU,sD,Nat.reduceEqDiff,↓reduceIte,Nat.reduceAdd,b,c,d,e,f,g,i,j,k,l,m,n];exact a):p:=h b c d e f g i j k l m n a
def fj{p q s z:Prop}(b:r)(c:s)(d:t)(e:u)(f:v)(g:w)(i:x)(j:y)(k:z)(l:G)(m:H)(n:I)(o:J)(a:q)(h:r->s->t->u->v->w->x->y->z->G->H->I->J->q->p:=by intro b c d e f g i j k l m n o a;simp only[↓sU,sD,Nat.reduceEqDiff,↓reduceIte,Nat.reduceAdd,b,c,d,e,f,g,i,j,k,l,m,n,o];exact a):p:=h b c d e f g i j k l m n o a
def fo{p q s z:Prop}(b:r)(c:s)(d:t)(e:u)(f:v)(g:w)(i:x)(j:y)(k:z)(l:G)(m:H)(n:I)(o:J)(A:K)(a:q)(h:r->s->t->u->v->w->x->y->z->G->H->I->J->K->q->p:=by intro b c d e f g i j k l m n o A a;simp only[↓sU,sD,Nat.reduceEqDiff,↓reduceIte,Nat.reduceAdd,b,c,d,e,f,g,i,j,k,l,m,n,o,A];exact a):p:=h b c d e f g i j k l m n o A a
def ft{p q s z:Prop}(b:r)(c:s)(d:t)(e:u)(f:v)(g:w)(i:x)(j:y)(k:z)(l:G)(m:H)(n:I)(o:J)(A:K)(B:L)(a:q)(h:r->s->t->u->v->w->x->y->z->G->H->I->J->K->L->q->p:=by intro b c d e f g i j k l m n o A B a;simp only[↓sU,sD,Nat.reduceEqDiff,↓reduceIte,Nat.reduceAdd,b,c,d,e,f,g,i,j,k,l,m,n,o,A,B];exact a):p:=h b c d e f g i j k l m n o A B a
def fu{p q s z M N:Prop}(b:r)(c:s)(d:t)(e:u)(f:v)(g:w)(i:x)(j:y)(k:z)(l:G)(m:H)(n:I)(o:J)(A:K)(B:L)(C:M)(D:N)(a:q)(h:r->s->t->u->v->w->x->y->z->G->H->I->J->K->L->M->N->q->p:=by intro b c d e f g i j k l m n o A B C D a;simp only[↓sU,sD,Nat.reduceEqDiff,↓reduceIte,Nat.reduceAdd,b,c,d,e,f,g,i,j,k,l,m,n,o,A,B,C,D];exact a):p:=h b c d e f g i j k l m n o A B C D a
def ad{p q:Prop}(a:q)(h:q->p:=by intro a;simp only[↓sU,sD,Nat.reduceEqDiff,↓reduceIte,a]):p:=h a
def ae{p q:Prop}(a:q)(h:q->p:=by intro a;simp only[↓sU,sD,Nat.reduceEqDiff,↓reduceIte,Nat.reduceAdd];exact a):p:=h a
def af{p:Prop}(h:p:=by simp only[↓sU,sD,Nat.reduceEqDiff,↓reduceIte,Nat.reduceAdd]):p:=h
def ag{p:Prop}(h:p:=by simp only[↓sU,sD,Nat.reduceEqDiff,↓reduceIte,Nat.reduceAdd];try rfl):p:=h
def ah{p q:Prop}(a:q)(h:q->p:=by intro a;simp only[↓sU,sD,Nat.reduceEqDiff,↓reduceIte,Nat.reduceAdd,a]):p:=h a
def aGn(e:tC){a b:Int}(c:b≠0):mL .quo e (jr a) (jr b)=some (jr (IntKind.i64.wrap (a.tdiv b))):=by
 show fL .quo .i64 a .i64 b=_;unfold fL;rw[show iE .quo=false from rfl,aR,fH,aL];show aNz .i64 a b=_;unfold aNz;split
 .rename_i m n;have h0:Nat.beq n 0=false:=by
   rw[Ck];intro h;rw[Bn] at h;subst h;exact c rfl
  rw[h0,aR,nat_eq];rfl
 .have h0:ieq b (.ofNat 0)=false:=by
   rw[Ck];intro h;rw[jA] at h;exact c (by simpa using h)
  rw[h0,aR,yE]
def uJ(e:tC){a b:Int}(c:0<=a)(f:a<=9223372036854775807)(g:0<b):mL .quo e (jr a) (jr b)=some (jr (a / b)):=by
 rw[aGn e au,Int.tdiv_eq_ediv_of_nonneg c];rw[wrap_i64]
 .have:=Int.ediv_nonneg c (Int.le_of_lt g);omega
 .have:=Int.ediv_le_self b c;omega
def aIC(a:Int):unV .neg (jr a)=some (jr (IntKind.i64.wrap (-a))):=by
 show some (AV.int .i64 (aI6 .i64 (.ofNat 0) a))=_;rw[aBn];congr 3;show(0:Int) - a= -a;omega
def mx(a b:Int):Int:=if b<=a then a else b
def aOi(l:List cQ)(F:Fr)(h:T AB):iC (.dt true l) F h=oB true (dV l F):=rfl
def aPK(v:AV)(l:bu):oB true (v::l)=lM true l v:=rfl
def aRM(v:AV):lM true [] v=some v:=rfl
def aR8(a b:Int)(l:bu):lM true (jr b::l) (jr a)=lM true l (jr (mx a b)):=by
 show bX (keq .i64 .i64) (lM true l (jr (bX true (bX (ile b a) a b) _))) none=_;rw[fH,aL,aL];congr 2;unfold mx;rw[qT];by_cases h:b<=a
 .rw[if_pos h,Ac h];rfl
 .rw[if_neg h,Aa h];rfl
def aLk(t:Nat)(x:cQ)(F:Fr)(id:Nat):uI (.box t x) F id=bD (x.val F).cells fun cs=>some (.ptr id 0,.cells cs false 0):=rfl
def pY(t:Nat)(cs:bu)(F:Fr)(id:Nat):uI (.alloc t cs) F id=some (.ptr id 0,.cells cs false 0):=rfl
def aBJ(f:Nat)(first cap:List cQ)(F:Fr)(h:T AB):iC (.mkFunc f first cap) F h=some (.fn f (dV first F) (dV cap F)):=rfl
def bB(cs:bu):(AV.agg cs).cells=some cs:=rfl
def aIX(a b c d:Nat)(e:Bool):(AV.sl a b c d e).cells=some [.sl a b c d e]:=rfl
def pI(z:bu)(ps:List (Nat×Nat×cQ)):dU (.build z ps)=false:=rfl
def eI(a:Nat)(agg:Bool)(n:Nat)(c:List RV)(F:Fr)(h:T AB):results (.cell a agg n::c) F h=bD (eE (aA a F) agg n h) fun v=>bD (results c F h) fun vs=>some (v::vs):=rfl
section
variable {h:T AB}{b:Nat}{x y z:AV}{o:Bool}{s:Nat}
def mB(a:h.get b=some (.cells [x,y,z] o s)):eE (.ptr b (0+0)) false 1 h=some x:=by
 simp only[eE,qK,aR,nJ,cG,a,aH,nH,qU];rfl
def aLd(a:h.get b=some (.cells [x,y,z] o s)):eE (.ptr b (0+1)) false 1 h=some y:=by
 simp only[eE,qK,aR,nJ,cG,a,aH,nH,qU];rfl
def lS(a:h.get b=some (.cells [x,y,z] o s)):eE (.ptr b (0+2)) false 1 h=some z:=by
 simp only[eE,qK,aR,nJ,cG,a,aH,nH,qU];rfl
def ld3(a:h.get b=some (.cells [x,y,z] o s)):eE (.ptr b 0) true 3 h=some (.agg [x,y,z]):=by
 simp only[eE,qK,aL,aAi,cG,a,aH,nH];rfl
end
def mM{o:Bool}{s:Nat}(h:S.h.get b=some (.cells cs o s))(e:cs.length=n)(a:cs'.length=n):qZ (.ptr b 0) n cs' S=some (.undef,⟨S.h.set b (some (.cells cs' o s)),S.nx⟩):=by
 have c:put cs 0 cs'=some cs':=by
  rw[put_eq,if_pos au];simp [Cw (au:cs.length<=cs'.length)]
 simp only[qZ,gJ,a,uB,h,aH,aCg,c];rw[show Nat.beq n n=true from Fx n];rfl
def dC{t m:Nat}{x:cQ}(a:(x.val F).cells=some cs)(h:∀S1,jq S S1->S1.nx=S.nx+1->S1.h.get S.nx=js cs->vG fns l (cT (some d) F (.ptr S.nx 0)) S1 Q):vG fns (⟨some d,.a (.box t x),none,m⟩::l) F S Q:=by
 rw[aCm];refine⟨(.ptr S.nx 0,.cells cs false 0),by rw[aLk,a];rfl,h _ (jq.alloc S _) rfl ?_⟩;simp only;rw[dx,if_pos rfl]
def cB{t m:Nat}(h:∀S1,jq S S1->S1.nx=S.nx+1->S1.h.get S.nx=js cs->vG fns l (cT (some d) F (.ptr S.nx 0)) S1 Q):vG fns (⟨some d,.a (.alloc t cs),none,m⟩::l) F S Q:=by
 rw[aCm];refine⟨(.ptr S.nx 0,.cells cs false 0),rfl,h _ (jq.alloc S _) rfl ?_⟩;simp only;rw[dx,if_pos rfl]
def dB{m s:Nat}{x v:cQ}{o:Bool}(a:x.val F= .ptr b 0)(c:(v.val F).cells=some cs')(e:S.h.get b=some (.cells cs o s))(f:cs.length=n)(g:cs'.length=n)
  (h:∀S1,cA b S S1->S1.nx=S.nx->S1.h.get b=some (.cells cs' o s)->vG fns l F S1 Q):vG fns (⟨none,.x (.st n x v),none,m⟩::l) F S Q:=by
 refine eK (v:=.undef) (fun call=>?_) (h ⟨S.h.set b (some (.cells cs' o s)),S.nx⟩ ((cA.refl b S).put _) rfl ?_)
 .rw[dE,c,aH,a];exact mM e f g
 .simp only;rw[dx,if_pos rfl]
def iN(W:Nat->Prop){a:List AO}{Q:Out->bO->St->Prop}(h:∀S1,jq S S1->gO fns W S.h S.nx a 0 A.F S1 [] none fun F S' ps=>Q .normal ⟨F,A.inr⟩ ⟨(cN (2 ^ a.length - 1) ps S'.h).2,S'.nx⟩):jN fns (.drw a) A S Q:=nR W (h _ (jq.nx S _))
section
variable {W:Nat->Prop}{h0:T AB}{base:Nat}{d:Option Nat}{m i:Nat}{l:List AO}{F:Fr}{S:St}{last:Option Nat}{Q:Fr->St->List jD->Prop}
def dT{f:cQ}(h:lL last m=true)(a:iK fns (f.val F) (dV args F) S fun v S1=>jq S S1/\gO fns W h0 base l (i+1) (cT d F v) S1 [] (some i) Q):gO fns W h0 base (⟨d,.x (.call f args),none,m⟩::l) i F S [] last Q:=
 aF2 h a
def aOK{s:Nat}{x v:cQ}{o:Bool}(h:lL last m=true)(a:x.val F= .ptr b 0)(f:(v.val F).cells=some cs')(g:S.h.get b=some (.cells cs o s))(j:cs.length=n)(k:cs'.length=n)(p:W b)
  (q:∀S1,cA b S S1->S1.nx=S.nx->S1.h.get b=some (.cells cs' o s)->gO fns W h0 base l (i+1) F S1 [] (some i) Q):gO fns W h0 base (⟨none,.x (.st n x v),none,m⟩::l) i F S [] last Q:=by
 have r:cA b S ⟨S.h.set b (some (.cells cs' o s)),S.nx⟩:=(cA.refl b S).put _;refine qC (S1:=⟨S.h.set b (some (.cells cs' o s)),S.nx⟩) h ?_ ⟨Af _,fun c u t=>?_⟩ (q _ r rfl ?_)
 .rw[f,aH,a];exact mM g j k
 .simp only;rw[dx,if_neg (show ¬c=b from fun e=>t (by rw[e];exact p))];rfl
 .simp only;rw[dx,if_pos rfl]
end
def iY(b:Bool):unV .not (.bool b)=some (.bool (!b)):=by cases b<;>rfl
def aKn:gL (jr 0)=some 0:=rfl
end Go.Ev.Gl
