import Derived.Test.YtbmodoaceepfoaaGl1
set_option linter.all false
set_option maxHeartbeats 0
namespace Go.Ev.Gl
variable {fns:T eY}
variable {base d n b:Nat}{F:Fr}{args:List cT}{l:List AO}{Q:Fr->St->Prop}{t u v r w:Prop}{A:bO}{S:St}{x:cT}{cs cs':cd}
def kE(last:Option Nat)(m:Nat):Bool:=
 match last with
 | none=>true
 | some i=>Nat.testBit m i
def aQU(W:Nat->Prop)(base:Nat)(v:AV):Prop:=∃b off,v= .ptr b off/\b<base/\¬W b
def aCt(W:Nat->Prop)(base:Nat)(q:QOp)(F:Fr):Prop:=(∃agg n x,q= .ld agg n x/\aQU W base (x.val F))\/∃a z ok m k b,q= .lookup a z ok m k/\m.val F= .map b/\b<base/\¬W b
def aGA(W:Nat->Prop)(base:Nat)(S a:St):Prop:=S.nx<=a.nx/\∀b,b<base->¬W b->a.h.get b=S.h.get b
def gF(fns:T eY)(W:Nat->Prop)(h0:T AB)(base:Nat):List AO->Nat->Fr->St->List iR->Option Nat->(Fr->St->List iR->Prop)->Prop
 | [],_,F,S,ps,_,Q=>Q F S ps
 | ⟨d,op,g,m⟩::l,i,F,S,ps,last,Q=>
  if fT g F=true then
   match op with
   | .q q=>mR (gO q F (cC (eE q) h0 S.h)) fun v=>(eE q=true->cO v v=true/\aCt W base q F)/\gF fns W h0 base l (i+1) (cU d F v) S ps last Q
   | .a a=>mR (uH a F (base+i)) fun r=>gF fns W h0 base l (i+1) (cU d F r.1) S (⟨i,base+i,r.2⟩::ps) last Q
   | .x (.call f args)=>kE last m=true/\iI fns (f.val F) (eF args F) ⟨(cP m ps S.h).2,S.nx⟩ fun v S1=>(Same ⟨(cP m ps S.h).2,S.nx⟩ S1\/aGA W base ⟨(cP m ps S.h).2,S.nx⟩ S1)/\gF fns W h0 base l (i+1) (cU d F v) S1 (cP m ps S.h).1 (some i) Q
   | .x (.inv c r args)=>kE last m=true/\∃t f u,r.val F= .iface t u/\aEZ t c=some (f,none)/\iI fns (.fn f [u] []) (eF args F) ⟨(cP m ps S.h).2,S.nx⟩ fun v S1=>Same ⟨(cP m ps S.h).2,S.nx⟩ S1/\gF fns W h0 base l (i+1) (cU d F v) S1 (cP m ps S.h).1 (some i) Q
   | .x x=>kE last m=true/\∃v S1,(∀call,evX x call F ⟨(cP m ps S.h).2,S.nx⟩=some (v,S1))/\aGA W base ⟨(cP m ps S.h).2,S.nx⟩ S1/\gF fns W h0 base l (i+1) (cU d F v) S1 (cP m ps S.h).1 (some i) Q
  else gF fns W h0 base l (i+1) (cU d F .undef) S ps last Q
structure DOk(W:Nat->Prop)(h0:T AB)(base:Nat)(D:DS):Prop where
 cur:∀b,b<base->¬W b->D.S.h.get b=h0.get b
 nx:base<=D.S.nx
 chain:∀e∈D.hs,∀b,b<base->¬W b->e.2.2.get b=h0.get b
 lds:∀l∈D.ls,cO l.v l.v=true/\aCt W base l.q l.F/\gO l.q l.F h0=some l.v
 pend:∀p∈D.ps,base<=p.id
def aCt.ev{W:Nat->Prop}{q:QOp}(h:aCt W base q F){h0 a:T AB}(p:∀b,b<base->¬W b->a.get b=h0.get b):gO q F a=gO q F h0:=by
 rcases h with⟨agg,n,x,rfl,b,off,c,f,g⟩|⟨r,z,ok,m,k,b,rfl,c,f,g⟩
 .rw[mQ,mQ,c];have e:cI a b=cI h0 b:=by unfold cI;rw[p b f g]
  simp only[eK,qI,aAi,nF,e]
 .show(bG (vF a (m.val F)) fun j=>_)=bG (vF h0 (m.val F)) fun j=>_;rw[c];show(bG (bG (a.get b) tQ) fun j=>_)=bG (bG (h0.get b) tQ) fun j=>_;rw[p b f g]
theorem aBV{base b:Nat}(a:b<base){m:Nat}:∀ {ps:List iR} {h:T AB},(∀p∈ps,base<=p.id)->(cP m ps h).2.get b=h.get b
 | [],h,_=>rfl
 | p::ps,h,c=>by
  have g:=c p (by simp);have e:∀q∈ps,base<=q.id:=fun q f=>c q (by simp [f]);unfold cP;cases Nat.testBit m p.i with
  | true=>rw[aN,aBV a e,ef,if_neg au]
  | false=>rw[aU];exact aBV a e
theorem aBU{base:Nat}{m:Nat}:∀ {ps:List iR} {h:T AB},(∀p∈ps,base<=p.id)->∀p∈(cP m ps h).1,base<=p.id
 | [],h,_,p,g=>by cases g
 | p::ps,h,c,r,a=>by
  have e:∀q∈ps,base<=q.id:=fun q j=>c q (by simp [j]);unfold cP at a;cases f:Nat.testBit m p.i with
  | true=>rw[f,aN] at a;exact aBU e r a
  | false=>
   rw[f,aU] at a;rcases Bp.1 a with rfl|a
   .exact c r (by simp)
   .exact aBU e r a
theorem aGa{W:Nat->Prop}{h0:T AB}{base:Nat}{l:mC}(h:cO l.v l.v=true/\aCt W base l.q l.F/\gO l.q l.F h0=some l.v):∀ {c:List (Nat×Nat×T AB)} {a:T AB},(∀e∈c,∀b,b<base->¬W b->e.2.2.get b=h0.get b)->(∀b,b<base->¬W b->a.get b=h0.get b)->fA l c a=true
 | [],a,_,f=>by
  show oY l.v (gO l.q l.F a)=true;rw[h.2.1.ev f,h.2.2];exact h.1
 | (i,m,h')::r,a,c,f=>by
  have g:oY l.v (gO l.q l.F a)=true:=by rw[h.2.1.ev f,h.2.2];exact h.1
  have j:fA l r h'=true:=aGa h (fun e k=>c e (by simp [k])) (c (i,m,h') (by simp));unfold fA;rw[g,j];cases Nat.testBit l.mask i<;>cases Nat.testBit m l.i<;>rfl
theorem nT{h0:T AB}{a:List (Nat×Nat×T AB)}:∀ {ls:List mC},(∀l∈ls,fA l a h0=true)->iB h0 a ls=true
 | [],_=>rfl
 | l::ls,h=>by rw[pD,h l (by simp),aN];exact nT fun l' c=>h l' (by simp [c])
def aPu{d:Option Nat}{a:List (Nat×Nat×Option (Bool×Nat))}{recv:cT}{m i:Nat}{D:DS}{Q:DS->Prop}{t f:Nat}{u:AV}(c:recv.val D.F= .iface t u)(g:aEZ t a=some (f,none))(h:wpd fns (⟨d,.x (.call (.c (.fn f [u] [])) args),none,m⟩::l) i base D Q):wpd fns (⟨d,.x (.inv a recv args),none,m⟩::l) i base D Q:=by
 have⟨n,j,k,p⟩:=h;refine⟨n,j,?_,p⟩;have e:tV ⟨d,.x (.inv a recv args),none,m⟩ i base (ev fns n).call D=tV ⟨d,.x (.call (.c (.fn f [u] [])) args),none,m⟩ i base (ev fns n).call D:=by
  show cC (kN D.hs m) (bG (evX (.inv a recv args) (ev fns n).call D.F ⟨(cP m D.ps D.S.h).2,D.S.nx⟩) _) none=cC (kN D.hs m) (bG (evX (.call (.c (.fn f [u] [])) args) (ev fns n).call D.F ⟨(cP m D.ps D.S.h).2,D.S.nx⟩) _) none;rw[aO6 c g]
 show bG (tV ⟨d,.x (.inv a recv args),none,m⟩ i base (ev fns n).call D) _=_;rw[e];exact k
theorem nG{W:Nat->Prop}{h0:T AB}{base:Nat}{Q:Fr->St->List iR->Prop}:∀ {H:List AO} {i:Nat} {D:DS} {last:Option Nat},DOk W h0 base D->D.hs.head?.map (·.1)=last->gF fns W h0 base H i D.F D.S D.ps last Q->
  wpd fns H i base D fun j=>Q j.F j.S j.ps/\DOk W h0 base j
 | [],i,D,last,c,_,w=>by rw[iC];exact⟨w,c⟩
 | ⟨d,op,g,m⟩::l,i,D,last,c,k,w=>by
  have B:kE last m=true->kN D.hs m=true:=fun h=>by
   subst k;cases hh:D.hs with
   | nil=>rfl
   | cons e r=>rw[hh] at h;exact h
  unfold gF at w;by_cases C:fT g D.F=true
  .rw[if_pos C] at w;have lift:wpd fns (⟨d,op,none,m⟩::l) i base D (fun j=>Q j.F j.S j.ps/\DOk W h0 base j)->wpd fns (⟨d,op,g,m⟩::l) i base D (fun j=>Q j.F j.S j.ps/\DOk W h0 base j):=by
    rintro⟨n,j,N,O⟩;refine⟨n,j,?_,O⟩;have:tV ⟨d,op,g,m⟩ i base (ev fns n).call D=tV ⟨d,op,none,m⟩ i base (ev fns n).call D:=by
     show cC (fT g D.F) _ _=cC true _ _;rw[C];cases op<;>rfl
    show bG (tV ⟨d,op,g,m⟩ i base (ev fns n).call D) _=_;rw[this];exact N
   apply lift;cases op with
   | q q=>
    have⟨v,E,hs,w⟩:=w;rw[iW];cases P:eE q with
    | false=>
     rw[P,aU] at E;refine⟨v,E,?_⟩;simp only[aU];exact nG (D:=⟨cU d D.F v,D.S,D.ps,D.hs,D.ls⟩) ⟨c.cur,c.nx,c.chain,c.lds,c.pend⟩ k w
    | true=>
     rw[P,aN] at E;have⟨R,I⟩:=hs P;refine⟨v,by rw[I.ev c.cur];exact E,?_⟩;simp only[aN];refine nG (D:=⟨cU d D.F v,D.S,D.ps,D.hs,⟨q,D.F,v,i,m⟩::D.ls⟩) ⟨c.cur,c.nx,c.chain,fun l' U=>?_,c.pend⟩ k w;rcases Bp.1 U with rfl|U
     .exact⟨R,I,E⟩
     .exact c.lds l' U
   | a a=>
    have⟨r,E,w⟩:=w;rw[aFg];refine⟨r,E,nG (D:=⟨cU d D.F r.1,D.S,⟨i,base+i,r.2⟩::D.ps,D.hs,D.ls⟩) ⟨c.cur,c.nx,c.chain,c.lds,fun p V=>?_⟩ k w⟩;rcases Bp.1 V with rfl|V
    .exact Bq _ _
    .exact c.pend p V
   | x x=>
    have next:∀ (v:AV) (S1:St),aGA W base ⟨(cP m D.ps D.S.h).2,D.S.nx⟩ S1->DOk W h0 base ⟨cU d D.F v,S1,(cP m D.ps D.S.h).1,(i,m,S1.h)::D.hs,D.ls⟩:=fun v S1 Y=>by
     have Z:∀b,b<base->¬W b->S1.h.get b=h0.get b:=fun b G C=>by
      rw[Y.2 b G C];show(cP m D.ps D.S.h).2.get b=_;rw[aBV G c.pend];exact c.cur b G C
     refine⟨Z,Av c.nx Y.1,fun e X=>?_,c.lds,aBU c.pend⟩;rcases Bp.1 X with rfl|X
     .exact Z
     .exact c.chain e X
    have other:(∀f args,x≠ .call f args)->(∀J r args,x≠ .inv J r args)->(kE last m=true/\∃v S1,(∀call,evX x call D.F ⟨(cP m D.ps D.S.h).2,D.S.nx⟩=some (v,S1))/\aGA W base ⟨(cP m D.ps D.S.h).2,D.S.nx⟩ S1/\gF fns W h0 base l (i+1) (cU d D.F v) S1 (cP m D.ps D.S.h).1 (some i) Q)->wpd fns (⟨d,.x x,none,m⟩::l) i base D (fun j=>Q j.F j.S j.ps/\DOk W h0 base j):=by
     rintro _ _ ⟨K,v,S1,L,A,M⟩;exact iQ (B K) L (nG (D:=⟨cU d D.F v,S1,(cP m D.ps D.S.h).1,(i,m,S1.h)::D.hs,D.ls⟩) (next v S1 A) rfl M)
    cases x with
    | call f args=>
     have⟨K,n,v,S1,L,A,M⟩:=w;refine aBc (B K) ⟨n,v,S1,L,?_⟩;exact nG (D:=⟨cU d D.F v,S1,(cP m D.ps D.S.h).1,(i,m,S1.h)::D.hs,D.ls⟩) (next v S1 (A.elim (fun A=>⟨A.1,fun b G _=>A.2 b (Ae G c.nx)⟩) id)) rfl M
    | inv J r args=>
     have⟨K,t,f,u,hu,hf,n,v,S1,L,A,M⟩:=w;refine aPu hu hf (aBc (B K) ⟨n,v,S1,L,?_⟩);exact nG (D:=⟨cU d D.F v,S1,(cP m D.ps D.S.h).1,(i,m,S1.h)::D.hs,D.ls⟩) (next v S1 ⟨A.1,fun b G _=>A.2 b (Ae G c.nx)⟩) rfl M
    | _=>exact other (fun _ _ h=>by cases h) (fun _ _ _ h=>by cases h) w
  .rw[if_neg C] at w;have⟨n,j,N,O⟩:=nG (i:=i+1) (D:=⟨cU d D.F .undef,D.S,D.ps,D.hs,D.ls⟩) (last:=last) ⟨c.cur,c.nx,c.chain,c.lds,c.pend⟩ k w;refine⟨n,j,?_,O⟩;have:tV ⟨d,op,g,m⟩ i base (ev fns n).call D=some ⟨cU d D.F .undef,D.S,D.ps,D.hs,D.ls⟩:=by
    show cC (fT g D.F) _ _=_;rw[show fT g D.F=false by simpa using C];rfl
   show bG (tV ⟨d,op,g,m⟩ i base (ev fns n).call D) _=_;rw[this];exact N
def nN(W:Nat->Prop){a:List AO}{Q:Out->bO->St->Prop}(h:gF fns W S.h S.nx a 0 A.F ⟨S.h,S.nx+a.length⟩ [] none fun F g ps=>Q .normal ⟨F,A.inr⟩ ⟨(cP (2 ^ a.length - 1) ps g.h).2,g.nx⟩):jP fns (.drw a) A S Q:=by
 apply qZ;have⟨n,k,q,r,j⟩:=nG (fns:=fns) (i:=0) (D:=⟨A.F,⟨S.h,S.nx+a.length⟩,[],[],[]⟩) (last:=none) ⟨fun _ _ _=>rfl,Bq _ _,fun e c=>(by cases c),fun l f=>(by cases f),fun p t=>(by cases t)⟩ rfl h;exact⟨n,k,q,nT fun l f=>aGa (j.lds l f) (fun e c=>j.chain e (List.mem_reverse.1 c)) (fun _ _ _=>rfl),r⟩
def aNd(fns:T eY)(W:Nat->Prop)(h0:T AB)(base:Nat)(x:Option AV)(ld:Bool)(old:Prop)(d:Option Nat)(l:List AO)(i:Nat)(F:Fr)(S:St)(ps:List iR)(last:Option Nat)(Q:Fr->St->List iR->Prop):Prop:=mR x fun v=>(ld=true->cO v v=true/\old)/\gF fns W h0 base l i (cU d F v) S ps last Q
def aIA(fns:T eY)(W:Nat->Prop)(h0:T AB)(base:Nat)(x:Option (AV×AB))(d:Option Nat)(l:List AO)(i:Nat)(F:Fr)(S:St)(ps:List iR)(last:Option Nat)(Q:Fr->St->List iR->Prop):Prop:=mR x fun r=>gF fns W h0 base l (i+1) (cU d F r.1) S (⟨i,base+i,r.2⟩::ps) last Q
section
variable {W:Nat->Prop}{h0:T AB}{base:Nat}{d:Option Nat}{m i:Nat}{l:List AO}{F:Fr}{S:St}{ps:List iR}{last:Option Nat}{Q:Fr->St->List iR->Prop}
def aIf:gF fns W h0 base [] i F S ps last Q↔Q F S ps:=Iff.rfl
def aNU{q:QOp}:gF fns W h0 base (⟨d,.q q,none,m⟩::l) i F S ps last Q↔aNd fns W h0 base (gO q F (cC (eE q) h0 S.h)) (eE q) (aCt W base q F) d l (i+1) F S ps last Q:=by
 rw[gF,if_pos (show fT none F=true from rfl)];rfl
def aE8{v:AV}{ld:Bool}{old:Prop}:aNd fns W h0 base (some v) ld old d l i F S ps last Q↔(ld=true->cO v v=true/\old)/\gF fns W h0 base l i (cU d F v) S ps last Q:=by unfold aNd;rw[dH]
def aJ1{a:zD}:gF fns W h0 base (⟨d,.a a,none,m⟩::l) i F S ps last Q↔aIA fns W h0 base (uH a F (base+i)) d l i F S ps last Q:=by
 rw[gF,if_pos (show fT none F=true from rfl)];rfl
def lT{r:AV×AB}:aIA fns W h0 base (some r) d l i F S ps last Q↔gF fns W h0 base l (i+1) (cU d F r.1) S (⟨i,base+i,r.2⟩::ps) last Q:=by unfold aIA;rw[dH]
def aFX{f:cT}(h:kE last m=true)(a:iI fns (f.val F) (eF args F) ⟨(cP m ps S.h).2,S.nx⟩ fun v S1=>Same ⟨(cP m ps S.h).2,S.nx⟩ S1/\gF fns W h0 base l (i+1) (cU d F v) S1 (cP m ps S.h).1 (some i) Q):gF fns W h0 base (⟨d,.x (.call f args),none,m⟩::l) i F S ps last Q:=by
 rw[gF,if_pos (show fT none F=true from rfl)];exact⟨h,aW a fun v S1 h=>⟨.inl h.1,h.2⟩⟩
def jI{f:cT}(h:kE last m=true)(a:iI fns (f.val F) (eF args F) ⟨(cP m ps S.h).2,S.nx⟩ fun v S1=>aGA W base ⟨(cP m ps S.h).2,S.nx⟩ S1/\gF fns W h0 base l (i+1) (cU d F v) S1 (cP m ps S.h).1 (some i) Q):gF fns W h0 base (⟨d,.x (.call f args),none,m⟩::l) i F S ps last Q:=by
 rw[gF,if_pos (show fT none F=true from rfl)];exact⟨h,aW a fun v S1 h=>⟨.inr h.1,h.2⟩⟩
def qA{v:cT}{S1:St}(h:kE last m=true)(a:bG (v.val F).cells (fun cs=>qX (x.val F) n cs ⟨(cP m ps S.h).2,S.nx⟩)=some (.undef,S1))(c:aGA W base ⟨(cP m ps S.h).2,S.nx⟩ S1)(e:gF fns W h0 base l (i+1) (cU d F .undef) S1 (cP m ps S.h).1 (some i) Q):gF fns W h0 base (⟨d,.x (.st n x v),none,m⟩::l) i F S ps last Q:=by
 unfold gF;rw[if_pos (show fT none F=true from rfl)];exact⟨h,_,S1,fun call=>a,c,e⟩
def aNK{op:AOp}{s:Nat}{b:Bool}:gF fns W h0 base (⟨d,op,some (s,b),m⟩::l) i F S ps last Q↔if isB (aC s F) b=true then gF fns W h0 base (⟨d,op,none,m⟩::l) i F S ps last Q else gF fns W h0 base l (i+1) (cU d F .undef) S ps last Q:=by
 conv=>lhs;unfold gF
 rw[show fT (some (s,b)) F=isB (aC s F) b from rfl];split
 .conv=>rhs;unfold gF
  rw[if_pos (show fT none F=true from rfl)]
 .rfl
def aKz{agg:Bool}{n:Nat}{x:cT}:aCt W base (.ld agg n x) F↔aQU W base (x.val F):=by
 constructor
 .rintro(⟨_,_,_,h,a⟩|⟨_,_,_,_,_,_,h,_⟩)
  .cases h;exact a
  .cases h
 .exact fun h=>.inl ⟨_,_,_,rfl,h⟩
def xZ{a:sR}{z:AV}{ok:Bool}{m k:cT}(h:m.val F= .map b)(c:b<base)(e:¬W b):aCt W base (.lookup a z ok m k) F:=.inr ⟨_,_,_,_,_,b,rfl,h,c,e⟩
def aHD{b off:Nat}:aQU W base (.ptr b off)↔b<base/\¬W b:=by
 constructor
 .rintro⟨_,_,h,a⟩;cases h;exact a
 .exact fun h=>⟨_,_,rfl,h⟩
end
abbrev stV:=And.intro @aIf (And.intro @aNU (And.intro @aJ1 (And.intro @aNK (@aCn))))
abbrev stW:=And.intro @aE8 (And.intro @lT (And.intro @aKz (And.intro @aHD (And.intro @bL (And.intro (@Ax AO) (And.intro (@Cb AO) (And.intro (@Ax AV) (And.intro (@Cb AV) (And.intro (@Ax Nat) (@Cb Nat))))))))))
abbrev sU:=And.intro aF stV
abbrev sD:=And.intro aE stW
def im{p:Prop}(h:p:=by simp only[↓sU,sD,Nat.reduceEqDiff,↓reduceIte,Nat.reduceAdd,AV.bool.injEq,decide_eq_true_eq,decide_eq_false_iff_not];omega):p:=h
def iu{p:Prop}(b:r)(h:r->p:=by intro b;simp only[↓sU,sD,Nat.reduceEqDiff,↓reduceIte,Nat.reduceAdd,b]):p:=h b
def iy{p s:Prop}(b:r)(c:s)(h:r->s->p:=by intro b c;simp only[↓sU,sD,Nat.reduceEqDiff,↓reduceIte,Nat.reduceAdd,b,c]):p:=h b c
def de{p q:Prop}(b:r)(a:q)(h:r->q->p:=by intro b a;simp only[↓sU,sD,Nat.reduceEqDiff,↓reduceIte,Nat.reduceAdd,b];exact a):p:=h b a
def ew{p q s:Prop}(b:r)(c:s)(a:q)(h:r->s->q->p:=by intro b c a;simp only[↓sU,sD,Nat.reduceEqDiff,↓reduceIte,Nat.reduceAdd,b,c];exact a):p:=h b c a
def ez{p q s:Prop}(b:r)(c:s)(d:t)(a:q)(h:r->s->t->q->p:=by intro b c d a;simp only[↓sU,sD,Nat.reduceEqDiff,↓reduceIte,Nat.reduceAdd,b,c,d];exact a):p:=h b c d a
def fe{p q s:Prop}(b:r)(c:s)(d:t)(e:u)(a:q)(h:r->s->t->u->q->p:=by intro b c d e a;simp only[↓sU,sD,Nat.reduceEqDiff,↓reduceIte,Nat.reduceAdd,b,c,d,e];exact a):p:=h b c d e a
def ff{p q s:Prop}(b:r)(c:s)(d:t)(e:u)(f:v)(a:q)(h:r->s->t->u->v->q->p:=by intro b c d e f a;simp only[↓sU,sD,Nat.reduceEqDiff,↓reduceIte,Nat.reduceAdd,b,c,d,e,f];exact a):p:=h b c d e f a
def fg{p q s:Prop}(b:r)(c:s)(d:t)(e:u)(f:v)(g:w)(a:q)(h:r->s->t->u->v->w->q->p:=by intro b c d e f g a;simp only[↓sU,sD,Nat.reduceEqDiff,↓reduceIte,Nat.reduceAdd,b,c,d,e,f,g];exact a):p:=h b c d e f g a
def fh{p q s x:Prop}(b:r)(c:s)(d:t)(e:u)(f:v)(g:w)(i:x)(a:q)(h:r->s->t->u->v->w->x->q->p:=by intro b c d e f g i a;simp only[↓sU,sD,Nat.reduceEqDiff,↓reduceIte,Nat.reduceAdd,b,c,d,e,f,g,i];exact a):p:=h b c d e f g i a
def fj{p q s x y:Prop}(b:r)(c:s)(d:t)(e:u)(f:v)(g:w)(i:x)(j:y)(a:q)(h:r->s->t->u->v->w->x->y->q->p:=by intro b c d e f g i j a;simp only[↓sU,sD,Nat.reduceEqDiff,↓reduceIte,Nat.reduceAdd,b,c,d,e,f,g,i,j];exact a):p:=h b c d e f g i j a
def ad{p q:Prop}(a:q)(h:q->p:=by intro a;simp only[↓sU,sD,Nat.reduceEqDiff,↓reduceIte,a]):p:=h a
def ae{p q:Prop}(a:q)(h:q->p:=by intro a;simp only[↓sU,sD,Nat.reduceEqDiff,↓reduceIte,Nat.reduceAdd];exact a):p:=h a
def af{p:Prop}(h:p:=by simp only[↓sU,sD,Nat.reduceEqDiff,↓reduceIte,Nat.reduceAdd]):p:=h
def ag{p:Prop}(h:p:=by simp only[↓sU,sD,Nat.reduceEqDiff,↓reduceIte,Nat.reduceAdd];try rfl):p:=h
def ah{p q:Prop}(a:q)(h:q->p:=by intro a;simp only[↓sU,sD,Nat.reduceEqDiff,↓reduceIte,Nat.reduceAdd,a]):p:=h a
def aMj(e:sR){a b:Int}(c:b≠0):nH .quo e (je a) (je b)=some (je (IntKind.i64.wrap (a.tdiv b))):=by
 show fH .quo .i64 a .i64 b=_;unfold fH;rw[show iA .quo=false from rfl,aU,fO,aN];show aNf .i64 a b=_;unfold aNf;split
 .rename_i m n;have h0:Nat.beq n 0=false:=by
   rw[Cj];intro h;rw[Bl] at h;subst h;exact c rfl
  rw[h0,aU,nat_eq];rfl
 .have h0:ieq b (.ofNat 0)=false:=by
   rw[Cj];intro h;rw[jG] at h;exact c (by simpa using h)
  rw[h0,aU,vE]
def aLw(e:sR){a b:Int}(c:0<=a)(f:a<=9223372036854775807)(g:0<b):nH .quo e (je a) (je b)=some (je (a / b)):=by
 rw[aMj e au,Int.tdiv_eq_ediv_of_nonneg c];rw[wrap_i64]
 .have:=Int.ediv_nonneg c (Int.le_of_lt g);omega
 .have:=Int.ediv_le_self b c;omega
def aNZ(a:Int):unV .neg (je a)=some (je (IntKind.i64.wrap (-a))):=by
 show some (AV.int .i64 (aIG .i64 (.ofNat 0) a))=_;rw[aBm];congr 3;show(0:Int) - a= -a;omega
def mx(a b:Int):Int:=if b<=a then a else b
def aN0(l:List cT)(F:Fr)(h:T AB):gO (.dz true l) F h=nP true (eF l F):=rfl
def aPo(v:AV)(l:cd):nP true (v::l)=lO true l v:=rfl
def aRq(v:AV):lO true [] v=some v:=rfl
def aRK(a b:Int)(l:cd):lO true (je b::l) (je a)=lO true l (je (mx a b)):=by
 show cC (keq .i64 .i64) (lO true l (je (cC true (cC (ile b a) a b) _))) none=_;rw[fO,aN,aN];congr 2;unfold mx;rw[qO];by_cases h:b<=a
 .rw[if_pos h,Ac h];rfl
 .rw[if_neg h,Aa h];rfl
def aEO{v:AV}{l:ce}(h:iL S v l):v.cells=some [v]:=by
 rcases h with⟨_,h|h⟩|⟨b,off,cap,o,cs,rfl,_⟩
 .subst h;rfl
 .subst h;rfl
 .rfl
def aKX(t:Nat)(x:cT)(F:Fr)(id:Nat):uH (.box t x) F id=bG (x.val F).cells fun cs=>some (.ptr id 0,.cells cs false 0):=rfl
def rK(t:Nat)(cs:cd)(F:Fr)(id:Nat):uH (.alloc t cs) F id=some (.ptr id 0,.cells cs false 0):=rfl
def aBJ(f:Nat)(first cap:List cT)(F:Fr)(h:T AB):gO (.mkFunc f first cap) F h=some (.fn f (eF first F) (eF cap F)):=rfl
def aY(cs:cd):(AV.agg cs).cells=some cs:=rfl
def aJr(b:Bool):(AV.bool b).cells=some [.bool b]:=rfl
def aIy(a b c d:Nat)(e:Bool):(AV.sl a b c d e).cells=some [.sl a b c d e]:=rfl
def aB(i:Nat)(x:cT)(F:Fr)(h:T AB):gO (.dk i x) F h=aAF (x.val F) i:=rfl
def aA(b o i:Nat):aAF (.ptr b o) i=some (.ptr b (o+i)):=rfl
def aP(i:Nat)(x:cT):eE (.dk i x)=false:=rfl
def mK(z:cd)(ps:List (Nat×Nat×cT)):eE (.build z ps)=false:=rfl
def dE(a:Nat)(agg:Bool)(n:Nat)(c:List RV)(F:Fr)(h:T AB):results (.cell a agg n::c) F h=bG (eK (aC a F) agg n h) fun v=>bG (results c F h) fun vs=>some (v::vs):=rfl
def aR2{z0 z1 z2:AV}{x y z:cT}{F:Fr}{h:T AB}(a:(x.val F).cells=some [x.val F])(c:(y.val F).cells=some [y.val F])(e:(z.val F).cells=some [z.val F]):gO (.build [z0,z1,z2] [(0,1,x),(1,1,y),(2,1,z)]) F h=some (.agg [x.val F,y.val F,z.val F]):=by
 show bG (eI [z0,z1,z2] [(0,1,x.val F),(1,1,y.val F),(2,1,z.val F)]) (fun cs=>some (AV.agg cs))=_;simp only[eI,a,c,e,aH];rfl
section
variable {h:T AB}{b:Nat}{x y z:AV}{o:Bool}{s:Nat}
def jB(a:h.get b=some (.cells [x,y,z] o s)):eK (.ptr b (0+0)) false 1 h=some x:=by
 simp only[eK,qI,aU,nF,cI,a,aH,nD,qQ];rfl
def aBH(a:h.get b=some (.cells [x,y,z] o s)):eK (.ptr b (0+1)) false 1 h=some y:=by
 simp only[eK,qI,aU,nF,cI,a,aH,nD,qQ];rfl
def jX(a:h.get b=some (.cells [x,y,z] o s)):eK (.ptr b (0+2)) false 1 h=some z:=by
 simp only[eK,qI,aU,nF,cI,a,aH,nD,qQ];rfl
def ld3(a:h.get b=some (.cells [x,y,z] o s)):eK (.ptr b 0) true 3 h=some (.agg [x,y,z]):=by
 simp only[eK,qI,aN,aAi,cI,a,aH,nD];rfl
end
def mI{o:Bool}{s:Nat}(h:S.h.get b=some (.cells cs o s))(e:cs.length=n)(a:cs'.length=n):qX (.ptr b 0) n cs' S=some (.undef,⟨S.h.set b (some (.cells cs' o s)),S.nx⟩):=by
 have c:put cs 0 cs'=some cs':=by
  rw[put_eq,if_pos au];simp [Cr (au:cs.length<=cs'.length)]
 simp only[qX,gD,a,uF,h,aH,aCf,c];rw[show Nat.beq n n=true from Fq n];rfl
def cR{t m:Nat}(a:(x.val F).cells=some cs)(h:∀S1,Same S S1->S1.nx=S.nx+1->S1.h.get S.nx=jf cs->vT fns l (cU (some d) F (.ptr S.nx 0)) S1 Q):vT fns (⟨some d,.a (.box t x),none,m⟩::l) F S Q:=by
 rw[aCn];refine⟨(.ptr S.nx 0,.cells cs false 0),by rw[aKX,a];rfl,h _ (Same.alloc S _) rfl ?_⟩;simp only;rw[ef,if_pos rfl]
def bS{t m:Nat}(h:∀S1,Same S S1->S1.nx=S.nx+1->S1.h.get S.nx=jf cs->vT fns l (cU (some d) F (.ptr S.nx 0)) S1 Q):vT fns (⟨some d,.a (.alloc t cs),none,m⟩::l) F S Q:=by
 rw[aCn];refine⟨(.ptr S.nx 0,.cells cs false 0),rfl,h _ (Same.alloc S _) rfl ?_⟩;simp only;rw[ef,if_pos rfl]
def cQ{m s:Nat}{v:cT}{o:Bool}(a:x.val F= .ptr b 0)(c:(v.val F).cells=some cs')(e:S.h.get b=some (.cells cs o s))(f:cs.length=n)(g:cs'.length=n)
  (h:∀S1,cD b S S1->S1.nx=S.nx->S1.h.get b=some (.cells cs' o s)->vT fns l F S1 Q):vT fns (⟨none,.x (.st n x v),none,m⟩::l) F S Q:=by
 refine fN (v:=.undef) (fun call=>?_) (h ⟨S.h.set b (some (.cells cs' o s)),S.nx⟩ ((cD.refl b S).put _) rfl ?_)
 .rw[dL,c,aH,a];exact mI e f g
 .simp only;rw[ef,if_pos rfl]
def iD(W:Nat->Prop){a:List AO}{Q:Out->bO->St->Prop}(h:∀S1,Same S S1->gF fns W S.h S.nx a 0 A.F S1 [] none fun F c ps=>Q .normal ⟨F,A.inr⟩ ⟨(cP (2 ^ a.length - 1) ps c.h).2,c.nx⟩):jP fns (.drw a) A S Q:=nN W (h _ (Same.nx S _))
section
variable {W:Nat->Prop}{h0:T AB}{base:Nat}{d:Option Nat}{m i:Nat}{l:List AO}{F:Fr}{S:St}{last:Option Nat}{Q:Fr->St->List iR->Prop}
def dR{f:cT}(h:kE last m=true)(a:iI fns (f.val F) (eF args F) S fun v S1=>Same S S1/\gF fns W h0 base l (i+1) (cU d F v) S1 [] (some i) Q):gF fns W h0 base (⟨d,.x (.call f args),none,m⟩::l) i F S [] last Q:=
 aFX h a
def aID{s:Nat}{v:cT}{o:Bool}(h:kE last m=true)(a:x.val F= .ptr b 0)(f:(v.val F).cells=some cs')(g:S.h.get b=some (.cells cs o s))(j:cs.length=n)(k:cs'.length=n)(p:W b)
  (q:∀S1,cD b S S1->S1.nx=S.nx->S1.h.get b=some (.cells cs' o s)->gF fns W h0 base l (i+1) F S1 [] (some i) Q):gF fns W h0 base (⟨none,.x (.st n x v),none,m⟩::l) i F S [] last Q:=by
 have r:cD b S ⟨S.h.set b (some (.cells cs' o s)),S.nx⟩:=(cD.refl b S).put _;refine qA (S1:=⟨S.h.set b (some (.cells cs' o s)),S.nx⟩) h ?_ ⟨Af _,fun c u t=>?_⟩ (q _ r rfl ?_)
 .rw[f,aH,a];exact mI g j k
 .simp only;rw[ef,if_neg (show ¬c=b from fun e=>t (by rw[e];exact p))];rfl
 .simp only;rw[ef,if_pos rfl]
end
def zK{v:AV}{l:ce}(h:iL S v l):cO v v=true:=by
 rcases h with⟨_,h|h⟩|⟨b,off,cap,o,cs,rfl,_⟩
 .subst h;rfl
 .subst h;rfl
 .exact mE ..
def fY(b:Bool):unV .not (.bool b)=some (.bool (!b)):=by cases b<;>rfl
def aJ6:gN (je 0)=some 0:=rfl
def aDC(p q:Bool):nH .eql (.p .bool) (.bool p) (.bool q)=some (.bool (p==q)):=by cases p<;>cases q<;>rfl
end Go.Ev.Gl
