import Derived.Test.YtoojnpjgnnpllaaEv7
import Derived.ChangeSlices
import Derived.ChangeArms
import Derived.DataReads
namespace Go.Ev
def vD(c d:fA):Prop:=∀f args S r,c f args S=some r->d f args S=some r
structure Le(a b:Evs):Prop where
 code:∀c A S r,a.code c A S=some r->b.code c A S=some r
 call:vD a.call b.call
theorem eE{α β:Type}{x y:Option α}{f g:α->Option β}{b:β}(h:bC x f=some b)(hx:∀a,x=some a->y=some a)(hf:∀a,f a=some b->g a=some b):bC y g=some b:=by
 have⟨a,h1,h2⟩:=aO h;rw[hx a h1];exact hf a h2
theorem aKA{c d:fA}(h:vD c d){v:AV}{tbl:List (Nat×Nat×Option (Bool×Nat))}{args:bf}{S:St}{r:AV×St}(hv:aI9 v tbl args c S=some r):aI9 v tbl args d S=some r:=by
 unfold aI9 at hv ⊢;split at hv
 ·refine eE hv (fun _ h=>h) fun a ha=>?_;unfold aIC at ha ⊢;split at ha
  ·exact h _ _ _ _ ha
  ·unfold aL2 at ha ⊢;split at ha
   ·exact eE ha (fun _ h=>h) fun _ hb=>h _ _ _ _ hb
   ·cases ha
 ·cases hv
theorem aHh{c d:fA}(h:vD c d){x:XOp}{F:Fr}{S:St}{r:AV×St}(hv:evX x c F S=some r):evX x d F S=some r:=by
 cases x with
 | call f args=>exact h _ _ _ _ hv
 | inv tbl recv args=>exact aKA h hv
 | _=>exact hv
theorem aKW{c d:fA}(h:vD c d){o:AO}{F:Fr}{S:St}{r:Fr×St}(hv:aDd o c F S=some r):aDd o d F S=some r:=by
 unfold aDd at hv ⊢;rw[cN] at hv ⊢;split at hv
 ·rename_i hw;rw[if_pos hw];cases ho:o.op with
  | q q=>rw[ho] at hv;exact hv
  | a a=>rw[ho] at hv;exact hv
  | x x=>
   rw[ho] at hv;exact eE (show bC (evX x c F S) _=some r from hv) (fun _ hx=>aHh h hx) fun _ hb=>hb
 ·rename_i hw;rw[if_neg hw];exact hv
theorem aAy{c d:fA}(h:vD c d):∀ {l:List AO} {F:Fr} {S:St} {r:Fr×St},wJ l c F S=some r->wJ l d F S=some r
 | [],F,S,r,hv=>hv
 | o::l,F,S,r,hv=>eE (show bC (aDd o c F S) (fun r=>wJ l c r.1 r.2)=some r from hv) (fun _ hx=>aKW h hx) fun _ hb=>aAy h hb
theorem aMg{c d:fA}(h:vD c d){o:AO}{i base:Nat}{D:DS}{r:DS}(hv:tW o i base c D=some r):tW o i base d D=some r:=by
 unfold tW at hv ⊢;rw[cN] at hv ⊢;split at hv
 ·rename_i hw;rw[if_pos hw];cases ho:o.op with
  | q q=>rw[ho] at hv;exact hv
  | a a=>rw[ho] at hv;exact hv
  | x x=>
   rw[ho] at hv;have⟨h1,h2⟩:=cH (show bQ (jU D.hs o.mask) _ none=some r from hv);show bQ (jU D.hs o.mask) _ none=some r;rw[h1,aR];exact eE h2 (fun _ hx=>aHh h hx) fun _ hb=>hb
 ·rename_i hw;rw[if_neg hw];exact hv
theorem uD{c d:fA}(h:vD c d):∀ {l:List AO} {i base:Nat} {D r:DS},wL l i base c D=some r->wL l i base d D=some r
 | [],_,_,_,_,hv=>hv
 | o::l,i,base,D,r,hv=>eE (show bC (tW o i base c D) (fun D'=>wL l (i+1) base c D')=some r from hv) (fun _ hx=>aMg h hx) fun _ hb=>uD h hb
theorem aGA{c d:fA}(h:vD c d){l:List AO}{F:Fr}{S:St}{r:Fr×St}(hv:yT l c F S=some r):yT l d F S=some r:=
 eE (show bC _ _=some r from hv) (fun _ hx=>uD h hx) fun _ hb=>hb
theorem aHA{a b:Evs}(h:Le a b){c:AC}{A:bG}{S:St}{r:Out×bG×St}(hv:aIr c a A S=some r):aIr c b A S=some r:=by
 cases c with
 | skip=>exact hv
 | seq x y=>
  refine eE (show bC (a.code x A S) (uQ y a)=some r from hv) (fun _ hx=>h.code _ _ _ _ hx) fun q hq=>?_;unfold uQ at hq ⊢;split at hq
  ·exact h.code _ _ _ _ hq
  ·exact hq
 | cond x y z=>
  have hv:aCa (x.val A.F) y z a A S=some r:=hv;show aCa (x.val A.F) y z b A S=some r;unfold aCa at hv ⊢;split at hv
  ·exact h.code _ _ _ _ hv
  ·cases hv
 | block id x=>exact eE (show bC (a.code x A S) (tP id)=some r from hv) (fun _ hx=>h.code _ _ _ _ hx) fun _ hq=>hq
 | loop x=>
  refine eE (show bC (a.code x A S) (uQ (.loop x) a)=some r from hv) (fun _ hx=>h.code _ _ _ _ hx) fun q hq=>?_;unfold uQ at hq ⊢;split at hq
  ·exact h.code _ _ _ _ hq
  ·exact hq
 | exit id=>exact hv
 | ret=>exact hv
 | reg ops=>exact eE (show bC (wJ ops a.call A.F S) _=some r from hv) (fun _ hx=>aAy h.call hx) fun _ hq=>hq
 | drw ops=>exact eE (show bC (yT ops a.call A.F S) _=some r from hv) (fun _ hx=>aGA h.call hx) fun _ hq=>hq
 | rng f ps as bd=>
  have hv:aNZ f ps as bd a A S=some r:=hv;show aNZ f ps as bd b A S=some r;unfold aNZ at hv ⊢;cases hi:A.inr with
  | true=>rw[hi,aR] at hv;cases hv
  | false=>
   rw[hi,bB] at hv;rw[bB];have⟨h1,h2⟩:=cH hv;rw[h1,aR];refine eE h2 (fun _ hx=>h.call _ _ _ _ hx) fun q hq=>eE hq (fun _ hx=>hx) fun bl hbl=>?_;unfold aBM at hbl ⊢;split at hbl
   ·split at hbl
    ·cases hbl
    ·exact eE hbl (fun _ hx=>hx) fun _ hc=>h.code _ _ _ _ hc
   ·cases hbl
 | dfr ops f args=>exact hv
theorem aIb{a b:Evs}(h:Le a b){bl:AB}{l:Nat}{args:bf}{S:St}{r:AV×St}(hv:aAf bl l args a S=some r):aAf bl l args b S=some r:=by
 unfold aAf at hv ⊢;split at hv
 ·refine eE hv (fun _ hx=>hx) fun F hF=>eE hF (fun _ hx=>h.code _ _ _ _ hx) fun q hq=>?_;unfold aCT at hq ⊢;split at hq
  ·refine eE hq (fun _ hx=>hx) fun bl hbl=>?_;unfold tH at hbl ⊢;split at hbl
   ·exact eE (show bC (a.code _ _ _) _=some r from hbl) (fun _ hx=>h.code _ _ _ _ hx) fun _ hq=>hq
   ·cases hbl
  ·cases hq
 ·cases hv
theorem aGS{fns:T dY}{a b:Evs}(h:Le a b):vD (xV fns a) (xV fns b):=by
 intro f args S r hv;unfold xV at hv ⊢;split at hv
 ·refine eE hv (fun _ hx=>hx) fun fn hfn=>?_;unfold wO at hfn ⊢;have⟨h1,h2⟩:=cH hfn;rw[h1,aR];exact eE h2 (fun _ hx=>h.code _ _ _ _ hx) fun _ hq=>hq
 ·exact eE hv (fun _ hx=>hx) fun bl hbl=>aIb h hbl
 ·cases hv
theorem vH(fns:T dY):∀n,Le (ev fns n) (ev fns (n+1))
 | 0=>⟨fun c A S r (h:none=some r)=>(by cases h),fun f args S r (h:none=some r)=>(by cases h)⟩
 | n+1=>⟨fun _ _ _ _ h=>aHA (vH fns n) h,aGS (vH fns n)⟩
theorem kL(fns:T dY){n m:Nat}(h:n<=m):Le (ev fns n) (ev fns m):=by
 induction h with
 | refl=>exact⟨fun _ _ _ _ h=>h,fun _ _ _ _ h=>h⟩
 | step _ ih=>exact⟨fun c A S r h=>(vH fns _).code _ _ _ _ (ih.code _ _ _ _ h),fun f args S r h=>(vH fns _).call _ _ _ _ (ih.call _ _ _ _ h)⟩
end Go.Ev
namespace Go.Ev
abbrev oq(d:Nat)(q:QOp):AO:=⟨some d,.q q,none,0⟩
abbrev om(d m:Nat)(q:QOp):AO:=⟨some d,.q q,none,m⟩
abbrev og(d s:Nat)(b:Bool)(m:Nat)(q:QOp):AO:=⟨some d,.q q,some (s,b),m⟩
abbrev oc(d f:Nat)(l:List cO)(m:Nat):AO:=⟨some d,.x (.call (.c (.fn f [] [])) l),none,m⟩
abbrev mt(d i:Nat):AO:=⟨some d,.q (.mv (.t i)),none,0⟩
abbrev ci(n:Int):cO:=.c (.int .i64 n)
abbrev bi(o:BinOp)(x y:cO):QOp:=.bin o (.p .int) x y
abbrev ld(i:Nat):QOp:=.ld false 1 (.t i)
abbrev Zs(n x v m:Nat):AO:=⟨none,.x (.st n (.t x) (.t v)),none,m⟩
abbrev Zf(d o x:Nat):AO:=oq d (.cw o (.t x))
abbrev Zg(d m o x:Nat):AO:=om d m (.cw o (.t x))
abbrev Zi(d k x y:Nat):AO:=oq d (.cp (.slice k) (.t x) (.t y))
abbrev Zj(d m k x y:Nat):AO:=om d m (.cp (.slice k) (.t x) (.t y))
abbrev Zl(d x:Nat):AO:=oq d (ld x)
abbrev Zm(d m x:Nat):AO:=om d m (ld x)
abbrev Zc(d:Nat)(n:Int):AO:=oq d (.mv (ci n))
abbrev Zn(d x:Nat):AO:=oq d (.ct (.t x))
abbrev Za(d x:Nat)(n:Int):AO:=oq d (bi .add (.t x) (ci n))
abbrev Zt(d x y:Nat):AO:=oq d (bi .lss (.t x) (.t y))
abbrev Ze(d x i:Nat):AO:=oq d (.extract (.t x) i)
abbrev Zd(d n x:Nat):AO:=oq d (.ld true n (.t x))
abbrev Zp(d c y:Nat):AO:=oq d (.pick (.t c) (.c (.bool true)) (.t y))
abbrev Zx(d s:Nat)(b:Bool)(m o x:Nat):AO:=og d s b m (.cw o (.t x))
abbrev Zy(d s:Nat)(b:Bool)(m x:Nat):AO:=og d s b m (ld x)
abbrev Zu(d s:Nat)(b:Bool)(m x:Nat):AO:=og d s b m (.ct (.t x))
abbrev Zb(d k x:Nat):AO:=⟨some d,.a (.box k (.t x)),none,0⟩
variable {fns:T dY}
def iM(fns:T dY)(c:AC)(A:bG)(S:St)(Q:Out->bG->St->Prop):Prop:=∃n o A' S',(ev fns n).code c A S=some (o,A',S')/\Q o A' S'
def fZ(fns:T dY)(f:AV)(args:bf)(S:St)(Q:AV->St->Prop):Prop:=∃n v S',(ev fns n).call f args S=some (v,S')/\Q v S'
def vL(fns:T dY)(ops:List AO)(F:Fr)(S:St)(Q:Fr->St->Prop):Prop:=∃n F' S',wJ ops (ev fns n).call F S=some (F',S')/\Q F' S'
theorem aX{c:AC}{A:bG}{S:St}{Q R:Out->bG->St->Prop}(h:iM fns c A S Q)(hq:∀o A S,Q o A S->R o A S):iM fns c A S R:=by
 have⟨n,o,A',S',h1,h2⟩:=h;exact⟨n,o,A',S',h1,hq _ _ _ h2⟩
theorem aW{f:AV}{args:bf}{S:St}{Q R:AV->St->Prop}(h:fZ fns f args S Q)(hq:∀v S,Q v S->R v S):fZ fns f args S R:=by
 have⟨n,v,S',h1,h2⟩:=h;exact⟨n,v,S',h1,hq _ _ h2⟩
theorem aGZ{ops:List AO}{F:Fr}{S:St}{Q R:Fr->St->Prop}(h:vL fns ops F S Q)(hq:∀F S,Q F S->R F S):vL fns ops F S R:=by
 have⟨n,F',S',h1,h2⟩:=h;exact⟨n,F',S',h1,hq _ _ h2⟩
theorem aI{A:bG}{S:St}{Q:Out->bG->St->Prop}(h:Q .normal A S):iM fns .skip A S Q:=⟨1,_,_,_,rfl,h⟩
theorem bJ{id:Nat}{A:bG}{S:St}{Q:Out->bG->St->Prop}(h:Q (.exit id) A S):iM fns (.exit id) A S Q:=⟨1,_,_,_,rfl,h⟩
theorem aP{A:bG}{S:St}{Q:Out->bG->St->Prop}(h:Q .ret A S):iM fns .ret A S Q:=⟨1,_,_,_,rfl,h⟩
def aDa(fns:T dY)(y:AC)(Q:Out->bG->St->Prop):Out->bG->St->Prop
 | .normal,A,S=>iM fns y A S Q
 | o,A,S=>Q o A S
theorem aA{x y:AC}{A:bG}{S:St}{Q:Out->bG->St->Prop}(h:iM fns x A S (aDa fns y Q)):iM fns (.seq x y) A S Q:=by
 have⟨n,o,A1,S1,h1,h2⟩:=h;cases o with
 | normal=>
  have⟨m,o,A2,S2,h3,h4⟩:=h2;refine⟨max n m+1,o,A2,S2,?_,h4⟩;show bC ((ev fns (max n m)).code x A S) (uQ y (ev fns (max n m)))=_;rw[(kL fns (Ew n m)).code _ _ _ _ h1,aL];exact(kL fns (Er n m)).code _ _ _ _ h3
 | ret=>
  refine⟨n+1,.ret,A1,S1,?_,h2⟩;show bC ((ev fns n).code x A S) (uQ y (ev fns n))=_;rw[h1];rfl
 | exit i=>
  refine⟨n+1,.exit i,A1,S1,?_,h2⟩;show bC ((ev fns n).code x A S) (uQ y (ev fns n))=_;rw[h1];rfl
theorem aLo{c:cO}{x y:AC}{A:bG}{S:St}{Q:Out->bG->St->Prop}{t:Bool}(hc:c.val A.F= .bool t)(h:iM fns (bQ t x y) A S Q):iM fns (.cond c x y) A S Q:=by
 have⟨n,o,A1,S1,h1,h2⟩:=h;refine⟨n+1,o,A1,S1,?_,h2⟩;show aCa (c.val A.F) x y (ev fns n) A S=_;rw[hc];exact h1
theorem aJa{c:cO}{x y:AC}{A:bG}{S:St}{Q:Out->bG->St->Prop}{t:Bool}(hc:c.val A.F= .bool t)(h1:t=true->iM fns x A S Q)(h2:t=false->iM fns y A S Q):iM fns (.cond c x y) A S Q:=by
 refine aLo hc ?_;cases t
 ·exact h2 rfl
 ·exact h1 rfl
def aBn(id:Nat)(Q:Out->bG->St->Prop):Out->bG->St->Prop
 | .exit i,A,S=>if i=id then Q .normal A S else Q (.exit i) A S
 | o,A,S=>Q o A S
theorem aK{id:Nat}{c:AC}{A:bG}{S:St}{Q:Out->bG->St->Prop}(h:iM fns c A S (aBn id Q)):iM fns (.block id c) A S Q:=by
 have⟨n,o,A1,S1,h1,h2⟩:=h;cases o with
 | normal=>exact⟨n+1,.normal,A1,S1,by show bC ((ev fns n).code c A S) (tP id)=_;rw[h1];rfl,h2⟩
 | ret=>exact⟨n+1,.ret,A1,S1,by show bC ((ev fns n).code c A S) (tP id)=_;rw[h1];rfl,h2⟩
 | exit i=>
  by_cases hi:i=id
  ·subst hi;have h2:Q .normal A1 S1:=by simpa [aBn] using h2
   exact⟨n+1,.normal,A1,S1,by show bC ((ev fns n).code c A S) (tP i)=_;rw[h1];simp [aL,tP,cN,Bj],h2⟩
  ·have h2:Q (.exit i) A1 S1:=by simpa [aBn,hi] using h2
   exact⟨n+1,.exit i,A1,S1,by show bC ((ev fns n).code c A S) (tP id)=_;rw[h1];simp [aL,tP,cN,Bj,hi],h2⟩
def aGw(I:Nat->bG->St->Prop)(k:Nat)(Q:Out->bG->St->Prop):Out->bG->St->Prop
 | .normal,A,S=>∃k',k'<k/\I k' A S
 | o,A,S=>Q o A S
theorem bH{c:AC}{Q:Out->bG->St->Prop}(I:Nat->bG->St->Prop)(h:∀k A S,I k A S->iM fns c A S (aGw I k Q)):∀k A S,I k A S->iM fns (.loop c) A S Q:=by
 intro k
 induction k using Nat.strongRecOn with
 | _ k ih=>
  intro A S hI;have⟨n,o,A1,S1,h1,h2⟩:=h k A S hI;cases o with
  | normal=>
   have⟨k',hk,hI'⟩:=h2;have⟨m,o,A2,S2,h3,h4⟩:=ih k' hk A1 S1 hI';refine⟨max n m+1,o,A2,S2,?_,h4⟩;show bC ((ev fns (max n m)).code c A S) (uQ (.loop c) (ev fns (max n m)))=_;rw[(kL fns (Ew n m)).code _ _ _ _ h1,aL];exact(kL fns (Er n m)).code _ _ _ _ h3
  | ret=>
   refine⟨n+1,.ret,A1,S1,?_,h2⟩;show bC ((ev fns n).code c A S) (uQ (.loop c) (ev fns n))=_;rw[h1];rfl
  | exit i=>
   refine⟨n+1,.exit i,A1,S1,?_,h2⟩;show bC ((ev fns n).code c A S) (uQ (.loop c) (ev fns n))=_;rw[h1];rfl
theorem aJ{ops:List AO}{A:bG}{S:St}{Q:Out->bG->St->Prop}(h:vL fns ops A.F S fun F' S'=>Q .normal ⟨F',A.inr⟩ S'):iM fns (.reg ops) A S Q:=by
 have⟨n,F',S',h1,h2⟩:=h;refine⟨n+1,.normal,⟨F',A.inr⟩,S',?_,h2⟩;show bC (wJ ops (ev fns n).call A.F S) _=_;rw[h1];rfl
def aPS(res:List RV)(Q:AV->St->Prop):Out->bG->St->Prop
 | .exit _,_,_=>False
 | _,A,S=>∃vs,results res A.F S.h=some vs/\Q (oneOf vs) S
theorem cF{id nt:Nat}{res:List RV}{body:AC}{first cap args:bf}{S:St}{Q:AV->St->Prop}(hfn:fns.get id=some ⟨nt,res,body⟩)(hn:(first++(args++cap)).length<=nt)
  (h:iM fns body ⟨tS (first++(args++cap)) 0 .e,false⟩ S (aPS res Q)):fZ fns (.fn id first cap) args S Q:=by
 have⟨n,o,A',S',h1,h2⟩:=h;have key:∀ (_:∃vs,results res A'.F S'.h=some vs/\Q (oneOf vs) S') (_:aFX ⟨nt,res,body⟩ (o,A',S')=bC (results res A'.F S'.h) fun vs=>some (oneOf vs,S')),fZ fns (.fn id first cap) args S Q:=by
  rintro⟨vs,h3,h4⟩ h5;refine⟨n+1,oneOf vs,S',?_,h4⟩;show bC (fns.get id) (fun fn=>wO fn (yA first (yA args cap)) (ev fns n) S)=_;rw[hfn,aL];unfold wO;rw[gE,gE,fS,Av hn,aR,h1,aL,h5,h3];rfl
 cases o with
 | normal=>exact key h2 rfl
 | ret=>exact key h2 rfl
 | exit i=>exact h2.elim
theorem aAI{F:Fr}{S:St}{Q:Fr->St->Prop}:vL fns [] F S Q↔Q F S:=
 ⟨fun⟨_,_,_,h1,h2⟩=>by cases h1;exact h2,fun h=>⟨0,F,S,rfl,h⟩⟩
theorem aEd{o:AO}{l:List AO}{F F1:Fr}{S S1:St}{Q:Fr->St->Prop}(h:∀call,aDd o call F S=some (F1,S1))(hl:vL fns l F1 S1 Q):vL fns (o::l) F S Q:=by
 have⟨n,F',S',h1,h2⟩:=hl;refine⟨n,F',S',?_,h2⟩;rw[gQ,h,aL];exact h1
theorem aMC{d:Option Nat}{q:QOp}{m:Nat}{l:List AO}{F:Fr}{S:St}{Q:Fr->St->Prop}{v:AV}(h:gM q F S.h=some v)(hl:vL fns l (cM d F v) S Q):vL fns (⟨d,.q q,none,m⟩::l) F S Q:=
 aEd (fun call=>by show bC (gM q F S.h) _=_;rw[h];rfl) hl
theorem aQD{d:Option Nat}{a:wN}{m:Nat}{l:List AO}{F:Fr}{S:St}{Q:Fr->St->Prop}{v:AV}{bl:AB}(h:uW a F S.nx=some (v,bl))(hl:vL fns l (cM d F v) ⟨S.h.set S.nx (some bl),S.nx+1⟩ Q):vL fns (⟨d,.a a,none,m⟩::l) F S Q:=
 aEd (fun call=>by show bC (uW a F S.nx) _=_;rw[h];rfl) hl
theorem fI{d:Option Nat}{x:XOp}{m:Nat}{l:List AO}{F:Fr}{S S1:St}{Q:Fr->St->Prop}{v:AV}(h:∀call,evX x call F S=some (v,S1))(hl:vL fns l (cM d F v) S1 Q):vL fns (⟨d,.x x,none,m⟩::l) F S Q:=
 aEd (fun call=>by show bC (evX x call F S) _=_;rw[h];rfl) hl
theorem bD{d:Option Nat}{f:cO}{args:List cO}{m:Nat}{l:List AO}{F:Fr}{S:St}{Q:Fr->St->Prop}(h:fZ fns (f.val F) (dG args F) S fun v S1=>vL fns l (cM d F v) S1 Q):vL fns (⟨d,.x (.call f args),none,m⟩::l) F S Q:=by
 have⟨n,v,S1,h1,k,F',S',h2,h3⟩:=h;refine⟨max n k,F',S',?_,h3⟩;rw[gQ];have:aDd ⟨d,.x (.call f args),none,m⟩ (ev fns (max n k)).call F S=some (cM d F v,S1):=by
  show bC ((ev fns (max n k)).call (f.val F) (dG args F) S) _=_;rw[(kL fns (Ew n k)).call _ _ _ _ h1];rfl
 rw[this,aL];exact aAy (kL fns (Er n k)).call h2
theorem fE(i:Nat)(F:Fr):(cO.t i).val F=aD i F:=rfl
theorem aJM(v:AV)(F:Fr):(cO.c v).val F=v:=rfl
theorem eF(F:Fr)(v:AV):cM none F v=F:=rfl
theorem bS(i j:Nat)(F:Fr)(v:AV):aD i (cM (some j) F v)=if i=j then v else aD i F:=by
 show aD i (F.set j (some v))=_;unfold aD;rw[di];split<;>rfl
end Go.Ev
namespace Go.Ev
variable {fns:T dY}
theorem aNW{l:Nat}{args:bf}{S:St}{Q:AV->St->Prop}{pend:Option Out}{fr F:Fr}{ps:bg}{as bd:AC}(hl:S.h.get l=some (.loop .ready pend fr ps as bd))(hF:nG ps args fr=some F)
  (h:iM fns as ⟨F,true⟩ S fun o A1 S1=>o= .normal/\∃pend1 fr1 ps1 as1,S1.h.get l=some (.loop .ready pend1 fr1 ps1 as1 bd)/\iM fns bd A1 ⟨S1.h.set l (some (.loop .busy pend1 fr1 ps1 as1 bd)),S1.nx⟩ fun o A2 S2=>∃pend2 fr2 ps2 as2 bd2,S2.h.get l=some (.loop .busy pend2 fr2 ps2 as2 bd2)/\
   ((o= .normal/\Q (.bool true) ⟨S2.h.set l (some (.loop .ready none fr2 ps2 as2 bd2)),S2.nx⟩)\/(o≠ .normal/\Q (.bool false) ⟨S2.h.set l (some (.loop .done (some o) fr2 ps2 as2 bd2)),S2.nx⟩))):fZ fns (.yld l) args S Q:=by
 obtain⟨n,o,A1,S1,h1,rfl,pend1,fr1,ps1,as1,h2,m,o2,A2,S2,h3,pend2,fr2,ps2,as2,bd2,h4,h5⟩:=h;have e1:=(kL fns (Ew n m)).code _ _ _ _ h1;have e3:=(kL fns (Er n m)).code _ _ _ _ h3;have key:∀r,uA (.loop .busy pend2 fr2 ps2 as2 bd2) o2 l S2=some r->(ev fns (max n m+1)).call (.yld l) args S=some r:=fun r hr=>by
  show bC (S.h.get l) (fun bl=>aAf bl l args (ev fns (max n m)) S)=_;rw[hl,aL];show bC (nG ps args fr) (fun F=>bC ((ev fns (max n m)).code as ⟨F,true⟩ S) (aCT l bd (ev fns (max n m))))=_;rw[hF,aL,e1,aL];show bC (S1.h.get l) (fun bl=>tH bl l bd (ev fns (max n m)) A1 S1)=_;rw[h2,aL];show bC ((ev fns (max n m)).code bd A1 ⟨S1.h.set l (some (.loop .busy pend1 fr1 ps1 as1 bd)),S1.nx⟩) (fun r=>bC (r.2.2.h.get l) fun bl=>uA bl r.1 l r.2.2)=_;rw[e3,aL];show bC (S2.h.get l) (fun bl=>uA bl o2 l S2)=_;rw[h4,aL];exact hr
 rcases h5 with⟨rfl,h5⟩ | ⟨hne,h5⟩
 ·exact⟨_,_,_,key _ rfl,h5⟩
 ·refine⟨_,_,_,key (.bool false,⟨S2.h.set l (some (.loop .done (some o2) fr2 ps2 as2 bd2)),S2.nx⟩) ?_,h5⟩;cases o2 with
  | normal=>exact absurd rfl hne
  | _=>rfl
theorem aNf{f:cO}{ps:bg}{as bd:AC}{A:bG}{S:St}{Q:Out->bG->St->Prop}{id:Nat}{first cap:bf}(hi:A.inr=false)(hf:f.val A.F= .fn id first cap)
  (h:fZ fns (.fn id first cap) [.yld S.nx] ⟨S.h.set S.nx (some (.loop .ready none A.F ps as bd)),S.nx+1⟩ fun _ S2=>∃st pend fr ps2 as2 bd2 c,S2.h.get S.nx=some (.loop st pend fr ps2 as2 bd2)/\st≠ .busy/\aK5 pend=some c/\iM fns c A ⟨S2.h.set S.nx (some (.loop .exhausted pend fr ps2 as2 bd2)),S2.nx⟩ Q):iM fns (.rng f ps as bd) A S Q:=by
 have⟨n,v,S2,h1,st,pend,fr,ps2,as2,bd2,c,h2,hst,hc,m,o,A',S',h3,hq⟩:=h;refine⟨max n m+1,o,A',S',?_,hq⟩;show bQ A.inr none (bQ (aMU (f.val A.F)) (bC ((ev fns (max n m)).call (f.val A.F) [.yld S.nx] ⟨S.h.set S.nx (some (.loop .ready none A.F ps as bd)),Nat.succ S.nx⟩) fun r=>bC (r.2.h.get S.nx) fun bl=>aBM bl S.nx A r.2 (ev fns (max n m))) none)=_;rw[hi,bB,hf,show aMU (.fn id first cap)=true from rfl,aR,show Nat.succ S.nx=S.nx+1 from rfl,(kL fns (Ew n m)).call _ _ _ _ h1,aL];show bC (S2.h.get S.nx) (fun bl=>aBM bl S.nx A S2 (ev fns (max n m)))=_;rw[h2,aL];have e:=(kL fns (Er n m)).code _ _ _ _ h3;cases st with
 | busy=>exact absurd rfl hst
 | _=>
  show bC (aK5 pend) (fun c=>(ev fns (max n m)).code c A ⟨S2.h.set S.nx _,S2.nx⟩)=_;rw[hc,aL];exact e
theorem aOq{tbl:List (Nat×Nat×Option (Bool×Nat))}{recv:cO}{args:List cO}{F:Fr}{t f:Nat}{v:AV}(hr:recv.val F= .iface t v)(hf:aDu t tbl=some (f,none))(call:fA)(S:St):evX (.inv tbl recv args) call F S=evX (.call (.c (.fn f [v] [])) args) call F S:=by
 show aI9 (recv.val F) tbl (dG args F) call S=call (.fn f [v] []) (dG args F) S;rw[hr];show bC (aDu t tbl) (fun r=>aIC r v (dG args F) call S)=_;rw[hf,aL];rfl
end Go.Ev
namespace Go.Ev
def Same(S S':St):Prop:=S.nx<=S'.nx/\∀b,b<S.nx->S'.h.get b=S.h.get b
theorem Same.refl(S:St):Same S S:=⟨Ag _,fun _ _=>rfl⟩
theorem Same.trans{S S' S'':St}(h:Same S S')(h':Same S' S''):Same S S'':=⟨Al h.1 h'.1,fun b hb=>(h'.2 b (Ae hb h.1)).trans (h.2 b hb)⟩
theorem Same.alloc(S:St)(bl:AB):Same S ⟨S.h.set S.nx (some bl),S.nx+1⟩:=⟨Nat.le_succ _,fun b hb=>by simp only;rw[di,if_neg ar]⟩
theorem Same.put{S S':St}{b:Nat}(h:Same S S')(hb:S.nx<=b)(x:Option AB):Same S ⟨S'.h.set b x,S'.nx⟩:=⟨h.1,fun c hc=>by simp only;rw[di,if_neg ar];exact h.2 c hc⟩
def bI(k:IntKind)(S:St)(v:AV)(l:ba):Prop:=
 (l= []/\(v= .bw\/v= .emp))\/∃b off cap o cs,v= .sl b off l.length cap o/\l.length<=cap/\b<S.nx/\cK S.h b=some cs/\∀i x,l[i]? =some x->cs[off+i]? =some (.int k x)
theorem wC{S S':St}(h:Same S S'){b:Nat}(hb:b<S.nx):cK S'.h b=cK S.h b:=by unfold cK;rw[h.2 b hb]
theorem bI.same{k:IntKind}{S S':St}{v:AV}{l:ba}(h:bI k S v l)(hs:Same S S'):bI k S' v l:=by
 rcases h with h | ⟨b,off,cap,o,cs,h1,hc,h2,h3,h4⟩
 ·exact .inl h
 ·exact .inr ⟨b,off,cap,o,cs,h1,hc,Ae h2 hs.1,by rw[wC hs h2];exact h3,h4⟩
theorem bI.len{k:IntKind}{S:St}{v:AV}{l:ba}(h:bI k S v l):jJ v=some (.int .i64 (.ofNat l.length)):=by
 rcases h with⟨rfl,rfl | rfl⟩ | ⟨b,off,cap,o,cs,rfl,_⟩<;>rfl
def aAN(v:AV)(i:Nat):AV:=
 match v with
 | .sl b off _ _ _=>.ptr b (off+i * 1)
 | _=>.undef
theorem bI.cp{k:IntKind}{S:St}{v:AV}{l:ba}(h:bI k S v l){i:Nat}(hi:i<l.length):dO (.slice 1) v i=some (aAN v i):=by
 rcases h with⟨rfl,_⟩ | ⟨b,off,cap,o,cs,rfl,_⟩
 ·simp at hi
 ·simp only[dO,aAN];have:Nat.blt i l.length=true:=Av hi;rw[this,aR]
theorem bI.ld{k:IntKind}{S:St}{v:AV}{l:ba}(h:bI k S v l){i:Nat}(hi:i<l.length):dT (aAN v i) false 1 S.h=some (.int k (l.getD i 0)):=by
 rcases h with⟨rfl,_⟩ | ⟨b,off,cap,o,cs,rfl,hc,hb,hcs,hel⟩
 ·simp at hi
 ·simp only[aAN,dT,pS,bB,lK,hcs,aL,pZ,Cr];rw[hel i l[i] (Ab hi)];simp [Ad,hi]
theorem aFV(e:tZ)(k:IntKind)(a b:Int):pV .add e (.int k a) (.int k b)=some (.int k (k.wrap (a+b))):=by
 show fM .add k a k b=_;unfold fM;rw[show iK .add=false from rfl,bB,fL,aR];show some (AV.int k (aMu k a b))=_;rw[aHK]
theorem aFR(e:tZ)(k:IntKind)(a b:Int):pV .sub e (.int k a) (.int k b)=some (.int k (k.wrap (a - b))):=by
 show fM .sub k a k b=_;unfold fM;rw[show iK .sub=false from rfl,bB,fL,aR];show some (AV.int k (aJC k a b))=_;rw[aDZ]
theorem aFO(e:tZ)(k:IntKind)(a b:Int):pV .mul e (.int k a) (.int k b)=some (.int k (k.wrap (a * b))):=by
 show fM .mul k a k b=_;unfold fM;rw[show iK .mul=false from rfl,bB,fL,aR];show some (AV.int k (aJy k a b))=_;rw[aDC]
theorem aFU(e:tZ)(k:IntKind)(a b:Int):pV .lss e (.int k a) (.int k b)=some (.bool (decide (a<b))):=by
 show fM .lss k a k b=_;unfold fM;rw[show iK .lss=false from rfl,bB,fL,aR];show some (AV.bool (bQ (ile b a) false true))=_;rw[pX,tB];congr 2;rw[Cl];simp
theorem aFM(e:tZ)(k:IntKind)(a b:Int):pV .leq e (.int k a) (.int k b)=some (.bool (decide (a<=b))):=by
 show fM .leq k a k b=_;unfold fM;rw[show iK .leq=false from rfl,bB,fL,aR];show some (AV.bool (ile a b))=_;rw[pX]
theorem aFD(e:tZ)(k:IntKind)(a b:Int):pV .gtr e (.int k a) (.int k b)=some (.bool (decide (b<a))):=by
 show fM .gtr k a k b=_;unfold fM;rw[show iK .gtr=false from rfl,bB,fL,aR];show some (AV.bool (bQ (ile a b) false true))=_;rw[pX,tB];congr 2;rw[Cl];simp
theorem aGs(e:tZ)(k:IntKind)(a b:Int):pV .geq e (.int k a) (.int k b)=some (.bool (decide (b<=a))):=by
 show fM .geq k a k b=_;unfold fM;rw[show iK .geq=false from rfl,bB,fL,aR];show some (AV.bool (ile b a))=_;rw[pX]
theorem aCX(e:tZ)(k:IntKind)(a b:Int):pV .eql e (.int k a) (.int k b)=some (.bool (decide (a=b))):=by
 show fM .eql k a k b=_;unfold fM;rw[show iK .eql=false from rfl,bB,fL,aR];show some (AV.bool (ieq a b))=_;rw[jP];congr 2
theorem aGk(e:tZ)(k:IntKind)(a b:Int):pV .neq e (.int k a) (.int k b)=some (.bool (decide (a≠b))):=by
 show fM .neq k a k b=_;unfold fM;rw[show iK .neq=false from rfl,bB,fL,aR];show some (AV.bool (bQ (ieq a b) false true))=_;rw[jP,tB];congr 2;rw[Cl];simp
section
variable (F:Fr)(h:T AB)
theorem aFG(x:cO):gM (.mv x) F h=some (x.val F):=rfl
theorem aCS(op:BinOp)(e:tZ)(x y:cO):gM (.bin op e x y) F h=pV op e (x.val F) (y.val F):=rfl
theorem aIs(op:UnOp)(x:cO):gM (.un op x) F h=unV op (x.val F):=rfl
theorem yL(x:cO):gM (.ct x) F h=jJ (x.val F):=rfl
theorem qV(k:IxK)(x ix:cO):gM (.cp k x ix) F h=bC (fP (ix.val F)) fun i=>dO k (x.val F) i:=rfl
theorem mP(agg:Bool)(n:Nat)(x:cO):gM (.ld agg n x) F h=dT (x.val F) agg n h:=rfl
theorem aDn(k:aJY)(x:cO):gM (.conv k x) F h=aDq k (x.val F) h:=rfl
theorem xC(x:cO)(i:Nat):gM (.extract x i) F h=kC (x.val F) i:=rfl
theorem aEG(c a b:cO):gM (.pick c a b) F h=xY (c.val F) a b F:=rfl
theorem aF1(agg:Bool)(off n:Nat)(x:cO):gM (.fld agg off n x) F h=aKQ (x.val F) agg off n:=rfl
end
theorem aH(k:IntKind)(n:Nat):fP (.int k (n:Int))=some n:=rfl
theorem aDy(k j:IntKind)(n:Int)(h:T AB):aDq (.int k) (.int j n) h=some (.int k (k.wrap n)):=by
 show some (AV.int k (aEZ k n))=_;rw[aAE]
end Go.Ev
namespace Go.Ev
variable {fns:T dY}
def lL{α:Type}(x:Option α)(Q:α->Prop):Prop:=∃a,x=some a/\Q a
theorem eC{α:Type}(a:α)(Q:α->Prop):lL (some a) Q=Q a:=propext ⟨fun⟨_,h1,h2⟩=>by cases h1;exact h2,fun h=>⟨a,rfl,h⟩⟩
theorem aID{d:Option Nat}{q:QOp}{m:Nat}{l:List AO}{F:Fr}{S:St}{Q:Fr->St->Prop}:vL fns (⟨d,.q q,none,m⟩::l) F S Q↔lL (gM q F S.h) fun v=>vL fns l (cM d F v) S Q:=by
 constructor
 ·rintro⟨n,F',S',h1,h2⟩;rw[gQ] at h1;have⟨r,h3,h4⟩:=aO h1;have⟨v,h5,h6⟩:=aO (show bC (gM q F S.h) (fun v=>some (cM d F v,S))=some r from h3);cases h6;exact⟨v,h5,n,F',S',h4,h2⟩
 ·rintro⟨v,h1,h2⟩;exact aMC h1 h2
theorem aBN{d:Option Nat}{a:wN}{m:Nat}{l:List AO}{F:Fr}{S:St}{Q:Fr->St->Prop}:vL fns (⟨d,.a a,none,m⟩::l) F S Q↔lL (uW a F S.nx) fun r=>vL fns l (cM d F r.1) ⟨S.h.set S.nx (some r.2),S.nx+1⟩ Q:=by
 constructor
 ·rintro⟨n,F',S',h1,h2⟩;rw[gQ] at h1;have⟨r,h3,h4⟩:=aO h1;have⟨v,h5,h6⟩:=aO (show bC (uW a F S.nx) (fun r=>some (cM d F r.1,(⟨S.h.set S.nx (some r.2),Nat.succ S.nx⟩:St)))=some r from h3);cases h6;exact⟨v,h5,n,F',S',h4,h2⟩
 ·rintro⟨⟨v,bl⟩,h1,h2⟩;exact aQD h1 h2
def zU(fns:T dY)(ops:List AO)(i base:Nat)(D:DS)(Q:DS->Prop):Prop:=∃n D',wL ops i base (ev fns n).call D=some D'/\Q D'
theorem tI{ops:List AO}{A:bG}{S:St}{Q:Out->bG->St->Prop}(h:zU fns ops 0 S.nx ⟨A.F,⟨S.h,S.nx+ops.length⟩,[],[],[]⟩ fun D=>fV S.h D.hs.reverse D.ls=true/\Q .normal ⟨D.F,A.inr⟩ ⟨(cJ (2 ^ ops.length - 1) D.ps D.S.h).2,D.S.nx⟩):iM fns (.drw ops) A S Q:=by
 have⟨n,D,h1,h2,h3⟩:=h;refine⟨n+1,.normal,⟨D.F,A.inr⟩,⟨(cJ (2 ^ ops.length - 1) D.ps D.S.h).2,D.S.nx⟩,?_,h3⟩;show bC (bC (wL ops 0 S.nx (ev fns n).call ⟨A.F,⟨S.h,S.nx+mC ops⟩,[],[],[]⟩) fun D=>aAK S.h (mC ops) D) _=_;rw[fS,h1,aL];unfold aAK;rw[h2,aR];rfl
theorem gG{i base:Nat}{D:DS}{Q:DS->Prop}:zU fns [] i base D Q↔Q D:=
 ⟨fun⟨_,_,h1,h2⟩=>by cases h1;exact h2,fun h=>⟨0,D,rfl,h⟩⟩
theorem lM{d:Option Nat}{q:QOp}{m i base:Nat}{l:List AO}{D:DS}{Q:DS->Prop}:zU fns (⟨d,.q q,none,m⟩::l) i base D Q↔
  lL (gM q D.F D.S.h) fun v=>zU fns l (i+1) base ⟨cM d D.F v,D.S,D.ps,D.hs,bQ (dN q) (⟨q,D.F,v,i,m⟩::D.ls) D.ls⟩ Q:=by
 constructor
 ·rintro⟨n,D',h1,h2⟩;have⟨r,h3,h4⟩:=aO (show bC (tW ⟨d,.q q,none,m⟩ i base (ev fns n).call D) (fun D'=>wL l (i+1) base (ev fns n).call D')=some D' from h1);have⟨v,h5,h6⟩:=aO (show bC (gM q D.F D.S.h) (fun v=>some (⟨cM d D.F v,D.S,D.ps,D.hs,bQ (dN q) (⟨q,D.F,v,i,m⟩::D.ls) D.ls⟩:DS))=some r from h3);cases h6;exact⟨v,h5,n,D',h4,h2⟩
 ·rintro⟨v,h1,n,D',h2,h3⟩;refine⟨n,D',?_,h3⟩;show bC (bC (gM q D.F D.S.h) _) _=_;rw[h1];exact h2
theorem aIk{d:Option Nat}{a:wN}{m i base:Nat}{l:List AO}{D:DS}{Q:DS->Prop}:zU fns (⟨d,.a a,none,m⟩::l) i base D Q↔
  lL (uW a D.F (base+i)) fun r=>zU fns l (i+1) base ⟨cM d D.F r.1,D.S,⟨i,base+i,r.2⟩::D.ps,D.hs,D.ls⟩ Q:=by
 constructor
 ·rintro⟨n,D',h1,h2⟩;have⟨r,h3,h4⟩:=aO (show bC (tW ⟨d,.a a,none,m⟩ i base (ev fns n).call D) (fun D'=>wL l (i+1) base (ev fns n).call D')=some D' from h1);have⟨v,h5,h6⟩:=aO (show bC (uW a D.F (base+i)) (fun r=>some (⟨cM d D.F r.1,D.S,⟨i,base+i,r.2⟩::D.ps,D.hs,D.ls⟩:DS))=some r from h3);cases h6;exact⟨v,h5,n,D',h4,h2⟩
 ·rintro⟨r,h1,n,D',h2,h3⟩;refine⟨n,D',?_,h3⟩;show bC (bC (uW a D.F (base+i)) _) _=_;rw[h1];exact h2
theorem jZ{d:Option Nat}{x:XOp}{m i base:Nat}{l:List AO}{D:DS}{Q:DS->Prop}{v:AV}{S1:St}(hl:jU D.hs m=true)(h:∀call,evX x call D.F ⟨(cJ m D.ps D.S.h).2,D.S.nx⟩=some (v,S1))
  (hq:zU fns l (i+1) base ⟨cM d D.F v,S1,(cJ m D.ps D.S.h).1,(i,m,S1.h)::D.hs,D.ls⟩ Q):zU fns (⟨d,.x x,none,m⟩::l) i base D Q:=by
 have⟨n,D',h2,h3⟩:=hq;refine⟨n,D',?_,h3⟩;show bC (bQ (jU D.hs m) (bC (evX x (ev fns n).call D.F ⟨(cJ m D.ps D.S.h).2,D.S.nx⟩) _) none) _=_;rw[hl,aR,h];exact h2
theorem xQ{d:Option Nat}{f:cO}{args:List cO}{m i base:Nat}{l:List AO}{D:DS}{Q:DS->Prop}(hl:jU D.hs m=true)
  (h:fZ fns (f.val D.F) (dG args D.F) ⟨(cJ m D.ps D.S.h).2,D.S.nx⟩ fun v S1=>zU fns l (i+1) base ⟨cM d D.F v,S1,(cJ m D.ps D.S.h).1,(i,m,S1.h)::D.hs,D.ls⟩ Q):zU fns (⟨d,.x (.call f args),none,m⟩::l) i base D Q:=by
 have⟨n,v,S1,h1,k,D',h2,h3⟩:=h;refine⟨max n k,D',?_,h3⟩;show bC (bQ (jU D.hs m) (bC ((ev fns (max n k)).call (f.val D.F) (dG args D.F) ⟨(cJ m D.ps D.S.h).2,D.S.nx⟩) _) none) _=_;rw[hl,aR,(kL fns (Ew n k)).call _ _ _ _ h1];exact uD (kL fns (Er n k)).call h2
theorem aLk{d:Option Nat}{op:AOp}{s:Nat}{b:Bool}{m i base:Nat}{l:List AO}{D:DS}{Q:DS->Prop}(hg:aD s D.F= .bool b)(hl:zU fns (⟨d,op,none,m⟩::l) i base D Q):zU fns (⟨d,op,some (s,b),m⟩::l) i base D Q:=by
 have⟨n,D',h1,h2⟩:=hl;refine⟨n,D',?_,h2⟩;have:tW ⟨d,op,some (s,b),m⟩ i base (ev fns n).call D=tW ⟨d,op,none,m⟩ i base (ev fns n).call D:=by
  unfold tW;have e1:eS (some (s,b)) D.F=true:=by show isB (aD s D.F) b=true;rw[hg];cases b<;>rfl
  have e2:eS none D.F=true:=rfl;simp only[e1,e2];cases op<;>rfl
 show bC (tW ⟨d,op,some (s,b),m⟩ i base (ev fns n).call D) _=_;rw[this];exact h1
theorem dH(k:IntKind)(a:Int):cE (.int k a) (.int k a)=true:=by simp [cE,cN,fL,jP]
theorem yO(a:Bool):cE (.bool a) (.bool a)=true:=by simp [cE,vC]
theorem aD4(a b:Nat):cE (.ptr a b) (.ptr a b)=true:=by simp [cE,cN,Bj]
theorem nH(a b c d:Nat)(o:Bool):cE (.sl a b c d o) (.sl a b c d o)=true:=by simp [cE,Bj,vC]
theorem aAq:cE .bw .bw=true:=rfl
end Go.Ev
namespace Go.Ev
def wF(S:St):Prop:=∀b,S.nx<=b->S.h.get b=none
def Frs(S S':St):Prop:=(wF S->wF S')/\S.nx<=S'.nx
theorem aJ4(S:St)(x:Option AB):Frs S ⟨S.h.set S.nx x,S.nx+1⟩:=
 ⟨fun h c hc=>by simp only at hc ⊢;rw[di,if_neg ar];exact h c ar,Nat.le_succ _⟩
end Go.Ev
namespace Go.Ev
variable {P:Program}{σ:Env}{S:St}{w:World}
def aGq:List (Nat×Nat×IntKind×Int)->AC
 | []=>.seq (.reg [⟨some 0,.q (.mv (.c (.bool true))),none,0⟩]) .ret
 | (g,j,k,z)::l=>.seq (.reg [⟨some 1,.q (.ld false 1 (.c (.ptr g j))),none,0⟩,⟨some 2,.q (.bin .eql (.p .int) (.t 1) (.c (.int k z))),none,0⟩]) (.seq (.cond (.t 2) .skip (.exit 0)) (aGq l))
def aBO(l:List (Nat×Nat×IntKind×Int)):dY:=⟨0,[.t 0],aGq l⟩
theorem aJs{fns:T dY}{Q:Out->bG->St->Prop}(hQ:∀A,aD 0 A.F= .bool true->Q .ret A S):∀ {l:List (Nat×Nat×IntKind×Int)} {A:bG},(∀c∈l,lK S.h c.1 c.2.1=some (.int c.2.2.1 c.2.2.2))->iM fns (aGq l) A S Q
 | [],A,_=>by
  refine aA (aJ ?_);rw[aID];exact⟨.bool true,rfl,(aAI).2 (aP (hQ _ (by rw[bS,if_pos rfl])))⟩
 | (g,j,k,z)::l,A,h=>by
  have h1:=h (g,j,k,z) (by simp);simp only at h1;refine aA (aJ (aMC (v:=.int k z) h1 (aMC (v:=.bool true) ?_ (aAI.2 ?_))))
  ·show pV .eql (.p .int) (aD 1 (cM (some 1) A.F (.int k z))) (.int k z)=_;rw[bS,if_pos rfl,aCX,Ac rfl]
  refine aA (aJa (t:=true) (by show aD 2 _=_;rw[bS,if_pos rfl]) (fun _=>aI ?_) (fun h=>by cases h));exact aJs hQ fun c hc=>h c (by simp [hc])
theorem aLX{fns:T dY}{id:Nat}{l:List (Nat×Nat×IntKind×Int)}(hfn:fns.get id=some (aBO l))(h:∀c∈l,lK S.h c.1 c.2.1=some (.int c.2.2.1 c.2.2.2)):fZ fns (.fn id [] []) [] S fun r S'=>r= .bool true/\S'=S:=by
 refine cF hfn (by simp) (aJs (fun A hA=>?_) h);exact⟨[aD 0 A.F],rfl,by rw[hA];rfl,rfl⟩
theorem aGj{v:AV}{k:IntKind}{z:Int}(h:pV .eql (.p .int) v (.int k z)=some (.bool true)):v= .int k z:=by
 cases v with
 | int k' z'=>
  have h':fM .eql k' z' k z=some (.bool true):=h;unfold fM at h';rw[show iK .eql=false from rfl,bB] at h';have⟨hk,h'⟩:=cH h';have hz:some (AV.bool (ieq z' z))=some (.bool true):=h';simp only[Ap,AV.bool.injEq] at hz;rw[jP] at hz;have hz:=eq_of_beq hz;subst hz;have hkk:k'=k:=by
   cases k<;>cases k'<;>first | rfl | (exfalso;revert hk;decide)
  rw[hkk]
 | _=>cases h
theorem aHZ{fns:T dY}:∀ {l:List (Nat×Nat×IntKind×Int)} {n:Nat} {A A':bG} {S':St} {o:Out},(ev fns n).code (aGq l) A S=some (o,A',S')->(∀i,o≠ .exit i)->(∀c∈l,lK S.h c.1 c.2.1=some (.int c.2.2.1 c.2.2.2))/\S'=S/\aD 0 A'.F= .bool true
 | l,0,_,_,_,_,h,_=>by cases h
 | l,1,A,A',S',o,h,_=>by
  cases l with
  | nil=>
   have h':(none:Option (Out×bG×St))=some (o,A',S'):=h;cases h'
  | cons c l=>
   have⟨g,j,k,z⟩:=c;have h':(none:Option (Out×bG×St))=some (o,A',S'):=h;cases h'
 | [],n+2,A,A',S',o,h,ho=>by
  have⟨⟨o1,A1,S1⟩,h1,h2⟩:=aO (show bC ((ev fns (n+1)).code (.reg [⟨some 0,.q (.mv (.c (.bool true))),none,0⟩]) A S) (uQ .ret (ev fns (n+1)))=some (o,A',S') from h);have e1:(ev fns (n+1)).code (.reg [⟨some 0,.q (.mv (.c (.bool true))),none,0⟩]) A S=some (.normal,⟨cM (some 0) A.F (.bool true),A.inr⟩,S):=rfl;rw[e1] at h1;cases h1;have e2:uQ .ret (ev fns (n+1)) (.normal,⟨cM (some 0) A.F (.bool true),A.inr⟩,S)=some (.ret,⟨cM (some 0) A.F (.bool true),A.inr⟩,S):=rfl;rw[e2] at h2;cases h2;exact⟨fun c hc=>(by cases hc),rfl,by rw[bS,if_pos rfl]⟩
 | (g,j,k,z)::l,n+2,A,A',S',o,h,ho=>by
  have⟨⟨o1,A1,S1⟩,h1,h2⟩:=aO (show bC ((ev fns (n+1)).code (.reg [⟨some 1,.q (.ld false 1 (.c (.ptr g j))),none,0⟩,⟨some 2,.q (.bin .eql (.p .int) (.t 1) (.c (.int k z))),none,0⟩]) A S) (uQ (.seq (.cond (.t 2) .skip (.exit 0)) (aGq l)) (ev fns (n+1)))=some (o,A',S') from h);have⟨⟨F1,S2⟩,h3,h4⟩:=aO (show bC (wJ [⟨some 1,.q (.ld false 1 (.c (.ptr g j))),none,0⟩,⟨some 2,.q (.bin .eql (.p .int) (.t 1) (.c (.int k z))),none,0⟩] (ev fns n).call A.F S) (fun r=>some (.normal,(⟨r.1,A.inr⟩:bG),r.2))=some (o1,A1,S1) from h1);cases h4;rw[gQ] at h3;have⟨⟨F2,S3⟩,h5,h6⟩:=aO h3;have⟨v,hv,h7⟩:=aO (show bC (lK S.h g j) (fun v=>some (cM (some 1) A.F v,S))=some (F2,S3) from h5);cases h7;rw[gQ] at h6;have⟨⟨F4,S4⟩,h8,h9⟩:=aO h6;cases h9;have⟨b,hb,h10⟩:=aO (show bC (pV .eql (.p .int) (aD 1 (cM (some 1) A.F v)) (.int k z)) (fun u=>some (cM (some 2) (cM (some 1) A.F v) u,S))=some (F4,S4) from h8);cases h10;rw[bS,if_pos rfl] at hb;have h2:(ev fns (n+1)).code (.seq (.cond (.t 2) .skip (.exit 0)) (aGq l)) ⟨cM (some 2) (cM (some 1) A.F v) b,A.inr⟩ S=some (o,A',S'):=h2;have⟨⟨o5,A5,S5⟩,k1,k2⟩:=aO (show bC ((ev fns n).code (.cond (.t 2) .skip (.exit 0)) ⟨cM (some 2) (cM (some 1) A.F v) b,A.inr⟩ S) (uQ (aGq l) (ev fns n))=some (o,A',S') from h2);cases n with
  | zero=>cases k1
  | succ n=>
   have k1:aCa (aD 2 (cM (some 2) (cM (some 1) A.F v) b)) .skip (.exit 0) (ev fns n) ⟨cM (some 2) (cM (some 1) A.F v) b,A.inr⟩ S=some (o5,A5,S5):=k1;rw[bS,if_pos rfl] at k1;cases b with
   | bool t=>
    have k1:(ev fns n).code (bQ t .skip (.exit 0)) ⟨cM (some 2) (cM (some 1) A.F v) (.bool t),A.inr⟩ S=some (o5,A5,S5):=k1;cases t with
    | true=>
     rw[aR] at k1;cases n with
     | zero=>cases k1
     | succ n=>
      have e:(ev fns (n+1)).code .skip ⟨cM (some 2) (cM (some 1) A.F v) (.bool true),A.inr⟩ S=some (.normal,⟨cM (some 2) (cM (some 1) A.F v) (.bool true),A.inr⟩,S):=rfl;rw[e] at k1;cases k1;have ih:=aHZ (l:=l) (show(ev fns (n+1+1)).code (aGq l) _ S=some (o,A',S') from k2) ho;refine⟨fun c hc=>?_,ih.2⟩;rcases Bs.1 hc with rfl | hc
      ·rw[hv,aGj hb]
      ·exact ih.1 c hc
    | false=>
     rw[bB] at k1;cases n with
     | zero=>cases k1
     | succ n=>
      have e:(ev fns (n+1)).code (.exit 0) ⟨cM (some 2) (cM (some 1) A.F v) (.bool false),A.inr⟩ S=some (.exit 0,⟨cM (some 2) (cM (some 1) A.F v) (.bool false),A.inr⟩,S):=rfl;rw[e] at k1;cases k1;have k2:some (Out.exit 0,(⟨cM (some 2) (cM (some 1) A.F v) (.bool false),A.inr⟩:bG),S)=some (o,A',S'):=k2;cases k2;exact absurd rfl (ho 0)
   | _=>cases k1
theorem aKb{fns:T dY}{l:List (Nat×Nat×IntKind×Int)}{n:Nat}{S':St}{v:AV}(h:wO (aBO l) [] (ev fns n) S=some (v,S')):(∀c∈l,lK S.h c.1 c.2.1=some (.int c.2.2.1 c.2.2.2))/\S'=S/\v= .bool true:=by
 unfold wO at h;have⟨_,h⟩:=cH h;have⟨⟨o,A',S1⟩,h1,h2⟩:=aO h;unfold aFX at h2;split at h2
 ·cases h2
 ·rename_i hne;have⟨vs,h3,h4⟩:=aO h2;cases h4;have⟨k1,k2,k3⟩:=aHZ (show(ev fns n).code (aGq l) ⟨.e,false⟩ S=some (o,A',S1) from h1) (fun i e=>hne i e);refine⟨k1,k2,?_⟩;have:some [aD 0 A'.F]=some vs:=h3;cases this;exact k3
def aC1:Nat->Nat->List (IntKind×Int)->List (Nat×Nat×IntKind×Int)
 | _,_,[]=>[]
 | g,j,(k,z)::l=>(g,j,k,z)::aC1 g (j+1) l
theorem aDP:∀ {l:List (IntKind×Int)} {g j i:Nat} {k:IntKind} {z:Int},l[i]? =some (k,z)->(g,j+i,k,z)∈aC1 g j l
 | [],_,_,_,_,_,h=>by simp at h
 | (k,z)::l,g,j,0,k',z',h=>by
  simp at h;obtain⟨rfl,rfl⟩:=h;simp [aC1]
 | (k,z)::l,g,j,i+1,k',z',h=>by
  have:=aDP (g:=g) (j:=j+1) (show l[i]? =some (k',z') by simpa using h);rw[show j+(i+1)=j+1+i by omega];exact Bk _ this
def nP:List (Nat×List (IntKind×Int))->List (Nat×Nat×IntKind×Int)
 | []=>[]
 | (g,l)::r=>aC1 g 0 l++nP r
theorem aBe:∀ {t:List (Nat×List (IntKind×Int))} {g:Nat} {l:List (IntKind×Int)},(g,l)∈t->∀c∈aC1 g 0 l,c∈nP t
 | (g',l')::t,g,l,h,c,hc=>by
  simp only[nP,Cb];rcases Bs.1 h with h | h
  ·cases h;exact .inl hc
  ·exact .inr (aBe h c hc)
theorem aHD(hR:kT P σ S w){t:List (Nat×List (IntKind×Int))}(hg:∀x∈t,x.1<P.globals.size/\x.2≠ [])(h:∀c∈nP t,lK S.h c.1 c.2.1=some (.int c.2.2.1 c.2.2.2)):aMi P (t.map fun x=>(x.1,x.2.map fun y=>AV.int y.1 y.2)) w:=by
 intro x hx;obtain⟨⟨g,l⟩,hgl,rfl⟩:=Dg.1 hx;have⟨h1,h2⟩:=hg _ hgl;have hc:∀i k z,l[i]? =some (k,z)->lK S.h g i=some (.int k z):=fun i k z hi=>by
  have:=h _ (aBe hgl _ (aDP (g:=g) (j:=0) hi));simpa using this
 obtain⟨⟨k0,z0⟩,l',rfl⟩:∃a l',l=a::l':=by cases l with | nil=>exact absurd rfl h2 | cons a l'=>exact⟨a,l',rfl⟩
 have h0:=hc 0 k0 z0 rfl;unfold lK cK at h0;have⟨cs,h3,h4⟩:=aO h0;have⟨bl,h5,h6⟩:=aO h3;have⟨L,h7,h8,h9⟩:=hR.blk g bl h5;rw[hR.glob g h1] at h7;cases h7;have hcs:∀i k z,((k0,z0)::l')[i]? =some (k,z)->cs[i]? =some (AV.int k z):=fun i k z hi=>by
  have:=hc i k z hi;unfold lK cK at this;rw[h5,aL,h6,aL,pZ] at this;exact this
 have key:∀Cs,iH P σ cs Cs->w.rangeAt g 0 Cs->∃Ds,iH P (aC7 P) (((k0,z0)::l').map fun y=>AV.int y.1 y.2) Ds/\(∀u∈Ds,u.oneCell'=true)/\w.rangeAt g 0 Ds:=by
  intro Cs hC hr;refine⟨((k0,z0)::l').map fun y=>Value.int y.1 y.2,?_,fun u hu=>?_,fun j v hv=>?_⟩
  ·clear hcs hc hg h h0 hgl hx h2;generalize (k0,z0)::l'=m
   induction m with
   | nil=>exact cS.2 rfl
   | cons a m ih=>exact dB.2 ⟨_,_,rfl,by simp only[Rv],ih⟩
  ·obtain⟨y,_,rfl⟩:=Dg.1 hu;rfl
  ·rw[Am,Aw] at hv;obtain⟨⟨k,z⟩,hkz,rfl⟩:=hv;have h10:=hcs j k z hkz;have⟨V,hV,hVV⟩:=hC.get h10;simp only[Rv] at hVV;rw[<-hVV];exact hr j V hV
 refine⟨h1,by simpa using h8,?_⟩;cases bl with
 | cells ds o s=>
  simp only[lR,Ap] at h6;subst h6;have⟨Cs,q1,_,q3,_⟩:=h9;exact key Cs q1 q3
 | ro ds=>
  simp only[lR,Ap] at h6;subst h6;have⟨Cs,q1,_,q3⟩:=h9;exact key Cs q1 q3
 | _=>cases h6
theorem aF7{l:List (Nat×bf)}{σ':Env}{S':St}{w':World}(hR:kT P σ S w)(h:iV P (aC7 P) (stL P l) w σ' S' w'):iV P σ S w σ S w':=by
 have hk:∀r,r<w.heap.size->w'.heap[r]? =w.heap[r]? :=fun r hr=>h.keep r hr (aSX r);refine⟨⟨fun b bl hb=>?_,hR.lt,hR.fresh,hR.glob,hR.inj⟩,fun _ _=>rfl,Ag _,fun r hr _=>hk r hr,fun _ ho=>.inl ho,h.size,h.os,h.tape,h.output,fun _ _ hb=>hb⟩;have⟨L,q1,q2,q3⟩:=hR.blk b bl hb;exact⟨L,q1,Ae q2 h.size,q3.frame (fun _ _ x=>x) (hk _ q2)⟩
theorem aEV{fns:T dY}{id nt:Nat}{res:List RV}{c:AC}{Fn:Func}{t:List (Nat×List (IntKind×Int))}{l:List (Nat×bf)}(hFn:P.funcs[id]? =some Fn)(hc:cFn P Fn=some ⟨nt,res,c⟩)(hl:l=t.map fun x=>(x.1,x.2.map fun y=>AV.int y.1 y.2))(hg:∀x∈t,x.1<P.globals.size/\x.2≠ [])
  (h:Good P c ⟨.e,false⟩ (stL P l) fun o A S=>aKL res o A S=some true):aJH P fns id (aBO (nP t)):=by
 have⟨C,c',rs,hbody,hname,hC,hrs,heq⟩:=aEo hc;cases heq;refine⟨rfl,⟨Fn,C,hFn,hbody,hname⟩,fun n S S' v hrun σ w fv hf hR=>?_⟩;have⟨hloads,hS',hv⟩:=aKb hrun;subst hS';subst hv;have hT:aMi P l w:=by rw[hl];exact aHD hR hg hloads
 simp only[Rv] at hf;obtain⟨A,B,rfl,hA,hB⟩:=hf;have hA:=cS.1 hA;have hB:=cS.1 hB;subst hA;subst hB;rw[mI hFn hbody hname];show CallsIn Fence.wide 0 P id ⟨[]++([]++ [])⟩ w _;refine callsIn_of_wp_marks hFn hbody trivial ?_;have⟨hfr,hsz⟩:=aDI (P:=P) (σ:=aC7 P) (args:=[]) (Args:=[]) (cS.2 rfl) (nt:=Fn.ntmps) (Du _);rw[<-aGh];refine h none 0 Fn.ntmps C hC (fun _=>rfl) w.heap.size (aC7 P) _ w _ hsz Df.nil (Ag _) hfr (aRC hT) ?_;intro o A' S2 σ' a' w' hret hinr hsz' hdf hfr' hext;have⟨hoo,hres⟩:=aKl hret;have⟨_,rks,hd,hnd,hmk⟩:=hdf;have fin:∀w'',iV P (aC7 P) (stL P l) w σ' S2 w''->∃V,(Go.results Fn a'.tmps).run P w''= .ok V w''/\∃σ',Rv P σ' (.bool true) V/\iV P σ S' w σ' S' w'':=fun w'' hx=>by
  have⟨Vs,h8,h9⟩:=pF hx.rep hfr' hrs hres;refine⟨if h:Vs.toArray.size=1 then Vs.toArray[0] else .tuple Vs.toArray,?_,σ,?_,aF7 hR hx⟩
  ·show((do let vs <-Fn.results.mapM (aFv a'.tmps);pure (if h:vs.size=1 then vs[0] else .tuple vs):Sem Value)).run P w''=_;rw[Array.mapM_eq_mapM_toList];simp only[Sem.run_bind,Sem.run_map,h8,Result.andThen_ok,Sem.run_pure]
  ·have:=aCe h9;simp only[oneOf,Rv] at this;rw[this];simp only[Rv]
 rcases hoo with rfl | rfl
 ·show LeavesInM Fence.wide 0 P Fn a'.tmps _ a'.defers .returning w';rw[hd];exact leaves rks w' hnd hmk hext fin
 ·show LeavesInM Fence.wide 0 P Fn a'.tmps _ a'.defers .returning w';rw[hd];exact leaves rks w' hnd hmk hext fin
theorem aGa{l:List (Nat×dY)}(hmix:P.follows .mixedOrders=true)(hl:∀p∈l,Row P p\/aJH P (table l) p.1 p.2):tD P (table l):=
 ⟨asked P,wA P,fun id fn h=>by
  rcases hl _ (aB0 h) with⟨Fn,h1,h2⟩ | h1
  ·exact .inl ⟨Fn,h1,h2⟩
  ·exact .inr h1,fun call hcall=>aCz (asked P) (wA P) hmix call hcall⟩
end Go.Ev
namespace Go.Ev
variable {P:Program}{σ:Env}{S:St}{w:World}
def wK(S:St):Prop:=∀b bl,S.h.get b=some bl->¬wE bl
def wU(σ:Env)(b:Nat)(L:Loc):Env:=fun c=>if c=b then some L else σ c
theorem aPH(hR:kT P σ S w)(L:Loc):∀b M,σ b=some M->wU σ S.nx L b=some M:=fun b M h=>by
 have:=hR.below h;unfold wU;rw[if_neg ar];exact h
structure lP(P:Program)(σ:Env)(S:St)(w:World)(σ':Env)(S':St):Prop where
 rep:kT P σ' S' w
 no:wK S'
 same:Same S S'
 fresh:wF S'
 le:∀b L,σ b=some L->σ' b=some L
theorem lP.refl(hR:kT P σ S w)(hn:wK S)(hf:wF S):lP P σ S w σ S:=⟨hR,hn,Same.refl S,hf,fun _ _ h=>h⟩
theorem lP.trans{σ' σ'':Env}{S' S'':St}(h:lP P σ S w σ' S')(h':lP P σ' S' w σ'' S''):lP P σ S w σ'' S'':=⟨h'.rep,h'.no,h.same.trans h'.same,h'.fresh,fun b L hb=>h'.le b L (h.le b L hb)⟩
theorem aP0(hn:wK S)(r:Nat):¬Own σ S r:=fun⟨b,bl,_,h1,h2,_⟩=>hn b bl h1 h2
theorem aKB{fns:T dY}(hK:tD P fns){id:Nat}{b:Bool}{Fn:Func}(hFn:P.funcs[id]? =some Fn)(hb:Fn.body.isSome=true)(hnm:(Fn.name== "runtime.NumGoroutine")=false){avs:bf}{Args:List Value}{Q:St->Prop}
  (h:fZ fns (.fn id [] []) avs S fun r S'=>r= .bool b/\Q S') (hargs:iH P σ avs Args) (hR:kT P σ S w) (hn:wK S):
  Calls P id ⟨Args⟩ w fun e w'=>e= .returned (.bool b)/\Kept w w':=by
 have⟨n,v,S',hrun0,hv,_⟩:=h;subst hv;have hs:=aLt hK n _ _ _ _ _ hrun0 σ w (.func (.func id) ⟨[]⟩ ⟨[]⟩) Args (by simp only[Rv];exact⟨[],[],rfl,cS.2 rfl,cS.2 rfl⟩) hargs hR;have hnm':¬Fn.name= "runtime.NumGoroutine" :=by simpa using hnm
 have⟨C,hC⟩:=Option.isSome_iff_exists.1 hb;have hrun:((do let d <-Deferred.ofValue (.func (.func id) ⟨[]⟩ ⟨[]⟩) ⟨Args⟩;invoke d.target d.args:Sem Next)).run P w= .ok (.enter id ⟨Args⟩) w:=by
  simp only[Deferred.ofValue,Sem.run_bind,Sem.run_pure,Result.andThen_ok,invoke,callFunc,run_program,hFn];simp [hC,hnm']
 rw[hrun] at hs;have hs:CallsIn Fence.wide 0 P id ⟨Args⟩ w _:=hs;refine(callsIn_wide.1 hs).mono fun e w' h=>?_;cases e with
 | returned V=>
  have⟨σ',h1,h2⟩:=h;simp only[Rv] at h1;subst h1;exact⟨rfl,h2.kept (aP0 hn)⟩
 | _=>exact h.elim
theorem aN0{l:List (Nat×bf)}:wK (stL P l):=fun b bl h ho=>by
 obtain⟨cs,_,rfl⟩:=oZ h;exact ho.elim
theorem aNM{l:List (Nat×bf)}(hl:∀x∈l,x.1<P.globals.size):wF (stL P l):=fun b hb=>by
 cases h:(stL P l).h.get b with
 | none=>rfl
 | some bl=>
  have⟨cs,h1,_⟩:=oZ h;have h2:=hl _ h1;simp only[stL] at hb;simp only at h2;omega
end Go.Ev
namespace Go.Ev
variable {P:Program}{σ:Env}{S:St}{w:World}
theorem aFo(hR:kT P σ S w)(hn:wK S)(hf:wF S)(hG:P.globals.size<=S.nx){r d:Nat}{cs:bf}{Cs:List Value}(hr:r<w.heap.size)(hc:iH P σ cs Cs)(h1:∀u∈Cs,u.oneCell'=true)(hw:w.rangeAt r d Cs):
  lP P σ S w (wU σ S.nx ⟨r,d,0⟩) ⟨S.h.set S.nx (some (.ro cs)),S.nx+1⟩:=by
 have hle:=aPH hR ⟨r,d,0⟩;refine⟨⟨fun b bl hb=>?_,fun b bl hb=>?_,fun b hb=>?_,fun g hg=>?_,fun b b' bl bl' L L' hb _ ho=>?_⟩,fun b bl hb=>?_,Same.alloc S _,(aJ4 S _).1 hf,hle⟩
 ·simp only at hb;rw[di] at hb;split at hb
  ·rename_i e;subst e;cases hb;exact⟨⟨r,d,0⟩,by unfold wU;rw[if_pos rfl],hr,Cs,hc.mono hle,h1,hw⟩
  ·have⟨L,h1,h2,h3⟩:=hR.blk b bl hb;exact⟨L,hle b L h1,h2,h3.frame hle rfl⟩
 ·simp only at hb;rw[di] at hb;split at hb
  ·rename_i e;subst e;simp
  ·have:=hR.lt b bl hb;simp only;omega
 ·simp only at hb;unfold wU;rw[if_neg ar];exact hR.fresh b ar
 ·unfold wU;rw[if_neg ar];exact hR.glob g hg
 ·simp only at hb;rw[di] at hb;split at hb
  ·cases hb;exact ho.elim
  ·exact absurd ho (hn b bl hb)
 ·simp only at hb;rw[di] at hb;split at hb
  ·cases hb;exact fun h=>h
  ·exact hn b bl hb
def Lays(P:Program)(t:TypeId){α:Type}(E:St->bf->α->Prop):Prop:=
 ∀ (H:Type) (enc:TypeId×Value->H) (σ:Env) (S:St) (w:World) (base:Nat) (spare:Nat->Bool) (held:Bool) (fuel:Nat) (cs:List Value) (x:DataW H×List MemPlace),kT P σ S w->wK S->wF S->P.globals.size<=S.nx->DataW.trod enc P w base spare held fuel t cs=some x->(∀n∈DataW.weights P t x.1,n<=140737488355328)->
  ∃σ' S' avs a,lP P σ S w σ' S'/\iH P σ' avs cs/\(∀u∈cs,u.oneCell'=true)/\E S' avs a/\S.nx<=S'.nx
def kG{α:Type}(E:St->bf->α->Prop):Prop:=∀ {S S':St} {avs:bf} {a:α},E S avs a->Same S S'->E S' avs a
def qR(k:IntKind)(_:St)(avs:bf)(z:Int):Prop:=avs= [.int k z]/\(Lit.int k z).wf=true
theorem iJ{k:IntKind}:kG (qR k):=fun h _=>h
theorem aDb{t:TypeId}{k:IntKind}(ht:P.underlying t=some (.int k)):Lays P t (qR k):=by
 intro H enc σ S w base spare held fuel cs x hR hn hf hG h hW;obtain⟨n,rfl,_,hw⟩:=DataW.trod_int ht h;exact⟨σ,S,[.int k n],n,lP.refl hR hn hf,dB.2 ⟨_,_,rfl,by simp only[Rv],cS.2 rfl⟩,fun u hu=>by simp at hu;subst hu;rfl,⟨rfl,hw⟩,Ag _⟩
def aH4(_:St)(avs:bf)(b:Bool):Prop:=avs= [.bool b]
theorem aFi:kG aH4:=fun h _=>h
theorem aKo{t:TypeId}(ht:P.underlying t=some .bool):Lays P t aH4:=by
 intro H enc σ S w base spare held fuel cs x hR hn hf hG h hW;obtain⟨n,rfl,_⟩:=DataW.trod_bool ht h;exact⟨σ,S,[.bool n],n,lP.refl hR hn hf,dB.2 ⟨_,_,rfl,by simp only[Rv],cS.2 rfl⟩,fun u hu=>by simp at hu;subst hu;rfl,rfl,Ag _⟩
theorem yD{H:Type}{e:TypeId}{d:DataW H}{n:Nat}:∀ {l:List (DataW H)},d∈l->n∈DataW.weights P e d->n∈DataW.weightsAll P e l
 | [],h,_=>by cases h
 | x::r,h,hn=>by
  show n∈DataW.weights P e x++DataW.weightsAll P e r;rcases Bs.1 h with rfl | h
  ·exact De _ hn
  ·exact Cv _ (yD h hn)
theorem vX{H:Type}{n:Nat}:∀ {ts:List TypeId} {l:List (DataW H)} {i:Nat} {t:TypeId} {d:DataW H},ts[i]? =some t->l[i]? =some d->n∈DataW.weights P t d->n∈DataW.weightsEach P ts l
 | [],_,_,_,_,h,_,_=>by simp at h
 | _::_,[],_,_,_,_,h,_=>by simp at h
 | u::ts,x::r,0,t,d,h1,h2,hn=>by
  simp at h1 h2;subst h1;subst h2;exact De _ hn
 | u::ts,x::r,i+1,t,d,h1,h2,hn=>by
  show n∈DataW.weights P u x++DataW.weightsEach P ts r;exact Cv _ (vX (by simpa using h1) (by simpa using h2) hn)
theorem yY{H:Type}{t e:TypeId}{xs ys:List (DataW H)}(ht:P.underlying t=some (.slice e)):DataW.weights P t (.slice xs ys)=(xs.length+ys.length) * P.bytesOf e::(DataW.weightsAll P e xs++DataW.weightsAll P e ys):=by
 unfold DataW.weights;rw[ht]
theorem aHW{H:Type}{t:TypeId}{fs:Array Field}{xs:List (DataW H)}(ht:P.underlying t=some (.struct fs)):DataW.weights P t (.agg xs)=DataW.weightsEach P (fs.toList.map (·.type)) xs:=by
 unfold DataW.weights;rw[ht]
def qM(k:Nat){α:Type}(E:St->bf->α->Prop)(S:St)(avs:bf)(l:List α):Prop:=
 ∃av,avs= [av]/\l.length * (8 * k)<=140737488355328/\((l= []/\(av= .bw\/av= .emp))\/∃ (b cap:Nat) (css:List (bf)),av= .sl b 0 l.length cap false/\l.length<=cap/\b<S.nx/\S.h.get b=some (.ro css.flatten)/\css.length=l.length/\∀ (i:Nat) (cs:bf) (a:α),css[i]? =some cs->l[i]? =some a->cs.length=k/\E S cs a)
theorem cm{k:Nat}{α:Type}{E:St->bf->α->Prop}(hE:kG E):kG (qM k E):=by
 rintro S S' avs l ⟨av,rfl,hL,h | ⟨b,cap,css,h1,h2,h3,h4,h5,h6⟩⟩ hs
 ·exact⟨av,rfl,hL,.inl h⟩
 ·exact⟨av,rfl,hL,.inr ⟨b,cap,css,h1,h2,Ae h3 hs.1,(hs.2 b h3).trans h4,h5,fun i cs a hi ha=>⟨(h6 i cs a hi ha).1,hE (h6 i cs a hi ha).2 hs⟩⟩⟩
theorem aIL{a:Addr}{n base:Nat}{cs:List Value}(h:w.cells? base a n=some cs):cs.length=n/\∀i,i<n->w.cell? (a.add i)=cs[i]? :=by
 unfold World.cells? at h;split at h
 ·refine⟨by simpa using mapM_some_length h,fun i hi=>?_⟩;exact mapM_some_get h i i (by simp [hi])
 ·cases h
theorem aAv{e:TypeId}{k:Nat}{α:Type}{E:St->bf->α->Prop}(hE:Lays P e E)(hF:kG E)(hk:0<k){H:Type}{enc:TypeId×Value->H}{base:Nat}{spare:Nat->Bool}{held:Bool}{fuel:Nat}{a:Addr}(hspot:a.spot=none)
  (hR:kT P σ S w) (hn:wK S) (hf:wF S) (hG:P.globals.size<=S.nx):∀ {m:Nat},(∀i,i<m->∃x,(w.cells? base (a.add (i * k)) k).bind (DataW.trod enc P w base spare held fuel e)=some x/\∀n∈DataW.weights P e x.1,n<=140737488355328)->
  ∃ (σ':Env) (S':St) (css:List (bf)),∃l:List α,∃Cs:List Value,lP P σ S w σ' S'/\S.nx<=S'.nx/\css.length=m/\l.length=m/\(∀ (i:Nat) (cs:bf) (a:α),css[i]? =some cs->l[i]? =some a->cs.length=k/\E S' cs a)/\iH P σ' css.flatten Cs/\(∀u∈Cs,u.oneCell'=true)/\Cs.length=m * k/\w.rangeAt a.block a.off Cs
 | 0,_=>⟨σ,S,[],[],[],lP.refl hR hn hf,Ag _,rfl,rfl,fun i cs a hi=>(by simp at hi),cS.2 rfl,fun u hu=>(by cases hu),by simp,fun j v hv=>(by simp at hv)⟩
 | m+1,h=>by
  have⟨σ1,S1,css,l,Cs,hA,hn1,hcl,hll,hel,hrv,hone,hlen,hrange⟩:=aAv hE hF hk hspot hR hn hf hG (m:=m) fun i hi=>h i ar;have⟨x,hx,hxW⟩:=h m ar;have⟨cs,hcs,hx⟩:=Cz.1 hx;have⟨σ2,S2,avs,y,hA2,hrv2,hone2,hE2,hn2⟩:=hE H enc σ1 S1 w base spare held fuel cs x hA.rep hA.no hA.fresh (Al hG hn1) hx hxW;have⟨hcl2,hcell⟩:=aIL hcs;have hal:avs.length=k:=by rw[<-hrv2.length];exact hcl2
  refine⟨σ2,S2,css++ [avs],l++ [y],Cs++cs,hA.trans hA2,Al hn1 hn2,by simp [hcl],by simp [hll],?_,?_,?_,?_,?_⟩
  ·intro i cs' a' hi ha;rw[En] at hi ha;rw[hcl] at hi;rw[hll] at ha;split at hi
   ·rename_i hlt;rw[if_pos hlt] at ha;exact⟨(hel i cs' a' hi ha).1,hF (hel i cs' a' hi ha).2 hA2.same⟩
   ·rename_i hlt;rw[if_neg hlt] at ha;have him:i - m=0:=by
     rcases Dh (i - m) with h | h
     ·exact h
     ·have⟨q,hq⟩:=Nat.exists_eq_succ_of_ne_zero (Nat.pos_iff_ne_zero.1 h);rw[hq] at hi;simp at hi
    rw[him] at hi ha;simp at hi ha;subst hi;subst ha;exact⟨hal,hE2⟩
  ·rw[List.flatten_append];simp only[List.flatten_cons,List.flatten_nil,Dn];exact(hrv.mono hA2.le).append hrv2
  ·intro u hu;rcases Cb.1 hu with hu | hu
   ·exact hone u hu
   ·exact hone2 u hu
  ·rw[Ao,hlen,hcl2,Fe]
  ·intro j v hv;rw[En] at hv;split at hv
   ·exact hrange j v hv
   ·rename_i hlt;have hj:j - Cs.length<k:=by
     have:=(Ai.1 hv).1;omega
    have:=hcell (j - Cs.length) hj;rw[hv] at this;rw[<-this];congr 1;have hadd:∀i,a.add i=⟨a.block,a.off+i,none⟩:=fun i=>by
     unfold Addr.add;split
     ·rename_i h;subst h;cases a;simp_all
     ·rfl
    have hadd2:∀ (x y:Nat),Addr.add ⟨a.block,x,none⟩ y=⟨a.block,x+y,none⟩:=fun x y=>by
     unfold Addr.add;split
     ·rename_i h;rw[h,Br]
     ·rfl
    rw[hadd,hadd2,hlen];congr 1;rw[hlen] at hlt;omega
theorem oU{t e:TypeId}{k:Nat}{α:Type}{E:St->bf->α->Prop}(ht:P.underlying t=some (.slice e))(hc:P.cellsOf e=k)(hk:0<k)(hby:8 * k<=P.bytesOf e)(hE:Lays P e E)(hF:kG E):Lays P t (qM k E):=by
 intro H enc σ S w base spare held fuel cs x hR hn hf hG h hW;rcases DataW.trod_slice ht h with⟨rfl,_⟩ | ⟨a,len,cap,elems,rest,n,rfl,rfl,hxe,_,hlc,_,hlen,hel,_⟩
 ·exact⟨σ,S,[.bw],[],lP.refl hR hn hf,dB.2 ⟨_,_,rfl,by simp only[Rv],cS.2 rfl⟩,fun u hu=>by simp at hu;subst hu;rfl,⟨_,rfl,by simp,.inl ⟨rfl,.inl rfl⟩⟩,Ag _⟩
 ·rw[hc] at hel;subst hxe;have hW:∀n∈DataW.weights P t (.slice (elems.map (·.1)) (rest.map (·.1))),n<=140737488355328:=hW;rw[yY ht] at hW;have hlw:len * (8 * k)<=140737488355328:=by
   have h1:=hW _ (Bv ..);rw[Aj,hlen,Ec] at h1;exact Al (Nat.mul_le_mul_left len hby) ar
  rcases Dh len with h0 | hp
  ·subst h0;exact⟨σ,S,[.emp],[],lP.refl hR hn hf,dB.2 ⟨_,_,rfl,by simp only[Rv];exact⟨a,cap,rfl⟩,cS.2 rfl⟩,fun u hu=>by simp at hu;subst hu;rfl,⟨_,rfl,by simp,.inl ⟨rfl,.inr rfl⟩⟩,Ag _⟩
  ·have hget:∀i,i<len->∃x,(w.cells? base (a.add (i * k)) k).bind (DataW.trod enc P w base spare held n e)=some x/\∀n∈DataW.weights P e x.1,n<=140737488355328:=fun i hi=>by
    rw[hel i hi];exact⟨elems[i]' ar,Ab ar,fun n hn=>hW n (Bk _ (De _ (yD (Ez (Bo _)) hn)))⟩
   have⟨x0,hx0,_⟩:=hget 0 hp;have⟨cs0,hcs0,_⟩:=Cz.1 hx0;have⟨hl0,hc0⟩:=aIL hcs0;have c0:=hc0 0 hk;rw[Ab ar,Ep] at c0;have e0:(a.add 0).add 0=a:=rfl;rw[e0] at c0;have hblk:a.block<w.heap.size/\a.spot=none:=by
    unfold World.cell? at c0;cases hh:w.heap[a.block]? with
    | none=>rw[hh] at c0;cases c0
    | some o=>
     refine⟨(Ce.1 hh).1,?_⟩;rw[hh] at c0;cases o with
     | cells c t fr=>
      simp only at c0;by_cases hs:a.spot.isSome
      ·rw[if_pos hs] at c0;cases c0
      ·simpa using hs
     | _=>cases c0
   have⟨σ1,S1,css,l,Cs,hA,hn1,hcl,hll,hE1,hrv,hone,hCl,hrange⟩:=aAv hE hF hk hblk.2 hR hn hf hG hget;have hA2:=aFo hA.rep hA.no hA.fresh (Al hG hn1) hblk.1 hrv hone hrange;refine⟨_,_,[.sl S1.nx 0 len cap false],l,hA.trans hA2,dB.2 ⟨_,_,rfl,?_,cS.2 rfl⟩,fun u hu=>by simp at hu;subst hu;rfl,⟨_,rfl,by rw[hll];exact hlw,.inr ⟨S1.nx,cap,css,by rw[hll],ar,by simp,?_,by rw[hcl,hll],fun i cs a' hi ha=>⟨(hE1 i cs a' hi ha).1,hF (hE1 i cs a' hi ha).2 hA2.same⟩⟩⟩,by simp only;omega⟩
   ·simp only[Rv];refine⟨⟨a.block,a.off,0⟩,by unfold wU;rw[if_pos rfl],?_⟩;have:=hblk.2;cases a
    simp_all
   ·simp only;rw[di,if_pos rfl]
def NoE(_:St)(avs:bf)(_:Unit):Prop:=avs= []
def qG{α β:Type}(E:St->bf->α->Prop)(R:St->bf->β->Prop)(S:St)(avs:bf)(x:α×β):Prop:=∃u v,avs=u++v/\E S u x.1/\R S v x.2
theorem aF8:kG NoE:=fun h _=>h
theorem jI{α β:Type}{E:St->bf->α->Prop}{R:St->bf->β->Prop}(h1:kG E)(h2:kG R):kG (qG E R):=fun⟨u,v,e,a,b⟩ hs=>⟨u,v,e,h1 a hs,h2 b hs⟩
def aJF(P:Program)(ts:List TypeId){α:Type}(E:St->bf->α->Prop):Prop:=
 ∀ (H:Type) (enc:TypeId×Value->H) (σ:Env) (S:St) (w:World) (base:Nat) (spare:Nat->Bool) (held:Bool) (fuel off:Nat) (cs:List Value),kT P σ S w->wK S->wF S->P.globals.size<=S.nx->cs.length=off+(ts.map P.cellsOf).sum->
  (∀ (i:Nat) t,ts[i]? =some t->∃x,DataW.trod enc P w base spare held fuel t ((cs.drop (off+((ts.take i).map P.cellsOf).sum)).take (P.cellsOf t))=some x/\∀n∈DataW.weights P t x.1,n<=140737488355328)->
  ∃σ' S' avs a,lP P σ S w σ' S'/\iH P σ' avs (cs.drop off)/\(∀u∈cs.drop off,u.oneCell'=true)/\E S' avs a/\S.nx<=S'.nx
theorem yR:aJF P [] NoE:=by
 intro H enc σ S w base spare held fuel off cs hR hn hf hG hl h;have:cs.drop off= []:=Cn (by simp at hl;omega);rw[this];exact⟨σ,S,[],(),lP.refl hR hn hf,cS.2 rfl,fun u hu=>(by cases hu),rfl,Ag _⟩
theorem fO{t:TypeId}{ts:List TypeId}{α β:Type}{E:St->bf->α->Prop}{R:St->bf->β->Prop}(h1:Lays P t E)(f1:kG E)(h2:aJF P ts R):aJF P (t::ts) (qG E R):=by
 intro H enc σ S w base spare held fuel off cs hR hn hf hG hl h;rw[Dc,Ef] at hl;have⟨x,hx,hxW⟩:=h 0 t rfl;simp only[Fb,List.map_nil,List.sum_nil,Br] at hx;have⟨σ1,S1,avs,a,hA,hrv,hone,hE,hn1⟩:=h1 H enc σ S w base spare held fuel _ x hR hn hf hG hx hxW;have⟨σ2,S2,avs2,b,hA2,hrv2,hone2,hE2,hn2⟩:=h2 H enc σ1 S1 w base spare held fuel (off+P.cellsOf t) cs hA.rep hA.no hA.fresh (Al hG hn1) ar (fun i u hi=>by
  have⟨y,hy,hyW⟩:=h (i+1) u (by simpa using hi);rw[List.take_succ_cons,Dc,Ef,<-Cq] at hy;exact⟨y,hy,hyW⟩)
 have hsplit:cs.drop off=(cs.drop off).take (P.cellsOf t)++cs.drop (off+P.cellsOf t):=by
  rw[<-List.drop_drop,List.take_append_drop]
 refine⟨σ2,S2,avs++avs2,(a,b),hA.trans hA2,?_,?_,⟨avs,avs2,rfl,f1 hE hA2.same,hE2⟩,Al hn1 hn2⟩
 ·rw[hsplit];exact(hrv.mono hA2.le).append hrv2
 ·rw[hsplit];intro u hu;rcases Cb.1 hu with hu | hu
  ·exact hone u hu
  ·exact hone2 u hu
theorem tC{t:TypeId}{fs:Array Field}{ts:List TypeId}{α:Type}{E:St->bf->α->Prop}(ht:P.underlying t=some (.struct fs))(hts:fs.toList.map (·.type)=ts)(hoff:∀i f,fs[i]? =some f->f.offset=((ts.take i).map P.cellsOf).sum)(hc:P.cellsOf t=(ts.map P.cellsOf).sum)(hE:aJF P ts E):Lays P t E:=by
 intro H enc σ S w base spare held fuel cs x hR hn hf hG h hW;obtain⟨xs,n,rfl,hxe,hl,hxs,hfs⟩:=DataW.trod_struct ht h;subst hxe;have hW:∀n∈DataW.weights P t (.agg (xs.map (·.1))),n<=140737488355328:=hW;rw[aHW ht] at hW;have⟨σ1,S1,avs,a,hA,hrv,hone,hE1,hn1⟩:=hE H enc σ S w base spare held n 0 cs hR hn hf hG ar (fun i u hi=>by
  have hi0:=hi;rw[<-hts,Am,Aw] at hi;obtain⟨f,hf1,rfl⟩:=hi;have hf2:fs[i]? =some f:=by simpa using hf1
  have h3:=hfs i f hf2;rw[hoff i f hf2] at h3;have hlt:i<xs.length:=by
   rw[hxs];exact(Ce.1 hf2).1
  exact⟨xs[i],by rw[An,h3,Ab hlt],fun n hn=>hW n (vX (i:=i) (by rw[hts];exact hi0) (by rw[Am,Ab hlt];rfl) hn)⟩)
 exact⟨σ1,S1,avs,a,hA,by simpa using hrv,by simpa using hone,hE1,hn1⟩
end Go.Ev
namespace Go.Ev
def aE(k:Nat){α:Type}(E:St->bf->α->Prop)(S:St)(v:AV)(l:List α):Prop:=
 (l= []/\(v= .bw\/v= .emp))\/∃b off cap o cs,v= .sl b off l.length cap o/\l.length<=cap/\b<S.nx/\cK S.h b=some cs/\∀ (i:Nat) (a:α),l[i]? =some a->∃e:bf,e.length=k/\(∀ (j:Nat) (x:AV),e[j]? =some x->cs[off+i * k+j]? =some x)/\E S e a
theorem aE.same{k:Nat}{α:Type}{E:St->bf->α->Prop}(hE:kG E){S S':St}{v:AV}{l:List α}(h:aE k E S v l)(hs:Same S S'):aE k E S' v l:=by
 rcases h with h | ⟨b,off,cap,o,cs,h1,hc,h2,h3,h4⟩
 ·exact .inl h
 ·refine .inr ⟨b,off,cap,o,cs,h1,hc,Ae h2 hs.1,by rw[wC hs h2];exact h3,fun i a hi=>?_⟩;have⟨e,e1,e2,e3⟩:=h4 i a hi;exact⟨e,e1,e2,hE e3 hs⟩
theorem flat_get{k:Nat}:∀ {css:List (bf)} {i j:Nat} {cs:bf} {x:AV},(∀ (i:Nat) (cs:bf),css[i]? =some cs->cs.length=k)->css[i]? =some cs->cs[j]? =some x->css.flatten[i * k+j]? =some x
 | [],i,j,cs,x,_,hi,_=>by simp at hi
 | c::css,0,j,cs,x,_,hi,hj=>by
  simp at hi;subst hi;rw[Ep,An,List.flatten_cons,Bg (Ai.1 hj).1];exact hj
 | c::css,i+1,j,cs,x,hk,hi,hj=>by
  have hc:=hk 0 c rfl;rw[List.flatten_cons,Fe,Be ar,hc,show i * k+k+j - k=i * k+j by omega];exact flat_get (fun i cs h=>hk (i+1) cs (by simpa using h)) (by simpa using hi) hj
theorem qM.is{k:Nat}{α:Type}{E:St->bf->α->Prop}{S:St}{avs:bf}{l:List α}(h:qM k E S avs l):∃v,avs= [v]/\aE k E S v l:=by
 obtain⟨v,rfl,_,h | ⟨b,cap,css,h1,h2,h3,h4,h5,h6⟩⟩:=h
 ·exact⟨v,rfl,.inl h⟩
 ·refine⟨v,rfl,.inr ⟨b,0,cap,false,css.flatten,h1,h2,h3,?_,fun i a hi=>?_⟩⟩
  ·unfold cK;rw[h4];rfl
  ·have hil:i<css.length:=by have:=(Ai.1 hi).1;omega
   have⟨e1,e2⟩:=h6 i css[i] a (Ab hil) hi;refine⟨css[i],e1,fun j x hj=>?_,e2⟩;rw[An];exact flat_get (fun i' cs' hi'=>(h6 i' cs' (l[i']'(by have:=(Ai.1 hi').1;omega)) hi' (Ab _)).1) (Ab hil) hj
section
variable {k:Nat}{α:Type}{E:St->bf->α->Prop}{S:St}{v:AV}{l:List α}
theorem aE.len(h:aE k E S v l):jJ v=some (.int .i64 (l.length:Int)):=by
 rcases h with⟨rfl,rfl | rfl⟩ | ⟨b,off,cap,o,cs,rfl,_⟩<;>rfl
def aMj(k:Nat)(v:AV)(i:Nat):AV:=
 match v with
 | .sl b off _ _ _=>.ptr b (off+i * k)
 | _=>.undef
theorem aE.cp(h:aE k E S v l){i:Nat}(hi:i<l.length):dO (.slice k) v i=some (aMj k v i):=by
 rcases h with⟨rfl,_⟩ | ⟨b,off,cap,o,cs,rfl,_⟩
 ·simp at hi
 ·simp only[dO,aMj];have:Nat.blt i l.length=true:=Av hi;rw[this,aR]
theorem aE.get(h:aE k E S v l){i:Nat}{a:α}(hi:l[i]? =some a):∃ (e:bf) (b p:Nat),aMj k v i= .ptr b p/\b<S.nx/\e.length=k/\E S e a/\∃cs,cK S.h b=some cs/\∀ (j:Nat) (x:AV),e[j]? =some x->cs[p+j]? =some x:=by
 rcases h with⟨rfl,_⟩ | ⟨b,off,cap,o,cs,rfl,hc,hb,hcs,hel⟩
 ·simp at hi
 ·have⟨e,e1,e2,e3⟩:=hel i a hi;exact⟨e,b,off+i * k,rfl,hb,e1,e3,cs,hcs,e2⟩
end
end Go.Ev
