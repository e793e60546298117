import Derived.Test.YtiiplmagnlcpbaaGreatDoorEv7
import Derived.ChangeSlices
import Derived.ChangeArms
import Derived.DataReads
set_option linter.unusedSimpArgs false
set_option linter.unusedVariables false
namespace Go.Ev
def vK(c d:dR):Prop:=∀f args S r,c f args S=some r->d f args S=some r
structure Le(a b:Evs):Prop where
 code:∀c A S r,a.code c A S=some r->b.code c A S=some r
 call:vK a.call b.call
theorem eI{α β:Type}{x y:Option α}{f g:α->Option β}{b:β}(h:aU x f=some b)(hx:∀a,x=some a->y=some a)(hf:∀a,f a=some b->g a=some b):aU y g=some b:=by
 have⟨a,h1,h2⟩:=aA h;rw[hx a h1];exact hf a h2
theorem aMf{c d:dR}(h:vK c d){v:AV}{tbl:List (Nat×Nat×Option (Bool×Nat))}{args:bo}{S:St}{r:AV×St}(hv:aDX v tbl args c S=some r):aDX v tbl args d S=some r:=by
 unfold aDX at hv ⊢;split at hv
 ·refine eI hv (fun _ h=>h) fun a ha=>?_;unfold aGI at ha ⊢;split at ha
  ·exact h _ _ _ _ ha
  ·unfold aCX at ha ⊢;split at ha
   ·exact eI ha (fun _ h=>h) fun _ hb=>h _ _ _ _ hb
   ·cases ha
 ·cases hv
theorem aIj{c d:dR}(h:vK c d){x:XOp}{F:Fr}{S:St}{r:AV×St}(hv:xN x c F S=some r):xN x d F S=some r:=by
 cases x with
 | call f args=>exact h _ _ _ _ hv
 | inv tbl recv args=>exact aMf h hv
 | _=>exact hv
theorem aMj{c d:dR}(h:vK c d){o:AO}{F:Fr}{S:St}{r:Fr×St}(hv:yK o c F S=some r):yK o d F S=some r:=by
 unfold yK at hv ⊢;rw[bQ] at hv ⊢;split at hv
 ·rename_i hw;rw[if_pos hw];cases ho:o.op with
  | q q=>rw[ho] at hv;exact hv
  | a a=>rw[ho] at hv;exact hv
  | x x=>
   rw[ho] at hv;exact eI (show aU (xN x c F S) _=some r from hv) (fun _ hx=>aIj h hx) fun _ hb=>hb
 ·rename_i hw;rw[if_neg hw];exact hv
theorem aAy{c d:dR}(h:vK c d):∀ {l:List AO} {F:Fr} {S:St} {r:Fr×St},lF l c F S=some r->lF l d F S=some r
 | [],F,S,r,hv=>hv
 | o::l,F,S,r,hv=>eI (show aU (yK o c F S) (fun r=>lF l c r.1 r.2)=some r from hv) (fun _ hx=>aMj h hx) fun _ hb=>aAy h hb
theorem aNA{c d:dR}(h:vK c d){o:AO}{i base:Nat}{D:DS}{r:DS}(hv:tB o i base c D=some r):tB o i base d D=some r:=by
 unfold tB at hv ⊢;rw[bQ] at hv ⊢;split at hv
 ·rename_i hw;rw[if_pos hw];cases ho:o.op with
  | q q=>rw[ho] at hv;exact hv
  | a a=>rw[ho] at hv;exact hv
  | x x=>
   rw[ho] at hv;have⟨h1,h2⟩:=bJ (show bO (jE D.hs o.mask) _ none=some r from hv);show bO (jE D.hs o.mask) _ none=some r;rw[h1,aN];exact eI h2 (fun _ hx=>aIj h hx) fun _ hb=>hb
 ·rename_i hw;rw[if_neg hw];exact hv
theorem tQ{c d:dR}(h:vK c d):∀ {l:List AO} {i base:Nat} {D r:DS},rG l i base c D=some r->rG l i base d D=some r
 | [],_,_,_,_,hv=>hv
 | o::l,i,base,D,r,hv=>eI (show aU (tB o i base c D) (fun D'=>rG l (i+1) base c D')=some r from hv) (fun _ hx=>aNA h hx) fun _ hb=>tQ h hb
theorem aGB{c d:dR}(h:vK c d){l:List AO}{F:Fr}{S:St}{r:Fr×St}(hv:nT l c F S=some r):nT l d F S=some r:=
 eI (show aU _ _=some r from hv) (fun _ hx=>tQ h hx) fun _ hb=>hb
theorem aIe{a b:Evs}(h:Le a b){c:AC}{A:bN}{S:St}{r:Out×bN×St}(hv:aGJ c a A S=some r):aGJ c b A S=some r:=by
 cases c with
 | skip=>exact hv
 | seq x y=>
  refine eI (show aU (a.code x A S) (kI y a)=some r from hv) (fun _ hx=>h.code _ _ _ _ hx) fun q hq=>?_;unfold kI at hq ⊢;split at hq
  ·exact h.code _ _ _ _ hq
  ·exact hq
 | cond x y z=>
  have hv:qT (x.val A.F) y z a A S=some r:=hv;show qT (x.val A.F) y z b A S=some r;unfold qT at hv ⊢;split at hv
  ·exact h.code _ _ _ _ hv
  ·cases hv
 | block id x=>exact eI (show aU (a.code x A S) (jH id)=some r from hv) (fun _ hx=>h.code _ _ _ _ hx) fun _ hq=>hq
 | loop x=>
  refine eI (show aU (a.code x A S) (kI (.loop x) a)=some r from hv) (fun _ hx=>h.code _ _ _ _ hx) fun q hq=>?_;unfold kI at hq ⊢;split at hq
  ·exact h.code _ _ _ _ hq
  ·exact hq
 | exit id=>exact hv
 | ret=>exact hv
 | reg ops=>exact eI (show aU (lF ops a.call A.F S) _=some r from hv) (fun _ hx=>aAy h.call hx) fun _ hq=>hq
 | drw ops=>exact eI (show aU (nT ops a.call A.F S) _=some r from hv) (fun _ hx=>aGB h.call hx) fun _ hq=>hq
 | rng f ps as bd=>
  have hv:aLH f ps as bd a A S=some r:=hv;show aLH f ps as bd b A S=some r;unfold aLH at hv ⊢;cases hi:A.inr with
  | true=>rw[hi,aN] at hv;cases hv
  | false=>
   rw[hi,aR] at hv;rw[aR];have⟨h1,h2⟩:=bJ hv;rw[h1,aN];refine eI h2 (fun _ hx=>h.call _ _ _ _ hx) fun q hq=>eI hq (fun _ hx=>hx) fun bl hbl=>?_;unfold aAn at hbl ⊢;split at hbl
   ·split at hbl
    ·cases hbl
    ·exact eI hbl (fun _ hx=>hx) fun _ hc=>h.code _ _ _ _ hc
   ·cases hbl
 | dfr ops f args=>exact hv
theorem aHs{a b:Evs}(h:Le a b){bl:AB}{l:Nat}{args:bo}{S:St}{r:AV×St}(hv:xV bl l args a S=some r):xV bl l args b S=some r:=by
 unfold xV at hv ⊢;split at hv
 ·refine eI hv (fun _ hx=>hx) fun F hF=>eI hF (fun _ hx=>h.code _ _ _ _ hx) fun q hq=>?_;unfold aAM at hq ⊢;split at hq
  ·refine eI hq (fun _ hx=>hx) fun bl hbl=>?_;unfold pK at hbl ⊢;split at hbl
   ·exact eI (show aU (a.code _ _ _) _=some r from hbl) (fun _ hx=>h.code _ _ _ _ hx) fun _ hq=>hq
   ·cases hbl
  ·cases hq
 ·cases hv
theorem aIi{fns:T dD}{a b:Evs}(h:Le a b):vK (pX fns a) (pX fns b):=by
 intro f args S r hv;unfold pX at hv ⊢;split at hv
 ·refine eI hv (fun _ hx=>hx) fun fn hfn=>?_;unfold qC at hfn ⊢;have⟨h1,h2⟩:=bJ hfn;rw[h1,aN];exact eI h2 (fun _ hx=>h.code _ _ _ _ hx) fun _ hq=>hq
 ·exact eI hv (fun _ hx=>hx) fun bl hbl=>aHs h hbl
 ·cases hv
theorem uR(fns:T dD):∀n,Le (ev fns n) (ev fns (n+1))
 | 0=>⟨fun c A S r (h:none=some r)=>(by cases h),fun f args S r (h:none=some r)=>(by cases h)⟩
 | n+1=>⟨fun _ _ _ _ h=>aIe (uR fns n) h,aIi (uR fns n)⟩
theorem lG(fns:T dD){n m:Nat}(h:n<=m):Le (ev fns n) (ev fns m):=by
 induction h with
 | refl=>exact⟨fun _ _ _ _ h=>h,fun _ _ _ _ h=>h⟩
 | step _ ih=>exact⟨fun c A S r h=>(uR fns _).code _ _ _ _ (ih.code _ _ _ _ h),fun f args S r h=>(uR fns _).call _ _ _ _ (ih.call _ _ _ _ h)⟩
end Go.Ev
namespace Go.Ev
abbrev oq(d:Nat)(q:QOp):AO:=⟨some d,.q q,none,0⟩
abbrev om(d m:Nat)(q:QOp):AO:=⟨some d,.q q,none,m⟩
abbrev og(d s:Nat)(b:Bool)(m:Nat)(q:QOp):AO:=⟨some d,.q q,some (s,b),m⟩
abbrev oc(d f:Nat)(l:List cP)(m:Nat):AO:=⟨some d,.x (.call (.c (.fn f [] [])) l),none,m⟩
abbrev mt(d i:Nat):AO:=⟨some d,.q (.mv (.t i)),none,0⟩
abbrev ci(n:Int):cP:=.c (.int .i64 n)
abbrev bi(o:BinOp)(x y:cP):QOp:=.bin o (.p .int) x y
abbrev ld(i:Nat):QOp:=.ld false 1 (.t i)
abbrev Zs(n x v m:Nat):AO:=⟨none,.x (.st n (.t x) (.t v)),none,m⟩
abbrev Zf(d o x:Nat):AO:=oq d (.cw o (.t x))
abbrev Zg(d m o x:Nat):AO:=om d m (.cw o (.t x))
abbrev Zi(d k x y:Nat):AO:=oq d (.cq (.slice k) (.t x) (.t y))
abbrev Zj(d m k x y:Nat):AO:=om d m (.cq (.slice k) (.t x) (.t y))
abbrev Zl(d x:Nat):AO:=oq d (ld x)
abbrev Zm(d m x:Nat):AO:=om d m (ld x)
abbrev Zc(d:Nat)(n:Int):AO:=oq d (.mv (ci n))
abbrev Zn(d x:Nat):AO:=oq d (.ct (.t x))
abbrev Za(d x:Nat)(n:Int):AO:=oq d (bi .add (.t x) (ci n))
abbrev Zt(d x y:Nat):AO:=oq d (bi .lss (.t x) (.t y))
abbrev Ze(d x i:Nat):AO:=oq d (.extract (.t x) i)
abbrev Zd(d n x:Nat):AO:=oq d (.ld true n (.t x))
abbrev Zp(d c y:Nat):AO:=oq d (.pick (.t c) (.c (.bool true)) (.t y))
abbrev Zx(d s:Nat)(b:Bool)(m o x:Nat):AO:=og d s b m (.cw o (.t x))
abbrev Zy(d s:Nat)(b:Bool)(m x:Nat):AO:=og d s b m (ld x)
abbrev Zu(d s:Nat)(b:Bool)(m x:Nat):AO:=og d s b m (.ct (.t x))
abbrev Zb(d k x:Nat):AO:=⟨some d,.a (.box k (.t x)),none,0⟩
variable {fns:T dD}
def nD(fns:T dD)(c:AC)(A:bN)(S:St)(Q:Out->bN->St->Prop):Prop:=∃n o A' S',(ev fns n).code c A S=some (o,A',S')/\Q o A' S'
def eT(fns:T dD)(f:AV)(args:bo)(S:St)(Q:AV->St->Prop):Prop:=∃n v S',(ev fns n).call f args S=some (v,S')/\Q v S'
def pU(fns:T dD)(ops:List AO)(F:Fr)(S:St)(Q:Fr->St->Prop):Prop:=∃n F' S',lF ops (ev fns n).call F S=some (F',S')/\Q F' S'
theorem bG{c:AC}{A:bN}{S:St}{Q R:Out->bN->St->Prop}(h:nD fns c A S Q)(hq:∀o A S,Q o A S->R o A S):nD fns c A S R:=by
 have⟨n,o,A',S',h1,h2⟩:=h;exact⟨n,o,A',S',h1,hq _ _ _ h2⟩
theorem aF{f:AV}{args:bo}{S:St}{Q R:AV->St->Prop}(h:eT fns f args S Q)(hq:∀v S,Q v S->R v S):eT fns f args S R:=by
 have⟨n,v,S',h1,h2⟩:=h;exact⟨n,v,S',h1,hq _ _ h2⟩
theorem aEf{ops:List AO}{F:Fr}{S:St}{Q R:Fr->St->Prop}(h:pU fns ops F S Q)(hq:∀F S,Q F S->R F S):pU fns ops F S R:=by
 have⟨n,F',S',h1,h2⟩:=h;exact⟨n,F',S',h1,hq _ _ h2⟩
theorem aJ{A:bN}{S:St}{Q:Out->bN->St->Prop}(h:Q .normal A S):nD fns .skip A S Q:=⟨1,_,_,_,rfl,h⟩
theorem bS{id:Nat}{A:bN}{S:St}{Q:Out->bN->St->Prop}(h:Q (.exit id) A S):nD fns (.exit id) A S Q:=⟨1,_,_,_,rfl,h⟩
theorem aK{A:bN}{S:St}{Q:Out->bN->St->Prop}(h:Q .ret A S):nD fns .ret A S Q:=⟨1,_,_,_,rfl,h⟩
def aBw(fns:T dD)(y:AC)(Q:Out->bN->St->Prop):Out->bN->St->Prop
 | .normal,A,S=>nD fns y A S Q
 | o,A,S=>Q o A S
theorem aE{x y:AC}{A:bN}{S:St}{Q:Out->bN->St->Prop}(h:nD fns x A S (aBw fns y Q)):nD fns (.seq x y) A S Q:=by
 have⟨n,o,A1,S1,h1,h2⟩:=h;cases o with
 | normal=>
  have⟨m,o,A2,S2,h3,h4⟩:=h2;refine⟨max n m+1,o,A2,S2,?_,h4⟩;show aU ((ev fns (max n m)).code x A S) (kI y (ev fns (max n m)))=_;rw[(lG fns (Gs n m)).code _ _ _ _ h1,aH];exact(lG fns (Gi n m)).code _ _ _ _ h3
 | ret=>
  refine⟨n+1,.ret,A1,S1,?_,h2⟩;show aU ((ev fns n).code x A S) (kI y (ev fns n))=_;rw[h1];rfl
 | exit i=>
  refine⟨n+1,.exit i,A1,S1,?_,h2⟩;show aU ((ev fns n).code x A S) (kI y (ev fns n))=_;rw[h1];rfl
theorem aNt{c:cP}{x y:AC}{A:bN}{S:St}{Q:Out->bN->St->Prop}{t:Bool}(hc:c.val A.F= .bool t)(h:nD fns (bO t x y) A S Q):nD fns (.cond c x y) A S Q:=by
 have⟨n,o,A1,S1,h1,h2⟩:=h;refine⟨n+1,o,A1,S1,?_,h2⟩;show qT (c.val A.F) x y (ev fns n) A S=_;rw[hc];exact h1
theorem jG{c:cP}{x y:AC}{A:bN}{S:St}{Q:Out->bN->St->Prop}{t:Bool}(hc:c.val A.F= .bool t)(h1:t=true->nD fns x A S Q)(h2:t=false->nD fns y A S Q):nD fns (.cond c x y) A S Q:=by
 refine aNt hc ?_;cases t
 ·exact h2 rfl
 ·exact h1 rfl
def xB(id:Nat)(Q:Out->bN->St->Prop):Out->bN->St->Prop
 | .exit i,A,S=>if i=id then Q .normal A S else Q (.exit i) A S
 | o,A,S=>Q o A S
theorem aQ{id:Nat}{c:AC}{A:bN}{S:St}{Q:Out->bN->St->Prop}(h:nD fns c A S (xB id Q)):nD fns (.block id c) A S Q:=by
 have⟨n,o,A1,S1,h1,h2⟩:=h;cases o with
 | normal=>exact⟨n+1,.normal,A1,S1,by show aU ((ev fns n).code c A S) (jH id)=_;rw[h1];rfl,h2⟩
 | ret=>exact⟨n+1,.ret,A1,S1,by show aU ((ev fns n).code c A S) (jH id)=_;rw[h1];rfl,h2⟩
 | exit i=>
  by_cases hi:i=id
  ·subst hi;have h2:Q .normal A1 S1:=by simpa [xB] using h2
   exact⟨n+1,.normal,A1,S1,by show aU ((ev fns n).code c A S) (jH i)=_;rw[h1];simp [aH,jH,bQ,Az],h2⟩
  ·have h2:Q (.exit i) A1 S1:=by simpa [xB,hi] using h2
   exact⟨n+1,.exit i,A1,S1,by show aU ((ev fns n).code c A S) (jH id)=_;rw[h1];simp [aH,jH,bQ,Az,hi],h2⟩
def aBW(I:Nat->bN->St->Prop)(k:Nat)(Q:Out->bN->St->Prop):Out->bN->St->Prop
 | .normal,A,S=>∃k',k'<k/\I k' A S
 | o,A,S=>Q o A S
theorem bX{c:AC}{Q:Out->bN->St->Prop}(I:Nat->bN->St->Prop)(h:∀k A S,I k A S->nD fns c A S (aBW I k Q)):∀k A S,I k A S->nD fns (.loop c) A S Q:=by
 intro k
 induction k using Nat.strongRecOn with
 | _ k ih=>
  intro A S hI;have⟨n,o,A1,S1,h1,h2⟩:=h k A S hI;cases o with
  | normal=>
   have⟨k',hk,hI'⟩:=h2;have⟨m,o,A2,S2,h3,h4⟩:=ih k' hk A1 S1 hI';refine⟨max n m+1,o,A2,S2,?_,h4⟩;show aU ((ev fns (max n m)).code c A S) (kI (.loop c) (ev fns (max n m)))=_;rw[(lG fns (Gs n m)).code _ _ _ _ h1,aH];exact(lG fns (Gi n m)).code _ _ _ _ h3
  | ret=>
   refine⟨n+1,.ret,A1,S1,?_,h2⟩;show aU ((ev fns n).code c A S) (kI (.loop c) (ev fns n))=_;rw[h1];rfl
  | exit i=>
   refine⟨n+1,.exit i,A1,S1,?_,h2⟩;show aU ((ev fns n).code c A S) (kI (.loop c) (ev fns n))=_;rw[h1];rfl
theorem aM{ops:List AO}{A:bN}{S:St}{Q:Out->bN->St->Prop}(h:pU fns ops A.F S fun F' S'=>Q .normal ⟨F',A.inr⟩ S'):nD fns (.reg ops) A S Q:=by
 have⟨n,F',S',h1,h2⟩:=h;refine⟨n+1,.normal,⟨F',A.inr⟩,S',?_,h2⟩;show aU (lF ops (ev fns n).call A.F S) _=_;rw[h1];rfl
def aRh(res:List RV)(Q:AV->St->Prop):Out->bN->St->Prop
 | .exit _,_,_=>False
 | _,A,S=>∃vs,results res A.F S.h=some vs/\Q (oneOf vs) S
theorem bL{id nt:Nat}{res:List RV}{body:AC}{first cap args:bo}{S:St}{Q:AV->St->Prop}(hfn:fns.get id=some ⟨nt,res,body⟩)(hn:(first++(args++cap)).length<=nt)
  (h:nD fns body ⟨qB (first++(args++cap)) 0 .e,false⟩ S (aRh res Q)):eT fns (.fn id first cap) args S Q:=by
 have⟨n,o,A',S',h1,h2⟩:=h;have key:∀ (_:∃vs,results res A'.F S'.h=some vs/\Q (oneOf vs) S') (_:aAd ⟨nt,res,body⟩ (o,A',S')=aU (results res A'.F S'.h) fun vs=>some (oneOf vs,S')),eT fns (.fn id first cap) args S Q:=by
  rintro⟨vs,h3,h4⟩ h5;refine⟨n+1,oneOf vs,S',?_,h4⟩;show aU (fns.get id) (fun fn=>qC fn (yE first (yE args cap)) (ev fns n) S)=_;rw[hfn,aH];unfold qC;rw[fE,fE,eR,Ah hn,aN,h1,aH,h5,h3];rfl
 cases o with
 | normal=>exact key h2 rfl
 | ret=>exact key h2 rfl
 | exit i=>exact h2.elim
theorem fS{F:Fr}{S:St}{Q:Fr->St->Prop}:pU fns [] F S Q↔Q F S:=
 ⟨fun⟨_,_,_,h1,h2⟩=>by cases h1;exact h2,fun h=>⟨0,F,S,rfl,h⟩⟩
theorem aDM{o:AO}{l:List AO}{F F1:Fr}{S S1:St}{Q:Fr->St->Prop}(h:∀call,yK o call F S=some (F1,S1))(hl:pU fns l F1 S1 Q):pU fns (o::l) F S Q:=by
 have⟨n,F',S',h1,h2⟩:=hl;refine⟨n,F',S',?_,h2⟩;rw[fF,h,aH];exact h1
theorem aOZ{d:Option Nat}{q:QOp}{m:Nat}{l:List AO}{F:Fr}{S:St}{Q:Fr->St->Prop}{v:AV}(h:iT q F S.h=some v)(hl:pU fns l (cJ d F v) S Q):pU fns (⟨d,.q q,none,m⟩::l) F S Q:=
 aDM (fun call=>by show aU (iT q F S.h) _=_;rw[h];rfl) hl
theorem aSQ{d:Option Nat}{a:wS}{m:Nat}{l:List AO}{F:Fr}{S:St}{Q:Fr->St->Prop}{v:AV}{bl:AB}(h:tA a F S.nx=some (v,bl))(hl:pU fns l (cJ d F v) ⟨S.h.set S.nx (some bl),S.nx+1⟩ Q):pU fns (⟨d,.a a,none,m⟩::l) F S Q:=
 aDM (fun call=>by show aU (tA a F S.nx) _=_;rw[h];rfl) hl
theorem fK{d:Option Nat}{x:XOp}{m:Nat}{l:List AO}{F:Fr}{S S1:St}{Q:Fr->St->Prop}{v:AV}(h:∀call,xN x call F S=some (v,S1))(hl:pU fns l (cJ d F v) S1 Q):pU fns (⟨d,.x x,none,m⟩::l) F S Q:=
 aDM (fun call=>by show aU (xN x call F S) _=_;rw[h];rfl) hl
theorem aL{d:Option Nat}{f:cP}{args:List cP}{m:Nat}{l:List AO}{F:Fr}{S:St}{Q:Fr->St->Prop}(h:eT fns (f.val F) (dE args F) S fun v S1=>pU fns l (cJ d F v) S1 Q):pU fns (⟨d,.x (.call f args),none,m⟩::l) F S Q:=by
 have⟨n,v,S1,h1,k,F',S',h2,h3⟩:=h;refine⟨max n k,F',S',?_,h3⟩;rw[fF];have:yK ⟨d,.x (.call f args),none,m⟩ (ev fns (max n k)).call F S=some (cJ d F v,S1):=by
  show aU ((ev fns (max n k)).call (f.val F) (dE args F) S) _=_;rw[(lG fns (Gs n k)).call _ _ _ _ h1];rfl
 rw[this,aH];exact aAy (lG fns (Gi n k)).call h2
theorem fB(i:Nat)(F:Fr):(cP.t i).val F=aB i F:=rfl
theorem mX(v:AV)(F:Fr):(cP.c v).val F=v:=rfl
theorem fQ(F:Fr)(v:AV):cJ none F v=F:=rfl
theorem bF(i j:Nat)(F:Fr)(v:AV):aB i (cJ (some j) F v)=if i=j then v else aB i F:=by
 show aB i (F.set j (some v))=_;unfold aB;rw[dq];split<;>rfl
end Go.Ev
namespace Go.Ev
variable {fns:T dD}
theorem aPH{l:Nat}{args:bo}{S:St}{Q:AV->St->Prop}{pend:Option Out}{fr F:Fr}{ps:bt}{as bd:AC}(hl:S.h.get l=some (.loop .ready pend fr ps as bd))(hF:oI ps args fr=some F)
  (h:nD fns as ⟨F,true⟩ S fun o A1 S1=>o= .normal/\∃pend1 fr1 ps1 as1,S1.h.get l=some (.loop .ready pend1 fr1 ps1 as1 bd)/\nD fns bd A1 ⟨S1.h.set l (some (.loop .busy pend1 fr1 ps1 as1 bd)),S1.nx⟩ fun o A2 S2=>∃pend2 fr2 ps2 as2 bd2,S2.h.get l=some (.loop .busy pend2 fr2 ps2 as2 bd2)/\
   ((o= .normal/\Q (.bool true) ⟨S2.h.set l (some (.loop .ready none fr2 ps2 as2 bd2)),S2.nx⟩)\/(o≠ .normal/\Q (.bool false) ⟨S2.h.set l (some (.loop .done (some o) fr2 ps2 as2 bd2)),S2.nx⟩))):eT fns (.yld l) args S Q:=by
 obtain⟨n,o,A1,S1,h1,rfl,pend1,fr1,ps1,as1,h2,m,o2,A2,S2,h3,pend2,fr2,ps2,as2,bd2,h4,h5⟩:=h;have e1:=(lG fns (Gs n m)).code _ _ _ _ h1;have e3:=(lG fns (Gi n m)).code _ _ _ _ h3;have key:∀r,qN (.loop .busy pend2 fr2 ps2 as2 bd2) o2 l S2=some r->(ev fns (max n m+1)).call (.yld l) args S=some r:=fun r hr=>by
  show aU (S.h.get l) (fun bl=>xV bl l args (ev fns (max n m)) S)=_;rw[hl,aH];show aU (oI ps args fr) (fun F=>aU ((ev fns (max n m)).code as ⟨F,true⟩ S) (aAM l bd (ev fns (max n m))))=_;rw[hF,aH,e1,aH];show aU (S1.h.get l) (fun bl=>pK bl l bd (ev fns (max n m)) A1 S1)=_;rw[h2,aH];show aU ((ev fns (max n m)).code bd A1 ⟨S1.h.set l (some (.loop .busy pend1 fr1 ps1 as1 bd)),S1.nx⟩) (fun r=>aU (r.2.2.h.get l) fun bl=>qN bl r.1 l r.2.2)=_;rw[e3,aH];show aU (S2.h.get l) (fun bl=>qN bl o2 l S2)=_;rw[h4,aH];exact hr
 rcases h5 with⟨rfl,h5⟩ | ⟨hne,h5⟩
 ·exact⟨_,_,_,key _ rfl,h5⟩
 ·refine⟨_,_,_,key (.bool false,⟨S2.h.set l (some (.loop .done (some o2) fr2 ps2 as2 bd2)),S2.nx⟩) ?_,h5⟩;cases o2 with
  | normal=>exact absurd rfl hne
  | _=>rfl
theorem aQx{f:cP}{ps:bt}{as bd:AC}{A:bN}{S:St}{Q:Out->bN->St->Prop}{id:Nat}{first cap:bo}(hi:A.inr=false)(hf:f.val A.F= .fn id first cap)
  (h:eT fns (.fn id first cap) [.yld S.nx] ⟨S.h.set S.nx (some (.loop .ready none A.F ps as bd)),S.nx+1⟩ fun _ S2=>∃st pend fr ps2 as2 bd2 c,S2.h.get S.nx=some (.loop st pend fr ps2 as2 bd2)/\st≠ .busy/\aLR pend=some c/\nD fns c A ⟨S2.h.set S.nx (some (.loop .exhausted pend fr ps2 as2 bd2)),S2.nx⟩ Q):nD fns (.rng f ps as bd) A S Q:=by
 have⟨n,v,S2,h1,st,pend,fr,ps2,as2,bd2,c,h2,hst,hc,m,o,A',S',h3,hq⟩:=h;refine⟨max n m+1,o,A',S',?_,hq⟩;show bO A.inr none (bO (aN4 (f.val A.F)) (aU ((ev fns (max n m)).call (f.val A.F) [.yld S.nx] ⟨S.h.set S.nx (some (.loop .ready none A.F ps as bd)),Nat.succ S.nx⟩) fun r=>aU (r.2.h.get S.nx) fun bl=>aAn bl S.nx A r.2 (ev fns (max n m))) none)=_;rw[hi,aR,hf,show aN4 (.fn id first cap)=true from rfl,aN,show Nat.succ S.nx=S.nx+1 from rfl,(lG fns (Gs n m)).call _ _ _ _ h1,aH];show aU (S2.h.get S.nx) (fun bl=>aAn bl S.nx A S2 (ev fns (max n m)))=_;rw[h2,aH];have e:=(lG fns (Gi n m)).code _ _ _ _ h3;cases st with
 | busy=>exact absurd rfl hst
 | _=>
  show aU (aLR pend) (fun c=>(ev fns (max n m)).code c A ⟨S2.h.set S.nx _,S2.nx⟩)=_;rw[hc,aH];exact e
theorem aKf{tbl:List (Nat×Nat×Option (Bool×Nat))}{recv:cP}{args:List cP}{F:Fr}{t f:Nat}{v:AV}(hr:recv.val F= .iface t v)(hf:pS t tbl=some (f,none))(call:dR)(S:St):xN (.inv tbl recv args) call F S=xN (.call (.c (.fn f [v] [])) args) call F S:=by
 show aDX (recv.val F) tbl (dE args F) call S=call (.fn f [v] []) (dE args F) S;rw[hr];show aU (pS t tbl) (fun r=>aGI r v (dE args F) call S)=_;rw[hf,aH];rfl
theorem aPy{d:Option Nat}{tbl:List (Nat×Nat×Option (Bool×Nat))}{recv:cP}{args:List cP}{m:Nat}{l:List AO}{F:Fr}{S:St}{Q:Fr->St->Prop}{t f:Nat}{v:AV}(hr:recv.val F= .iface t v)(hf:pS t tbl=some (f,none))(h:eT fns (.fn f [v] []) (dE args F) S fun v S1=>pU fns l (cJ d F v) S1 Q):pU fns (⟨d,.x (.inv tbl recv args),none,m⟩::l) F S Q:=by
 have⟨n,F',S',h1,h2⟩:=aL (d:=d) (f:=.c (.fn f [v] [])) (args:=args) (m:=m) (l:=l) (F:=F) (S:=S) (Q:=Q) h;refine⟨n,F',S',?_,h2⟩;rw[fF] at h1 ⊢;have e:yK ⟨d,.x (.inv tbl recv args),none,m⟩ (ev fns n).call F S=yK ⟨d,.x (.call (.c (.fn f [v] [])) args),none,m⟩ (ev fns n).call F S:=by
  show aU (xN (.inv tbl recv args) (ev fns n).call F S) _=aU (xN (.call (.c (.fn f [v] [])) args) (ev fns n).call F S) _;rw[aKf hr hf]
 rw[e];exact h1
end Go.Ev
namespace Go.Ev
def Same(S S':St):Prop:=S.nx<=S'.nx/\∀b,b<S.nx->S'.h.get b=S.h.get b
theorem Same.refl(S:St):Same S S:=⟨Af _,fun _ _=>rfl⟩
theorem Same.trans{S S' S'':St}(h:Same S S')(h':Same S' S''):Same S S'':=⟨Bb h.1 h'.1,fun b hb=>(h'.2 b (Ag hb h.1)).trans (h.2 b hb)⟩
theorem Same.alloc(S:St)(bl:AB):Same S ⟨S.h.set S.nx (some bl),S.nx+1⟩:=⟨Nat.le_succ _,fun b hb=>by simp only;rw[dq,if_neg au]⟩
theorem Same.put{S S':St}{b:Nat}(h:Same S S')(hb:S.nx<=b)(x:Option AB):Same S ⟨S'.h.set b x,S'.nx⟩:=⟨h.1,fun c hc=>by simp only;rw[dq,if_neg au];exact h.2 c hc⟩
def cH(k:IntKind)(S:St)(v:AV)(l:bm):Prop:=
 (l= []/\(v= .ce\/v= .emp))\/∃b off cap o cs,v= .sl b off l.length cap o/\l.length<=cap/\b<S.nx/\cA S.h b=some cs/\∀i x,l[i]? =some x->cs[off+i]? =some (.int k x)
theorem vY{S S':St}(h:Same S S'){b:Nat}(hb:b<S.nx):cA S'.h b=cA S.h b:=by unfold cA;rw[h.2 b hb]
theorem cH.same{k:IntKind}{S S':St}{v:AV}{l:bm}(h:cH k S v l)(hs:Same S S'):cH k S' v l:=by
 rcases h with h | ⟨b,off,cap,o,cs,h1,hc,h2,h3,h4⟩
 ·exact .inl h
 ·exact .inr ⟨b,off,cap,o,cs,h1,hc,Ag h2 hs.1,by rw[vY hs h2];exact h3,h4⟩
theorem cH.len{k:IntKind}{S:St}{v:AV}{l:bm}(h:cH k S v l):lB v=some (.int .i64 (.ofNat l.length)):=by
 rcases h with⟨rfl,rfl | rfl⟩ | ⟨b,off,cap,o,cs,rfl,_⟩<;>rfl
def nQ(v:AV)(i:Nat):AV:=
 match v with
 | .sl b off _ _ _=>.ptr b (off+i * 1)
 | _=>.undef
theorem cH.cq{k:IntKind}{S:St}{v:AV}{l:bm}(h:cH k S v l){i:Nat}(hi:i<l.length):dT (.slice 1) v i=some (nQ v i):=by
 rcases h with⟨rfl,_⟩ | ⟨b,off,cap,o,cs,rfl,_⟩
 ·simp at hi
 ·simp only[dT,nQ];have:Nat.blt i l.length=true:=Ah hi;rw[this,aN]
theorem cH.ld{k:IntKind}{S:St}{v:AV}{l:bm}(h:cH k S v l){i:Nat}(hi:i<l.length):dJ (nQ v i) false 1 S.h=some (.int k (l.getD i 0)):=by
 rcases h with⟨rfl,_⟩ | ⟨b,off,cap,o,cs,rfl,hc,hb,hcs,hel⟩
 ·simp at hi
 ·simp only[nQ,dJ,iQ,aR,jQ,hcs,aH,jY,Bt];rw[hel i l[i] (Ad hi)];simp [Ae,hi]
theorem lH(e:qM)(k:IntKind)(a b:Int):kA .add e (.int k a) (.int k b)=some (.int k (k.wrap (a+b))):=by
 show cU .add k a k b=_;unfold cU;rw[show eX .add=false from rfl,aR,fR,aN];show some (AV.int k (aOQ k a b))=_;rw[aHX]
theorem mL(e:qM)(k:IntKind)(a b:Int):kA .sub e (.int k a) (.int k b)=some (.int k (k.wrap (a - b))):=by
 show cU .sub k a k b=_;unfold cU;rw[show eX .sub=false from rfl,aR,fR,aN];show some (AV.int k (aFH k a b))=_;rw[xM]
theorem mE(e:qM)(k:IntKind)(a b:Int):kA .mul e (.int k a) (.int k b)=some (.int k (k.wrap (a * b))):=by
 show cU .mul k a k b=_;unfold cU;rw[show eX .mul=false from rfl,aR,fR,aN];show some (AV.int k (aHz k a b))=_;rw[aBg]
theorem aGU(e:qM)(k:IntKind)(a b:Int):kA .lss e (.int k a) (.int k b)=some (.bool (decide (a<b))):=by
 show cU .lss k a k b=_;unfold cU;rw[show eX .lss=false from rfl,aR,fR,aN];show some (AV.bool (bO (ile b a) false true))=_;rw[rK,sL];congr 2;rw[Dd];simp
theorem aGP(e:qM)(k:IntKind)(a b:Int):kA .leq e (.int k a) (.int k b)=some (.bool (decide (a<=b))):=by
 show cU .leq k a k b=_;unfold cU;rw[show eX .leq=false from rfl,aR,fR,aN];show some (AV.bool (ile a b))=_;rw[rK]
theorem aGk(e:qM)(k:IntKind)(a b:Int):kA .gtr e (.int k a) (.int k b)=some (.bool (decide (b<a))):=by
 show cU .gtr k a k b=_;unfold cU;rw[show eX .gtr=false from rfl,aR,fR,aN];show some (AV.bool (bO (ile a b) false true))=_;rw[rK,sL];congr 2;rw[Dd];simp
theorem aGX(e:qM)(k:IntKind)(a b:Int):kA .geq e (.int k a) (.int k b)=some (.bool (decide (b<=a))):=by
 show cU .geq k a k b=_;unfold cU;rw[show eX .geq=false from rfl,aR,fR,aN];show some (AV.bool (ile b a))=_;rw[rK]
theorem aCO(e:qM)(k:IntKind)(a b:Int):kA .eql e (.int k a) (.int k b)=some (.bool (decide (a=b))):=by
 show cU .eql k a k b=_;unfold cU;rw[show eX .eql=false from rfl,aR,fR,aN];show some (AV.bool (ieq a b))=_;rw[nJ];congr 2
theorem aF9(e:qM)(k:IntKind)(a b:Int):kA .neq e (.int k a) (.int k b)=some (.bool (decide (a≠b))):=by
 show cU .neq k a k b=_;unfold cU;rw[show eX .neq=false from rfl,aR,fR,aN];show some (AV.bool (bO (ieq a b) false true))=_;rw[nJ,sL];congr 2;rw[Dd];simp
section
variable (F:Fr)(h:T AB)
theorem jR(x:cP):iT (.mv x) F h=some (x.val F):=rfl
theorem iH(op:BinOp)(e:qM)(x y:cP):iT (.bin op e x y) F h=kA op e (x.val F) (y.val F):=rfl
theorem aI8(op:UnOp)(x:cP):iT (.un op x) F h=unV op (x.val F):=rfl
theorem qO(x:cP):iT (.ct x) F h=lB (x.val F):=rfl
theorem gH(k:IxK)(x ix:cP):iT (.cq k x ix) F h=aU (dS (ix.val F)) fun i=>dT k (x.val F) i:=rfl
theorem mQ(agg:Bool)(n:Nat)(x:cP):iT (.ld agg n x) F h=dJ (x.val F) agg n h:=rfl
theorem iF(k:aHD)(x:cP):iT (.conv k x) F h=aAZ k (x.val F) h:=rfl
theorem xT(x:cP)(i:Nat):iT (.extract x i) F h=mW (x.val F) i:=rfl
theorem aDN(c a b:cP):iT (.pick c a b) F h=yI (c.val F) a b F:=rfl
theorem aGL(agg:Bool)(off n:Nat)(x:cP):iT (.fld agg off n x) F h=aLz (x.val F) agg off n:=rfl
end
theorem aW(k:IntKind)(n:Nat):dS (.int k (n:Int))=some n:=rfl
theorem iG(k j:IntKind)(n:Int)(h:T AB):aAZ (.int k) (.int j n) h=some (.int k (k.wrap n)):=by
 show some (AV.int k (aFu k n))=_;rw[tW]
end Go.Ev
namespace Go.Ev
variable {fns:T dD}
def mT{α:Type}(x:Option α)(Q:α->Prop):Prop:=∃a,x=some a/\Q a
theorem cI{α:Type}(a:α)(Q:α->Prop):mT (some a) Q=Q a:=propext ⟨fun⟨_,h1,h2⟩=>by cases h1;exact h2,fun h=>⟨a,rfl,h⟩⟩
theorem jS{d:Option Nat}{q:QOp}{m:Nat}{l:List AO}{F:Fr}{S:St}{Q:Fr->St->Prop}:pU fns (⟨d,.q q,none,m⟩::l) F S Q↔mT (iT q F S.h) fun v=>pU fns l (cJ d F v) S Q:=by
 constructor
 ·rintro⟨n,F',S',h1,h2⟩;rw[fF] at h1;have⟨r,h3,h4⟩:=aA h1;have⟨v,h5,h6⟩:=aA (show aU (iT q F S.h) (fun v=>some (cJ d F v,S))=some r from h3);cases h6;exact⟨v,h5,n,F',S',h4,h2⟩
 ·rintro⟨v,h1,h2⟩;exact aOZ h1 h2
theorem tG{d:Option Nat}{a:wS}{m:Nat}{l:List AO}{F:Fr}{S:St}{Q:Fr->St->Prop}:pU fns (⟨d,.a a,none,m⟩::l) F S Q↔mT (tA a F S.nx) fun r=>pU fns l (cJ d F r.1) ⟨S.h.set S.nx (some r.2),S.nx+1⟩ Q:=by
 constructor
 ·rintro⟨n,F',S',h1,h2⟩;rw[fF] at h1;have⟨r,h3,h4⟩:=aA h1;have⟨v,h5,h6⟩:=aA (show aU (tA a F S.nx) (fun r=>some (cJ d F r.1,(⟨S.h.set S.nx (some r.2),Nat.succ S.nx⟩:St)))=some r from h3);cases h6;exact⟨v,h5,n,F',S',h4,h2⟩
 ·rintro⟨⟨v,bl⟩,h1,h2⟩;exact aSQ h1 h2
def wpd(fns:T dD)(ops:List AO)(i base:Nat)(D:DS)(Q:DS->Prop):Prop:=∃n D',rG ops i base (ev fns n).call D=some D'/\Q D'
theorem vC{ops:List AO}{A:bN}{S:St}{Q:Out->bN->St->Prop}(h:wpd fns ops 0 S.nx ⟨A.F,⟨S.h,S.nx+ops.length⟩,[],[],[]⟩ fun D=>fT S.h D.hs.reverse D.ls=true/\Q .normal ⟨D.F,A.inr⟩ ⟨(cG (2 ^ ops.length - 1) D.ps D.S.h).2,D.S.nx⟩):nD fns (.drw ops) A S Q:=by
 have⟨n,D,h1,h2,h3⟩:=h;refine⟨n+1,.normal,⟨D.F,A.inr⟩,⟨(cG (2 ^ ops.length - 1) D.ps D.S.h).2,D.S.nx⟩,?_,h3⟩;show aU (aU (rG ops 0 S.nx (ev fns n).call ⟨A.F,⟨S.h,S.nx+kL ops⟩,[],[],[]⟩) fun D=>tL S.h (kL ops) D) _=_;rw[eR,h1,aH];unfold tL;rw[h2,aN];rfl
theorem nF{i base:Nat}{D:DS}{Q:DS->Prop}:wpd fns [] i base D Q↔Q D:=
 ⟨fun⟨_,_,h1,h2⟩=>by cases h1;exact h2,fun h=>⟨0,D,rfl,h⟩⟩
theorem sR{d:Option Nat}{q:QOp}{m i base:Nat}{l:List AO}{D:DS}{Q:DS->Prop}:wpd fns (⟨d,.q q,none,m⟩::l) i base D Q↔
  mT (iT q D.F D.S.h) fun v=>wpd fns l (i+1) base ⟨cJ d D.F v,D.S,D.ps,D.hs,bO (dK q) (⟨q,D.F,v,i,m⟩::D.ls) D.ls⟩ Q:=by
 constructor
 ·rintro⟨n,D',h1,h2⟩;have⟨r,h3,h4⟩:=aA (show aU (tB ⟨d,.q q,none,m⟩ i base (ev fns n).call D) (fun D'=>rG l (i+1) base (ev fns n).call D')=some D' from h1);have⟨v,h5,h6⟩:=aA (show aU (iT q D.F D.S.h) (fun v=>some (⟨cJ d D.F v,D.S,D.ps,D.hs,bO (dK q) (⟨q,D.F,v,i,m⟩::D.ls) D.ls⟩:DS))=some r from h3);cases h6;exact⟨v,h5,n,D',h4,h2⟩
 ·rintro⟨v,h1,n,D',h2,h3⟩;refine⟨n,D',?_,h3⟩;show aU (aU (iT q D.F D.S.h) _) _=_;rw[h1];exact h2
theorem aPe{d:Option Nat}{a:wS}{m i base:Nat}{l:List AO}{D:DS}{Q:DS->Prop}:wpd fns (⟨d,.a a,none,m⟩::l) i base D Q↔
  mT (tA a D.F (base+i)) fun r=>wpd fns l (i+1) base ⟨cJ d D.F r.1,D.S,⟨i,base+i,r.2⟩::D.ps,D.hs,D.ls⟩ Q:=by
 constructor
 ·rintro⟨n,D',h1,h2⟩;have⟨r,h3,h4⟩:=aA (show aU (tB ⟨d,.a a,none,m⟩ i base (ev fns n).call D) (fun D'=>rG l (i+1) base (ev fns n).call D')=some D' from h1);have⟨v,h5,h6⟩:=aA (show aU (tA a D.F (base+i)) (fun r=>some (⟨cJ d D.F r.1,D.S,⟨i,base+i,r.2⟩::D.ps,D.hs,D.ls⟩:DS))=some r from h3);cases h6;exact⟨v,h5,n,D',h4,h2⟩
 ·rintro⟨r,h1,n,D',h2,h3⟩;refine⟨n,D',?_,h3⟩;show aU (aU (tA a D.F (base+i)) _) _=_;rw[h1];exact h2
theorem oN{d:Option Nat}{x:XOp}{m i base:Nat}{l:List AO}{D:DS}{Q:DS->Prop}{v:AV}{S1:St}(hl:jE D.hs m=true)(h:∀call,xN x call D.F ⟨(cG m D.ps D.S.h).2,D.S.nx⟩=some (v,S1))
  (hq:wpd fns l (i+1) base ⟨cJ d D.F v,S1,(cG m D.ps D.S.h).1,(i,m,S1.h)::D.hs,D.ls⟩ Q):wpd fns (⟨d,.x x,none,m⟩::l) i base D Q:=by
 have⟨n,D',h2,h3⟩:=hq;refine⟨n,D',?_,h3⟩;show aU (bO (jE D.hs m) (aU (xN x (ev fns n).call D.F ⟨(cG m D.ps D.S.h).2,D.S.nx⟩) _) none) _=_;rw[hl,aN,h];exact h2
theorem aHp{d:Option Nat}{f:cP}{args:List cP}{m i base:Nat}{l:List AO}{D:DS}{Q:DS->Prop}(hl:jE D.hs m=true)
  (h:eT fns (f.val D.F) (dE args D.F) ⟨(cG m D.ps D.S.h).2,D.S.nx⟩ fun v S1=>wpd fns l (i+1) base ⟨cJ d D.F v,S1,(cG m D.ps D.S.h).1,(i,m,S1.h)::D.hs,D.ls⟩ Q):wpd fns (⟨d,.x (.call f args),none,m⟩::l) i base D Q:=by
 have⟨n,v,S1,h1,k,D',h2,h3⟩:=h;refine⟨max n k,D',?_,h3⟩;show aU (bO (jE D.hs m) (aU ((ev fns (max n k)).call (f.val D.F) (dE args D.F) ⟨(cG m D.ps D.S.h).2,D.S.nx⟩) _) none) _=_;rw[hl,aN,(lG fns (Gs n k)).call _ _ _ _ h1];exact tQ (lG fns (Gi n k)).call h2
theorem kO(k:IntKind)(a:Int):cQ (.int k a) (.int k a)=true:=by simp [cQ,bQ,fR,nJ]
theorem uH(a:Bool):cQ (.bool a) (.bool a)=true:=by simp [cQ,vS]
theorem aDV(a b:Nat):cQ (.ptr a b) (.ptr a b)=true:=by simp [cQ,bQ,Az]
theorem rX(a b c d:Nat)(o:Bool):cQ (.sl a b c d o) (.sl a b c d o)=true:=by simp [cQ,Az,vS]
theorem aAF:cQ .ce .ce=true:=rfl
end Go.Ev
namespace Go.Ev
def lS(S:St):Prop:=∀b,S.nx<=b->S.h.get b=none
def nP(S S':St):Prop:=(lS S->lS S')/\S.nx<=S'.nx
theorem nP.refl(S:St):nP S S:=⟨id,Af _⟩
theorem nP.trans{S S' S'':St}(h:nP S S')(h':nP S' S''):nP S S'':=⟨fun f=>h'.1 (h.1 f),Bb h.2 h'.2⟩
theorem lS.lt{S:St}(h:lS S){b:Nat}{bl:AB}(hb:S.h.get b=some bl):b<S.nx:=by
 rcases Bj b S.nx with h1 | h1
 ·exact h1
 ·rw[h b h1] at hb;cases hb
theorem qJ{S:St}{b:Nat}{bl:AB}(hb:S.h.get b=some bl)(x:Option AB):nP S ⟨S.h.set b x,S.nx⟩:=
 ⟨fun h c hc=>by have:=h.lt hb;simp only at hc ⊢;rw[dq,if_neg au];exact h c hc,Af _⟩
theorem aMU{S:St}(b:Nat):nP S ⟨S.h.set b none,S.nx⟩:=
 ⟨fun h c hc=>by simp only at hc ⊢;rw[dq];split;rfl;exact h c hc,Af _⟩
theorem pH(S:St)(x:Option AB):nP S ⟨S.h.set S.nx x,S.nx+1⟩:=
 ⟨fun h c hc=>by simp only at hc ⊢;rw[dq,if_neg au];exact h c au,Nat.le_succ _⟩
theorem rN{S S':St}{b off:Nat}{vs:bo}(h:mU S b off vs=some S'):nP S S':=by
 unfold mU at h;have⟨bl,hb,h⟩:=aA h;unfold rJ at h;split at h
 ·have⟨cs,_,h⟩:=aA h;cases h;exact qJ hb _
 ·cases h
def aAu(c:dR):Prop:=∀f args S v S',c f args S=some (v,S')->nP S S'
structure aOj(e:Evs):Prop where
 code:∀c A S o A' S',e.code c A S=some (o,A',S')->nP S S'
 call:aAu e.call
theorem yO{S:St}{need size:Nat}{cs:bo}{v:AV}{S':St}(h:grown S.h S.nx need size cs=some (v,S')):nP S S':=by
 unfold grown at h;cases h;exact pH S _
theorem aON{s:AV}{bytes size n:Nat}{new:bo}{S S':St}{v:AV}(h:xG s bytes size n new S=some (v,S')):nP S S':=by
 unfold xG at h;split at h
 ·unfold pF at h;rw[bQ] at h;split at h
  ·cases h;exact nP.refl _
  ·have⟨_,h⟩:=bJ h;have⟨_,h⟩:=bJ h;exact yO h
 ·have⟨_,h⟩:=bJ h;cases h;exact nP.refl _
 ·unfold pT at h;rw[bQ] at h;split at h
  ·rw[bQ] at h;split at h
   ·cases h;exact nP.refl _
   ·have⟨S1,h1,h⟩:=aA h;cases h;exact rN h1
  ·have⟨_,h⟩:=bJ h;have⟨_,h⟩:=bJ h;have⟨bl,hb,h⟩:=aA h;unfold aAR at h;split at h
   ·have⟨old,_,h⟩:=aA h;rw[bQ] at h;split at h
    ·have⟨_,h⟩:=bJ h;have⟨_,h⟩:=bJ h;have⟨_,h⟩:=bJ h;exact nP.trans (aMU (S:=S) _) (yO (S:=⟨_,S.nx⟩) h)
    ·exact yO h
   ·obtain⟨_,h⟩:_/\_:=by
     rw[bQ] at h;split at h
     ·cases h
     ·exact⟨trivial,h⟩
    have⟨old,_,h⟩:=aA h;exact yO h
   ·cases h
 ·cases h
theorem aKu{c:dR}(hc:aAu c){x:XOp}{F:Fr}{S S':St}{v:AV}(h:xN x c F S=some (v,S')):nP S S':=by
 cases x with
 | st n x v=>
  have⟨cs,_,h⟩:=aA (show aU _ _=_ from h);unfold oT at h;split at h
  ·have⟨_,h⟩:=bJ h;have⟨S1,h1,h⟩:=aA h;cases h;exact rN h1
  ·cases h
 | call f args=>exact hc _ _ _ _ _ h
 | inv tbl recv args=>
  have h:aDX (recv.val F) tbl (dE args F) c S=some (v,S'):=h;unfold aDX at h;split at h
  ·have⟨r,_,h⟩:=aA h;unfold aGI at h;split at h
   ·exact hc _ _ _ _ _ h
   ·unfold aCX at h;split at h
    ·have⟨_,_,h⟩:=aA h;exact hc _ _ _ _ _ h
    ·cases h
  ·cases h
 | app t size bytes s x=>
  have h:iW bytes size (s.val F) (x.val F) S=some (v,S'):=h;unfold iW at h;have⟨n,_,h⟩:=aA h;have⟨new,_,h⟩:=aA h;exact aON h
 | copy size d s=>
  have⟨m,_,h⟩:=aA (show aU (aAz (s.val F)) (fun m=>copyV (d.val F) size m (s.val F) S)=_ from h);unfold copyV at h;split at h
  ·cases h;exact nP.refl _
  ·cases h;exact nP.refl _
  ·simp only[bQ] at h;split at h
   ·split at h
    ·cases h;exact nP.refl _
    ·have⟨_,_,h⟩:=aA h;have⟨S1,h1,h⟩:=aA h;cases h;exact rN h1
   ·split at h
    ·cases h;exact nP.refl _
    ·have⟨_,_,h⟩:=aA h;have⟨S1,h1,h⟩:=aA h;cases h;exact rN h1
  ·cases h
 | mapUpd sk m k v'=>
  have h:vQ (m.val F) sk (k.val F) (v'.val F) S=some (v,S'):=h;unfold vQ at h;split at h
  ·have⟨es,he,h⟩:=aA h;have⟨bl,hb,_⟩:=aA he;have⟨r,_,h⟩:=aA h;cases h;exact qJ hb _
  ·cases h
 | mapDel sk m k=>
  have h:aBD (m.val F) sk (k.val F) S=some (v,S'):=h;unfold aBD at h;split at h
  ·have⟨es,he,h⟩:=aA h;have⟨bl,hb,_⟩:=aA he;have⟨r,_,h⟩:=aA h;unfold aK3 at h;split at h
   ·cases h;exact qJ hb _
   ·cases h;exact nP.refl _
  ·cases h;exact nP.refl _
  ·cases h
 | clr zero x=>
  have h:aI9 (x.val F) zero S=some (v,S'):=h;unfold aI9 at h;split at h
  ·cases h;exact nP.refl _
  ·cases h;exact nP.refl _
  ·rw[bQ] at h;split at h
   ·cases h;exact nP.refl _
   ·have⟨S1,h1,h⟩:=aA h;cases h;exact rN h1
  ·cases h
 | ext k args=>
  have⟨r,_,h⟩:=aA (show aU _ _=_ from h);cases h;exact nP.refl _
 | bad=>cases h
theorem aPd{c:dR}(hc:aAu c){o:AO}{F F':Fr}{S S':St}(h:yK o c F S=some (F',S')):nP S S':=by
 unfold yK at h;rw[bQ] at h;split at h
 ·cases ho:o.op with
  | q q=>
   rw[ho] at h;have⟨v,_,h⟩:=aA (show aU _ _=_ from h);cases h;exact nP.refl _
  | a a=>
   rw[ho] at h;have⟨r,_,h⟩:=aA (show aU _ _=_ from h);cases h;exact pH S _
  | x x=>
   rw[ho] at h;have⟨r,hr,h⟩:=aA (show aU (xN x c F S) _=_ from h);cases h;exact aKu hc hr
 ·cases h;exact nP.refl _
theorem aFf{c:dR}(hc:aAu c):∀ {l:List AO} {F F':Fr} {S S':St},lF l c F S=some (F',S')->nP S S'
 | [],F,F',S,S',h=>by cases h;exact nP.refl _
 | o::l,F,F',S,S',h=>by
  have⟨⟨F1,S1⟩,h1,h2⟩:=aA (show aU (yK o c F S) (fun r=>lF l c r.1 r.2)=some (F',S') from h);exact(aPd hc h1).trans (aFf hc h2)
theorem yX{S:St}{m:Nat}:∀ {ps:List kB} {h:T AB},(∀p∈ps,p.id<S.nx)->nP ⟨h,S.nx⟩ ⟨(cG m ps h).2,S.nx⟩/\∀p∈(cG m ps h).1,p.id<S.nx
 | [],h,_=>⟨nP.refl _,fun p hp=>(by cases hp)⟩
 | p::ps,h,hp=>by
  have h1:=hp p (by simp);have h2:∀q∈ps,q.id<S.nx:=fun q hq=>hp q (by simp [hq]);unfold cG;cases Nat.testBit m p.i with
  | true=>
   rw[aN];have ih:=yX (S:=S) (m:=m) (h:=h.set p.id (some p.b)) h2;have k:nP ⟨h,S.nx⟩ ⟨h.set p.id (some p.b),S.nx⟩:=⟨fun f c hc=>by
    simp only at hc ⊢;rw[dq,if_neg au];exact f c hc,Af _⟩
   exact⟨k.trans ih.1,ih.2⟩
  | false=>
   rw[aR];have ih:=yX (S:=S) (m:=m) (h:=h) h2;refine⟨ih.1,fun q hq=>?_⟩;rcases Br.1 hq with rfl | hq
   ·exact h1
   ·exact ih.2 q hq
theorem aIM{c:dR}(hc:aAu c){base N:Nat}:∀ {l:List AO} {i:Nat} {D D':DS},i+l.length<=N->base+N<=D.S.nx->(∀p∈D.ps,p.id<D.S.nx)->rG l i base c D=some D'->nP D.S D'.S/\∀p∈D'.ps,p.id<D'.S.nx
 | [],i,D,D',_,_,hp,h=>by cases h;exact⟨nP.refl _,hp⟩
 | o::l,i,D,D',hi,hb,hp,h=>by
  have⟨D1,h1,h2⟩:=aA (show aU (tB o i base c D) (fun D'=>rG l (i+1) base c D')=some D' from h);simp only[Av] at hi;have key:nP D.S D1.S/\∀p∈D1.ps,p.id<D1.S.nx:=by
   unfold tB at h1;rw[bQ] at h1;split at h1
   ·cases ho:o.op with
    | q q=>
     rw[ho] at h1;have⟨v,_,h⟩:=aA (show aU _ _=_ from h1);cases h;exact⟨nP.refl _,hp⟩
    | a a=>
     rw[ho] at h1;have⟨r,_,h⟩:=aA (show aU _ _=_ from h1);cases h;refine⟨nP.refl _,fun p hq=>?_⟩;rcases Br.1 hq with rfl | hq
     ·simp only;omega
     ·exact hp p hq
    | x x=>
     rw[ho] at h1;have⟨_,h1⟩:=bJ (show bO (jE D.hs o.mask) _ none=some D1 from h1);have⟨r,hr,h⟩:=aA h1;cases h;have hf:=yX (S:=D.S) (m:=o.mask) (h:=D.S.h) hp;have hx:=aKu hc hr;exact⟨hf.1.trans hx,fun p hq=>Ag (hf.2 p hq) hx.2⟩
   ·cases h1;exact⟨nP.refl _,hp⟩
  have ih:=aIM hc (i:=i+1) (D:=D1) au (Bb hb key.1.2) key.2 h2;exact⟨key.1.trans ih.1,ih.2⟩
theorem aHn{c:dR}(hc:aAu c){l:List AO}{F F':Fr}{S S':St}(h:nT l c F S=some (F',S')):nP S S':=by
 have⟨D,h1,h2⟩:=aA (show aU _ _=_ from h);rw[eR] at h1;have hd:=aIM hc (N:=l.length) au (by simp only;omega) (fun p hp=>by cases hp) h1;unfold tL at h2;have⟨_,h2⟩:=bJ h2;cases h2;have hf:=yX (S:=D.S) (m:=2 ^ kL l - 1) (h:=D.S.h) hd.2;have h0:nP S ⟨S.h,S.nx+l.length⟩:=⟨fun f c hcc=>f c (by simp only at hcc;omega),En _ _⟩;exact h0.trans (hd.1.trans hf.1)
theorem aJf{e:Evs}(he:aOj e){c:AC}{A A':bN}{S S':St}{o:Out}(h:aGJ c e A S=some (o,A',S')):nP S S':=by
 have seqF:∀ {x y:AC},aU (e.code x A S) (kI y e)=some (o,A',S')->nP S S':=fun {x y} h=>by
  have⟨⟨o1,A1,S1⟩,h1,h2⟩:=aA h;unfold kI at h2;split at h2
  ·exact(he.code _ _ _ _ _ _ h1).trans (he.code _ _ _ _ _ _ h2)
  ·cases h2;exact he.code _ _ _ _ _ _ h1
 cases c with
 | skip=>cases h;exact nP.refl _
 | seq x y=>exact seqF h
 | cond x y z=>
  have h:qT (x.val A.F) y z e A S=some (o,A',S'):=h;unfold qT at h;split at h
  ·exact he.code _ _ _ _ _ _ h
  ·cases h
 | block id x=>
  have⟨⟨o1,A1,S1⟩,h1,h2⟩:=aA (show aU (e.code x A S) (jH id)=_ from h);unfold jH at h2;split at h2
  ·rw[bQ] at h2;split at h2<;>(cases h2;exact he.code _ _ _ _ _ _ h1)
  ·cases h2;exact he.code _ _ _ _ _ _ h1
 | loop x=>exact seqF h
 | exit id=>cases h;exact nP.refl _
 | ret=>cases h;exact nP.refl _
 | reg ops=>
  have⟨⟨F1,S1⟩,h1,h2⟩:=aA (show aU (lF ops e.call A.F S) _=_ from h);cases h2;exact aFf he.call h1
 | drw ops=>
  have⟨⟨F1,S1⟩,h1,h2⟩:=aA (show aU (nT ops e.call A.F S) _=_ from h);cases h2;exact aHn he.call h1
 | rng f ps as bd=>
  have h:aLH f ps as bd e A S=some (o,A',S'):=h;unfold aLH at h;rw[bQ] at h;split at h
  ·cases h
  ·have⟨_,h⟩:=bJ h;have⟨⟨v,S1⟩,h1,h⟩:=aA h;have⟨bl,hb,h⟩:=aA h;have k1:=(pH S (some (.loop .ready none A.F ps as bd))).trans (he.call _ _ _ _ _ h1);unfold aAn at h;split at h
   ·split at h
    ·cases h
    ·have⟨cc,_,h⟩:=aA h;exact k1.trans ((qJ (S:=S1) hb _).trans (he.code _ _ _ _ _ _ h))
   ·cases h
 | dfr ops f args=>cases h
theorem aJm{fns:T dD}{e:Evs}(he:aOj e):aAu (pX fns e):=by
 intro f args S v S' h;unfold pX at h;split at h
 ·have⟨fn,_,h⟩:=aA h;unfold qC at h;have⟨_,h⟩:=bJ h;have⟨⟨o,A,S1⟩,h1,h2⟩:=aA h;unfold aAd at h2;split at h2
  ·cases h2
  ·have⟨vs,_,h3⟩:=aA h2;cases h3;exact he.code _ _ _ _ _ _ h1
 ·have⟨bl,hb,h⟩:=aA h;unfold xV at h;split at h
  ·have⟨F,_,h⟩:=aA h;have⟨⟨o1,A1,S1⟩,h1,h⟩:=aA h;unfold aAM at h;split at h
   ·have⟨bl2,hb2,h⟩:=aA h;unfold pK at h;split at h
    ·unfold aFr at h;have⟨⟨o2,A2,S2⟩,h2,h⟩:=aA h;have⟨bl3,hb3,h⟩:=aA h;have k:=(he.code _ _ _ _ _ _ h1).trans ((qJ (S:=S1) hb2 _).trans (he.code _ _ _ _ _ _ h2));unfold qN at h;split at h
     ·split at h
      ·cases h;exact k.trans (qJ (S:=S2) hb3 _)
      ·cases h;exact k.trans (qJ (S:=S2) hb3 _)
     ·cases h
    ·cases h
   ·cases h
  ·cases h
 ·cases h
theorem aGW(fns:T dD):∀n,aOj (ev fns n)
 | 0=>⟨fun c A S o A' S' (h:none=some _)=>(by cases h),fun f args S v S' (h:none=some _)=>(by cases h)⟩
 | n+1=>⟨fun _ _ _ _ _ _ h=>aJf (aGW fns n) h,aJm (aGW fns n)⟩
theorem jN{fns:T dD}{f:AV}{args:bo}{S:St}{Q:AV->St->Prop}(h:eT fns f args S Q):eT fns f args S fun v S'=>Q v S'/\nP S S':=by
 have⟨n,v,S',h1,h2⟩:=h;exact⟨n,v,S',h1,h2,(aGW fns n).call _ _ _ _ _ h1⟩
theorem aFP{fns:T dD}{c:AC}{A:bN}{S:St}{Q:Out->bN->St->Prop}(h:nD fns c A S Q):nD fns c A S fun o A' S'=>Q o A' S'/\nP S S':=by
 have⟨n,o,A',S',h1,h2⟩:=h;exact⟨n,o,A',S',h1,h2,(aGW fns n).code _ _ _ _ _ _ h1⟩
end Go.Ev
namespace Go.Ev
variable {P:Program}{σ:Env}{S:St}{w:World}
def aF8:List (Nat×Nat×IntKind×Int)->AC
 | []=>.seq (.reg [⟨some 0,.q (.mv (.c (.bool true))),none,0⟩]) .ret
 | (g,j,k,z)::l=>.seq (.reg [⟨some 1,.q (.ld false 1 (.c (.ptr g j))),none,0⟩,⟨some 2,.q (.bin .eql (.p .int) (.t 1) (.c (.int k z))),none,0⟩]) (.seq (.cond (.t 2) .skip (.exit 0)) (aF8 l))
def aBX(l:List (Nat×Nat×IntKind×Int)):dD:=⟨0,[.t 0],aF8 l⟩
theorem aKW{fns:T dD}{Q:Out->bN->St->Prop}(hQ:∀A,aB 0 A.F= .bool true->Q .ret A S):∀ {l:List (Nat×Nat×IntKind×Int)} {A:bN},(∀c∈l,jQ S.h c.1 c.2.1=some (.int c.2.2.1 c.2.2.2))->nD fns (aF8 l) A S Q
 | [],A,_=>by
  refine aE (aM ?_);rw[jS];exact⟨.bool true,rfl,(fS).2 (aK (hQ _ (by rw[bF,if_pos rfl])))⟩
 | (g,j,k,z)::l,A,h=>by
  have h1:=h (g,j,k,z) (by simp);simp only at h1;refine aE (aM (aOZ (v:=.int k z) h1 (aOZ (v:=.bool true) ?_ (fS.2 ?_))))
  ·show kA .eql (.p .int) (aB 1 (cJ (some 1) A.F (.int k z))) (.int k z)=_;rw[bF,if_pos rfl,aCO,Ac rfl]
  refine aE (jG (t:=true) (by show aB 2 _=_;rw[bF,if_pos rfl]) (fun _=>aJ ?_) (fun h=>by cases h));exact aKW hQ fun c hc=>h c (by simp [hc])
theorem aNM{fns:T dD}{id:Nat}{l:List (Nat×Nat×IntKind×Int)}(hfn:fns.get id=some (aBX l))(h:∀c∈l,jQ S.h c.1 c.2.1=some (.int c.2.2.1 c.2.2.2)):eT fns (.fn id [] []) [] S fun r S'=>r= .bool true/\S'=S:=by
 refine bL hfn (by simp) (aKW (fun A hA=>?_) h);exact⟨[aB 0 A.F],rfl,by rw[hA];rfl,rfl⟩
theorem aF6{v:AV}{k:IntKind}{z:Int}(h:kA .eql (.p .int) v (.int k z)=some (.bool true)):v= .int k z:=by
 cases v with
 | int k' z'=>
  have h':cU .eql k' z' k z=some (.bool true):=h;unfold cU at h';rw[show eX .eql=false from rfl,aR] at h';have⟨hk,h'⟩:=bJ h';have hz:some (AV.bool (ieq z' z))=some (.bool true):=h';simp only[Al,AV.bool.injEq] at hz;rw[nJ] at hz;have hz:=eq_of_beq hz;subst hz;have hkk:k'=k:=by
   cases k<;>cases k'<;>first | rfl | (exfalso;revert hk;decide)
  rw[hkk]
 | _=>cases h
theorem aHA{fns:T dD}:∀ {l:List (Nat×Nat×IntKind×Int)} {n:Nat} {A A':bN} {S':St} {o:Out},(ev fns n).code (aF8 l) A S=some (o,A',S')->(∀i,o≠ .exit i)->(∀c∈l,jQ S.h c.1 c.2.1=some (.int c.2.2.1 c.2.2.2))/\S'=S/\aB 0 A'.F= .bool true
 | l,0,_,_,_,_,h,_=>by cases h
 | l,1,A,A',S',o,h,_=>by
  cases l with
  | nil=>
   have h':(none:Option (Out×bN×St))=some (o,A',S'):=h;cases h'
  | cons c l=>
   have⟨g,j,k,z⟩:=c;have h':(none:Option (Out×bN×St))=some (o,A',S'):=h;cases h'
 | [],n+2,A,A',S',o,h,ho=>by
  have⟨⟨o1,A1,S1⟩,h1,h2⟩:=aA (show aU ((ev fns (n+1)).code (.reg [⟨some 0,.q (.mv (.c (.bool true))),none,0⟩]) A S) (kI .ret (ev fns (n+1)))=some (o,A',S') from h);have e1:(ev fns (n+1)).code (.reg [⟨some 0,.q (.mv (.c (.bool true))),none,0⟩]) A S=some (.normal,⟨cJ (some 0) A.F (.bool true),A.inr⟩,S):=rfl;rw[e1] at h1;cases h1;have e2:kI .ret (ev fns (n+1)) (.normal,⟨cJ (some 0) A.F (.bool true),A.inr⟩,S)=some (.ret,⟨cJ (some 0) A.F (.bool true),A.inr⟩,S):=rfl;rw[e2] at h2;cases h2;exact⟨fun c hc=>(by cases hc),rfl,by rw[bF,if_pos rfl]⟩
 | (g,j,k,z)::l,n+2,A,A',S',o,h,ho=>by
  have⟨⟨o1,A1,S1⟩,h1,h2⟩:=aA (show aU ((ev fns (n+1)).code (.reg [⟨some 1,.q (.ld false 1 (.c (.ptr g j))),none,0⟩,⟨some 2,.q (.bin .eql (.p .int) (.t 1) (.c (.int k z))),none,0⟩]) A S) (kI (.seq (.cond (.t 2) .skip (.exit 0)) (aF8 l)) (ev fns (n+1)))=some (o,A',S') from h);have⟨⟨F1,S2⟩,h3,h4⟩:=aA (show aU (lF [⟨some 1,.q (.ld false 1 (.c (.ptr g j))),none,0⟩,⟨some 2,.q (.bin .eql (.p .int) (.t 1) (.c (.int k z))),none,0⟩] (ev fns n).call A.F S) (fun r=>some (.normal,(⟨r.1,A.inr⟩:bN),r.2))=some (o1,A1,S1) from h1);cases h4;rw[fF] at h3;have⟨⟨F2,S3⟩,h5,h6⟩:=aA h3;have⟨v,hv,h7⟩:=aA (show aU (jQ S.h g j) (fun v=>some (cJ (some 1) A.F v,S))=some (F2,S3) from h5);cases h7;rw[fF] at h6;have⟨⟨F4,S4⟩,h8,h9⟩:=aA h6;cases h9;have⟨b,hb,h10⟩:=aA (show aU (kA .eql (.p .int) (aB 1 (cJ (some 1) A.F v)) (.int k z)) (fun u=>some (cJ (some 2) (cJ (some 1) A.F v) u,S))=some (F4,S4) from h8);cases h10;rw[bF,if_pos rfl] at hb;have h2:(ev fns (n+1)).code (.seq (.cond (.t 2) .skip (.exit 0)) (aF8 l)) ⟨cJ (some 2) (cJ (some 1) A.F v) b,A.inr⟩ S=some (o,A',S'):=h2;have⟨⟨o5,A5,S5⟩,k1,k2⟩:=aA (show aU ((ev fns n).code (.cond (.t 2) .skip (.exit 0)) ⟨cJ (some 2) (cJ (some 1) A.F v) b,A.inr⟩ S) (kI (aF8 l) (ev fns n))=some (o,A',S') from h2);cases n with
  | zero=>cases k1
  | succ n=>
   have k1:qT (aB 2 (cJ (some 2) (cJ (some 1) A.F v) b)) .skip (.exit 0) (ev fns n) ⟨cJ (some 2) (cJ (some 1) A.F v) b,A.inr⟩ S=some (o5,A5,S5):=k1;rw[bF,if_pos rfl] at k1;cases b with
   | bool t=>
    have k1:(ev fns n).code (bO t .skip (.exit 0)) ⟨cJ (some 2) (cJ (some 1) A.F v) (.bool t),A.inr⟩ S=some (o5,A5,S5):=k1;cases t with
    | true=>
     rw[aN] at k1;cases n with
     | zero=>cases k1
     | succ n=>
      have e:(ev fns (n+1)).code .skip ⟨cJ (some 2) (cJ (some 1) A.F v) (.bool true),A.inr⟩ S=some (.normal,⟨cJ (some 2) (cJ (some 1) A.F v) (.bool true),A.inr⟩,S):=rfl;rw[e] at k1;cases k1;have ih:=aHA (l:=l) (show(ev fns (n+1+1)).code (aF8 l) _ S=some (o,A',S') from k2) ho;refine⟨fun c hc=>?_,ih.2⟩;rcases Br.1 hc with rfl | hc
      ·rw[hv,aF6 hb]
      ·exact ih.1 c hc
    | false=>
     rw[aR] at k1;cases n with
     | zero=>cases k1
     | succ n=>
      have e:(ev fns (n+1)).code (.exit 0) ⟨cJ (some 2) (cJ (some 1) A.F v) (.bool false),A.inr⟩ S=some (.exit 0,⟨cJ (some 2) (cJ (some 1) A.F v) (.bool false),A.inr⟩,S):=rfl;rw[e] at k1;cases k1;have k2:some (Out.exit 0,(⟨cJ (some 2) (cJ (some 1) A.F v) (.bool false),A.inr⟩:bN),S)=some (o,A',S'):=k2;cases k2;exact absurd rfl (ho 0)
   | _=>cases k1
theorem aLi{fns:T dD}{l:List (Nat×Nat×IntKind×Int)}{n:Nat}{S':St}{v:AV}(h:qC (aBX l) [] (ev fns n) S=some (v,S')):(∀c∈l,jQ S.h c.1 c.2.1=some (.int c.2.2.1 c.2.2.2))/\S'=S/\v= .bool true:=by
 unfold qC at h;have⟨_,h⟩:=bJ h;have⟨⟨o,A',S1⟩,h1,h2⟩:=aA h;unfold aAd at h2;split at h2
 ·cases h2
 ·rename_i hne;have⟨vs,h3,h4⟩:=aA h2;cases h4;have⟨k1,k2,k3⟩:=aHA (show(ev fns n).code (aF8 l) ⟨.e,false⟩ S=some (o,A',S1) from h1) (fun i e=>hne i e);refine⟨k1,k2,?_⟩;have:some [aB 0 A'.F]=some vs:=h3;cases this;exact k3
def aB3:Nat->Nat->List (IntKind×Int)->List (Nat×Nat×IntKind×Int)
 | _,_,[]=>[]
 | g,j,(k,z)::l=>(g,j,k,z)::aB3 g (j+1) l
theorem aDP:∀ {l:List (IntKind×Int)} {g j i:Nat} {k:IntKind} {z:Int},l[i]? =some (k,z)->(g,j+i,k,z)∈aB3 g j l
 | [],_,_,_,_,_,h=>by simp at h
 | (k,z)::l,g,j,0,k',z',h=>by
  simp at h;obtain⟨rfl,rfl⟩:=h;simp [aB3]
 | (k,z)::l,g,j,i+1,k',z',h=>by
  have:=aDP (g:=g) (j:=j+1) (show l[i]? =some (k',z') by simpa using h);rw[show j+(i+1)=j+1+i by omega];exact Bf _ this
def nB:List (Nat×List (IntKind×Int))->List (Nat×Nat×IntKind×Int)
 | []=>[]
 | (g,l)::r=>aB3 g 0 l++nB r
theorem aBt:∀ {t:List (Nat×List (IntKind×Int))} {g:Nat} {l:List (IntKind×Int)},(g,l)∈t->∀c∈aB3 g 0 l,c∈nB t
 | (g',l')::t,g,l,h,c,hc=>by
  simp only[nB,Bs];rcases Br.1 h with h | h
  ·cases h;exact .inl hc
  ·exact .inr (aBt h c hc)
theorem aHk(hR:kT P σ S w){t:List (Nat×List (IntKind×Int))}(hg:∀x∈t,x.1<P.globals.size/\x.2≠ [])(h:∀c∈nB t,jQ S.h c.1 c.2.1=some (.int c.2.2.1 c.2.2.2)):aIU P (t.map fun x=>(x.1,x.2.map fun y=>AV.int y.1 y.2)) w:=by
 intro x hx;obtain⟨⟨g,l⟩,hgl,rfl⟩:=He.1 hx;have⟨h1,h2⟩:=hg _ hgl;have hc:∀i k z,l[i]? =some (k,z)->jQ S.h g i=some (.int k z):=fun i k z hi=>by
  have:=h _ (aBt hgl _ (aDP (g:=g) (j:=0) hi));simpa using this
 obtain⟨⟨k0,z0⟩,l',rfl⟩:∃a l',l=a::l':=by cases l with | nil=>exact absurd rfl h2 | cons a l'=>exact⟨a,l',rfl⟩
 have h0:=hc 0 k0 z0 rfl;unfold jQ cA at h0;have⟨cs,h3,h4⟩:=aA h0;have⟨bl,h5,h6⟩:=aA h3;have⟨L,h7,h8,h9⟩:=hR.blk g bl h5;rw[hR.glob g h1] at h7;cases h7;have hcs:∀i k z,((k0,z0)::l')[i]? =some (k,z)->cs[i]? =some (AV.int k z):=fun i k z hi=>by
  have:=hc i k z hi;unfold jQ cA at this;rw[h5,aH,h6,aH,jY] at this;exact this
 have key:∀Cs,iD P σ cs Cs->w.rangeAt g 0 Cs->∃Ds,iD P (aEa P) (((k0,z0)::l').map fun y=>AV.int y.1 y.2) Ds/\(∀u∈Ds,u.oneCell'=true)/\w.rangeAt g 0 Ds:=by
  intro Cs hC hr;refine⟨((k0,z0)::l').map fun y=>Value.int y.1 y.2,?_,fun u hu=>?_,fun j v hv=>?_⟩
  ·clear hcs hc hg h h0 hgl hx h2;generalize (k0,z0)::l'=m
   induction m with
   | nil=>exact cT.2 rfl
   | cons a m ih=>exact cS.2 ⟨_,_,rfl,by simp only[Rv],ih⟩
  ·obtain⟨y,_,rfl⟩:=He.1 hu;rfl
  ·rw[Bz,Ax] at hv;obtain⟨⟨k,z⟩,hkz,rfl⟩:=hv;have h10:=hcs j k z hkz;have⟨V,hV,hVV⟩:=hC.get h10;simp only[Rv] at hVV;rw[<-hVV];exact hr j V hV
 refine⟨h1,by simpa using h8,?_⟩;cases bl with
 | cells ds o s=>
  simp only[dN,Al] at h6;subst h6;have⟨Cs,q1,_,q3,_⟩:=h9;exact key Cs q1 q3
 | ro ds=>
  simp only[dN,Al] at h6;subst h6;have⟨Cs,q1,_,q3⟩:=h9;exact key Cs q1 q3
 | _=>cases h6
theorem aG5{l:List (Nat×bo)}{σ':Env}{S':St}{w':World}(hR:kT P σ S w)(h:gM P (aEa P) (stL P l) w σ' S' w'):gM P σ S w σ S w':=by
 have hk:∀r,r<w.heap.size->w'.heap[r]? =w.heap[r]? :=fun r hr=>h.keep r hr (aTv r);refine⟨⟨fun b bl hb=>?_,hR.lt,hR.fresh,hR.glob,hR.inj⟩,fun _ _=>rfl,Af _,fun r hr _=>hk r hr,fun _ ho=>.inl ho,h.size,h.os,h.tape,h.output,fun _ _ hb=>hb⟩;have⟨L,q1,q2,q3⟩:=hR.blk b bl hb;exact⟨L,q1,Ag q2 h.size,q3.frame (fun _ _ x=>x) (hk _ q2)⟩
theorem aEN{fns:T dD}{id nt:Nat}{res:List RV}{c:AC}{Fn:Func}{t:List (Nat×List (IntKind×Int))}{l:List (Nat×bo)}(hFn:P.funcs[id]? =some Fn)(hc:cFn P Fn=some ⟨nt,res,c⟩)(hl:l=t.map fun x=>(x.1,x.2.map fun y=>AV.int y.1 y.2))(hg:∀x∈t,x.1<P.globals.size/\x.2≠ [])
  (h:Good P c ⟨.e,false⟩ (stL P l) fun o A S=>aME res o A S=some true):aKE P fns id (aBX (nB t)):=by
 have⟨C,c',rs,hbody,hname,hC,hrs,heq⟩:=yH hc;cases heq;refine⟨rfl,⟨Fn,C,hFn,hbody,hname⟩,fun n S S' v hrun σ w fv hf hR=>?_⟩;have⟨hloads,hS',hv⟩:=aLi hrun;subst hS';subst hv;have hT:aIU P l w:=by rw[hl];exact aHk hR hg hloads
 simp only[Rv] at hf;obtain⟨A,B,rfl,hA,hB⟩:=hf;have hA:=cT.1 hA;have hB:=cT.1 hB;subst hA;subst hB;rw[iV hFn hbody hname];show CallsIn Fence.wide 0 P id ⟨[]++([]++ [])⟩ w _;refine callsIn_of_wp_marks hFn hbody trivial ?_;have⟨hfr,hsz⟩:=vX (P:=P) (σ:=aEa P) (args:=[]) (Args:=[]) (cT.2 rfl) (nt:=Fn.ntmps) (Dt _);rw[<-aBj];refine h none 0 Fn.ntmps C hC (fun _=>rfl) w.heap.size (aEa P) _ w _ hsz Df.nil (Af _) hfr (aSr hT) ?_;intro o A' S2 σ' a' w' hret hinr hsz' hdf hfr' hext;have⟨hoo,hres⟩:=aMH hret;have⟨_,rks,hd,hnd,hmk⟩:=hdf;rw[Cb] at hd;have fin:∀w'',gM P (aEa P) (stL P l) w σ' S2 w''->∃V,(Go.results Fn a'.tmps).run P w''= .ok V w''/\∃σ',Rv P σ' (.bool true) V/\gM P σ S' w σ' S' w'':=fun w'' hx=>by
  have⟨Vs,h8,h9⟩:=lA hx.rep hfr' hrs hres;refine⟨if h:Vs.toArray.size=1 then Vs.toArray[0] else .tuple Vs.toArray,?_,σ,?_,aG5 hR hx⟩
  ·show((do let vs <-Fn.results.mapM (aCw a'.tmps);pure (if h:vs.size=1 then vs[0] else .tuple vs):Sem Value)).run P w''=_;rw[Fe];simp only[Sem.run_bind,Sem.run_map,h8,Result.andThen_ok,Sem.run_pure]
  ·have:=xO h9;simp only[oneOf,Rv] at this;rw[this];simp only[Rv]
 rcases hoo with rfl | rfl
 ·show LeavesInM Fence.wide 0 P Fn a'.tmps _ a'.defers .returning w';rw[hd];exact leaves rks w' hnd hmk hext fin
 ·show LeavesInM Fence.wide 0 P Fn a'.tmps _ a'.defers .returning w';rw[hd];exact leaves rks w' hnd hmk hext fin
theorem aGO{l:List (Nat×dD)}(hmix:P.follows .mixedOrders=true)(hl:∀p∈l,(Row P p\/aKE P (table l) p.1 p.2)\/aQe P (table l) p.1 p.2):qD P (table l):=
 ⟨asked P,rQ P,fun id fn h=>by
  rcases hl _ (aB5 h) with(⟨Fn,h1,h2⟩ | h1) | h1
  ·exact .inl ⟨Fn,h1,h2⟩
  ·exact .inr (.inl h1)
  ·exact .inr (.inr h1),fun call hcall=>aCz (asked P) (rQ P) hmix call hcall⟩
end Go.Ev
namespace Go.Ev
variable {P:Program}{σ:Env}{S:St}{w:World}
def aBB(S:St):Prop:=∀b bl,S.h.get b=some bl->¬wJ bl
def aAe(σ:Env)(b:Nat)(L:Loc):Env:=fun c=>if c=b then some L else σ c
theorem aQ3(hR:kT P σ S w)(L:Loc):∀b M,σ b=some M->aAe σ S.nx L b=some M:=fun b M h=>by
 have:=hR.below h;unfold aAe;rw[if_neg au];exact h
structure sH(P:Program)(σ:Env)(S:St)(w:World)(σ':Env)(S':St):Prop where
 rep:kT P σ' S' w
 no:aBB S'
 same:Same S S'
 fresh:lS S'
 le:∀b L,σ b=some L->σ' b=some L
theorem sH.refl(hR:kT P σ S w)(hn:aBB S)(hf:lS S):sH P σ S w σ S:=⟨hR,hn,Same.refl S,hf,fun _ _ h=>h⟩
theorem sH.trans{σ' σ'':Env}{S' S'':St}(h:sH P σ S w σ' S')(h':sH P σ' S' w σ'' S''):sH P σ S w σ'' S'':=⟨h'.rep,h'.no,h.same.trans h'.same,h'.fresh,fun b L hb=>h'.le b L (h.le b L hb)⟩
theorem aQ5(hn:aBB S)(r:Nat):¬Own σ S r:=fun⟨b,bl,_,h1,h2,_⟩=>hn b bl h1 h2
theorem aMo{fns:T dD}(hK:qD P fns){id:Nat}{b:Bool}{Fn:Func}(hFn:P.funcs[id]? =some Fn)(hb:Fn.body.isSome=true)(hnm:(Fn.name== "runtime.NumGoroutine")=false){avs:bo}{Args:List Value}{Q:St->Prop}
  (h:eT fns (.fn id [] []) avs S fun r S'=>r= .bool b/\Q S') (hargs:iD P σ avs Args) (hR:kT P σ S w) (hn:aBB S):
  Calls P id ⟨Args⟩ w fun e w'=>e= .returned (.bool b)/\Kept w w':=by
 have⟨n,v,S',hrun0,hv,_⟩:=h;subst hv;have hs:=aM8 hK n _ _ _ _ _ hrun0 σ w (.func (.func id) ⟨[]⟩ ⟨[]⟩) Args (by simp only[Rv];exact⟨[],[],rfl,cT.2 rfl,cT.2 rfl⟩) hargs hR;have hnm':¬Fn.name= "runtime.NumGoroutine" :=by simpa using hnm
 have⟨C,hC⟩:=Option.isSome_iff_exists.1 hb;have hrun:((do let d <-Deferred.ofValue (.func (.func id) ⟨[]⟩ ⟨[]⟩) ⟨Args⟩;invoke d.target d.args:Sem Next)).run P w= .ok (.enter id ⟨Args⟩) w:=by
  simp only[Deferred.ofValue,Sem.run_bind,Sem.run_pure,Result.andThen_ok,invoke,callFunc,run_program,hFn];simp [hC,hnm']
 rw[hrun] at hs;have hs:CallsIn Fence.wide 0 P id ⟨Args⟩ w _:=hs;refine(callsIn_wide.1 hs).mono fun e w' h=>?_;cases e with
 | returned V=>
  have⟨σ',h1,h2⟩:=h;simp only[Rv] at h1;subst h1;exact⟨rfl,h2.kept (aQ5 hn)⟩
 | _=>exact h.elim
theorem aPG{l:List (Nat×bo)}:aBB (stL P l):=fun b bl h ho=>by
 obtain⟨cs,_,rfl⟩:=oY h;exact ho.elim
theorem aP6{l:List (Nat×bo)}(hl:∀x∈l,x.1<P.globals.size):lS (stL P l):=fun b hb=>by
 cases h:(stL P l).h.get b with
 | none=>rfl
 | some bl=>
  have⟨cs,h1,_⟩:=oY h;have h2:=hl _ h1;simp only[stL] at hb;simp only at h2;omega
end Go.Ev
namespace Go.Ev
variable {P:Program}{σ:Env}{S:St}{w:World}
theorem aMr(hR:kT P σ S w)(hn:aBB S)(hf:lS S)(hG:P.globals.size<=S.nx){r d:Nat}{cs:bo}{Cs:List Value}(hr:r<w.heap.size)(hc:iD P σ cs Cs)(h1:∀u∈Cs,u.oneCell'=true)(hw:w.rangeAt r d Cs):
  sH P σ S w (aAe σ S.nx ⟨r,d,0⟩) ⟨S.h.set S.nx (some (.ro cs)),S.nx+1⟩:=by
 have hle:=aQ3 hR ⟨r,d,0⟩;refine⟨⟨fun b bl hb=>?_,fun b bl hb=>?_,fun b hb=>?_,fun g hg=>?_,fun b b' bl bl' L L' hb _ ho=>?_⟩,fun b bl hb=>?_,Same.alloc S _,(pH S _).1 hf,hle⟩
 ·simp only at hb;rw[dq] at hb;split at hb
  ·rename_i e;subst e;cases hb;exact⟨⟨r,d,0⟩,by unfold aAe;rw[if_pos rfl],hr,Cs,hc.mono hle,h1,hw⟩
  ·have⟨L,h1,h2,h3⟩:=hR.blk b bl hb;exact⟨L,hle b L h1,h2,h3.frame hle rfl⟩
 ·simp only at hb;rw[dq] at hb;split at hb
  ·rename_i e;subst e;simp
  ·have:=hR.lt b bl hb;simp only;omega
 ·simp only at hb;unfold aAe;rw[if_neg au];exact hR.fresh b au
 ·unfold aAe;rw[if_neg au];exact hR.glob g hg
 ·simp only at hb;rw[dq] at hb;split at hb
  ·cases hb;exact ho.elim
  ·exact absurd ho (hn b bl hb)
 ·simp only at hb;rw[dq] at hb;split at hb
  ·cases hb;exact fun h=>h
  ·exact hn b bl hb
def Lays(P:Program)(t:TypeId){α:Type}(E:St->bo->α->Prop):Prop:=
 ∀ (H:Type) (enc:TypeId×Value->H) (σ:Env) (S:St) (w:World) (base:Nat) (spare:Nat->Bool) (held:Bool) (fuel:Nat) (cs:List Value) (x:DataW H×List MemPlace),kT P σ S w->aBB S->lS S->P.globals.size<=S.nx->DataW.trod enc P w base spare held fuel t cs=some x->(∀n∈DataW.weights P t x.1,n<=140737488355328)->
  ∃σ' S' avs a,sH P σ S w σ' S'/\iD P σ' avs cs/\(∀u∈cs,u.oneCell'=true)/\E S' avs a/\S.nx<=S'.nx
def aKe{α:Type}(E:St->bo->α->Prop):Prop:=∀ {S S':St} {avs:bo} {a:α},E S avs a->Same S S'->E S' avs a
def aQp(k:IntKind)(_:St)(avs:bo)(z:Int):Prop:=avs= [.int k z]/\(Lit.int k z).wf=true
theorem aNR{k:IntKind}:aKe (aQp k):=fun h _=>h
theorem aPj{t:TypeId}{k:IntKind}(ht:P.underlying t=some (.int k)):Lays P t (aQp k):=by
 intro H enc σ S w base spare held fuel cs x hR hn hf hG h hW;obtain⟨n,rfl,_,hw⟩:=DataW.trod_int ht h;exact⟨σ,S,[.int k n],n,sH.refl hR hn hf,cS.2 ⟨_,_,rfl,by simp only[Rv],cT.2 rfl⟩,fun u hu=>by simp at hu;subst hu;rfl,⟨rfl,hw⟩,Af _⟩
theorem aCm{H:Type}{e:TypeId}{d:DataW H}{n:Nat}:∀ {l:List (DataW H)},d∈l->n∈DataW.weights P e d->n∈DataW.weightsAll P e l
 | [],h,_=>by cases h
 | x::r,h,hn=>by
  show n∈DataW.weights P e x++DataW.weightsAll P e r;rcases Br.1 h with rfl | h
  ·exact Ei _ hn
  ·exact Dr _ (aCm h hn)
theorem aBf{H:Type}{n:Nat}:∀ {ts:List TypeId} {l:List (DataW H)} {i:Nat} {t:TypeId} {d:DataW H},ts[i]? =some t->l[i]? =some d->n∈DataW.weights P t d->n∈DataW.weightsEach P ts l
 | [],_,_,_,_,h,_,_=>by simp at h
 | _::_,[],_,_,_,_,h,_=>by simp at h
 | u::ts,x::r,0,t,d,h1,h2,hn=>by
  simp at h1 h2;subst h1;subst h2;exact Ei _ hn
 | u::ts,x::r,i+1,t,d,h1,h2,hn=>by
  show n∈DataW.weights P u x++DataW.weightsEach P ts r;exact Dr _ (aBf (by simpa using h1) (by simpa using h2) hn)
theorem aEY{H:Type}{t e:TypeId}{xs ys:List (DataW H)}(ht:P.underlying t=some (.slice e)):DataW.weights P t (.slice xs ys)=(xs.length+ys.length) * P.bytesOf e::(DataW.weightsAll P e xs++DataW.weightsAll P e ys):=by
 unfold DataW.weights;rw[ht]
def aOX(k:Nat){α:Type}(E:St->bo->α->Prop)(S:St)(avs:bo)(l:List α):Prop:=
 ∃av,avs= [av]/\l.length * (8 * k)<=140737488355328/\((l= []/\(av= .ce\/av= .emp))\/∃ (b cap:Nat) (css:List (bo)),av= .sl b 0 l.length cap false/\l.length<=cap/\b<S.nx/\S.h.get b=some (.ro css.flatten)/\css.length=l.length/\∀ (i:Nat) (cs:bo) (a:α),css[i]? =some cs->l[i]? =some a->cs.length=k/\E S cs a)
theorem aNZ{a:Addr}{n base:Nat}{cs:List Value}(h:w.cells? base a n=some cs):cs.length=n/\∀i,i<n->w.cell? (a.add i)=cs[i]? :=by
 unfold World.cells? at h;split at h
 ·refine⟨by simpa using mapM_some_length h,fun i hi=>?_⟩;exact mapM_some_get h i i (by simp [hi])
 ·cases h
theorem aDH{e:TypeId}{k:Nat}{α:Type}{E:St->bo->α->Prop}(hE:Lays P e E)(hF:aKe E)(hk:0<k){H:Type}{enc:TypeId×Value->H}{base:Nat}{spare:Nat->Bool}{held:Bool}{fuel:Nat}{a:Addr}(hspot:a.spot=none)
  (hR:kT P σ S w) (hn:aBB S) (hf:lS S) (hG:P.globals.size<=S.nx):∀ {m:Nat},(∀i,i<m->∃x,(w.cells? base (a.add (i * k)) k).bind (DataW.trod enc P w base spare held fuel e)=some x/\∀n∈DataW.weights P e x.1,n<=140737488355328)->
  ∃ (σ':Env) (S':St) (css:List (bo)),∃l:List α,∃Cs:List Value,sH P σ S w σ' S'/\S.nx<=S'.nx/\css.length=m/\l.length=m/\(∀ (i:Nat) (cs:bo) (a:α),css[i]? =some cs->l[i]? =some a->cs.length=k/\E S' cs a)/\iD P σ' css.flatten Cs/\(∀u∈Cs,u.oneCell'=true)/\Cs.length=m * k/\w.rangeAt a.block a.off Cs
 | 0,_=>⟨σ,S,[],[],[],sH.refl hR hn hf,Af _,rfl,rfl,fun i cs a hi=>(by simp at hi),cT.2 rfl,fun u hu=>(by cases hu),by simp,fun j v hv=>(by simp at hv)⟩
 | m+1,h=>by
  have⟨σ1,S1,css,l,Cs,hA,hn1,hcl,hll,hel,hrv,hone,hlen,hrange⟩:=aDH hE hF hk hspot hR hn hf hG (m:=m) fun i hi=>h i au;have⟨x,hx,hxW⟩:=h m au;have⟨cs,hcs,hx⟩:=Du.1 hx;have⟨σ2,S2,avs,y,hA2,hrv2,hone2,hE2,hn2⟩:=hE H enc σ1 S1 w base spare held fuel cs x hA.rep hA.no hA.fresh (Bb hG hn1) hx hxW;have⟨hcl2,hcell⟩:=aNZ hcs;have hal:avs.length=k:=by rw[<-hrv2.length];exact hcl2
  refine⟨σ2,S2,css++ [avs],l++ [y],Cs++cs,hA.trans hA2,Bb hn1 hn2,by simp [hcl],by simp [hll],?_,?_,?_,?_,?_⟩
  ·intro i cs' a' hi ha;rw[Gw] at hi ha;rw[hcl] at hi;rw[hll] at ha;split at hi
   ·rename_i hlt;rw[if_pos hlt] at ha;exact⟨(hel i cs' a' hi ha).1,hF (hel i cs' a' hi ha).2 hA2.same⟩
   ·rename_i hlt;rw[if_neg hlt] at ha;have him:i - m=0:=by
     rcases An (i - m) with h | h
     ·exact h
     ·have⟨q,hq⟩:=Nat.exists_eq_succ_of_ne_zero (Nat.pos_iff_ne_zero.1 h);rw[hq] at hi;simp at hi
    rw[him] at hi ha;simp at hi ha;subst hi;subst ha;exact⟨hal,hE2⟩
  ·rw[List.flatten_append];simp only[List.flatten_cons,List.flatten_nil,Cb];exact(hrv.mono hA2.le).append hrv2
  ·intro u hu;rcases Bs.1 hu with hu | hu
   ·exact hone u hu
   ·exact hone2 u hu
  ·rw[Aj,hlen,hcl2,Gg]
  ·intro j v hv;rw[Gw] at hv;split at hv
   ·exact hrange j v hv
   ·rename_i hlt;have hj:j - Cs.length<k:=by
     have:=(Ai.1 hv).1;omega
    have:=hcell (j - Cs.length) hj;rw[hv] at this;rw[<-this];congr 1;have hadd:∀i,a.add i=⟨a.block,a.off+i,none⟩:=fun i=>by
     unfold Addr.add;split
     ·rename_i h;subst h;cases a;simp_all
     ·rfl
    have hadd2:∀ (x y:Nat),Addr.add ⟨a.block,x,none⟩ y=⟨a.block,x+y,none⟩:=fun x y=>by
     unfold Addr.add;split
     ·rename_i h;rw[h,Bm]
     ·rfl
    rw[hadd,hadd2,hlen];congr 1;rw[hlen] at hlt;omega
theorem aJH{t e:TypeId}{k:Nat}{α:Type}{E:St->bo->α->Prop}(ht:P.underlying t=some (.slice e))(hc:P.cellsOf e=k)(hk:0<k)(hby:8 * k<=P.bytesOf e)(hE:Lays P e E)(hF:aKe E):Lays P t (aOX k E):=by
 intro H enc σ S w base spare held fuel cs x hR hn hf hG h hW;rcases DataW.trod_slice ht h with⟨rfl,_⟩ | ⟨a,len,cap,elems,rest,n,rfl,rfl,hxe,_,hlc,_,hlen,hel,_⟩
 ·exact⟨σ,S,[.ce],[],sH.refl hR hn hf,cS.2 ⟨_,_,rfl,by simp only[Rv],cT.2 rfl⟩,fun u hu=>by simp at hu;subst hu;rfl,⟨_,rfl,by simp,.inl ⟨rfl,.inl rfl⟩⟩,Af _⟩
 ·rw[hc] at hel;subst hxe;have hW:∀n∈DataW.weights P t (.slice (elems.map (·.1)) (rest.map (·.1))),n<=140737488355328:=hW;rw[aEY ht] at hW;have hlw:len * (8 * k)<=140737488355328:=by
   have h1:=hW _ (Bn ..);rw[Ce,hlen,Ch] at h1;exact Bb (Bh len hby) au
  rcases An len with h0 | hp
  ·subst h0;exact⟨σ,S,[.emp],[],sH.refl hR hn hf,cS.2 ⟨_,_,rfl,by simp only[Rv];exact⟨a,cap,rfl⟩,cT.2 rfl⟩,fun u hu=>by simp at hu;subst hu;rfl,⟨_,rfl,by simp,.inl ⟨rfl,.inr rfl⟩⟩,Af _⟩
  ·have hget:∀i,i<len->∃x,(w.cells? base (a.add (i * k)) k).bind (DataW.trod enc P w base spare held n e)=some x/\∀n∈DataW.weights P e x.1,n<=140737488355328:=fun i hi=>by
    rw[hel i hi];exact⟨elems[i]' au,Ad au,fun n hn=>hW n (Bf _ (Ei _ (aCm (List.mem_map_of_mem (Cv _)) hn)))⟩
   have⟨x0,hx0,_⟩:=hget 0 hp;have⟨cs0,hcs0,_⟩:=Du.1 hx0;have⟨hl0,hc0⟩:=aNZ hcs0;have c0:=hc0 0 hk;rw[Ad au,Fu] at c0;have e0:(a.add 0).add 0=a:=rfl;rw[e0] at c0;have hblk:a.block<w.heap.size/\a.spot=none:=by
    unfold World.cell? at c0;cases hh:w.heap[a.block]? with
    | none=>rw[hh] at c0;cases c0
    | some o=>
     refine⟨(Fc.1 hh).1,?_⟩;rw[hh] at c0;cases o with
     | cells c t fr=>
      simp only at c0;by_cases hs:a.spot.isSome
      ·rw[if_pos hs] at c0;cases c0
      ·simpa using hs
     | _=>cases c0
   have⟨σ1,S1,css,l,Cs,hA,hn1,hcl,hll,hE1,hrv,hone,hCl,hrange⟩:=aDH hE hF hk hblk.2 hR hn hf hG hget;have hA2:=aMr hA.rep hA.no hA.fresh (Bb hG hn1) hblk.1 hrv hone hrange;refine⟨_,_,[.sl S1.nx 0 len cap false],l,hA.trans hA2,cS.2 ⟨_,_,rfl,?_,cT.2 rfl⟩,fun u hu=>by simp at hu;subst hu;rfl,⟨_,rfl,by rw[hll];exact hlw,.inr ⟨S1.nx,cap,css,by rw[hll],au,by simp,?_,by rw[hcl,hll],fun i cs a' hi ha=>⟨(hE1 i cs a' hi ha).1,hF (hE1 i cs a' hi ha).2 hA2.same⟩⟩⟩,by simp only;omega⟩
   ·simp only[Rv];refine⟨⟨a.block,a.off,0⟩,by unfold aAe;rw[if_pos rfl],?_⟩;have:=hblk.2;cases a
    simp_all
   ·simp only;rw[dq,if_pos rfl]
end Go.Ev
namespace Go.Ev
def bH(k:Nat){α:Type}(E:St->bo->α->Prop)(S:St)(v:AV)(l:List α):Prop:=
 (l= []/\(v= .ce\/v= .emp))\/∃b off cap o cs,v= .sl b off l.length cap o/\l.length<=cap/\b<S.nx/\cA S.h b=some cs/\∀ (i:Nat) (a:α),l[i]? =some a->∃e:bo,e.length=k/\(∀ (j:Nat) (x:AV),e[j]? =some x->cs[off+i * k+j]? =some x)/\E S e a
theorem bH.same{k:Nat}{α:Type}{E:St->bo->α->Prop}(hE:aKe E){S S':St}{v:AV}{l:List α}(h:bH k E S v l)(hs:Same S S'):bH k E S' v l:=by
 rcases h with h | ⟨b,off,cap,o,cs,h1,hc,h2,h3,h4⟩
 ·exact .inl h
 ·refine .inr ⟨b,off,cap,o,cs,h1,hc,Ag h2 hs.1,by rw[vY hs h2];exact h3,fun i a hi=>?_⟩;have⟨e,e1,e2,e3⟩:=h4 i a hi;exact⟨e,e1,e2,hE e3 hs⟩
theorem flat_get{k:Nat}:∀ {css:List (bo)} {i j:Nat} {cs:bo} {x:AV},(∀ (i:Nat) (cs:bo),css[i]? =some cs->cs.length=k)->css[i]? =some cs->cs[j]? =some x->css.flatten[i * k+j]? =some x
 | [],i,j,cs,x,_,hi,_=>by simp at hi
 | c::css,0,j,cs,x,_,hi,hj=>by
  simp at hi;subst hi;rw[Fu,Ao,List.flatten_cons,Ap (Ai.1 hj).1];exact hj
 | c::css,i+1,j,cs,x,hk,hi,hj=>by
  have hc:=hk 0 c rfl;rw[List.flatten_cons,Gg,Aq au,hc,show i * k+k+j - k=i * k+j by omega];exact flat_get (fun i cs h=>hk (i+1) cs (by simpa using h)) (by simpa using hi) hj
theorem aOX.is{k:Nat}{α:Type}{E:St->bo->α->Prop}{S:St}{avs:bo}{l:List α}(h:aOX k E S avs l):∃v,avs= [v]/\bH k E S v l:=by
 obtain⟨v,rfl,_,h | ⟨b,cap,css,h1,h2,h3,h4,h5,h6⟩⟩:=h
 ·exact⟨v,rfl,.inl h⟩
 ·refine⟨v,rfl,.inr ⟨b,0,cap,false,css.flatten,h1,h2,h3,?_,fun i a hi=>?_⟩⟩
  ·unfold cA;rw[h4];rfl
  ·have hil:i<css.length:=by have:=(Ai.1 hi).1;omega
   have⟨e1,e2⟩:=h6 i css[i] a (Ad hil) hi;refine⟨css[i],e1,fun j x hj=>?_,e2⟩;rw[Ao];exact flat_get (fun i' cs' hi'=>(h6 i' cs' (l[i']'(by have:=(Ai.1 hi').1;omega)) hi' (Ad _)).1) (Ad hil) hj
section
variable {k:Nat}{α:Type}{E:St->bo->α->Prop}{S:St}{v:AV}{l:List α}
theorem bH.len(h:bH k E S v l):lB v=some (.int .i64 (l.length:Int)):=by
 rcases h with⟨rfl,rfl | rfl⟩ | ⟨b,off,cap,o,cs,rfl,_⟩<;>rfl
def aOY(k:Nat)(v:AV)(i:Nat):AV:=
 match v with
 | .sl b off _ _ _=>.ptr b (off+i * k)
 | _=>.undef
theorem bH.cq(h:bH k E S v l){i:Nat}(hi:i<l.length):dT (.slice k) v i=some (aOY k v i):=by
 rcases h with⟨rfl,_⟩ | ⟨b,off,cap,o,cs,rfl,_⟩
 ·simp at hi
 ·simp only[dT,aOY];have:Nat.blt i l.length=true:=Ah hi;rw[this,aN]
theorem bH.get(h:bH k E S v l){i:Nat}{a:α}(hi:l[i]? =some a):∃ (e:bo) (b p:Nat),aOY k v i= .ptr b p/\b<S.nx/\e.length=k/\E S e a/\∃cs,cA S.h b=some cs/\∀ (j:Nat) (x:AV),e[j]? =some x->cs[p+j]? =some x:=by
 rcases h with⟨rfl,_⟩ | ⟨b,off,cap,o,cs,rfl,hc,hb,hcs,hel⟩
 ·simp at hi
 ·have⟨e,e1,e2,e3⟩:=hel i a hi;exact⟨e,b,off+i * k,rfl,hb,e1,e3,cs,hcs,e2⟩
end
end Go.Ev
