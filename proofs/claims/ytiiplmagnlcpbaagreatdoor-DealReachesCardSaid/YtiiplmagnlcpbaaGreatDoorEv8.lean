import Derived.Test.YtiiplmagnlcpbaaGreatDoorEv7
import Derived.ChangeSlices
import Derived.ChangeArms
import Derived.DataReads
set_option linter.unusedSimpArgs false
set_option linter.unusedVariables false
namespace Go.Ev
def uJ(c d:dK):Prop:=∀f args S r,c f args S=some r->d f args S=some r
structure Le(a b:Evs):Prop where
 code:∀c A S r,a.code c A S=some r->b.code c A S=some r
 call:uJ a.call b.call
theorem eF{α β:Type}{x y:Option α}{f g:α->Option β}{b:β}(h:aU x f=some b)(hx:∀a,x=some a->y=some a)(hf:∀a,f a=some b->g a=some b):aU y g=some b:=by
 have⟨a,h1,h2⟩:=aA h;rw[hx a h1];exact hf a h2
theorem aKH{c d:dK}(h:uJ c d){v:AV}{tbl:List (Nat×Nat×Option (Bool×Nat))}{args:bo}{S:St}{r:AV×St}(hv:aDs v tbl args c S=some r):aDs v tbl args d S=some r:=by
 unfold aDs at hv ⊢;split at hv
 ·refine eF hv (fun _ h=>h) fun a ha=>?_;unfold aFV at ha ⊢;split at ha
  ·exact h _ _ _ _ ha
  ·unfold aCy at ha ⊢;split at ha
   ·exact eF ha (fun _ h=>h) fun _ hb=>h _ _ _ _ hb
   ·cases ha
 ·cases hv
theorem aHn{c d:dK}(h:uJ c d){x:XOp}{F:Fr}{S:St}{r:AV×St}(hv:xX x c F S=some r):xX x d F S=some r:=by
 cases x with
 | call f args=>exact h _ _ _ _ hv
 | inv tbl recv args=>exact aKH h hv
 | _=>exact hv
theorem aKL{c d:dK}(h:uJ c d){o:AO}{F:Fr}{S:St}{r:Fr×St}(hv:zZ o c F S=some r):zZ o d F S=some r:=by
 unfold zZ at hv ⊢;rw[bO] at hv ⊢;split at hv
 ·rename_i hw;rw[if_pos hw];cases ho:o.op with
  | q q=>rw[ho] at hv;exact hv
  | a a=>rw[ho] at hv;exact hv
  | x x=>
   rw[ho] at hv;exact eF (show aU (xX x c F S) _=some r from hv) (fun _ hx=>aHn h hx) fun _ hb=>hb
 ·rename_i hw;rw[if_neg hw];exact hv
theorem zQ{c d:dK}(h:uJ c d):∀ {l:List AO} {F:Fr} {S:St} {r:Fr×St},kL l c F S=some r->kL l d F S=some r
 | [],F,S,r,hv=>hv
 | o::l,F,S,r,hv=>eF (show aU (zZ o c F S) (fun r=>kL l c r.1 r.2)=some r from hv) (fun _ hx=>aKL h hx) fun _ hb=>zQ h hb
theorem aLO{c d:dK}(h:uJ c d){o:AO}{i base:Nat}{D:DS}{r:DS}(hv:rT o i base c D=some r):rT o i base d D=some r:=by
 unfold rT at hv ⊢;rw[bO] at hv ⊢;split at hv
 ·rename_i hw;rw[if_pos hw];cases ho:o.op with
  | q q=>rw[ho] at hv;exact hv
  | a a=>rw[ho] at hv;exact hv
  | x x=>
   rw[ho] at hv;have⟨h1,h2⟩:=bB (show bM (jB D.hs o.mask) _ none=some r from hv);show bM (jB D.hs o.mask) _ none=some r;rw[h1,aP];exact eF h2 (fun _ hx=>aHn h hx) fun _ hb=>hb
 ·rename_i hw;rw[if_neg hw];exact hv
theorem sO{c d:dK}(h:uJ c d):∀ {l:List AO} {i base:Nat} {D r:DS},pY l i base c D=some r->pY l i base d D=some r
 | [],_,_,_,_,hv=>hv
 | o::l,i,base,D,r,hv=>eF (show aU (rT o i base c D) (fun D'=>pY l (i+1) base c D')=some r from hv) (fun _ hx=>aLO h hx) fun _ hb=>sO h hb
theorem aFN{c d:dK}(h:uJ c d){l:List AO}{F:Fr}{S:St}{r:Fr×St}(hv:mL l c F S=some r):mL l d F S=some r:=
 eF (show aU _ _=some r from hv) (fun _ hx=>sO h hx) fun _ hb=>hb
theorem aHj{a b:Evs}(h:Le a b){c:AC}{A:bK}{S:St}{r:Out×bK×St}(hv:aFX c a A S=some r):aFX c b A S=some r:=by
 cases c with
 | skip=>exact hv
 | seq x y=>
  refine eF (show aU (a.code x A S) (jT y a)=some r from hv) (fun _ hx=>h.code _ _ _ _ hx) fun q hq=>?_;unfold jT at hq ⊢;split at hq
  ·exact h.code _ _ _ _ hq
  ·exact hq
 | cond x y z=>
  have hv:pO (x.val A.F) y z a A S=some r:=hv;show pO (x.val A.F) y z b A S=some r;unfold pO at hv ⊢;split at hv
  ·exact h.code _ _ _ _ hv
  ·cases hv
 | block id x=>exact eF (show aU (a.code x A S) (iX id)=some r from hv) (fun _ hx=>h.code _ _ _ _ hx) fun _ hq=>hq
 | loop x=>
  refine eF (show aU (a.code x A S) (jT (.loop x) a)=some r from hv) (fun _ hx=>h.code _ _ _ _ hx) fun q hq=>?_;unfold jT at hq ⊢;split at hq
  ·exact h.code _ _ _ _ hq
  ·exact hq
 | exit id=>exact hv
 | ret=>exact hv
 | reg ops=>exact eF (show aU (kL ops a.call A.F S) _=some r from hv) (fun _ hx=>zQ h.call hx) fun _ hq=>hq
 | drw ops=>exact eF (show aU (mL ops a.call A.F S) _=some r from hv) (fun _ hx=>aFN h.call hx) fun _ hq=>hq
 | rng f ps as bd=>
  have hv:aKi f ps as bd a A S=some r:=hv;show aKi f ps as bd b A S=some r;unfold aKi at hv ⊢;cases hi:A.inr with
  | true=>rw[hi,aP] at hv;cases hv
  | false=>
   rw[hi,aS] at hv;rw[aS];have⟨h1,h2⟩:=bB hv;rw[h1,aP];refine eF h2 (fun _ hx=>h.call _ _ _ _ hx) fun q hq=>eF hq (fun _ hx=>hx) fun bl hbl=>?_;unfold aDt at hbl ⊢;split at hbl
   ·split at hbl
    ·cases hbl
    ·exact eF hbl (fun _ hx=>hx) fun _ hc=>h.code _ _ _ _ hc
   ·cases hbl
 | dfr ops f args=>exact hv
theorem aGy{a b:Evs}(h:Le a b){bl:AB}{l:Nat}{args:bo}{S:St}{r:AV×St}(hv:zG bl l args a S=some r):zG bl l args b S=some r:=by
 unfold zG at hv ⊢;split at hv
 ·refine eF hv (fun _ hx=>hx) fun F hF=>eF hF (fun _ hx=>h.code _ _ _ _ hx) fun q hq=>?_;unfold aCj at hq ⊢;split at hq
  ·refine eF hq (fun _ hx=>hx) fun bl hbl=>?_;unfold qT at hbl ⊢;split at hbl
   ·exact eF (show aU (a.code _ _ _) _=some r from hbl) (fun _ hx=>h.code _ _ _ _ hx) fun _ hq=>hq
   ·cases hbl
  ·cases hq
 ·cases hv
theorem aHm{fns:T cM}{a b:Evs}(h:Le a b):uJ (oR fns a) (oR fns b):=by
 intro f args S r hv;unfold oR at hv ⊢;split at hv
 ·refine eF hv (fun _ hx=>hx) fun fn hfn=>?_;unfold mY at hfn ⊢;have⟨h1,h2⟩:=bB hfn;rw[h1,aP];exact eF h2 (fun _ hx=>h.code _ _ _ _ hx) fun _ hq=>hq
 ·exact eF hv (fun _ hx=>hx) fun bl hbl=>aGy h hbl
 ·cases hv
theorem tU(fns:T cM):∀n,Le (ev fns n) (ev fns (n+1))
 | 0=>⟨fun c A S r (h:none=some r)=>(by cases h),fun f args S r (h:none=some r)=>(by cases h)⟩
 | n+1=>⟨fun _ _ _ _ h=>aHj (tU fns n) h,aHm (tU fns n)⟩
theorem oE(fns:T cM){n m:Nat}(h:n<=m):Le (ev fns n) (ev fns m):=by
 induction h with
 | refl=>exact⟨fun _ _ _ _ h=>h,fun _ _ _ _ h=>h⟩
 | step _ ih=>exact⟨fun c A S r h=>(tU fns _).code _ _ _ _ (ih.code _ _ _ _ h),fun f args S r h=>(tU fns _).call _ _ _ _ (ih.call _ _ _ _ h)⟩
end Go.Ev
namespace Go.Ev
abbrev oq(d:Nat)(q:QOp):AO:=⟨some d,.q q,none,0⟩
abbrev om(d m:Nat)(q:QOp):AO:=⟨some d,.q q,none,m⟩
abbrev og(d s:Nat)(b:Bool)(m:Nat)(q:QOp):AO:=⟨some d,.q q,some (s,b),m⟩
abbrev oc(d f:Nat)(l:List cL)(m:Nat):AO:=⟨some d,.x (.call (.c (.fn f [] [])) l),none,m⟩
abbrev mt(d i:Nat):AO:=⟨some d,.q (.mv (.t i)),none,0⟩
abbrev ci(n:Int):cL:=.c (.int .i64 n)
abbrev bi(o:BinOp)(x y:cL):QOp:=.bin o (.p .int) x y
abbrev ld(i:Nat):QOp:=.ld false 1 (.t i)
abbrev Zs(n x v m:Nat):AO:=⟨none,.x (.st n (.t x) (.t v)),none,m⟩
abbrev Zf(d o x:Nat):AO:=oq d (.df o (.t x))
abbrev Zg(d m o x:Nat):AO:=om d m (.df o (.t x))
abbrev Zi(d k x y:Nat):AO:=oq d (.cw (.slice k) (.t x) (.t y))
abbrev Zj(d m k x y:Nat):AO:=om d m (.cw (.slice k) (.t x) (.t y))
abbrev Zl(d x:Nat):AO:=oq d (ld x)
abbrev Zm(d m x:Nat):AO:=om d m (ld x)
abbrev Zc(d:Nat)(n:Int):AO:=oq d (.mv (ci n))
abbrev Zn(d x:Nat):AO:=oq d (.c9 (.t x))
abbrev Za(d x:Nat)(n:Int):AO:=oq d (bi .add (.t x) (ci n))
abbrev Zt(d x y:Nat):AO:=oq d (bi .lss (.t x) (.t y))
abbrev Ze(d x i:Nat):AO:=oq d (.extract (.t x) i)
abbrev Zd(d n x:Nat):AO:=oq d (.ld true n (.t x))
abbrev Zp(d c y:Nat):AO:=oq d (.pick (.t c) (.c (.bool true)) (.t y))
abbrev Zx(d s:Nat)(b:Bool)(m o x:Nat):AO:=og d s b m (.df o (.t x))
abbrev Zy(d s:Nat)(b:Bool)(m x:Nat):AO:=og d s b m (ld x)
abbrev Zu(d s:Nat)(b:Bool)(m x:Nat):AO:=og d s b m (.c9 (.t x))
abbrev Zb(d k x:Nat):AO:=⟨some d,.a (.box k (.t x)),none,0⟩
variable {fns:T cM}
def oD(fns:T cM)(c:AC)(A:bK)(S:St)(Q:Out->bK->St->Prop):Prop:=∃n o A' S',(ev fns n).code c A S=some (o,A',S')/\Q o A' S'
def eR(fns:T cM)(f:AV)(args:bo)(S:St)(Q:AV->St->Prop):Prop:=∃n v S',(ev fns n).call f args S=some (v,S')/\Q v S'
def pA(fns:T cM)(ops:List AO)(F:Fr)(S:St)(Q:Fr->St->Prop):Prop:=∃n F' S',kL ops (ev fns n).call F S=some (F',S')/\Q F' S'
theorem aX{c:AC}{A:bK}{S:St}{Q R:Out->bK->St->Prop}(h:oD fns c A S Q)(hq:∀o A S,Q o A S->R o A S):oD fns c A S R:=by
 have⟨n,o,A',S',h1,h2⟩:=h;exact⟨n,o,A',S',h1,hq _ _ _ h2⟩
theorem aG{f:AV}{args:bo}{S:St}{Q R:AV->St->Prop}(h:eR fns f args S Q)(hq:∀v S,Q v S->R v S):eR fns f args S R:=by
 have⟨n,v,S',h1,h2⟩:=h;exact⟨n,v,S',h1,hq _ _ h2⟩
theorem aDN{ops:List AO}{F:Fr}{S:St}{Q R:Fr->St->Prop}(h:pA fns ops F S Q)(hq:∀F S,Q F S->R F S):pA fns ops F S R:=by
 have⟨n,F',S',h1,h2⟩:=h;exact⟨n,F',S',h1,hq _ _ h2⟩
theorem aH{A:bK}{S:St}{Q:Out->bK->St->Prop}(h:Q .normal A S):oD fns .skip A S Q:=⟨1,_,_,_,rfl,h⟩
theorem bD{id:Nat}{A:bK}{S:St}{Q:Out->bK->St->Prop}(h:Q (.exit id) A S):oD fns (.exit id) A S Q:=⟨1,_,_,_,rfl,h⟩
theorem aI{A:bK}{S:St}{Q:Out->bK->St->Prop}(h:Q .ret A S):oD fns .ret A S Q:=⟨1,_,_,_,rfl,h⟩
def aAX(fns:T cM)(y:AC)(Q:Out->bK->St->Prop):Out->bK->St->Prop
 | .normal,A,S=>oD fns y A S Q
 | o,A,S=>Q o A S
theorem aC{x y:AC}{A:bK}{S:St}{Q:Out->bK->St->Prop}(h:oD fns x A S (aAX fns y Q)):oD fns (.seq x y) A S Q:=by
 have⟨n,o,A1,S1,h1,h2⟩:=h;cases o with
 | normal=>
  have⟨m,o,A2,S2,h3,h4⟩:=h2;refine⟨max n m+1,o,A2,S2,?_,h4⟩;show aU ((ev fns (max n m)).code x A S) (jT y (ev fns (max n m)))=_;rw[(oE fns (Nat.le_max_left n m)).code _ _ _ _ h1,aL];exact(oE fns (Nat.le_max_right n m)).code _ _ _ _ h3
 | ret=>
  refine⟨n+1,.ret,A1,S1,?_,h2⟩;show aU ((ev fns n).code x A S) (jT y (ev fns n))=_;rw[h1];rfl
 | exit i=>
  refine⟨n+1,.exit i,A1,S1,?_,h2⟩;show aU ((ev fns n).code x A S) (jT y (ev fns n))=_;rw[h1];rfl
theorem aLG{c:cL}{x y:AC}{A:bK}{S:St}{Q:Out->bK->St->Prop}{t:Bool}(hc:c.val A.F= .bool t)(h:oD fns (bM t x y) A S Q):oD fns (.cond c x y) A S Q:=by
 have⟨n,o,A1,S1,h1,h2⟩:=h;refine⟨n+1,o,A1,S1,?_,h2⟩;show pO (c.val A.F) x y (ev fns n) A S=_;rw[hc];exact h1
theorem iP{c:cL}{x y:AC}{A:bK}{S:St}{Q:Out->bK->St->Prop}{t:Bool}(hc:c.val A.F= .bool t)(h1:t=true->oD fns x A S Q)(h2:t=false->oD fns y A S Q):oD fns (.cond c x y) A S Q:=by
 refine aLG hc ?_;cases t
 ·exact h2 rfl
 ·exact h1 rfl
def vQ(id:Nat)(Q:Out->bK->St->Prop):Out->bK->St->Prop
 | .exit i,A,S=>if i=id then Q .normal A S else Q (.exit i) A S
 | o,A,S=>Q o A S
theorem aO{id:Nat}{c:AC}{A:bK}{S:St}{Q:Out->bK->St->Prop}(h:oD fns c A S (vQ id Q)):oD fns (.block id c) A S Q:=by
 have⟨n,o,A1,S1,h1,h2⟩:=h;cases o with
 | normal=>exact⟨n+1,.normal,A1,S1,by show aU ((ev fns n).code c A S) (iX id)=_;rw[h1];rfl,h2⟩
 | ret=>exact⟨n+1,.ret,A1,S1,by show aU ((ev fns n).code c A S) (iX id)=_;rw[h1];rfl,h2⟩
 | exit i=>
  by_cases hi:i=id
  ·subst hi;have h2:Q .normal A1 S1:=by simpa [vQ] using h2
   exact⟨n+1,.normal,A1,S1,by show aU ((ev fns n).code c A S) (iX i)=_;rw[h1];simp [aL,iX,bO,Av],h2⟩
  ·have h2:Q (.exit i) A1 S1:=by simpa [vQ,hi] using h2
   exact⟨n+1,.exit i,A1,S1,by show aU ((ev fns n).code c A S) (iX id)=_;rw[h1];simp [aL,iX,bO,Av,hi],h2⟩
def aBh(I:Nat->bK->St->Prop)(k:Nat)(Q:Out->bK->St->Prop):Out->bK->St->Prop
 | .normal,A,S=>∃k',k'<k/\I k' A S
 | o,A,S=>Q o A S
theorem bJ{c:AC}{Q:Out->bK->St->Prop}(I:Nat->bK->St->Prop)(h:∀k A S,I k A S->oD fns c A S (aBh I k Q)):∀k A S,I k A S->oD fns (.loop c) A S Q:=by
 intro k
 induction k using Nat.strongRecOn with
 | _ k ih=>
  intro A S hI;have⟨n,o,A1,S1,h1,h2⟩:=h k A S hI;cases o with
  | normal=>
   have⟨k',hk,hI'⟩:=h2;have⟨m,o,A2,S2,h3,h4⟩:=ih k' hk A1 S1 hI';refine⟨max n m+1,o,A2,S2,?_,h4⟩;show aU ((ev fns (max n m)).code c A S) (jT (.loop c) (ev fns (max n m)))=_;rw[(oE fns (Nat.le_max_left n m)).code _ _ _ _ h1,aL];exact(oE fns (Nat.le_max_right n m)).code _ _ _ _ h3
  | ret=>
   refine⟨n+1,.ret,A1,S1,?_,h2⟩;show aU ((ev fns n).code c A S) (jT (.loop c) (ev fns n))=_;rw[h1];rfl
  | exit i=>
   refine⟨n+1,.exit i,A1,S1,?_,h2⟩;show aU ((ev fns n).code c A S) (jT (.loop c) (ev fns n))=_;rw[h1];rfl
theorem aJ{ops:List AO}{A:bK}{S:St}{Q:Out->bK->St->Prop}(h:pA fns ops A.F S fun F' S'=>Q .normal ⟨F',A.inr⟩ S'):oD fns (.reg ops) A S Q:=by
 have⟨n,F',S',h1,h2⟩:=h;refine⟨n+1,.normal,⟨F',A.inr⟩,S',?_,h2⟩;show aU (kL ops (ev fns n).call A.F S) _=_;rw[h1];rfl
def aNB(res:List RV)(Q:AV->St->Prop):Out->bK->St->Prop
 | .exit _,_,_=>False
 | _,A,S=>∃vs,results res A.F S.h=some vs/\Q (oneOf vs) S
theorem bE{id nt:Nat}{res:List RV}{body:AC}{first cap args:bo}{S:St}{Q:AV->St->Prop}(hfn:fns.get id=some ⟨nt,res,body⟩)(hn:(first++(args++cap)).length<=nt)
  (h:oD fns body ⟨oY (first++(args++cap)) 0 .e,false⟩ S (aNB res Q)):eR fns (.fn id first cap) args S Q:=by
 have⟨n,o,A',S',h1,h2⟩:=h;have key:∀ (_:∃vs,results res A'.F S'.h=some vs/\Q (oneOf vs) S') (_:yW ⟨nt,res,body⟩ (o,A',S')=aU (results res A'.F S'.h) fun vs=>some (oneOf vs,S')),eR fns (.fn id first cap) args S Q:=by
  rintro⟨vs,h3,h4⟩ h5;refine⟨n+1,oneOf vs,S',?_,h4⟩;show aU (fns.get id) (fun fn=>mY fn (qP first (qP args cap)) (ev fns n) S)=_;rw[hfn,aL];unfold mY;rw[fB,fB,eQ,Ai hn,aP,h1,aL,h5,h3];rfl
 cases o with
 | normal=>exact key h2 rfl
 | ret=>exact key h2 rfl
 | exit i=>exact h2.elim
theorem fM{F:Fr}{S:St}{Q:Fr->St->Prop}:pA fns [] F S Q↔Q F S:=
 ⟨fun⟨_,_,_,h1,h2⟩=>by cases h1;exact h2,fun h=>⟨0,F,S,rfl,h⟩⟩
theorem aDg{o:AO}{l:List AO}{F F1:Fr}{S S1:St}{Q:Fr->St->Prop}(h:∀call,zZ o call F S=some (F1,S1))(hl:pA fns l F1 S1 Q):pA fns (o::l) F S Q:=by
 have⟨n,F',S',h1,h2⟩:=hl;refine⟨n,F',S',?_,h2⟩;rw[fC,h,aL];exact h1
theorem aMP{d:Option Nat}{q:QOp}{m:Nat}{l:List AO}{F:Fr}{S:St}{Q:Fr->St->Prop}{v:AV}(h:jK q F S.h=some v)(hl:pA fns l (cB d F v) S Q):pA fns (⟨d,.q q,none,m⟩::l) F S Q:=
 aDg (fun call=>by show aU (jK q F S.h) _=_;rw[h];rfl) hl
theorem aQK{d:Option Nat}{a:vH}{m:Nat}{l:List AO}{F:Fr}{S:St}{Q:Fr->St->Prop}{v:AV}{bl:AB}(h:vC a F S.nx=some (v,bl))(hl:pA fns l (cB d F v) ⟨S.h.set S.nx (some bl),S.nx+1⟩ Q):pA fns (⟨d,.a a,none,m⟩::l) F S Q:=
 aDg (fun call=>by show aU (vC a F S.nx) _=_;rw[h];rfl) hl
theorem gB{d:Option Nat}{x:XOp}{m:Nat}{l:List AO}{F:Fr}{S S1:St}{Q:Fr->St->Prop}{v:AV}(h:∀call,xX x call F S=some (v,S1))(hl:pA fns l (cB d F v) S1 Q):pA fns (⟨d,.x x,none,m⟩::l) F S Q:=
 aDg (fun call=>by show aU (xX x call F S) _=_;rw[h];rfl) hl
theorem aK{d:Option Nat}{f:cL}{args:List cL}{m:Nat}{l:List AO}{F:Fr}{S:St}{Q:Fr->St->Prop}(h:eR fns (f.val F) (cO args F) S fun v S1=>pA fns l (cB d F v) S1 Q):pA fns (⟨d,.x (.call f args),none,m⟩::l) F S Q:=by
 have⟨n,v,S1,h1,k,F',S',h2,h3⟩:=h;refine⟨max n k,F',S',?_,h3⟩;rw[fC];have:zZ ⟨d,.x (.call f args),none,m⟩ (ev fns (max n k)).call F S=some (cB d F v,S1):=by
  show aU ((ev fns (max n k)).call (f.val F) (cO args F) S) _=_;rw[(oE fns (Nat.le_max_left n k)).call _ _ _ _ h1];rfl
 rw[this,aL];exact zQ (oE fns (Nat.le_max_right n k)).call h2
theorem eO(i:Nat)(F:Fr):(cL.t i).val F=aD i F:=rfl
theorem mM(v:AV)(F:Fr):(cL.c v).val F=v:=rfl
theorem fZ(F:Fr)(v:AV):cB none F v=F:=rfl
theorem bG(i j:Nat)(F:Fr)(v:AV):aD i (cB (some j) F v)=if i=j then v else aD i F:=by
 show aD i (F.set j (some v))=_;unfold aD;rw[dr];split<;>rfl
end Go.Ev
namespace Go.Ev
variable {fns:T cM}
theorem aNf{tbl:List (Nat×Nat×Option (Bool×Nat))}{recv:cL}{args:List cL}{F:Fr}{t f:Nat}{v:AV}(hr:recv.val F= .iface t v)(hf:wU t tbl=some (f,none))(call:dK)(S:St):xX (.inv tbl recv args) call F S=xX (.call (.c (.fn f [v] [])) args) call F S:=by
 show aDs (recv.val F) tbl (cO args F) call S=call (.fn f [v] []) (cO args F) S;rw[hr];show aU (wU t tbl) (fun r=>aFV r v (cO args F) call S)=_;rw[hf,aL];rfl
end Go.Ev
namespace Go.Ev
def Same(S S':St):Prop:=S.nx<=S'.nx/\∀b,b<S.nx->S'.h.get b=S.h.get b
theorem Same.refl(S:St):Same S S:=⟨Af _,fun _ _=>rfl⟩
theorem Same.trans{S S' S'':St}(h:Same S S')(h':Same S' S''):Same S S'':=⟨Bd h.1 h'.1,fun b hb=>(h'.2 b (Ag hb h.1)).trans (h.2 b hb)⟩
theorem Same.alloc(S:St)(bl:AB):Same S ⟨S.h.set S.nx (some bl),S.nx+1⟩:=⟨Nat.le_succ _,fun b hb=>by simp only;rw[dr,if_neg au]⟩
theorem Same.put{S S':St}{b:Nat}(h:Same S S')(hb:S.nx<=b)(x:Option AB):Same S ⟨S'.h.set b x,S'.nx⟩:=⟨h.1,fun c hc=>by simp only;rw[dr,if_neg au];exact h.2 c hc⟩
def dE(k:IntKind)(S:St)(v:AV)(l:bm):Prop:=
 (l= []/\(v= .cd\/v= .emp))\/∃b off cap o cs,v= .sl b off l.length cap o/\l.length<=cap/\b<S.nx/\bU S.h b=some cs/\∀i x,l[i]? =some x->cs[off+i]? =some (.int k x)
theorem uW{S S':St}(h:Same S S'){b:Nat}(hb:b<S.nx):bU S'.h b=bU S.h b:=by unfold bU;rw[h.2 b hb]
theorem dE.same{k:IntKind}{S S':St}{v:AV}{l:bm}(h:dE k S v l)(hs:Same S S'):dE k S' v l:=by
 rcases h with h | ⟨b,off,cap,o,cs,h1,hc,h2,h3,h4⟩
 ·exact .inl h
 ·exact .inr ⟨b,off,cap,o,cs,h1,hc,Ag h2 hs.1,by rw[uW hs h2];exact h3,h4⟩
theorem dE.len{k:IntKind}{S:St}{v:AV}{l:bm}(h:dE k S v l):kT v=some (.int .i64 (.ofNat l.length)):=by
 rcases h with⟨rfl,rfl | rfl⟩ | ⟨b,off,cap,o,cs,rfl,_⟩<;>rfl
def nC(v:AV)(i:Nat):AV:=
 match v with
 | .sl b off _ _ _=>.ptr b (off+i * 1)
 | _=>.undef
theorem dE.cw{k:IntKind}{S:St}{v:AV}{l:bm}(h:dE k S v l){i:Nat}(hi:i<l.length):dN (.slice 1) v i=some (nC v i):=by
 rcases h with⟨rfl,_⟩ | ⟨b,off,cap,o,cs,rfl,_⟩
 ·simp at hi
 ·simp only[dN,nC];have:Nat.blt i l.length=true:=Ai hi;rw[this,aP]
theorem dE.ld{k:IntKind}{S:St}{v:AV}{l:bm}(h:dE k S v l){i:Nat}(hi:i<l.length):cT (nC v i) false 1 S.h=some (.int k (l.getD i 0)):=by
 rcases h with⟨rfl,_⟩ | ⟨b,off,cap,o,cs,rfl,hc,hb,hcs,hel⟩
 ·simp at hi
 ·simp only[nC,cT,iO,aS,jE,hcs,aL,jI,Bp];rw[hel i l[i] (Ad hi)];simp [Ae,hi]
theorem kN(e:oZ)(k:IntKind)(a b:Int):kH .add e (.int k a) (.int k b)=some (.int k (k.wrap (a+b))):=by
 show cQ .add k a k b=_;unfold cQ;rw[show eZ .add=false from rfl,aS,fQ,aP];show some (AV.int k (aMH k a b))=_;rw[aG1]
theorem lI(e:oZ)(k:IntKind)(a b:Int):kH .sub e (.int k a) (.int k b)=some (.int k (k.wrap (a - b))):=by
 show cQ .sub k a k b=_;unfold cQ;rw[show eZ .sub=false from rfl,aS,fQ,aP];show some (AV.int k (aEY k a b))=_;rw[wA]
theorem lD(e:oZ)(k:IntKind)(a b:Int):kH .mul e (.int k a) (.int k b)=some (.int k (k.wrap (a * b))):=by
 show cQ .mul k a k b=_;unfold cQ;rw[show eZ .mul=false from rfl,aS,fQ,aP];show some (AV.int k (aGD k a b))=_;rw[aAG]
theorem aF9(e:oZ)(k:IntKind)(a b:Int):kH .lss e (.int k a) (.int k b)=some (.bool (decide (a<b))):=by
 show cQ .lss k a k b=_;unfold cQ;rw[show eZ .lss=false from rfl,aS,fQ,aP];show some (AV.bool (bM (ile b a) false true))=_;rw[qB,rK];congr 2;rw[Cu];simp
theorem aF3(e:oZ)(k:IntKind)(a b:Int):kH .leq e (.int k a) (.int k b)=some (.bool (decide (a<=b))):=by
 show cQ .leq k a k b=_;unfold cQ;rw[show eZ .leq=false from rfl,aS,fQ,aP];show some (AV.bool (ile a b))=_;rw[qB]
theorem aFB(e:oZ)(k:IntKind)(a b:Int):kH .gtr e (.int k a) (.int k b)=some (.bool (decide (b<a))):=by
 show cQ .gtr k a k b=_;unfold cQ;rw[show eZ .gtr=false from rfl,aS,fQ,aP];show some (AV.bool (bM (ile a b) false true))=_;rw[qB,rK];congr 2;rw[Cu];simp
theorem aGc(e:oZ)(k:IntKind)(a b:Int):kH .geq e (.int k a) (.int k b)=some (.bool (decide (b<=a))):=by
 show cQ .geq k a k b=_;unfold cQ;rw[show eZ .geq=false from rfl,aS,fQ,aP];show some (AV.bool (ile b a))=_;rw[qB]
theorem aCr(e:oZ)(k:IntKind)(a b:Int):kH .eql e (.int k a) (.int k b)=some (.bool (decide (a=b))):=by
 show cQ .eql k a k b=_;unfold cQ;rw[show eZ .eql=false from rfl,aS,fQ,aP];show some (AV.bool (ieq a b))=_;rw[mD];congr 2
theorem aFq(e:oZ)(k:IntKind)(a b:Int):kH .neq e (.int k a) (.int k b)=some (.bool (decide (a≠b))):=by
 show cQ .neq k a k b=_;unfold cQ;rw[show eZ .neq=false from rfl,aS,fQ,aP];show some (AV.bool (bM (ieq a b) false true))=_;rw[mD,rK];congr 2;rw[Cu];simp
section
variable (F:Fr)(h:T AB)
theorem iU(x:cL):jK (.mv x) F h=some (x.val F):=rfl
theorem gO(op:BinOp)(e:oZ)(x y:cL):jK (.bin op e x y) F h=kH op e (x.val F) (y.val F):=rfl
theorem aIb(op:UnOp)(x:cL):jK (.un op x) F h=unV op (x.val F):=rfl
theorem nK(x:cL):jK (.c9 x) F h=kT (x.val F):=rfl
theorem fA(k:IxK)(x ix:cL):jK (.cw k x ix) F h=aU (dY (ix.val F)) fun i=>dN k (x.val F) i:=rfl
theorem gI(agg:Bool)(n:Nat)(x:cL):jK (.ld agg n x) F h=cT (x.val F) agg n h:=rfl
theorem gT(k:aGH)(x:cL):jK (.conv k x) F h=aAq k (x.val F) h:=rfl
theorem wE(x:cL)(i:Nat):jK (.extract x i) F h=lQ (x.val F) i:=rfl
theorem aDh(c a b:cL):jK (.pick c a b) F h=wZ (c.val F) a b F:=rfl
theorem aFZ(agg:Bool)(off n:Nat)(x:cL):jK (.fld agg off n x) F h=aKb (x.val F) agg off n:=rfl
end
theorem aQ(k:IntKind)(n:Nat):dY (.int k (n:Int))=some n:=rfl
theorem hJ(k j:IntKind)(n:Int)(h:T AB):aAq (.int k) (.int j n) h=some (.int k (k.wrap n)):=by
 show some (AV.int k (aET k n))=_;rw[tB]
end Go.Ev
namespace Go.Ev
variable {fns:T cM}
def lM{α:Type}(x:Option α)(Q:α->Prop):Prop:=∃a,x=some a/\Q a
theorem bX{α:Type}(a:α)(Q:α->Prop):lM (some a) Q=Q a:=propext ⟨fun⟨_,h1,h2⟩=>by cases h1;exact h2,fun h=>⟨a,rfl,h⟩⟩
theorem jG{d:Option Nat}{q:QOp}{m:Nat}{l:List AO}{F:Fr}{S:St}{Q:Fr->St->Prop}:pA fns (⟨d,.q q,none,m⟩::l) F S Q↔lM (jK q F S.h) fun v=>pA fns l (cB d F v) S Q:=by
 constructor
 ·rintro⟨n,F',S',h1,h2⟩;rw[fC] at h1;have⟨r,h3,h4⟩:=aA h1;have⟨v,h5,h6⟩:=aA (show aU (jK q F S.h) (fun v=>some (cB d F v,S))=some r from h3);cases h6;exact⟨v,h5,n,F',S',h4,h2⟩
 ·rintro⟨v,h1,h2⟩;exact aMP h1 h2
theorem sA{d:Option Nat}{a:vH}{m:Nat}{l:List AO}{F:Fr}{S:St}{Q:Fr->St->Prop}:pA fns (⟨d,.a a,none,m⟩::l) F S Q↔lM (vC a F S.nx) fun r=>pA fns l (cB d F r.1) ⟨S.h.set S.nx (some r.2),S.nx+1⟩ Q:=by
 constructor
 ·rintro⟨n,F',S',h1,h2⟩;rw[fC] at h1;have⟨r,h3,h4⟩:=aA h1;have⟨v,h5,h6⟩:=aA (show aU (vC a F S.nx) (fun r=>some (cB d F r.1,(⟨S.h.set S.nx (some r.2),Nat.succ S.nx⟩:St)))=some r from h3);cases h6;exact⟨v,h5,n,F',S',h4,h2⟩
 ·rintro⟨⟨v,bl⟩,h1,h2⟩;exact aQK h1 h2
def wpd(fns:T cM)(ops:List AO)(i base:Nat)(D:DS)(Q:DS->Prop):Prop:=∃n D',pY ops i base (ev fns n).call D=some D'/\Q D'
theorem rB{ops:List AO}{A:bK}{S:St}{Q:Out->bK->St->Prop}(h:wpd fns ops 0 S.nx ⟨A.F,⟨S.h,S.nx+ops.length⟩,[],[],[]⟩ fun D=>gM S.h D.hs.reverse D.ls=true/\Q .normal ⟨D.F,A.inr⟩ ⟨(cA (2 ^ ops.length - 1) D.ps D.S.h).2,D.S.nx⟩):oD fns (.drw ops) A S Q:=by
 have⟨n,D,h1,h2,h3⟩:=h;refine⟨n+1,.normal,⟨D.F,A.inr⟩,⟨(cA (2 ^ ops.length - 1) D.ps D.S.h).2,D.S.nx⟩,?_,h3⟩;show aU (aU (pY ops 0 S.nx (ev fns n).call ⟨A.F,⟨S.h,S.nx+kG ops⟩,[],[],[]⟩) fun D=>sK S.h (kG ops) D) _=_;rw[eQ,h1,aL];unfold sK;rw[h2,aP];rfl
theorem mT{i base:Nat}{D:DS}{Q:DS->Prop}:wpd fns [] i base D Q↔Q D:=
 ⟨fun⟨_,_,h1,h2⟩=>by cases h1;exact h2,fun h=>⟨0,D,rfl,h⟩⟩
theorem pP{d:Option Nat}{q:QOp}{m i base:Nat}{l:List AO}{D:DS}{Q:DS->Prop}:wpd fns (⟨d,.q q,none,m⟩::l) i base D Q↔
  lM (jK q D.F D.S.h) fun v=>wpd fns l (i+1) base ⟨cB d D.F v,D.S,D.ps,D.hs,bM (dU q) (⟨q,D.F,v,i,m⟩::D.ls) D.ls⟩ Q:=by
 constructor
 ·rintro⟨n,D',h1,h2⟩;have⟨r,h3,h4⟩:=aA (show aU (rT ⟨d,.q q,none,m⟩ i base (ev fns n).call D) (fun D'=>pY l (i+1) base (ev fns n).call D')=some D' from h1);have⟨v,h5,h6⟩:=aA (show aU (jK q D.F D.S.h) (fun v=>some (⟨cB d D.F v,D.S,D.ps,D.hs,bM (dU q) (⟨q,D.F,v,i,m⟩::D.ls) D.ls⟩:DS))=some r from h3);cases h6;exact⟨v,h5,n,D',h4,h2⟩
 ·rintro⟨v,h1,n,D',h2,h3⟩;refine⟨n,D',?_,h3⟩;show aU (aU (jK q D.F D.S.h) _) _=_;rw[h1];exact h2
theorem aI3{d:Option Nat}{a:vH}{m i base:Nat}{l:List AO}{D:DS}{Q:DS->Prop}:wpd fns (⟨d,.a a,none,m⟩::l) i base D Q↔
  lM (vC a D.F (base+i)) fun r=>wpd fns l (i+1) base ⟨cB d D.F r.1,D.S,⟨i,base+i,r.2⟩::D.ps,D.hs,D.ls⟩ Q:=by
 constructor
 ·rintro⟨n,D',h1,h2⟩;have⟨r,h3,h4⟩:=aA (show aU (rT ⟨d,.a a,none,m⟩ i base (ev fns n).call D) (fun D'=>pY l (i+1) base (ev fns n).call D')=some D' from h1);have⟨v,h5,h6⟩:=aA (show aU (vC a D.F (base+i)) (fun r=>some (⟨cB d D.F r.1,D.S,⟨i,base+i,r.2⟩::D.ps,D.hs,D.ls⟩:DS))=some r from h3);cases h6;exact⟨v,h5,n,D',h4,h2⟩
 ·rintro⟨r,h1,n,D',h2,h3⟩;refine⟨n,D',?_,h3⟩;show aU (aU (vC a D.F (base+i)) _) _=_;rw[h1];exact h2
theorem sT{d:Option Nat}{x:XOp}{m i base:Nat}{l:List AO}{D:DS}{Q:DS->Prop}{v:AV}{S1:St}(hl:jB D.hs m=true)(h:∀call,xX x call D.F ⟨(cA m D.ps D.S.h).2,D.S.nx⟩=some (v,S1))
  (hq:wpd fns l (i+1) base ⟨cB d D.F v,S1,(cA m D.ps D.S.h).1,(i,m,S1.h)::D.hs,D.ls⟩ Q):wpd fns (⟨d,.x x,none,m⟩::l) i base D Q:=by
 have⟨n,D',h2,h3⟩:=hq;refine⟨n,D',?_,h3⟩;show aU (bM (jB D.hs m) (aU (xX x (ev fns n).call D.F ⟨(cA m D.ps D.S.h).2,D.S.nx⟩) _) none) _=_;rw[hl,aP,h];exact h2
theorem aCK{d:Option Nat}{f:cL}{args:List cL}{m i base:Nat}{l:List AO}{D:DS}{Q:DS->Prop}(hl:jB D.hs m=true)
  (h:eR fns (f.val D.F) (cO args D.F) ⟨(cA m D.ps D.S.h).2,D.S.nx⟩ fun v S1=>wpd fns l (i+1) base ⟨cB d D.F v,S1,(cA m D.ps D.S.h).1,(i,m,S1.h)::D.hs,D.ls⟩ Q):wpd fns (⟨d,.x (.call f args),none,m⟩::l) i base D Q:=by
 have⟨n,v,S1,h1,k,D',h2,h3⟩:=h;refine⟨max n k,D',?_,h3⟩;show aU (bM (jB D.hs m) (aU ((ev fns (max n k)).call (f.val D.F) (cO args D.F) ⟨(cA m D.ps D.S.h).2,D.S.nx⟩) _) none) _=_;rw[hl,aP,(oE fns (Nat.le_max_left n k)).call _ _ _ _ h1];exact sO (oE fns (Nat.le_max_right n k)).call h2
theorem fS(k:IntKind)(a:Int):cC (.int k a) (.int k a)=true:=by simp [cC,bO,fQ,mD]
theorem tK(a:Bool):cC (.bool a) (.bool a)=true:=by simp [cC,uQ]
theorem aDq(a b:Nat):cC (.ptr a b) (.ptr a b)=true:=by simp [cC,bO,Av]
theorem tS(a b c d:Nat)(o:Bool):cC (.sl a b c d o) (.sl a b c d o)=true:=by simp [cC,Av,uQ]
theorem zX:cC .cd .cd=true:=rfl
end Go.Ev
namespace Go.Ev
def kO(S:St):Prop:=∀b,S.nx<=b->S.h.get b=none
def lO(S S':St):Prop:=(kO S->kO S')/\S.nx<=S'.nx
theorem lO.refl(S:St):lO S S:=⟨id,Af _⟩
theorem lO.trans{S S' S'':St}(h:lO S S')(h':lO S' S''):lO S S'':=⟨fun f=>h'.1 (h.1 f),Bd h.2 h'.2⟩
theorem kO.lt{S:St}(h:kO S){b:Nat}{bl:AB}(hb:S.h.get b=some bl):b<S.nx:=by
 rcases Be b S.nx with h1 | h1
 ·exact h1
 ·rw[h b h1] at hb;cases hb
theorem pH{S:St}{b:Nat}{bl:AB}(hb:S.h.get b=some bl)(x:Option AB):lO S ⟨S.h.set b x,S.nx⟩:=
 ⟨fun h c hc=>by have:=h.lt hb;simp only at hc ⊢;rw[dr,if_neg au];exact h c hc,Af _⟩
theorem aLo{S:St}(b:Nat):lO S ⟨S.h.set b none,S.nx⟩:=
 ⟨fun h c hc=>by simp only at hc ⊢;rw[dr];split;rfl;exact h c hc,Af _⟩
theorem oC(S:St)(x:Option AB):lO S ⟨S.h.set S.nx x,S.nx+1⟩:=
 ⟨fun h c hc=>by simp only at hc ⊢;rw[dr,if_neg au];exact h c au,Nat.le_succ _⟩
theorem qE{S S':St}{b off:Nat}{vs:bo}(h:lN S b off vs=some S'):lO S S':=by
 unfold lN at h;have⟨bl,hb,h⟩:=aA h;unfold qA at h;split at h
 ·have⟨cs,_,h⟩:=aA h;cases h;exact pH hb _
 ·cases h
def zM(c:dK):Prop:=∀f args S v S',c f args S=some (v,S')->lO S S'
structure aMf(e:Evs):Prop where
 code:∀c A S o A' S',e.code c A S=some (o,A',S')->lO S S'
 call:zM e.call
theorem xE{S:St}{need size:Nat}{cs:bo}{v:AV}{S':St}(h:grown S.h S.nx need size cs=some (v,S')):lO S S':=by
 unfold grown at h;cases h;exact oC S _
theorem aMF{s:AV}{bytes size n:Nat}{new:bo}{S S':St}{v:AV}(h:aAo s bytes size n new S=some (v,S')):lO S S':=by
 unfold aAo at h;split at h
 ·unfold nV at h;rw[bO] at h;split at h
  ·cases h;exact lO.refl _
  ·have⟨_,h⟩:=bB h;have⟨_,h⟩:=bB h;exact xE h
 ·have⟨_,h⟩:=bB h;cases h;exact lO.refl _
 ·unfold tP at h;rw[bO] at h;split at h
  ·rw[bO] at h;split at h
   ·cases h;exact lO.refl _
   ·have⟨S1,h1,h⟩:=aA h;cases h;exact qE h1
  ·have⟨_,h⟩:=bB h;have⟨_,h⟩:=bB h;have⟨bl,hb,h⟩:=aA h;unfold aEz at h;split at h
   ·have⟨old,_,h⟩:=aA h;rw[bO] at h;split at h
    ·have⟨_,h⟩:=bB h;have⟨_,h⟩:=bB h;have⟨_,h⟩:=bB h;exact lO.trans (aLo (S:=S) _) (xE (S:=⟨_,S.nx⟩) h)
    ·exact xE h
   ·obtain⟨_,h⟩:_/\_:=by
     rw[bO] at h;split at h
     ·cases h
     ·exact⟨trivial,h⟩
    have⟨old,_,h⟩:=aA h;exact xE h
   ·cases h
 ·cases h
theorem aJh{c:dK}(hc:zM c){x:XOp}{F:Fr}{S S':St}{v:AV}(h:xX x c F S=some (v,S')):lO S S':=by
 cases x with
 | st n x v=>
  have⟨cs,_,h⟩:=aA (show aU _ _=_ from h);unfold oT at h;split at h
  ·have⟨_,h⟩:=bB h;have⟨S1,h1,h⟩:=aA h;cases h;exact qE h1
  ·cases h
 | call f args=>exact hc _ _ _ _ _ h
 | inv tbl recv args=>
  have h:aDs (recv.val F) tbl (cO args F) c S=some (v,S'):=h;unfold aDs at h;split at h
  ·have⟨r,_,h⟩:=aA h;unfold aFV at h;split at h
   ·exact hc _ _ _ _ _ h
   ·unfold aCy at h;split at h
    ·have⟨_,_,h⟩:=aA h;exact hc _ _ _ _ _ h
    ·cases h
  ·cases h
 | app t size bytes s x=>
  have h:iK bytes size (s.val F) (x.val F) S=some (v,S'):=h;unfold iK at h;have⟨n,_,h⟩:=aA h;have⟨new,_,h⟩:=aA h;exact aMF h
 | copy size d s=>
  have⟨m,_,h⟩:=aA (show aU (zR (s.val F)) (fun m=>copyV (d.val F) size m (s.val F) S)=_ from h);unfold copyV at h;split at h
  ·cases h;exact lO.refl _
  ·cases h;exact lO.refl _
  ·simp only[bO] at h;split at h
   ·split at h
    ·cases h;exact lO.refl _
    ·have⟨_,_,h⟩:=aA h;have⟨S1,h1,h⟩:=aA h;cases h;exact qE h1
   ·split at h
    ·cases h;exact lO.refl _
    ·have⟨_,_,h⟩:=aA h;have⟨S1,h1,h⟩:=aA h;cases h;exact qE h1
  ·cases h
 | mapUpd sk m k v'=>
  have h:uO (m.val F) sk (k.val F) (v'.val F) S=some (v,S'):=h;unfold uO at h;split at h
  ·have⟨es,he,h⟩:=aA h;have⟨bl,hb,_⟩:=aA he;have⟨r,_,h⟩:=aA h;cases h;exact pH hb _
  ·cases h
 | mapDel sk m k=>
  have h:aA2 (m.val F) sk (k.val F) S=some (v,S'):=h;unfold aA2 at h;split at h
  ·have⟨es,he,h⟩:=aA h;have⟨bl,hb,_⟩:=aA he;have⟨r,_,h⟩:=aA h;unfold aJG at h;split at h
   ·cases h;exact pH hb _
   ·cases h;exact lO.refl _
  ·cases h;exact lO.refl _
  ·cases h
 | clr zero x=>
  have h:aIc (x.val F) zero S=some (v,S'):=h;unfold aIc at h;split at h
  ·cases h;exact lO.refl _
  ·cases h;exact lO.refl _
  ·rw[bO] at h;split at h
   ·cases h;exact lO.refl _
   ·have⟨S1,h1,h⟩:=aA h;cases h;exact qE h1
  ·cases h
 | ext k args=>
  have⟨r,_,h⟩:=aA (show aU _ _=_ from h);cases h;exact lO.refl _
 | bad=>cases h
theorem aM7{c:dK}(hc:zM c){o:AO}{F F':Fr}{S S':St}(h:zZ o c F S=some (F',S')):lO S S':=by
 unfold zZ at h;rw[bO] at h;split at h
 ·cases ho:o.op with
  | q q=>
   rw[ho] at h;have⟨v,_,h⟩:=aA (show aU _ _=_ from h);cases h;exact lO.refl _
  | a a=>
   rw[ho] at h;have⟨r,_,h⟩:=aA (show aU _ _=_ from h);cases h;exact oC S _
  | x x=>
   rw[ho] at h;have⟨r,hr,h⟩:=aA (show aU (xX x c F S) _=_ from h);cases h;exact aJh hc hr
 ·cases h;exact lO.refl _
theorem aEE{c:dK}(hc:zM c):∀ {l:List AO} {F F':Fr} {S S':St},kL l c F S=some (F',S')->lO S S'
 | [],F,F',S,S',h=>by cases h;exact lO.refl _
 | o::l,F,F',S,S',h=>by
  have⟨⟨F1,S1⟩,h1,h2⟩:=aA (show aU (zZ o c F S) (fun r=>kL l c r.1 r.2)=some (F',S') from h);exact(aM7 hc h1).trans (aEE hc h2)
theorem xO{S:St}{m:Nat}:∀ {ps:List kQ} {h:T AB},(∀p∈ps,p.id<S.nx)->lO ⟨h,S.nx⟩ ⟨(cA m ps h).2,S.nx⟩/\∀p∈(cA m ps h).1,p.id<S.nx
 | [],h,_=>⟨lO.refl _,fun p hp=>(by cases hp)⟩
 | p::ps,h,hp=>by
  have h1:=hp p (by simp);have h2:∀q∈ps,q.id<S.nx:=fun q hq=>hp q (by simp [hq]);unfold cA;cases Nat.testBit m p.i with
  | true=>
   rw[aP];have ih:=xO (S:=S) (m:=m) (h:=h.set p.id (some p.b)) h2;have k:lO ⟨h,S.nx⟩ ⟨h.set p.id (some p.b),S.nx⟩:=⟨fun f c hc=>by
    simp only at hc ⊢;rw[dr,if_neg au];exact f c hc,Af _⟩
   exact⟨k.trans ih.1,ih.2⟩
  | false=>
   rw[aS];have ih:=xO (S:=S) (m:=m) (h:=h) h2;refine⟨ih.1,fun q hq=>?_⟩;rcases Br.1 hq with rfl | hq
   ·exact h1
   ·exact ih.2 q hq
theorem aHP{c:dK}(hc:zM c){base N:Nat}:∀ {l:List AO} {i:Nat} {D D':DS},i+l.length<=N->base+N<=D.S.nx->(∀p∈D.ps,p.id<D.S.nx)->pY l i base c D=some D'->lO D.S D'.S/\∀p∈D'.ps,p.id<D'.S.nx
 | [],i,D,D',_,_,hp,h=>by cases h;exact⟨lO.refl _,hp⟩
 | o::l,i,D,D',hi,hb,hp,h=>by
  have⟨D1,h1,h2⟩:=aA (show aU (rT o i base c D) (fun D'=>pY l (i+1) base c D')=some D' from h);simp only[Ax] at hi;have key:lO D.S D1.S/\∀p∈D1.ps,p.id<D1.S.nx:=by
   unfold rT at h1;rw[bO] at h1;split at h1
   ·cases ho:o.op with
    | q q=>
     rw[ho] at h1;have⟨v,_,h⟩:=aA (show aU _ _=_ from h1);cases h;exact⟨lO.refl _,hp⟩
    | a a=>
     rw[ho] at h1;have⟨r,_,h⟩:=aA (show aU _ _=_ from h1);cases h;refine⟨lO.refl _,fun p hq=>?_⟩;rcases Br.1 hq with rfl | hq
     ·simp only;omega
     ·exact hp p hq
    | x x=>
     rw[ho] at h1;have⟨_,h1⟩:=bB (show bM (jB D.hs o.mask) _ none=some D1 from h1);have⟨r,hr,h⟩:=aA h1;cases h;have hf:=xO (S:=D.S) (m:=o.mask) (h:=D.S.h) hp;have hx:=aJh hc hr;exact⟨hf.1.trans hx,fun p hq=>Ag (hf.2 p hq) hx.2⟩
   ·cases h1;exact⟨lO.refl _,hp⟩
  have ih:=aHP hc (i:=i+1) (D:=D1) au (Bd hb key.1.2) key.2 h2;exact⟨key.1.trans ih.1,ih.2⟩
theorem aGs{c:dK}(hc:zM c){l:List AO}{F F':Fr}{S S':St}(h:mL l c F S=some (F',S')):lO S S':=by
 have⟨D,h1,h2⟩:=aA (show aU _ _=_ from h);rw[eQ] at h1;have hd:=aHP hc (N:=l.length) au (by simp only;omega) (fun p hp=>by cases hp) h1;unfold sK at h2;have⟨_,h2⟩:=bB h2;cases h2;have hf:=xO (S:=D.S) (m:=2 ^ kG l - 1) (h:=D.S.h) hd.2;have h0:lO S ⟨S.h,S.nx+l.length⟩:=⟨fun f c hcc=>f c (by simp only at hcc;omega),Nat.le_add_right _ _⟩;exact h0.trans (hd.1.trans hf.1)
theorem aIe{e:Evs}(he:aMf e){c:AC}{A A':bK}{S S':St}{o:Out}(h:aFX c e A S=some (o,A',S')):lO S S':=by
 have seqF:∀ {x y:AC},aU (e.code x A S) (jT y e)=some (o,A',S')->lO S S':=fun {x y} h=>by
  have⟨⟨o1,A1,S1⟩,h1,h2⟩:=aA h;unfold jT at h2;split at h2
  ·exact(he.code _ _ _ _ _ _ h1).trans (he.code _ _ _ _ _ _ h2)
  ·cases h2;exact he.code _ _ _ _ _ _ h1
 cases c with
 | skip=>cases h;exact lO.refl _
 | seq x y=>exact seqF h
 | cond x y z=>
  have h:pO (x.val A.F) y z e A S=some (o,A',S'):=h;unfold pO at h;split at h
  ·exact he.code _ _ _ _ _ _ h
  ·cases h
 | block id x=>
  have⟨⟨o1,A1,S1⟩,h1,h2⟩:=aA (show aU (e.code x A S) (iX id)=_ from h);unfold iX at h2;split at h2
  ·rw[bO] at h2;split at h2<;>(cases h2;exact he.code _ _ _ _ _ _ h1)
  ·cases h2;exact he.code _ _ _ _ _ _ h1
 | loop x=>exact seqF h
 | exit id=>cases h;exact lO.refl _
 | ret=>cases h;exact lO.refl _
 | reg ops=>
  have⟨⟨F1,S1⟩,h1,h2⟩:=aA (show aU (kL ops e.call A.F S) _=_ from h);cases h2;exact aEE he.call h1
 | drw ops=>
  have⟨⟨F1,S1⟩,h1,h2⟩:=aA (show aU (mL ops e.call A.F S) _=_ from h);cases h2;exact aGs he.call h1
 | rng f ps as bd=>
  have h:aKi f ps as bd e A S=some (o,A',S'):=h;unfold aKi at h;rw[bO] at h;split at h
  ·cases h
  ·have⟨_,h⟩:=bB h;have⟨⟨v,S1⟩,h1,h⟩:=aA h;have⟨bl,hb,h⟩:=aA h;have k1:=(oC S (some (.loop .ready none A.F ps as bd))).trans (he.call _ _ _ _ _ h1);unfold aDt at h;split at h
   ·split at h
    ·cases h
    ·have⟨cc,_,h⟩:=aA h;exact k1.trans ((pH (S:=S1) hb _).trans (he.code _ _ _ _ _ _ h))
   ·cases h
 | dfr ops f args=>cases h
theorem aIn{fns:T cM}{e:Evs}(he:aMf e):zM (oR fns e):=by
 intro f args S v S' h;unfold oR at h;split at h
 ·have⟨fn,_,h⟩:=aA h;unfold mY at h;have⟨_,h⟩:=bB h;have⟨⟨o,A,S1⟩,h1,h2⟩:=aA h;unfold yW at h2;split at h2
  ·cases h2
  ·have⟨vs,_,h3⟩:=aA h2;cases h3;exact he.code _ _ _ _ _ _ h1
 ·have⟨bl,hb,h⟩:=aA h;unfold zG at h;split at h
  ·have⟨F,_,h⟩:=aA h;have⟨⟨o1,A1,S1⟩,h1,h⟩:=aA h;unfold aCj at h;split at h
   ·have⟨bl2,hb2,h⟩:=aA h;unfold qT at h;split at h
    ·unfold aEP at h;have⟨⟨o2,A2,S2⟩,h2,h⟩:=aA h;have⟨bl3,hb3,h⟩:=aA h;have k:=(he.code _ _ _ _ _ _ h1).trans ((pH (S:=S1) hb2 _).trans (he.code _ _ _ _ _ _ h2));unfold aA7 at h;split at h
     ·split at h
      ·cases h;exact k.trans (pH (S:=S2) hb3 _)
      ·cases h;exact k.trans (pH (S:=S2) hb3 _)
     ·cases h
    ·cases h
   ·cases h
  ·cases h
 ·cases h
theorem aGb(fns:T cM):∀n,aMf (ev fns n)
 | 0=>⟨fun c A S o A' S' (h:none=some _)=>(by cases h),fun f args S v S' (h:none=some _)=>(by cases h)⟩
 | n+1=>⟨fun _ _ _ _ _ _ h=>aIe (aGb fns n) h,aIn (aGb fns n)⟩
theorem fT{fns:T cM}{f:AV}{args:bo}{S:St}{Q:AV->St->Prop}(h:eR fns f args S Q):eR fns f args S fun v S'=>Q v S'/\lO S S':=by
 have⟨n,v,S',h1,h2⟩:=h;exact⟨n,v,S',h1,h2,(aGb fns n).call _ _ _ _ _ h1⟩
theorem aBC{fns:T cM}{c:AC}{A:bK}{S:St}{Q:Out->bK->St->Prop}(h:oD fns c A S Q):oD fns c A S fun o A' S'=>Q o A' S'/\lO S S':=by
 have⟨n,o,A',S',h1,h2⟩:=h;exact⟨n,o,A',S',h1,h2,(aGb fns n).code _ _ _ _ _ _ h1⟩
end Go.Ev
namespace Go.Ev
variable {P:Program}{σ:Env}{S:St}{w:World}
def aFp:List (Nat×Nat×IntKind×Int)->AC
 | []=>.seq (.reg [⟨some 0,.q (.mv (.c (.bool true))),none,0⟩]) .ret
 | (g,j,k,z)::l=>.seq (.reg [⟨some 1,.q (.ld false 1 (.c (.ptr g j))),none,0⟩,⟨some 2,.q (.bin .eql (.p .int) (.t 1) (.c (.int k z))),none,0⟩]) (.seq (.cond (.t 2) .skip (.exit 0)) (aFp l))
def aBi(l:List (Nat×Nat×IntKind×Int)):cM:=⟨0,[.t 0],aFp l⟩
theorem aJx{fns:T cM}{Q:Out->bK->St->Prop}(hQ:∀A,aD 0 A.F= .bool true->Q .ret A S):∀ {l:List (Nat×Nat×IntKind×Int)} {A:bK},(∀c∈l,jE S.h c.1 c.2.1=some (.int c.2.2.1 c.2.2.2))->oD fns (aFp l) A S Q
 | [],A,_=>by
  refine aC (aJ ?_);rw[jG];exact⟨.bool true,rfl,(fM).2 (aI (hQ _ (by rw[bG,if_pos rfl])))⟩
 | (g,j,k,z)::l,A,h=>by
  have h1:=h (g,j,k,z) (by simp);simp only at h1;refine aC (aJ (aMP (v:=.int k z) h1 (aMP (v:=.bool true) ?_ (fM.2 ?_))))
  ·show kH .eql (.p .int) (aD 1 (cB (some 1) A.F (.int k z))) (.int k z)=_;rw[bG,if_pos rfl,aCr,Ab rfl]
  refine aC (iP (t:=true) (by show aD 2 _=_;rw[bG,if_pos rfl]) (fun _=>aH ?_) (fun h=>by cases h));exact aJx hQ fun c hc=>h c (by simp [hc])
theorem aLV{fns:T cM}{id:Nat}{l:List (Nat×Nat×IntKind×Int)}(hfn:fns.get id=some (aBi l))(h:∀c∈l,jE S.h c.1 c.2.1=some (.int c.2.2.1 c.2.2.2)):eR fns (.fn id [] []) [] S fun r S'=>r= .bool true/\S'=S:=by
 refine bE hfn (by simp) (aJx (fun A hA=>?_) h);exact⟨[aD 0 A.F],rfl,by rw[hA];rfl,rfl⟩
theorem aFn{v:AV}{k:IntKind}{z:Int}(h:kH .eql (.p .int) v (.int k z)=some (.bool true)):v= .int k z:=by
 cases v with
 | int k' z'=>
  have h':cQ .eql k' z' k z=some (.bool true):=h;unfold cQ at h';rw[show eZ .eql=false from rfl,aS] at h';have⟨hk,h'⟩:=bB h';have hz:some (AV.bool (ieq z' z))=some (.bool true):=h';simp only[Al,AV.bool.injEq] at hz;rw[mD] at hz;have hz:=eq_of_beq hz;subst hz;have hkk:k'=k:=by
   cases k<;>cases k'<;>first | rfl | (exfalso;revert hk;decide)
  rw[hkk]
 | _=>cases h
theorem aGE{fns:T cM}:∀ {l:List (Nat×Nat×IntKind×Int)} {n:Nat} {A A':bK} {S':St} {o:Out},(ev fns n).code (aFp l) A S=some (o,A',S')->(∀i,o≠ .exit i)->(∀c∈l,jE S.h c.1 c.2.1=some (.int c.2.2.1 c.2.2.2))/\S'=S/\aD 0 A'.F= .bool true
 | l,0,_,_,_,_,h,_=>by cases h
 | l,1,A,A',S',o,h,_=>by
  cases l with
  | nil=>
   have h':(none:Option (Out×bK×St))=some (o,A',S'):=h;cases h'
  | cons c l=>
   have⟨g,j,k,z⟩:=c;have h':(none:Option (Out×bK×St))=some (o,A',S'):=h;cases h'
 | [],n+2,A,A',S',o,h,ho=>by
  have⟨⟨o1,A1,S1⟩,h1,h2⟩:=aA (show aU ((ev fns (n+1)).code (.reg [⟨some 0,.q (.mv (.c (.bool true))),none,0⟩]) A S) (jT .ret (ev fns (n+1)))=some (o,A',S') from h);have e1:(ev fns (n+1)).code (.reg [⟨some 0,.q (.mv (.c (.bool true))),none,0⟩]) A S=some (.normal,⟨cB (some 0) A.F (.bool true),A.inr⟩,S):=rfl;rw[e1] at h1;cases h1;have e2:jT .ret (ev fns (n+1)) (.normal,⟨cB (some 0) A.F (.bool true),A.inr⟩,S)=some (.ret,⟨cB (some 0) A.F (.bool true),A.inr⟩,S):=rfl;rw[e2] at h2;cases h2;exact⟨fun c hc=>(by cases hc),rfl,by rw[bG,if_pos rfl]⟩
 | (g,j,k,z)::l,n+2,A,A',S',o,h,ho=>by
  have⟨⟨o1,A1,S1⟩,h1,h2⟩:=aA (show aU ((ev fns (n+1)).code (.reg [⟨some 1,.q (.ld false 1 (.c (.ptr g j))),none,0⟩,⟨some 2,.q (.bin .eql (.p .int) (.t 1) (.c (.int k z))),none,0⟩]) A S) (jT (.seq (.cond (.t 2) .skip (.exit 0)) (aFp l)) (ev fns (n+1)))=some (o,A',S') from h);have⟨⟨F1,S2⟩,h3,h4⟩:=aA (show aU (kL [⟨some 1,.q (.ld false 1 (.c (.ptr g j))),none,0⟩,⟨some 2,.q (.bin .eql (.p .int) (.t 1) (.c (.int k z))),none,0⟩] (ev fns n).call A.F S) (fun r=>some (.normal,(⟨r.1,A.inr⟩:bK),r.2))=some (o1,A1,S1) from h1);cases h4;rw[fC] at h3;have⟨⟨F2,S3⟩,h5,h6⟩:=aA h3;have⟨v,hv,h7⟩:=aA (show aU (jE S.h g j) (fun v=>some (cB (some 1) A.F v,S))=some (F2,S3) from h5);cases h7;rw[fC] at h6;have⟨⟨F4,S4⟩,h8,h9⟩:=aA h6;cases h9;have⟨b,hb,h10⟩:=aA (show aU (kH .eql (.p .int) (aD 1 (cB (some 1) A.F v)) (.int k z)) (fun u=>some (cB (some 2) (cB (some 1) A.F v) u,S))=some (F4,S4) from h8);cases h10;rw[bG,if_pos rfl] at hb;have h2:(ev fns (n+1)).code (.seq (.cond (.t 2) .skip (.exit 0)) (aFp l)) ⟨cB (some 2) (cB (some 1) A.F v) b,A.inr⟩ S=some (o,A',S'):=h2;have⟨⟨o5,A5,S5⟩,k1,k2⟩:=aA (show aU ((ev fns n).code (.cond (.t 2) .skip (.exit 0)) ⟨cB (some 2) (cB (some 1) A.F v) b,A.inr⟩ S) (jT (aFp l) (ev fns n))=some (o,A',S') from h2);cases n with
  | zero=>cases k1
  | succ n=>
   have k1:pO (aD 2 (cB (some 2) (cB (some 1) A.F v) b)) .skip (.exit 0) (ev fns n) ⟨cB (some 2) (cB (some 1) A.F v) b,A.inr⟩ S=some (o5,A5,S5):=k1;rw[bG,if_pos rfl] at k1;cases b with
   | bool t=>
    have k1:(ev fns n).code (bM t .skip (.exit 0)) ⟨cB (some 2) (cB (some 1) A.F v) (.bool t),A.inr⟩ S=some (o5,A5,S5):=k1;cases t with
    | true=>
     rw[aP] at k1;cases n with
     | zero=>cases k1
     | succ n=>
      have e:(ev fns (n+1)).code .skip ⟨cB (some 2) (cB (some 1) A.F v) (.bool true),A.inr⟩ S=some (.normal,⟨cB (some 2) (cB (some 1) A.F v) (.bool true),A.inr⟩,S):=rfl;rw[e] at k1;cases k1;have ih:=aGE (l:=l) (show(ev fns (n+1+1)).code (aFp l) _ S=some (o,A',S') from k2) ho;refine⟨fun c hc=>?_,ih.2⟩;rcases Br.1 hc with rfl | hc
      ·rw[hv,aFn hb]
      ·exact ih.1 c hc
    | false=>
     rw[aS] at k1;cases n with
     | zero=>cases k1
     | succ n=>
      have e:(ev fns (n+1)).code (.exit 0) ⟨cB (some 2) (cB (some 1) A.F v) (.bool false),A.inr⟩ S=some (.exit 0,⟨cB (some 2) (cB (some 1) A.F v) (.bool false),A.inr⟩,S):=rfl;rw[e] at k1;cases k1;have k2:some (Out.exit 0,(⟨cB (some 2) (cB (some 1) A.F v) (.bool false),A.inr⟩:bK),S)=some (o,A',S'):=k2;cases k2;exact absurd rfl (ho 0)
   | _=>cases k1
theorem aJT{fns:T cM}{l:List (Nat×Nat×IntKind×Int)}{n:Nat}{S':St}{v:AV}(h:mY (aBi l) [] (ev fns n) S=some (v,S')):(∀c∈l,jE S.h c.1 c.2.1=some (.int c.2.2.1 c.2.2.2))/\S'=S/\v= .bool true:=by
 unfold mY at h;have⟨_,h⟩:=bB h;have⟨⟨o,A',S1⟩,h1,h2⟩:=aA h;unfold yW at h2;split at h2
 ·cases h2
 ·rename_i hne;have⟨vs,h3,h4⟩:=aA h2;cases h4;have⟨k1,k2,k3⟩:=aGE (show(ev fns n).code (aFp l) ⟨.e,false⟩ S=some (o,A',S1) from h1) (fun i e=>hne i e);refine⟨k1,k2,?_⟩;have:some [aD 0 A'.F]=some vs:=h3;cases this;exact k3
def aBp:Nat->Nat->List (IntKind×Int)->List (Nat×Nat×IntKind×Int)
 | _,_,[]=>[]
 | g,j,(k,z)::l=>(g,j,k,z)::aBp g (j+1) l
theorem aDj:∀ {l:List (IntKind×Int)} {g j i:Nat} {k:IntKind} {z:Int},l[i]? =some (k,z)->(g,j+i,k,z)∈aBp g j l
 | [],_,_,_,_,_,h=>by simp at h
 | (k,z)::l,g,j,0,k',z',h=>by
  simp at h;obtain⟨rfl,rfl⟩:=h;simp [aBp]
 | (k,z)::l,g,j,i+1,k',z',h=>by
  have:=aDj (g:=g) (j:=j+1) (show l[i]? =some (k',z') by simpa using h);rw[show j+(i+1)=j+1+i by omega];exact Cf _ this
def lR:List (Nat×List (IntKind×Int))->List (Nat×Nat×IntKind×Int)
 | []=>[]
 | (g,l)::r=>aBp g 0 l++lR r
theorem aAS:∀ {t:List (Nat×List (IntKind×Int))} {g:Nat} {l:List (IntKind×Int)},(g,l)∈t->∀c∈aBp g 0 l,c∈lR t
 | (g',l')::t,g,l,h,c,hc=>by
  simp only[lR,Ct];rcases Br.1 h with h | h
  ·cases h;exact .inl hc
  ·exact .inr (aAS h c hc)
theorem aGr(hR:jX P σ S w){t:List (Nat×List (IntKind×Int))}(hg:∀x∈t,x.1<P.globals.size/\x.2≠ [])(h:∀c∈lR t,jE S.h c.1 c.2.1=some (.int c.2.2.1 c.2.2.2)):aH0 P (t.map fun x=>(x.1,x.2.map fun y=>AV.int y.1 y.2)) w:=by
 intro x hx;obtain⟨⟨g,l⟩,hgl,rfl⟩:=Ga.1 hx;have⟨h1,h2⟩:=hg _ hgl;have hc:∀i k z,l[i]? =some (k,z)->jE S.h g i=some (.int k z):=fun i k z hi=>by
  have:=h _ (aAS hgl _ (aDj (g:=g) (j:=0) hi));simpa using this
 obtain⟨⟨k0,z0⟩,l',rfl⟩:∃a l',l=a::l':=by cases l with | nil=>exact absurd rfl h2 | cons a l'=>exact⟨a,l',rfl⟩
 have h0:=hc 0 k0 z0 rfl;unfold jE bU at h0;have⟨cs,h3,h4⟩:=aA h0;have⟨bl,h5,h6⟩:=aA h3;have⟨L,h7,h8,h9⟩:=hR.blk g bl h5;rw[hR.glob g h1] at h7;cases h7;have hcs:∀i k z,((k0,z0)::l')[i]? =some (k,z)->cs[i]? =some (AV.int k z):=fun i k z hi=>by
  have:=hc i k z hi;unfold jE bU at this;rw[h5,aL,h6,aL,jI] at this;exact this
 have key:∀Cs,gP P σ cs Cs->w.rangeAt g 0 Cs->∃Ds,gP P (aDG P) (((k0,z0)::l').map fun y=>AV.int y.1 y.2) Ds/\(∀u∈Ds,u.oneCell'=true)/\w.rangeAt g 0 Ds:=by
  intro Cs hC hr;refine⟨((k0,z0)::l').map fun y=>Value.int y.1 y.2,?_,fun u hu=>?_,fun j v hv=>?_⟩
  ·clear hcs hc hg h h0 hgl hx h2;generalize (k0,z0)::l'=m
   induction m with
   | nil=>exact cJ.2 rfl
   | cons a m ih=>exact cG.2 ⟨_,_,rfl,by simp only[Rv],ih⟩
  ·obtain⟨y,_,rfl⟩:=Ga.1 hu;rfl
  ·rw[Bk,An] at hv;obtain⟨⟨k,z⟩,hkz,rfl⟩:=hv;have h10:=hcs j k z hkz;have⟨V,hV,hVV⟩:=hC.get h10;simp only[Rv] at hVV;rw[<-hVV];exact hr j V hV
 refine⟨h1,by simpa using h8,?_⟩;cases bl with
 | cells ds o s=>
  simp only[dI,Al] at h6;subst h6;have⟨Cs,q1,_,q3,_⟩:=h9;exact key Cs q1 q3
 | ro ds=>
  simp only[dI,Al] at h6;subst h6;have⟨Cs,q1,_,q3⟩:=h9;exact key Cs q1 q3
 | _=>cases h6
theorem aGj{l:List (Nat×bo)}{σ':Env}{S':St}{w':World}(hR:jX P σ S w)(h:gH P (aDG P) (stL P l) w σ' S' w'):gH P σ S w σ S w':=by
 have hk:∀r,r<w.heap.size->w'.heap[r]? =w.heap[r]? :=fun r hr=>h.keep r hr (aRk r);refine⟨⟨fun b bl hb=>?_,hR.lt,hR.fresh,hR.glob,hR.inj⟩,fun _ _=>rfl,Af _,fun r hr _=>hk r hr,fun _ ho=>.inl ho,h.size,h.os,h.tape,h.output,fun _ _ hb=>hb⟩;have⟨L,q1,q2,q3⟩:=hR.blk b bl hb;exact⟨L,q1,Ag q2 h.size,q3.frame (fun _ _ x=>x) (hk _ q2)⟩
theorem aEh{fns:T cM}{id nt:Nat}{res:List RV}{c:AC}{Fn:Func}{t:List (Nat×List (IntKind×Int))}{l:List (Nat×bo)}(hFn:P.funcs[id]? =some Fn)(hc:cFn P Fn=some ⟨nt,res,c⟩)(hl:l=t.map fun x=>(x.1,x.2.map fun y=>AV.int y.1 y.2))(hg:∀x∈t,x.1<P.globals.size/\x.2≠ [])
  (h:Good P c ⟨.e,false⟩ (stL P l) fun o A S=>aK8 res o A S=some true):aJm P fns id (aBi (lR t)):=by
 have⟨C,c',rs,hbody,hname,hC,hrs,heq⟩:=wY hc;cases heq;refine⟨rfl,⟨Fn,C,hFn,hbody,hname⟩,fun n S S' v hrun σ w fv hf hR=>?_⟩;have⟨hloads,hS',hv⟩:=aJT hrun;subst hS';subst hv;have hT:aH0 P l w:=by rw[hl];exact aGr hR hg hloads
 simp only[Rv] at hf;obtain⟨A,B,rfl,hA,hB⟩:=hf;have hA:=cJ.1 hA;have hB:=cJ.1 hB;subst hA;subst hB;rw[iQ hFn hbody hname];show CallsIn Fence.wide 0 P id ⟨[]++([]++ [])⟩ w _;refine callsIn_of_wp_marks hFn hbody trivial ?_;have⟨hfr,hsz⟩:=uV (P:=P) (σ:=aDG P) (args:=[]) (Args:=[]) (cJ.2 rfl) (nt:=Fn.ntmps) (Ey _);rw[<-aAJ];refine h none 0 Fn.ntmps C hC (fun _=>rfl) w.heap.size (aDG P) _ w _ hsz Df.nil (Af _) hfr (aQn hT) ?_;intro o A' S2 σ' a' w' hret hinr hsz' hdf hfr' hext;have⟨hoo,hres⟩:=aLb hret;have⟨_,rks,hd,hnd,hmk⟩:=hdf;rw[Cm] at hd;have fin:∀w'',gH P (aDG P) (stL P l) w σ' S2 w''->∃V,(Go.results Fn a'.tmps).run P w''= .ok V w''/\∃σ',Rv P σ' (.bool true) V/\gH P σ S' w σ' S' w'':=fun w'' hx=>by
  have⟨Vs,h8,h9⟩:=kF hx.rep hfr' hrs hres;refine⟨if h:Vs.toArray.size=1 then Vs.toArray[0] else .tuple Vs.toArray,?_,σ,?_,aGj hR hx⟩
  ·show((do let vs <-Fn.results.mapM (aB0 a'.tmps);pure (if h:vs.size=1 then vs[0] else .tuple vs):Sem Value)).run P w''=_;rw[Ez];simp only[Sem.run_bind,Sem.run_map,h8,Result.andThen_ok,Sem.run_pure]
  ·have:=wC h9;simp only[oneOf,Rv] at this;rw[this];simp only[Rv]
 rcases hoo with rfl | rfl
 ·show LeavesInM Fence.wide 0 P Fn a'.tmps _ a'.defers .returning w';rw[hd];exact leaves rks w' hnd hmk hext fin
 ·show LeavesInM Fence.wide 0 P Fn a'.tmps _ a'.defers .returning w';rw[hd];exact leaves rks w' hnd hmk hext fin
theorem aF2{l:List (Nat×cM)}(hmix:P.follows .mixedOrders=true)(hl:∀p∈l,(Row P p\/aJm P (table l) p.1 p.2)\/aN3 P (table l) p.1 p.2):pB P (table l):=
 ⟨asked P,qI P,fun id fn h=>by
  rcases hl _ (aBs h) with(⟨Fn,h1,h2⟩ | h1) | h1
  ·exact .inl ⟨Fn,h1,h2⟩
  ·exact .inr (.inl h1)
  ·exact .inr (.inr h1),fun call hcall=>aB3 (asked P) (qI P) hmix call hcall⟩
end Go.Ev
namespace Go.Ev
variable {P:Program}{σ:Env}{S:St}{w:World}
def xB(S:St):Prop:=∀b bl,S.h.get b=some bl->¬vD bl
def yX(σ:Env)(b:Nat)(L:Loc):Env:=fun c=>if c=b then some L else σ c
theorem aO2(hR:jX P σ S w)(L:Loc):∀b M,σ b=some M->yX σ S.nx L b=some M:=fun b M h=>by
 have:=hR.below h;unfold yX;rw[if_neg au];exact h
structure oJ(P:Program)(σ:Env)(S:St)(w:World)(σ':Env)(S':St):Prop where
 rep:jX P σ' S' w
 no:xB S'
 same:Same S S'
 fresh:kO S'
 le:∀b L,σ b=some L->σ' b=some L
theorem oJ.refl(hR:jX P σ S w)(hn:xB S)(hf:kO S):oJ P σ S w σ S:=⟨hR,hn,Same.refl S,hf,fun _ _ h=>h⟩
theorem oJ.trans{σ' σ'':Env}{S' S'':St}(h:oJ P σ S w σ' S')(h':oJ P σ' S' w σ'' S''):oJ P σ S w σ'' S'':=⟨h'.rep,h'.no,h.same.trans h'.same,h'.fresh,fun b L hb=>h'.le b L (h.le b L hb)⟩
theorem aO7(hn:xB S)(r:Nat):¬Own σ S r:=fun⟨b,bl,_,h1,h2,_⟩=>hn b bl h1 h2
theorem aKS{fns:T cM}(hK:pB P fns){id:Nat}{b:Bool}{Fn:Func}(hFn:P.funcs[id]? =some Fn)(hb:Fn.body.isSome=true)(hnm:(Fn.name== "runtime.NumGoroutine")=false){avs:bo}{Args:List Value}{Q:St->Prop}
  (h:eR fns (.fn id [] []) avs S fun r S'=>r= .bool b/\Q S') (hargs:gP P σ avs Args) (hR:jX P σ S w) (hn:xB S):
  Calls P id ⟨Args⟩ w fun e w'=>e= .returned (.bool b)/\Kept w w':=by
 have⟨n,v,S',hrun0,hv,_⟩:=h;subst hv;have hs:=aLu hK n _ _ _ _ _ hrun0 σ w (.func (.func id) ⟨[]⟩ ⟨[]⟩) Args (by simp only[Rv];exact⟨[],[],rfl,cJ.2 rfl,cJ.2 rfl⟩) hargs hR;have hnm':¬Fn.name= "runtime.NumGoroutine" :=by simpa using hnm
 have⟨C,hC⟩:=Option.isSome_iff_exists.1 hb;have hrun:((do let d <-Deferred.ofValue (.func (.func id) ⟨[]⟩ ⟨[]⟩) ⟨Args⟩;invoke d.target d.args:Sem Next)).run P w= .ok (.enter id ⟨Args⟩) w:=by
  simp only[Deferred.ofValue,Sem.run_bind,Sem.run_pure,Result.andThen_ok,invoke,callFunc,run_program,hFn];simp [hC,hnm']
 rw[hrun] at hs;have hs:CallsIn Fence.wide 0 P id ⟨Args⟩ w _:=hs;refine(callsIn_wide.1 hs).mono fun e w' h=>?_;cases e with
 | returned V=>
  have⟨σ',h1,h2⟩:=h;simp only[Rv] at h1;subst h1;exact⟨rfl,h2.kept (aO7 hn)⟩
 | _=>exact h.elim
theorem aNt{l:List (Nat×bo)}:xB (stL P l):=fun b bl h ho=>by
 obtain⟨cs,_,rfl⟩:=nR h;exact ho.elim
theorem aNS{l:List (Nat×bo)}(hl:∀x∈l,x.1<P.globals.size):kO (stL P l):=fun b hb=>by
 cases h:(stL P l).h.get b with
 | none=>rfl
 | some bl=>
  have⟨cs,h1,_⟩:=nR h;have h2:=hl _ h1;simp only[stL] at hb;simp only at h2;omega
end Go.Ev
namespace Go.Ev
variable {P:Program}{σ:Env}{S:St}{w:World}
theorem aKV(hR:jX P σ S w)(hn:xB S)(hf:kO S)(hG:P.globals.size<=S.nx){r d:Nat}{cs:bo}{Cs:List Value}(hr:r<w.heap.size)(hc:gP P σ cs Cs)(h1:∀u∈Cs,u.oneCell'=true)(hw:w.rangeAt r d Cs):
  oJ P σ S w (yX σ S.nx ⟨r,d,0⟩) ⟨S.h.set S.nx (some (.ro cs)),S.nx+1⟩:=by
 have hle:=aO2 hR ⟨r,d,0⟩;refine⟨⟨fun b bl hb=>?_,fun b bl hb=>?_,fun b hb=>?_,fun g hg=>?_,fun b b' bl bl' L L' hb _ ho=>?_⟩,fun b bl hb=>?_,Same.alloc S _,(oC S _).1 hf,hle⟩
 ·simp only at hb;rw[dr] at hb;split at hb
  ·rename_i e;subst e;cases hb;exact⟨⟨r,d,0⟩,by unfold yX;rw[if_pos rfl],hr,Cs,hc.mono hle,h1,hw⟩
  ·have⟨L,h1,h2,h3⟩:=hR.blk b bl hb;exact⟨L,hle b L h1,h2,h3.frame hle rfl⟩
 ·simp only at hb;rw[dr] at hb;split at hb
  ·rename_i e;subst e;simp
  ·have:=hR.lt b bl hb;simp only;omega
 ·simp only at hb;unfold yX;rw[if_neg au];exact hR.fresh b au
 ·unfold yX;rw[if_neg au];exact hR.glob g hg
 ·simp only at hb;rw[dr] at hb;split at hb
  ·cases hb;exact ho.elim
  ·exact absurd ho (hn b bl hb)
 ·simp only at hb;rw[dr] at hb;split at hb
  ·cases hb;exact fun h=>h
  ·exact hn b bl hb
def Lays(P:Program)(t:TypeId){α:Type}(E:St->bo->α->Prop):Prop:=
 ∀ (H:Type) (enc:TypeId×Value->H) (σ:Env) (S:St) (w:World) (base:Nat) (spare:Nat->Bool) (held:Bool) (fuel:Nat) (cs:List Value) (x:DataW H×List MemPlace),jX P σ S w->xB S->kO S->P.globals.size<=S.nx->DataW.trod enc P w base spare held fuel t cs=some x->(∀n∈DataW.weights P t x.1,n<=140737488355328)->
  ∃σ' S' avs a,oJ P σ S w σ' S'/\gP P σ' avs cs/\(∀u∈cs,u.oneCell'=true)/\E S' avs a/\S.nx<=S'.nx
def pJ{α:Type}(E:St->bo->α->Prop):Prop:=∀ {S S':St} {avs:bo} {a:α},E S avs a->Same S S'->E S' avs a
def qO(k:IntKind)(_:St)(avs:bo)(z:Int):Prop:=avs= [.int k z]/\(Lit.int k z).wf=true
theorem jF{k:IntKind}:pJ (qO k):=fun h _=>h
theorem aHS{t:TypeId}{k:IntKind}(ht:P.underlying t=some (.int k)):Lays P t (qO k):=by
 intro H enc σ S w base spare held fuel cs x hR hn hf hG h hW;obtain⟨n,rfl,_,hw⟩:=DataW.trod_int ht h;exact⟨σ,S,[.int k n],n,oJ.refl hR hn hf,cG.2 ⟨_,_,rfl,by simp only[Rv],cJ.2 rfl⟩,fun u hu=>by simp at hu;subst hu;rfl,⟨rfl,hw⟩,Af _⟩
theorem aBN{H:Type}{e:TypeId}{d:DataW H}{n:Nat}:∀ {l:List (DataW H)},d∈l->n∈DataW.weights P e d->n∈DataW.weightsAll P e l
 | [],h,_=>by cases h
 | x::r,h,hn=>by
  show n∈DataW.weights P e x++DataW.weightsAll P e r;rcases Br.1 h with rfl | h
  ·exact Fp _ hn
  ·exact Eo _ (aBN h hn)
theorem uI{H:Type}{n:Nat}:∀ {ts:List TypeId} {l:List (DataW H)} {i:Nat} {t:TypeId} {d:DataW H},ts[i]? =some t->l[i]? =some d->n∈DataW.weights P t d->n∈DataW.weightsEach P ts l
 | [],_,_,_,_,h,_,_=>by simp at h
 | _::_,[],_,_,_,_,h,_=>by simp at h
 | u::ts,x::r,0,t,d,h1,h2,hn=>by
  simp at h1 h2;subst h1;subst h2;exact Fp _ hn
 | u::ts,x::r,i+1,t,d,h1,h2,hn=>by
  show n∈DataW.weights P u x++DataW.weightsEach P ts r;exact Eo _ (uI (by simpa using h1) (by simpa using h2) hn)
theorem aEn{H:Type}{t e:TypeId}{xs ys:List (DataW H)}(ht:P.underlying t=some (.slice e)):DataW.weights P t (.slice xs ys)=(xs.length+ys.length) * P.bytesOf e::(DataW.weightsAll P e xs++DataW.weightsAll P e ys):=by
 unfold DataW.weights;rw[ht]
theorem aG2{H:Type}{t:TypeId}{fs:Array Field}{xs:List (DataW H)}(ht:P.underlying t=some (.struct fs)):DataW.weights P t (.agg xs)=DataW.weightsEach P (fs.toList.map (·.type)) xs:=by
 unfold DataW.weights;rw[ht]
def yA(k:Nat){α:Type}(E:St->bo->α->Prop)(S:St)(avs:bo)(l:List α):Prop:=
 ∃av,avs= [av]/\l.length * (8 * k)<=140737488355328/\((l= []/\(av= .cd\/av= .emp))\/∃ (b cap:Nat) (css:List (bo)),av= .sl b 0 l.length cap false/\l.length<=cap/\b<S.nx/\S.h.get b=some (.ro css.flatten)/\css.length=l.length/\∀ (i:Nat) (cs:bo) (a:α),css[i]? =some cs->l[i]? =some a->cs.length=k/\E S cs a)
theorem ct{k:Nat}{α:Type}{E:St->bo->α->Prop}(hE:pJ E):pJ (yA k E):=by
 rintro S S' avs l ⟨av,rfl,hL,h | ⟨b,cap,css,h1,h2,h3,h4,h5,h6⟩⟩ hs
 ·exact⟨av,rfl,hL,.inl h⟩
 ·exact⟨av,rfl,hL,.inr ⟨b,cap,css,h1,h2,Ag h3 hs.1,(hs.2 b h3).trans h4,h5,fun i cs a hi ha=>⟨(h6 i cs a hi ha).1,hE (h6 i cs a hi ha).2 hs⟩⟩⟩
theorem aL2{a:Addr}{n base:Nat}{cs:List Value}(h:w.cells? base a n=some cs):cs.length=n/\∀i,i<n->w.cell? (a.add i)=cs[i]? :=by
 unfold World.cells? at h;split at h
 ·refine⟨by simpa using mapM_some_length h,fun i hi=>?_⟩;exact mapM_some_get h i i (by simp [hi])
 ·cases h
theorem aDe{e:TypeId}{k:Nat}{α:Type}{E:St->bo->α->Prop}(hE:Lays P e E)(hF:pJ E)(hk:0<k){H:Type}{enc:TypeId×Value->H}{base:Nat}{spare:Nat->Bool}{held:Bool}{fuel:Nat}{a:Addr}(hspot:a.spot=none)
  (hR:jX P σ S w) (hn:xB S) (hf:kO S) (hG:P.globals.size<=S.nx):∀ {m:Nat},(∀i,i<m->∃x,(w.cells? base (a.add (i * k)) k).bind (DataW.trod enc P w base spare held fuel e)=some x/\∀n∈DataW.weights P e x.1,n<=140737488355328)->
  ∃ (σ':Env) (S':St) (css:List (bo)),∃l:List α,∃Cs:List Value,oJ P σ S w σ' S'/\S.nx<=S'.nx/\css.length=m/\l.length=m/\(∀ (i:Nat) (cs:bo) (a:α),css[i]? =some cs->l[i]? =some a->cs.length=k/\E S' cs a)/\gP P σ' css.flatten Cs/\(∀u∈Cs,u.oneCell'=true)/\Cs.length=m * k/\w.rangeAt a.block a.off Cs
 | 0,_=>⟨σ,S,[],[],[],oJ.refl hR hn hf,Af _,rfl,rfl,fun i cs a hi=>(by simp at hi),cJ.2 rfl,fun u hu=>(by cases hu),by simp,fun j v hv=>(by simp at hv)⟩
 | m+1,h=>by
  have⟨σ1,S1,css,l,Cs,hA,hn1,hcl,hll,hel,hrv,hone,hlen,hrange⟩:=aDe hE hF hk hspot hR hn hf hG (m:=m) fun i hi=>h i au;have⟨x,hx,hxW⟩:=h m au;have⟨cs,hcs,hx⟩:=Eb.1 hx;have⟨σ2,S2,avs,y,hA2,hrv2,hone2,hE2,hn2⟩:=hE H enc σ1 S1 w base spare held fuel cs x hA.rep hA.no hA.fresh (Bd hG hn1) hx hxW;have⟨hcl2,hcell⟩:=aL2 hcs;have hal:avs.length=k:=by rw[<-hrv2.length];exact hcl2
  refine⟨σ2,S2,css++ [avs],l++ [y],Cs++cs,hA.trans hA2,Bd hn1 hn2,by simp [hcl],by simp [hll],?_,?_,?_,?_,?_⟩
  ·intro i cs' a' hi ha;rw[List.getElem?_append] at hi ha;rw[hcl] at hi;rw[hll] at ha;split at hi
   ·rename_i hlt;rw[if_pos hlt] at ha;exact⟨(hel i cs' a' hi ha).1,hF (hel i cs' a' hi ha).2 hA2.same⟩
   ·rename_i hlt;rw[if_neg hlt] at ha;have him:i - m=0:=by
     rcases Ap (i - m) with h | h
     ·exact h
     ·have⟨q,hq⟩:=Nat.exists_eq_succ_of_ne_zero (Nat.pos_iff_ne_zero.1 h);rw[hq] at hi;simp at hi
    rw[him] at hi ha;simp at hi ha;subst hi;subst ha;exact⟨hal,hE2⟩
  ·rw[List.flatten_append];simp only[List.flatten_cons,List.flatten_nil,Cm];exact(hrv.mono hA2.le).append hrv2
  ·intro u hu;rcases Ct.1 hu with hu | hu
   ·exact hone u hu
   ·exact hone2 u hu
  ·rw[Ba,hlen,hcl2,Nat.succ_mul]
  ·intro j v hv;rw[List.getElem?_append] at hv;split at hv
   ·exact hrange j v hv
   ·rename_i hlt;have hj:j - Cs.length<k:=by
     have:=(Aj.1 hv).1;omega
    have:=hcell (j - Cs.length) hj;rw[hv] at this;rw[<-this];congr 1;have hadd:∀i,a.add i=⟨a.block,a.off+i,none⟩:=fun i=>by
     unfold Addr.add;split
     ·rename_i h;subst h;cases a;simp_all
     ·rfl
    have hadd2:∀ (x y:Nat),Addr.add ⟨a.block,x,none⟩ y=⟨a.block,x+y,none⟩:=fun x y=>by
     unfold Addr.add;split
     ·rename_i h;rw[h,Bi]
     ·rfl
    rw[hadd,hadd2,hlen];congr 1;rw[hlen] at hlt;omega
theorem zF{t e:TypeId}{k:Nat}{α:Type}{E:St->bo->α->Prop}(ht:P.underlying t=some (.slice e))(hc:P.cellsOf e=k)(hk:0<k)(hby:8 * k<=P.bytesOf e)(hE:Lays P e E)(hF:pJ E):Lays P t (yA k E):=by
 intro H enc σ S w base spare held fuel cs x hR hn hf hG h hW;rcases DataW.trod_slice ht h with⟨rfl,_⟩ | ⟨a,len,cap,elems,rest,n,rfl,rfl,hxe,_,hlc,_,hlen,hel,_⟩
 ·exact⟨σ,S,[.cd],[],oJ.refl hR hn hf,cG.2 ⟨_,_,rfl,by simp only[Rv],cJ.2 rfl⟩,fun u hu=>by simp at hu;subst hu;rfl,⟨_,rfl,by simp,.inl ⟨rfl,.inl rfl⟩⟩,Af _⟩
 ·rw[hc] at hel;subst hxe;have hW:∀n∈DataW.weights P t (.slice (elems.map (·.1)) (rest.map (·.1))),n<=140737488355328:=hW;rw[aEn ht] at hW;have hlw:len * (8 * k)<=140737488355328:=by
   have h1:=hW _ (Dy ..);rw[Bc,hlen,Cb] at h1;exact Bd (Bb len hby) au
  rcases Ap len with h0 | hp
  ·subst h0;exact⟨σ,S,[.emp],[],oJ.refl hR hn hf,cG.2 ⟨_,_,rfl,by simp only[Rv];exact⟨a,cap,rfl⟩,cJ.2 rfl⟩,fun u hu=>by simp at hu;subst hu;rfl,⟨_,rfl,by simp,.inl ⟨rfl,.inr rfl⟩⟩,Af _⟩
  ·have hget:∀i,i<len->∃x,(w.cells? base (a.add (i * k)) k).bind (DataW.trod enc P w base spare held n e)=some x/\∀n∈DataW.weights P e x.1,n<=140737488355328:=fun i hi=>by
    rw[hel i hi];exact⟨elems[i]' au,Ad au,fun n hn=>hW n (Cf _ (Fp _ (aBN (List.mem_map_of_mem (Ec _)) hn)))⟩
   have⟨x0,hx0,_⟩:=hget 0 hp;have⟨cs0,hcs0,_⟩:=Eb.1 hx0;have⟨hl0,hc0⟩:=aL2 hcs0;have c0:=hc0 0 hk;rw[Ad au,Hf] at c0;have e0:(a.add 0).add 0=a:=rfl;rw[e0] at c0;have hblk:a.block<w.heap.size/\a.spot=none:=by
    unfold World.cell? at c0;cases hh:w.heap[a.block]? with
    | none=>rw[hh] at c0;cases c0
    | some o=>
     refine⟨(Cv.1 hh).1,?_⟩;rw[hh] at c0;cases o with
     | cells c t fr=>
      simp only at c0;by_cases hs:a.spot.isSome
      ·rw[if_pos hs] at c0;cases c0
      ·simpa using hs
     | _=>cases c0
   have⟨σ1,S1,css,l,Cs,hA,hn1,hcl,hll,hE1,hrv,hone,hCl,hrange⟩:=aDe hE hF hk hblk.2 hR hn hf hG hget;have hA2:=aKV hA.rep hA.no hA.fresh (Bd hG hn1) hblk.1 hrv hone hrange;refine⟨_,_,[.sl S1.nx 0 len cap false],l,hA.trans hA2,cG.2 ⟨_,_,rfl,?_,cJ.2 rfl⟩,fun u hu=>by simp at hu;subst hu;rfl,⟨_,rfl,by rw[hll];exact hlw,.inr ⟨S1.nx,cap,css,by rw[hll],au,by simp,?_,by rw[hcl,hll],fun i cs a' hi ha=>⟨(hE1 i cs a' hi ha).1,hF (hE1 i cs a' hi ha).2 hA2.same⟩⟩⟩,by simp only;omega⟩
   ·simp only[Rv];refine⟨⟨a.block,a.off,0⟩,by unfold yX;rw[if_pos rfl],?_⟩;have:=hblk.2;cases a
    simp_all
   ·simp only;rw[dr,if_pos rfl]
def NoE(_:St)(avs:bo)(_:Unit):Prop:=avs= []
def tI{α β:Type}(E:St->bo->α->Prop)(R:St->bo->β->Prop)(S:St)(avs:bo)(x:α×β):Prop:=∃u v,avs=u++v/\E S u x.1/\R S v x.2
theorem aJK:pJ NoE:=fun h _=>h
theorem mH{α β:Type}{E:St->bo->α->Prop}{R:St->bo->β->Prop}(h1:pJ E)(h2:pJ R):pJ (tI E R):=fun⟨u,v,e,a,b⟩ hs=>⟨u,v,e,h1 a hs,h2 b hs⟩
def aJE(P:Program)(ts:List TypeId){α:Type}(E:St->bo->α->Prop):Prop:=
 ∀ (H:Type) (enc:TypeId×Value->H) (σ:Env) (S:St) (w:World) (base:Nat) (spare:Nat->Bool) (held:Bool) (fuel off:Nat) (cs:List Value),jX P σ S w->xB S->kO S->P.globals.size<=S.nx->cs.length=off+(ts.map P.cellsOf).sum->
  (∀ (i:Nat) t,ts[i]? =some t->∃x,DataW.trod enc P w base spare held fuel t ((cs.drop (off+((ts.take i).map P.cellsOf).sum)).take (P.cellsOf t))=some x/\∀n∈DataW.weights P t x.1,n<=140737488355328)->
  ∃σ' S' avs a,oJ P σ S w σ' S'/\gP P σ' avs (cs.drop off)/\(∀u∈cs.drop off,u.oneCell'=true)/\E S' avs a/\S.nx<=S'.nx
theorem aA6:aJE P [] NoE:=by
 intro H enc σ S w base spare held fuel off cs hR hn hf hG hl h;have:cs.drop off= []:=Bw (by simp at hl;omega);rw[this];exact⟨σ,S,[],(),oJ.refl hR hn hf,cJ.2 rfl,fun u hu=>(by cases hu),rfl,Af _⟩
theorem iH{t:TypeId}{ts:List TypeId}{α β:Type}{E:St->bo->α->Prop}{R:St->bo->β->Prop}(h1:Lays P t E)(f1:pJ E)(h2:aJE P ts R):aJE P (t::ts) (tI E R):=by
 intro H enc σ S w base spare held fuel off cs hR hn hf hG hl h;rw[Fj,Gq] at hl;have⟨x,hx,hxW⟩:=h 0 t rfl;simp only[Fq,List.map_nil,List.sum_nil,Bi] at hx;have⟨σ1,S1,avs,a,hA,hrv,hone,hE,hn1⟩:=h1 H enc σ S w base spare held fuel _ x hR hn hf hG hx hxW;have⟨σ2,S2,avs2,b,hA2,hrv2,hone2,hE2,hn2⟩:=h2 H enc σ1 S1 w base spare held fuel (off+P.cellsOf t) cs hA.rep hA.no hA.fresh (Bd hG hn1) au (fun i u hi=>by
  have⟨y,hy,hyW⟩:=h (i+1) u (by simpa using hi);rw[Ex,Fj,Gq,<-Co] at hy;exact⟨y,hy,hyW⟩)
 have hsplit:cs.drop off=(cs.drop off).take (P.cellsOf t)++cs.drop (off+P.cellsOf t):=by
  rw[<-Hc,Bt]
 refine⟨σ2,S2,avs++avs2,(a,b),hA.trans hA2,?_,?_,⟨avs,avs2,rfl,f1 hE hA2.same,hE2⟩,Bd hn1 hn2⟩
 ·rw[hsplit];exact(hrv.mono hA2.le).append hrv2
 ·rw[hsplit];intro u hu;rcases Ct.1 hu with hu | hu
  ·exact hone u hu
  ·exact hone2 u hu
theorem vV{t:TypeId}{fs:Array Field}{ts:List TypeId}{α:Type}{E:St->bo->α->Prop}(ht:P.underlying t=some (.struct fs))(hts:fs.toList.map (·.type)=ts)(hoff:∀i f,fs[i]? =some f->f.offset=((ts.take i).map P.cellsOf).sum)(hc:P.cellsOf t=(ts.map P.cellsOf).sum)(hE:aJE P ts E):Lays P t E:=by
 intro H enc σ S w base spare held fuel cs x hR hn hf hG h hW;obtain⟨xs,n,rfl,hxe,hl,hxs,hfs⟩:=DataW.trod_struct ht h;subst hxe;have hW:∀n∈DataW.weights P t (.agg (xs.map (·.1))),n<=140737488355328:=hW;rw[aG2 ht] at hW;have⟨σ1,S1,avs,a,hA,hrv,hone,hE1,hn1⟩:=hE H enc σ S w base spare held n 0 cs hR hn hf hG au (fun i u hi=>by
  have hi0:=hi;rw[<-hts,Bk,An] at hi;obtain⟨f,hf1,rfl⟩:=hi;have hf2:fs[i]? =some f:=by simpa using hf1
  have h3:=hfs i f hf2;rw[hoff i f hf2] at h3;have hlt:i<xs.length:=by
   rw[hxs];exact(Cv.1 hf2).1
  exact⟨xs[i],by rw[Au,h3,Ad hlt],fun n hn=>hW n (uI (i:=i) (by rw[hts];exact hi0) (by rw[Bk,Ad hlt];rfl) hn)⟩)
 exact⟨σ1,S1,avs,a,hA,by simpa using hrv,by simpa using hone,hE1,hn1⟩
end Go.Ev
namespace Go.Ev
def aW(k:Nat){α:Type}(E:St->bo->α->Prop)(S:St)(v:AV)(l:List α):Prop:=
 (l= []/\(v= .cd\/v= .emp))\/∃b off cap o cs,v= .sl b off l.length cap o/\l.length<=cap/\b<S.nx/\bU S.h b=some cs/\∀ (i:Nat) (a:α),l[i]? =some a->∃e:bo,e.length=k/\(∀ (j:Nat) (x:AV),e[j]? =some x->cs[off+i * k+j]? =some x)/\E S e a
theorem aW.same{k:Nat}{α:Type}{E:St->bo->α->Prop}(hE:pJ E){S S':St}{v:AV}{l:List α}(h:aW k E S v l)(hs:Same S S'):aW k E S' v l:=by
 rcases h with h | ⟨b,off,cap,o,cs,h1,hc,h2,h3,h4⟩
 ·exact .inl h
 ·refine .inr ⟨b,off,cap,o,cs,h1,hc,Ag h2 hs.1,by rw[uW hs h2];exact h3,fun i a hi=>?_⟩;have⟨e,e1,e2,e3⟩:=h4 i a hi;exact⟨e,e1,e2,hE e3 hs⟩
theorem flat_get{k:Nat}:∀ {css:List (bo)} {i j:Nat} {cs:bo} {x:AV},(∀ (i:Nat) (cs:bo),css[i]? =some cs->cs.length=k)->css[i]? =some cs->cs[j]? =some x->css.flatten[i * k+j]? =some x
 | [],i,j,cs,x,_,hi,_=>by simp at hi
 | c::css,0,j,cs,x,_,hi,hj=>by
  simp at hi;subst hi;rw[Hf,Au,List.flatten_cons,Ay (Aj.1 hj).1];exact hj
 | c::css,i+1,j,cs,x,hk,hi,hj=>by
  have hc:=hk 0 c rfl;rw[List.flatten_cons,Nat.succ_mul,Az au,hc,show i * k+k+j - k=i * k+j by omega];exact flat_get (fun i cs h=>hk (i+1) cs (by simpa using h)) (by simpa using hi) hj
theorem yA.is{k:Nat}{α:Type}{E:St->bo->α->Prop}{S:St}{avs:bo}{l:List α}(h:yA k E S avs l):∃v,avs= [v]/\aW k E S v l:=by
 obtain⟨v,rfl,_,h | ⟨b,cap,css,h1,h2,h3,h4,h5,h6⟩⟩:=h
 ·exact⟨v,rfl,.inl h⟩
 ·refine⟨v,rfl,.inr ⟨b,0,cap,false,css.flatten,h1,h2,h3,?_,fun i a hi=>?_⟩⟩
  ·unfold bU;rw[h4];rfl
  ·have hil:i<css.length:=by have:=(Aj.1 hi).1;omega
   have⟨e1,e2⟩:=h6 i css[i] a (Ad hil) hi;refine⟨css[i],e1,fun j x hj=>?_,e2⟩;rw[Au];exact flat_get (fun i' cs' hi'=>(h6 i' cs' (l[i']'(by have:=(Aj.1 hi').1;omega)) hi' (Ad _)).1) (Ad hil) hj
section
variable {k:Nat}{α:Type}{E:St->bo->α->Prop}{S:St}{v:AV}{l:List α}
theorem aW.len(h:aW k E S v l):kT v=some (.int .i64 (l.length:Int)):=by
 rcases h with⟨rfl,rfl | rfl⟩ | ⟨b,off,cap,o,cs,rfl,_⟩<;>rfl
def aMO(k:Nat)(v:AV)(i:Nat):AV:=
 match v with
 | .sl b off _ _ _=>.ptr b (off+i * k)
 | _=>.undef
theorem aW.cw(h:aW k E S v l){i:Nat}(hi:i<l.length):dN (.slice k) v i=some (aMO k v i):=by
 rcases h with⟨rfl,_⟩ | ⟨b,off,cap,o,cs,rfl,_⟩
 ·simp at hi
 ·simp only[dN,aMO];have:Nat.blt i l.length=true:=Ai hi;rw[this,aP]
theorem aW.get(h:aW k E S v l){i:Nat}{a:α}(hi:l[i]? =some a):∃ (e:bo) (b p:Nat),aMO k v i= .ptr b p/\b<S.nx/\e.length=k/\E S e a/\∃cs,bU S.h b=some cs/\∀ (j:Nat) (x:AV),e[j]? =some x->cs[p+j]? =some x:=by
 rcases h with⟨rfl,_⟩ | ⟨b,off,cap,o,cs,rfl,hc,hb,hcs,hel⟩
 ·simp at hi
 ·have⟨e,e1,e2,e3⟩:=hel i a hi;exact⟨e,b,off+i * k,rfl,hb,e1,e3,cs,hcs,e2⟩
end
end Go.Ev
