import Derived.Test.YtkklchgmpejobaaGreatDoorEv7
import Derived.ChangeSlices
import Derived.ChangeArms
import Derived.DataReads
namespace Go.Ev
def uL(c d:eR):Prop:=∀f args S r,c f args S=some r→d f args S=some r
structure Le(a b:Evs):Prop where
 code:∀c A S r,a.code c A S=some r→b.code c A S=some r
 call:uL a.call b.call
theorem dY{α β:Type}{x y:Option α}{f g:α→Option β}{b:β}(h:aZ x f=some b)(hx:∀a,x=some a→y=some a)(hf:∀a,f a=some b→g a=some b):aZ y g=some b:=by
 obtain⟨a,h1,h2⟩:=aJ h;rw[hx a h1];exact hf a h2
theorem aKg{c d:eR}(h:uL c d){v:AV}{tbl:List (Nat×Nat×Option (Bool×Nat))}{args:List AV}{S:St}{r:AV×St}(hv:aFf v tbl args c S=some r):aFf v tbl args d S=some r:=by
 unfold aFf at hv ⊢;split at hv
 ·refine dY hv (fun _ h=>h) fun a ha=>?_;unfold aHP at ha ⊢;split at ha
  ·exact h _ _ _ _ ha
  ·unfold aFV at ha ⊢;split at ha
   ·exact dY ha (fun _ h=>h) fun _ hb=>h _ _ _ _ hb
   ·cases ha
 ·cases hv
theorem aHg{c d:eR}(h:uL c d){x:XOp}{F:Fr}{S:St}{r:AV×St}(hv:evX x c F S=some r):evX x d F S=some r:=by
 cases x with
 | call f args=>exact h _ _ _ _ hv
 | inv tbl recv args=>exact aKg h hv
 | _=>exact hv
theorem aKj{c d:eR}(h:uL c d){o:AO}{F:Fr}{S:St}{r:Fr×St}(hv:aD5 o c F S=some r):aD5 o d F S=some r:=by
 unfold aD5 at hv ⊢;rw[bU] at hv ⊢;split at hv
 ·rename_i hw;rw[if_pos hw];cases ho:o.op with
  | q q=>rw[ho] at hv;exact hv
  | a a=>rw[ho] at hv;exact hv
  | x x=>
   rw[ho] at hv;exact dY (show aZ (evX x c F S) _=some r from hv) (fun _ hx=>aHg h hx) fun _ hb=>hb
 ·rename_i hw;rw[if_neg hw];exact hv
theorem aAd{c d:eR}(h:uL c d):∀ {l:List AO} {F:Fr} {S:St} {r:Fr×St},vK l c F S=some r→vK l d F S=some r
 | [],F,S,r,hv=>hv
 | o::l,F,S,r,hv=>dY (show aZ (aD5 o c F S) (fun r=>vK l c r.1 r.2)=some r from hv) (fun _ hx=>aKj h hx) fun _ hb=>aAd h hb
theorem aMq{c d:eR}(h:uL c d){o:AO}{i base:Nat}{D:DS}{r:DS}(hv:tW o i base c D=some r):tW o i base d D=some r:=by
 unfold tW at hv ⊢;rw[bU] at hv ⊢;split at hv
 ·rename_i hw;rw[if_pos hw];cases ho:o.op with
  | q q=>rw[ho] at hv;exact hv
  | a a=>rw[ho] at hv;exact hv
  | x x=>
   rw[ho] at hv;obtain⟨h1,h2⟩:=bM (show bK (kD D.hs o.mask) _ none=some r from hv);show bK (kD D.hs o.mask) _ none=some r;rw[h1,aP];exact dY h2 (fun _ hx=>aHg h hx) fun _ hb=>hb
 ·rename_i hw;rw[if_neg hw];exact hv
theorem tQ{c d:eR}(h:uL c d):∀ {l:List AO} {i base:Nat} {D r:DS},yP l i base c D=some r→yP l i base d D=some r
 | [],_,_,_,_,hv=>hv
 | o::l,i,base,D,r,hv=>dY (show aZ (tW o i base c D) (fun D'=>yP l (i+1) base c D')=some r from hv) (fun _ hx=>aMq h hx) fun _ hb=>tQ h hb
theorem aFw{c d:eR}(h:uL c d){l:List AO}{F:Fr}{S:St}{r:Fr×St}(hv:xR l c F S=some r):xR l d F S=some r:=
 dY (show aZ _ _=some r from hv) (fun _ hx=>tQ h hx) fun _ hb=>hb
theorem aGi{a b:Evs}(h:Le a b){c:AC}{A:bH}{S:St}{r:Out×bH×St}(hv:aHR c a A S=some r):aHR c b A S=some r:=by
 cases c with
 | skip=>exact hv
 | seq x y=>
  refine dY (show aZ (a.code x A S) (tH y a)=some r from hv) (fun _ hx=>h.code _ _ _ _ hx) fun q hq=>?_;unfold tH at hq ⊢;split at hq
  ·exact h.code _ _ _ _ hq
  ·exact hq
 | cond x y z=>
  have hv:aCw (x.val A.F) y z a A S=some r:=hv;show aCw (x.val A.F) y z b A S=some r;unfold aCw at hv ⊢;split at hv
  ·exact h.code _ _ _ _ hv
  ·cases hv
 | block id x=>exact dY (show aZ (a.code x A S) (rS id)=some r from hv) (fun _ hx=>h.code _ _ _ _ hx) fun _ hq=>hq
 | loop x=>
  refine dY (show aZ (a.code x A S) (tH (.loop x) a)=some r from hv) (fun _ hx=>h.code _ _ _ _ hx) fun q hq=>?_;unfold tH at hq ⊢;split at hq
  ·exact h.code _ _ _ _ hq
  ·exact hq
 | exit id=>exact hv
 | ret=>exact hv
 | reg ops=>exact dY (show aZ (vK ops a.call A.F S) _=some r from hv) (fun _ hx=>aAd h.call hx) fun _ hq=>hq
 | drw ops=>exact dY (show aZ (xR ops a.call A.F S) _=some r from hv) (fun _ hx=>aFw h.call hx) fun _ hq=>hq
 | rng f ps as bd=>
  have hv:aM5 f ps as bd a A S=some r:=hv;show aM5 f ps as bd b A S=some r;unfold aM5 at hv ⊢;cases hi:A.inr with
  | true=>rw[hi,aP] at hv;cases hv
  | false=>
   rw[hi,aU] at hv;rw[aU];obtain⟨h1,h2⟩:=bM hv;rw[h1,aP];refine dY h2 (fun _ hx=>h.call _ _ _ _ hx) fun q hq=>dY hq (fun _ hx=>hx) fun bl hbl=>?_;unfold aBq at hbl ⊢;split at hbl
   ·split at hbl
    ·cases hbl
    ·exact dY hbl (fun _ hx=>hx) fun _ hc=>h.code _ _ _ _ hc
   ·cases hbl
 | dfr ops f args=>exact hv
theorem aGL{a b:Evs}(h:Le a b){bl:AB}{l:Nat}{args:List AV}{S:St}{r:AV×St}(hv:aAe bl l args a S=some r):aAe bl l args b S=some r:=by
 unfold aAe at hv ⊢;split at hv
 ·refine dY hv (fun _ hx=>hx) fun F hF=>dY hF (fun _ hx=>h.code _ _ _ _ hx) fun q hq=>?_;unfold aCN at hq ⊢;split at hq
  ·refine dY hq (fun _ hx=>hx) fun bl hbl=>?_;unfold rM at hbl ⊢;split at hbl
   ·exact dY (show aZ (a.code _ _ _) _=some r from hbl) (fun _ hx=>h.code _ _ _ _ hx) fun _ hq=>hq
   ·cases hbl
  ·cases hq
 ·cases hv
theorem aGo{fns:T cW}{a b:Evs}(h:Le a b):uL (wU fns a) (wU fns b):=by
 intro f args S r hv;unfold wU at hv ⊢;split at hv
 ·refine dY hv (fun _ hx=>hx) fun fn hfn=>?_;unfold wH at hfn ⊢;obtain⟨h1,h2⟩:=bM hfn;rw[h1,aP];exact dY h2 (fun _ hx=>h.code _ _ _ _ hx) fun _ hq=>hq
 ·exact dY hv (fun _ hx=>hx) fun bl hbl=>aGL h hbl
 ·cases hv
theorem uV(fns:T cW):∀n,Le (ev fns n) (ev fns (n+1))
 | 0=>⟨fun c A S r (h:none=some r)=>(by cases h),fun f args S r (h:none=some r)=>(by cases h)⟩
 | n+1=>⟨fun _ _ _ _ h=>aGi (uV fns n) h,aGo (uV fns n)⟩
theorem jO(fns:T cW){n m:Nat}(h:n≤m):Le (ev fns n) (ev fns m):=by
 induction h with
 | refl=>exact⟨fun _ _ _ _ h=>h,fun _ _ _ _ h=>h⟩
 | step _ ih=>exact⟨fun c A S r h=>(uV fns _).code _ _ _ _ (ih.code _ _ _ _ h),fun f args S r h=>(uV fns _).call _ _ _ _ (ih.call _ _ _ _ h)⟩
end Go.Ev
namespace Go.Ev
abbrev oq(d:Nat)(q:QOp):AO:=⟨some d,.q q,none,0⟩
abbrev om(d m:Nat)(q:QOp):AO:=⟨some d,.q q,none,m⟩
abbrev og(d s:Nat)(b:Bool)(m:Nat)(q:QOp):AO:=⟨some d,.q q,some (s,b),m⟩
abbrev oc(d f:Nat)(l:List cF)(m:Nat):AO:=⟨some d,.x (.call (.c (.fn f [] [])) l),none,m⟩
abbrev mt(d i:Nat):AO:=⟨some d,.q (.mv (.t i)),none,0⟩
abbrev ci(n:Int):cF:=.c (.int .i64 n)
abbrev bi(o:BinOp)(x y:cF):QOp:=.bin o (.p .int) x y
abbrev ld(i:Nat):QOp:=.ld false 1 (.t i)
abbrev Zs(n x v m:Nat):AO:=⟨none,.x (.st n (.t x) (.t v)),none,m⟩
abbrev Zf(d o x:Nat):AO:=oq d (.faddr o (.t x))
abbrev Zg(d m o x:Nat):AO:=om d m (.faddr o (.t x))
abbrev Zi(d k x y:Nat):AO:=oq d (.iaddr (.slice k) (.t x) (.t y))
abbrev Zj(d m k x y:Nat):AO:=om d m (.iaddr (.slice k) (.t x) (.t y))
abbrev Zl(d x:Nat):AO:=oq d (ld x)
abbrev Zm(d m x:Nat):AO:=om d m (ld x)
abbrev Zc(d:Nat)(n:Int):AO:=oq d (.mv (ci n))
abbrev Zn(d x:Nat):AO:=oq d (.lenSl (.t x))
abbrev Za(d x:Nat)(n:Int):AO:=oq d (bi .add (.t x) (ci n))
abbrev Zt(d x y:Nat):AO:=oq d (bi .lss (.t x) (.t y))
abbrev Ze(d x i:Nat):AO:=oq d (.extract (.t x) i)
abbrev Zd(d n x:Nat):AO:=oq d (.ld true n (.t x))
abbrev Zp(d c y:Nat):AO:=oq d (.pick (.t c) (.c (.bool true)) (.t y))
abbrev Zx(d s:Nat)(b:Bool)(m o x:Nat):AO:=og d s b m (.faddr o (.t x))
abbrev Zy(d s:Nat)(b:Bool)(m x:Nat):AO:=og d s b m (ld x)
abbrev Zu(d s:Nat)(b:Bool)(m x:Nat):AO:=og d s b m (.lenSl (.t x))
abbrev Zb(d k x:Nat):AO:=⟨some d,.a (.box k (.t x)),none,0⟩
variable {fns:T cW}
def nO(fns:T cW)(c:AC)(A:bH)(S:St)(Q:Out→bH→St→Prop):Prop:=∃n o A' S',(ev fns n).code c A S=some (o,A',S')∧Q o A' S'
def fB(fns:T cW)(f:AV)(args:List AV)(S:St)(Q:AV→St→Prop):Prop:=∃n v S',(ev fns n).call f args S=some (v,S')∧Q v S'
def uZ(fns:T cW)(ops:List AO)(F:Fr)(S:St)(Q:Fr→St→Prop):Prop:=∃n F' S',vK ops (ev fns n).call F S=some (F',S')∧Q F' S'
theorem aT{c:AC}{A:bH}{S:St}{Q R:Out→bH→St→Prop}(h:nO fns c A S Q)(hq:∀o A S,Q o A S→R o A S):nO fns c A S R:=by
 obtain⟨n,o,A',S',h1,h2⟩:=h;exact⟨n,o,A',S',h1,hq _ _ _ h2⟩
theorem aO{f:AV}{args:List AV}{S:St}{Q R:AV→St→Prop}(h:fB fns f args S Q)(hq:∀v S,Q v S→R v S):fB fns f args S R:=by
 obtain⟨n,v,S',h1,h2⟩:=h;exact⟨n,v,S',h1,hq _ _ h2⟩
theorem aHA{ops:List AO}{F:Fr}{S:St}{Q R:Fr→St→Prop}(h:uZ fns ops F S Q)(hq:∀F S,Q F S→R F S):uZ fns ops F S R:=by
 obtain⟨n,F',S',h1,h2⟩:=h;exact⟨n,F',S',h1,hq _ _ h2⟩
theorem aI{A:bH}{S:St}{Q:Out→bH→St→Prop}(h:Q .normal A S):nO fns .skip A S Q:=⟨1,_,_,_,rfl,h⟩
theorem bD{id:Nat}{A:bH}{S:St}{Q:Out→bH→St→Prop}(h:Q (.exit id) A S):nO fns (.exit id) A S Q:=⟨1,_,_,_,rfl,h⟩
theorem aR{A:bH}{S:St}{Q:Out→bH→St→Prop}(h:Q .ret A S):nO fns .ret A S Q:=⟨1,_,_,_,rfl,h⟩
def aCY(fns:T cW)(y:AC)(Q:Out→bH→St→Prop):Out→bH→St→Prop
 | .normal,A,S=>nO fns y A S Q
 | o,A,S=>Q o A S
theorem aC{x y:AC}{A:bH}{S:St}{Q:Out→bH→St→Prop}(h:nO fns x A S (aCY fns y Q)):nO fns (.seq x y) A S Q:=by
 obtain⟨n,o,A1,S1,h1,h2⟩:=h;cases o with
 | normal=>
  obtain⟨m,o,A2,S2,h3,h4⟩:=h2;refine⟨max n m+1,o,A2,S2,?_,h4⟩;show aZ ((ev fns (max n m)).code x A S) (tH y (ev fns (max n m)))=_;rw[(jO fns (Ew n m)).code _ _ _ _ h1,aM];exact(jO fns (Eq n m)).code _ _ _ _ h3
 | ret=>
  refine⟨n+1,.ret,A1,S1,?_,h2⟩;show aZ ((ev fns n).code x A S) (tH y (ev fns n))=_;rw[h1];rfl
 | exit i=>
  refine⟨n+1,.exit i,A1,S1,?_,h2⟩;show aZ ((ev fns n).code x A S) (tH y (ev fns n))=_;rw[h1];rfl
theorem aLb{c:cF}{x y:AC}{A:bH}{S:St}{Q:Out→bH→St→Prop}{t:Bool}(hc:c.val A.F= .bool t)(h:nO fns (bK t x y) A S Q):nO fns (.cond c x y) A S Q:=by
 obtain⟨n,o,A1,S1,h1,h2⟩:=h;refine⟨n+1,o,A1,S1,?_,h2⟩;show aCw (c.val A.F) x y (ev fns n) A S=_;rw[hc];exact h1
theorem aIs{c:cF}{x y:AC}{A:bH}{S:St}{Q:Out→bH→St→Prop}{t:Bool}(hc:c.val A.F= .bool t)(h1:t=true→nO fns x A S Q)(h2:t=false→nO fns y A S Q):nO fns (.cond c x y) A S Q:=by
 refine aLb hc ?_;cases t
 ·exact h2 rfl
 ·exact h1 rfl
def aBZ(id:Nat)(Q:Out→bH→St→Prop):Out→bH→St→Prop
 | .exit i,A,S=>if i=id then Q .normal A S else Q (.exit i) A S
 | o,A,S=>Q o A S
theorem aK{id:Nat}{c:AC}{A:bH}{S:St}{Q:Out→bH→St→Prop}(h:nO fns c A S (aBZ id Q)):nO fns (.block id c) A S Q:=by
 obtain⟨n,o,A1,S1,h1,h2⟩:=h;cases o with
 | normal=>exact⟨n+1,.normal,A1,S1,by show aZ ((ev fns n).code c A S) (rS id)=_;rw[h1];rfl,h2⟩
 | ret=>exact⟨n+1,.ret,A1,S1,by show aZ ((ev fns n).code c A S) (rS id)=_;rw[h1];rfl,h2⟩
 | exit i=>
  by_cases hi:i=id
  ·subst hi;have h2:Q .normal A1 S1:=by simpa [aBZ] using h2
   exact⟨n+1,.normal,A1,S1,by show aZ ((ev fns n).code c A S) (rS i)=_;rw[h1];simp [aM,rS,bU,Aw],h2⟩
  ·have h2:Q (.exit i) A1 S1:=by simpa [aBZ,hi] using h2
   exact⟨n+1,.exit i,A1,S1,by show aZ ((ev fns n).code c A S) (rS id)=_;rw[h1];simp [aM,rS,bU,Aw,hi],h2⟩
def aFA(I:Nat→bH→St→Prop)(k:Nat)(Q:Out→bH→St→Prop):Out→bH→St→Prop
 | .normal,A,S=>∃k',k'<k∧I k' A S
 | o,A,S=>Q o A S
theorem bG{c:AC}{Q:Out→bH→St→Prop}(I:Nat→bH→St→Prop)(h:∀k A S,I k A S→nO fns c A S (aFA I k Q)):∀k A S,I k A S→nO fns (.loop c) A S Q:=by
 intro k
 induction k using Nat.strongRecOn with
 | _ k ih=>
  intro A S hI;obtain⟨n,o,A1,S1,h1,h2⟩:=h k A S hI;cases o with
  | normal=>
   obtain⟨k',hk,hI'⟩:=h2;obtain⟨m,o,A2,S2,h3,h4⟩:=ih k' hk A1 S1 hI';refine⟨max n m+1,o,A2,S2,?_,h4⟩;show aZ ((ev fns (max n m)).code c A S) (tH (.loop c) (ev fns (max n m)))=_;rw[(jO fns (Ew n m)).code _ _ _ _ h1,aM];exact(jO fns (Eq n m)).code _ _ _ _ h3
  | ret=>
   refine⟨n+1,.ret,A1,S1,?_,h2⟩;show aZ ((ev fns n).code c A S) (tH (.loop c) (ev fns n))=_;rw[h1];rfl
  | exit i=>
   refine⟨n+1,.exit i,A1,S1,?_,h2⟩;show aZ ((ev fns n).code c A S) (tH (.loop c) (ev fns n))=_;rw[h1];rfl
theorem aF{ops:List AO}{A:bH}{S:St}{Q:Out→bH→St→Prop}(h:uZ fns ops A.F S fun F' S'=>Q .normal ⟨F',A.inr⟩ S'):nO fns (.reg ops) A S Q:=by
 obtain⟨n,F',S',h1,h2⟩:=h;refine⟨n+1,.normal,⟨F',A.inr⟩,S',?_,h2⟩;show aZ (vK ops (ev fns n).call A.F S) _=_;rw[h1];rfl
def aMI(res:List RV)(Q:AV→St→Prop):Out→bH→St→Prop
 | .exit _,_,_=>False
 | _,A,S=>∃vs,results res A.F S.h=some vs∧Q (oneOf vs) S
theorem bN{id nt:Nat}{res:List RV}{body:AC}{first cap args:List AV}{S:St}{Q:AV→St→Prop}(hfn:fns.get id=some ⟨nt,res,body⟩)(hn:(first++(args++cap)).length≤nt)
  (h:nO fns body ⟨sF (first++(args++cap)) 0 .e,false⟩ S (aMI res Q)):fB fns (.fn id first cap) args S Q:=by
 obtain⟨n,o,A',S',h1,h2⟩:=h;have key:∀ (_:∃vs,results res A'.F S'.h=some vs∧Q (oneOf vs) S') (_:aFm ⟨nt,res,body⟩ (o,A',S')=aZ (results res A'.F S'.h) fun vs=>some (oneOf vs,S')),fB fns (.fn id first cap) args S Q:=by
  rintro⟨vs,h3,h4⟩ h5;refine⟨n+1,oneOf vs,S',?_,h4⟩;show aZ (fns.get id) (fun fn=>wH fn (wJ first (wJ args cap)) (ev fns n) S)=_;rw[hfn,aM];unfold wH;rw[gD,gD,dZ,Aj hn,aP,h1,aM,h5,h3];rfl
 cases o with
 | normal=>exact key h2 rfl
 | ret=>exact key h2 rfl
 | exit i=>exact h2.elim
theorem aAP{F:Fr}{S:St}{Q:Fr→St→Prop}:uZ fns [] F S Q↔Q F S:=
 ⟨fun⟨_,_,_,h1,h2⟩=>by cases h1;exact h2,fun h=>⟨0,F,S,rfl,h⟩⟩
theorem aD6{o:AO}{l:List AO}{F F1:Fr}{S S1:St}{Q:Fr→St→Prop}(h:∀call,aD5 o call F S=some (F1,S1))(hl:uZ fns l F1 S1 Q):uZ fns (o::l) F S Q:=by
 obtain⟨n,F',S',h1,h2⟩:=hl;refine⟨n,F',S',?_,h2⟩;rw[fX,h,aM];exact h1
theorem aLK{d:Option Nat}{q:QOp}{m:Nat}{l:List AO}{F:Fr}{S:St}{Q:Fr→St→Prop}{v:AV}(h:gT q F S.h=some v)(hl:uZ fns l (cB d F v) S Q):uZ fns (⟨d,.q q,none,m⟩::l) F S Q:=
 aD6 (fun call=>by show aZ (gT q F S.h) _=_;rw[h];rfl) hl
theorem aPs{d:Option Nat}{a:vZ}{m:Nat}{l:List AO}{F:Fr}{S:St}{Q:Fr→St→Prop}{v:AV}{bl:AB}(h:xL a F S.nx=some (v,bl))(hl:uZ fns l (cB d F v) ⟨S.h.set S.nx (some bl),S.nx+1⟩ Q):uZ fns (⟨d,.a a,none,m⟩::l) F S Q:=
 aD6 (fun call=>by show aZ (xL a F S.nx) _=_;rw[h];rfl) hl
theorem eT{d:Option Nat}{x:XOp}{m:Nat}{l:List AO}{F:Fr}{S S1:St}{Q:Fr→St→Prop}{v:AV}(h:∀call,evX x call F S=some (v,S1))(hl:uZ fns l (cB d F v) S1 Q):uZ fns (⟨d,.x x,none,m⟩::l) F S Q:=
 aD6 (fun call=>by show aZ (evX x call F S) _=_;rw[h];rfl) hl
theorem aY{d:Option Nat}{f:cF}{args:List cF}{m:Nat}{l:List AO}{F:Fr}{S:St}{Q:Fr→St→Prop}(h:fB fns (f.val F) (dF args F) S fun v S1=>uZ fns l (cB d F v) S1 Q):uZ fns (⟨d,.x (.call f args),none,m⟩::l) F S Q:=by
 obtain⟨n,v,S1,h1,k,F',S',h2,h3⟩:=h;refine⟨max n k,F',S',?_,h3⟩;rw[fX];have:aD5 ⟨d,.x (.call f args),none,m⟩ (ev fns (max n k)).call F S=some (cB d F v,S1):=by
  show aZ ((ev fns (max n k)).call (f.val F) (dF args F) S) _=_;rw[(jO fns (Ew n k)).call _ _ _ _ h1];rfl
 rw[this,aM];exact aAd (jO fns (Eq n k)).call h2
theorem fV(i:Nat)(F:Fr):(cF.t i).val F=aH i F:=rfl
theorem aJk(v:AV)(F:Fr):(cF.c v).val F=v:=rfl
theorem fF(F:Fr)(v:AV):cB none F v=F:=rfl
theorem bQ(i j:Nat)(F:Fr)(v:AV):aH i (cB (some j) F v)=if i=j then v else aH i F:=by
 show aH i (F.set j (some v))=_;unfold aH;rw[T.get_set];split<;>rfl
end Go.Ev
namespace Go.Ev
variable {fns:T cW}
theorem aMH{l:Nat}{args:List AV}{S:St}{Q:AV→St→Prop}{pend:Option Out}{fr F:Fr}{ps:List Nat}{as bd:AC}(hl:S.h.get l=some (.loop .ready pend fr ps as bd))(hF:mQ ps args fr=some F)
  (h:nO fns as ⟨F,true⟩ S fun o A1 S1=>o= .normal∧∃pend1 fr1 ps1 as1,S1.h.get l=some (.loop .ready pend1 fr1 ps1 as1 bd)∧nO fns bd A1 ⟨S1.h.set l (some (.loop .busy pend1 fr1 ps1 as1 bd)),S1.nx⟩ fun o A2 S2=>∃pend2 fr2 ps2 as2 bd2,S2.h.get l=some (.loop .busy pend2 fr2 ps2 as2 bd2)∧
   ((o= .normal∧Q (.bool true) ⟨S2.h.set l (some (.loop .ready none fr2 ps2 as2 bd2)),S2.nx⟩)∨(o≠ .normal∧Q (.bool false) ⟨S2.h.set l (some (.loop .done (some o) fr2 ps2 as2 bd2)),S2.nx⟩))):fB fns (.yld l) args S Q:=by
 obtain⟨n,o,A1,S1,h1,rfl,pend1,fr1,ps1,as1,h2,m,o2,A2,S2,h3,pend2,fr2,ps2,as2,bd2,h4,h5⟩:=h;have e1:=(jO fns (Ew n m)).code _ _ _ _ h1;have e3:=(jO fns (Eq n m)).code _ _ _ _ h3;have key:∀r,sM (.loop .busy pend2 fr2 ps2 as2 bd2) o2 l S2=some r→(ev fns (max n m+1)).call (.yld l) args S=some r:=fun r hr=>by
  show aZ (S.h.get l) (fun bl=>aAe bl l args (ev fns (max n m)) S)=_;rw[hl,aM];show aZ (mQ ps args fr) (fun F=>aZ ((ev fns (max n m)).code as ⟨F,true⟩ S) (aCN l bd (ev fns (max n m))))=_;rw[hF,aM,e1,aM];show aZ (S1.h.get l) (fun bl=>rM bl l bd (ev fns (max n m)) A1 S1)=_;rw[h2,aM];show aZ ((ev fns (max n m)).code bd A1 ⟨S1.h.set l (some (.loop .busy pend1 fr1 ps1 as1 bd)),S1.nx⟩) (fun r=>aZ (r.2.2.h.get l) fun bl=>sM bl r.1 l r.2.2)=_;rw[e3,aM];show aZ (S2.h.get l) (fun bl=>sM bl o2 l S2)=_;rw[h4,aM];exact hr
 rcases h5 with⟨rfl,h5⟩ | ⟨hne,h5⟩
 ·exact⟨_,_,_,key _ rfl,h5⟩
 ·refine⟨_,_,_,key (.bool false,⟨S2.h.set l (some (.loop .done (some o2) fr2 ps2 as2 bd2)),S2.nx⟩) ?_,h5⟩;cases o2 with
  | normal=>exact absurd rfl hne
  | _=>rfl
theorem aNo{f:cF}{ps:List Nat}{as bd:AC}{A:bH}{S:St}{Q:Out→bH→St→Prop}{id:Nat}{first cap:List AV}(hi:A.inr=false)(hf:f.val A.F= .fn id first cap)
  (h:fB fns (.fn id first cap) [.yld S.nx] ⟨S.h.set S.nx (some (.loop .ready none A.F ps as bd)),S.nx+1⟩ fun _ S2=>∃st pend fr ps2 as2 bd2 c,S2.h.get S.nx=some (.loop st pend fr ps2 as2 bd2)∧st≠ .busy∧aNq pend=some c∧nO fns c A ⟨S2.h.set S.nx (some (.loop .exhausted pend fr ps2 as2 bd2)),S2.nx⟩ Q):nO fns (.rng f ps as bd) A S Q:=by
 obtain⟨n,v,S2,h1,st,pend,fr,ps2,as2,bd2,c,h2,hst,hc,m,o,A',S',h3,hq⟩:=h;refine⟨max n m+1,o,A',S',?_,hq⟩;show bK A.inr none (bK (aL6 (f.val A.F)) (aZ ((ev fns (max n m)).call (f.val A.F) [.yld S.nx] ⟨S.h.set S.nx (some (.loop .ready none A.F ps as bd)),Nat.succ S.nx⟩) fun r=>aZ (r.2.h.get S.nx) fun bl=>aBq bl S.nx A r.2 (ev fns (max n m))) none)=_;rw[hi,aU,hf,show aL6 (.fn id first cap)=true from rfl,aP,show Nat.succ S.nx=S.nx+1 from rfl,(jO fns (Ew n m)).call _ _ _ _ h1,aM];show aZ (S2.h.get S.nx) (fun bl=>aBq bl S.nx A S2 (ev fns (max n m)))=_;rw[h2,aM];have e:=(jO fns (Eq n m)).code _ _ _ _ h3;cases st with
 | busy=>exact absurd rfl hst
 | _=>
  show aZ (aNq pend) (fun c=>(ev fns (max n m)).code c A ⟨S2.h.set S.nx _,S2.nx⟩)=_;rw[hc,aM];exact e
theorem aNM{tbl:List (Nat×Nat×Option (Bool×Nat))}{recv:cF}{args:List cF}{F:Fr}{t f:Nat}{v:AV}(hr:recv.val F= .iface t v)(hf:wF t tbl=some (f,none))(call:eR)(S:St):evX (.inv tbl recv args) call F S=evX (.call (.c (.fn f [v] [])) args) call F S:=by
 show aFf (recv.val F) tbl (dF args F) call S=call (.fn f [v] []) (dF args F) S;rw[hr];show aZ (wF t tbl) (fun r=>aHP r v (dF args F) call S)=_;rw[hf,aM];rfl
end Go.Ev
namespace Go.Ev
def Same(S S':St):Prop:=S.nx≤S'.nx∧∀b,b<S.nx→S'.h.get b=S.h.get b
theorem Same.refl(S:St):Same S S:=⟨Ah _,fun _ _=>rfl⟩
theorem Same.trans{S S' S'':St}(h:Same S S')(h':Same S' S''):Same S S'':=⟨Ba h.1 h'.1,fun b hb=>(h'.2 b (Ae hb h.1)).trans (h.2 b hb)⟩
theorem Same.alloc(S:St)(bl:AB):Same S ⟨S.h.set S.nx (some bl),S.nx+1⟩:=⟨Nat.le_succ _,fun b hb=>by simp only;rw[T.get_set,if_neg (by omega)]⟩
theorem Same.put{S S':St}{b:Nat}(h:Same S S')(hb:S.nx≤b)(x:Option AB):Same S ⟨S'.h.set b x,S'.nx⟩:=⟨h.1,fun c hc=>by simp only;rw[T.get_set,if_neg (by omega)];exact h.2 c hc⟩
def bI(k:IntKind)(S:St)(v:AV)(l:List Int):Prop:=
 (l= []∧(v= .nilsl∨v= .emp))∨∃b off cap o cs,v= .sl b off l.length cap o∧l.length≤cap∧b<S.nx∧cK S.h b=some cs∧∀i x,l[i]? =some x→cs[off+i]? =some (.int k x)
theorem uW{S S':St}(h:Same S S'){b:Nat}(hb:b<S.nx):cK S'.h b=cK S.h b:=by unfold cK;rw[h.2 b hb]
theorem bI.same{k:IntKind}{S S':St}{v:AV}{l:List Int}(h:bI k S v l)(hs:Same S S'):bI k S' v l:=by
 rcases h with h | ⟨b,off,cap,o,cs,h1,hc,h2,h3,h4⟩
 ·exact .inl h
 ·exact .inr ⟨b,off,cap,o,cs,h1,hc,Ae h2 hs.1,by rw[uW hs h2];exact h3,h4⟩
theorem bI.len{k:IntKind}{S:St}{v:AV}{l:List Int}(h:bI k S v l):kJ v=some (.int .i64 (.ofNat l.length)):=by
 rcases h with⟨rfl,rfl | rfl⟩ | ⟨b,off,cap,o,cs,rfl,_⟩<;>rfl
def aAY(v:AV)(i:Nat):AV:=
 match v with
 | .sl b off _ _ _=>.ptr b (off+i * 1)
 | _=>.undef
theorem bI.iaddr{k:IntKind}{S:St}{v:AV}{l:List Int}(h:bI k S v l){i:Nat}(hi:i<l.length):eJ (.slice 1) v i=some (aAY v i):=by
 rcases h with⟨rfl,_⟩ | ⟨b,off,cap,o,cs,rfl,_⟩
 ·simp at hi
 ·simp only[eJ,aAY];have:Nat.blt i l.length=true:=Aj hi;rw[this,aP]
theorem bI.ld{k:IntKind}{S:St}{v:AV}{l:List Int}(h:bI k S v l){i:Nat}(hi:i<l.length):cE (aAY v i) false 1 S.h=some (.int k (l.getD i 0)):=by
 rcases h with⟨rfl,_⟩ | ⟨b,off,cap,o,cs,rfl,hc,hb,hcs,hel⟩
 ·simp at hi
 ·simp only[aAY,cE,mO,aU,jL,hcs,aM,kA,En];rw[hel i l[i] (Ad hi)];simp [Ag,hi]
theorem aE6(e:oZ)(k:IntKind)(a b:Int):eY .add e (.int k a) (.int k b)=some (.int k (k.wrap (a+b))):=by
 show dB .add k a k b=_;unfold dB;rw[show eE .add=false from rfl,aU,eI,aP];show some (AV.int k (aLE k a b))=_;rw[aGK]
theorem aFu(e:oZ)(k:IntKind)(a b:Int):eY .sub e (.int k a) (.int k b)=some (.int k (k.wrap (a - b))):=by
 show dB .sub k a k b=_;unfold dB;rw[show eE .sub=false from rfl,aU,eI,aP];show some (AV.int k (aGA k a b))=_;rw[aAC]
theorem aFe(e:oZ)(k:IntKind)(a b:Int):eY .mul e (.int k a) (.int k b)=some (.int k (k.wrap (a * b))):=by
 show dB .mul k a k b=_;unfold dB;rw[show eE .mul=false from rfl,aU,eI,aP];show some (AV.int k (aGF k a b))=_;rw[aAF]
theorem aE4(e:oZ)(k:IntKind)(a b:Int):eY .lss e (.int k a) (.int k b)=some (.bool (decide (a<b))):=by
 show dB .lss k a k b=_;unfold dB;rw[show eE .lss=false from rfl,aU,eI,aP];show some (AV.bool (bK (ile b a) false true))=_;rw[oS,qW];congr 2;rw[Cb];simp
theorem aFa(e:oZ)(k:IntKind)(a b:Int):eY .leq e (.int k a) (.int k b)=some (.bool (decide (a≤b))):=by
 show dB .leq k a k b=_;unfold dB;rw[show eE .leq=false from rfl,aU,eI,aP];show some (AV.bool (ile a b))=_;rw[oS]
theorem aF6(e:oZ)(k:IntKind)(a b:Int):eY .gtr e (.int k a) (.int k b)=some (.bool (decide (b<a))):=by
 show dB .gtr k a k b=_;unfold dB;rw[show eE .gtr=false from rfl,aU,eI,aP];show some (AV.bool (bK (ile a b) false true))=_;rw[oS,qW];congr 2;rw[Cb];simp
theorem aFG(e:oZ)(k:IntKind)(a b:Int):eY .geq e (.int k a) (.int k b)=some (.bool (decide (b≤a))):=by
 show dB .geq k a k b=_;unfold dB;rw[show eE .geq=false from rfl,aU,eI,aP];show some (AV.bool (ile b a))=_;rw[oS]
theorem aCO(e:oZ)(k:IntKind)(a b:Int):eY .eql e (.int k a) (.int k b)=some (.bool (decide (a=b))):=by
 show dB .eql k a k b=_;unfold dB;rw[show eE .eql=false from rfl,aU,eI,aP];show some (AV.bool (ieq a b))=_;rw[kG];congr 2
theorem aFO(e:oZ)(k:IntKind)(a b:Int):eY .neq e (.int k a) (.int k b)=some (.bool (decide (a≠b))):=by
 show dB .neq k a k b=_;unfold dB;rw[show eE .neq=false from rfl,aU,eI,aP];show some (AV.bool (bK (ieq a b) false true))=_;rw[kG,qW];congr 2;rw[Cb];simp
section
variable (F:Fr)(h:T AB)
theorem aFH(x:cF):gT (.mv x) F h=some (x.val F):=rfl
theorem aCS(op:BinOp)(e:oZ)(x y:cF):gT (.bin op e x y) F h=eY op e (x.val F) (y.val F):=rfl
theorem aFs(op:UnOp)(x:cF):gT (.un op x) F h=unV op (x.val F):=rfl
theorem xT(x:cF):gT (.lenSl x) F h=kJ (x.val F):=rfl
theorem oE(k:IxK)(x ix:cF):gT (.iaddr k x ix) F h=aZ (eZ (ix.val F)) fun i=>eJ k (x.val F) i:=rfl
theorem mD(agg:Bool)(n:Nat)(x:cF):gT (.ld agg n x) F h=cE (x.val F) agg n h:=rfl
theorem aDF(k:aHz)(x:cF):gT (.conv k x) F h=wZ k (x.val F) h:=rfl
theorem xA(x:cF)(i:Nat):gT (.extract x i) F h=lH (x.val F) i:=rfl
theorem aD1(c a b:cF):gT (.pick c a b) F h=xB (c.val F) a b F:=rfl
theorem aFn(agg:Bool)(off n:Nat)(x:cF):gT (.fld agg off n x) F h=aHM (x.val F) agg off n:=rfl
end
theorem aG(k:IntKind)(n:Nat):eZ (.int k (n:Int))=some n:=rfl
theorem aDS(k j:IntKind)(n:Int)(h:T AB):wZ (.int k) (.int j n) h=some (.int k (k.wrap n)):=by
 show some (AV.int k (aET k n))=_;rw[tB]
end Go.Ev
namespace Go.Ev
variable {fns:T cW}
def jT{α:Type}(x:Option α)(Q:α→Prop):Prop:=∃a,x=some a∧Q a
theorem eS{α:Type}(a:α)(Q:α→Prop):jT (some a) Q=Q a:=propext ⟨fun⟨_,h1,h2⟩=>by cases h1;exact h2,fun h=>⟨a,rfl,h⟩⟩
theorem aIv{d:Option Nat}{q:QOp}{m:Nat}{l:List AO}{F:Fr}{S:St}{Q:Fr→St→Prop}:uZ fns (⟨d,.q q,none,m⟩::l) F S Q↔jT (gT q F S.h) fun v=>uZ fns l (cB d F v) S Q:=by
 constructor
 ·rintro⟨n,F',S',h1,h2⟩;rw[fX] at h1;obtain⟨r,h3,h4⟩:=aJ h1;obtain⟨v,h5,h6⟩:=aJ (show aZ (gT q F S.h) (fun v=>some (cB d F v,S))=some r from h3);cases h6;exact⟨v,h5,n,F',S',h4,h2⟩
 ·rintro⟨v,h1,h2⟩;exact aLK h1 h2
theorem aBQ{d:Option Nat}{a:vZ}{m:Nat}{l:List AO}{F:Fr}{S:St}{Q:Fr→St→Prop}:uZ fns (⟨d,.a a,none,m⟩::l) F S Q↔jT (xL a F S.nx) fun r=>uZ fns l (cB d F r.1) ⟨S.h.set S.nx (some r.2),S.nx+1⟩ Q:=by
 constructor
 ·rintro⟨n,F',S',h1,h2⟩;rw[fX] at h1;obtain⟨r,h3,h4⟩:=aJ h1;obtain⟨v,h5,h6⟩:=aJ (show aZ (xL a F S.nx) (fun r=>some (cB d F r.1,(⟨S.h.set S.nx (some r.2),Nat.succ S.nx⟩:St)))=some r from h3);cases h6;exact⟨v,h5,n,F',S',h4,h2⟩
 ·rintro⟨⟨v,bl⟩,h1,h2⟩;exact aPs h1 h2
def yV(fns:T cW)(ops:List AO)(i base:Nat)(D:DS)(Q:DS→Prop):Prop:=∃n D',yP ops i base (ev fns n).call D=some D'∧Q D'
theorem uO{ops:List AO}{A:bH}{S:St}{Q:Out→bH→St→Prop}(h:yV fns ops 0 S.nx ⟨A.F,⟨S.h,S.nx+ops.length⟩,[],[],[]⟩ fun D=>fM S.h D.hs.reverse D.ls=true∧Q .normal ⟨D.F,A.inr⟩ ⟨(cA (2 ^ ops.length - 1) D.ps D.S.h).2,D.S.nx⟩):nO fns (.drw ops) A S Q:=by
 obtain⟨n,D,h1,h2,h3⟩:=h;refine⟨n+1,.normal,⟨D.F,A.inr⟩,⟨(cA (2 ^ ops.length - 1) D.ps D.S.h).2,D.S.nx⟩,?_,h3⟩;show aZ (aZ (yP ops 0 S.nx (ev fns n).call ⟨A.F,⟨S.h,S.nx+jJ ops⟩,[],[],[]⟩) fun D=>aA8 S.h (jJ ops) D) _=_;rw[dZ,h1,aM];unfold aA8;rw[h2,aP];rfl
theorem jP{i base:Nat}{D:DS}{Q:DS→Prop}:yV fns [] i base D Q↔Q D:=
 ⟨fun⟨_,_,h1,h2⟩=>by cases h1;exact h2,fun h=>⟨0,D,rfl,h⟩⟩
theorem oY{d:Option Nat}{q:QOp}{m i base:Nat}{l:List AO}{D:DS}{Q:DS→Prop}:yV fns (⟨d,.q q,none,m⟩::l) i base D Q↔
  jT (gT q D.F D.S.h) fun v=>yV fns l (i+1) base ⟨cB d D.F v,D.S,D.ps,D.hs,bK (dO q) (⟨q,D.F,v,i,m⟩::D.ls) D.ls⟩ Q:=by
 constructor
 ·rintro⟨n,D',h1,h2⟩;obtain⟨r,h3,h4⟩:=aJ (show aZ (tW ⟨d,.q q,none,m⟩ i base (ev fns n).call D) (fun D'=>yP l (i+1) base (ev fns n).call D')=some D' from h1);obtain⟨v,h5,h6⟩:=aJ (show aZ (gT q D.F D.S.h) (fun v=>some (⟨cB d D.F v,D.S,D.ps,D.hs,bK (dO q) (⟨q,D.F,v,i,m⟩::D.ls) D.ls⟩:DS))=some r from h3);cases h6;exact⟨v,h5,n,D',h4,h2⟩
 ·rintro⟨v,h1,n,D',h2,h3⟩;refine⟨n,D',?_,h3⟩;show aZ (aZ (gT q D.F D.S.h) _) _=_;rw[h1];exact h2
theorem aIr{d:Option Nat}{a:vZ}{m i base:Nat}{l:List AO}{D:DS}{Q:DS→Prop}:yV fns (⟨d,.a a,none,m⟩::l) i base D Q↔
  jT (xL a D.F (base+i)) fun r=>yV fns l (i+1) base ⟨cB d D.F r.1,D.S,⟨i,base+i,r.2⟩::D.ps,D.hs,D.ls⟩ Q:=by
 constructor
 ·rintro⟨n,D',h1,h2⟩;obtain⟨r,h3,h4⟩:=aJ (show aZ (tW ⟨d,.a a,none,m⟩ i base (ev fns n).call D) (fun D'=>yP l (i+1) base (ev fns n).call D')=some D' from h1);obtain⟨v,h5,h6⟩:=aJ (show aZ (xL a D.F (base+i)) (fun r=>some (⟨cB d D.F r.1,D.S,⟨i,base+i,r.2⟩::D.ps,D.hs,D.ls⟩:DS))=some r from h3);cases h6;exact⟨v,h5,n,D',h4,h2⟩
 ·rintro⟨r,h1,n,D',h2,h3⟩;refine⟨n,D',?_,h3⟩;show aZ (aZ (xL a D.F (base+i)) _) _=_;rw[h1];exact h2
theorem qB{d:Option Nat}{x:XOp}{m i base:Nat}{l:List AO}{D:DS}{Q:DS→Prop}{v:AV}{S1:St}(hl:kD D.hs m=true)(h:∀call,evX x call D.F ⟨(cA m D.ps D.S.h).2,D.S.nx⟩=some (v,S1))
  (hq:yV fns l (i+1) base ⟨cB d D.F v,S1,(cA m D.ps D.S.h).1,(i,m,S1.h)::D.hs,D.ls⟩ Q):yV fns (⟨d,.x x,none,m⟩::l) i base D Q:=by
 obtain⟨n,D',h2,h3⟩:=hq;refine⟨n,D',?_,h3⟩;show aZ (bK (kD D.hs m) (aZ (evX x (ev fns n).call D.F ⟨(cA m D.ps D.S.h).2,D.S.nx⟩) _) none) _=_;rw[hl,aP,h];exact h2
theorem aD0{d:Option Nat}{f:cF}{args:List cF}{m i base:Nat}{l:List AO}{D:DS}{Q:DS→Prop}(hl:kD D.hs m=true)
  (h:fB fns (f.val D.F) (dF args D.F) ⟨(cA m D.ps D.S.h).2,D.S.nx⟩ fun v S1=>yV fns l (i+1) base ⟨cB d D.F v,S1,(cA m D.ps D.S.h).1,(i,m,S1.h)::D.hs,D.ls⟩ Q):yV fns (⟨d,.x (.call f args),none,m⟩::l) i base D Q:=by
 obtain⟨n,v,S1,h1,k,D',h2,h3⟩:=h;refine⟨max n k,D',?_,h3⟩;show aZ (bK (kD D.hs m) (aZ ((ev fns (max n k)).call (f.val D.F) (dF args D.F) ⟨(cA m D.ps D.S.h).2,D.S.nx⟩) _) none) _=_;rw[hl,aP,(jO fns (Ew n k)).call _ _ _ _ h1];exact tQ (jO fns (Eq n k)).call h2
theorem dG(k:IntKind)(a:Int):bW (.int k a) (.int k a)=true:=by simp [bW,bU,eI,kG]
theorem aB3(a:Bool):bW (.bool a) (.bool a)=true:=by simp [bW,uG]
theorem aD3(a b:Nat):bW (.ptr a b) (.ptr a b)=true:=by simp [bW,bU,Aw]
theorem uS(a b c d:Nat)(o:Bool):bW (.sl a b c d o) (.sl a b c d o)=true:=by simp [bW,Aw,uG]
theorem aAg:bW .nilsl .nilsl=true:=rfl
end Go.Ev
namespace Go.Ev
def zD(S:St):Prop:=∀b,S.nx≤b→S.h.get b=none
def Frs(S S':St):Prop:=(zD S→zD S')∧S.nx≤S'.nx
theorem aKF(S:St)(x:Option AB):Frs S ⟨S.h.set S.nx x,S.nx+1⟩:=
 ⟨fun h c hc=>by simp only at hc ⊢;rw[T.get_set,if_neg (by omega)];exact h c (by omega),Nat.le_succ _⟩
end Go.Ev
namespace Go.Ev
variable {P:Program}{σ:Env}{S:St}{w:World}
def aFU:List (Nat×Nat×IntKind×Int)→AC
 | []=>.seq (.reg [⟨some 0,.q (.mv (.c (.bool true))),none,0⟩]) .ret
 | (g,j,k,z)::l=>.seq (.reg [⟨some 1,.q (.ld false 1 (.c (.ptr g j))),none,0⟩,⟨some 2,.q (.bin .eql (.p .int) (.t 1) (.c (.int k z))),none,0⟩]) (.seq (.cond (.t 2) .skip (.exit 0)) (aFU l))
def aBv(l:List (Nat×Nat×IntKind×Int)):cW:=⟨0,[.t 0],aFU l⟩
theorem aI7{fns:T cW}{Q:Out→bH→St→Prop}(hQ:∀A,aH 0 A.F= .bool true→Q .ret A S):∀ {l:List (Nat×Nat×IntKind×Int)} {A:bH},(∀c∈l,jL S.h c.1 c.2.1=some (.int c.2.2.1 c.2.2.2))→nO fns (aFU l) A S Q
 | [],A,_=>by
  refine aC (aF ?_);rw[aIv];exact⟨.bool true,rfl,(aAP).2 (aR (hQ _ (by rw[bQ,if_pos rfl])))⟩
 | (g,j,k,z)::l,A,h=>by
  have h1:=h (g,j,k,z) (by simp);simp only at h1;refine aC (aF (aLK (v:=.int k z) h1 (aLK (v:=.bool true) ?_ (aAP.2 ?_))))
  ·show eY .eql (.p .int) (aH 1 (cB (some 1) A.F (.int k z))) (.int k z)=_;rw[bQ,if_pos rfl,aCO,Ab rfl]
  refine aC (aIs (t:=true) (by show aH 2 _=_;rw[bQ,if_pos rfl]) (fun _=>aI ?_) (fun h=>by cases h));exact aI7 hQ fun c hc=>h c (by simp [hc])
theorem aKM{fns:T cW}{id:Nat}{l:List (Nat×Nat×IntKind×Int)}(hfn:fns.get id=some (aBv l))(h:∀c∈l,jL S.h c.1 c.2.1=some (.int c.2.2.1 c.2.2.2)):fB fns (.fn id [] []) [] S fun r S'=>r= .bool true∧S'=S:=by
 refine bN hfn (by simp) (aI7 (fun A hA=>?_) h);exact⟨[aH 0 A.F],rfl,by rw[hA];rfl,rfl⟩
theorem aFY{v:AV}{k:IntKind}{z:Int}(h:eY .eql (.p .int) v (.int k z)=some (.bool true)):v= .int k z:=by
 cases v with
 | int k' z'=>
  have h':dB .eql k' z' k z=some (.bool true):=h;unfold dB at h';rw[show eE .eql=false from rfl,aU] at h';obtain⟨hk,h'⟩:=bM h';have hz:some (AV.bool (ieq z' z))=some (.bool true):=h';simp only[Ak,AV.bool.injEq] at hz;rw[kG] at hz;have hz:=eq_of_beq hz;subst hz;have hkk:k'=k:=by
   cases k<;>cases k'<;>first | rfl | (exfalso;revert hk;decide)
  rw[hkk]
 | _=>cases h
theorem aGW{fns:T cW}:∀ {l:List (Nat×Nat×IntKind×Int)} {n:Nat} {A A':bH} {S':St} {o:Out},(ev fns n).code (aFU l) A S=some (o,A',S')→(∀i,o≠ .exit i)→(∀c∈l,jL S.h c.1 c.2.1=some (.int c.2.2.1 c.2.2.2))∧S'=S∧aH 0 A'.F= .bool true
 | l,0,_,_,_,_,h,_=>by cases h
 | l,1,A,A',S',o,h,_=>by
  cases l with
  | nil=>
   have h':(none:Option (Out×bH×St))=some (o,A',S'):=h;cases h'
  | cons c l=>
   obtain⟨g,j,k,z⟩:=c;have h':(none:Option (Out×bH×St))=some (o,A',S'):=h;cases h'
 | [],n+2,A,A',S',o,h,ho=>by
  obtain⟨⟨o1,A1,S1⟩,h1,h2⟩:=aJ (show aZ ((ev fns (n+1)).code (.reg [⟨some 0,.q (.mv (.c (.bool true))),none,0⟩]) A S) (tH .ret (ev fns (n+1)))=some (o,A',S') from h);have e1:(ev fns (n+1)).code (.reg [⟨some 0,.q (.mv (.c (.bool true))),none,0⟩]) A S=some (.normal,⟨cB (some 0) A.F (.bool true),A.inr⟩,S):=rfl;rw[e1] at h1;cases h1;have e2:tH .ret (ev fns (n+1)) (.normal,⟨cB (some 0) A.F (.bool true),A.inr⟩,S)=some (.ret,⟨cB (some 0) A.F (.bool true),A.inr⟩,S):=rfl;rw[e2] at h2;cases h2;exact⟨fun c hc=>(by cases hc),rfl,by rw[bQ,if_pos rfl]⟩
 | (g,j,k,z)::l,n+2,A,A',S',o,h,ho=>by
  obtain⟨⟨o1,A1,S1⟩,h1,h2⟩:=aJ (show aZ ((ev fns (n+1)).code (.reg [⟨some 1,.q (.ld false 1 (.c (.ptr g j))),none,0⟩,⟨some 2,.q (.bin .eql (.p .int) (.t 1) (.c (.int k z))),none,0⟩]) A S) (tH (.seq (.cond (.t 2) .skip (.exit 0)) (aFU l)) (ev fns (n+1)))=some (o,A',S') from h);obtain⟨⟨F1,S2⟩,h3,h4⟩:=aJ (show aZ (vK [⟨some 1,.q (.ld false 1 (.c (.ptr g j))),none,0⟩,⟨some 2,.q (.bin .eql (.p .int) (.t 1) (.c (.int k z))),none,0⟩] (ev fns n).call A.F S) (fun r=>some (.normal,(⟨r.1,A.inr⟩:bH),r.2))=some (o1,A1,S1) from h1);cases h4;rw[fX] at h3;obtain⟨⟨F2,S3⟩,h5,h6⟩:=aJ h3;obtain⟨v,hv,h7⟩:=aJ (show aZ (jL S.h g j) (fun v=>some (cB (some 1) A.F v,S))=some (F2,S3) from h5);cases h7;rw[fX] at h6;obtain⟨⟨F4,S4⟩,h8,h9⟩:=aJ h6;cases h9;obtain⟨b,hb,h10⟩:=aJ (show aZ (eY .eql (.p .int) (aH 1 (cB (some 1) A.F v)) (.int k z)) (fun u=>some (cB (some 2) (cB (some 1) A.F v) u,S))=some (F4,S4) from h8);cases h10;rw[bQ,if_pos rfl] at hb;have h2:(ev fns (n+1)).code (.seq (.cond (.t 2) .skip (.exit 0)) (aFU l)) ⟨cB (some 2) (cB (some 1) A.F v) b,A.inr⟩ S=some (o,A',S'):=h2;obtain⟨⟨o5,A5,S5⟩,k1,k2⟩:=aJ (show aZ ((ev fns n).code (.cond (.t 2) .skip (.exit 0)) ⟨cB (some 2) (cB (some 1) A.F v) b,A.inr⟩ S) (tH (aFU l) (ev fns n))=some (o,A',S') from h2);cases n with
  | zero=>cases k1
  | succ n=>
   have k1:aCw (aH 2 (cB (some 2) (cB (some 1) A.F v) b)) .skip (.exit 0) (ev fns n) ⟨cB (some 2) (cB (some 1) A.F v) b,A.inr⟩ S=some (o5,A5,S5):=k1;rw[bQ,if_pos rfl] at k1;cases b with
   | bool t=>
    have k1:(ev fns n).code (bK t .skip (.exit 0)) ⟨cB (some 2) (cB (some 1) A.F v) (.bool t),A.inr⟩ S=some (o5,A5,S5):=k1;cases t with
    | true=>
     rw[aP] at k1;cases n with
     | zero=>cases k1
     | succ n=>
      have e:(ev fns (n+1)).code .skip ⟨cB (some 2) (cB (some 1) A.F v) (.bool true),A.inr⟩ S=some (.normal,⟨cB (some 2) (cB (some 1) A.F v) (.bool true),A.inr⟩,S):=rfl;rw[e] at k1;cases k1;have ih:=aGW (l:=l) (show(ev fns (n+1+1)).code (aFU l) _ S=some (o,A',S') from k2) ho;refine⟨fun c hc=>?_,ih.2⟩;rcases Bq.1 hc with rfl | hc
      ·rw[hv,aFY hb]
      ·exact ih.1 c hc
    | false=>
     rw[aU] at k1;cases n with
     | zero=>cases k1
     | succ n=>
      have e:(ev fns (n+1)).code (.exit 0) ⟨cB (some 2) (cB (some 1) A.F v) (.bool false),A.inr⟩ S=some (.exit 0,⟨cB (some 2) (cB (some 1) A.F v) (.bool false),A.inr⟩,S):=rfl;rw[e] at k1;cases k1;have k2:some (Out.exit 0,(⟨cB (some 2) (cB (some 1) A.F v) (.bool false),A.inr⟩:bH),S)=some (o,A',S'):=k2;cases k2;exact absurd rfl (ho 0)
   | _=>cases k1
theorem aJw{fns:T cW}{l:List (Nat×Nat×IntKind×Int)}{n:Nat}{S':St}{v:AV}(h:wH (aBv l) [] (ev fns n) S=some (v,S')):(∀c∈l,jL S.h c.1 c.2.1=some (.int c.2.2.1 c.2.2.2))∧S'=S∧v= .bool true:=by
 unfold wH at h;obtain⟨_,h⟩:=bM h;obtain⟨⟨o,A',S1⟩,h1,h2⟩:=aJ h;unfold aFm at h2;split at h2
 ·cases h2
 ·rename_i hne;obtain⟨vs,h3,h4⟩:=aJ h2;cases h4;obtain⟨k1,k2,k3⟩:=aGW (show(ev fns n).code (aFU l) ⟨.e,false⟩ S=some (o,A',S1) from h1) (fun i e=>hne i e);refine⟨k1,k2,?_⟩;have:some [aH 0 A'.F]=some vs:=h3;cases this;exact k3
def aBo:Nat→Nat→List (IntKind×Int)→List (Nat×Nat×IntKind×Int)
 | _,_,[]=>[]
 | g,j,(k,z)::l=>(g,j,k,z)::aBo g (j+1) l
theorem aDU:∀ {l:List (IntKind×Int)} {g j i:Nat} {k:IntKind} {z:Int},l[i]? =some (k,z)→(g,j+i,k,z)∈aBo g j l
 | [],_,_,_,_,_,h=>by simp at h
 | (k,z)::l,g,j,0,k',z',h=>by
  simp at h;obtain⟨rfl,rfl⟩:=h;simp [aBo]
 | (k,z)::l,g,j,i+1,k',z',h=>by
  have:=aDU (g:=g) (j:=j+1) (show l[i]? =some (k',z') by simpa using h);rw[show j+(i+1)=j+1+i by omega];exact Cl _ this
def lK:List (Nat×List (IntKind×Int))→List (Nat×Nat×IntKind×Int)
 | []=>[]
 | (g,l)::r=>aBo g 0 l++lK r
theorem aA2:∀ {t:List (Nat×List (IntKind×Int))} {g:Nat} {l:List (IntKind×Int)},(g,l)∈t→∀c∈aBo g 0 l,c∈lK t
 | (g',l')::t,g,l,h,c,hc=>by
  simp only[lK,Bj];rcases Bq.1 h with h | h
  ·cases h;exact .inl hc
  ·exact .inr (aA2 h c hc)
theorem aGl(hR:jF P σ S w){t:List (Nat×List (IntKind×Int))}(hg:∀x∈t,x.1<P.globals.size∧x.2≠ [])(h:∀c∈lK t,jL S.h c.1 c.2.1=some (.int c.2.2.1 c.2.2.2)):aIq P (t.map fun x=>(x.1,x.2.map fun y=>AV.int y.1 y.2)) w:=by
 intro x hx;obtain⟨⟨g,l⟩,hgl,rfl⟩:=Ee.1 hx;obtain⟨h1,h2⟩:=hg _ hgl;have hc:∀i k z,l[i]? =some (k,z)→jL S.h g i=some (.int k z):=fun i k z hi=>by
  have:=h _ (aA2 hgl _ (aDU (g:=g) (j:=0) hi));simpa using this
 obtain⟨⟨k0,z0⟩,l',rfl⟩:∃a l',l=a::l':=by cases l with | nil=>exact absurd rfl h2 | cons a l'=>exact⟨a,l',rfl⟩
 have h0:=hc 0 k0 z0 rfl;unfold jL cK at h0;obtain⟨cs,h3,h4⟩:=aJ h0;obtain⟨bl,h5,h6⟩:=aJ h3;obtain⟨L,h7,h8,h9⟩:=hR.blk g bl h5;rw[hR.glob g h1] at h7;cases h7;have hcs:∀i k z,((k0,z0)::l')[i]? =some (k,z)→cs[i]? =some (AV.int k z):=fun i k z hi=>by
  have:=hc i k z hi;unfold jL cK at this;rw[h5,aM,h6,aM,kA] at this;exact this
 have key:∀Cs,gC P σ cs Cs→w.rangeAt g 0 Cs→∃Ds,gC P (aDu P) (((k0,z0)::l').map fun y=>AV.int y.1 y.2) Ds∧(∀u∈Ds,u.oneCell'=true)∧w.rangeAt g 0 Ds:=by
  intro Cs hC hr;refine⟨((k0,z0)::l').map fun y=>Value.int y.1 y.2,?_,fun u hu=>?_,fun j v hv=>?_⟩
  ·clear hcs hc hg h h0 hgl hx h2;generalize (k0,z0)::l'=m
   induction m with
   | nil=>exact cG.2 rfl
   | cons a m ih=>exact cI.2 ⟨_,_,rfl,by simp only[Rv],ih⟩
  ·obtain⟨y,_,rfl⟩:=Ee.1 hu;rfl
  ·rw[Bc,Ap] at hv;obtain⟨⟨k,z⟩,hkz,rfl⟩:=hv;have h10:=hcs j k z hkz;obtain⟨V,hV,hVV⟩:=hC.get h10;simp only[Rv] at hVV;rw[←hVV];exact hr j V hV
 refine⟨h1,by simpa using h8,?_⟩;cases bl with
 | cells ds o s=>
  simp only[jE,Ak] at h6;subst h6;obtain⟨Cs,q1,_,q3,_⟩:=h9;exact key Cs q1 q3
 | ro ds=>
  simp only[jE,Ak] at h6;subst h6;obtain⟨Cs,q1,_,q3⟩:=h9;exact key Cs q1 q3
 | _=>cases h6
theorem aFS{l:List (Nat×List AV)}{σ':Env}{S':St}{w':World}(hR:jF P σ S w)(h:fZ P (aDu P) (stL P l) w σ' S' w'):fZ P σ S w σ S w':=by
 have hk:∀r,r<w.heap.size→w'.heap[r]? =w.heap[r]? :=fun r hr=>h.keep r hr (aQT r);refine⟨⟨fun b bl hb=>?_,hR.lt,hR.fresh,hR.glob,hR.inj⟩,fun _ _=>rfl,Ah _,fun r hr _=>hk r hr,fun _ ho=>.inl ho,h.size,h.os,h.tape,h.output,fun _ _ hb=>hb⟩;obtain⟨L,q1,q2,q3⟩:=hR.blk b bl hb;exact⟨L,q1,Ae q2 h.size,q3.frame (fun _ _ x=>x) (hk _ q2)⟩
theorem aEn{fns:T cW}{id nt:Nat}{res:List RV}{c:AC}{Fn:Func}{t:List (Nat×List (IntKind×Int))}{l:List (Nat×List AV)}(hFn:P.funcs[id]? =some Fn)(hc:cFn P Fn=some ⟨nt,res,c⟩)(hl:l=t.map fun x=>(x.1,x.2.map fun y=>AV.int y.1 y.2))(hg:∀x∈t,x.1<P.globals.size∧x.2≠ [])
  (h:Good P c ⟨.e,false⟩ (stL P l) fun o A S=>aJx res o A S=some true):aJp P fns id (aBv (lK t)):=by
 obtain⟨C,c',rs,hbody,hname,hC,hrs,heq⟩:=aDq hc;cases heq;refine⟨rfl,⟨Fn,C,hFn,hbody,hname⟩,fun n S S' v hrun σ w fv hf hR=>?_⟩;obtain⟨hloads,hS',hv⟩:=aJw hrun;subst hS';subst hv;have hT:aIq P l w:=by rw[hl];exact aGl hR hg hloads
 simp only[Rv] at hf;obtain⟨A,B,rfl,hA,hB⟩:=hf;have hA:=cG.1 hA;have hB:=cG.1 hB;subst hA;subst hB;rw[lQ hFn hbody hname];show CallsIn Fence.wide 0 P id ⟨[]++([]++ [])⟩ w _;refine callsIn_of_wp_marks hFn hbody trivial ?_;obtain⟨hfr,hsz⟩:=aDE (P:=P) (σ:=aDu P) (args:=[]) (Args:=[]) (cG.2 rfl) (nt:=Fn.ntmps) (Cj _);rw[←aFQ];refine h none 0 Fn.ntmps C hC (fun _=>rfl) w.heap.size (aDu P) _ w _ hsz Df.nil (Ah _) hfr (aPy hT) ?_;intro o A' S2 σ' a' w' hret hinr hsz' hdf hfr' hext;obtain⟨hoo,hres⟩:=aJX hret;obtain⟨_,rks,hd,hnd,hmk⟩:=hdf;have fin:∀w'',fZ P (aDu P) (stL P l) w σ' S2 w''→∃V,(Go.results Fn a'.tmps).run P w''= .ok V w''∧∃σ',Rv P σ' (.bool true) V∧fZ P σ S' w σ' S' w'':=fun w'' hx=>by
  obtain⟨Vs,h8,h9⟩:=oL hx.rep hfr' hrs hres;refine⟨if h:Vs.toArray.size=1 then Vs.toArray[0] else .tuple Vs.toArray,?_,σ,?_,aFS hR hx⟩
  ·show((do let vs ←Fn.results.mapM (aEX a'.tmps);pure (if h:vs.size=1 then vs[0] else .tuple vs):Sem Value)).run P w''=_;rw[Array.mapM_eq_mapM_toList];simp only[Sem.run_bind,Sem.run_map,h8,Result.andThen_ok,Sem.run_pure]
  ·have:=aB9 h9;simp only[oneOf,Rv] at this;rw[this];simp only[Rv]
 rcases hoo with rfl | rfl
 ·show LeavesInM Fence.wide 0 P Fn a'.tmps _ a'.defers .returning w';rw[hd];exact leaves rks w' hnd hmk hext fin
 ·show LeavesInM Fence.wide 0 P Fn a'.tmps _ a'.defers .returning w';rw[hd];exact leaves rks w' hnd hmk hext fin
theorem aFz{l:List (Nat×cW)}(hmix:P.follows .mixedOrders=true)(hl:∀p∈l,Row P p∨aJp P (table l) p.1 p.2):rC P (table l):=
 ⟨asked P,uR P,fun id fn h=>by
  rcases hl _ (aB2 h) with⟨Fn,h1,h2⟩ | h1
  ·exact .inl ⟨Fn,h1,h2⟩
  ·exact .inr h1,fun call hcall=>aCf (asked P) (uR P) hmix call hcall⟩
end Go.Ev
namespace Go.Ev
variable {P:Program}{σ:Env}{S:St}{w:World}
def zC(S:St):Prop:=∀b bl,S.h.get b=some bl→¬vR bl
def aAf(σ:Env)(b:Nat)(L:Loc):Env:=fun c=>if c=b then some L else σ c
theorem aOi(hR:jF P σ S w)(L:Loc):∀b M,σ b=some M→aAf σ S.nx L b=some M:=fun b M h=>by
 have:=hR.below h;unfold aAf;rw[if_neg (by omega)];exact h
structure pE(P:Program)(σ:Env)(S:St)(w:World)(σ':Env)(S':St):Prop where
 rep:jF P σ' S' w
 no:zC S'
 same:Same S S'
 fresh:zD S'
 le:∀b L,σ b=some L→σ' b=some L
theorem pE.refl(hR:jF P σ S w)(hn:zC S)(hf:zD S):pE P σ S w σ S:=⟨hR,hn,Same.refl S,hf,fun _ _ h=>h⟩
theorem pE.trans{σ' σ'':Env}{S' S'':St}(h:pE P σ S w σ' S')(h':pE P σ' S' w σ'' S''):pE P σ S w σ'' S'':=⟨h'.rep,h'.no,h.same.trans h'.same,h'.fresh,fun b L hb=>h'.le b L (h.le b L hb)⟩
theorem aOC(hn:zC S)(r:Nat):¬Own σ S r:=fun⟨b,bl,_,h1,h2,_⟩=>hn b bl h1 h2
theorem aKw{fns:T cW}(hK:rC P fns){id:Nat}{b:Bool}{Fn:Func}(hFn:P.funcs[id]? =some Fn)(hb:Fn.body.isSome=true)(hnm:(Fn.name== "runtime.NumGoroutine")=false){avs:List AV}{Args:List Value}{Q:St→Prop}
  (h:fB fns (.fn id [] []) avs S fun r S'=>r= .bool b∧Q S') (hargs:gC P σ avs Args) (hR:jF P σ S w) (hn:zC S):
  Calls P id ⟨Args⟩ w fun e w'=>e= .returned (.bool b)∧Kept w w':=by
 obtain⟨n,v,S',hrun0,hv,_⟩:=h;subst hv;have hs:=aLn hK n _ _ _ _ _ hrun0 σ w (.func (.func id) ⟨[]⟩ ⟨[]⟩) Args (by simp only[Rv];exact⟨[],[],rfl,cG.2 rfl,cG.2 rfl⟩) hargs hR;have hnm':¬Fn.name= "runtime.NumGoroutine" :=by simpa using hnm
 obtain⟨C,hC⟩:=Option.isSome_iff_exists.1 hb;have hrun:((do let d ←Deferred.ofValue (.func (.func id) ⟨[]⟩ ⟨[]⟩) ⟨Args⟩;invoke d.target d.args:Sem Next)).run P w= .ok (.enter id ⟨Args⟩) w:=by
  simp only[Deferred.ofValue,Sem.run_bind,Sem.run_pure,Result.andThen_ok,invoke,callFunc,run_program,hFn];simp [hC,hnm']
 rw[hrun] at hs;have hs:CallsIn Fence.wide 0 P id ⟨Args⟩ w _:=hs;refine(callsIn_wide.1 hs).mono fun e w' h=>?_;cases e with
 | returned V=>
  obtain⟨σ',h1,h2⟩:=h;simp only[Rv] at h1;subst h1;exact⟨rfl,h2.kept (aOC hn)⟩
 | _=>exact h.elim
theorem aNb{l:List (Nat×List AV)}:zC (stL P l):=fun b bl h ho=>by
 obtain⟨cs,_,rfl⟩:=nR h;exact ho.elim
theorem aMZ{l:List (Nat×List AV)}(hl:∀x∈l,x.1<P.globals.size):zD (stL P l):=fun b hb=>by
 cases h:(stL P l).h.get b with
 | none=>rfl
 | some bl=>
  obtain⟨cs,h1,_⟩:=nR h;have h2:=hl _ h1;simp only[stL] at hb;simp only at h2;omega
end Go.Ev
namespace Go.Ev
variable {P:Program}{σ:Env}{S:St}{w:World}
theorem aJZ(hR:jF P σ S w)(hn:zC S)(hf:zD S)(hG:P.globals.size≤S.nx){r d:Nat}{cs:List AV}{Cs:List Value}(hr:r<w.heap.size)(hc:gC P σ cs Cs)(h1:∀u∈Cs,u.oneCell'=true)(hw:w.rangeAt r d Cs):
  pE P σ S w (aAf σ S.nx ⟨r,d,0⟩) ⟨S.h.set S.nx (some (.ro cs)),S.nx+1⟩:=by
 have hle:=aOi hR ⟨r,d,0⟩;refine⟨⟨fun b bl hb=>?_,fun b bl hb=>?_,fun b hb=>?_,fun g hg=>?_,fun b b' bl bl' L L' hb _ ho=>?_⟩,fun b bl hb=>?_,Same.alloc S _,(aKF S _).1 hf,hle⟩
 ·simp only at hb;rw[T.get_set] at hb;split at hb
  ·rename_i e;subst e;cases hb;exact⟨⟨r,d,0⟩,by unfold aAf;rw[if_pos rfl],hr,Cs,hc.mono hle,h1,hw⟩
  ·obtain⟨L,h1,h2,h3⟩:=hR.blk b bl hb;exact⟨L,hle b L h1,h2,h3.frame hle rfl⟩
 ·simp only at hb;rw[T.get_set] at hb;split at hb
  ·rename_i e;subst e;simp
  ·have:=hR.lt b bl hb;simp only;omega
 ·simp only at hb;unfold aAf;rw[if_neg (by omega)];exact hR.fresh b (by omega)
 ·unfold aAf;rw[if_neg (by omega)];exact hR.glob g hg
 ·simp only at hb;rw[T.get_set] at hb;split at hb
  ·cases hb;exact ho.elim
  ·exact absurd ho (hn b bl hb)
 ·simp only at hb;rw[T.get_set] at hb;split at hb
  ·cases hb;exact fun h=>h
  ·exact hn b bl hb
def Lays(P:Program)(t:TypeId){α:Type}(E:St→List AV→α→Prop):Prop:=
 ∀ (H:Type) (enc:TypeId×Value→H) (σ:Env) (S:St) (w:World) (base:Nat) (spare:Nat→Bool) (held:Bool) (fuel:Nat) (cs:List Value) (x:DataW H×List MemPlace),jF P σ S w→zC S→zD S→P.globals.size≤S.nx→DataW.trod enc P w base spare held fuel t cs=some x→(∀n∈DataW.weights P t x.1,n≤140737488355328)→
  ∃σ' S' avs a,pE P σ S w σ' S'∧gC P σ' avs cs∧(∀u∈cs,u.oneCell'=true)∧E S' avs a∧S.nx≤S'.nx
def oO{α:Type}(E:St→List AV→α→Prop):Prop:=∀ {S S':St} {avs:List AV} {a:α},E S avs a→Same S S'→E S' avs a
def qS(k:IntKind)(_:St)(avs:List AV)(z:Int):Prop:=avs= [.int k z]∧(Lit.int k z).wf=true
theorem iN{k:IntKind}:oO (qS k):=fun h _=>h
theorem aHi{t:TypeId}{k:IntKind}(ht:P.underlying t=some (.int k)):Lays P t (qS k):=by
 intro H enc σ S w base spare held fuel cs x hR hn hf hG h hW;obtain⟨n,rfl,_,hw⟩:=DataW.trod_int ht h;exact⟨σ,S,[.int k n],n,pE.refl hR hn hf,cI.2 ⟨_,_,rfl,by simp only[Rv],cG.2 rfl⟩,fun u hu=>by simp at hu;subst hu;rfl,⟨rfl,hw⟩,Ah _⟩
theorem aCz{H:Type}{e:TypeId}{d:DataW H}{n:Nat}:∀ {l:List (DataW H)},d∈l→n∈DataW.weights P e d→n∈DataW.weightsAll P e l
 | [],h,_=>by cases h
 | x::r,h,hn=>by
  show n∈DataW.weights P e x++DataW.weightsAll P e r;rcases Bq.1 h with rfl | h
  ·exact Eg _ hn
  ·exact Dp _ (aCz h hn)
theorem vD{H:Type}{n:Nat}:∀ {ts:List TypeId} {l:List (DataW H)} {i:Nat} {t:TypeId} {d:DataW H},ts[i]? =some t→l[i]? =some d→n∈DataW.weights P t d→n∈DataW.weightsEach P ts l
 | [],_,_,_,_,h,_,_=>by simp at h
 | _::_,[],_,_,_,_,h,_=>by simp at h
 | u::ts,x::r,0,t,d,h1,h2,hn=>by
  simp at h1 h2;subst h1;subst h2;exact Eg _ hn
 | u::ts,x::r,i+1,t,d,h1,h2,hn=>by
  show n∈DataW.weights P u x++DataW.weightsEach P ts r;exact Dp _ (vD (by simpa using h1) (by simpa using h2) hn)
theorem aEs{H:Type}{t e:TypeId}{xs ys:List (DataW H)}(ht:P.underlying t=some (.slice e)):DataW.weights P t (.slice xs ys)=(xs.length+ys.length) * P.bytesOf e::(DataW.weightsAll P e xs++DataW.weightsAll P e ys):=by
 unfold DataW.weights;rw[ht]
theorem aHn{H:Type}{t:TypeId}{fs:Array Field}{xs:List (DataW H)}(ht:P.underlying t=some (.struct fs)):DataW.weights P t (.agg xs)=DataW.weightsEach P (fs.toList.map (·.type)) xs:=by
 unfold DataW.weights;rw[ht]
def yQ(k:Nat){α:Type}(E:St→List AV→α→Prop)(S:St)(avs:List AV)(l:List α):Prop:=
 ∃av,avs= [av]∧l.length * (8 * k)≤140737488355328∧((l= []∧(av= .nilsl∨av= .emp))∨∃ (b cap:Nat) (css:List (List AV)),av= .sl b 0 l.length cap false∧l.length≤cap∧b<S.nx∧S.h.get b=some (.ro css.flatten)∧css.length=l.length∧∀ (i:Nat) (cs:List AV) (a:α),css[i]? =some cs→l[i]? =some a→cs.length=k∧E S cs a)
theorem firm_sl{k:Nat}{α:Type}{E:St→List AV→α→Prop}(hE:oO E):oO (yQ k E):=by
 rintro S S' avs l ⟨av,rfl,hL,h | ⟨b,cap,css,h1,h2,h3,h4,h5,h6⟩⟩ hs
 ·exact⟨av,rfl,hL,.inl h⟩
 ·exact⟨av,rfl,hL,.inr ⟨b,cap,css,h1,h2,Ae h3 hs.1,(hs.2 b h3).trans h4,h5,fun i cs a hi ha=>⟨(h6 i cs a hi ha).1,hE (h6 i cs a hi ha).2 hs⟩⟩⟩
theorem aLH{a:Addr}{n base:Nat}{cs:List Value}(h:w.cells? base a n=some cs):cs.length=n∧∀i,i<n→w.cell? (a.add i)=cs[i]? :=by
 unfold World.cells? at h;split at h
 ·refine⟨by simpa using mapM_some_length h,fun i hi=>?_⟩;exact mapM_some_get h i i (by simp [hi])
 ·cases h
theorem aDr{e:TypeId}{k:Nat}{α:Type}{E:St→List AV→α→Prop}(hE:Lays P e E)(hF:oO E)(hk:0<k){H:Type}{enc:TypeId×Value→H}{base:Nat}{spare:Nat→Bool}{held:Bool}{fuel:Nat}{a:Addr}(hspot:a.spot=none)
  (hR:jF P σ S w) (hn:zC S) (hf:zD S) (hG:P.globals.size≤S.nx):∀ {m:Nat},(∀i,i<m→∃x,(w.cells? base (a.add (i * k)) k).bind (DataW.trod enc P w base spare held fuel e)=some x∧∀n∈DataW.weights P e x.1,n≤140737488355328)→
  ∃ (σ':Env) (S':St) (css:List (List AV)),∃l:List α,∃Cs:List Value,pE P σ S w σ' S'∧S.nx≤S'.nx∧css.length=m∧l.length=m∧(∀ (i:Nat) (cs:List AV) (a:α),css[i]? =some cs→l[i]? =some a→cs.length=k∧E S' cs a)∧gC P σ' css.flatten Cs∧(∀u∈Cs,u.oneCell'=true)∧Cs.length=m * k∧w.rangeAt a.block a.off Cs
 | 0,_=>⟨σ,S,[],[],[],pE.refl hR hn hf,Ah _,rfl,rfl,fun i cs a hi=>(by simp at hi),cG.2 rfl,fun u hu=>(by cases hu),by simp,fun j v hv=>(by simp at hv)⟩
 | m+1,h=>by
  obtain⟨σ1,S1,css,l,Cs,hA,hn1,hcl,hll,hel,hrv,hone,hlen,hrange⟩:=aDr hE hF hk hspot hR hn hf hG (m:=m) fun i hi=>h i (by omega);obtain⟨x,hx,hxW⟩:=h m (by omega);obtain⟨cs,hcs,hx⟩:=Ei.1 hx;obtain⟨σ2,S2,avs,y,hA2,hrv2,hone2,hE2,hn2⟩:=hE H enc σ1 S1 w base spare held fuel cs x hA.rep hA.no hA.fresh (Ba hG hn1) hx hxW;obtain⟨hcl2,hcell⟩:=aLH hcs;have hal:avs.length=k:=by rw[←hrv2.length];exact hcl2
  refine⟨σ2,S2,css++ [avs],l++ [y],Cs++cs,hA.trans hA2,Ba hn1 hn2,by simp [hcl],by simp [hll],?_,?_,?_,?_,?_⟩
  ·intro i cs' a' hi ha;rw[Di] at hi ha;rw[hcl] at hi;rw[hll] at ha;split at hi
   ·rename_i hlt;rw[if_pos hlt] at ha;exact⟨(hel i cs' a' hi ha).1,hF (hel i cs' a' hi ha).2 hA2.same⟩
   ·rename_i hlt;rw[if_neg hlt] at ha;have him:i - m=0:=by
     rcases Dt (i - m) with h | h
     ·exact h
     ·obtain⟨q,hq⟩:=Nat.exists_eq_succ_of_ne_zero (Nat.pos_iff_ne_zero.1 h);rw[hq] at hi;simp at hi
    rw[him] at hi ha;simp at hi ha;subst hi;subst ha;exact⟨hal,hE2⟩
  ·rw[List.flatten_append];simp only[List.flatten_cons,List.flatten_nil,Cv];exact(hrv.mono hA2.le).append hrv2
  ·intro u hu;rcases Bj.1 hu with hu | hu
   ·exact hone u hu
   ·exact hone2 u hu
  ·rw[Al,hlen,hcl2,Dq]
  ·intro j v hv;rw[Di] at hv;split at hv
   ·exact hrange j v hv
   ·rename_i hlt;have hj:j - Cs.length<k:=by
     have:=(Af.1 hv).1;omega
    have:=hcell (j - Cs.length) hj;rw[hv] at this;rw[←this];congr 1;have hadd:∀i,a.add i=⟨a.block,a.off+i,none⟩:=fun i=>by
     unfold Addr.add;split
     ·rename_i h;subst h;cases a;simp_all
     ·rfl
    have hadd2:∀ (x y:Nat),Addr.add ⟨a.block,x,none⟩ y=⟨a.block,x+y,none⟩:=fun x y=>by
     unfold Addr.add;split
     ·rename_i h;rw[h,Br]
     ·rfl
    rw[hadd,hadd2,hlen];congr 1;rw[hlen] at hlt;omega
theorem aAi{t e:TypeId}{k:Nat}{α:Type}{E:St→List AV→α→Prop}(ht:P.underlying t=some (.slice e))(hc:P.cellsOf e=k)(hk:0<k)(hby:8 * k≤P.bytesOf e)(hE:Lays P e E)(hF:oO E):Lays P t (yQ k E):=by
 intro H enc σ S w base spare held fuel cs x hR hn hf hG h hW;rcases DataW.trod_slice ht h with⟨rfl,_⟩ | ⟨a,len,cap,elems,rest,n,rfl,rfl,hxe,_,hlc,_,hlen,hel,_⟩
 ·exact⟨σ,S,[.nilsl],[],pE.refl hR hn hf,cI.2 ⟨_,_,rfl,by simp only[Rv],cG.2 rfl⟩,fun u hu=>by simp at hu;subst hu;rfl,⟨_,rfl,by simp,.inl ⟨rfl,.inl rfl⟩⟩,Ah _⟩
 ·rw[hc] at hel;subst hxe;have hW:∀n∈DataW.weights P t (.slice (elems.map (·.1)) (rest.map (·.1))),n≤140737488355328:=hW;rw[aEs ht] at hW;have hlw:len * (8 * k)≤140737488355328:=by
   have h1:=hW _ (Ed ..);rw[Ax,hlen,Dz] at h1;exact Ba (Nat.mul_le_mul_left len hby) (by omega)
  rcases Dt len with h0 | hp
  ·subst h0;exact⟨σ,S,[.emp],[],pE.refl hR hn hf,cI.2 ⟨_,_,rfl,by simp only[Rv];exact⟨a,cap,rfl⟩,cG.2 rfl⟩,fun u hu=>by simp at hu;subst hu;rfl,⟨_,rfl,by simp,.inl ⟨rfl,.inr rfl⟩⟩,Ah _⟩
  ·have hget:∀i,i<len→∃x,(w.cells? base (a.add (i * k)) k).bind (DataW.trod enc P w base spare held n e)=some x∧∀n∈DataW.weights P e x.1,n≤140737488355328:=fun i hi=>by
    rw[hel i hi];exact⟨elems[i]'(by omega),Ad (by omega),fun n hn=>hW n (Cl _ (Eg _ (aCz (List.mem_map_of_mem (Co _)) hn)))⟩
   obtain⟨x0,hx0,_⟩:=hget 0 hp;obtain⟨cs0,hcs0,_⟩:=Ei.1 hx0;obtain⟨hl0,hc0⟩:=aLH hcs0;have c0:=hc0 0 hk;rw[Ad (by omega),Ff] at c0;have e0:(a.add 0).add 0=a:=rfl;rw[e0] at c0;have hblk:a.block<w.heap.size∧a.spot=none:=by
    unfold World.cell? at c0;cases hh:w.heap[a.block]? with
    | none=>rw[hh] at c0;cases c0
    | some o=>
     refine⟨(Cf.1 hh).1,?_⟩;rw[hh] at c0;cases o with
     | cells c t fr=>
      simp only at c0;by_cases hs:a.spot.isSome
      ·rw[if_pos hs] at c0;cases c0
      ·simpa using hs
     | _=>cases c0
   obtain⟨σ1,S1,css,l,Cs,hA,hn1,hcl,hll,hE1,hrv,hone,hCl,hrange⟩:=aDr hE hF hk hblk.2 hR hn hf hG hget;have hA2:=aJZ hA.rep hA.no hA.fresh (Ba hG hn1) hblk.1 hrv hone hrange;refine⟨_,_,[.sl S1.nx 0 len cap false],l,hA.trans hA2,cI.2 ⟨_,_,rfl,?_,cG.2 rfl⟩,fun u hu=>by simp at hu;subst hu;rfl,⟨_,rfl,by rw[hll];exact hlw,.inr ⟨S1.nx,cap,css,by rw[hll],by omega,by simp,?_,by rw[hcl,hll],fun i cs a' hi ha=>⟨(hE1 i cs a' hi ha).1,hF (hE1 i cs a' hi ha).2 hA2.same⟩⟩⟩,by simp only;omega⟩
   ·simp only[Rv];refine⟨⟨a.block,a.off,0⟩,by unfold aAf;rw[if_pos rfl],?_⟩;have:=hblk.2;cases a
    simp_all
   ·simp only;rw[T.get_set,if_pos rfl]
def NoE(_:St)(avs:List AV)(_:Unit):Prop:=avs= []
def tU{α β:Type}(E:St→List AV→α→Prop)(R:St→List AV→β→Prop)(S:St)(avs:List AV)(x:α×β):Prop:=∃u v,avs=u++v∧E S u x.1∧R S v x.2
theorem aIJ:oO NoE:=fun h _=>h
theorem mJ{α β:Type}{E:St→List AV→α→Prop}{R:St→List AV→β→Prop}(h1:oO E)(h2:oO R):oO (tU E R):=fun⟨u,v,e,a,b⟩ hs=>⟨u,v,e,h1 a hs,h2 b hs⟩
def aIH(P:Program)(ts:List TypeId){α:Type}(E:St→List AV→α→Prop):Prop:=
 ∀ (H:Type) (enc:TypeId×Value→H) (σ:Env) (S:St) (w:World) (base:Nat) (spare:Nat→Bool) (held:Bool) (fuel off:Nat) (cs:List Value),jF P σ S w→zC S→zD S→P.globals.size≤S.nx→cs.length=off+(ts.map P.cellsOf).sum→
  (∀ (i:Nat) t,ts[i]? =some t→∃x,DataW.trod enc P w base spare held fuel t ((cs.drop (off+((ts.take i).map P.cellsOf).sum)).take (P.cellsOf t))=some x∧∀n∈DataW.weights P t x.1,n≤140737488355328)→
  ∃σ' S' avs a,pE P σ S w σ' S'∧gC P σ' avs (cs.drop off)∧(∀u∈cs.drop off,u.oneCell'=true)∧E S' avs a∧S.nx≤S'.nx
theorem aBB:aIH P [] NoE:=by
 intro H enc σ S w base spare held fuel off cs hR hn hf hG hl h;have:cs.drop off= []:=Dc (by simp at hl;omega);rw[this];exact⟨σ,S,[],(),pE.refl hR hn hf,cG.2 rfl,fun u hu=>(by cases hu),rfl,Ah _⟩
theorem gI{t:TypeId}{ts:List TypeId}{α β:Type}{E:St→List AV→α→Prop}{R:St→List AV→β→Prop}(h1:Lays P t E)(f1:oO E)(h2:aIH P ts R):aIH P (t::ts) (tU E R):=by
 intro H enc σ S w base spare held fuel off cs hR hn hf hG hl h;rw[Cw,List.sum_cons] at hl;obtain⟨x,hx,hxW⟩:=h 0 t rfl;simp only[Bi,List.map_nil,List.sum_nil,Br] at hx;obtain⟨σ1,S1,avs,a,hA,hrv,hone,hE,hn1⟩:=h1 H enc σ S w base spare held fuel _ x hR hn hf hG hx hxW;obtain⟨σ2,S2,avs2,b,hA2,hrv2,hone2,hE2,hn2⟩:=h2 H enc σ1 S1 w base spare held fuel (off+P.cellsOf t) cs hA.rep hA.no hA.fresh (Ba hG hn1) (by omega) (fun i u hi=>by
  obtain⟨y,hy,hyW⟩:=h (i+1) u (by simpa using hi);rw[Bf,Cw,List.sum_cons,←Ck] at hy;exact⟨y,hy,hyW⟩)
 have hsplit:cs.drop off=(cs.drop off).take (P.cellsOf t)++cs.drop (off+P.cellsOf t):=by
  rw[←List.drop_drop,Dn]
 refine⟨σ2,S2,avs++avs2,(a,b),hA.trans hA2,?_,?_,⟨avs,avs2,rfl,f1 hE hA2.same,hE2⟩,Ba hn1 hn2⟩
 ·rw[hsplit];exact(hrv.mono hA2.le).append hrv2
 ·rw[hsplit];intro u hu;rcases Bj.1 hu with hu | hu
  ·exact hone u hu
  ·exact hone2 u hu
theorem wO{t:TypeId}{fs:Array Field}{ts:List TypeId}{α:Type}{E:St→List AV→α→Prop}(ht:P.underlying t=some (.struct fs))(hts:fs.toList.map (·.type)=ts)(hoff:∀i f,fs[i]? =some f→f.offset=((ts.take i).map P.cellsOf).sum)(hc:P.cellsOf t=(ts.map P.cellsOf).sum)(hE:aIH P ts E):Lays P t E:=by
 intro H enc σ S w base spare held fuel cs x hR hn hf hG h hW;obtain⟨xs,n,rfl,hxe,hl,hxs,hfs⟩:=DataW.trod_struct ht h;subst hxe;have hW:∀n∈DataW.weights P t (.agg (xs.map (·.1))),n≤140737488355328:=hW;rw[aHn ht] at hW;obtain⟨σ1,S1,avs,a,hA,hrv,hone,hE1,hn1⟩:=hE H enc σ S w base spare held n 0 cs hR hn hf hG (by omega) (fun i u hi=>by
  have hi0:=hi;rw[←hts,Bc,Ap] at hi;obtain⟨f,hf1,rfl⟩:=hi;have hf2:fs[i]? =some f:=by simpa using hf1
  have h3:=hfs i f hf2;rw[hoff i f hf2] at h3;have hlt:i<xs.length:=by
   rw[hxs];exact(Cf.1 hf2).1
  exact⟨xs[i],by rw[Av,h3,Ad hlt],fun n hn=>hW n (vD (i:=i) (by rw[hts];exact hi0) (by rw[Bc,Ad hlt];rfl) hn)⟩)
 exact⟨σ1,S1,avs,a,hA,by simpa using hrv,by simpa using hone,hE1,hn1⟩
end Go.Ev
namespace Go.Ev
def aQ(k:Nat){α:Type}(E:St→List AV→α→Prop)(S:St)(v:AV)(l:List α):Prop:=
 (l= []∧(v= .nilsl∨v= .emp))∨∃b off cap o cs,v= .sl b off l.length cap o∧l.length≤cap∧b<S.nx∧cK S.h b=some cs∧∀ (i:Nat) (a:α),l[i]? =some a→∃e:List AV,e.length=k∧(∀ (j:Nat) (x:AV),e[j]? =some x→cs[off+i * k+j]? =some x)∧E S e a
theorem aQ.same{k:Nat}{α:Type}{E:St→List AV→α→Prop}(hE:oO E){S S':St}{v:AV}{l:List α}(h:aQ k E S v l)(hs:Same S S'):aQ k E S' v l:=by
 rcases h with h | ⟨b,off,cap,o,cs,h1,hc,h2,h3,h4⟩
 ·exact .inl h
 ·refine .inr ⟨b,off,cap,o,cs,h1,hc,Ae h2 hs.1,by rw[uW hs h2];exact h3,fun i a hi=>?_⟩;obtain⟨e,e1,e2,e3⟩:=h4 i a hi;exact⟨e,e1,e2,hE e3 hs⟩
theorem flat_get{k:Nat}:∀ {css:List (List AV)} {i j:Nat} {cs:List AV} {x:AV},(∀ (i:Nat) (cs:List AV),css[i]? =some cs→cs.length=k)→css[i]? =some cs→cs[j]? =some x→css.flatten[i * k+j]? =some x
 | [],i,j,cs,x,_,hi,_=>by simp at hi
 | c::css,0,j,cs,x,_,hi,hj=>by
  simp at hi;subst hi;rw[Ff,Av,List.flatten_cons,Bu (Af.1 hj).1];exact hj
 | c::css,i+1,j,cs,x,hk,hi,hj=>by
  have hc:=hk 0 c rfl;rw[List.flatten_cons,Dq,Bh (by omega),hc,show i * k+k+j - k=i * k+j by omega];exact flat_get (fun i cs h=>hk (i+1) cs (by simpa using h)) (by simpa using hi) hj
theorem yQ.is{k:Nat}{α:Type}{E:St→List AV→α→Prop}{S:St}{avs:List AV}{l:List α}(h:yQ k E S avs l):∃v,avs= [v]∧aQ k E S v l:=by
 obtain⟨v,rfl,_,h | ⟨b,cap,css,h1,h2,h3,h4,h5,h6⟩⟩:=h
 ·exact⟨v,rfl,.inl h⟩
 ·refine⟨v,rfl,.inr ⟨b,0,cap,false,css.flatten,h1,h2,h3,?_,fun i a hi=>?_⟩⟩
  ·unfold cK;rw[h4];rfl
  ·have hil:i<css.length:=by have:=(Af.1 hi).1;omega
   obtain⟨e1,e2⟩:=h6 i css[i] a (Ad hil) hi;refine⟨css[i],e1,fun j x hj=>?_,e2⟩;rw[Av];exact flat_get (fun i' cs' hi'=>(h6 i' cs' (l[i']'(by have:=(Af.1 hi').1;omega)) hi' (Ad _)).1) (Ad hil) hj
section
variable {k:Nat}{α:Type}{E:St→List AV→α→Prop}{S:St}{v:AV}{l:List α}
theorem aQ.len(h:aQ k E S v l):kJ v=some (.int .i64 ((l.length:Nat):Int)):=by
 rcases h with⟨rfl,rfl | rfl⟩ | ⟨b,off,cap,o,cs,rfl,_⟩<;>rfl
def aLj(k:Nat)(v:AV)(i:Nat):AV:=
 match v with
 | .sl b off _ _ _=>.ptr b (off+i * k)
 | _=>.undef
theorem aQ.iaddr(h:aQ k E S v l){i:Nat}(hi:i<l.length):eJ (.slice k) v i=some (aLj k v i):=by
 rcases h with⟨rfl,_⟩ | ⟨b,off,cap,o,cs,rfl,_⟩
 ·simp at hi
 ·simp only[eJ,aLj];have:Nat.blt i l.length=true:=Aj hi;rw[this,aP]
theorem aQ.get(h:aQ k E S v l){i:Nat}{a:α}(hi:l[i]? =some a):∃ (e:List AV) (b p:Nat),aLj k v i= .ptr b p∧b<S.nx∧e.length=k∧E S e a∧∃cs,cK S.h b=some cs∧∀ (j:Nat) (x:AV),e[j]? =some x→cs[p+j]? =some x:=by
 rcases h with⟨rfl,_⟩ | ⟨b,off,cap,o,cs,rfl,hc,hb,hcs,hel⟩
 ·simp at hi
 ·obtain⟨e,e1,e2,e3⟩:=hel i a hi;exact⟨e,b,off+i * k,rfl,hb,e1,e3,cs,hcs,e2⟩
end
end Go.Ev
