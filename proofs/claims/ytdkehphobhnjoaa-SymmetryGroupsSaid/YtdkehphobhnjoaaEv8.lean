import Derived.Test.YtdkehphobhnjoaaEv7
import Derived.ChangeSlices
import Derived.ChangeArms
import Derived.DataReads
namespace Go.Ev
def rH(c d:dZ):Prop:=∀f args S r,c f args S=some r→d f args S=some r
structure Le(a b:Evs):Prop where
 code:∀c A S r,a.code c A S=some r→b.code c A S=some r
 call:rH a.call b.call
theorem dM{α β:Type}{x y:Option α}{f g:α→Option β}{b:β}(h:aZ x f=some b)(hx:∀a,x=some a→y=some a)(hf:∀a,f a=some b→g a=some b):aZ y g=some b:=by
 obtain⟨a,h1,h2⟩:=aL h;rw[hx a h1];exact hf a h2
theorem aIy{c d:dZ}(h:rH c d){v:AV}{tbl:List (Nat×Nat×Option (Bool×Nat))}{args:List AV}{S:St}{r:AV×St}(hv:aD2 v tbl args c S=some r):aD2 v tbl args d S=some r:=by
 unfold aD2 at hv ⊢;split at hv
 ·refine dM hv (fun _ h=>h) fun a ha=>?_;unfold aGM at ha ⊢;split at ha
  ·exact h _ _ _ _ ha
  ·unfold aDr at ha ⊢;split at ha
   ·exact dM ha (fun _ h=>h) fun _ hb=>h _ _ _ _ hb
   ·cases ha
 ·cases hv
theorem aFy{c d:dZ}(h:rH c d){x:XOp}{F:Fr}{S:St}{r:AV×St}(hv:evX x c F S=some r):evX x d F S=some r:=by
 cases x with
 | call f args=>exact h _ _ _ _ hv
 | inv tbl recv args=>exact aIy h hv
 | _=>exact hv
theorem aIC{c d:dZ}(h:rH c d){o:AO}{F:Fr}{S:St}{r:Fr×St}(hv:aCw o c F S=some r):aCw o d F S=some r:=by
 unfold aCw at hv ⊢;rw[bS] at hv ⊢;split at hv
 ·rename_i hw;rw[if_pos hw];cases ho:o.op with
  | q q=>rw[ho] at hv;exact hv
  | a a=>rw[ho] at hv;exact hv
  | x x=>
   rw[ho] at hv;exact dM (show aZ (evX x c F S) _=some r from hv) (fun _ hx=>aFy h hx) fun _ hb=>hb
 ·rename_i hw;rw[if_neg hw];exact hv
theorem wV{c d:dZ}(h:rH c d):∀ {l:List AO} {F:Fr} {S:St} {r:Fr×St},sE l c F S=some r→sE l d F S=some r
 | [],F,S,r,hv=>hv
 | o::l,F,S,r,hv=>dM (show aZ (aCw o c F S) (fun r=>sE l c r.1 r.2)=some r from hv) (fun _ hx=>aIC h hx) fun _ hb=>wV h hb
theorem aJB{c d:dZ}(h:rH c d){o:AO}{i base:Nat}{D:DS}{r:DS}(hv:sJ o i base c D=some r):sJ o i base d D=some r:=by
 unfold sJ at hv ⊢;rw[bS] at hv ⊢;split at hv
 ·rename_i hw;rw[if_pos hw];cases ho:o.op with
  | q q=>rw[ho] at hv;exact hv
  | a a=>rw[ho] at hv;exact hv
  | x x=>
   rw[ho] at hv;obtain⟨h1,h2⟩:=bK (show bL (lJ D.hs o.mask) _ none=some r from hv);show bL (lJ D.hs o.mask) _ none=some r;rw[h1,aQ];exact dM h2 (fun _ hx=>aFy h hx) fun _ hb=>hb
 ·rename_i hw;rw[if_neg hw];exact hv
theorem zK{c d:dZ}(h:rH c d):∀ {l:List AO} {i base:Nat} {D r:DS},zN l i base c D=some r→zN l i base d D=some r
 | [],_,_,_,_,hv=>hv
 | o::l,i,base,D,r,hv=>dM (show aZ (sJ o i base c D) (fun D'=>zN l (i+1) base c D')=some r from hv) (fun _ hx=>aJB h hx) fun _ hb=>zK h hb
theorem aDZ{c d:dZ}(h:rH c d){l:List AO}{F:Fr}{S:St}{r:Fr×St}(hv:uJ l c F S=some r):uJ l d F S=some r:=
 dM (show aZ _ _=some r from hv) (fun _ hx=>zK h hx) fun _ hb=>hb
theorem aFs{a b:Evs}(h:Le a b){c:AC}{A:bH}{S:St}{r:Out×bH×St}(hv:aGO c a A S=some r):aGO c b A S=some r:=by
 cases c with
 | skip=>exact hv
 | seq x y=>
  refine dM (show aZ (a.code x A S) (pN y a)=some r from hv) (fun _ hx=>h.code _ _ _ _ hx) fun q hq=>?_;unfold pN at hq ⊢;split at hq
  ·exact h.code _ _ _ _ hq
  ·exact hq
 | cond x y z=>
  have hv:aAm (x.val A.F) y z a A S=some r:=hv;show aAm (x.val A.F) y z b A S=some r;unfold aAm at hv ⊢;split at hv
  ·exact h.code _ _ _ _ hv
  ·cases hv
 | block id x=>exact dM (show aZ (a.code x A S) (pE id)=some r from hv) (fun _ hx=>h.code _ _ _ _ hx) fun _ hq=>hq
 | loop x=>
  refine dM (show aZ (a.code x A S) (pN (.loop x) a)=some r from hv) (fun _ hx=>h.code _ _ _ _ hx) fun q hq=>?_;unfold pN at hq ⊢;split at hq
  ·exact h.code _ _ _ _ hq
  ·exact hq
 | exit id=>exact hv
 | ret=>exact hv
 | reg ops=>exact dM (show aZ (sE ops a.call A.F S) _=some r from hv) (fun _ hx=>wV h.call hx) fun _ hq=>hq
 | drw ops=>exact dM (show aZ (uJ ops a.call A.F S) _=some r from hv) (fun _ hx=>aDZ h.call hx) fun _ hq=>hq
 | rng f ps as bd=>
  have hv:aLd f ps as bd a A S=some r:=hv;show aLd f ps as bd b A S=some r;unfold aLd at hv ⊢;cases hi:A.inr with
  | true=>rw[hi,aQ] at hv;cases hv
  | false=>
   rw[hi,aV] at hv;rw[aV];obtain⟨h1,h2⟩:=bK hv;rw[h1,aQ];refine dM h2 (fun _ hx=>h.call _ _ _ _ hx) fun q hq=>dM hq (fun _ hx=>hx) fun bl hbl=>?_;unfold aD3 at hbl ⊢;split at hbl
   ·split at hbl
    ·cases hbl
    ·exact dM hbl (fun _ hx=>hx) fun _ hc=>h.code _ _ _ _ hc
   ·cases hbl
 | dfr ops f args=>exact hv
theorem aED{a b:Evs}(h:Le a b){bl:AB}{l:Nat}{args:List AV}{S:St}{r:AV×St}(hv:zR bl l args a S=some r):zR bl l args b S=some r:=by
 unfold zR at hv ⊢;split at hv
 ·refine dM hv (fun _ hx=>hx) fun F hF=>dM hF (fun _ hx=>h.code _ _ _ _ hx) fun q hq=>?_;unfold aDv at hq ⊢;split at hq
  ·refine dM hq (fun _ hx=>hx) fun bl hbl=>?_;unfold tB at hbl ⊢;split at hbl
   ·exact dM (show aZ (a.code _ _ _) _=some r from hbl) (fun _ hx=>h.code _ _ _ _ hx) fun _ hq=>hq
   ·cases hbl
  ·cases hq
 ·cases hv
theorem aFx{fns:T dE}{a b:Evs}(h:Le a b):rH (sN fns a) (sN fns b):=by
 intro f args S r hv;unfold sN at hv ⊢;split at hv
 ·refine dM hv (fun _ hx=>hx) fun fn hfn=>?_;unfold tU at hfn ⊢;obtain⟨h1,h2⟩:=bK hfn;rw[h1,aQ];exact dM h2 (fun _ hx=>h.code _ _ _ _ hx) fun _ hq=>hq
 ·exact dM hv (fun _ hx=>hx) fun bl hbl=>aED h hbl
 ·cases hv
theorem qO(fns:T dE):∀n,Le (ev fns n) (ev fns (n+1))
 | 0=>⟨fun c A S r (h:none=some r)=>(by cases h),fun f args S r (h:none=some r)=>(by cases h)⟩
 | n+1=>⟨fun _ _ _ _ h=>aFs (qO fns n) h,aFx (qO fns n)⟩
theorem oM(fns:T dE){n m:Nat}(h:n≤m):Le (ev fns n) (ev fns m):=by
 induction h with
 | refl=>exact⟨fun _ _ _ _ h=>h,fun _ _ _ _ h=>h⟩
 | step _ ih=>exact⟨fun c A S r h=>(qO fns _).code _ _ _ _ (ih.code _ _ _ _ h),fun f args S r h=>(qO fns _).call _ _ _ _ (ih.call _ _ _ _ h)⟩
end Go.Ev
namespace Go.Ev
abbrev oq(d:Nat)(q:wJ):AO:=⟨some d,.q q,none,0⟩
abbrev om(d m:Nat)(q:wJ):AO:=⟨some d,.q q,none,m⟩
abbrev og(d s:Nat)(b:Bool)(m:Nat)(q:wJ):AO:=⟨some d,.q q,some (s,b),m⟩
abbrev oc(d f:Nat)(l:List cJ)(m:Nat):AO:=⟨some d,.x (.call (.c (.fn f [] [])) l),none,m⟩
abbrev mt(d i:Nat):AO:=⟨some d,.q (.mv (.t i)),none,0⟩
abbrev ci(n:Int):cJ:=.c (.int .i64 n)
abbrev bi(o:BinOp)(x y:cJ):wJ:=.bin o (.p .int) x y
abbrev ld(i:Nat):wJ:=.ld false 1 (.t i)
abbrev Zs(n x v m:Nat):AO:=⟨none,.x (.st n (.t x) (.t v)),none,m⟩
abbrev Zf(d o x:Nat):AO:=oq d (.faddr o (.t x))
abbrev Zg(d m o x:Nat):AO:=om d m (.faddr o (.t x))
abbrev Zi(d k x y:Nat):AO:=oq d (.iaddr (.slice k) (.t x) (.t y))
abbrev Zj(d m k x y:Nat):AO:=om d m (.iaddr (.slice k) (.t x) (.t y))
abbrev Zl(d x:Nat):AO:=oq d (ld x)
abbrev Zm(d m x:Nat):AO:=om d m (ld x)
abbrev Zc(d:Nat)(n:Int):AO:=oq d (.mv (ci n))
abbrev Zn(d x:Nat):AO:=oq d (.lenSl (.t x))
abbrev Za(d x:Nat)(n:Int):AO:=oq d (bi .add (.t x) (ci n))
abbrev Zt(d x y:Nat):AO:=oq d (bi .lss (.t x) (.t y))
abbrev Ze(d x i:Nat):AO:=oq d (.extract (.t x) i)
abbrev Zd(d n x:Nat):AO:=oq d (.ld true n (.t x))
abbrev Zp(d c y:Nat):AO:=oq d (.pick (.t c) (.c (.bool true)) (.t y))
abbrev Zx(d s:Nat)(b:Bool)(m o x:Nat):AO:=og d s b m (.faddr o (.t x))
abbrev Zy(d s:Nat)(b:Bool)(m x:Nat):AO:=og d s b m (ld x)
abbrev Zu(d s:Nat)(b:Bool)(m x:Nat):AO:=og d s b m (.lenSl (.t x))
abbrev Zb(d k x:Nat):AO:=⟨some d,.a (.box k (.t x)),none,0⟩
variable {fns:T dE}
def mA(fns:T dE)(c:AC)(A:bH)(S:St)(Q:Out→bH→St→Prop):Prop:=∃n o A' S',(ev fns n).code c A S=some (o,A',S')∧Q o A' S'
def fA(fns:T dE)(f:AV)(args:List AV)(S:St)(Q:AV→St→Prop):Prop:=∃n v S',(ev fns n).call f args S=some (v,S')∧Q v S'
def qL(fns:T dE)(ops:List AO)(F:Fr)(S:St)(Q:Fr→St→Prop):Prop:=∃n F' S',sE ops (ev fns n).call F S=some (F',S')∧Q F' S'
theorem aS{c:AC}{A:bH}{S:St}{Q R:Out→bH→St→Prop}(h:mA fns c A S Q)(hq:∀o A S,Q o A S→R o A S):mA fns c A S R:=by
 obtain⟨n,o,A',S',h1,h2⟩:=h;exact⟨n,o,A',S',h1,hq _ _ _ h2⟩
theorem aP{f:AV}{args:List AV}{S:St}{Q R:AV→St→Prop}(h:fA fns f args S Q)(hq:∀v S,Q v S→R v S):fA fns f args S R:=by
 obtain⟨n,v,S',h1,h2⟩:=h;exact⟨n,v,S',h1,hq _ _ h2⟩
theorem aFG{ops:List AO}{F:Fr}{S:St}{Q R:Fr→St→Prop}(h:qL fns ops F S Q)(hq:∀F S,Q F S→R F S):qL fns ops F S R:=by
 obtain⟨n,F',S',h1,h2⟩:=h;exact⟨n,F',S',h1,hq _ _ h2⟩
theorem aI{A:bH}{S:St}{Q:Out→bH→St→Prop}(h:Q .normal A S):mA fns .skip A S Q:=⟨1,_,_,_,rfl,h⟩
theorem aU{id:Nat}{A:bH}{S:St}{Q:Out→bH→St→Prop}(h:Q (.exit id) A S):mA fns (.exit id) A S Q:=⟨1,_,_,_,rfl,h⟩
theorem aO{A:bH}{S:St}{Q:Out→bH→St→Prop}(h:Q .ret A S):mA fns .ret A S Q:=⟨1,_,_,_,rfl,h⟩
def aCt(fns:T dE)(y:AC)(Q:Out→bH→St→Prop):Out→bH→St→Prop
 | .normal,A,S=>mA fns y A S Q
 | o,A,S=>Q o A S
theorem aA{x y:AC}{A:bH}{S:St}{Q:Out→bH→St→Prop}(h:mA fns x A S (aCt fns y Q)):mA fns (.seq x y) A S Q:=by
 obtain⟨n,o,A1,S1,h1,h2⟩:=h;cases o with
 | normal=>
  obtain⟨m,o,A2,S2,h3,h4⟩:=h2;refine⟨max n m+1,o,A2,S2,?_,h4⟩;show aZ ((ev fns (max n m)).code x A S) (pN y (ev fns (max n m)))=_;rw[(oM fns (Nat.le_max_left n m)).code _ _ _ _ h1,aT];exact(oM fns (Nat.le_max_right n m)).code _ _ _ _ h3
 | ret=>
  refine⟨n+1,.ret,A1,S1,?_,h2⟩;show aZ ((ev fns n).code x A S) (pN y (ev fns n))=_;rw[h1];rfl
 | exit i=>
  refine⟨n+1,.exit i,A1,S1,?_,h2⟩;show aZ ((ev fns n).code x A S) (pN y (ev fns n))=_;rw[h1];rfl
theorem aJt{c:cJ}{x y:AC}{A:bH}{S:St}{Q:Out→bH→St→Prop}{t:Bool}(hc:c.val A.F= .bool t)(h:mA fns (bL t x y) A S Q):mA fns (.cond c x y) A S Q:=by
 obtain⟨n,o,A1,S1,h1,h2⟩:=h;refine⟨n+1,o,A1,S1,?_,h2⟩;show aAm (c.val A.F) x y (ev fns n) A S=_;rw[hc];exact h1
theorem aG2{c:cJ}{x y:AC}{A:bH}{S:St}{Q:Out→bH→St→Prop}{t:Bool}(hc:c.val A.F= .bool t)(h1:t=true→mA fns x A S Q)(h2:t=false→mA fns y A S Q):mA fns (.cond c x y) A S Q:=by
 refine aJt hc ?_;cases t
 ·exact h2 rfl
 ·exact h1 rfl
def zC(id:Nat)(Q:Out→bH→St→Prop):Out→bH→St→Prop
 | .exit i,A,S=>if i=id then Q .normal A S else Q (.exit i) A S
 | o,A,S=>Q o A S
theorem aJ{id:Nat}{c:AC}{A:bH}{S:St}{Q:Out→bH→St→Prop}(h:mA fns c A S (zC id Q)):mA fns (.block id c) A S Q:=by
 obtain⟨n,o,A1,S1,h1,h2⟩:=h;cases o with
 | normal=>exact⟨n+1,.normal,A1,S1,by show aZ ((ev fns n).code c A S) (pE id)=_;rw[h1];rfl,h2⟩
 | ret=>exact⟨n+1,.ret,A1,S1,by show aZ ((ev fns n).code c A S) (pE id)=_;rw[h1];rfl,h2⟩
 | exit i=>
  by_cases hi:i=id
  ·subst hi;have h2:Q .normal A1 S1:=by simpa [zC] using h2
   exact⟨n+1,.normal,A1,S1,by show aZ ((ev fns n).code c A S) (pE i)=_;rw[h1];simp [aT,pE,bS,Bd],h2⟩
  ·have h2:Q (.exit i) A1 S1:=by simpa [zC,hi] using h2
   exact⟨n+1,.exit i,A1,S1,by show aZ ((ev fns n).code c A S) (pE id)=_;rw[h1];simp [aT,pE,bS,Bd,hi],h2⟩
def aDS(I:Nat→bH→St→Prop)(k:Nat)(Q:Out→bH→St→Prop):Out→bH→St→Prop
 | .normal,A,S=>∃k',k'<k∧I k' A S
 | o,A,S=>Q o A S
theorem bB{c:AC}{Q:Out→bH→St→Prop}(I:Nat→bH→St→Prop)(h:∀k A S,I k A S→mA fns c A S (aDS I k Q)):∀k A S,I k A S→mA fns (.loop c) A S Q:=by
 intro k
 induction k using Nat.strongRecOn with
 | _ k ih=>
  intro A S hI;obtain⟨n,o,A1,S1,h1,h2⟩:=h k A S hI;cases o with
  | normal=>
   obtain⟨k',hk,hI'⟩:=h2;obtain⟨m,o,A2,S2,h3,h4⟩:=ih k' hk A1 S1 hI';refine⟨max n m+1,o,A2,S2,?_,h4⟩;show aZ ((ev fns (max n m)).code c A S) (pN (.loop c) (ev fns (max n m)))=_;rw[(oM fns (Nat.le_max_left n m)).code _ _ _ _ h1,aT];exact(oM fns (Nat.le_max_right n m)).code _ _ _ _ h3
  | ret=>
   refine⟨n+1,.ret,A1,S1,?_,h2⟩;show aZ ((ev fns n).code c A S) (pN (.loop c) (ev fns n))=_;rw[h1];rfl
  | exit i=>
   refine⟨n+1,.exit i,A1,S1,?_,h2⟩;show aZ ((ev fns n).code c A S) (pN (.loop c) (ev fns n))=_;rw[h1];rfl
theorem aF{ops:List AO}{A:bH}{S:St}{Q:Out→bH→St→Prop}(h:qL fns ops A.F S fun F' S'=>Q .normal ⟨F',A.inr⟩ S'):mA fns (.reg ops) A S Q:=by
 obtain⟨n,F',S',h1,h2⟩:=h;refine⟨n+1,.normal,⟨F',A.inr⟩,S',?_,h2⟩;show aZ (sE ops (ev fns n).call A.F S) _=_;rw[h1];rfl
def aMw(res:List RV)(Q:AV→St→Prop):Out→bH→St→Prop
 | .exit _,_,_=>False
 | _,A,S=>∃vs,results res A.F S.h=some vs∧Q (oneOf vs) S
theorem bP{id nt:Nat}{res:List RV}{body:AC}{first cap args:List AV}{S:St}{Q:AV→St→Prop}(hfn:fns.get id=some ⟨nt,res,body⟩)(hn:(first++(args++cap)).length≤nt)
  (h:mA fns body ⟨pB (first++(args++cap)) 0 .e,false⟩ S (aMw res Q)):fA fns (.fn id first cap) args S Q:=by
 obtain⟨n,o,A',S',h1,h2⟩:=h;have key:∀ (_:∃vs,results res A'.F S'.h=some vs∧Q (oneOf vs) S') (_:aDL ⟨nt,res,body⟩ (o,A',S')=aZ (results res A'.F S'.h) fun vs=>some (oneOf vs,S')),fA fns (.fn id first cap) args S Q:=by
  rintro⟨vs,h3,h4⟩ h5;refine⟨n+1,oneOf vs,S',?_,h4⟩;show aZ (fns.get id) (fun fn=>tU fn (vD first (vD args cap)) (ev fns n) S)=_;rw[hfn,aT];unfold tU;rw[fK,fK,dV,Am hn,aQ,h1,aT,h5,h3];rfl
 cases o with
 | normal=>exact key h2 rfl
 | ret=>exact key h2 rfl
 | exit i=>exact h2.elim
theorem xV{F:Fr}{S:St}{Q:Fr→St→Prop}:qL fns [] F S Q↔Q F S:=
 ⟨fun⟨_,_,_,h1,h2⟩=>by cases h1;exact h2,fun h=>⟨0,F,S,rfl,h⟩⟩
theorem aBL{o:AO}{l:List AO}{F F1:Fr}{S S1:St}{Q:Fr→St→Prop}(h:∀call,aCw o call F S=some (F1,S1))(hl:qL fns l F1 S1 Q):qL fns (o::l) F S Q:=by
 obtain⟨n,F',S',h1,h2⟩:=hl;refine⟨n,F',S',?_,h2⟩;rw[fE,h,aT];exact h1
theorem aKv{d:Option Nat}{q:wJ}{m:Nat}{l:List AO}{F:Fr}{S:St}{Q:Fr→St→Prop}{v:AV}(h:gS q F S.h=some v)(hl:qL fns l (cD d F v) S Q):qL fns (⟨d,.q q,none,m⟩::l) F S Q:=
 aBL (fun call=>by show aZ (gS q F S.h) _=_;rw[h];rfl) hl
theorem aNY{d:Option Nat}{a:uD}{m:Nat}{l:List AO}{F:Fr}{S:St}{Q:Fr→St→Prop}{v:AV}{bl:AB}(h:vG a F S.nx=some (v,bl))(hl:qL fns l (cD d F v) ⟨S.h.set S.nx (some bl),S.nx+1⟩ Q):qL fns (⟨d,.a a,none,m⟩::l) F S Q:=
 aBL (fun call=>by show aZ (vG a F S.nx) _=_;rw[h];rfl) hl
theorem fD{d:Option Nat}{x:XOp}{m:Nat}{l:List AO}{F:Fr}{S S1:St}{Q:Fr→St→Prop}{v:AV}(h:∀call,evX x call F S=some (v,S1))(hl:qL fns l (cD d F v) S1 Q):qL fns (⟨d,.x x,none,m⟩::l) F S Q:=
 aBL (fun call=>by show aZ (evX x call F S) _=_;rw[h];rfl) hl
theorem aY{d:Option Nat}{f:cJ}{args:List cJ}{m:Nat}{l:List AO}{F:Fr}{S:St}{Q:Fr→St→Prop}(h:fA fns (f.val F) (cO args F) S fun v S1=>qL fns l (cD d F v) S1 Q):qL fns (⟨d,.x (.call f args),none,m⟩::l) F S Q:=by
 obtain⟨n,v,S1,h1,k,F',S',h2,h3⟩:=h;refine⟨max n k,F',S',?_,h3⟩;rw[fE];have:aCw ⟨d,.x (.call f args),none,m⟩ (ev fns (max n k)).call F S=some (cD d F v,S1):=by
  show aZ ((ev fns (max n k)).call (f.val F) (cO args F) S) _=_;rw[(oM fns (Nat.le_max_left n k)).call _ _ _ _ h1];rfl
 rw[this,aT];exact wV (oM fns (Nat.le_max_right n k)).call h2
theorem lA(i:Nat)(F:Fr):(cJ.t i).val F=aD i F:=rfl
theorem aJq(v:AV)(F:Fr):(cJ.c v).val F=v:=rfl
theorem pS(F:Fr)(v:AV):cD none F v=F:=rfl
theorem dR(i j:Nat)(F:Fr)(v:AV):aD i (cD (some j) F v)=if i=j then v else aD i F:=by
 show aD i (F.set j (some v))=_;unfold aD;rw[T.get_set];split<;>rfl
end Go.Ev
namespace Go.Ev
variable {fns:T dE}
theorem aKL{tbl:List (Nat×Nat×Option (Bool×Nat))}{recv:cJ}{args:List cJ}{F:Fr}{t f:Nat}{v:AV}(hr:recv.val F= .iface t v)(hf:tX t tbl=some (f,none))(call:dZ)(S:St):evX (.inv tbl recv args) call F S=evX (.call (.c (.fn f [v] [])) args) call F S:=by
 show aD2 (recv.val F) tbl (cO args F) call S=call (.fn f [v] []) (cO args F) S;rw[hr];show aZ (tX t tbl) (fun r=>aGM r v (cO args F) call S)=_;rw[hf,aT];rfl
end Go.Ev
namespace Go.Ev
def Same(S S':St):Prop:=S.nx≤S'.nx∧∀b,b<S.nx→S'.h.get b=S.h.get b
theorem Same.refl(S:St):Same S S:=⟨Ah _,fun _ _=>rfl⟩
theorem Same.trans{S S' S'':St}(h:Same S S')(h':Same S' S''):Same S S'':=⟨Ay h.1 h'.1,fun b hb=>(h'.2 b (Ae hb h.1)).trans (h.2 b hb)⟩
theorem Same.alloc(S:St)(bl:AB):Same S ⟨S.h.set S.nx (some bl),S.nx+1⟩:=⟨Nat.le_succ _,fun b hb=>by simp only;rw[T.get_set,if_neg (by omega)]⟩
theorem Same.put{S S':St}{b:Nat}(h:Same S S')(hb:S.nx≤b)(x:Option AB):Same S ⟨S'.h.set b x,S'.nx⟩:=⟨h.1,fun c hc=>by simp only;rw[T.get_set,if_neg (by omega)];exact h.2 c hc⟩
def bN(k:IntKind)(S:St)(v:AV)(l:List Int):Prop:=
 (l= []∧(v= .nilsl∨v= .emp))∨∃b off cap o cs,v= .sl b off l.length cap o∧l.length≤cap∧b<S.nx∧cS S.h b=some cs∧∀i x,l[i]? =some x→cs[off+i]? =some (.int k x)
theorem rU{S S':St}(h:Same S S'){b:Nat}(hb:b<S.nx):cS S'.h b=cS S.h b:=by unfold cS;rw[h.2 b hb]
theorem bN.same{k:IntKind}{S S':St}{v:AV}{l:List Int}(h:bN k S v l)(hs:Same S S'):bN k S' v l:=by
 rcases h with h | ⟨b,off,cap,o,cs,h1,hc,h2,h3,h4⟩
 ·exact .inl h
 ·exact .inr ⟨b,off,cap,o,cs,h1,hc,Ae h2 hs.1,by rw[rU hs h2];exact h3,h4⟩
theorem bN.len{k:IntKind}{S:St}{v:AV}{l:List Int}(h:bN k S v l):gW v=some (.int .i64 (.ofNat l.length)):=by
 rcases h with⟨rfl,rfl | rfl⟩ | ⟨b,off,cap,o,cs,rfl,_⟩<;>rfl
def aAn(v:AV)(i:Nat):AV:=
 match v with
 | .sl b off _ _ _=>.ptr b (off+i * 1)
 | _=>.undef
theorem bN.iaddr{k:IntKind}{S:St}{v:AV}{l:List Int}(h:bN k S v l){i:Nat}(hi:i<l.length):eU (.slice 1) v i=some (aAn v i):=by
 rcases h with⟨rfl,_⟩ | ⟨b,off,cap,o,cs,rfl,_⟩
 ·simp at hi
 ·simp only[eU,aAn];have:Nat.blt i l.length=true:=Am hi;rw[this,aQ]
theorem bN.ld{k:IntKind}{S:St}{v:AV}{l:List Int}(h:bN k S v l){i:Nat}(hi:i<l.length):dT (aAn v i) false 1 S.h=some (.int k (l.getD i 0)):=by
 rcases h with⟨rfl,_⟩ | ⟨b,off,cap,o,cs,rfl,hc,hb,hcs,hel⟩
 ·simp at hi
 ·simp only[aAn,dT,lG,aV,jW,hcs,aT,kM,Dn];rw[hel i l[i] (Ac hi)];simp [Ad,hi]
theorem aD8(e:nZ)(k:IntKind)(a b:Int):gO .add e (.int k a) (.int k b)=some (.int k (k.wrap (a+b))):=by
 show dD .add k a k b=_;unfold dD;rw[show eI .add=false from rfl,aV,eH,aQ];show some (AV.int k (aKp k a b))=_;rw[aE9]
theorem aEf(e:nZ)(k:IntKind)(a b:Int):gO .sub e (.int k a) (.int k b)=some (.int k (k.wrap (a - b))):=by
 show dD .sub k a k b=_;unfold dD;rw[show eI .sub=false from rfl,aV,eH,aQ];show some (AV.int k (aHB k a b))=_;rw[aBE]
theorem aDQ(e:nZ)(k:IntKind)(a b:Int):gO .mul e (.int k a) (.int k b)=some (.int k (k.wrap (a * b))):=by
 show dD .mul k a k b=_;unfold dD;rw[show eI .mul=false from rfl,aV,eH,aQ];show some (AV.int k (aEJ k a b))=_;rw[xZ]
theorem aEi(e:nZ)(k:IntKind)(a b:Int):gO .lss e (.int k a) (.int k b)=some (.bool (decide (a<b))):=by
 show dD .lss k a k b=_;unfold dD;rw[show eI .lss=false from rfl,aV,eH,aQ];show some (AV.bool (bL (ile b a) false true))=_;rw[mH,oR];congr 2;rw[Cf];simp
theorem aEg(e:nZ)(k:IntKind)(a b:Int):gO .leq e (.int k a) (.int k b)=some (.bool (decide (a≤b))):=by
 show dD .leq k a k b=_;unfold dD;rw[show eI .leq=false from rfl,aV,eH,aQ];show some (AV.bool (ile a b))=_;rw[mH]
theorem aDO(e:nZ)(k:IntKind)(a b:Int):gO .gtr e (.int k a) (.int k b)=some (.bool (decide (b<a))):=by
 show dD .gtr k a k b=_;unfold dD;rw[show eI .gtr=false from rfl,aV,eH,aQ];show some (AV.bool (bL (ile a b) false true))=_;rw[mH,oR];congr 2;rw[Cf];simp
theorem aEk(e:nZ)(k:IntKind)(a b:Int):gO .geq e (.int k a) (.int k b)=some (.bool (decide (b≤a))):=by
 show dD .geq k a k b=_;unfold dD;rw[show eI .geq=false from rfl,aV,eH,aQ];show some (AV.bool (ile b a))=_;rw[mH]
theorem aA4(e:nZ)(k:IntKind)(a b:Int):gO .eql e (.int k a) (.int k b)=some (.bool (decide (a=b))):=by
 show dD .eql k a k b=_;unfold dD;rw[show eI .eql=false from rfl,aV,eH,aQ];show some (AV.bool (ieq a b))=_;rw[iK];congr 2
theorem aDE(e:nZ)(k:IntKind)(a b:Int):gO .neq e (.int k a) (.int k b)=some (.bool (decide (a≠b))):=by
 show dD .neq k a k b=_;unfold dD;rw[show eI .neq=false from rfl,aV,eH,aQ];show some (AV.bool (bL (ieq a b) false true))=_;rw[iK,oR];congr 2;rw[Cf];simp
section
variable (F:Fr)(h:T AB)
theorem aDT(x:cJ):gS (.mv x) F h=some (x.val F):=rfl
theorem aBa(op:BinOp)(e:nZ)(x y:cJ):gS (.bin op e x y) F h=gO op e (x.val F) (y.val F):=rfl
theorem aGc(op:UnOp)(x:cJ):gS (.un op x) F h=unV op (x.val F):=rfl
theorem uI(x:cJ):gS (.lenSl x) F h=gW (x.val F):=rfl
theorem mZ(k:IxK)(x ix:cJ):gS (.iaddr k x ix) F h=aZ (eR (ix.val F)) fun i=>eU k (x.val F) i:=rfl
theorem kI(agg:Bool)(n:Nat)(x:cJ):gS (.ld agg n x) F h=dT (x.val F) agg n h:=rfl
theorem aB3(k:aEQ)(x:cJ):gS (.conv k x) F h=vK k (x.val F) h:=rfl
theorem tL(x:cJ)(i:Nat):gS (.extract x i) F h=gL (x.val F) i:=rfl
theorem aBM(c a b:cJ):gS (.pick c a b) F h=uB (c.val F) a b F:=rfl
theorem aEc(agg:Bool)(off n:Nat)(x:cJ):gS (.fld agg off n x) F h=aH2 (x.val F) agg off n:=rfl
end
theorem aE(k:IntKind)(n:Nat):eR (.int k (n:Int))=some n:=rfl
theorem aCq(k j:IntKind)(n:Int)(h:T AB):vK (.int k) (.int j n) h=some (.int k (k.wrap n)):=by
 show some (AV.int k (aDe k n))=_;rw[pT]
end Go.Ev
namespace Go.Ev
variable {fns:T dE}
def jD{α:Type}(x:Option α)(Q:α→Prop):Prop:=∃a,x=some a∧Q a
theorem eO{α:Type}(a:α)(Q:α→Prop):jD (some a) Q=Q a:=propext ⟨fun⟨_,h1,h2⟩=>by cases h1;exact h2,fun h=>⟨a,rfl,h⟩⟩
theorem aGF{d:Option Nat}{q:wJ}{m:Nat}{l:List AO}{F:Fr}{S:St}{Q:Fr→St→Prop}:qL fns (⟨d,.q q,none,m⟩::l) F S Q↔jD (gS q F S.h) fun v=>qL fns l (cD d F v) S Q:=by
 constructor
 ·rintro⟨n,F',S',h1,h2⟩;rw[fE] at h1;obtain⟨r,h3,h4⟩:=aL h1;obtain⟨v,h5,h6⟩:=aL (show aZ (gS q F S.h) (fun v=>some (cD d F v,S))=some r from h3);cases h6;exact⟨v,h5,n,F',S',h4,h2⟩
 ·rintro⟨v,h1,h2⟩;exact aKv h1 h2
theorem zW{d:Option Nat}{a:uD}{m:Nat}{l:List AO}{F:Fr}{S:St}{Q:Fr→St→Prop}:qL fns (⟨d,.a a,none,m⟩::l) F S Q↔jD (vG a F S.nx) fun r=>qL fns l (cD d F r.1) ⟨S.h.set S.nx (some r.2),S.nx+1⟩ Q:=by
 constructor
 ·rintro⟨n,F',S',h1,h2⟩;rw[fE] at h1;obtain⟨r,h3,h4⟩:=aL h1;obtain⟨v,h5,h6⟩:=aL (show aZ (vG a F S.nx) (fun r=>some (cD d F r.1,(⟨S.h.set S.nx (some r.2),Nat.succ S.nx⟩:St)))=some r from h3);cases h6;exact⟨v,h5,n,F',S',h4,h2⟩
 ·rintro⟨⟨v,bl⟩,h1,h2⟩;exact aNY h1 h2
def yO(fns:T dE)(ops:List AO)(i base:Nat)(D:DS)(Q:DS→Prop):Prop:=∃n D',zN ops i base (ev fns n).call D=some D'∧Q D'
theorem qX{ops:List AO}{A:bH}{S:St}{Q:Out→bH→St→Prop}(h:yO fns ops 0 S.nx ⟨A.F,⟨S.h,S.nx+ops.length⟩,[],[],[]⟩ fun D=>gI S.h D.hs.reverse D.ls=true∧Q .normal ⟨D.F,A.inr⟩ ⟨(cH (2 ^ ops.length - 1) D.ps D.S.h).2,D.S.nx⟩):mA fns (.drw ops) A S Q:=by
 obtain⟨n,D,h1,h2,h3⟩:=h;refine⟨n+1,.normal,⟨D.F,A.inr⟩,⟨(cH (2 ^ ops.length - 1) D.ps D.S.h).2,D.S.nx⟩,?_,h3⟩;show aZ (aZ (zN ops 0 S.nx (ev fns n).call ⟨A.F,⟨S.h,S.nx+jN ops⟩,[],[],[]⟩) fun D=>xM S.h (jN ops) D) _=_;rw[dV,h1,aT];unfold xM;rw[h2,aQ];rfl
theorem oO{i base:Nat}{D:DS}{Q:DS→Prop}:yO fns [] i base D Q↔Q D:=
 ⟨fun⟨_,_,h1,h2⟩=>by cases h1;exact h2,fun h=>⟨0,D,rfl,h⟩⟩
theorem mF{d:Option Nat}{q:wJ}{m i base:Nat}{l:List AO}{D:DS}{Q:DS→Prop}:yO fns (⟨d,.q q,none,m⟩::l) i base D Q↔
  jD (gS q D.F D.S.h) fun v=>yO fns l (i+1) base ⟨cD d D.F v,D.S,D.ps,D.hs,bL (dL q) (⟨q,D.F,v,i,m⟩::D.ls) D.ls⟩ Q:=by
 constructor
 ·rintro⟨n,D',h1,h2⟩;obtain⟨r,h3,h4⟩:=aL (show aZ (sJ ⟨d,.q q,none,m⟩ i base (ev fns n).call D) (fun D'=>zN l (i+1) base (ev fns n).call D')=some D' from h1);obtain⟨v,h5,h6⟩:=aL (show aZ (gS q D.F D.S.h) (fun v=>some (⟨cD d D.F v,D.S,D.ps,D.hs,bL (dL q) (⟨q,D.F,v,i,m⟩::D.ls) D.ls⟩:DS))=some r from h3);cases h6;exact⟨v,h5,n,D',h4,h2⟩
 ·rintro⟨v,h1,n,D',h2,h3⟩;refine⟨n,D',?_,h3⟩;show aZ (aZ (gS q D.F D.S.h) _) _=_;rw[h1];exact h2
theorem aG4{d:Option Nat}{a:uD}{m i base:Nat}{l:List AO}{D:DS}{Q:DS→Prop}:yO fns (⟨d,.a a,none,m⟩::l) i base D Q↔
  jD (vG a D.F (base+i)) fun r=>yO fns l (i+1) base ⟨cD d D.F r.1,D.S,⟨i,base+i,r.2⟩::D.ps,D.hs,D.ls⟩ Q:=by
 constructor
 ·rintro⟨n,D',h1,h2⟩;obtain⟨r,h3,h4⟩:=aL (show aZ (sJ ⟨d,.a a,none,m⟩ i base (ev fns n).call D) (fun D'=>zN l (i+1) base (ev fns n).call D')=some D' from h1);obtain⟨v,h5,h6⟩:=aL (show aZ (vG a D.F (base+i)) (fun r=>some (⟨cD d D.F r.1,D.S,⟨i,base+i,r.2⟩::D.ps,D.hs,D.ls⟩:DS))=some r from h3);cases h6;exact⟨v,h5,n,D',h4,h2⟩
 ·rintro⟨r,h1,n,D',h2,h3⟩;refine⟨n,D',?_,h3⟩;show aZ (aZ (vG a D.F (base+i)) _) _=_;rw[h1];exact h2
theorem aC7{d:Option Nat}{x:XOp}{m i base:Nat}{l:List AO}{D:DS}{Q:DS→Prop}{v:AV}{S1:St}(hl:lJ D.hs m=true)(h:∀call,evX x call D.F ⟨(cH m D.ps D.S.h).2,D.S.nx⟩=some (v,S1))
  (hq:yO fns l (i+1) base ⟨cD d D.F v,S1,(cH m D.ps D.S.h).1,(i,m,S1.h)::D.hs,D.ls⟩ Q):yO fns (⟨d,.x x,none,m⟩::l) i base D Q:=by
 obtain⟨n,D',h2,h3⟩:=hq;refine⟨n,D',?_,h3⟩;show aZ (bL (lJ D.hs m) (aZ (evX x (ev fns n).call D.F ⟨(cH m D.ps D.S.h).2,D.S.nx⟩) _) none) _=_;rw[hl,aQ,h];exact h2
theorem xJ{d:Option Nat}{f:cJ}{args:List cJ}{m i base:Nat}{l:List AO}{D:DS}{Q:DS→Prop}(hl:lJ D.hs m=true)
  (h:fA fns (f.val D.F) (cO args D.F) ⟨(cH m D.ps D.S.h).2,D.S.nx⟩ fun v S1=>yO fns l (i+1) base ⟨cD d D.F v,S1,(cH m D.ps D.S.h).1,(i,m,S1.h)::D.hs,D.ls⟩ Q):yO fns (⟨d,.x (.call f args),none,m⟩::l) i base D Q:=by
 obtain⟨n,v,S1,h1,k,D',h2,h3⟩:=h;refine⟨max n k,D',?_,h3⟩;show aZ (bL (lJ D.hs m) (aZ ((ev fns (max n k)).call (f.val D.F) (cO args D.F) ⟨(cH m D.ps D.S.h).2,D.S.nx⟩) _) none) _=_;rw[hl,aQ,(oM fns (Nat.le_max_left n k)).call _ _ _ _ h1];exact zK (oM fns (Nat.le_max_right n k)).call h2
theorem aJT{d:Option Nat}{op:AOp}{s:Nat}{b:Bool}{m i base:Nat}{l:List AO}{D:DS}{Q:DS→Prop}(hg:aD s D.F= .bool b)(hl:yO fns (⟨d,op,none,m⟩::l) i base D Q):yO fns (⟨d,op,some (s,b),m⟩::l) i base D Q:=by
 obtain⟨n,D',h1,h2⟩:=hl;refine⟨n,D',?_,h2⟩;have:sJ ⟨d,op,some (s,b),m⟩ i base (ev fns n).call D=sJ ⟨d,op,none,m⟩ i base (ev fns n).call D:=by
  unfold sJ;have e1:dS (some (s,b)) D.F=true:=by show isB (aD s D.F) b=true;rw[hg];cases b<;>rfl
  have e2:dS none D.F=true:=rfl;simp only[e1,e2];cases op<;>rfl
 show aZ (sJ ⟨d,op,some (s,b),m⟩ i base (ev fns n).call D) _=_;rw[this];exact h1
theorem dJ(k:IntKind)(a:Int):cB (.int k a) (.int k a)=true:=by simp [cB,bS,eH,iK]
theorem aAd(a:Bool):cB (.bool a) (.bool a)=true:=by simp [cB,rS]
theorem aBT(a b:Nat):cB (.ptr a b) (.ptr a b)=true:=by simp [cB,bS,Bd]
theorem mM(a b c d:Nat)(o:Bool):cB (.sl a b c d o) (.sl a b c d o)=true:=by simp [cB,Bd,rS]
theorem xC:cB .nilsl .nilsl=true:=rfl
end Go.Ev
namespace Go.Ev
def tW(S:St):Prop:=∀b,S.nx≤b→S.h.get b=none
def Frs(S S':St):Prop:=(tW S→tW S')∧S.nx≤S'.nx
theorem aI4(S:St)(x:Option AB):Frs S ⟨S.h.set S.nx x,S.nx+1⟩:=
 ⟨fun h c hc=>by simp only at hc ⊢;rw[T.get_set,if_neg (by omega)];exact h c (by omega),Nat.le_succ _⟩
end Go.Ev
namespace Go.Ev
variable {P:Program}{σ:Env}{S:St}{w:World}
def aDD:List (Nat×Nat×IntKind×Int)→AC
 | []=>.seq (.reg [⟨some 0,.q (.mv (.c (.bool true))),none,0⟩]) .ret
 | (g,j,k,z)::l=>.seq (.reg [⟨some 1,.q (.ld false 1 (.c (.ptr g j))),none,0⟩,⟨some 2,.q (.bin .eql (.p .int) (.t 1) (.c (.int k z))),none,0⟩]) (.seq (.cond (.t 2) .skip (.exit 0)) (aDD l))
def zP(l:List (Nat×Nat×IntKind×Int)):dE:=⟨0,[.t 0],aDD l⟩
theorem aHw{fns:T dE}{Q:Out→bH→St→Prop}(hQ:∀A,aD 0 A.F= .bool true→Q .ret A S):∀ {l:List (Nat×Nat×IntKind×Int)} {A:bH},(∀c∈l,jW S.h c.1 c.2.1=some (.int c.2.2.1 c.2.2.2))→mA fns (aDD l) A S Q
 | [],A,_=>by
  refine aA (aF ?_);rw[aGF];exact⟨.bool true,rfl,(xV).2 (aO (hQ _ (by rw[dR,if_pos rfl])))⟩
 | (g,j,k,z)::l,A,h=>by
  have h1:=h (g,j,k,z) (by simp);simp only at h1;refine aA (aF (aKv (v:=.int k z) h1 (aKv (v:=.bool true) ?_ (xV.2 ?_))))
  ·show gO .eql (.p .int) (aD 1 (cD (some 1) A.F (.int k z))) (.int k z)=_;rw[dR,if_pos rfl,aA4,Ab rfl]
  refine aA (aG2 (t:=true) (by show aD 2 _=_;rw[dR,if_pos rfl]) (fun _=>aI ?_) (fun h=>by cases h));exact aHw hQ fun c hc=>h c (by simp [hc])
theorem aJI{fns:T dE}{id:Nat}{l:List (Nat×Nat×IntKind×Int)}(hfn:fns.get id=some (zP l))(h:∀c∈l,jW S.h c.1 c.2.1=some (.int c.2.2.1 c.2.2.2)):fA fns (.fn id [] []) [] S fun r S'=>r= .bool true∧S'=S:=by
 refine bP hfn (by simp) (aHw (fun A hA=>?_) h);exact⟨[aD 0 A.F],rfl,by rw[hA];rfl,rfl⟩
theorem aDB{v:AV}{k:IntKind}{z:Int}(h:gO .eql (.p .int) v (.int k z)=some (.bool true)):v= .int k z:=by
 cases v with
 | int k' z'=>
  have h':dD .eql k' z' k z=some (.bool true):=h;unfold dD at h';rw[show eI .eql=false from rfl,aV] at h';obtain⟨hk,h'⟩:=bK h';have hz:some (AV.bool (ieq z' z))=some (.bool true):=h';simp only[Aj,AV.bool.injEq] at hz;rw[iK] at hz;have hz:=eq_of_beq hz;subst hz;have hkk:k'=k:=by
   cases k<;>cases k'<;>first | rfl | (exfalso;revert hk;decide)
  rw[hkk]
 | _=>cases h
theorem aEM{fns:T dE}:∀ {l:List (Nat×Nat×IntKind×Int)} {n:Nat} {A A':bH} {S':St} {o:Out},(ev fns n).code (aDD l) A S=some (o,A',S')→(∀i,o≠ .exit i)→(∀c∈l,jW S.h c.1 c.2.1=some (.int c.2.2.1 c.2.2.2))∧S'=S∧aD 0 A'.F= .bool true
 | l,0,_,_,_,_,h,_=>by cases h
 | l,1,A,A',S',o,h,_=>by
  cases l with
  | nil=>
   have h':(none:Option (Out×bH×St))=some (o,A',S'):=h;cases h'
  | cons c l=>
   obtain⟨g,j,k,z⟩:=c;have h':(none:Option (Out×bH×St))=some (o,A',S'):=h;cases h'
 | [],n+2,A,A',S',o,h,ho=>by
  obtain⟨⟨o1,A1,S1⟩,h1,h2⟩:=aL (show aZ ((ev fns (n+1)).code (.reg [⟨some 0,.q (.mv (.c (.bool true))),none,0⟩]) A S) (pN .ret (ev fns (n+1)))=some (o,A',S') from h);have e1:(ev fns (n+1)).code (.reg [⟨some 0,.q (.mv (.c (.bool true))),none,0⟩]) A S=some (.normal,⟨cD (some 0) A.F (.bool true),A.inr⟩,S):=rfl;rw[e1] at h1;cases h1;have e2:pN .ret (ev fns (n+1)) (.normal,⟨cD (some 0) A.F (.bool true),A.inr⟩,S)=some (.ret,⟨cD (some 0) A.F (.bool true),A.inr⟩,S):=rfl;rw[e2] at h2;cases h2;exact⟨fun c hc=>(by cases hc),rfl,by rw[dR,if_pos rfl]⟩
 | (g,j,k,z)::l,n+2,A,A',S',o,h,ho=>by
  obtain⟨⟨o1,A1,S1⟩,h1,h2⟩:=aL (show aZ ((ev fns (n+1)).code (.reg [⟨some 1,.q (.ld false 1 (.c (.ptr g j))),none,0⟩,⟨some 2,.q (.bin .eql (.p .int) (.t 1) (.c (.int k z))),none,0⟩]) A S) (pN (.seq (.cond (.t 2) .skip (.exit 0)) (aDD l)) (ev fns (n+1)))=some (o,A',S') from h);obtain⟨⟨F1,S2⟩,h3,h4⟩:=aL (show aZ (sE [⟨some 1,.q (.ld false 1 (.c (.ptr g j))),none,0⟩,⟨some 2,.q (.bin .eql (.p .int) (.t 1) (.c (.int k z))),none,0⟩] (ev fns n).call A.F S) (fun r=>some (.normal,(⟨r.1,A.inr⟩:bH),r.2))=some (o1,A1,S1) from h1);cases h4;rw[fE] at h3;obtain⟨⟨F2,S3⟩,h5,h6⟩:=aL h3;obtain⟨v,hv,h7⟩:=aL (show aZ (jW S.h g j) (fun v=>some (cD (some 1) A.F v,S))=some (F2,S3) from h5);cases h7;rw[fE] at h6;obtain⟨⟨F4,S4⟩,h8,h9⟩:=aL h6;cases h9;obtain⟨b,hb,h10⟩:=aL (show aZ (gO .eql (.p .int) (aD 1 (cD (some 1) A.F v)) (.int k z)) (fun u=>some (cD (some 2) (cD (some 1) A.F v) u,S))=some (F4,S4) from h8);cases h10;rw[dR,if_pos rfl] at hb;have h2:(ev fns (n+1)).code (.seq (.cond (.t 2) .skip (.exit 0)) (aDD l)) ⟨cD (some 2) (cD (some 1) A.F v) b,A.inr⟩ S=some (o,A',S'):=h2;obtain⟨⟨o5,A5,S5⟩,k1,k2⟩:=aL (show aZ ((ev fns n).code (.cond (.t 2) .skip (.exit 0)) ⟨cD (some 2) (cD (some 1) A.F v) b,A.inr⟩ S) (pN (aDD l) (ev fns n))=some (o,A',S') from h2);cases n with
  | zero=>cases k1
  | succ n=>
   have k1:aAm (aD 2 (cD (some 2) (cD (some 1) A.F v) b)) .skip (.exit 0) (ev fns n) ⟨cD (some 2) (cD (some 1) A.F v) b,A.inr⟩ S=some (o5,A5,S5):=k1;rw[dR,if_pos rfl] at k1;cases b with
   | bool t=>
    have k1:(ev fns n).code (bL t .skip (.exit 0)) ⟨cD (some 2) (cD (some 1) A.F v) (.bool t),A.inr⟩ S=some (o5,A5,S5):=k1;cases t with
    | true=>
     rw[aQ] at k1;cases n with
     | zero=>cases k1
     | succ n=>
      have e:(ev fns (n+1)).code .skip ⟨cD (some 2) (cD (some 1) A.F v) (.bool true),A.inr⟩ S=some (.normal,⟨cD (some 2) (cD (some 1) A.F v) (.bool true),A.inr⟩,S):=rfl;rw[e] at k1;cases k1;have ih:=aEM (l:=l) (show(ev fns (n+1+1)).code (aDD l) _ S=some (o,A',S') from k2) ho;refine⟨fun c hc=>?_,ih.2⟩;rcases Bg.1 hc with rfl | hc
      ·rw[hv,aDB hb]
      ·exact ih.1 c hc
    | false=>
     rw[aV] at k1;cases n with
     | zero=>cases k1
     | succ n=>
      have e:(ev fns (n+1)).code (.exit 0) ⟨cD (some 2) (cD (some 1) A.F v) (.bool false),A.inr⟩ S=some (.exit 0,⟨cD (some 2) (cD (some 1) A.F v) (.bool false),A.inr⟩,S):=rfl;rw[e] at k1;cases k1;have k2:some (Out.exit 0,(⟨cD (some 2) (cD (some 1) A.F v) (.bool false),A.inr⟩:bH),S)=some (o,A',S'):=k2;cases k2;exact absurd rfl (ho 0)
   | _=>cases k1
theorem aHP{fns:T dE}{l:List (Nat×Nat×IntKind×Int)}{n:Nat}{S':St}{v:AV}(h:tU (zP l) [] (ev fns n) S=some (v,S')):(∀c∈l,jW S.h c.1 c.2.1=some (.int c.2.2.1 c.2.2.2))∧S'=S∧v= .bool true:=by
 unfold tU at h;obtain⟨_,h⟩:=bK h;obtain⟨⟨o,A',S1⟩,h1,h2⟩:=aL h;unfold aDL at h2;split at h2
 ·cases h2
 ·rename_i hne;obtain⟨vs,h3,h4⟩:=aL h2;cases h4;obtain⟨k1,k2,k3⟩:=aEM (show(ev fns n).code (aDD l) ⟨.e,false⟩ S=some (o,A',S1) from h1) (fun i e=>hne i e);refine⟨k1,k2,?_⟩;have:some [aD 0 A'.F]=some vs:=h3;cases this;exact k3
def aBZ:Nat→Nat→List (IntKind×Int)→List (Nat×Nat×IntKind×Int)
 | _,_,[]=>[]
 | g,j,(k,z)::l=>(g,j,k,z)::aBZ g (j+1) l
theorem aBP:∀ {l:List (IntKind×Int)} {g j i:Nat} {k:IntKind} {z:Int},l[i]? =some (k,z)→(g,j+i,k,z)∈aBZ g j l
 | [],_,_,_,_,_,h=>by simp at h
 | (k,z)::l,g,j,0,k',z',h=>by
  simp at h;obtain⟨rfl,rfl⟩:=h;simp [aBZ]
 | (k,z)::l,g,j,i+1,k',z',h=>by
  have:=aBP (g:=g) (j:=j+1) (show l[i]? =some (k',z') by simpa using h);rw[show j+(i+1)=j+1+i by omega];exact Bn _ this
def kX:List (Nat×List (IntKind×Int))→List (Nat×Nat×IntKind×Int)
 | []=>[]
 | (g,l)::r=>aBZ g 0 l++kX r
theorem yH:∀ {t:List (Nat×List (IntKind×Int))} {g:Nat} {l:List (IntKind×Int)},(g,l)∈t→∀c∈aBZ g 0 l,c∈kX t
 | (g',l')::t,g,l,h,c,hc=>by
  simp only[kX,Bv];rcases Bg.1 h with h | h
  ·cases h;exact .inl hc
  ·exact .inr (yH h c hc)
theorem aEw(hR:iI P σ S w){t:List (Nat×List (IntKind×Int))}(hg:∀x∈t,x.1<P.globals.size∧x.2≠ [])(h:∀c∈kX t,jW S.h c.1 c.2.1=some (.int c.2.2.1 c.2.2.2)):aJe P (t.map fun x=>(x.1,x.2.map fun y=>AV.int y.1 y.2)) w:=by
 intro x hx;obtain⟨⟨g,l⟩,hgl,rfl⟩:=Cy.1 hx;obtain⟨h1,h2⟩:=hg _ hgl;have hc:∀i k z,l[i]? =some (k,z)→jW S.h g i=some (.int k z):=fun i k z hi=>by
  have:=h _ (yH hgl _ (aBP (g:=g) (j:=0) hi));simpa using this
 obtain⟨⟨k0,z0⟩,l',rfl⟩:∃a l',l=a::l':=by cases l with | nil=>exact absurd rfl h2 | cons a l'=>exact⟨a,l',rfl⟩
 have h0:=hc 0 k0 z0 rfl;unfold jW cS at h0;obtain⟨cs,h3,h4⟩:=aL h0;obtain⟨bl,h5,h6⟩:=aL h3;obtain⟨L,h7,h8,h9⟩:=hR.blk g bl h5;rw[hR.glob g h1] at h7;cases h7;have hcs:∀i k z,((k0,z0)::l')[i]? =some (k,z)→cs[i]? =some (AV.int k z):=fun i k z hi=>by
  have:=hc i k z hi;unfold jW cS at this;rw[h5,aT,h6,aT,kM] at this;exact this
 have key:∀Cs,fJ P σ cs Cs→w.rangeAt g 0 Cs→∃Ds,fJ P (aB5 P) (((k0,z0)::l').map fun y=>AV.int y.1 y.2) Ds∧(∀u∈Ds,u.oneCell'=true)∧w.rangeAt g 0 Ds:=by
  intro Cs hC hr;refine⟨((k0,z0)::l').map fun y=>Value.int y.1 y.2,?_,fun u hu=>?_,fun j v hv=>?_⟩
  ·clear hcs hc hg h h0 hgl hx h2;generalize (k0,z0)::l'=m
   induction m with
   | nil=>exact cG.2 rfl
   | cons a m ih=>exact cF.2 ⟨_,_,rfl,by simp only[Rv],ih⟩
  ·obtain⟨y,_,rfl⟩:=Cy.1 hu;rfl
  ·rw[Az,Ap] at hv;obtain⟨⟨k,z⟩,hkz,rfl⟩:=hv;have h10:=hcs j k z hkz;obtain⟨V,hV,hVV⟩:=hC.get h10;simp only[Rv] at hVV;rw[←hVV];exact hr j V hV
 refine⟨h1,by simpa using h8,?_⟩;cases bl with
 | cells ds o s=>
  simp only[jS,Aj] at h6;subst h6;obtain⟨Cs,q1,_,q3,_⟩:=h9;exact key Cs q1 q3
 | ro ds=>
  simp only[jS,Aj] at h6;subst h6;obtain⟨Cs,q1,_,q3⟩:=h9;exact key Cs q1 q3
 | _=>cases h6
theorem aEo{l:List (Nat×List AV)}{σ':Env}{S':St}{w':World}(hR:iI P σ S w)(h:fL P (aB5 P) (stL P l) w σ' S' w'):fL P σ S w σ S w':=by
 have hk:∀r,r<w.heap.size→w'.heap[r]? =w.heap[r]? :=fun r hr=>h.keep r hr (aOF r);refine⟨⟨fun b bl hb=>?_,hR.lt,hR.fresh,hR.glob,hR.inj⟩,fun _ _=>rfl,Ah _,fun r hr _=>hk r hr,fun _ ho=>.inl ho,h.size,h.os,h.tape,h.output,fun _ _ hb=>hb⟩;obtain⟨L,q1,q2,q3⟩:=hR.blk b bl hb;exact⟨L,q1,Ae q2 h.size,q3.frame (fun _ _ x=>x) (hk _ q2)⟩
theorem aCE{fns:T dE}{id nt:Nat}{res:List RV}{c:AC}{Fn:Func}{t:List (Nat×List (IntKind×Int))}{l:List (Nat×List AV)}(hFn:P.funcs[id]? =some Fn)(hc:cFn P Fn=some ⟨nt,res,c⟩)(hl:l=t.map fun x=>(x.1,x.2.map fun y=>AV.int y.1 y.2))(hg:∀x∈t,x.1<P.globals.size∧x.2≠ [])
  (h:Good P c ⟨.e,false⟩ (stL P l) fun o A S=>aIV res o A S=some true):aHi P fns id (zP (kX t)):=by
 obtain⟨C,c',rs,hbody,hname,hC,hrs,heq⟩:=aCn hc;cases heq;refine⟨rfl,⟨Fn,C,hFn,hbody,hname⟩,fun n S S' v hrun σ w fv hf hR=>?_⟩;obtain⟨hloads,hS',hv⟩:=aHP hrun;subst hS';subst hv;have hT:aJe P l w:=by rw[hl];exact aEw hR hg hloads
 simp only[Rv] at hf;obtain⟨A,B,rfl,hA,hB⟩:=hf;have hA:=cG.1 hA;have hB:=cG.1 hB;subst hA;subst hB;rw[jY hFn hbody hname];show CallsIn Fence.wide 0 P id ⟨[]++([]++ [])⟩ w _;refine callsIn_of_wp_marks hFn hbody trivial ?_;obtain⟨hfr,hsz⟩:=aCp (P:=P) (σ:=aB5 P) (args:=[]) (Args:=[]) (cG.2 rfl) (nt:=Fn.ntmps) (Cj _);rw[←aEb];refine h none 0 Fn.ntmps C hC (fun _=>rfl) w.heap.size (aB5 P) _ w _ hsz Df.nil (Ah _) hfr (aNA hT) ?_;intro o A' S2 σ' a' w' hret hinr hsz' hdf hfr' hext;obtain⟨hoo,hres⟩:=aIY hret;obtain⟨_,rks,hd,hnd,hmk⟩:=hdf;have fin:∀w'',fL P (aB5 P) (stL P l) w σ' S2 w''→∃V,(Go.results Fn a'.tmps).run P w''= .ok V w''∧∃σ',Rv P σ' (.bool true) V∧fL P σ S' w σ' S' w'':=fun w'' hx=>by
  obtain⟨Vs,h8,h9⟩:=lV hx.rep hfr' hrs hres;refine⟨if h:Vs.toArray.size=1 then Vs.toArray[0] else .tuple Vs.toArray,?_,σ,?_,aEo hR hx⟩
  ·show((do let vs ←Fn.results.mapM (aDd a'.tmps);pure (if h:vs.size=1 then vs[0] else .tuple vs):Sem Value)).run P w''=_;rw[Array.mapM_eq_mapM_toList];simp only[Sem.run_bind,Sem.run_map,h8,Result.andThen_ok,Sem.run_pure]
  ·have:=aAD h9;simp only[oneOf,Rv] at this;rw[this];simp only[Rv]
 rcases hoo with rfl | rfl
 ·show LeavesInM Fence.wide 0 P Fn a'.tmps _ a'.defers .returning w';rw[hd];exact leaves rks w' hnd hmk hext fin
 ·show LeavesInM Fence.wide 0 P Fn a'.tmps _ a'.defers .returning w';rw[hd];exact leaves rks w' hnd hmk hext fin
theorem aDt{l:List (Nat×dE)}(hmix:P.follows .mixedOrders=true)(hl:∀p∈l,Row P p∨aHi P (table l) p.1 p.2):sH P (table l):=
 ⟨asked P,rT P,fun id fn h=>by
  rcases hl _ (zX h) with⟨Fn,h1,h2⟩ | h1
  ·exact .inl ⟨Fn,h1,h2⟩
  ·exact .inr h1,fun call hcall=>aAI (asked P) (rT P) hmix call hcall⟩
end Go.Ev
namespace Go.Ev
variable {P:Program}{σ:Env}{S:St}{w:World}
def uG(S:St):Prop:=∀b bl,S.h.get b=some bl→¬sA bl
def wA(σ:Env)(b:Nat)(L:Loc):Env:=fun c=>if c=b then some L else σ c
theorem aMl(hR:iI P σ S w)(L:Loc):∀b M,σ b=some M→wA σ S.nx L b=some M:=fun b M h=>by
 have:=hR.below h;unfold wA;rw[if_neg (by omega)];exact h
structure mC(P:Program)(σ:Env)(S:St)(w:World)(σ':Env)(S':St):Prop where
 rep:iI P σ' S' w
 no:uG S'
 same:Same S S'
 fresh:tW S'
 le:∀b L,σ b=some L→σ' b=some L
theorem mC.refl(hR:iI P σ S w)(hn:uG S)(hf:tW S):mC P σ S w σ S:=⟨hR,hn,Same.refl S,hf,fun _ _ h=>h⟩
theorem mC.trans{σ' σ'':Env}{S' S'':St}(h:mC P σ S w σ' S')(h':mC P σ' S' w σ'' S''):mC P σ S w σ'' S'':=⟨h'.rep,h'.no,h.same.trans h'.same,h'.fresh,fun b L hb=>h'.le b L (h.le b L hb)⟩
theorem aMo(hn:uG S)(r:Nat):¬Own σ S r:=fun⟨b,bl,_,h1,h2,_⟩=>hn b bl h1 h2
theorem aII{fns:T dE}(hK:sH P fns){id:Nat}{b:Bool}{Fn:Func}(hFn:P.funcs[id]? =some Fn)(hb:Fn.body.isSome=true)(hnm:(Fn.name== "runtime.NumGoroutine")=false){avs:List AV}{Args:List Value}{Q:St→Prop}
  (h:fA fns (.fn id [] []) avs S fun r S'=>r= .bool b∧Q S') (hargs:fJ P σ avs Args) (hR:iI P σ S w) (hn:uG S):
  Calls P id ⟨Args⟩ w fun e w'=>e= .returned (.bool b)∧Kept w w':=by
 obtain⟨n,v,S',hrun0,hv,_⟩:=h;subst hv;have hs:=aJh hK n _ _ _ _ _ hrun0 σ w (.func (.func id) ⟨[]⟩ ⟨[]⟩) Args (by simp only[Rv];exact⟨[],[],rfl,cG.2 rfl,cG.2 rfl⟩) hargs hR;have hnm':¬Fn.name= "runtime.NumGoroutine" :=by simpa using hnm
 obtain⟨C,hC⟩:=Option.isSome_iff_exists.1 hb;have hrun:((do let d ←Deferred.ofValue (.func (.func id) ⟨[]⟩ ⟨[]⟩) ⟨Args⟩;invoke d.target d.args:Sem Next)).run P w= .ok (.enter id ⟨Args⟩) w:=by
  simp only[Deferred.ofValue,Sem.run_bind,Sem.run_pure,Result.andThen_ok,invoke,callFunc,run_program,hFn];simp [hC,hnm']
 rw[hrun] at hs;have hs:CallsIn Fence.wide 0 P id ⟨Args⟩ w _:=hs;refine(callsIn_wide.1 hs).mono fun e w' h=>?_;cases e with
 | returned V=>
  obtain⟨σ',h1,h2⟩:=h;simp only[Rv] at h1;subst h1;exact⟨rfl,h2.kept (aMo hn)⟩
 | _=>exact h.elim
theorem aK2{l:List (Nat×List AV)}:uG (stL P l):=fun b bl h ho=>by
 obtain⟨cs,_,rfl⟩:=lP h;exact ho.elim
theorem aLp{l:List (Nat×List AV)}(hl:∀x∈l,x.1<P.globals.size):tW (stL P l):=fun b hb=>by
 cases h:(stL P l).h.get b with
 | none=>rfl
 | some bl=>
  obtain⟨cs,h1,_⟩:=lP h;have h2:=hl _ h1;simp only[stL] at hb;simp only at h2;omega
end Go.Ev
namespace Go.Ev
variable {P:Program}{σ:Env}{S:St}{w:World}
theorem aIL(hR:iI P σ S w)(hn:uG S)(hf:tW S)(hG:P.globals.size≤S.nx){r d:Nat}{cs:List AV}{Cs:List Value}(hr:r<w.heap.size)(hc:fJ P σ cs Cs)(h1:∀u∈Cs,u.oneCell'=true)(hw:w.rangeAt r d Cs):
  mC P σ S w (wA σ S.nx ⟨r,d,0⟩) ⟨S.h.set S.nx (some (.ro cs)),S.nx+1⟩:=by
 have hle:=aMl hR ⟨r,d,0⟩;refine⟨⟨fun b bl hb=>?_,fun b bl hb=>?_,fun b hb=>?_,fun g hg=>?_,fun b b' bl bl' L L' hb _ ho=>?_⟩,fun b bl hb=>?_,Same.alloc S _,(aI4 S _).1 hf,hle⟩
 ·simp only at hb;rw[T.get_set] at hb;split at hb
  ·rename_i e;subst e;cases hb;exact⟨⟨r,d,0⟩,by unfold wA;rw[if_pos rfl],hr,Cs,hc.mono hle,h1,hw⟩
  ·obtain⟨L,h1,h2,h3⟩:=hR.blk b bl hb;exact⟨L,hle b L h1,h2,h3.frame hle rfl⟩
 ·simp only at hb;rw[T.get_set] at hb;split at hb
  ·rename_i e;subst e;simp
  ·have:=hR.lt b bl hb;simp only;omega
 ·simp only at hb;unfold wA;rw[if_neg (by omega)];exact hR.fresh b (by omega)
 ·unfold wA;rw[if_neg (by omega)];exact hR.glob g hg
 ·simp only at hb;rw[T.get_set] at hb;split at hb
  ·cases hb;exact ho.elim
  ·exact absurd ho (hn b bl hb)
 ·simp only at hb;rw[T.get_set] at hb;split at hb
  ·cases hb;exact fun h=>h
  ·exact hn b bl hb
def Lays(P:Program)(t:TypeId){α:Type}(E:St→List AV→α→Prop):Prop:=
 ∀ (H:Type) (enc:TypeId×Value→H) (σ:Env) (S:St) (w:World) (base:Nat) (spare:Nat→Bool) (held:Bool) (fuel:Nat) (cs:List Value) (x:DataW H×List MemPlace),iI P σ S w→uG S→tW S→P.globals.size≤S.nx→DataW.trod enc P w base spare held fuel t cs=some x→(∀n∈DataW.weights P t x.1,n≤140737488355328)→
  ∃σ' S' avs a,mC P σ S w σ' S'∧fJ P σ' avs cs∧(∀u∈cs,u.oneCell'=true)∧E S' avs a∧S.nx≤S'.nx
def nY{α:Type}(E:St→List AV→α→Prop):Prop:=∀ {S S':St} {avs:List AV} {a:α},E S avs a→Same S S'→E S' avs a
def oF(k:IntKind)(_:St)(avs:List AV)(z:Int):Prop:=avs= [.int k z]∧(Lit.int k z).wf=true
theorem gN{k:IntKind}:nY (oF k):=fun h _=>h
theorem aFZ{t:TypeId}{k:IntKind}(ht:P.underlying t=some (.int k)):Lays P t (oF k):=by
 intro H enc σ S w base spare held fuel cs x hR hn hf hG h hW;obtain⟨n,rfl,_,hw⟩:=DataW.trod_int ht h;exact⟨σ,S,[.int k n],n,mC.refl hR hn hf,cF.2 ⟨_,_,rfl,by simp only[Rv],cG.2 rfl⟩,fun u hu=>by simp at hu;subst hu;rfl,⟨rfl,hw⟩,Ah _⟩
theorem aAu{H:Type}{e:TypeId}{d:DataW H}{n:Nat}:∀ {l:List (DataW H)},d∈l→n∈DataW.weights P e d→n∈DataW.weightsAll P e l
 | [],h,_=>by cases h
 | x::r,h,hn=>by
  show n∈DataW.weights P e x++DataW.weightsAll P e r;rcases Bg.1 h with rfl | h
  ·exact Ed _ hn
  ·exact Di _ (aAu h hn)
theorem rG{H:Type}{n:Nat}:∀ {ts:List TypeId} {l:List (DataW H)} {i:Nat} {t:TypeId} {d:DataW H},ts[i]? =some t→l[i]? =some d→n∈DataW.weights P t d→n∈DataW.weightsEach P ts l
 | [],_,_,_,_,h,_,_=>by simp at h
 | _::_,[],_,_,_,_,h,_=>by simp at h
 | u::ts,x::r,0,t,d,h1,h2,hn=>by
  simp at h1 h2;subst h1;subst h2;exact Ed _ hn
 | u::ts,x::r,i+1,t,d,h1,h2,hn=>by
  show n∈DataW.weights P u x++DataW.weightsEach P ts r;exact Di _ (rG (by simpa using h1) (by simpa using h2) hn)
theorem aCK{H:Type}{t e:TypeId}{xs ys:List (DataW H)}(ht:P.underlying t=some (.slice e)):DataW.weights P t (.slice xs ys)=(xs.length+ys.length) * P.bytesOf e::(DataW.weightsAll P e xs++DataW.weightsAll P e ys):=by
 unfold DataW.weights;rw[ht]
theorem aFd{H:Type}{t:TypeId}{fs:Array Field}{xs:List (DataW H)}(ht:P.underlying t=some (.struct fs)):DataW.weights P t (.agg xs)=DataW.weightsEach P (fs.toList.map (·.type)) xs:=by
 unfold DataW.weights;rw[ht]
def qC(k:Nat){α:Type}(E:St→List AV→α→Prop)(S:St)(avs:List AV)(l:List α):Prop:=
 ∃av,avs= [av]∧l.length * (8 * k)≤140737488355328∧((l= []∧(av= .nilsl∨av= .emp))∨∃ (b cap:Nat) (css:List (List AV)),av= .sl b 0 l.length cap false∧l.length≤cap∧b<S.nx∧S.h.get b=some (.ro css.flatten)∧css.length=l.length∧∀ (i:Nat) (cs:List AV) (a:α),css[i]? =some cs→l[i]? =some a→cs.length=k∧E S cs a)
theorem firm_sl{k:Nat}{α:Type}{E:St→List AV→α→Prop}(hE:nY E):nY (qC k E):=by
 rintro S S' avs l ⟨av,rfl,hL,h | ⟨b,cap,css,h1,h2,h3,h4,h5,h6⟩⟩ hs
 ·exact⟨av,rfl,hL,.inl h⟩
 ·exact⟨av,rfl,hL,.inr ⟨b,cap,css,h1,h2,Ae h3 hs.1,(hs.2 b h3).trans h4,h5,fun i cs a hi ha=>⟨(h6 i cs a hi ha).1,hE (h6 i cs a hi ha).2 hs⟩⟩⟩
theorem aJP{a:Addr}{n base:Nat}{cs:List Value}(h:w.cells? base a n=some cs):cs.length=n∧∀i,i<n→w.cell? (a.add i)=cs[i]? :=by
 unfold World.cells? at h;split at h
 ·refine⟨by simpa using mapM_some_length h,fun i hi=>?_⟩;exact mapM_some_get h i i (by simp [hi])
 ·cases h
theorem aBJ{e:TypeId}{k:Nat}{α:Type}{E:St→List AV→α→Prop}(hE:Lays P e E)(hF:nY E)(hk:0<k){H:Type}{enc:TypeId×Value→H}{base:Nat}{spare:Nat→Bool}{held:Bool}{fuel:Nat}{a:Addr}(hspot:a.spot=none)
  (hR:iI P σ S w) (hn:uG S) (hf:tW S) (hG:P.globals.size≤S.nx):∀ {m:Nat},(∀i,i<m→∃x,(w.cells? base (a.add (i * k)) k).bind (DataW.trod enc P w base spare held fuel e)=some x∧∀n∈DataW.weights P e x.1,n≤140737488355328)→
  ∃ (σ':Env) (S':St) (css:List (List AV)),∃l:List α,∃Cs:List Value,mC P σ S w σ' S'∧S.nx≤S'.nx∧css.length=m∧l.length=m∧(∀ (i:Nat) (cs:List AV) (a:α),css[i]? =some cs→l[i]? =some a→cs.length=k∧E S' cs a)∧fJ P σ' css.flatten Cs∧(∀u∈Cs,u.oneCell'=true)∧Cs.length=m * k∧w.rangeAt a.block a.off Cs
 | 0,_=>⟨σ,S,[],[],[],mC.refl hR hn hf,Ah _,rfl,rfl,fun i cs a hi=>(by simp at hi),cG.2 rfl,fun u hu=>(by cases hu),by simp,fun j v hv=>(by simp at hv)⟩
 | m+1,h=>by
  obtain⟨σ1,S1,css,l,Cs,hA,hn1,hcl,hll,hel,hrv,hone,hlen,hrange⟩:=aBJ hE hF hk hspot hR hn hf hG (m:=m) fun i hi=>h i (by omega);obtain⟨x,hx,hxW⟩:=h m (by omega);obtain⟨cs,hcs,hx⟩:=Cw.1 hx;obtain⟨σ2,S2,avs,y,hA2,hrv2,hone2,hE2,hn2⟩:=hE H enc σ1 S1 w base spare held fuel cs x hA.rep hA.no hA.fresh (Ay hG hn1) hx hxW;obtain⟨hcl2,hcell⟩:=aJP hcs;have hal:avs.length=k:=by rw[←hrv2.length];exact hcl2
  refine⟨σ2,S2,css++ [avs],l++ [y],Cs++cs,hA.trans hA2,Ay hn1 hn2,by simp [hcl],by simp [hll],?_,?_,?_,?_,?_⟩
  ·intro i cs' a' hi ha;rw[List.getElem?_append] at hi ha;rw[hcl] at hi;rw[hll] at ha;split at hi
   ·rename_i hlt;rw[if_pos hlt] at ha;exact⟨(hel i cs' a' hi ha).1,hF (hel i cs' a' hi ha).2 hA2.same⟩
   ·rename_i hlt;rw[if_neg hlt] at ha;have him:i - m=0:=by
     rcases Eb (i - m) with h | h
     ·exact h
     ·obtain⟨q,hq⟩:=Nat.exists_eq_succ_of_ne_zero (Nat.pos_iff_ne_zero.1 h);rw[hq] at hi;simp at hi
    rw[him] at hi ha;simp at hi ha;subst hi;subst ha;exact⟨hal,hE2⟩
  ·rw[List.flatten_append];simp only[List.flatten_cons,List.flatten_nil,Bs];exact(hrv.mono hA2.le).append hrv2
  ·intro u hu;rcases Bv.1 hu with hu | hu
   ·exact hone u hu
   ·exact hone2 u hu
  ·rw[Ak,hlen,hcl2,Eo]
  ·intro j v hv;rw[List.getElem?_append] at hv;split at hv
   ·exact hrange j v hv
   ·rename_i hlt;have hj:j - Cs.length<k:=by
     have:=(Ai.1 hv).1;omega
    have:=hcell (j - Cs.length) hj;rw[hv] at this;rw[←this];congr 1;have hadd:∀i,a.add i=⟨a.block,a.off+i,none⟩:=fun i=>by
     unfold Addr.add;split
     ·rename_i h;subst h;cases a;simp_all
     ·rfl
    have hadd2:∀ (x y:Nat),Addr.add ⟨a.block,x,none⟩ y=⟨a.block,x+y,none⟩:=fun x y=>by
     unfold Addr.add;split
     ·rename_i h;rw[h,Bj]
     ·rfl
    rw[hadd,hadd2,hlen];congr 1;rw[hlen] at hlt;omega
theorem qZ{t e:TypeId}{k:Nat}{α:Type}{E:St→List AV→α→Prop}(ht:P.underlying t=some (.slice e))(hc:P.cellsOf e=k)(hk:0<k)(hby:8 * k≤P.bytesOf e)(hE:Lays P e E)(hF:nY E):Lays P t (qC k E):=by
 intro H enc σ S w base spare held fuel cs x hR hn hf hG h hW;rcases DataW.trod_slice ht h with⟨rfl,_⟩ | ⟨a,len,cap,elems,rest,n,rfl,rfl,hxe,_,hlc,_,hlen,hel,_⟩
 ·exact⟨σ,S,[.nilsl],[],mC.refl hR hn hf,cF.2 ⟨_,_,rfl,by simp only[Rv],cG.2 rfl⟩,fun u hu=>by simp at hu;subst hu;rfl,⟨_,rfl,by simp,.inl ⟨rfl,.inl rfl⟩⟩,Ah _⟩
 ·rw[hc] at hel;subst hxe;have hW:∀n∈DataW.weights P t (.slice (elems.map (·.1)) (rest.map (·.1))),n≤140737488355328:=hW;rw[aCK ht] at hW;have hlw:len * (8 * k)≤140737488355328:=by
   have h1:=hW _ (Bt ..);rw[Bc,hlen,Et] at h1;exact Ay (Nat.mul_le_mul_left len hby) (by omega)
  rcases Eb len with h0 | hp
  ·subst h0;exact⟨σ,S,[.emp],[],mC.refl hR hn hf,cF.2 ⟨_,_,rfl,by simp only[Rv];exact⟨a,cap,rfl⟩,cG.2 rfl⟩,fun u hu=>by simp at hu;subst hu;rfl,⟨_,rfl,by simp,.inl ⟨rfl,.inr rfl⟩⟩,Ah _⟩
  ·have hget:∀i,i<len→∃x,(w.cells? base (a.add (i * k)) k).bind (DataW.trod enc P w base spare held n e)=some x∧∀n∈DataW.weights P e x.1,n≤140737488355328:=fun i hi=>by
    rw[hel i hi];exact⟨elems[i]'(by omega),Ac (by omega),fun n hn=>hW n (Bn _ (Ed _ (aAu (List.mem_map_of_mem (Bh _)) hn)))⟩
   obtain⟨x0,hx0,_⟩:=hget 0 hp;obtain⟨cs0,hcs0,_⟩:=Cw.1 hx0;obtain⟨hl0,hc0⟩:=aJP hcs0;have c0:=hc0 0 hk;rw[Ac (by omega),Fi] at c0;have e0:(a.add 0).add 0=a:=rfl;rw[e0] at c0;have hblk:a.block<w.heap.size∧a.spot=none:=by
    unfold World.cell? at c0;cases hh:w.heap[a.block]? with
    | none=>rw[hh] at c0;cases c0
    | some o=>
     refine⟨(Cp.1 hh).1,?_⟩;rw[hh] at c0;cases o with
     | cells c t fr=>
      simp only at c0;by_cases hs:a.spot.isSome
      ·rw[if_pos hs] at c0;cases c0
      ·simpa using hs
     | _=>cases c0
   obtain⟨σ1,S1,css,l,Cs,hA,hn1,hcl,hll,hE1,hrv,hone,hCl,hrange⟩:=aBJ hE hF hk hblk.2 hR hn hf hG hget;have hA2:=aIL hA.rep hA.no hA.fresh (Ay hG hn1) hblk.1 hrv hone hrange;refine⟨_,_,[.sl S1.nx 0 len cap false],l,hA.trans hA2,cF.2 ⟨_,_,rfl,?_,cG.2 rfl⟩,fun u hu=>by simp at hu;subst hu;rfl,⟨_,rfl,by rw[hll];exact hlw,.inr ⟨S1.nx,cap,css,by rw[hll],by omega,by simp,?_,by rw[hcl,hll],fun i cs a' hi ha=>⟨(hE1 i cs a' hi ha).1,hF (hE1 i cs a' hi ha).2 hA2.same⟩⟩⟩,by simp only;omega⟩
   ·simp only[Rv];refine⟨⟨a.block,a.off,0⟩,by unfold wA;rw[if_pos rfl],?_⟩;have:=hblk.2;cases a
    simp_all
   ·simp only;rw[T.get_set,if_pos rfl]
def NoE(_:St)(avs:List AV)(_:Unit):Prop:=avs= []
def qB{α β:Type}(E:St→List AV→α→Prop)(R:St→List AV→β→Prop)(S:St)(avs:List AV)(x:α×β):Prop:=∃u v,avs=u++v∧E S u x.1∧R S v x.2
theorem aHH:nY NoE:=fun h _=>h
theorem kQ{α β:Type}{E:St→List AV→α→Prop}{R:St→List AV→β→Prop}(h1:nY E)(h2:nY R):nY (qB E R):=fun⟨u,v,e,a,b⟩ hs=>⟨u,v,e,h1 a hs,h2 b hs⟩
def aHC(P:Program)(ts:List TypeId){α:Type}(E:St→List AV→α→Prop):Prop:=
 ∀ (H:Type) (enc:TypeId×Value→H) (σ:Env) (S:St) (w:World) (base:Nat) (spare:Nat→Bool) (held:Bool) (fuel off:Nat) (cs:List Value),iI P σ S w→uG S→tW S→P.globals.size≤S.nx→cs.length=off+(ts.map P.cellsOf).sum→
  (∀ (i:Nat) t,ts[i]? =some t→∃x,DataW.trod enc P w base spare held fuel t ((cs.drop (off+((ts.take i).map P.cellsOf).sum)).take (P.cellsOf t))=some x∧∀n∈DataW.weights P t x.1,n≤140737488355328)→
  ∃σ' S' avs a,mC P σ S w σ' S'∧fJ P σ' avs (cs.drop off)∧(∀u∈cs.drop off,u.oneCell'=true)∧E S' avs a∧S.nx≤S'.nx
theorem yT:aHC P [] NoE:=by
 intro H enc σ S w base spare held fuel off cs hR hn hf hG hl h;have:cs.drop off= []:=Cc (by simp at hl;omega);rw[this];exact⟨σ,S,[],(),mC.refl hR hn hf,cG.2 rfl,fun u hu=>(by cases hu),rfl,Ah _⟩
theorem fS{t:TypeId}{ts:List TypeId}{α β:Type}{E:St→List AV→α→Prop}{R:St→List AV→β→Prop}(h1:Lays P t E)(f1:nY E)(h2:aHC P ts R):aHC P (t::ts) (qB E R):=by
 intro H enc σ S w base spare held fuel off cs hR hn hf hG hl h;rw[Dp,List.sum_cons] at hl;obtain⟨x,hx,hxW⟩:=h 0 t rfl;simp only[Bp,List.map_nil,List.sum_nil,Bj] at hx;obtain⟨σ1,S1,avs,a,hA,hrv,hone,hE,hn1⟩:=h1 H enc σ S w base spare held fuel _ x hR hn hf hG hx hxW;obtain⟨σ2,S2,avs2,b,hA2,hrv2,hone2,hE2,hn2⟩:=h2 H enc σ1 S1 w base spare held fuel (off+P.cellsOf t) cs hA.rep hA.no hA.fresh (Ay hG hn1) (by omega) (fun i u hi=>by
  obtain⟨y,hy,hyW⟩:=h (i+1) u (by simpa using hi);rw[Bo,Dp,List.sum_cons,←Cr] at hy;exact⟨y,hy,hyW⟩)
 have hsplit:cs.drop off=(cs.drop off).take (P.cellsOf t)++cs.drop (off+P.cellsOf t):=by
  rw[←List.drop_drop,Cq]
 refine⟨σ2,S2,avs++avs2,(a,b),hA.trans hA2,?_,?_,⟨avs,avs2,rfl,f1 hE hA2.same,hE2⟩,Ay hn1 hn2⟩
 ·rw[hsplit];exact(hrv.mono hA2.le).append hrv2
 ·rw[hsplit];intro u hu;rcases Bv.1 hu with hu | hu
  ·exact hone u hu
  ·exact hone2 u hu
theorem tE{t:TypeId}{fs:Array Field}{ts:List TypeId}{α:Type}{E:St→List AV→α→Prop}(ht:P.underlying t=some (.struct fs))(hts:fs.toList.map (·.type)=ts)(hoff:∀i f,fs[i]? =some f→f.offset=((ts.take i).map P.cellsOf).sum)(hc:P.cellsOf t=(ts.map P.cellsOf).sum)(hE:aHC P ts E):Lays P t E:=by
 intro H enc σ S w base spare held fuel cs x hR hn hf hG h hW;obtain⟨xs,n,rfl,hxe,hl,hxs,hfs⟩:=DataW.trod_struct ht h;subst hxe;have hW:∀n∈DataW.weights P t (.agg (xs.map (·.1))),n≤140737488355328:=hW;rw[aFd ht] at hW;obtain⟨σ1,S1,avs,a,hA,hrv,hone,hE1,hn1⟩:=hE H enc σ S w base spare held n 0 cs hR hn hf hG (by omega) (fun i u hi=>by
  have hi0:=hi;rw[←hts,Az,Ap] at hi;obtain⟨f,hf1,rfl⟩:=hi;have hf2:fs[i]? =some f:=by simpa using hf1
  have h3:=hfs i f hf2;rw[hoff i f hf2] at h3;have hlt:i<xs.length:=by
   rw[hxs];exact(Cp.1 hf2).1
  exact⟨xs[i],by rw[An,h3,Ac hlt],fun n hn=>hW n (rG (i:=i) (by rw[hts];exact hi0) (by rw[Az,Ac hlt];rfl) hn)⟩)
 exact⟨σ1,S1,avs,a,hA,by simpa using hrv,by simpa using hone,hE1,hn1⟩
end Go.Ev
namespace Go.Ev
def aN(k:Nat){α:Type}(E:St→List AV→α→Prop)(S:St)(v:AV)(l:List α):Prop:=
 (l= []∧(v= .nilsl∨v= .emp))∨∃b off cap o cs,v= .sl b off l.length cap o∧l.length≤cap∧b<S.nx∧cS S.h b=some cs∧∀ (i:Nat) (a:α),l[i]? =some a→∃e:List AV,e.length=k∧(∀ (j:Nat) (x:AV),e[j]? =some x→cs[off+i * k+j]? =some x)∧E S e a
theorem aN.same{k:Nat}{α:Type}{E:St→List AV→α→Prop}(hE:nY E){S S':St}{v:AV}{l:List α}(h:aN k E S v l)(hs:Same S S'):aN k E S' v l:=by
 rcases h with h | ⟨b,off,cap,o,cs,h1,hc,h2,h3,h4⟩
 ·exact .inl h
 ·refine .inr ⟨b,off,cap,o,cs,h1,hc,Ae h2 hs.1,by rw[rU hs h2];exact h3,fun i a hi=>?_⟩;obtain⟨e,e1,e2,e3⟩:=h4 i a hi;exact⟨e,e1,e2,hE e3 hs⟩
theorem flat_get{k:Nat}:∀ {css:List (List AV)} {i j:Nat} {cs:List AV} {x:AV},(∀ (i:Nat) (cs:List AV),css[i]? =some cs→cs.length=k)→css[i]? =some cs→cs[j]? =some x→css.flatten[i * k+j]? =some x
 | [],i,j,cs,x,_,hi,_=>by simp at hi
 | c::css,0,j,cs,x,_,hi,hj=>by
  simp at hi;subst hi;rw[Fi,An,List.flatten_cons,Ba (Ai.1 hj).1];exact hj
 | c::css,i+1,j,cs,x,hk,hi,hj=>by
  have hc:=hk 0 c rfl;rw[List.flatten_cons,Eo,Av (by omega),hc,show i * k+k+j - k=i * k+j by omega];exact flat_get (fun i cs h=>hk (i+1) cs (by simpa using h)) (by simpa using hi) hj
theorem qC.is{k:Nat}{α:Type}{E:St→List AV→α→Prop}{S:St}{avs:List AV}{l:List α}(h:qC k E S avs l):∃v,avs= [v]∧aN k E S v l:=by
 obtain⟨v,rfl,_,h | ⟨b,cap,css,h1,h2,h3,h4,h5,h6⟩⟩:=h
 ·exact⟨v,rfl,.inl h⟩
 ·refine⟨v,rfl,.inr ⟨b,0,cap,false,css.flatten,h1,h2,h3,?_,fun i a hi=>?_⟩⟩
  ·unfold cS;rw[h4];rfl
  ·have hil:i<css.length:=by have:=(Ai.1 hi).1;omega
   obtain⟨e1,e2⟩:=h6 i css[i] a (Ac hil) hi;refine⟨css[i],e1,fun j x hj=>?_,e2⟩;rw[An];exact flat_get (fun i' cs' hi'=>(h6 i' cs' (l[i']'(by have:=(Ai.1 hi').1;omega)) hi' (Ac _)).1) (Ac hil) hj
section
variable {k:Nat}{α:Type}{E:St→List AV→α→Prop}{S:St}{v:AV}{l:List α}
theorem aN.len(h:aN k E S v l):gW v=some (.int .i64 ((l.length:Nat):Int)):=by
 rcases h with⟨rfl,rfl | rfl⟩ | ⟨b,off,cap,o,cs,rfl,_⟩<;>rfl
def aKu(k:Nat)(v:AV)(i:Nat):AV:=
 match v with
 | .sl b off _ _ _=>.ptr b (off+i * k)
 | _=>.undef
theorem aN.iaddr(h:aN k E S v l){i:Nat}(hi:i<l.length):eU (.slice k) v i=some (aKu k v i):=by
 rcases h with⟨rfl,_⟩ | ⟨b,off,cap,o,cs,rfl,_⟩
 ·simp at hi
 ·simp only[eU,aKu];have:Nat.blt i l.length=true:=Am hi;rw[this,aQ]
theorem aN.get(h:aN k E S v l){i:Nat}{a:α}(hi:l[i]? =some a):∃ (e:List AV) (b p:Nat),aKu k v i= .ptr b p∧b<S.nx∧e.length=k∧E S e a∧∃cs,cS S.h b=some cs∧∀ (j:Nat) (x:AV),e[j]? =some x→cs[p+j]? =some x:=by
 rcases h with⟨rfl,_⟩ | ⟨b,off,cap,o,cs,rfl,hc,hb,hcs,hel⟩
 ·simp at hi
 ·obtain⟨e,e1,e2,e3⟩:=hel i a hi;exact⟨e,b,off+i * k,rfl,hb,e1,e3,cs,hcs,e2⟩
end
end Go.Ev
