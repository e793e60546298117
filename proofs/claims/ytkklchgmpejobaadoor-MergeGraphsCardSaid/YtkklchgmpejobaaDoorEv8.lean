import Derived.Test.YtkklchgmpejobaaDoorEv7
import Derived.ChangeSlices
import Derived.ChangeArms
import Derived.DataReads
namespace Go.Ev
def sG(c d:dY):Prop:=∀f args S r,c f args S=some r→d f args S=some r
structure Le(a b:Evs):Prop where
 code:∀c A S r,a.code c A S=some r→b.code c A S=some r
 call:sG a.call b.call
theorem dF{α β:Type}{x y:Option α}{f g:α→Option β}{b:β}(h:aW x f=some b)(hx:∀a,x=some a→y=some a)(hf:∀a,f a=some b→g a=some b):aW y g=some b:=by
 obtain⟨a,h1,h2⟩:=aG h;rw[hx a h1];exact hf a h2
theorem aHr{c d:dY}(h:sG c d){v:AV}{tbl:List (Nat×Nat×Option (Bool×Nat))}{args:List AV}{S:St}{r:AV×St}(hv:aDu v tbl args c S=some r):aDu v tbl args d S=some r:=by
 unfold aDu at hv ⊢;split at hv
 ·refine dF hv (fun _ h=>h) fun a ha=>?_;unfold aGg at ha ⊢;split at ha
  ·exact h _ _ _ _ ha
  ·unfold aDw at ha ⊢;split at ha
   ·exact dF ha (fun _ h=>h) fun _ hb=>h _ _ _ _ hb
   ·cases ha
 ·cases hv
theorem aEO{c d:dY}(h:sG c d){x:XOp}{F:Fr}{S:St}{r:AV×St}(hv:zF x c F S=some r):zF x d F S=some r:=by
 cases x with
 | call f args=>exact h _ _ _ _ hv
 | inv tbl recv args=>exact aHr h hv
 | _=>exact hv
theorem aHF{c d:dY}(h:sG c d){o:AO}{F:Fr}{S:St}{r:Fr×St}(hv:aB1 o c F S=some r):aB1 o d F S=some r:=by
 unfold aB1 at hv ⊢;rw[bS] at hv ⊢;split at hv
 ·rename_i hw;rw[if_pos hw];cases ho:o.op with
  | q q=>rw[ho] at hv;exact hv
  | a a=>rw[ho] at hv;exact hv
  | x x=>
   rw[ho] at hv;exact dF (show aW (zF x c F S) _=some r from hv) (fun _ hx=>aEO h hx) fun _ hb=>hb
 ·rename_i hw;rw[if_neg hw];exact hv
theorem wW{c d:dY}(h:sG c d):∀ {l:List AO} {F:Fr} {S:St} {r:Fr×St},sW l c F S=some r→sW l d F S=some r
 | [],F,S,r,hv=>hv
 | o::l,F,S,r,hv=>dF (show aW (aB1 o c F S) (fun r=>sW l c r.1 r.2)=some r from hv) (fun _ hx=>aHF h hx) fun _ hb=>wW h hb
theorem aJs{c d:dY}(h:sG c d){o:AO}{i base:Nat}{D:DS}{r:DS}(hv:qO o i base c D=some r):qO o i base d D=some r:=by
 unfold qO at hv ⊢;rw[bS] at hv ⊢;split at hv
 ·rename_i hw;rw[if_pos hw];cases ho:o.op with
  | q q=>rw[ho] at hv;exact hv
  | a a=>rw[ho] at hv;exact hv
  | x x=>
   rw[ho] at hv;obtain⟨h1,h2⟩:=bH (show bG (iQ D.hs o.mask) _ none=some r from hv);show bG (iQ D.hs o.mask) _ none=some r;rw[h1,aM];exact dF h2 (fun _ hx=>aEO h hx) fun _ hb=>hb
 ·rename_i hw;rw[if_neg hw];exact hv
theorem qK{c d:dY}(h:sG c d):∀ {l:List AO} {i base:Nat} {D r:DS},vL l i base c D=some r→vL l i base d D=some r
 | [],_,_,_,_,hv=>hv
 | o::l,i,base,D,r,hv=>dF (show aW (qO o i base c D) (fun D'=>vL l (i+1) base c D')=some r from hv) (fun _ hx=>aJs h hx) fun _ hb=>qK h hb
theorem aDQ{c d:dY}(h:sG c d){l:List AO}{F:Fr}{S:St}{r:Fr×St}(hv:vJ l c F S=some r):vJ l d F S=some r:=
 dF (show aW _ _=some r from hv) (fun _ hx=>qK h hx) fun _ hb=>hb
theorem aFs{a b:Evs}(h:Le a b){c:AC}{A:bK}{S:St}{r:Out×bK×St}(hv:aF8 c a A S=some r):aF8 c b A S=some r:=by
 cases c with
 | skip=>exact hv
 | seq x y=>
  refine dF (show aW (a.code x A S) (pS y a)=some r from hv) (fun _ hx=>h.code _ _ _ _ hx) fun q hq=>?_;unfold pS at hq ⊢;split at hq
  ·exact h.code _ _ _ _ hq
  ·exact hq
 | cond x y z=>
  have hv:aAZ (x.val A.F) y z a A S=some r:=hv;show aAZ (x.val A.F) y z b A S=some r;unfold aAZ at hv ⊢;split at hv
  ·exact h.code _ _ _ _ hv
  ·cases hv
 | block id x=>exact dF (show aW (a.code x A S) (pQ id)=some r from hv) (fun _ hx=>h.code _ _ _ _ hx) fun _ hq=>hq
 | loop x=>
  refine dF (show aW (a.code x A S) (pS (.loop x) a)=some r from hv) (fun _ hx=>h.code _ _ _ _ hx) fun q hq=>?_;unfold pS at hq ⊢;split at hq
  ·exact h.code _ _ _ _ hq
  ·exact hq
 | exit id=>exact hv
 | ret=>exact hv
 | reg ops=>exact dF (show aW (sW ops a.call A.F S) _=some r from hv) (fun _ hx=>wW h.call hx) fun _ hq=>hq
 | drw ops=>exact dF (show aW (vJ ops a.call A.F S) _=some r from hv) (fun _ hx=>aDQ h.call hx) fun _ hq=>hq
 | rng f ps as bd=>
  have hv:aKZ f ps as bd a A S=some r:=hv;show aKZ f ps as bd b A S=some r;unfold aKZ at hv ⊢;cases hi:A.inr with
  | true=>rw[hi,aM] at hv;cases hv
  | false=>
   rw[hi,aT] at hv;rw[aT];obtain⟨h1,h2⟩:=bH hv;rw[h1,aM];refine dF h2 (fun _ hx=>h.call _ _ _ _ hx) fun q hq=>dF hq (fun _ hx=>hx) fun bl hbl=>?_;unfold aEa at hbl ⊢;split at hbl
   ·split at hbl
    ·cases hbl
    ·exact dF hbl (fun _ hx=>hx) fun _ hc=>h.code _ _ _ _ hc
   ·cases hbl
 | dfr ops f args=>exact hv
theorem aEN{a b:Evs}(h:Le a b){bl:AB}{l:Nat}{args:List AV}{S:St}{r:AV×St}(hv:aAs bl l args a S=some r):aAs bl l args b S=some r:=by
 unfold aAs at hv ⊢;split at hv
 ·refine dF hv (fun _ hx=>hx) fun F hF=>dF hF (fun _ hx=>h.code _ _ _ _ hx) fun q hq=>?_;unfold aDJ at hq ⊢;split at hq
  ·refine dF hq (fun _ hx=>hx) fun bl hbl=>?_;unfold tF at hbl ⊢;split at hbl
   ·exact dF (show aW (a.code _ _ _) _=some r from hbl) (fun _ hx=>h.code _ _ _ _ hx) fun _ hq=>hq
   ·cases hbl
  ·cases hq
 ·cases hv
theorem aEr{fns:T cR}{a b:Evs}(h:Le a b):sG (tT fns a) (tT fns b):=by
 intro f args S r hv;unfold tT at hv ⊢;split at hv
 ·refine dF hv (fun _ hx=>hx) fun fn hfn=>?_;unfold tP at hfn ⊢;obtain⟨h1,h2⟩:=bH hfn;rw[h1,aM];exact dF h2 (fun _ hx=>h.code _ _ _ _ hx) fun _ hq=>hq
 ·exact dF hv (fun _ hx=>hx) fun bl hbl=>aEN h hbl
 ·cases hv
theorem rN(fns:T cR):∀n,Le (ev fns n) (ev fns (n+1))
 | 0=>⟨fun c A S r (h:none=some r)=>(by cases h),fun f args S r (h:none=some r)=>(by cases h)⟩
 | n+1=>⟨fun _ _ _ _ h=>aFs (rN fns n) h,aEr (rN fns n)⟩
theorem mD(fns:T cR){n m:Nat}(h:n≤m):Le (ev fns n) (ev fns m):=by
 induction h with
 | refl=>exact⟨fun _ _ _ _ h=>h,fun _ _ _ _ h=>h⟩
 | step _ ih=>exact⟨fun c A S r h=>(rN fns _).code _ _ _ _ (ih.code _ _ _ _ h),fun f args S r h=>(rN fns _).call _ _ _ _ (ih.call _ _ _ _ h)⟩
end Go.Ev
namespace Go.Ev
abbrev oq(d:Nat)(q:xO):AO:=⟨some d,.q q,none,0⟩
abbrev om(d m:Nat)(q:xO):AO:=⟨some d,.q q,none,m⟩
abbrev og(d s:Nat)(b:Bool)(m:Nat)(q:xO):AO:=⟨some d,.q q,some (s,b),m⟩
abbrev oc(d f:Nat)(l:List cC)(m:Nat):AO:=⟨some d,.x (.call (.c (.fn f [] [])) l),none,m⟩
abbrev mt(d i:Nat):AO:=⟨some d,.q (.mv (.t i)),none,0⟩
abbrev ci(n:Int):cC:=.c (.int .i64 n)
abbrev bi(o:BinOp)(x y:cC):xO:=.bin o (.p .int) x y
abbrev ld(i:Nat):xO:=.ld false 1 (.t i)
abbrev Zs(n x v m:Nat):AO:=⟨none,.x (.st n (.t x) (.t v)),none,m⟩
abbrev Zf(d o x:Nat):AO:=oq d (.faddr o (.t x))
abbrev Zg(d m o x:Nat):AO:=om d m (.faddr o (.t x))
abbrev Zi(d k x y:Nat):AO:=oq d (.iaddr (.slice k) (.t x) (.t y))
abbrev Zj(d m k x y:Nat):AO:=om d m (.iaddr (.slice k) (.t x) (.t y))
abbrev Zl(d x:Nat):AO:=oq d (ld x)
abbrev Zm(d m x:Nat):AO:=om d m (ld x)
abbrev Zc(d:Nat)(n:Int):AO:=oq d (.mv (ci n))
abbrev Zn(d x:Nat):AO:=oq d (.lenSl (.t x))
abbrev Za(d x:Nat)(n:Int):AO:=oq d (bi .add (.t x) (ci n))
abbrev Zt(d x y:Nat):AO:=oq d (bi .lss (.t x) (.t y))
abbrev Ze(d x i:Nat):AO:=oq d (.extract (.t x) i)
abbrev Zd(d n x:Nat):AO:=oq d (.ld true n (.t x))
abbrev Zp(d c y:Nat):AO:=oq d (.pick (.t c) (.c (.bool true)) (.t y))
abbrev Zx(d s:Nat)(b:Bool)(m o x:Nat):AO:=og d s b m (.faddr o (.t x))
abbrev Zy(d s:Nat)(b:Bool)(m x:Nat):AO:=og d s b m (ld x)
abbrev Zu(d s:Nat)(b:Bool)(m x:Nat):AO:=og d s b m (.lenSl (.t x))
abbrev Zb(d k x:Nat):AO:=⟨some d,.a (.box k (.t x)),none,0⟩
variable {fns:T cR}
def oL(fns:T cR)(c:AC)(A:bK)(S:St)(Q:Out→bK→St→Prop):Prop:=∃n o A' S',(ev fns n).code c A S=some (o,A',S')∧Q o A' S'
def fH(fns:T cR)(f:AV)(args:List AV)(S:St)(Q:AV→St→Prop):Prop:=∃n v S',(ev fns n).call f args S=some (v,S')∧Q v S'
def qU(fns:T cR)(ops:List AO)(F:Fr)(S:St)(Q:Fr→St→Prop):Prop:=∃n F' S',sW ops (ev fns n).call F S=some (F',S')∧Q F' S'
theorem aX{c:AC}{A:bK}{S:St}{Q R:Out→bK→St→Prop}(h:oL fns c A S Q)(hq:∀o A S,Q o A S→R o A S):oL fns c A S R:=by
 obtain⟨n,o,A',S',h1,h2⟩:=h;exact⟨n,o,A',S',h1,hq _ _ _ h2⟩
theorem aP{f:AV}{args:List AV}{S:St}{Q R:AV→St→Prop}(h:fH fns f args S Q)(hq:∀v S,Q v S→R v S):fH fns f args S R:=by
 obtain⟨n,v,S',h1,h2⟩:=h;exact⟨n,v,S',h1,hq _ _ h2⟩
theorem aER{ops:List AO}{F:Fr}{S:St}{Q R:Fr→St→Prop}(h:qU fns ops F S Q)(hq:∀F S,Q F S→R F S):qU fns ops F S R:=by
 obtain⟨n,F',S',h1,h2⟩:=h;exact⟨n,F',S',h1,hq _ _ h2⟩
theorem aJ{A:bK}{S:St}{Q:Out→bK→St→Prop}(h:Q .normal A S):oL fns .skip A S Q:=⟨1,_,_,_,rfl,h⟩
theorem bC{id:Nat}{A:bK}{S:St}{Q:Out→bK→St→Prop}(h:Q (.exit id) A S):oL fns (.exit id) A S Q:=⟨1,_,_,_,rfl,h⟩
theorem aS{A:bK}{S:St}{Q:Out→bK→St→Prop}(h:Q .ret A S):oL fns .ret A S Q:=⟨1,_,_,_,rfl,h⟩
def aBK(fns:T cR)(y:AC)(Q:Out→bK→St→Prop):Out→bK→St→Prop
 | .normal,A,S=>oL fns y A S Q
 | o,A,S=>Q o A S
theorem aC{x y:AC}{A:bK}{S:St}{Q:Out→bK→St→Prop}(h:oL fns x A S (aBK fns y Q)):oL fns (.seq x y) A S Q:=by
 obtain⟨n,o,A1,S1,h1,h2⟩:=h;cases o with
 | normal=>
  obtain⟨m,o,A2,S2,h3,h4⟩:=h2;refine⟨max n m+1,o,A2,S2,?_,h4⟩;show aW ((ev fns (max n m)).code x A S) (pS y (ev fns (max n m)))=_;rw[(mD fns (Nat.le_max_left n m)).code _ _ _ _ h1,aO];exact(mD fns (Nat.le_max_right n m)).code _ _ _ _ h3
 | ret=>
  refine⟨n+1,.ret,A1,S1,?_,h2⟩;show aW ((ev fns n).code x A S) (pS y (ev fns n))=_;rw[h1];rfl
 | exit i=>
  refine⟨n+1,.exit i,A1,S1,?_,h2⟩;show aW ((ev fns n).code x A S) (pS y (ev fns n))=_;rw[h1];rfl
theorem aJb{c:cC}{x y:AC}{A:bK}{S:St}{Q:Out→bK→St→Prop}{t:Bool}(hc:c.val A.F= .bool t)(h:oL fns (bG t x y) A S Q):oL fns (.cond c x y) A S Q:=by
 obtain⟨n,o,A1,S1,h1,h2⟩:=h;refine⟨n+1,o,A1,S1,?_,h2⟩;show aAZ (c.val A.F) x y (ev fns n) A S=_;rw[hc];exact h1
theorem aGi{c:cC}{x y:AC}{A:bK}{S:St}{Q:Out→bK→St→Prop}{t:Bool}(hc:c.val A.F= .bool t)(h1:t=true→oL fns x A S Q)(h2:t=false→oL fns y A S Q):oL fns (.cond c x y) A S Q:=by
 refine aJb hc ?_;cases t
 ·exact h2 rfl
 ·exact h1 rfl
def zQ(id:Nat)(Q:Out→bK→St→Prop):Out→bK→St→Prop
 | .exit i,A,S=>if i=id then Q .normal A S else Q (.exit i) A S
 | o,A,S=>Q o A S
theorem aK{id:Nat}{c:AC}{A:bK}{S:St}{Q:Out→bK→St→Prop}(h:oL fns c A S (zQ id Q)):oL fns (.block id c) A S Q:=by
 obtain⟨n,o,A1,S1,h1,h2⟩:=h;cases o with
 | normal=>exact⟨n+1,.normal,A1,S1,by show aW ((ev fns n).code c A S) (pQ id)=_;rw[h1];rfl,h2⟩
 | ret=>exact⟨n+1,.ret,A1,S1,by show aW ((ev fns n).code c A S) (pQ id)=_;rw[h1];rfl,h2⟩
 | exit i=>
  by_cases hi:i=id
  ·subst hi;have h2:Q .normal A1 S1:=by simpa [zQ] using h2
   exact⟨n+1,.normal,A1,S1,by show aW ((ev fns n).code c A S) (pQ i)=_;rw[h1];simp [aO,pQ,bS,Aq],h2⟩
  ·have h2:Q (.exit i) A1 S1:=by simpa [zQ,hi] using h2
   exact⟨n+1,.exit i,A1,S1,by show aW ((ev fns n).code c A S) (pQ id)=_;rw[h1];simp [aO,pQ,bS,Aq,hi],h2⟩
def aD2(I:Nat→bK→St→Prop)(k:Nat)(Q:Out→bK→St→Prop):Out→bK→St→Prop
 | .normal,A,S=>∃k',k'<k∧I k' A S
 | o,A,S=>Q o A S
theorem bI{c:AC}{Q:Out→bK→St→Prop}(I:Nat→bK→St→Prop)(h:∀k A S,I k A S→oL fns c A S (aD2 I k Q)):∀k A S,I k A S→oL fns (.loop c) A S Q:=by
 intro k
 induction k using Nat.strongRecOn with
 | _ k ih=>
  intro A S hI;obtain⟨n,o,A1,S1,h1,h2⟩:=h k A S hI;cases o with
  | normal=>
   obtain⟨k',hk,hI'⟩:=h2;obtain⟨m,o,A2,S2,h3,h4⟩:=ih k' hk A1 S1 hI';refine⟨max n m+1,o,A2,S2,?_,h4⟩;show aW ((ev fns (max n m)).code c A S) (pS (.loop c) (ev fns (max n m)))=_;rw[(mD fns (Nat.le_max_left n m)).code _ _ _ _ h1,aO];exact(mD fns (Nat.le_max_right n m)).code _ _ _ _ h3
  | ret=>
   refine⟨n+1,.ret,A1,S1,?_,h2⟩;show aW ((ev fns n).code c A S) (pS (.loop c) (ev fns n))=_;rw[h1];rfl
  | exit i=>
   refine⟨n+1,.exit i,A1,S1,?_,h2⟩;show aW ((ev fns n).code c A S) (pS (.loop c) (ev fns n))=_;rw[h1];rfl
theorem aD{ops:List AO}{A:bK}{S:St}{Q:Out→bK→St→Prop}(h:qU fns ops A.F S fun F' S'=>Q .normal ⟨F',A.inr⟩ S'):oL fns (.reg ops) A S Q:=by
 obtain⟨n,F',S',h1,h2⟩:=h;refine⟨n+1,.normal,⟨F',A.inr⟩,S',?_,h2⟩;show aW (sW ops (ev fns n).call A.F S) _=_;rw[h1];rfl
def aMk(res:List RV)(Q:AV→St→Prop):Out→bK→St→Prop
 | .exit _,_,_=>False
 | _,A,S=>∃vs,results res A.F S.h=some vs∧Q (oneOf vs) S
theorem bP{id nt:Nat}{res:List RV}{body:AC}{first cap args:List AV}{S:St}{Q:AV→St→Prop}(hfn:fns.get id=some ⟨nt,res,body⟩)(hn:(first++(args++cap)).length≤nt)
  (h:oL fns body ⟨pH (first++(args++cap)) 0 .e,false⟩ S (aMk res Q)):fH fns (.fn id first cap) args S Q:=by
 obtain⟨n,o,A',S',h1,h2⟩:=h;have key:∀ (_:∃vs,results res A'.F S'.h=some vs∧Q (oneOf vs) S') (_:aDA ⟨nt,res,body⟩ (o,A',S')=aW (results res A'.F S'.h) fun vs=>some (oneOf vs,S')),fH fns (.fn id first cap) args S Q:=by
  rintro⟨vs,h3,h4⟩ h5;refine⟨n+1,oneOf vs,S',?_,h4⟩;show aW (fns.get id) (fun fn=>tP fn (uA first (uA args cap)) (ev fns n) S)=_;rw[hfn,aO];unfold tP;rw[fP,fP,dI,Ak hn,aM,h1,aO,h5,h3];rfl
 cases o with
 | normal=>exact key h2 rfl
 | ret=>exact key h2 rfl
 | exit i=>exact h2.elim
theorem zC{F:Fr}{S:St}{Q:Fr→St→Prop}:qU fns [] F S Q↔Q F S:=
 ⟨fun⟨_,_,_,h1,h2⟩=>by cases h1;exact h2,fun h=>⟨0,F,S,rfl,h⟩⟩
theorem aBZ{o:AO}{l:List AO}{F F1:Fr}{S S1:St}{Q:Fr→St→Prop}(h:∀call,aB1 o call F S=some (F1,S1))(hl:qU fns l F1 S1 Q):qU fns (o::l) F S Q:=by
 obtain⟨n,F',S',h1,h2⟩:=hl;refine⟨n,F',S',?_,h2⟩;rw[fD,h,aO];exact h1
theorem aJO{d:Option Nat}{q:xO}{m:Nat}{l:List AO}{F:Fr}{S:St}{Q:Fr→St→Prop}{v:AV}(h:gB q F S.h=some v)(hl:qU fns l (bY d F v) S Q):qU fns (⟨d,.q q,none,m⟩::l) F S Q:=
 aBZ (fun call=>by show aW (gB q F S.h) _=_;rw[h];rfl) hl
theorem aNk{d:Option Nat}{a:uG}{m:Nat}{l:List AO}{F:Fr}{S:St}{Q:Fr→St→Prop}{v:AV}{bl:AB}(h:uP a F S.nx=some (v,bl))(hl:qU fns l (bY d F v) ⟨S.h.set S.nx (some bl),S.nx+1⟩ Q):qU fns (⟨d,.a a,none,m⟩::l) F S Q:=
 aBZ (fun call=>by show aW (uP a F S.nx) _=_;rw[h];rfl) hl
theorem eZ{d:Option Nat}{x:XOp}{m:Nat}{l:List AO}{F:Fr}{S S1:St}{Q:Fr→St→Prop}{v:AV}(h:∀call,zF x call F S=some (v,S1))(hl:qU fns l (bY d F v) S1 Q):qU fns (⟨d,.x x,none,m⟩::l) F S Q:=
 aBZ (fun call=>by show aW (zF x call F S) _=_;rw[h];rfl) hl
theorem aV{d:Option Nat}{f:cC}{args:List cC}{m:Nat}{l:List AO}{F:Fr}{S:St}{Q:Fr→St→Prop}(h:fH fns (f.val F) (cM args F) S fun v S1=>qU fns l (bY d F v) S1 Q):qU fns (⟨d,.x (.call f args),none,m⟩::l) F S Q:=by
 obtain⟨n,v,S1,h1,k,F',S',h2,h3⟩:=h;refine⟨max n k,F',S',?_,h3⟩;rw[fD];have:aB1 ⟨d,.x (.call f args),none,m⟩ (ev fns (max n k)).call F S=some (bY d F v,S1):=by
  show aW ((ev fns (max n k)).call (f.val F) (cM args F) S) _=_;rw[(mD fns (Nat.le_max_left n k)).call _ _ _ _ h1];rfl
 rw[this,aO];exact wW (mD fns (Nat.le_max_right n k)).call h2
theorem fB(i:Nat)(F:Fr):(cC.t i).val F=aH i F:=rfl
theorem aHa(v:AV)(F:Fr):(cC.c v).val F=v:=rfl
theorem eF(F:Fr)(v:AV):bY none F v=F:=rfl
theorem bN(i j:Nat)(F:Fr)(v:AV):aH i (bY (some j) F v)=if i=j then v else aH i F:=by
 show aH i (F.set j (some v))=_;unfold aH;rw[T.get_set];split<;>rfl
end Go.Ev
namespace Go.Ev
variable {fns:T cR}
theorem aKp{tbl:List (Nat×Nat×Option (Bool×Nat))}{recv:cC}{args:List cC}{F:Fr}{t f:Nat}{v:AV}(hr:recv.val F= .iface t v)(hf:tO t tbl=some (f,none))(call:dY)(S:St):zF (.inv tbl recv args) call F S=zF (.call (.c (.fn f [v] [])) args) call F S:=by
 show aDu (recv.val F) tbl (cM args F) call S=call (.fn f [v] []) (cM args F) S;rw[hr];show aW (tO t tbl) (fun r=>aGg r v (cM args F) call S)=_;rw[hf,aO];rfl
end Go.Ev
namespace Go.Ev
def Same(S S':St):Prop:=S.nx≤S'.nx∧∀b,b<S.nx→S'.h.get b=S.h.get b
theorem Same.refl(S:St):Same S S:=⟨Ah _,fun _ _=>rfl⟩
theorem Same.trans{S S' S'':St}(h:Same S S')(h':Same S' S''):Same S S'':=⟨Ax h.1 h'.1,fun b hb=>(h'.2 b (Ae hb h.1)).trans (h.2 b hb)⟩
theorem Same.alloc(S:St)(bl:AB):Same S ⟨S.h.set S.nx (some bl),S.nx+1⟩:=⟨Nat.le_succ _,fun b hb=>by simp only;rw[T.get_set,if_neg (by omega)]⟩
theorem Same.put{S S':St}{b:Nat}(h:Same S S')(hb:S.nx≤b)(x:Option AB):Same S ⟨S'.h.set b x,S'.nx⟩:=⟨h.1,fun c hc=>by simp only;rw[T.get_set,if_neg (by omega)];exact h.2 c hc⟩
def bJ(k:IntKind)(S:St)(v:AV)(l:List Int):Prop:=
 (l= []∧(v= .nilsl∨v= .emp))∨∃b off cap o cs,v= .sl b off l.length cap o∧l.length≤cap∧b<S.nx∧cK S.h b=some cs∧∀i x,l[i]? =some x→cs[off+i]? =some (.int k x)
theorem rV{S S':St}(h:Same S S'){b:Nat}(hb:b<S.nx):cK S'.h b=cK S.h b:=by unfold cK;rw[h.2 b hb]
theorem bJ.same{k:IntKind}{S S':St}{v:AV}{l:List Int}(h:bJ k S v l)(hs:Same S S'):bJ k S' v l:=by
 rcases h with h | ⟨b,off,cap,o,cs,h1,hc,h2,h3,h4⟩
 ·exact .inl h
 ·exact .inr ⟨b,off,cap,o,cs,h1,hc,Ae h2 hs.1,by rw[rV hs h2];exact h3,h4⟩
theorem bJ.len{k:IntKind}{S:St}{v:AV}{l:List Int}(h:bJ k S v l):lE v=some (.int .i64 (.ofNat l.length)):=by
 rcases h with⟨rfl,rfl | rfl⟩ | ⟨b,off,cap,o,cs,rfl,_⟩<;>rfl
def aAR(v:AV)(i:Nat):AV:=
 match v with
 | .sl b off _ _ _=>.ptr b (off+i * 1)
 | _=>.undef
theorem bJ.iaddr{k:IntKind}{S:St}{v:AV}{l:List Int}(h:bJ k S v l){i:Nat}(hi:i<l.length):fC (.slice 1) v i=some (aAR v i):=by
 rcases h with⟨rfl,_⟩ | ⟨b,off,cap,o,cs,rfl,_⟩
 ·simp at hi
 ·simp only[fC,aAR];have:Nat.blt i l.length=true:=Ak hi;rw[this,aM]
theorem bJ.ld{k:IntKind}{S:St}{v:AV}{l:List Int}(h:bJ k S v l){i:Nat}(hi:i<l.length):cJ (aAR v i) false 1 S.h=some (.int k (l.getD i 0)):=by
 rcases h with⟨rfl,_⟩ | ⟨b,off,cap,o,cs,rfl,hc,hb,hcs,hel⟩
 ·simp at hi
 ·simp only[aAR,cJ,lL,aT,iJ,hcs,aO,iO,Eb];rw[hel i l[i] (Ad hi)];simp [Ai,hi]
theorem aDs(e:mM)(k:IntKind)(a b:Int):eB .add e (.int k a) (.int k b)=some (.int k (k.wrap (a+b))):=by
 show cI .add k a k b=_;unfold cI;rw[show dJ .add=false from rfl,aT,dK,aM];show some (AV.int k (aJ1 k a b))=_;rw[aEM]
theorem aDN(e:mM)(k:IntKind)(a b:Int):eB .sub e (.int k a) (.int k b)=some (.int k (k.wrap (a - b))):=by
 show cI .sub k a k b=_;unfold cI;rw[show dJ .sub=false from rfl,aT,dK,aM];show some (AV.int k (aFy k a b))=_;rw[xY]
theorem aDy(e:mM)(k:IntKind)(a b:Int):eB .mul e (.int k a) (.int k b)=some (.int k (k.wrap (a * b))):=by
 show cI .mul k a k b=_;unfold cI;rw[show dJ .mul=false from rfl,aT,dK,aM];show some (AV.int k (aFm k a b))=_;rw[yA]
theorem aDK(e:mM)(k:IntKind)(a b:Int):eB .lss e (.int k a) (.int k b)=some (.bool (decide (a<b))):=by
 show cI .lss k a k b=_;unfold cI;rw[show dJ .lss=false from rfl,aT,dK,aM];show some (AV.bool (bG (ile b a) false true))=_;rw[oC,oY];congr 2;rw[Bu];simp
theorem aDv(e:mM)(k:IntKind)(a b:Int):eB .leq e (.int k a) (.int k b)=some (.bool (decide (a≤b))):=by
 show cI .leq k a k b=_;unfold cI;rw[show dJ .leq=false from rfl,aT,dK,aM];show some (AV.bool (ile a b))=_;rw[oC]
theorem aEm(e:mM)(k:IntKind)(a b:Int):eB .gtr e (.int k a) (.int k b)=some (.bool (decide (b<a))):=by
 show cI .gtr k a k b=_;unfold cI;rw[show dJ .gtr=false from rfl,aT,dK,aM];show some (AV.bool (bG (ile a b) false true))=_;rw[oC,oY];congr 2;rw[Bu];simp
theorem aDO(e:mM)(k:IntKind)(a b:Int):eB .geq e (.int k a) (.int k b)=some (.bool (decide (b≤a))):=by
 show cI .geq k a k b=_;unfold cI;rw[show dJ .geq=false from rfl,aT,dK,aM];show some (AV.bool (ile b a))=_;rw[oC]
theorem aBl(e:mM)(k:IntKind)(a b:Int):eB .eql e (.int k a) (.int k b)=some (.bool (decide (a=b))):=by
 show cI .eql k a k b=_;unfold cI;rw[show dJ .eql=false from rfl,aT,dK,aM];show some (AV.bool (ieq a b))=_;rw[iD];congr 2
theorem aDz(e:mM)(k:IntKind)(a b:Int):eB .neq e (.int k a) (.int k b)=some (.bool (decide (a≠b))):=by
 show cI .neq k a k b=_;unfold cI;rw[show dJ .neq=false from rfl,aT,dK,aM];show some (AV.bool (bG (ieq a b) false true))=_;rw[iD,oY];congr 2;rw[Bu];simp
section
variable (F:Fr)(h:T AB)
theorem aDP(x:cC):gB (.mv x) F h=some (x.val F):=rfl
theorem aBn(op:BinOp)(e:mM)(x y:cC):gB (.bin op e x y) F h=eB op e (x.val F) (y.val F):=rfl
theorem aF2(op:UnOp)(x:cC):gB (.un op x) F h=unV op (x.val F):=rfl
theorem vI(x:cC):gB (.lenSl x) F h=lE (x.val F):=rfl
theorem lV(k:IxK)(x ix:cC):gB (.iaddr k x ix) F h=aW (eG (ix.val F)) fun i=>fC k (x.val F) i:=rfl
theorem kH(agg:Bool)(n:Nat)(x:cC):gB (.ld agg n x) F h=cJ (x.val F) agg n h:=rfl
theorem aCc(k:aFL)(x:cC):gB (.conv k x) F h=tX k (x.val F) h:=rfl
theorem uF(x:cC)(i:Nat):gB (.extract x i) F h=jU (x.val F) i:=rfl
theorem aCq(c a b:cC):gB (.pick c a b) F h=tL (c.val F) a b F:=rfl
theorem aDU(agg:Bool)(off n:Nat)(x:cC):gB (.fld agg off n x) F h=aIp (x.val F) agg off n:=rfl
end
theorem aI(k:IntKind)(n:Nat):eG (.int k (n:Int))=some n:=rfl
theorem aCG(k j:IntKind)(n:Int)(h:T AB):tX (.int k) (.int j n) h=some (.int k (k.wrap n)):=by
 show some (AV.int k (aDo k n))=_;rw[qH]
end Go.Ev
namespace Go.Ev
variable {fns:T cR}
def iY{α:Type}(x:Option α)(Q:α→Prop):Prop:=∃a,x=some a∧Q a
theorem dH{α:Type}(a:α)(Q:α→Prop):iY (some a) Q=Q a:=propext ⟨fun⟨_,h1,h2⟩=>by cases h1;exact h2,fun h=>⟨a,rfl,h⟩⟩
theorem aGJ{d:Option Nat}{q:xO}{m:Nat}{l:List AO}{F:Fr}{S:St}{Q:Fr→St→Prop}:qU fns (⟨d,.q q,none,m⟩::l) F S Q↔iY (gB q F S.h) fun v=>qU fns l (bY d F v) S Q:=by
 constructor
 ·rintro⟨n,F',S',h1,h2⟩;rw[fD] at h1;obtain⟨r,h3,h4⟩:=aG h1;obtain⟨v,h5,h6⟩:=aG (show aW (gB q F S.h) (fun v=>some (bY d F v,S))=some r from h3);cases h6;exact⟨v,h5,n,F',S',h4,h2⟩
 ·rintro⟨v,h1,h2⟩;exact aJO h1 h2
theorem aAl{d:Option Nat}{a:uG}{m:Nat}{l:List AO}{F:Fr}{S:St}{Q:Fr→St→Prop}:qU fns (⟨d,.a a,none,m⟩::l) F S Q↔iY (uP a F S.nx) fun r=>qU fns l (bY d F r.1) ⟨S.h.set S.nx (some r.2),S.nx+1⟩ Q:=by
 constructor
 ·rintro⟨n,F',S',h1,h2⟩;rw[fD] at h1;obtain⟨r,h3,h4⟩:=aG h1;obtain⟨v,h5,h6⟩:=aG (show aW (uP a F S.nx) (fun r=>some (bY d F r.1,(⟨S.h.set S.nx (some r.2),Nat.succ S.nx⟩:St)))=some r from h3);cases h6;exact⟨v,h5,n,F',S',h4,h2⟩
 ·rintro⟨⟨v,bl⟩,h1,h2⟩;exact aNk h1 h2
def vU(fns:T cR)(ops:List AO)(i base:Nat)(D:DS)(Q:DS→Prop):Prop:=∃n D',vL ops i base (ev fns n).call D=some D'∧Q D'
theorem rJ{ops:List AO}{A:bK}{S:St}{Q:Out→bK→St→Prop}(h:vU fns ops 0 S.nx ⟨A.F,⟨S.h,S.nx+ops.length⟩,[],[],[]⟩ fun D=>eO S.h D.hs.reverse D.ls=true∧Q .normal ⟨D.F,A.inr⟩ ⟨(bV (2 ^ ops.length - 1) D.ps D.S.h).2,D.S.nx⟩):oL fns (.drw ops) A S Q:=by
 obtain⟨n,D,h1,h2,h3⟩:=h;refine⟨n+1,.normal,⟨D.F,A.inr⟩,⟨(bV (2 ^ ops.length - 1) D.ps D.S.h).2,D.S.nx⟩,?_,h3⟩;show aW (aW (vL ops 0 S.nx (ev fns n).call ⟨A.F,⟨S.h,S.nx+iL ops⟩,[],[],[]⟩) fun D=>xT S.h (iL ops) D) _=_;rw[dI,h1,aO];unfold xT;rw[h2,aM];rfl
theorem jY{i base:Nat}{D:DS}{Q:DS→Prop}:vU fns [] i base D Q↔Q D:=
 ⟨fun⟨_,_,h1,h2⟩=>by cases h1;exact h2,fun h=>⟨0,D,rfl,h⟩⟩
theorem lM{d:Option Nat}{q:xO}{m i base:Nat}{l:List AO}{D:DS}{Q:DS→Prop}:vU fns (⟨d,.q q,none,m⟩::l) i base D Q↔
  iY (gB q D.F D.S.h) fun v=>vU fns l (i+1) base ⟨bY d D.F v,D.S,D.ps,D.hs,bG (dE q) (⟨q,D.F,v,i,m⟩::D.ls) D.ls⟩ Q:=by
 constructor
 ·rintro⟨n,D',h1,h2⟩;obtain⟨r,h3,h4⟩:=aG (show aW (qO ⟨d,.q q,none,m⟩ i base (ev fns n).call D) (fun D'=>vL l (i+1) base (ev fns n).call D')=some D' from h1);obtain⟨v,h5,h6⟩:=aG (show aW (gB q D.F D.S.h) (fun v=>some (⟨bY d D.F v,D.S,D.ps,D.hs,bG (dE q) (⟨q,D.F,v,i,m⟩::D.ls) D.ls⟩:DS))=some r from h3);cases h6;exact⟨v,h5,n,D',h4,h2⟩
 ·rintro⟨v,h1,n,D',h2,h3⟩;refine⟨n,D',?_,h3⟩;show aW (aW (gB q D.F D.S.h) _) _=_;rw[h1];exact h2
theorem aGl{d:Option Nat}{a:uG}{m i base:Nat}{l:List AO}{D:DS}{Q:DS→Prop}:vU fns (⟨d,.a a,none,m⟩::l) i base D Q↔
  iY (uP a D.F (base+i)) fun r=>vU fns l (i+1) base ⟨bY d D.F r.1,D.S,⟨i,base+i,r.2⟩::D.ps,D.hs,D.ls⟩ Q:=by
 constructor
 ·rintro⟨n,D',h1,h2⟩;obtain⟨r,h3,h4⟩:=aG (show aW (qO ⟨d,.a a,none,m⟩ i base (ev fns n).call D) (fun D'=>vL l (i+1) base (ev fns n).call D')=some D' from h1);obtain⟨v,h5,h6⟩:=aG (show aW (uP a D.F (base+i)) (fun r=>some (⟨bY d D.F r.1,D.S,⟨i,base+i,r.2⟩::D.ps,D.hs,D.ls⟩:DS))=some r from h3);cases h6;exact⟨v,h5,n,D',h4,h2⟩
 ·rintro⟨r,h1,n,D',h2,h3⟩;refine⟨n,D',?_,h3⟩;show aW (aW (uP a D.F (base+i)) _) _=_;rw[h1];exact h2
theorem oG{d:Option Nat}{x:XOp}{m i base:Nat}{l:List AO}{D:DS}{Q:DS→Prop}{v:AV}{S1:St}(hl:iQ D.hs m=true)(h:∀call,zF x call D.F ⟨(bV m D.ps D.S.h).2,D.S.nx⟩=some (v,S1))
  (hq:vU fns l (i+1) base ⟨bY d D.F v,S1,(bV m D.ps D.S.h).1,(i,m,S1.h)::D.hs,D.ls⟩ Q):vU fns (⟨d,.x x,none,m⟩::l) i base D Q:=by
 obtain⟨n,D',h2,h3⟩:=hq;refine⟨n,D',?_,h3⟩;show aW (bG (iQ D.hs m) (aW (zF x (ev fns n).call D.F ⟨(bV m D.ps D.S.h).2,D.S.nx⟩) _) none) _=_;rw[hl,aM,h];exact h2
theorem aCk{d:Option Nat}{f:cC}{args:List cC}{m i base:Nat}{l:List AO}{D:DS}{Q:DS→Prop}(hl:iQ D.hs m=true)
  (h:fH fns (f.val D.F) (cM args D.F) ⟨(bV m D.ps D.S.h).2,D.S.nx⟩ fun v S1=>vU fns l (i+1) base ⟨bY d D.F v,S1,(bV m D.ps D.S.h).1,(i,m,S1.h)::D.hs,D.ls⟩ Q):vU fns (⟨d,.x (.call f args),none,m⟩::l) i base D Q:=by
 obtain⟨n,v,S1,h1,k,D',h2,h3⟩:=h;refine⟨max n k,D',?_,h3⟩;show aW (bG (iQ D.hs m) (aW ((ev fns (max n k)).call (f.val D.F) (cM args D.F) ⟨(bV m D.ps D.S.h).2,D.S.nx⟩) _) none) _=_;rw[hl,aM,(mD fns (Nat.le_max_left n k)).call _ _ _ _ h1];exact qK (mD fns (Nat.le_max_right n k)).call h2
theorem eE(k:IntKind)(a:Int):bW (.int k a) (.int k a)=true:=by simp [bW,bS,dK,iD]
theorem aAu(a:Bool):bW (.bool a) (.bool a)=true:=by simp [bW,rI]
theorem aBT(a b:Nat):bW (.ptr a b) (.ptr a b)=true:=by simp [bW,bS,Aq]
theorem uY(a b c d:Nat)(o:Bool):bW (.sl a b c d o) (.sl a b c d o)=true:=by simp [bW,Aq,rI]
theorem wY:bW .nilsl .nilsl=true:=rfl
end Go.Ev
namespace Go.Ev
def vX(S:St):Prop:=∀b,S.nx≤b→S.h.get b=none
def Frs(S S':St):Prop:=(vX S→vX S')∧S.nx≤S'.nx
theorem aHu(S:St)(x:Option AB):Frs S ⟨S.h.set S.nx x,S.nx+1⟩:=
 ⟨fun h c hc=>by simp only at hc ⊢;rw[T.get_set,if_neg (by omega)];exact h c (by omega),Nat.le_succ _⟩
end Go.Ev
namespace Go.Ev
variable {P:Program}{σ:Env}{S:St}{w:World}
def aD4:List (Nat×Nat×IntKind×Int)→AC
 | []=>.seq (.reg [⟨some 0,.q (.mv (.c (.bool true))),none,0⟩]) .ret
 | (g,j,k,z)::l=>.seq (.reg [⟨some 1,.q (.ld false 1 (.c (.ptr g j))),none,0⟩,⟨some 2,.q (.bin .eql (.p .int) (.t 1) (.c (.int k z))),none,0⟩]) (.seq (.cond (.t 2) .skip (.exit 0)) (aD4 l))
def zM(l:List (Nat×Nat×IntKind×Int)):cR:=⟨0,[.t 0],aD4 l⟩
theorem aG3{fns:T cR}{Q:Out→bK→St→Prop}(hQ:∀A,aH 0 A.F= .bool true→Q .ret A S):∀ {l:List (Nat×Nat×IntKind×Int)} {A:bK},(∀c∈l,iJ S.h c.1 c.2.1=some (.int c.2.2.1 c.2.2.2))→oL fns (aD4 l) A S Q
 | [],A,_=>by
  refine aC (aD ?_);rw[aGJ];exact⟨.bool true,rfl,(zC).2 (aS (hQ _ (by rw[bN,if_pos rfl])))⟩
 | (g,j,k,z)::l,A,h=>by
  have h1:=h (g,j,k,z) (by simp);simp only at h1;refine aC (aD (aJO (v:=.int k z) h1 (aJO (v:=.bool true) ?_ (zC.2 ?_))))
  ·show eB .eql (.p .int) (aH 1 (bY (some 1) A.F (.int k z))) (.int k z)=_;rw[bN,if_pos rfl,aBl,Ab rfl]
  refine aC (aGi (t:=true) (by show aH 2 _=_;rw[bN,if_pos rfl]) (fun _=>aJ ?_) (fun h=>by cases h));exact aG3 hQ fun c hc=>h c (by simp [hc])
theorem aJ5{fns:T cR}{id:Nat}{l:List (Nat×Nat×IntKind×Int)}(hfn:fns.get id=some (zM l))(h:∀c∈l,iJ S.h c.1 c.2.1=some (.int c.2.2.1 c.2.2.2)):fH fns (.fn id [] []) [] S fun r S'=>r= .bool true∧S'=S:=by
 refine bP hfn (by simp) (aG3 (fun A hA=>?_) h);exact⟨[aH 0 A.F],rfl,by rw[hA];rfl,rfl⟩
theorem aDV{v:AV}{k:IntKind}{z:Int}(h:eB .eql (.p .int) v (.int k z)=some (.bool true)):v= .int k z:=by
 cases v with
 | int k' z'=>
  have h':cI .eql k' z' k z=some (.bool true):=h;unfold cI at h';rw[show dJ .eql=false from rfl,aT] at h';obtain⟨hk,h'⟩:=bH h';have hz:some (AV.bool (ieq z' z))=some (.bool true):=h';simp only[Aj,AV.bool.injEq] at hz;rw[iD] at hz;have hz:=eq_of_beq hz;subst hz;have hkk:k'=k:=by
   cases k<;>cases k'<;>first | rfl | (exfalso;revert hk;decide)
  rw[hkk]
 | _=>cases h
theorem aE1{fns:T cR}:∀ {l:List (Nat×Nat×IntKind×Int)} {n:Nat} {A A':bK} {S':St} {o:Out},(ev fns n).code (aD4 l) A S=some (o,A',S')→(∀i,o≠ .exit i)→(∀c∈l,iJ S.h c.1 c.2.1=some (.int c.2.2.1 c.2.2.2))∧S'=S∧aH 0 A'.F= .bool true
 | l,0,_,_,_,_,h,_=>by cases h
 | l,1,A,A',S',o,h,_=>by
  cases l with
  | nil=>
   have h':(none:Option (Out×bK×St))=some (o,A',S'):=h;cases h'
  | cons c l=>
   obtain⟨g,j,k,z⟩:=c;have h':(none:Option (Out×bK×St))=some (o,A',S'):=h;cases h'
 | [],n+2,A,A',S',o,h,ho=>by
  obtain⟨⟨o1,A1,S1⟩,h1,h2⟩:=aG (show aW ((ev fns (n+1)).code (.reg [⟨some 0,.q (.mv (.c (.bool true))),none,0⟩]) A S) (pS .ret (ev fns (n+1)))=some (o,A',S') from h);have e1:(ev fns (n+1)).code (.reg [⟨some 0,.q (.mv (.c (.bool true))),none,0⟩]) A S=some (.normal,⟨bY (some 0) A.F (.bool true),A.inr⟩,S):=rfl;rw[e1] at h1;cases h1;have e2:pS .ret (ev fns (n+1)) (.normal,⟨bY (some 0) A.F (.bool true),A.inr⟩,S)=some (.ret,⟨bY (some 0) A.F (.bool true),A.inr⟩,S):=rfl;rw[e2] at h2;cases h2;exact⟨fun c hc=>(by cases hc),rfl,by rw[bN,if_pos rfl]⟩
 | (g,j,k,z)::l,n+2,A,A',S',o,h,ho=>by
  obtain⟨⟨o1,A1,S1⟩,h1,h2⟩:=aG (show aW ((ev fns (n+1)).code (.reg [⟨some 1,.q (.ld false 1 (.c (.ptr g j))),none,0⟩,⟨some 2,.q (.bin .eql (.p .int) (.t 1) (.c (.int k z))),none,0⟩]) A S) (pS (.seq (.cond (.t 2) .skip (.exit 0)) (aD4 l)) (ev fns (n+1)))=some (o,A',S') from h);obtain⟨⟨F1,S2⟩,h3,h4⟩:=aG (show aW (sW [⟨some 1,.q (.ld false 1 (.c (.ptr g j))),none,0⟩,⟨some 2,.q (.bin .eql (.p .int) (.t 1) (.c (.int k z))),none,0⟩] (ev fns n).call A.F S) (fun r=>some (.normal,(⟨r.1,A.inr⟩:bK),r.2))=some (o1,A1,S1) from h1);cases h4;rw[fD] at h3;obtain⟨⟨F2,S3⟩,h5,h6⟩:=aG h3;obtain⟨v,hv,h7⟩:=aG (show aW (iJ S.h g j) (fun v=>some (bY (some 1) A.F v,S))=some (F2,S3) from h5);cases h7;rw[fD] at h6;obtain⟨⟨F4,S4⟩,h8,h9⟩:=aG h6;cases h9;obtain⟨b,hb,h10⟩:=aG (show aW (eB .eql (.p .int) (aH 1 (bY (some 1) A.F v)) (.int k z)) (fun u=>some (bY (some 2) (bY (some 1) A.F v) u,S))=some (F4,S4) from h8);cases h10;rw[bN,if_pos rfl] at hb;have h2:(ev fns (n+1)).code (.seq (.cond (.t 2) .skip (.exit 0)) (aD4 l)) ⟨bY (some 2) (bY (some 1) A.F v) b,A.inr⟩ S=some (o,A',S'):=h2;obtain⟨⟨o5,A5,S5⟩,k1,k2⟩:=aG (show aW ((ev fns n).code (.cond (.t 2) .skip (.exit 0)) ⟨bY (some 2) (bY (some 1) A.F v) b,A.inr⟩ S) (pS (aD4 l) (ev fns n))=some (o,A',S') from h2);cases n with
  | zero=>cases k1
  | succ n=>
   have k1:aAZ (aH 2 (bY (some 2) (bY (some 1) A.F v) b)) .skip (.exit 0) (ev fns n) ⟨bY (some 2) (bY (some 1) A.F v) b,A.inr⟩ S=some (o5,A5,S5):=k1;rw[bN,if_pos rfl] at k1;cases b with
   | bool t=>
    have k1:(ev fns n).code (bG t .skip (.exit 0)) ⟨bY (some 2) (bY (some 1) A.F v) (.bool t),A.inr⟩ S=some (o5,A5,S5):=k1;cases t with
    | true=>
     rw[aM] at k1;cases n with
     | zero=>cases k1
     | succ n=>
      have e:(ev fns (n+1)).code .skip ⟨bY (some 2) (bY (some 1) A.F v) (.bool true),A.inr⟩ S=some (.normal,⟨bY (some 2) (bY (some 1) A.F v) (.bool true),A.inr⟩,S):=rfl;rw[e] at k1;cases k1;have ih:=aE1 (l:=l) (show(ev fns (n+1+1)).code (aD4 l) _ S=some (o,A',S') from k2) ho;refine⟨fun c hc=>?_,ih.2⟩;rcases Bf.1 hc with rfl | hc
      ·rw[hv,aDV hb]
      ·exact ih.1 c hc
    | false=>
     rw[aT] at k1;cases n with
     | zero=>cases k1
     | succ n=>
      have e:(ev fns (n+1)).code (.exit 0) ⟨bY (some 2) (bY (some 1) A.F v) (.bool false),A.inr⟩ S=some (.exit 0,⟨bY (some 2) (bY (some 1) A.F v) (.bool false),A.inr⟩,S):=rfl;rw[e] at k1;cases k1;have k2:some (Out.exit 0,(⟨bY (some 2) (bY (some 1) A.F v) (.bool false),A.inr⟩:bK),S)=some (o,A',S'):=k2;cases k2;exact absurd rfl (ho 0)
   | _=>cases k1
theorem aHy{fns:T cR}{l:List (Nat×Nat×IntKind×Int)}{n:Nat}{S':St}{v:AV}(h:tP (zM l) [] (ev fns n) S=some (v,S')):(∀c∈l,iJ S.h c.1 c.2.1=some (.int c.2.2.1 c.2.2.2))∧S'=S∧v= .bool true:=by
 unfold tP at h;obtain⟨_,h⟩:=bH h;obtain⟨⟨o,A',S1⟩,h1,h2⟩:=aG h;unfold aDA at h2;split at h2
 ·cases h2
 ·rename_i hne;obtain⟨vs,h3,h4⟩:=aG h2;cases h4;obtain⟨k1,k2,k3⟩:=aE1 (show(ev fns n).code (aD4 l) ⟨.e,false⟩ S=some (o,A',S1) from h1) (fun i e=>hne i e);refine⟨k1,k2,?_⟩;have:some [aH 0 A'.F]=some vs:=h3;cases this;exact k3
def zX:Nat→Nat→List (IntKind×Int)→List (Nat×Nat×IntKind×Int)
 | _,_,[]=>[]
 | g,j,(k,z)::l=>(g,j,k,z)::zX g (j+1) l
theorem aCb:∀ {l:List (IntKind×Int)} {g j i:Nat} {k:IntKind} {z:Int},l[i]? =some (k,z)→(g,j+i,k,z)∈zX g j l
 | [],_,_,_,_,_,h=>by simp at h
 | (k,z)::l,g,j,0,k',z',h=>by
  simp at h;obtain⟨rfl,rfl⟩:=h;simp [zX]
 | (k,z)::l,g,j,i+1,k',z',h=>by
  have:=aCb (g:=g) (j:=j+1) (show l[i]? =some (k',z') by simpa using h);rw[show j+(i+1)=j+1+i by omega];exact Cd _ this
def jR:List (Nat×List (IntKind×Int))→List (Nat×Nat×IntKind×Int)
 | []=>[]
 | (g,l)::r=>zX g 0 l++jR r
theorem yO:∀ {t:List (Nat×List (IntKind×Int))} {g:Nat} {l:List (IntKind×Int)},(g,l)∈t→∀c∈zX g 0 l,c∈jR t
 | (g',l')::t,g,l,h,c,hc=>by
  simp only[jR,Bl];rcases Bf.1 h with h | h
  ·cases h;exact .inl hc
  ·exact .inr (yO h c hc)
theorem aEU(hR:gW P σ S w){t:List (Nat×List (IntKind×Int))}(hg:∀x∈t,x.1<P.globals.size∧x.2≠ [])(h:∀c∈jR t,iJ S.h c.1 c.2.1=some (.int c.2.2.1 c.2.2.2)):aGC P (t.map fun x=>(x.1,x.2.map fun y=>AV.int y.1 y.2)) w:=by
 intro x hx;obtain⟨⟨g,l⟩,hgl,rfl⟩:=Ea.1 hx;obtain⟨h1,h2⟩:=hg _ hgl;have hc:∀i k z,l[i]? =some (k,z)→iJ S.h g i=some (.int k z):=fun i k z hi=>by
  have:=h _ (yO hgl _ (aCb (g:=g) (j:=0) hi));simpa using this
 obtain⟨⟨k0,z0⟩,l',rfl⟩:∃a l',l=a::l':=by cases l with | nil=>exact absurd rfl h2 | cons a l'=>exact⟨a,l',rfl⟩
 have h0:=hc 0 k0 z0 rfl;unfold iJ cK at h0;obtain⟨cs,h3,h4⟩:=aG h0;obtain⟨bl,h5,h6⟩:=aG h3;obtain⟨L,h7,h8,h9⟩:=hR.blk g bl h5;rw[hR.glob g h1] at h7;cases h7;have hcs:∀i k z,((k0,z0)::l')[i]? =some (k,z)→cs[i]? =some (AV.int k z):=fun i k z hi=>by
  have:=hc i k z hi;unfold iJ cK at this;rw[h5,aO,h6,aO,iO] at this;exact this
 have key:∀Cs,fJ P σ cs Cs→w.rangeAt g 0 Cs→∃Ds,fJ P (aBS P) (((k0,z0)::l').map fun y=>AV.int y.1 y.2) Ds∧(∀u∈Ds,u.oneCell'=true)∧w.rangeAt g 0 Ds:=by
  intro Cs hC hr;refine⟨((k0,z0)::l').map fun y=>Value.int y.1 y.2,?_,fun u hu=>?_,fun j v hv=>?_⟩
  ·clear hcs hc hg h h0 hgl hx h2;generalize (k0,z0)::l'=m
   induction m with
   | nil=>exact cA.2 rfl
   | cons a m ih=>exact cB.2 ⟨_,_,rfl,by simp only[Rv],ih⟩
  ·obtain⟨y,_,rfl⟩:=Ea.1 hu;rfl
  ·rw[Bb,Ap] at hv;obtain⟨⟨k,z⟩,hkz,rfl⟩:=hv;have h10:=hcs j k z hkz;obtain⟨V,hV,hVV⟩:=hC.get h10;simp only[Rv] at hVV;rw[←hVV];exact hr j V hV
 refine⟨h1,by simpa using h8,?_⟩;cases bl with
 | cells ds o s=>
  simp only[gT,Aj] at h6;subst h6;obtain⟨Cs,q1,_,q3,_⟩:=h9;exact key Cs q1 q3
 | ro ds=>
  simp only[gT,Aj] at h6;subst h6;obtain⟨Cs,q1,_,q3⟩:=h9;exact key Cs q1 q3
 | _=>cases h6
theorem aDr{l:List (Nat×List AV)}{σ':Env}{S':St}{w':World}(hR:gW P σ S w)(h:fL P (aBS P) (stL P l) w σ' S' w'):fL P σ S w σ S w':=by
 have hk:∀r,r<w.heap.size→w'.heap[r]? =w.heap[r]? :=fun r hr=>h.keep r hr (aN4 r);refine⟨⟨fun b bl hb=>?_,hR.lt,hR.fresh,hR.glob,hR.inj⟩,fun _ _=>rfl,Ah _,fun r hr _=>hk r hr,fun _ ho=>.inl ho,h.size,h.os,h.tape,h.output,fun _ _ hb=>hb⟩;obtain⟨L,q1,q2,q3⟩:=hR.blk b bl hb;exact⟨L,q1,Ae q2 h.size,q3.frame (fun _ _ x=>x) (hk _ q2)⟩
theorem aCQ{fns:T cR}{id nt:Nat}{res:List RV}{c:AC}{Fn:Func}{t:List (Nat×List (IntKind×Int))}{l:List (Nat×List AV)}(hFn:P.funcs[id]? =some Fn)(hc:cFn P Fn=some ⟨nt,res,c⟩)(hl:l=t.map fun x=>(x.1,x.2.map fun y=>AV.int y.1 y.2))(hg:∀x∈t,x.1<P.globals.size∧x.2≠ [])
  (h:Good P c ⟨.e,false⟩ (stL P l) fun o A S=>aHE res o A S=some true):aGV P fns id (zM (jR t)):=by
 obtain⟨C,c',rs,hbody,hname,hC,hrs,heq⟩:=aB3 hc;cases heq;refine⟨rfl,⟨Fn,C,hFn,hbody,hname⟩,fun n S S' v hrun σ w fv hf hR=>?_⟩;obtain⟨hloads,hS',hv⟩:=aHy hrun;subst hS';subst hv;have hT:aGC P l w:=by rw[hl];exact aEU hR hg hloads
 simp only[Rv] at hf;obtain⟨A,B,rfl,hA,hB⟩:=hf;have hA:=cA.1 hA;have hB:=cA.1 hB;subst hA;subst hB;rw[kA hFn hbody hname];show CallsIn Fence.wide 0 P id ⟨[]++([]++ [])⟩ w _;refine callsIn_of_wp_marks hFn hbody trivial ?_;obtain⟨hfr,hsz⟩:=aCe (P:=P) (σ:=aBS P) (args:=[]) (Args:=[]) (cA.2 rfl) (nt:=Fn.ntmps) (Cc _);rw[←aEj];refine h none 0 Fn.ntmps C hC (fun _=>rfl) w.heap.size (aBS P) _ w _ hsz Df.nil (Ah _) hfr (aNa hT) ?_;intro o A' S2 σ' a' w' hret hinr hsz' hdf hfr' hext;obtain⟨hoo,hres⟩:=aHK hret;obtain⟨_,rks,hd,hnd,hmk⟩:=hdf;have fin:∀w'',fL P (aBS P) (stL P l) w σ' S2 w''→∃V,(Go.results Fn a'.tmps).run P w''= .ok V w''∧∃σ',Rv P σ' (.bool true) V∧fL P σ S' w σ' S' w'':=fun w'' hx=>by
  obtain⟨Vs,h8,h9⟩:=mF hx.rep hfr' hrs hres;refine⟨if h:Vs.toArray.size=1 then Vs.toArray[0] else .tuple Vs.toArray,?_,σ,?_,aDr hR hx⟩
  ·show((do let vs ←Fn.results.mapM (aDi a'.tmps);pure (if h:vs.size=1 then vs[0] else .tuple vs):Sem Value)).run P w''=_;rw[Array.mapM_eq_mapM_toList];simp only[Sem.run_bind,Sem.run_map,h8,Result.andThen_ok,Sem.run_pure]
  ·have:=aAK h9;simp only[oneOf,Rv] at this;rw[this];simp only[Rv]
 rcases hoo with rfl | rfl
 ·show LeavesInM Fence.wide 0 P Fn a'.tmps _ a'.defers .returning w';rw[hd];exact leaves rks w' hnd hmk hext fin
 ·show LeavesInM Fence.wide 0 P Fn a'.tmps _ a'.defers .returning w';rw[hd];exact leaves rks w' hnd hmk hext fin
theorem aDM{l:List (Nat×cR)}(hmix:P.follows .mixedOrders=true)(hl:∀p∈l,Row P p∨aGV P (table l) p.1 p.2):sO P (table l):=
 ⟨asked P,qR P,fun id fn h=>by
  rcases hl _ (aAq h) with⟨Fn,h1,h2⟩ | h1
  ·exact .inl ⟨Fn,h1,h2⟩
  ·exact .inr h1,fun call hcall=>aA4 (asked P) (qR P) hmix call hcall⟩
end Go.Ev
namespace Go.Ev
variable {P:Program}{σ:Env}{S:St}{w:World}
def vW(S:St):Prop:=∀b bl,S.h.get b=some bl→¬sR bl
def wD(σ:Env)(b:Nat)(L:Loc):Env:=fun c=>if c=b then some L else σ c
theorem aMz(hR:gW P σ S w)(L:Loc):∀b M,σ b=some M→wD σ S.nx L b=some M:=fun b M h=>by
 have:=hR.below h;unfold wD;rw[if_neg (by omega)];exact h
structure mN(P:Program)(σ:Env)(S:St)(w:World)(σ':Env)(S':St):Prop where
 rep:gW P σ' S' w
 no:vW S'
 same:Same S S'
 fresh:vX S'
 le:∀b L,σ b=some L→σ' b=some L
theorem mN.refl(hR:gW P σ S w)(hn:vW S)(hf:vX S):mN P σ S w σ S:=⟨hR,hn,Same.refl S,hf,fun _ _ h=>h⟩
theorem mN.trans{σ' σ'':Env}{S' S'':St}(h:mN P σ S w σ' S')(h':mN P σ' S' w σ'' S''):mN P σ S w σ'' S'':=⟨h'.rep,h'.no,h.same.trans h'.same,h'.fresh,fun b L hb=>h'.le b L (h.le b L hb)⟩
theorem aLO(hn:vW S)(r:Nat):¬Own σ S r:=fun⟨b,bl,_,h1,h2,_⟩=>hn b bl h1 h2
theorem aIr{fns:T cR}(hK:sO P fns){id:Nat}{b:Bool}{Fn:Func}(hFn:P.funcs[id]? =some Fn)(hb:Fn.body.isSome=true)(hnm:(Fn.name== "runtime.NumGoroutine")=false){avs:List AV}{Args:List Value}{Q:St→Prop}
  (h:fH fns (.fn id [] []) avs S fun r S'=>r= .bool b∧Q S') (hargs:fJ P σ avs Args) (hR:gW P σ S w) (hn:vW S):
  Calls P id ⟨Args⟩ w fun e w'=>e= .returned (.bool b)∧Kept w w':=by
 obtain⟨n,v,S',hrun0,hv,_⟩:=h;subst hv;have hs:=aJh hK n _ _ _ _ _ hrun0 σ w (.func (.func id) ⟨[]⟩ ⟨[]⟩) Args (by simp only[Rv];exact⟨[],[],rfl,cA.2 rfl,cA.2 rfl⟩) hargs hR;have hnm':¬Fn.name= "runtime.NumGoroutine" :=by simpa using hnm
 obtain⟨C,hC⟩:=Option.isSome_iff_exists.1 hb;have hrun:((do let d ←Deferred.ofValue (.func (.func id) ⟨[]⟩ ⟨[]⟩) ⟨Args⟩;invoke d.target d.args:Sem Next)).run P w= .ok (.enter id ⟨Args⟩) w:=by
  simp only[Deferred.ofValue,Sem.run_bind,Sem.run_pure,Result.andThen_ok,invoke,callFunc,run_program,hFn];simp [hC,hnm']
 rw[hrun] at hs;have hs:CallsIn Fence.wide 0 P id ⟨Args⟩ w _:=hs;refine(callsIn_wide.1 hs).mono fun e w' h=>?_;cases e with
 | returned V=>
  obtain⟨σ',h1,h2⟩:=h;simp only[Rv] at h1;subst h1;exact⟨rfl,h2.kept (aLO hn)⟩
 | _=>exact h.elim
theorem aKE{l:List (Nat×List AV)}:vW (stL P l):=fun b bl h ho=>by
 obtain⟨cs,_,rfl⟩:=mC h;exact ho.elim
theorem aLv{l:List (Nat×List AV)}(hl:∀x∈l,x.1<P.globals.size):vX (stL P l):=fun b hb=>by
 cases h:(stL P l).h.get b with
 | none=>rfl
 | some bl=>
  obtain⟨cs,h1,_⟩:=mC h;have h2:=hl _ h1;simp only[stL] at hb;simp only at h2;omega
end Go.Ev
namespace Go.Ev
variable {P:Program}{σ:Env}{S:St}{w:World}
theorem aHU(hR:gW P σ S w)(hn:vW S)(hf:vX S)(hG:P.globals.size≤S.nx){r d:Nat}{cs:List AV}{Cs:List Value}(hr:r<w.heap.size)(hc:fJ P σ cs Cs)(h1:∀u∈Cs,u.oneCell'=true)(hw:w.rangeAt r d Cs):
  mN P σ S w (wD σ S.nx ⟨r,d,0⟩) ⟨S.h.set S.nx (some (.ro cs)),S.nx+1⟩:=by
 have hle:=aMz hR ⟨r,d,0⟩;refine⟨⟨fun b bl hb=>?_,fun b bl hb=>?_,fun b hb=>?_,fun g hg=>?_,fun b b' bl bl' L L' hb _ ho=>?_⟩,fun b bl hb=>?_,Same.alloc S _,(aHu S _).1 hf,hle⟩
 ·simp only at hb;rw[T.get_set] at hb;split at hb
  ·rename_i e;subst e;cases hb;exact⟨⟨r,d,0⟩,by unfold wD;rw[if_pos rfl],hr,Cs,hc.mono hle,h1,hw⟩
  ·obtain⟨L,h1,h2,h3⟩:=hR.blk b bl hb;exact⟨L,hle b L h1,h2,h3.frame hle rfl⟩
 ·simp only at hb;rw[T.get_set] at hb;split at hb
  ·rename_i e;subst e;simp
  ·have:=hR.lt b bl hb;simp only;omega
 ·simp only at hb;unfold wD;rw[if_neg (by omega)];exact hR.fresh b (by omega)
 ·unfold wD;rw[if_neg (by omega)];exact hR.glob g hg
 ·simp only at hb;rw[T.get_set] at hb;split at hb
  ·cases hb;exact ho.elim
  ·exact absurd ho (hn b bl hb)
 ·simp only at hb;rw[T.get_set] at hb;split at hb
  ·cases hb;exact fun h=>h
  ·exact hn b bl hb
def Lays(P:Program)(t:TypeId){α:Type}(E:St→List AV→α→Prop):Prop:=
 ∀ (H:Type) (enc:TypeId×Value→H) (σ:Env) (S:St) (w:World) (base:Nat) (spare:Nat→Bool) (held:Bool) (fuel:Nat) (cs:List Value) (x:DataW H×List MemPlace),gW P σ S w→vW S→vX S→P.globals.size≤S.nx→DataW.trod enc P w base spare held fuel t cs=some x→(∀n∈DataW.weights P t x.1,n≤140737488355328)→
  ∃σ' S' avs a,mN P σ S w σ' S'∧fJ P σ' avs cs∧(∀u∈cs,u.oneCell'=true)∧E S' avs a∧S.nx≤S'.nx
def mI{α:Type}(E:St→List AV→α→Prop):Prop:=∀ {S S':St} {avs:List AV} {a:α},E S avs a→Same S S'→E S' avs a
def oR(k:IntKind)(_:St)(avs:List AV)(z:Int):Prop:=avs= [.int k z]∧(Lit.int k z).wf=true
theorem gG{k:IntKind}:mI (oR k):=fun h _=>h
theorem aFo{t:TypeId}{k:IntKind}(ht:P.underlying t=some (.int k)):Lays P t (oR k):=by
 intro H enc σ S w base spare held fuel cs x hR hn hf hG h hW;obtain⟨n,rfl,_,hw⟩:=DataW.trod_int ht h;exact⟨σ,S,[.int k n],n,mN.refl hR hn hf,cB.2 ⟨_,_,rfl,by simp only[Rv],cA.2 rfl⟩,fun u hu=>by simp at hu;subst hu;rfl,⟨rfl,hw⟩,Ah _⟩
theorem aAW{H:Type}{e:TypeId}{d:DataW H}{n:Nat}:∀ {l:List (DataW H)},d∈l→n∈DataW.weights P e d→n∈DataW.weightsAll P e l
 | [],h,_=>by cases h
 | x::r,h,hn=>by
  show n∈DataW.weights P e x++DataW.weightsAll P e r;rcases Bf.1 h with rfl | h
  ·exact Dq _ hn
  ·exact Da _ (aAW h hn)
theorem qW{H:Type}{n:Nat}:∀ {ts:List TypeId} {l:List (DataW H)} {i:Nat} {t:TypeId} {d:DataW H},ts[i]? =some t→l[i]? =some d→n∈DataW.weights P t d→n∈DataW.weightsEach P ts l
 | [],_,_,_,_,h,_,_=>by simp at h
 | _::_,[],_,_,_,_,h,_=>by simp at h
 | u::ts,x::r,0,t,d,h1,h2,hn=>by
  simp at h1 h2;subst h1;subst h2;exact Dq _ hn
 | u::ts,x::r,i+1,t,d,h1,h2,hn=>by
  show n∈DataW.weights P u x++DataW.weightsEach P ts r;exact Da _ (qW (by simpa using h1) (by simpa using h2) hn)
theorem aC0{H:Type}{t e:TypeId}{xs ys:List (DataW H)}(ht:P.underlying t=some (.slice e)):DataW.weights P t (.slice xs ys)=(xs.length+ys.length) * P.bytesOf e::(DataW.weightsAll P e xs++DataW.weightsAll P e ys):=by
 unfold DataW.weights;rw[ht]
theorem aFu{H:Type}{t:TypeId}{fs:Array Field}{xs:List (DataW H)}(ht:P.underlying t=some (.struct fs)):DataW.weights P t (.agg xs)=DataW.weightsEach P (fs.toList.map (·.type)) xs:=by
 unfold DataW.weights;rw[ht]
def vK(k:Nat){α:Type}(E:St→List AV→α→Prop)(S:St)(avs:List AV)(l:List α):Prop:=
 ∃av,avs= [av]∧l.length * (8 * k)≤140737488355328∧((l= []∧(av= .nilsl∨av= .emp))∨∃ (b cap:Nat) (css:List (List AV)),av= .sl b 0 l.length cap false∧l.length≤cap∧b<S.nx∧S.h.get b=some (.ro css.flatten)∧css.length=l.length∧∀ (i:Nat) (cs:List AV) (a:α),css[i]? =some cs→l[i]? =some a→cs.length=k∧E S cs a)
theorem firm_sl{k:Nat}{α:Type}{E:St→List AV→α→Prop}(hE:mI E):mI (vK k E):=by
 rintro S S' avs l ⟨av,rfl,hL,h | ⟨b,cap,css,h1,h2,h3,h4,h5,h6⟩⟩ hs
 ·exact⟨av,rfl,hL,.inl h⟩
 ·exact⟨av,rfl,hL,.inr ⟨b,cap,css,h1,h2,Ae h3 hs.1,(hs.2 b h3).trans h4,h5,fun i cs a hi ha=>⟨(h6 i cs a hi ha).1,hE (h6 i cs a hi ha).2 hs⟩⟩⟩
theorem aJN{a:Addr}{n base:Nat}{cs:List Value}(h:w.cells? base a n=some cs):cs.length=n∧∀i,i<n→w.cell? (a.add i)=cs[i]? :=by
 unfold World.cells? at h;split at h
 ·refine⟨by simpa using mapM_some_length h,fun i hi=>?_⟩;exact mapM_some_get h i i (by simp [hi])
 ·cases h
theorem aBL{e:TypeId}{k:Nat}{α:Type}{E:St→List AV→α→Prop}(hE:Lays P e E)(hF:mI E)(hk:0<k){H:Type}{enc:TypeId×Value→H}{base:Nat}{spare:Nat→Bool}{held:Bool}{fuel:Nat}{a:Addr}(hspot:a.spot=none)
  (hR:gW P σ S w) (hn:vW S) (hf:vX S) (hG:P.globals.size≤S.nx):∀ {m:Nat},(∀i,i<m→∃x,(w.cells? base (a.add (i * k)) k).bind (DataW.trod enc P w base spare held fuel e)=some x∧∀n∈DataW.weights P e x.1,n≤140737488355328)→
  ∃ (σ':Env) (S':St) (css:List (List AV)),∃l:List α,∃Cs:List Value,mN P σ S w σ' S'∧S.nx≤S'.nx∧css.length=m∧l.length=m∧(∀ (i:Nat) (cs:List AV) (a:α),css[i]? =some cs→l[i]? =some a→cs.length=k∧E S' cs a)∧fJ P σ' css.flatten Cs∧(∀u∈Cs,u.oneCell'=true)∧Cs.length=m * k∧w.rangeAt a.block a.off Cs
 | 0,_=>⟨σ,S,[],[],[],mN.refl hR hn hf,Ah _,rfl,rfl,fun i cs a hi=>(by simp at hi),cA.2 rfl,fun u hu=>(by cases hu),by simp,fun j v hv=>(by simp at hv)⟩
 | m+1,h=>by
  obtain⟨σ1,S1,css,l,Cs,hA,hn1,hcl,hll,hel,hrv,hone,hlen,hrange⟩:=aBL hE hF hk hspot hR hn hf hG (m:=m) fun i hi=>h i (by omega);obtain⟨x,hx,hxW⟩:=h m (by omega);obtain⟨cs,hcs,hx⟩:=Dt.1 hx;obtain⟨σ2,S2,avs,y,hA2,hrv2,hone2,hE2,hn2⟩:=hE H enc σ1 S1 w base spare held fuel cs x hA.rep hA.no hA.fresh (Ax hG hn1) hx hxW;obtain⟨hcl2,hcell⟩:=aJN hcs;have hal:avs.length=k:=by rw[←hrv2.length];exact hcl2
  refine⟨σ2,S2,css++ [avs],l++ [y],Cs++cs,hA.trans hA2,Ax hn1 hn2,by simp [hcl],by simp [hll],?_,?_,?_,?_,?_⟩
  ·intro i cs' a' hi ha;rw[List.getElem?_append] at hi ha;rw[hcl] at hi;rw[hll] at ha;split at hi
   ·rename_i hlt;rw[if_pos hlt] at ha;exact⟨(hel i cs' a' hi ha).1,hF (hel i cs' a' hi ha).2 hA2.same⟩
   ·rename_i hlt;rw[if_neg hlt] at ha;have him:i - m=0:=by
     rcases Eg (i - m) with h | h
     ·exact h
     ·obtain⟨q,hq⟩:=Nat.exists_eq_succ_of_ne_zero (Nat.pos_iff_ne_zero.1 h);rw[hq] at hi;simp at hi
    rw[him] at hi ha;simp at hi ha;subst hi;subst ha;exact⟨hal,hE2⟩
  ·rw[List.flatten_append];simp only[List.flatten_cons,List.flatten_nil,Cm];exact(hrv.mono hA2.le).append hrv2
  ·intro u hu;rcases Bl.1 hu with hu | hu
   ·exact hone u hu
   ·exact hone2 u hu
  ·rw[Am,hlen,hcl2,Dm]
  ·intro j v hv;rw[List.getElem?_append] at hv;split at hv
   ·exact hrange j v hv
   ·rename_i hlt;have hj:j - Cs.length<k:=by
     have:=(Af.1 hv).1;omega
    have:=hcell (j - Cs.length) hj;rw[hv] at this;rw[←this];congr 1;have hadd:∀i,a.add i=⟨a.block,a.off+i,none⟩:=fun i=>by
     unfold Addr.add;split
     ·rename_i h;subst h;cases a;simp_all
     ·rfl
    have hadd2:∀ (x y:Nat),Addr.add ⟨a.block,x,none⟩ y=⟨a.block,x+y,none⟩:=fun x y=>by
     unfold Addr.add;split
     ·rename_i h;rw[h,Bj]
     ·rfl
    rw[hadd,hadd2,hlen];congr 1;rw[hlen] at hlt;omega
theorem wJ{t e:TypeId}{k:Nat}{α:Type}{E:St→List AV→α→Prop}(ht:P.underlying t=some (.slice e))(hc:P.cellsOf e=k)(hk:0<k)(hby:8 * k≤P.bytesOf e)(hE:Lays P e E)(hF:mI E):Lays P t (vK k E):=by
 intro H enc σ S w base spare held fuel cs x hR hn hf hG h hW;rcases DataW.trod_slice ht h with⟨rfl,_⟩ | ⟨a,len,cap,elems,rest,n,rfl,rfl,hxe,_,hlc,_,hlen,hel,_⟩
 ·exact⟨σ,S,[.nilsl],[],mN.refl hR hn hf,cB.2 ⟨_,_,rfl,by simp only[Rv],cA.2 rfl⟩,fun u hu=>by simp at hu;subst hu;rfl,⟨_,rfl,by simp,.inl ⟨rfl,.inl rfl⟩⟩,Ah _⟩
 ·rw[hc] at hel;subst hxe;have hW:∀n∈DataW.weights P t (.slice (elems.map (·.1)) (rest.map (·.1))),n≤140737488355328:=hW;rw[aC0 ht] at hW;have hlw:len * (8 * k)≤140737488355328:=by
   have h1:=hW _ (Dl ..);rw[Bm,hlen,Em] at h1;exact Ax (Nat.mul_le_mul_left len hby) (by omega)
  rcases Eg len with h0 | hp
  ·subst h0;exact⟨σ,S,[.emp],[],mN.refl hR hn hf,cB.2 ⟨_,_,rfl,by simp only[Rv];exact⟨a,cap,rfl⟩,cA.2 rfl⟩,fun u hu=>by simp at hu;subst hu;rfl,⟨_,rfl,by simp,.inl ⟨rfl,.inr rfl⟩⟩,Ah _⟩
  ·have hget:∀i,i<len→∃x,(w.cells? base (a.add (i * k)) k).bind (DataW.trod enc P w base spare held n e)=some x∧∀n∈DataW.weights P e x.1,n≤140737488355328:=fun i hi=>by
    rw[hel i hi];exact⟨elems[i]'(by omega),Ad (by omega),fun n hn=>hW n (Cd _ (Dq _ (aAW (List.mem_map_of_mem (Ee _)) hn)))⟩
   obtain⟨x0,hx0,_⟩:=hget 0 hp;obtain⟨cs0,hcs0,_⟩:=Dt.1 hx0;obtain⟨hl0,hc0⟩:=aJN hcs0;have c0:=hc0 0 hk;rw[Ad (by omega),Fa] at c0;have e0:(a.add 0).add 0=a:=rfl;rw[e0] at c0;have hblk:a.block<w.heap.size∧a.spot=none:=by
    unfold World.cell? at c0;cases hh:w.heap[a.block]? with
    | none=>rw[hh] at c0;cases c0
    | some o=>
     refine⟨(Bz.1 hh).1,?_⟩;rw[hh] at c0;cases o with
     | cells c t fr=>
      simp only at c0;by_cases hs:a.spot.isSome
      ·rw[if_pos hs] at c0;cases c0
      ·simpa using hs
     | _=>cases c0
   obtain⟨σ1,S1,css,l,Cs,hA,hn1,hcl,hll,hE1,hrv,hone,hCl,hrange⟩:=aBL hE hF hk hblk.2 hR hn hf hG hget;have hA2:=aHU hA.rep hA.no hA.fresh (Ax hG hn1) hblk.1 hrv hone hrange;refine⟨_,_,[.sl S1.nx 0 len cap false],l,hA.trans hA2,cB.2 ⟨_,_,rfl,?_,cA.2 rfl⟩,fun u hu=>by simp at hu;subst hu;rfl,⟨_,rfl,by rw[hll];exact hlw,.inr ⟨S1.nx,cap,css,by rw[hll],by omega,by simp,?_,by rw[hcl,hll],fun i cs a' hi ha=>⟨(hE1 i cs a' hi ha).1,hF (hE1 i cs a' hi ha).2 hA2.same⟩⟩⟩,by simp only;omega⟩
   ·simp only[Rv];refine⟨⟨a.block,a.off,0⟩,by unfold wD;rw[if_pos rfl],?_⟩;have:=hblk.2;cases a
    simp_all
   ·simp only;rw[T.get_set,if_pos rfl]
def NoE(_:St)(avs:List AV)(_:Unit):Prop:=avs= []
def qF{α β:Type}(E:St→List AV→α→Prop)(R:St→List AV→β→Prop)(S:St)(avs:List AV)(x:α×β):Prop:=∃u v,avs=u++v∧E S u x.1∧R S v x.2
theorem aGW:mI NoE:=fun h _=>h
theorem kL{α β:Type}{E:St→List AV→α→Prop}{R:St→List AV→β→Prop}(h1:mI E)(h2:mI R):mI (qF E R):=fun⟨u,v,e,a,b⟩ hs=>⟨u,v,e,h1 a hs,h2 b hs⟩
def aHi(P:Program)(ts:List TypeId){α:Type}(E:St→List AV→α→Prop):Prop:=
 ∀ (H:Type) (enc:TypeId×Value→H) (σ:Env) (S:St) (w:World) (base:Nat) (spare:Nat→Bool) (held:Bool) (fuel off:Nat) (cs:List Value),gW P σ S w→vW S→vX S→P.globals.size≤S.nx→cs.length=off+(ts.map P.cellsOf).sum→
  (∀ (i:Nat) t,ts[i]? =some t→∃x,DataW.trod enc P w base spare held fuel t ((cs.drop (off+((ts.take i).map P.cellsOf).sum)).take (P.cellsOf t))=some x∧∀n∈DataW.weights P t x.1,n≤140737488355328)→
  ∃σ' S' avs a,mN P σ S w σ' S'∧fJ P σ' avs (cs.drop off)∧(∀u∈cs.drop off,u.oneCell'=true)∧E S' avs a∧S.nx≤S'.nx
theorem zW:aHi P [] NoE:=by
 intro H enc σ S w base spare held fuel off cs hR hn hf hG hl h;have:cs.drop off= []:=Cr (by simp at hl;omega);rw[this];exact⟨σ,S,[],(),mN.refl hR hn hf,cA.2 rfl,fun u hu=>(by cases hu),rfl,Ah _⟩
theorem fN{t:TypeId}{ts:List TypeId}{α β:Type}{E:St→List AV→α→Prop}{R:St→List AV→β→Prop}(h1:Lays P t E)(f1:mI E)(h2:aHi P ts R):aHi P (t::ts) (qF E R):=by
 intro H enc σ S w base spare held fuel off cs hR hn hf hG hl h;rw[Dn,List.sum_cons] at hl;obtain⟨x,hx,hxW⟩:=h 0 t rfl;simp only[Bk,List.map_nil,List.sum_nil,Bj] at hx;obtain⟨σ1,S1,avs,a,hA,hrv,hone,hE,hn1⟩:=h1 H enc σ S w base spare held fuel _ x hR hn hf hG hx hxW;obtain⟨σ2,S2,avs2,b,hA2,hrv2,hone2,hE2,hn2⟩:=h2 H enc σ1 S1 w base spare held fuel (off+P.cellsOf t) cs hA.rep hA.no hA.fresh (Ax hG hn1) (by omega) (fun i u hi=>by
  obtain⟨y,hy,hyW⟩:=h (i+1) u (by simpa using hi);rw[Ay,Dn,List.sum_cons,←Ch] at hy;exact⟨y,hy,hyW⟩)
 have hsplit:cs.drop off=(cs.drop off).take (P.cellsOf t)++cs.drop (off+P.cellsOf t):=by
  rw[←List.drop_drop,Dj]
 refine⟨σ2,S2,avs++avs2,(a,b),hA.trans hA2,?_,?_,⟨avs,avs2,rfl,f1 hE hA2.same,hE2⟩,Ax hn1 hn2⟩
 ·rw[hsplit];exact(hrv.mono hA2.le).append hrv2
 ·rw[hsplit];intro u hu;rcases Bl.1 hu with hu | hu
  ·exact hone u hu
  ·exact hone2 u hu
theorem uM{t:TypeId}{fs:Array Field}{ts:List TypeId}{α:Type}{E:St→List AV→α→Prop}(ht:P.underlying t=some (.struct fs))(hts:fs.toList.map (·.type)=ts)(hoff:∀i f,fs[i]? =some f→f.offset=((ts.take i).map P.cellsOf).sum)(hc:P.cellsOf t=(ts.map P.cellsOf).sum)(hE:aHi P ts E):Lays P t E:=by
 intro H enc σ S w base spare held fuel cs x hR hn hf hG h hW;obtain⟨xs,n,rfl,hxe,hl,hxs,hfs⟩:=DataW.trod_struct ht h;subst hxe;have hW:∀n∈DataW.weights P t (.agg (xs.map (·.1))),n≤140737488355328:=hW;rw[aFu ht] at hW;obtain⟨σ1,S1,avs,a,hA,hrv,hone,hE1,hn1⟩:=hE H enc σ S w base spare held n 0 cs hR hn hf hG (by omega) (fun i u hi=>by
  have hi0:=hi;rw[←hts,Bb,Ap] at hi;obtain⟨f,hf1,rfl⟩:=hi;have hf2:fs[i]? =some f:=by simpa using hf1
  have h3:=hfs i f hf2;rw[hoff i f hf2] at h3;have hlt:i<xs.length:=by
   rw[hxs];exact(Bz.1 hf2).1
  exact⟨xs[i],by rw[Aw,h3,Ad hlt],fun n hn=>hW n (qW (i:=i) (by rw[hts];exact hi0) (by rw[Bb,Ad hlt];rfl) hn)⟩)
 exact⟨σ1,S1,avs,a,hA,by simpa using hrv,by simpa using hone,hE1,hn1⟩
end Go.Ev
namespace Go.Ev
def aN(k:Nat){α:Type}(E:St→List AV→α→Prop)(S:St)(v:AV)(l:List α):Prop:=
 (l= []∧(v= .nilsl∨v= .emp))∨∃b off cap o cs,v= .sl b off l.length cap o∧l.length≤cap∧b<S.nx∧cK S.h b=some cs∧∀ (i:Nat) (a:α),l[i]? =some a→∃e:List AV,e.length=k∧(∀ (j:Nat) (x:AV),e[j]? =some x→cs[off+i * k+j]? =some x)∧E S e a
theorem aN.same{k:Nat}{α:Type}{E:St→List AV→α→Prop}(hE:mI E){S S':St}{v:AV}{l:List α}(h:aN k E S v l)(hs:Same S S'):aN k E S' v l:=by
 rcases h with h | ⟨b,off,cap,o,cs,h1,hc,h2,h3,h4⟩
 ·exact .inl h
 ·refine .inr ⟨b,off,cap,o,cs,h1,hc,Ae h2 hs.1,by rw[rV hs h2];exact h3,fun i a hi=>?_⟩;obtain⟨e,e1,e2,e3⟩:=h4 i a hi;exact⟨e,e1,e2,hE e3 hs⟩
theorem flat_get{k:Nat}:∀ {css:List (List AV)} {i j:Nat} {cs:List AV} {x:AV},(∀ (i:Nat) (cs:List AV),css[i]? =some cs→cs.length=k)→css[i]? =some cs→cs[j]? =some x→css.flatten[i * k+j]? =some x
 | [],i,j,cs,x,_,hi,_=>by simp at hi
 | c::css,0,j,cs,x,_,hi,hj=>by
  simp at hi;subst hi;rw[Fa,Aw,List.flatten_cons,Bq (Af.1 hj).1];exact hj
 | c::css,i+1,j,cs,x,hk,hi,hj=>by
  have hc:=hk 0 c rfl;rw[List.flatten_cons,Dm,Bo (by omega),hc,show i * k+k+j - k=i * k+j by omega];exact flat_get (fun i cs h=>hk (i+1) cs (by simpa using h)) (by simpa using hi) hj
theorem vK.is{k:Nat}{α:Type}{E:St→List AV→α→Prop}{S:St}{avs:List AV}{l:List α}(h:vK k E S avs l):∃v,avs= [v]∧aN k E S v l:=by
 obtain⟨v,rfl,_,h | ⟨b,cap,css,h1,h2,h3,h4,h5,h6⟩⟩:=h
 ·exact⟨v,rfl,.inl h⟩
 ·refine⟨v,rfl,.inr ⟨b,0,cap,false,css.flatten,h1,h2,h3,?_,fun i a hi=>?_⟩⟩
  ·unfold cK;rw[h4];rfl
  ·have hil:i<css.length:=by have:=(Af.1 hi).1;omega
   obtain⟨e1,e2⟩:=h6 i css[i] a (Ad hil) hi;refine⟨css[i],e1,fun j x hj=>?_,e2⟩;rw[Aw];exact flat_get (fun i' cs' hi'=>(h6 i' cs' (l[i']'(by have:=(Af.1 hi').1;omega)) hi' (Ad _)).1) (Ad hil) hj
section
variable {k:Nat}{α:Type}{E:St→List AV→α→Prop}{S:St}{v:AV}{l:List α}
theorem aN.len(h:aN k E S v l):lE v=some (.int .i64 ((l.length:Nat):Int)):=by
 rcases h with⟨rfl,rfl | rfl⟩ | ⟨b,off,cap,o,cs,rfl,_⟩<;>rfl
def aJZ(k:Nat)(v:AV)(i:Nat):AV:=
 match v with
 | .sl b off _ _ _=>.ptr b (off+i * k)
 | _=>.undef
theorem aN.iaddr(h:aN k E S v l){i:Nat}(hi:i<l.length):fC (.slice k) v i=some (aJZ k v i):=by
 rcases h with⟨rfl,_⟩ | ⟨b,off,cap,o,cs,rfl,_⟩
 ·simp at hi
 ·simp only[fC,aJZ];have:Nat.blt i l.length=true:=Ak hi;rw[this,aM]
theorem aN.get(h:aN k E S v l){i:Nat}{a:α}(hi:l[i]? =some a):∃ (e:List AV) (b p:Nat),aJZ k v i= .ptr b p∧b<S.nx∧e.length=k∧E S e a∧∃cs,cK S.h b=some cs∧∀ (j:Nat) (x:AV),e[j]? =some x→cs[p+j]? =some x:=by
 rcases h with⟨rfl,_⟩ | ⟨b,off,cap,o,cs,rfl,hc,hb,hcs,hel⟩
 ·simp at hi
 ·obtain⟨e,e1,e2,e3⟩:=hel i a hi;exact⟨e,b,off+i * k,rfl,hb,e1,e3,cs,hcs,e2⟩
end
end Go.Ev
