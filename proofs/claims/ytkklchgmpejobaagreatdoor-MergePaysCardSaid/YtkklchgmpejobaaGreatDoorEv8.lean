import Derived.Test.YtkklchgmpejobaaGreatDoorEv7
import Derived.ChangeSlices
import Derived.ChangeArms
import Derived.DataReads
namespace Go.Ev
def uG(c d:eU):Prop:=∀f args S r,c f args S=some r→d f args S=some r
structure Le(a b:Evs):Prop where
 code:∀c A S r,a.code c A S=some r→b.code c A S=some r
 call:uG a.call b.call
theorem dN{α β:Type}{x y:Option α}{f g:α→Option β}{b:β}(h:aX x f=some b)(hx:∀a,x=some a→y=some a)(hf:∀a,f a=some b→g a=some b):aX y g=some b:=by
 obtain⟨a,h1,h2⟩:=aJ h;rw[hx a h1];exact hf a h2
theorem aKG{c d:eU}(h:uG c d){v:AV}{tbl:List (Nat×Nat×Option (Bool×Nat))}{args:List AV}{S:St}{r:AV×St}(hv:aFt v tbl args c S=some r):aFt v tbl args d S=some r:=by
 unfold aFt at hv ⊢;split at hv
 ·refine dN hv (fun _ h=>h) fun a ha=>?_;unfold aHN at ha ⊢;split at ha
  ·exact h _ _ _ _ ha
  ·unfold aFO at ha ⊢;split at ha
   ·exact dN ha (fun _ h=>h) fun _ hb=>h _ _ _ _ hb
   ·cases ha
 ·cases hv
theorem aHz{c d:eU}(h:uG c d){x:XOp}{F:Fr}{S:St}{r:AV×St}(hv:zX x c F S=some r):zX x d F S=some r:=by
 cases x with
 | call f args=>exact h _ _ _ _ hv
 | inv tbl recv args=>exact aKG h hv
 | _=>exact hv
theorem aJI{c d:eU}(h:uG c d){o:AO}{F:Fr}{S:St}{r:Fr×St}(hv:aCt o c F S=some r):aCt o d F S=some r:=by
 unfold aCt at hv ⊢;rw[cF] at hv ⊢;split at hv
 ·rename_i hw;rw[if_pos hw];cases ho:o.op with
  | q q=>rw[ho] at hv;exact hv
  | a a=>rw[ho] at hv;exact hv
  | x x=>
   rw[ho] at hv;exact dN (show aX (zX x c F S) _=some r from hv) (fun _ hx=>aHz h hx) fun _ hb=>hb
 ·rename_i hw;rw[if_neg hw];exact hv
theorem zT{c d:eU}(h:uG c d):∀ {l:List AO} {F:Fr} {S:St} {r:Fr×St},vD l c F S=some r→vD l d F S=some r
 | [],F,S,r,hv=>hv
 | o::l,F,S,r,hv=>dN (show aX (aCt o c F S) (fun r=>vD l c r.1 r.2)=some r from hv) (fun _ hx=>aJI h hx) fun _ hb=>zT h hb
theorem aNc{c d:eU}(h:uG c d){o:AO}{i base:Nat}{D:DS}{r:DS}(hv:rC o i base c D=some r):rC o i base d D=some r:=by
 unfold rC at hv ⊢;rw[cF] at hv ⊢;split at hv
 ·rename_i hw;rw[if_pos hw];cases ho:o.op with
  | q q=>rw[ho] at hv;exact hv
  | a a=>rw[ho] at hv;exact hv
  | x x=>
   rw[ho] at hv;obtain⟨h1,h2⟩:=bR (show bN (iS D.hs o.mask) _ none=some r from hv);show bN (iS D.hs o.mask) _ none=some r;rw[h1,aL];exact dN h2 (fun _ hx=>aHz h hx) fun _ hb=>hb
 ·rename_i hw;rw[if_neg hw];exact hv
theorem tN{c d:eU}(h:uG c d):∀ {l:List AO} {i base:Nat} {D r:DS},vJ l i base c D=some r→vJ l i base d D=some r
 | [],_,_,_,_,hv=>hv
 | o::l,i,base,D,r,hv=>dN (show aX (rC o i base c D) (fun D'=>vJ l (i+1) base c D')=some r from hv) (fun _ hx=>aNc h hx) fun _ hb=>tN h hb
theorem aEZ{c d:eU}(h:uG c d){l:List AO}{F:Fr}{S:St}{r:Fr×St}(hv:xC l c F S=some r):xC l d F S=some r:=
 dN (show aX _ _=some r from hv) (fun _ hx=>tN h hx) fun _ hb=>hb
theorem aGi{a b:Evs}(h:Le a b){c:AC}{A:bQ}{S:St}{r:Out×bQ×St}(hv:aHK c a A S=some r):aHK c b A S=some r:=by
 cases c with
 | skip=>exact hv
 | seq x y=>
  refine dN (show aX (a.code x A S) (tE y a)=some r from hv) (fun _ hx=>h.code _ _ _ _ hx) fun q hq=>?_;unfold tE at hq ⊢;split at hq
  ·exact h.code _ _ _ _ hq
  ·exact hq
 | cond x y z=>
  have hv:aB0 (x.val A.F) y z a A S=some r:=hv;show aB0 (x.val A.F) y z b A S=some r;unfold aB0 at hv ⊢;split at hv
  ·exact h.code _ _ _ _ hv
  ·cases hv
 | block id x=>exact dN (show aX (a.code x A S) (rO id)=some r from hv) (fun _ hx=>h.code _ _ _ _ hx) fun _ hq=>hq
 | loop x=>
  refine dN (show aX (a.code x A S) (tE (.loop x) a)=some r from hv) (fun _ hx=>h.code _ _ _ _ hx) fun q hq=>?_;unfold tE at hq ⊢;split at hq
  ·exact h.code _ _ _ _ hq
  ·exact hq
 | exit id=>exact hv
 | ret=>exact hv
 | reg ops=>exact dN (show aX (vD ops a.call A.F S) _=some r from hv) (fun _ hx=>zT h.call hx) fun _ hq=>hq
 | drw ops=>exact dN (show aX (xC ops a.call A.F S) _=some r from hv) (fun _ hx=>aEZ h.call hx) fun _ hq=>hq
 | rng f ps as bd=>
  have hv:aOn f ps as bd a A S=some r:=hv;show aOn f ps as bd b A S=some r;unfold aOn at hv ⊢;cases hi:A.inr with
  | true=>rw[hi,aL] at hv;cases hv
  | false=>
   rw[hi,aQ] at hv;rw[aQ];obtain⟨h1,h2⟩:=bR hv;rw[h1,aL];refine dN h2 (fun _ hx=>h.call _ _ _ _ hx) fun q hq=>dN hq (fun _ hx=>hx) fun bl hbl=>?_;unfold aBv at hbl ⊢;split at hbl
   ·split at hbl
    ·cases hbl
    ·exact dN hbl (fun _ hx=>hx) fun _ hc=>h.code _ _ _ _ hc
   ·cases hbl
 | dfr ops f args=>exact hv
theorem aHh{a b:Evs}(h:Le a b){bl:AB}{l:Nat}{args:List AV}{S:St}{r:AV×St}(hv:yH bl l args a S=some r):yH bl l args b S=some r:=by
 unfold yH at hv ⊢;split at hv
 ·refine dN hv (fun _ hx=>hx) fun F hF=>dN hF (fun _ hx=>h.code _ _ _ _ hx) fun q hq=>?_;unfold aCo at hq ⊢;split at hq
  ·refine dN hq (fun _ hx=>hx) fun bl hbl=>?_;unfold rJ at hbl ⊢;split at hbl
   ·exact dN (show aX (a.code _ _ _) _=some r from hbl) (fun _ hx=>h.code _ _ _ _ hx) fun _ hq=>hq
   ·cases hbl
  ·cases hq
 ·cases hv
theorem aG4{fns:T cV}{a b:Evs}(h:Le a b):uG (vM fns a) (vM fns b):=by
 intro f args S r hv;unfold vM at hv ⊢;split at hv
 ·refine dN hv (fun _ hx=>hx) fun fn hfn=>?_;unfold vS at hfn ⊢;obtain⟨h1,h2⟩:=bR hfn;rw[h1,aL];exact dN h2 (fun _ hx=>h.code _ _ _ _ hx) fun _ hq=>hq
 ·exact dN hv (fun _ hx=>hx) fun bl hbl=>aHh h hbl
 ·cases hv
theorem uH(fns:T cV):∀n,Le (ev fns n) (ev fns (n+1))
 | 0=>⟨fun c A S r (h:none=some r)=>(by cases h),fun f args S r (h:none=some r)=>(by cases h)⟩
 | n+1=>⟨fun _ _ _ _ h=>aGi (uH fns n) h,aG4 (uH fns n)⟩
theorem jQ(fns:T cV){n m:Nat}(h:n≤m):Le (ev fns n) (ev fns m):=by
 induction h with
 | refl=>exact⟨fun _ _ _ _ h=>h,fun _ _ _ _ h=>h⟩
 | step _ ih=>exact⟨fun c A S r h=>(uH fns _).code _ _ _ _ (ih.code _ _ _ _ h),fun f args S r h=>(uH fns _).call _ _ _ _ (ih.call _ _ _ _ h)⟩
end Go.Ev
namespace Go.Ev
abbrev oq(d:Nat)(q:zW):AO:=⟨some d,.q q,none,0⟩
abbrev om(d m:Nat)(q:zW):AO:=⟨some d,.q q,none,m⟩
abbrev og(d s:Nat)(b:Bool)(m:Nat)(q:zW):AO:=⟨some d,.q q,some (s,b),m⟩
abbrev oc(d f:Nat)(l:List cK)(m:Nat):AO:=⟨some d,.x (.call (.c (.fn f [] [])) l),none,m⟩
abbrev mt(d i:Nat):AO:=⟨some d,.q (.mv (.t i)),none,0⟩
abbrev ci(n:Int):cK:=.c (.int .i64 n)
abbrev bi(o:BinOp)(x y:cK):zW:=.bin o (.p .int) x y
abbrev ld(i:Nat):zW:=.ld false 1 (.t i)
abbrev Zs(n x v m:Nat):AO:=⟨none,.x (.st n (.t x) (.t v)),none,m⟩
abbrev Zf(d o x:Nat):AO:=oq d (.faddr o (.t x))
abbrev Zg(d m o x:Nat):AO:=om d m (.faddr o (.t x))
abbrev Zi(d k x y:Nat):AO:=oq d (.iaddr (.slice k) (.t x) (.t y))
abbrev Zj(d m k x y:Nat):AO:=om d m (.iaddr (.slice k) (.t x) (.t y))
abbrev Zl(d x:Nat):AO:=oq d (ld x)
abbrev Zm(d m x:Nat):AO:=om d m (ld x)
abbrev Zc(d:Nat)(n:Int):AO:=oq d (.mv (ci n))
abbrev Zn(d x:Nat):AO:=oq d (.lenSl (.t x))
abbrev Za(d x:Nat)(n:Int):AO:=oq d (bi .add (.t x) (ci n))
abbrev Zt(d x y:Nat):AO:=oq d (bi .lss (.t x) (.t y))
abbrev Ze(d x i:Nat):AO:=oq d (.extract (.t x) i)
abbrev Zd(d n x:Nat):AO:=oq d (.ld true n (.t x))
abbrev Zp(d c y:Nat):AO:=oq d (.pick (.t c) (.c (.bool true)) (.t y))
abbrev Zx(d s:Nat)(b:Bool)(m o x:Nat):AO:=og d s b m (.faddr o (.t x))
abbrev Zy(d s:Nat)(b:Bool)(m x:Nat):AO:=og d s b m (ld x)
abbrev Zu(d s:Nat)(b:Bool)(m x:Nat):AO:=og d s b m (.lenSl (.t x))
abbrev Zb(d k x:Nat):AO:=⟨some d,.a (.box k (.t x)),none,0⟩
variable {fns:T cV}
def lJ(fns:T cV)(c:AC)(A:bQ)(S:St)(Q:Out→bQ→St→Prop):Prop:=∃n o A' S',(ev fns n).code c A S=some (o,A',S')∧Q o A' S'
def fR(fns:T cV)(f:AV)(args:List AV)(S:St)(Q:AV→St→Prop):Prop:=∃n v S',(ev fns n).call f args S=some (v,S')∧Q v S'
def tW(fns:T cV)(ops:List AO)(F:Fr)(S:St)(Q:Fr→St→Prop):Prop:=∃n F' S',vD ops (ev fns n).call F S=some (F',S')∧Q F' S'
theorem bD{c:AC}{A:bQ}{S:St}{Q R:Out→bQ→St→Prop}(h:lJ fns c A S Q)(hq:∀o A S,Q o A S→R o A S):lJ fns c A S R:=by
 obtain⟨n,o,A',S',h1,h2⟩:=h;exact⟨n,o,A',S',h1,hq _ _ _ h2⟩
theorem aP{f:AV}{args:List AV}{S:St}{Q R:AV→St→Prop}(h:fR fns f args S Q)(hq:∀v S,Q v S→R v S):fR fns f args S R:=by
 obtain⟨n,v,S',h1,h2⟩:=h;exact⟨n,v,S',h1,hq _ _ h2⟩
theorem aG6{ops:List AO}{F:Fr}{S:St}{Q R:Fr→St→Prop}(h:tW fns ops F S Q)(hq:∀F S,Q F S→R F S):tW fns ops F S R:=by
 obtain⟨n,F',S',h1,h2⟩:=h;exact⟨n,F',S',h1,hq _ _ h2⟩
theorem aM{A:bQ}{S:St}{Q:Out→bQ→St→Prop}(h:Q .normal A S):lJ fns .skip A S Q:=⟨1,_,_,_,rfl,h⟩
theorem bK{id:Nat}{A:bQ}{S:St}{Q:Out→bQ→St→Prop}(h:Q (.exit id) A S):lJ fns (.exit id) A S Q:=⟨1,_,_,_,rfl,h⟩
theorem aU{A:bQ}{S:St}{Q:Out→bQ→St→Prop}(h:Q .ret A S):lJ fns .ret A S Q:=⟨1,_,_,_,rfl,h⟩
def aCr(fns:T cV)(y:AC)(Q:Out→bQ→St→Prop):Out→bQ→St→Prop
 | .normal,A,S=>lJ fns y A S Q
 | o,A,S=>Q o A S
theorem aC{x y:AC}{A:bQ}{S:St}{Q:Out→bQ→St→Prop}(h:lJ fns x A S (aCr fns y Q)):lJ fns (.seq x y) A S Q:=by
 obtain⟨n,o,A1,S1,h1,h2⟩:=h;cases o with
 | normal=>
  obtain⟨m,o,A2,S2,h3,h4⟩:=h2;refine⟨max n m+1,o,A2,S2,?_,h4⟩;show aX ((ev fns (max n m)).code x A S) (tE y (ev fns (max n m)))=_;rw[(jQ fns (Fe n m)).code _ _ _ _ h1,aK];exact(jQ fns (Fc n m)).code _ _ _ _ h3
 | ret=>
  refine⟨n+1,.ret,A1,S1,?_,h2⟩;show aX ((ev fns n).code x A S) (tE y (ev fns n))=_;rw[h1];rfl
 | exit i=>
  refine⟨n+1,.exit i,A1,S1,?_,h2⟩;show aX ((ev fns n).code x A S) (tE y (ev fns n))=_;rw[h1];rfl
theorem aLz{c:cK}{x y:AC}{A:bQ}{S:St}{Q:Out→bQ→St→Prop}{t:Bool}(hc:c.val A.F= .bool t)(h:lJ fns (bN t x y) A S Q):lJ fns (.cond c x y) A S Q:=by
 obtain⟨n,o,A1,S1,h1,h2⟩:=h;refine⟨n+1,o,A1,S1,?_,h2⟩;show aB0 (c.val A.F) x y (ev fns n) A S=_;rw[hc];exact h1
theorem aIj{c:cK}{x y:AC}{A:bQ}{S:St}{Q:Out→bQ→St→Prop}{t:Bool}(hc:c.val A.F= .bool t)(h1:t=true→lJ fns x A S Q)(h2:t=false→lJ fns y A S Q):lJ fns (.cond c x y) A S Q:=by
 refine aLz hc ?_;cases t
 ·exact h2 rfl
 ·exact h1 rfl
def aAS(id:Nat)(Q:Out→bQ→St→Prop):Out→bQ→St→Prop
 | .exit i,A,S=>if i=id then Q .normal A S else Q (.exit i) A S
 | o,A,S=>Q o A S
theorem aN{id:Nat}{c:AC}{A:bQ}{S:St}{Q:Out→bQ→St→Prop}(h:lJ fns c A S (aAS id Q)):lJ fns (.block id c) A S Q:=by
 obtain⟨n,o,A1,S1,h1,h2⟩:=h;cases o with
 | normal=>exact⟨n+1,.normal,A1,S1,by show aX ((ev fns n).code c A S) (rO id)=_;rw[h1];rfl,h2⟩
 | ret=>exact⟨n+1,.ret,A1,S1,by show aX ((ev fns n).code c A S) (rO id)=_;rw[h1];rfl,h2⟩
 | exit i=>
  by_cases hi:i=id
  ·subst hi;have h2:Q .normal A1 S1:=by simpa [aAS] using h2
   exact⟨n+1,.normal,A1,S1,by show aX ((ev fns n).code c A S) (rO i)=_;rw[h1];simp [aK,rO,cF,Bb],h2⟩
  ·have h2:Q (.exit i) A1 S1:=by simpa [aAS,hi] using h2
   exact⟨n+1,.exit i,A1,S1,by show aX ((ev fns n).code c A S) (rO id)=_;rw[h1];simp [aK,rO,cF,Bb,hi],h2⟩
def aFz(I:Nat→bQ→St→Prop)(k:Nat)(Q:Out→bQ→St→Prop):Out→bQ→St→Prop
 | .normal,A,S=>∃k',k'<k∧I k' A S
 | o,A,S=>Q o A S
theorem bT{c:AC}{Q:Out→bQ→St→Prop}(I:Nat→bQ→St→Prop)(h:∀k A S,I k A S→lJ fns c A S (aFz I k Q)):∀k A S,I k A S→lJ fns (.loop c) A S Q:=by
 intro k
 induction k using Nat.strongRecOn with
 | _ k ih=>
  intro A S hI;obtain⟨n,o,A1,S1,h1,h2⟩:=h k A S hI;cases o with
  | normal=>
   obtain⟨k',hk,hI'⟩:=h2;obtain⟨m,o,A2,S2,h3,h4⟩:=ih k' hk A1 S1 hI';refine⟨max n m+1,o,A2,S2,?_,h4⟩;show aX ((ev fns (max n m)).code c A S) (tE (.loop c) (ev fns (max n m)))=_;rw[(jQ fns (Fe n m)).code _ _ _ _ h1,aK];exact(jQ fns (Fc n m)).code _ _ _ _ h3
  | ret=>
   refine⟨n+1,.ret,A1,S1,?_,h2⟩;show aX ((ev fns n).code c A S) (tE (.loop c) (ev fns n))=_;rw[h1];rfl
  | exit i=>
   refine⟨n+1,.exit i,A1,S1,?_,h2⟩;show aX ((ev fns n).code c A S) (tE (.loop c) (ev fns n))=_;rw[h1];rfl
theorem aG{ops:List AO}{A:bQ}{S:St}{Q:Out→bQ→St→Prop}(h:tW fns ops A.F S fun F' S'=>Q .normal ⟨F',A.inr⟩ S'):lJ fns (.reg ops) A S Q:=by
 obtain⟨n,F',S',h1,h2⟩:=h;refine⟨n+1,.normal,⟨F',A.inr⟩,S',?_,h2⟩;show aX (vD ops (ev fns n).call A.F S) _=_;rw[h1];rfl
def aRf(res:List RV)(Q:AV→St→Prop):Out→bQ→St→Prop
 | .exit _,_,_=>False
 | _,A,S=>∃vs,results res A.F S.h=some vs∧Q (oneOf vs) S
theorem cE{id nt:Nat}{res:List RV}{body:AC}{first cap args:List AV}{S:St}{Q:AV→St→Prop}(hfn:fns.get id=some ⟨nt,res,body⟩)(hn:(first++(args++cap)).length≤nt)
  (h:lJ fns body ⟨sL (first++(args++cap)) 0 .e,false⟩ S (aRf res Q)):fR fns (.fn id first cap) args S Q:=by
 obtain⟨n,o,A',S',h1,h2⟩:=h;have key:∀ (_:∃vs,results res A'.F S'.h=some vs∧Q (oneOf vs) S') (_:aE1 ⟨nt,res,body⟩ (o,A',S')=aX (results res A'.F S'.h) fun vs=>some (oneOf vs,S')),fR fns (.fn id first cap) args S Q:=by
  rintro⟨vs,h3,h4⟩ h5;refine⟨n+1,oneOf vs,S',?_,h4⟩;show aX (fns.get id) (fun fn=>vS fn (wY first (wY args cap)) (ev fns n) S)=_;rw[hfn,aK];unfold vS;rw[gD,gD,dO,Aj hn,aL,h1,aK,h5,h3];rfl
 cases o with
 | normal=>exact key h2 rfl
 | ret=>exact key h2 rfl
 | exit i=>exact h2.elim
theorem aAL{F:Fr}{S:St}{Q:Fr→St→Prop}:tW fns [] F S Q↔Q F S:=
 ⟨fun⟨_,_,_,h1,h2⟩=>by cases h1;exact h2,fun h=>⟨0,F,S,rfl,h⟩⟩
theorem aCF{o:AO}{l:List AO}{F F1:Fr}{S S1:St}{Q:Fr→St→Prop}(h:∀call,aCt o call F S=some (F1,S1))(hl:tW fns l F1 S1 Q):tW fns (o::l) F S Q:=by
 obtain⟨n,F',S',h1,h2⟩:=hl;refine⟨n,F',S',?_,h2⟩;rw[gI,h,aK];exact h1
theorem aMr{d:Option Nat}{q:zW}{m:Nat}{l:List AO}{F:Fr}{S:St}{Q:Fr→St→Prop}{v:AV}(h:iI q F S.h=some v)(hl:tW fns l (cI d F v) S Q):tW fns (⟨d,.q q,none,m⟩::l) F S Q:=
 aCF (fun call=>by show aX (iI q F S.h) _=_;rw[h];rfl) hl
theorem aQh{d:Option Nat}{a:wU}{m:Nat}{l:List AO}{F:Fr}{S:St}{Q:Fr→St→Prop}{v:AV}{bl:AB}(h:tQ a F S.nx=some (v,bl))(hl:tW fns l (cI d F v) ⟨S.h.set S.nx (some bl),S.nx+1⟩ Q):tW fns (⟨d,.a a,none,m⟩::l) F S Q:=
 aCF (fun call=>by show aX (tQ a F S.nx) _=_;rw[h];rfl) hl
theorem eR{d:Option Nat}{x:XOp}{m:Nat}{l:List AO}{F:Fr}{S S1:St}{Q:Fr→St→Prop}{v:AV}(h:∀call,zX x call F S=some (v,S1))(hl:tW fns l (cI d F v) S1 Q):tW fns (⟨d,.x x,none,m⟩::l) F S Q:=
 aCF (fun call=>by show aX (zX x call F S) _=_;rw[h];rfl) hl
theorem aY{d:Option Nat}{f:cK}{args:List cK}{m:Nat}{l:List AO}{F:Fr}{S:St}{Q:Fr→St→Prop}(h:fR fns (f.val F) (cW args F) S fun v S1=>tW fns l (cI d F v) S1 Q):tW fns (⟨d,.x (.call f args),none,m⟩::l) F S Q:=by
 obtain⟨n,v,S1,h1,k,F',S',h2,h3⟩:=h;refine⟨max n k,F',S',?_,h3⟩;rw[gI];have:aCt ⟨d,.x (.call f args),none,m⟩ (ev fns (max n k)).call F S=some (cI d F v,S1):=by
  show aX ((ev fns (max n k)).call (f.val F) (cW args F) S) _=_;rw[(jQ fns (Fe n k)).call _ _ _ _ h1];rfl
 rw[this,aK];exact zT (jQ fns (Fc n k)).call h2
theorem fW(i:Nat)(F:Fr):(cK.t i).val F=aD i F:=rfl
theorem aEA(v:AV)(F:Fr):(cK.c v).val F=v:=rfl
theorem dR(F:Fr)(v:AV):cI none F v=F:=rfl
theorem bS(i j:Nat)(F:Fr)(v:AV):aD i (cI (some j) F v)=if i=j then v else aD i F:=by
 show aD i (F.set j (some v))=_;unfold aD;rw[T.get_set];split<;>rfl
end Go.Ev
namespace Go.Ev
variable {fns:T cV}
theorem aNz{l:Nat}{args:List AV}{S:St}{Q:AV→St→Prop}{pend:Option Out}{fr F:Fr}{ps:List Nat}{as bd:AC}(hl:S.h.get l=some (.loop .ready pend fr ps as bd))(hF:mN ps args fr=some F)
  (h:lJ fns as ⟨F,true⟩ S fun o A1 S1=>o= .normal∧∃pend1 fr1 ps1 as1,S1.h.get l=some (.loop .ready pend1 fr1 ps1 as1 bd)∧lJ fns bd A1 ⟨S1.h.set l (some (.loop .busy pend1 fr1 ps1 as1 bd)),S1.nx⟩ fun o A2 S2=>∃pend2 fr2 ps2 as2 bd2,S2.h.get l=some (.loop .busy pend2 fr2 ps2 as2 bd2)∧
   ((o= .normal∧Q (.bool true) ⟨S2.h.set l (some (.loop .ready none fr2 ps2 as2 bd2)),S2.nx⟩)∨(o≠ .normal∧Q (.bool false) ⟨S2.h.set l (some (.loop .done (some o) fr2 ps2 as2 bd2)),S2.nx⟩))):fR fns (.yld l) args S Q:=by
 obtain⟨n,o,A1,S1,h1,rfl,pend1,fr1,ps1,as1,h2,m,o2,A2,S2,h3,pend2,fr2,ps2,as2,bd2,h4,h5⟩:=h;have e1:=(jQ fns (Fe n m)).code _ _ _ _ h1;have e3:=(jQ fns (Fc n m)).code _ _ _ _ h3;have key:∀r,sT (.loop .busy pend2 fr2 ps2 as2 bd2) o2 l S2=some r→(ev fns (max n m+1)).call (.yld l) args S=some r:=fun r hr=>by
  show aX (S.h.get l) (fun bl=>yH bl l args (ev fns (max n m)) S)=_;rw[hl,aK];show aX (mN ps args fr) (fun F=>aX ((ev fns (max n m)).code as ⟨F,true⟩ S) (aCo l bd (ev fns (max n m))))=_;rw[hF,aK,e1,aK];show aX (S1.h.get l) (fun bl=>rJ bl l bd (ev fns (max n m)) A1 S1)=_;rw[h2,aK];show aX ((ev fns (max n m)).code bd A1 ⟨S1.h.set l (some (.loop .busy pend1 fr1 ps1 as1 bd)),S1.nx⟩) (fun r=>aX (r.2.2.h.get l) fun bl=>sT bl r.1 l r.2.2)=_;rw[e3,aK];show aX (S2.h.get l) (fun bl=>sT bl o2 l S2)=_;rw[h4,aK];exact hr
 rcases h5 with⟨rfl,h5⟩ | ⟨hne,h5⟩
 ·exact⟨_,_,_,key _ rfl,h5⟩
 ·refine⟨_,_,_,key (.bool false,⟨S2.h.set l (some (.loop .done (some o2) fr2 ps2 as2 bd2)),S2.nx⟩) ?_,h5⟩;cases o2 with
  | normal=>exact absurd rfl hne
  | _=>rfl
theorem aN5{f:cK}{ps:List Nat}{as bd:AC}{A:bQ}{S:St}{Q:Out→bQ→St→Prop}{id:Nat}{first cap:List AV}(hi:A.inr=false)(hf:f.val A.F= .fn id first cap)
  (h:fR fns (.fn id first cap) [.yld S.nx] ⟨S.h.set S.nx (some (.loop .ready none A.F ps as bd)),S.nx+1⟩ fun _ S2=>∃st pend fr ps2 as2 bd2 c,S2.h.get S.nx=some (.loop st pend fr ps2 as2 bd2)∧st≠ .busy∧aOg pend=some c∧lJ fns c A ⟨S2.h.set S.nx (some (.loop .exhausted pend fr ps2 as2 bd2)),S2.nx⟩ Q):lJ fns (.rng f ps as bd) A S Q:=by
 obtain⟨n,v,S2,h1,st,pend,fr,ps2,as2,bd2,c,h2,hst,hc,m,o,A',S',h3,hq⟩:=h;refine⟨max n m+1,o,A',S',?_,hq⟩;show bN A.inr none (bN (aMq (f.val A.F)) (aX ((ev fns (max n m)).call (f.val A.F) [.yld S.nx] ⟨S.h.set S.nx (some (.loop .ready none A.F ps as bd)),Nat.succ S.nx⟩) fun r=>aX (r.2.h.get S.nx) fun bl=>aBv bl S.nx A r.2 (ev fns (max n m))) none)=_;rw[hi,aQ,hf,show aMq (.fn id first cap)=true from rfl,aL,show Nat.succ S.nx=S.nx+1 from rfl,(jQ fns (Fe n m)).call _ _ _ _ h1,aK];show aX (S2.h.get S.nx) (fun bl=>aBv bl S.nx A S2 (ev fns (max n m)))=_;rw[h2,aK];have e:=(jQ fns (Fc n m)).code _ _ _ _ h3;cases st with
 | busy=>exact absurd rfl hst
 | _=>
  show aX (aOg pend) (fun c=>(ev fns (max n m)).code c A ⟨S2.h.set S.nx _,S2.nx⟩)=_;rw[hc,aK];exact e
theorem aOc{tbl:List (Nat×Nat×Option (Bool×Nat))}{recv:cK}{args:List cK}{F:Fr}{t f:Nat}{v:AV}(hr:recv.val F= .iface t v)(hf:wT t tbl=some (f,none))(call:eU)(S:St):zX (.inv tbl recv args) call F S=zX (.call (.c (.fn f [v] [])) args) call F S:=by
 show aFt (recv.val F) tbl (cW args F) call S=call (.fn f [v] []) (cW args F) S;rw[hr];show aX (wT t tbl) (fun r=>aHN r v (cW args F) call S)=_;rw[hf,aK];rfl
end Go.Ev
namespace Go.Ev
def Same(S S':St):Prop:=S.nx≤S'.nx∧∀b,b<S.nx→S'.h.get b=S.h.get b
theorem Same.refl(S:St):Same S S:=⟨Ag _,fun _ _=>rfl⟩
theorem Same.trans{S S' S'':St}(h:Same S S')(h':Same S' S''):Same S S'':=⟨Ap h.1 h'.1,fun b hb=>(h'.2 b (Ah hb h.1)).trans (h.2 b hb)⟩
theorem Same.alloc(S:St)(bl:AB):Same S ⟨S.h.set S.nx (some bl),S.nx+1⟩:=⟨Nat.le_succ _,fun b hb=>by simp only;rw[T.get_set,if_neg (by omega)]⟩
theorem Same.put{S S':St}{b:Nat}(h:Same S S')(hb:S.nx≤b)(x:Option AB):Same S ⟨S'.h.set b x,S'.nx⟩:=⟨h.1,fun c hc=>by simp only;rw[T.get_set,if_neg (by omega)];exact h.2 c hc⟩
def cD(k:IntKind)(S:St)(v:AV)(l:List Int):Prop:=
 (l= []∧(v= .nilsl∨v= .emp))∨∃b off cap o cs,v= .sl b off l.length cap o∧l.length≤cap∧b<S.nx∧cL S.h b=some cs∧∀i x,l[i]? =some x→cs[off+i]? =some (.int k x)
theorem uL{S S':St}(h:Same S S'){b:Nat}(hb:b<S.nx):cL S'.h b=cL S.h b:=by unfold cL;rw[h.2 b hb]
theorem cD.same{k:IntKind}{S S':St}{v:AV}{l:List Int}(h:cD k S v l)(hs:Same S S'):cD k S' v l:=by
 rcases h with h | ⟨b,off,cap,o,cs,h1,hc,h2,h3,h4⟩
 ·exact .inl h
 ·exact .inr ⟨b,off,cap,o,cs,h1,hc,Ah h2 hs.1,by rw[uL hs h2];exact h3,h4⟩
theorem cD.len{k:IntKind}{S:St}{v:AV}{l:List Int}(h:cD k S v l):lH v=some (.int .i64 (.ofNat l.length)):=by
 rcases h with⟨rfl,rfl | rfl⟩ | ⟨b,off,cap,o,cs,rfl,_⟩<;>rfl
def aBM(v:AV)(i:Nat):AV:=
 match v with
 | .sl b off _ _ _=>.ptr b (off+i * 1)
 | _=>.undef
theorem cD.iaddr{k:IntKind}{S:St}{v:AV}{l:List Int}(h:cD k S v l){i:Nat}(hi:i<l.length):eS (.slice 1) v i=some (aBM v i):=by
 rcases h with⟨rfl,_⟩ | ⟨b,off,cap,o,cs,rfl,_⟩
 ·simp at hi
 ·simp only[eS,aBM];have:Nat.blt i l.length=true:=Aj hi;rw[this,aL]
theorem cD.ld{k:IntKind}{S:St}{v:AV}{l:List Int}(h:cD k S v l){i:Nat}(hi:i<l.length):dB (aBM v i) false 1 S.h=some (.int k (l.getD i 0)):=by
 rcases h with⟨rfl,_⟩ | ⟨b,off,cap,o,cs,rfl,hc,hb,hcs,hel⟩
 ·simp at hi
 ·simp only[aBM,dB,oJ,aQ,lP,hcs,aK,nD,Eg];rw[hel i l[i] (Ab hi)];simp [Ae,hi]
theorem aFe(e:oO)(k:IntKind)(a b:Int):eJ .add e (.int k a) (.int k b)=some (.int k (k.wrap (a+b))):=by
 show cN .add k a k b=_;unfold cN;rw[show dP .add=false from rfl,aQ,eQ,aL];show some (AV.int k (aLj k a b))=_;rw[aHl]
theorem aFQ(e:oO)(k:IntKind)(a b:Int):eJ .sub e (.int k a) (.int k b)=some (.int k (k.wrap (a - b))):=by
 show cN .sub k a k b=_;unfold cN;rw[show dP .sub=false from rfl,aQ,eQ,aL];show some (AV.int k (aED k a b))=_;rw[wH]
theorem aFH(e:oO)(k:IntKind)(a b:Int):eJ .mul e (.int k a) (.int k b)=some (.int k (k.wrap (a * b))):=by
 show cN .mul k a k b=_;unfold cN;rw[show dP .mul=false from rfl,aQ,eQ,aL];show some (AV.int k (aGy k a b))=_;rw[aAk]
theorem aFZ(e:oO)(k:IntKind)(a b:Int):eJ .lss e (.int k a) (.int k b)=some (.bool (decide (a<b))):=by
 show cN .lss k a k b=_;unfold cN;rw[show dP .lss=false from rfl,aQ,eQ,aL];show some (AV.bool (bN (ile b a) false true))=_;rw[oR,rK];congr 2;rw[Cp];simp
theorem aFj(e:oO)(k:IntKind)(a b:Int):eJ .leq e (.int k a) (.int k b)=some (.bool (decide (a≤b))):=by
 show cN .leq k a k b=_;unfold cN;rw[show dP .leq=false from rfl,aQ,eQ,aL];show some (AV.bool (ile a b))=_;rw[oR]
theorem aFM(e:oO)(k:IntKind)(a b:Int):eJ .gtr e (.int k a) (.int k b)=some (.bool (decide (b<a))):=by
 show cN .gtr k a k b=_;unfold cN;rw[show dP .gtr=false from rfl,aQ,eQ,aL];show some (AV.bool (bN (ile a b) false true))=_;rw[oR,rK];congr 2;rw[Cp];simp
theorem aFg(e:oO)(k:IntKind)(a b:Int):eJ .geq e (.int k a) (.int k b)=some (.bool (decide (b≤a))):=by
 show cN .geq k a k b=_;unfold cN;rw[show dP .geq=false from rfl,aQ,eQ,aL];show some (AV.bool (ile b a))=_;rw[oR]
theorem aCk(e:oO)(k:IntKind)(a b:Int):eJ .eql e (.int k a) (.int k b)=some (.bool (decide (a=b))):=by
 show cN .eql k a k b=_;unfold cN;rw[show dP .eql=false from rfl,aQ,eQ,aL];show some (AV.bool (ieq a b))=_;rw[lG];congr 2
theorem aFf(e:oO)(k:IntKind)(a b:Int):eJ .neq e (.int k a) (.int k b)=some (.bool (decide (a≠b))):=by
 show cN .neq k a k b=_;unfold cN;rw[show dP .neq=false from rfl,aQ,eQ,aL];show some (AV.bool (bN (ieq a b) false true))=_;rw[lG,rK];congr 2;rw[Cp];simp
section
variable (F:Fr)(h:T AB)
theorem aID(x:cK):iI (.mv x) F h=some (x.val F):=rfl
theorem aE4(op:BinOp)(e:oO)(x y:cK):iI (.bin op e x y) F h=eJ op e (x.val F) (y.val F):=rfl
theorem aFG(op:UnOp)(x:cK):iI (.un op x) F h=unV op (x.val F):=rfl
theorem aBy(x:cK):iI (.lenSl x) F h=lH (x.val F):=rfl
theorem tB(k:IxK)(x ix:cK):iI (.iaddr k x ix) F h=aX (fB (ix.val F)) fun i=>eS k (x.val F) i:=rfl
theorem aCq(agg:Bool)(n:Nat)(x:cK):iI (.ld agg n x) F h=dB (x.val F) agg n h:=rfl
theorem aDf(k:aGj)(x:cK):iI (.conv k x) F h=wM k (x.val F) h:=rfl
theorem wQ(x:cK)(i:Nat):iI (.extract x i) F h=lO (x.val F) i:=rfl
theorem mL(c a b:cK):iI (.pick c a b) F h=wR (c.val F) a b F:=rfl
theorem aF3(agg:Bool)(off n:Nat)(x:cK):iI (.fld agg off n x) F h=aHW (x.val F) agg off n:=rfl
end
theorem aH(k:IntKind)(n:Nat):fB (.int k (n:Int))=some n:=rfl
theorem aDn(k j:IntKind)(n:Int)(h:T AB):wM (.int k) (.int j n) h=some (.int k (k.wrap n)):=by
 show some (AV.int k (aEM k n))=_;rw[tM]
end Go.Ev
namespace Go.Ev
variable {fns:T cV}
def jY{α:Type}(x:Option α)(Q:α→Prop):Prop:=∃a,x=some a∧Q a
theorem dV{α:Type}(a:α)(Q:α→Prop):jY (some a) Q=Q a:=propext ⟨fun⟨_,h1,h2⟩=>by cases h1;exact h2,fun h=>⟨a,rfl,h⟩⟩
theorem aII{d:Option Nat}{q:zW}{m:Nat}{l:List AO}{F:Fr}{S:St}{Q:Fr→St→Prop}:tW fns (⟨d,.q q,none,m⟩::l) F S Q↔jY (iI q F S.h) fun v=>tW fns l (cI d F v) S Q:=by
 constructor
 ·rintro⟨n,F',S',h1,h2⟩;rw[gI] at h1;obtain⟨r,h3,h4⟩:=aJ h1;obtain⟨v,h5,h6⟩:=aJ (show aX (iI q F S.h) (fun v=>some (cI d F v,S))=some r from h3);cases h6;exact⟨v,h5,n,F',S',h4,h2⟩
 ·rintro⟨v,h1,h2⟩;exact aMr h1 h2
theorem aAX{d:Option Nat}{a:wU}{m:Nat}{l:List AO}{F:Fr}{S:St}{Q:Fr→St→Prop}:tW fns (⟨d,.a a,none,m⟩::l) F S Q↔jY (tQ a F S.nx) fun r=>tW fns l (cI d F r.1) ⟨S.h.set S.nx (some r.2),S.nx+1⟩ Q:=by
 constructor
 ·rintro⟨n,F',S',h1,h2⟩;rw[gI] at h1;obtain⟨r,h3,h4⟩:=aJ h1;obtain⟨v,h5,h6⟩:=aJ (show aX (tQ a F S.nx) (fun r=>some (cI d F r.1,(⟨S.h.set S.nx (some r.2),Nat.succ S.nx⟩:St)))=some r from h3);cases h6;exact⟨v,h5,n,F',S',h4,h2⟩
 ·rintro⟨⟨v,bl⟩,h1,h2⟩;exact aQh h1 h2
def xF(fns:T cV)(ops:List AO)(i base:Nat)(D:DS)(Q:DS→Prop):Prop:=∃n D',vJ ops i base (ev fns n).call D=some D'∧Q D'
theorem wZ{ops:List AO}{A:bQ}{S:St}{Q:Out→bQ→St→Prop}(h:xF fns ops 0 S.nx ⟨A.F,⟨S.h,S.nx+ops.length⟩,[],[],[]⟩ fun D=>fK S.h D.hs.reverse D.ls=true∧Q .normal ⟨D.F,A.inr⟩ ⟨(cG (2 ^ ops.length - 1) D.ps D.S.h).2,D.S.nx⟩):lJ fns (.drw ops) A S Q:=by
 obtain⟨n,D,h1,h2,h3⟩:=h;refine⟨n+1,.normal,⟨D.F,A.inr⟩,⟨(cG (2 ^ ops.length - 1) D.ps D.S.h).2,D.S.nx⟩,?_,h3⟩;show aX (aX (vJ ops 0 S.nx (ev fns n).call ⟨A.F,⟨S.h,S.nx+jK ops⟩,[],[],[]⟩) fun D=>aAt S.h (jK ops) D) _=_;rw[dO,h1,aK];unfold aAt;rw[h2,aL];rfl
theorem iL{i base:Nat}{D:DS}{Q:DS→Prop}:xF fns [] i base D Q↔Q D:=
 ⟨fun⟨_,_,h1,h2⟩=>by cases h1;exact h2,fun h=>⟨0,D,rfl,h⟩⟩
theorem nB{d:Option Nat}{q:zW}{m i base:Nat}{l:List AO}{D:DS}{Q:DS→Prop}:xF fns (⟨d,.q q,none,m⟩::l) i base D Q↔
  jY (iI q D.F D.S.h) fun v=>xF fns l (i+1) base ⟨cI d D.F v,D.S,D.ps,D.hs,bN (dC q) (⟨q,D.F,v,i,m⟩::D.ls) D.ls⟩ Q:=by
 constructor
 ·rintro⟨n,D',h1,h2⟩;obtain⟨r,h3,h4⟩:=aJ (show aX (rC ⟨d,.q q,none,m⟩ i base (ev fns n).call D) (fun D'=>vJ l (i+1) base (ev fns n).call D')=some D' from h1);obtain⟨v,h5,h6⟩:=aJ (show aX (iI q D.F D.S.h) (fun v=>some (⟨cI d D.F v,D.S,D.ps,D.hs,bN (dC q) (⟨q,D.F,v,i,m⟩::D.ls) D.ls⟩:DS))=some r from h3);cases h6;exact⟨v,h5,n,D',h4,h2⟩
 ·rintro⟨v,h1,n,D',h2,h3⟩;refine⟨n,D',?_,h3⟩;show aX (aX (iI q D.F D.S.h) _) _=_;rw[h1];exact h2
theorem aMZ{d:Option Nat}{a:wU}{m i base:Nat}{l:List AO}{D:DS}{Q:DS→Prop}:xF fns (⟨d,.a a,none,m⟩::l) i base D Q↔
  jY (tQ a D.F (base+i)) fun r=>xF fns l (i+1) base ⟨cI d D.F r.1,D.S,⟨i,base+i,r.2⟩::D.ps,D.hs,D.ls⟩ Q:=by
 constructor
 ·rintro⟨n,D',h1,h2⟩;obtain⟨r,h3,h4⟩:=aJ (show aX (rC ⟨d,.a a,none,m⟩ i base (ev fns n).call D) (fun D'=>vJ l (i+1) base (ev fns n).call D')=some D' from h1);obtain⟨v,h5,h6⟩:=aJ (show aX (tQ a D.F (base+i)) (fun r=>some (⟨cI d D.F r.1,D.S,⟨i,base+i,r.2⟩::D.ps,D.hs,D.ls⟩:DS))=some r from h3);cases h6;exact⟨v,h5,n,D',h4,h2⟩
 ·rintro⟨r,h1,n,D',h2,h3⟩;refine⟨n,D',?_,h3⟩;show aX (aX (tQ a D.F (base+i)) _) _=_;rw[h1];exact h2
theorem jR{d:Option Nat}{x:XOp}{m i base:Nat}{l:List AO}{D:DS}{Q:DS→Prop}{v:AV}{S1:St}(hl:iS D.hs m=true)(h:∀call,zX x call D.F ⟨(cG m D.ps D.S.h).2,D.S.nx⟩=some (v,S1))
  (hq:xF fns l (i+1) base ⟨cI d D.F v,S1,(cG m D.ps D.S.h).1,(i,m,S1.h)::D.hs,D.ls⟩ Q):xF fns (⟨d,.x x,none,m⟩::l) i base D Q:=by
 obtain⟨n,D',h2,h3⟩:=hq;refine⟨n,D',?_,h3⟩;show aX (bN (iS D.hs m) (aX (zX x (ev fns n).call D.F ⟨(cG m D.ps D.S.h).2,D.S.nx⟩) _) none) _=_;rw[hl,aL,h];exact h2
theorem aHE{d:Option Nat}{f:cK}{args:List cK}{m i base:Nat}{l:List AO}{D:DS}{Q:DS→Prop}(hl:iS D.hs m=true)
  (h:fR fns (f.val D.F) (cW args D.F) ⟨(cG m D.ps D.S.h).2,D.S.nx⟩ fun v S1=>xF fns l (i+1) base ⟨cI d D.F v,S1,(cG m D.ps D.S.h).1,(i,m,S1.h)::D.hs,D.ls⟩ Q):xF fns (⟨d,.x (.call f args),none,m⟩::l) i base D Q:=by
 obtain⟨n,v,S1,h1,k,D',h2,h3⟩:=h;refine⟨max n k,D',?_,h3⟩;show aX (bN (iS D.hs m) (aX ((ev fns (max n k)).call (f.val D.F) (cW args D.F) ⟨(cG m D.ps D.S.h).2,D.S.nx⟩) _) none) _=_;rw[hl,aL,(jQ fns (Fe n k)).call _ _ _ _ h1];exact tN (jQ fns (Fc n k)).call h2
theorem fV(k:IntKind)(a:Int):cM (.int k a) (.int k a)=true:=by simp [cM,cF,eQ,lG]
theorem aAV(a:Bool):cM (.bool a) (.bool a)=true:=by simp [cM,tY]
theorem aCG(a b:Nat):cM (.ptr a b) (.ptr a b)=true:=by simp [cM,cF,Bb]
theorem tU(a b c d:Nat)(o:Bool):cM (.sl a b c d o) (.sl a b c d o)=true:=by simp [cM,Bb,tY]
theorem zM:cM .nilsl .nilsl=true:=rfl
end Go.Ev
namespace Go.Ev
def aAK(S:St):Prop:=∀b,S.nx≤b→S.h.get b=none
def Frs(S S':St):Prop:=(aAK S→aAK S')∧S.nx≤S'.nx
theorem aJ5(S:St)(x:Option AB):Frs S ⟨S.h.set S.nx x,S.nx+1⟩:=
 ⟨fun h c hc=>by simp only at hc ⊢;rw[T.get_set,if_neg (by omega)];exact h c (by omega),Nat.le_succ _⟩
end Go.Ev
namespace Go.Ev
variable {P:Program}{σ:Env}{S:St}{w:World}
def aF0:List (Nat×Nat×IntKind×Int)→AC
 | []=>.seq (.reg [⟨some 0,.q (.mv (.c (.bool true))),none,0⟩]) .ret
 | (g,j,k,z)::l=>.seq (.reg [⟨some 1,.q (.ld false 1 (.c (.ptr g j))),none,0⟩,⟨some 2,.q (.bin .eql (.p .int) (.t 1) (.c (.int k z))),none,0⟩]) (.seq (.cond (.t 2) .skip (.exit 0)) (aF0 l))
def aBo(l:List (Nat×Nat×IntKind×Int)):cV:=⟨0,[.t 0],aF0 l⟩
theorem aJn{fns:T cV}{Q:Out→bQ→St→Prop}(hQ:∀A,aD 0 A.F= .bool true→Q .ret A S):∀ {l:List (Nat×Nat×IntKind×Int)} {A:bQ},(∀c∈l,lP S.h c.1 c.2.1=some (.int c.2.2.1 c.2.2.2))→lJ fns (aF0 l) A S Q
 | [],A,_=>by
  refine aC (aG ?_);rw[aII];exact⟨.bool true,rfl,(aAL).2 (aU (hQ _ (by rw[bS,if_pos rfl])))⟩
 | (g,j,k,z)::l,A,h=>by
  have h1:=h (g,j,k,z) (by simp);simp only at h1;refine aC (aG (aMr (v:=.int k z) h1 (aMr (v:=.bool true) ?_ (aAL.2 ?_))))
  ·show eJ .eql (.p .int) (aD 1 (cI (some 1) A.F (.int k z))) (.int k z)=_;rw[bS,if_pos rfl,aCk,Ad rfl]
  refine aC (aIj (t:=true) (by show aD 2 _=_;rw[bS,if_pos rfl]) (fun _=>aM ?_) (fun h=>by cases h));exact aJn hQ fun c hc=>h c (by simp [hc])
theorem aNg{fns:T cV}{id:Nat}{l:List (Nat×Nat×IntKind×Int)}(hfn:fns.get id=some (aBo l))(h:∀c∈l,lP S.h c.1 c.2.1=some (.int c.2.2.1 c.2.2.2)):fR fns (.fn id [] []) [] S fun r S'=>r= .bool true∧S'=S:=by
 refine cE hfn (by simp) (aJn (fun A hA=>?_) h);exact⟨[aD 0 A.F],rfl,by rw[hA];rfl,rfl⟩
theorem aFn{v:AV}{k:IntKind}{z:Int}(h:eJ .eql (.p .int) v (.int k z)=some (.bool true)):v= .int k z:=by
 cases v with
 | int k' z'=>
  have h':cN .eql k' z' k z=some (.bool true):=h;unfold cN at h';rw[show dP .eql=false from rfl,aQ] at h';obtain⟨hk,h'⟩:=bR h';have hz:some (AV.bool (ieq z' z))=some (.bool true):=h';simp only[Al,AV.bool.injEq] at hz;rw[lG] at hz;have hz:=eq_of_beq hz;subst hz;have hkk:k'=k:=by
   cases k<;>cases k'<;>first | rfl | (exfalso;revert hk;decide)
  rw[hkk]
 | _=>cases h
theorem aHb{fns:T cV}:∀ {l:List (Nat×Nat×IntKind×Int)} {n:Nat} {A A':bQ} {S':St} {o:Out},(ev fns n).code (aF0 l) A S=some (o,A',S')→(∀i,o≠ .exit i)→(∀c∈l,lP S.h c.1 c.2.1=some (.int c.2.2.1 c.2.2.2))∧S'=S∧aD 0 A'.F= .bool true
 | l,0,_,_,_,_,h,_=>by cases h
 | l,1,A,A',S',o,h,_=>by
  cases l with
  | nil=>
   have h':(none:Option (Out×bQ×St))=some (o,A',S'):=h;cases h'
  | cons c l=>
   obtain⟨g,j,k,z⟩:=c;have h':(none:Option (Out×bQ×St))=some (o,A',S'):=h;cases h'
 | [],n+2,A,A',S',o,h,ho=>by
  obtain⟨⟨o1,A1,S1⟩,h1,h2⟩:=aJ (show aX ((ev fns (n+1)).code (.reg [⟨some 0,.q (.mv (.c (.bool true))),none,0⟩]) A S) (tE .ret (ev fns (n+1)))=some (o,A',S') from h);have e1:(ev fns (n+1)).code (.reg [⟨some 0,.q (.mv (.c (.bool true))),none,0⟩]) A S=some (.normal,⟨cI (some 0) A.F (.bool true),A.inr⟩,S):=rfl;rw[e1] at h1;cases h1;have e2:tE .ret (ev fns (n+1)) (.normal,⟨cI (some 0) A.F (.bool true),A.inr⟩,S)=some (.ret,⟨cI (some 0) A.F (.bool true),A.inr⟩,S):=rfl;rw[e2] at h2;cases h2;exact⟨fun c hc=>(by cases hc),rfl,by rw[bS,if_pos rfl]⟩
 | (g,j,k,z)::l,n+2,A,A',S',o,h,ho=>by
  obtain⟨⟨o1,A1,S1⟩,h1,h2⟩:=aJ (show aX ((ev fns (n+1)).code (.reg [⟨some 1,.q (.ld false 1 (.c (.ptr g j))),none,0⟩,⟨some 2,.q (.bin .eql (.p .int) (.t 1) (.c (.int k z))),none,0⟩]) A S) (tE (.seq (.cond (.t 2) .skip (.exit 0)) (aF0 l)) (ev fns (n+1)))=some (o,A',S') from h);obtain⟨⟨F1,S2⟩,h3,h4⟩:=aJ (show aX (vD [⟨some 1,.q (.ld false 1 (.c (.ptr g j))),none,0⟩,⟨some 2,.q (.bin .eql (.p .int) (.t 1) (.c (.int k z))),none,0⟩] (ev fns n).call A.F S) (fun r=>some (.normal,(⟨r.1,A.inr⟩:bQ),r.2))=some (o1,A1,S1) from h1);cases h4;rw[gI] at h3;obtain⟨⟨F2,S3⟩,h5,h6⟩:=aJ h3;obtain⟨v,hv,h7⟩:=aJ (show aX (lP S.h g j) (fun v=>some (cI (some 1) A.F v,S))=some (F2,S3) from h5);cases h7;rw[gI] at h6;obtain⟨⟨F4,S4⟩,h8,h9⟩:=aJ h6;cases h9;obtain⟨b,hb,h10⟩:=aJ (show aX (eJ .eql (.p .int) (aD 1 (cI (some 1) A.F v)) (.int k z)) (fun u=>some (cI (some 2) (cI (some 1) A.F v) u,S))=some (F4,S4) from h8);cases h10;rw[bS,if_pos rfl] at hb;have h2:(ev fns (n+1)).code (.seq (.cond (.t 2) .skip (.exit 0)) (aF0 l)) ⟨cI (some 2) (cI (some 1) A.F v) b,A.inr⟩ S=some (o,A',S'):=h2;obtain⟨⟨o5,A5,S5⟩,k1,k2⟩:=aJ (show aX ((ev fns n).code (.cond (.t 2) .skip (.exit 0)) ⟨cI (some 2) (cI (some 1) A.F v) b,A.inr⟩ S) (tE (aF0 l) (ev fns n))=some (o,A',S') from h2);cases n with
  | zero=>cases k1
  | succ n=>
   have k1:aB0 (aD 2 (cI (some 2) (cI (some 1) A.F v) b)) .skip (.exit 0) (ev fns n) ⟨cI (some 2) (cI (some 1) A.F v) b,A.inr⟩ S=some (o5,A5,S5):=k1;rw[bS,if_pos rfl] at k1;cases b with
   | bool t=>
    have k1:(ev fns n).code (bN t .skip (.exit 0)) ⟨cI (some 2) (cI (some 1) A.F v) (.bool t),A.inr⟩ S=some (o5,A5,S5):=k1;cases t with
    | true=>
     rw[aL] at k1;cases n with
     | zero=>cases k1
     | succ n=>
      have e:(ev fns (n+1)).code .skip ⟨cI (some 2) (cI (some 1) A.F v) (.bool true),A.inr⟩ S=some (.normal,⟨cI (some 2) (cI (some 1) A.F v) (.bool true),A.inr⟩,S):=rfl;rw[e] at k1;cases k1;have ih:=aHb (l:=l) (show(ev fns (n+1+1)).code (aF0 l) _ S=some (o,A',S') from k2) ho;refine⟨fun c hc=>?_,ih.2⟩;rcases Bi.1 hc with rfl | hc
      ·rw[hv,aFn hb]
      ·exact ih.1 c hc
    | false=>
     rw[aQ] at k1;cases n with
     | zero=>cases k1
     | succ n=>
      have e:(ev fns (n+1)).code (.exit 0) ⟨cI (some 2) (cI (some 1) A.F v) (.bool false),A.inr⟩ S=some (.exit 0,⟨cI (some 2) (cI (some 1) A.F v) (.bool false),A.inr⟩,S):=rfl;rw[e] at k1;cases k1;have k2:some (Out.exit 0,(⟨cI (some 2) (cI (some 1) A.F v) (.bool false),A.inr⟩:bQ),S)=some (o,A',S'):=k2;cases k2;exact absurd rfl (ho 0)
   | _=>cases k1
theorem aJD{fns:T cV}{l:List (Nat×Nat×IntKind×Int)}{n:Nat}{S':St}{v:AV}(h:vS (aBo l) [] (ev fns n) S=some (v,S')):(∀c∈l,lP S.h c.1 c.2.1=some (.int c.2.2.1 c.2.2.2))∧S'=S∧v= .bool true:=by
 unfold vS at h;obtain⟨_,h⟩:=bR h;obtain⟨⟨o,A',S1⟩,h1,h2⟩:=aJ h;unfold aE1 at h2;split at h2
 ·cases h2
 ·rename_i hne;obtain⟨vs,h3,h4⟩:=aJ h2;cases h4;obtain⟨k1,k2,k3⟩:=aHb (show(ev fns n).code (aF0 l) ⟨.e,false⟩ S=some (o,A',S1) from h1) (fun i e=>hne i e);refine⟨k1,k2,?_⟩;have:some [aD 0 A'.F]=some vs:=h3;cases this;exact k3
def aBk:Nat→Nat→List (IntKind×Int)→List (Nat×Nat×IntKind×Int)
 | _,_,[]=>[]
 | g,j,(k,z)::l=>(g,j,k,z)::aBk g (j+1) l
theorem aDX:∀ {l:List (IntKind×Int)} {g j i:Nat} {k:IntKind} {z:Int},l[i]? =some (k,z)→(g,j+i,k,z)∈aBk g j l
 | [],_,_,_,_,_,h=>by simp at h
 | (k,z)::l,g,j,0,k',z',h=>by
  simp at h;obtain⟨rfl,rfl⟩:=h;simp [aBk]
 | (k,z)::l,g,j,i+1,k',z',h=>by
  have:=aDX (g:=g) (j:=j+1) (show l[i]? =some (k',z') by simpa using h);rw[show j+(i+1)=j+1+i by omega];exact Bq _ this
def lL:List (Nat×List (IntKind×Int))→List (Nat×Nat×IntKind×Int)
 | []=>[]
 | (g,l)::r=>aBk g 0 l++lL r
theorem aAN:∀ {t:List (Nat×List (IntKind×Int))} {g:Nat} {l:List (IntKind×Int)},(g,l)∈t→∀c∈aBk g 0 l,c∈lL t
 | (g',l')::t,g,l,h,c,hc=>by
  simp only[lL,Bf];rcases Bi.1 h with h | h
  ·cases h;exact .inl hc
  ·exact .inr (aAN h c hc)
theorem aGw(hR:jM P σ S w){t:List (Nat×List (IntKind×Int))}(hg:∀x∈t,x.1<P.globals.size∧x.2≠ [])(h:∀c∈lL t,lP S.h c.1 c.2.1=some (.int c.2.2.1 c.2.2.2)):aHU P (t.map fun x=>(x.1,x.2.map fun y=>AV.int y.1 y.2)) w:=by
 intro x hx;obtain⟨⟨g,l⟩,hgl,rfl⟩:=Dz.1 hx;obtain⟨h1,h2⟩:=hg _ hgl;have hc:∀i k z,l[i]? =some (k,z)→lP S.h g i=some (.int k z):=fun i k z hi=>by
  have:=h _ (aAN hgl _ (aDX (g:=g) (j:=0) hi));simpa using this
 obtain⟨⟨k0,z0⟩,l',rfl⟩:∃a l',l=a::l':=by cases l with | nil=>exact absurd rfl h2 | cons a l'=>exact⟨a,l',rfl⟩
 have h0:=hc 0 k0 z0 rfl;unfold lP cL at h0;obtain⟨cs,h3,h4⟩:=aJ h0;obtain⟨bl,h5,h6⟩:=aJ h3;obtain⟨L,h7,h8,h9⟩:=hR.blk g bl h5;rw[hR.glob g h1] at h7;cases h7;have hcs:∀i k z,((k0,z0)::l')[i]? =some (k,z)→cs[i]? =some (AV.int k z):=fun i k z hi=>by
  have:=hc i k z hi;unfold lP cL at this;rw[h5,aK,h6,aK,nD] at this;exact this
 have key:∀Cs,gO P σ cs Cs→w.rangeAt g 0 Cs→∃Ds,gO P (aDt P) (((k0,z0)::l').map fun y=>AV.int y.1 y.2) Ds∧(∀u∈Ds,u.oneCell'=true)∧w.rangeAt g 0 Ds:=by
  intro Cs hC hr;refine⟨((k0,z0)::l').map fun y=>Value.int y.1 y.2,?_,fun u hu=>?_,fun j v hv=>?_⟩
  ·clear hcs hc hg h h0 hgl hx h2;generalize (k0,z0)::l'=m
   induction m with
   | nil=>exact cO.2 rfl
   | cons a m ih=>exact cJ.2 ⟨_,_,rfl,by simp only[Rv],ih⟩
  ·obtain⟨y,_,rfl⟩:=Dz.1 hu;rfl
  ·rw[Be,Au] at hv;obtain⟨⟨k,z⟩,hkz,rfl⟩:=hv;have h10:=hcs j k z hkz;obtain⟨V,hV,hVV⟩:=hC.get h10;simp only[Rv] at hVV;rw[←hVV];exact hr j V hV
 refine⟨h1,by simpa using h8,?_⟩;cases bl with
 | cells ds o s=>
  simp only[mV,Al] at h6;subst h6;obtain⟨Cs,q1,_,q3,_⟩:=h9;exact key Cs q1 q3
 | ro ds=>
  simp only[mV,Al] at h6;subst h6;obtain⟨Cs,q1,_,q3⟩:=h9;exact key Cs q1 q3
 | _=>cases h6
theorem aE3{l:List (Nat×List AV)}{σ':Env}{S':St}{w':World}(hR:jM P σ S w)(h:gN P (aDt P) (stL P l) w σ' S' w'):gN P σ S w σ S w':=by
 have hk:∀r,r<w.heap.size→w'.heap[r]? =w.heap[r]? :=fun r hr=>h.keep r hr (aRL r);refine⟨⟨fun b bl hb=>?_,hR.lt,hR.fresh,hR.glob,hR.inj⟩,fun _ _=>rfl,Ag _,fun r hr _=>hk r hr,fun _ ho=>.inl ho,h.size,h.os,h.tape,h.output,fun _ _ hb=>hb⟩;obtain⟨L,q1,q2,q3⟩:=hR.blk b bl hb;exact⟨L,q1,Ah q2 h.size,q3.frame (fun _ _ x=>x) (hk _ q2)⟩
theorem aD7{fns:T cV}{id nt:Nat}{res:List RV}{c:AC}{Fn:Func}{t:List (Nat×List (IntKind×Int))}{l:List (Nat×List AV)}(hFn:P.funcs[id]? =some Fn)(hc:cFn P Fn=some ⟨nt,res,c⟩)(hl:l=t.map fun x=>(x.1,x.2.map fun y=>AV.int y.1 y.2))(hg:∀x∈t,x.1<P.globals.size∧x.2≠ [])
  (h:Good P c ⟨.e,false⟩ (stL P l) fun o A S=>aKD res o A S=some true):aIQ P fns id (aBo (lL t)):=by
 obtain⟨C,c',rs,hbody,hname,hC,hrs,heq⟩:=aDO hc;cases heq;refine⟨rfl,⟨Fn,C,hFn,hbody,hname⟩,fun n S S' v hrun σ w fv hf hR=>?_⟩;obtain⟨hloads,hS',hv⟩:=aJD hrun;subst hS';subst hv;have hT:aHU P l w:=by rw[hl];exact aGw hR hg hloads
 simp only[Rv] at hf;obtain⟨A,B,rfl,hA,hB⟩:=hf;have hA:=cO.1 hA;have hB:=cO.1 hB;subst hA;subst hB;rw[lT hFn hbody hname];show CallsIn Fence.wide 0 P id ⟨[]++([]++ [])⟩ w _;refine callsIn_of_wp_marks hFn hbody trivial ?_;obtain⟨hfr,hsz⟩:=aCC (P:=P) (σ:=aDt P) (args:=[]) (Args:=[]) (cO.2 rfl) (nt:=Fn.ntmps) (Bt _);rw[←aFV];refine h none 0 Fn.ntmps C hC (fun _=>rfl) w.heap.size (aDt P) _ w _ hsz Df.nil (Ag _) hfr (aQ0 hT) ?_;intro o A' S2 σ' a' w' hret hinr hsz' hdf hfr' hext;obtain⟨hoo,hres⟩:=aKa hret;obtain⟨_,rks,hd,hnd,hmk⟩:=hdf;have fin:∀w'',gN P (aDt P) (stL P l) w σ' S2 w''→∃V,(Go.results Fn a'.tmps).run P w''= .ok V w''∧∃σ',Rv P σ' (.bool true) V∧gN P σ S' w σ' S' w'':=fun w'' hx=>by
  obtain⟨Vs,h8,h9⟩:=oH hx.rep hfr' hrs hres;refine⟨if h:Vs.toArray.size=1 then Vs.toArray[0] else .tuple Vs.toArray,?_,σ,?_,aE3 hR hx⟩
  ·show((do let vs ←Fn.results.mapM (aEW a'.tmps);pure (if h:vs.size=1 then vs[0] else .tuple vs):Sem Value)).run P w''=_;rw[Array.mapM_eq_mapM_toList];simp only[Sem.run_bind,Sem.run_map,h8,Result.andThen_ok,Sem.run_pure]
  ·have:=aBC h9;simp only[oneOf,Rv] at this;rw[this];simp only[Rv]
 rcases hoo with rfl | rfl
 ·show LeavesInM Fence.wide 0 P Fn a'.tmps _ a'.defers .returning w';rw[hd];exact leaves rks w' hnd hmk hext fin
 ·show LeavesInM Fence.wide 0 P Fn a'.tmps _ a'.defers .returning w';rw[hd];exact leaves rks w' hnd hmk hext fin
theorem aFD{l:List (Nat×cV)}(hmix:P.follows .mixedOrders=true)(hl:∀p∈l,Row P p∨aIQ P (table l) p.1 p.2):vI P (table l):=
 ⟨asked P,uJ P,fun id fn h=>by
  rcases hl _ (aAQ h) with⟨Fn,h1,h2⟩ | h1
  ·exact .inl ⟨Fn,h1,h2⟩
  ·exact .inr h1,fun call hcall=>aB7 (asked P) (uJ P) hmix call hcall⟩
end Go.Ev
namespace Go.Ev
variable {P:Program}{σ:Env}{S:St}{w:World}
def aAz(S:St):Prop:=∀b bl,S.h.get b=some bl→¬vE bl
def zD(σ:Env)(b:Nat)(L:Loc):Env:=fun c=>if c=b then some L else σ c
theorem aPk(hR:jM P σ S w)(L:Loc):∀b M,σ b=some M→zD σ S.nx L b=some M:=fun b M h=>by
 have:=hR.below h;unfold zD;rw[if_neg (by omega)];exact h
structure rG(P:Program)(σ:Env)(S:St)(w:World)(σ':Env)(S':St):Prop where
 rep:jM P σ' S' w
 no:aAz S'
 same:Same S S'
 fresh:aAK S'
 le:∀b L,σ b=some L→σ' b=some L
theorem rG.refl(hR:jM P σ S w)(hn:aAz S)(hf:aAK S):rG P σ S w σ S:=⟨hR,hn,Same.refl S,hf,fun _ _ h=>h⟩
theorem rG.trans{σ' σ'':Env}{S' S'':St}(h:rG P σ S w σ' S')(h':rG P σ' S' w σ'' S''):rG P σ S w σ'' S'':=⟨h'.rep,h'.no,h.same.trans h'.same,h'.fresh,fun b L hb=>h'.le b L (h.le b L hb)⟩
theorem aPh(hn:aAz S)(r:Nat):¬Own σ S r:=fun⟨b,bl,_,h1,h2,_⟩=>hn b bl h1 h2
theorem aKI{fns:T cV}(hK:vI P fns){id:Nat}{b:Bool}{Fn:Func}(hFn:P.funcs[id]? =some Fn)(hb:Fn.body.isSome=true)(hnm:(Fn.name== "runtime.NumGoroutine")=false){avs:List AV}{Args:List Value}{Q:St→Prop}
  (h:fR fns (.fn id [] []) avs S fun r S'=>r= .bool b∧Q S') (hargs:gO P σ avs Args) (hR:jM P σ S w) (hn:aAz S):
  Calls P id ⟨Args⟩ w fun e w'=>e= .returned (.bool b)∧Kept w w':=by
 obtain⟨n,v,S',hrun0,hv,_⟩:=h;subst hv;have hs:=aLN hK n _ _ _ _ _ hrun0 σ w (.func (.func id) ⟨[]⟩ ⟨[]⟩) Args (by simp only[Rv];exact⟨[],[],rfl,cO.2 rfl,cO.2 rfl⟩) hargs hR;have hnm':¬Fn.name= "runtime.NumGoroutine" :=by simpa using hnm
 obtain⟨C,hC⟩:=Option.isSome_iff_exists.1 hb;have hrun:((do let d ←Deferred.ofValue (.func (.func id) ⟨[]⟩ ⟨[]⟩) ⟨Args⟩;invoke d.target d.args:Sem Next)).run P w= .ok (.enter id ⟨Args⟩) w:=by
  simp only[Deferred.ofValue,Sem.run_bind,Sem.run_pure,Result.andThen_ok,invoke,callFunc,run_program,hFn];simp [hC,hnm']
 rw[hrun] at hs;have hs:CallsIn Fence.wide 0 P id ⟨Args⟩ w _:=hs;refine(callsIn_wide.1 hs).mono fun e w' h=>?_;cases e with
 | returned V=>
  obtain⟨σ',h1,h2⟩:=h;simp only[Rv] at h1;subst h1;exact⟨rfl,h2.kept (aPh hn)⟩
 | _=>exact h.elim
theorem aOD{l:List (Nat×List AV)}:aAz (stL P l):=fun b bl h ho=>by
 obtain⟨cs,_,rfl⟩:=oC h;exact ho.elim
theorem aOB{l:List (Nat×List AV)}(hl:∀x∈l,x.1<P.globals.size):aAK (stL P l):=fun b hb=>by
 cases h:(stL P l).h.get b with
 | none=>rfl
 | some bl=>
  obtain⟨cs,h1,_⟩:=oC h;have h2:=hl _ h1;simp only[stL] at hb;simp only at h2;omega
end Go.Ev
namespace Go.Ev
variable {P:Program}{σ:Env}{S:St}{w:World}
theorem aKh(hR:jM P σ S w)(hn:aAz S)(hf:aAK S)(hG:P.globals.size≤S.nx){r d:Nat}{cs:List AV}{Cs:List Value}(hr:r<w.heap.size)(hc:gO P σ cs Cs)(h1:∀u∈Cs,u.oneCell'=true)(hw:w.rangeAt r d Cs):
  rG P σ S w (zD σ S.nx ⟨r,d,0⟩) ⟨S.h.set S.nx (some (.ro cs)),S.nx+1⟩:=by
 have hle:=aPk hR ⟨r,d,0⟩;refine⟨⟨fun b bl hb=>?_,fun b bl hb=>?_,fun b hb=>?_,fun g hg=>?_,fun b b' bl bl' L L' hb _ ho=>?_⟩,fun b bl hb=>?_,Same.alloc S _,(aJ5 S _).1 hf,hle⟩
 ·simp only at hb;rw[T.get_set] at hb;split at hb
  ·rename_i e;subst e;cases hb;exact⟨⟨r,d,0⟩,by unfold zD;rw[if_pos rfl],hr,Cs,hc.mono hle,h1,hw⟩
  ·obtain⟨L,h1,h2,h3⟩:=hR.blk b bl hb;exact⟨L,hle b L h1,h2,h3.frame hle rfl⟩
 ·simp only at hb;rw[T.get_set] at hb;split at hb
  ·rename_i e;subst e;simp
  ·have:=hR.lt b bl hb;simp only;omega
 ·simp only at hb;unfold zD;rw[if_neg (by omega)];exact hR.fresh b (by omega)
 ·unfold zD;rw[if_neg (by omega)];exact hR.glob g hg
 ·simp only at hb;rw[T.get_set] at hb;split at hb
  ·cases hb;exact ho.elim
  ·exact absurd ho (hn b bl hb)
 ·simp only at hb;rw[T.get_set] at hb;split at hb
  ·cases hb;exact fun h=>h
  ·exact hn b bl hb
def Lays(P:Program)(t:TypeId){α:Type}(E:St→List AV→α→Prop):Prop:=
 ∀ (H:Type) (enc:TypeId×Value→H) (σ:Env) (S:St) (w:World) (base:Nat) (spare:Nat→Bool) (held:Bool) (fuel:Nat) (cs:List Value) (x:DataW H×List MemPlace),jM P σ S w→aAz S→aAK S→P.globals.size≤S.nx→DataW.trod enc P w base spare held fuel t cs=some x→(∀n∈DataW.weights P t x.1,n≤140737488355328)→
  ∃σ' S' avs a,rG P σ S w σ' S'∧gO P σ' avs cs∧(∀u∈cs,u.oneCell'=true)∧E S' avs a∧S.nx≤S'.nx
def aE8{α:Type}(E:St→List AV→α→Prop):Prop:=∀ {S S':St} {avs:List AV} {a:α},E S avs a→Same S S'→E S' avs a
def aOb(k:IntKind)(_:St)(avs:List AV)(z:Int):Prop:=avs= [.int k z]∧(Lit.int k z).wf=true
theorem aLp{k:IntKind}:aE8 (aOb k):=fun h _=>h
theorem aMl{t:TypeId}{k:IntKind}(ht:P.underlying t=some (.int k)):Lays P t (aOb k):=by
 intro H enc σ S w base spare held fuel cs x hR hn hf hG h hW;obtain⟨n,rfl,_,hw⟩:=DataW.trod_int ht h;exact⟨σ,S,[.int k n],n,rG.refl hR hn hf,cJ.2 ⟨_,_,rfl,by simp only[Rv],cO.2 rfl⟩,fun u hu=>by simp at hu;subst hu;rfl,⟨rfl,hw⟩,Ag _⟩
theorem aBV{H:Type}{e:TypeId}{d:DataW H}{n:Nat}:∀ {l:List (DataW H)},d∈l→n∈DataW.weights P e d→n∈DataW.weightsAll P e l
 | [],h,_=>by cases h
 | x::r,h,hn=>by
  show n∈DataW.weights P e x++DataW.weightsAll P e r;rcases Bi.1 h with rfl | h
  ·exact Dp _ hn
  ·exact Cz _ (aBV h hn)
theorem aAC{H:Type}{n:Nat}:∀ {ts:List TypeId} {l:List (DataW H)} {i:Nat} {t:TypeId} {d:DataW H},ts[i]? =some t→l[i]? =some d→n∈DataW.weights P t d→n∈DataW.weightsEach P ts l
 | [],_,_,_,_,h,_,_=>by simp at h
 | _::_,[],_,_,_,_,h,_=>by simp at h
 | u::ts,x::r,0,t,d,h1,h2,hn=>by
  simp at h1 h2;subst h1;subst h2;exact Dp _ hn
 | u::ts,x::r,i+1,t,d,h1,h2,hn=>by
  show n∈DataW.weights P u x++DataW.weightsEach P ts r;exact Cz _ (aAC (by simpa using h1) (by simpa using h2) hn)
theorem aD9{H:Type}{t e:TypeId}{xs ys:List (DataW H)}(ht:P.underlying t=some (.slice e)):DataW.weights P t (.slice xs ys)=(xs.length+ys.length) * P.bytesOf e::(DataW.weightsAll P e xs++DataW.weightsAll P e ys):=by
 unfold DataW.weights;rw[ht]
def aLo(k:Nat){α:Type}(E:St→List AV→α→Prop)(S:St)(avs:List AV)(l:List α):Prop:=
 ∃av,avs= [av]∧l.length * (8 * k)≤140737488355328∧((l= []∧(av= .nilsl∨av= .emp))∨∃ (b cap:Nat) (css:List (List AV)),av= .sl b 0 l.length cap false∧l.length≤cap∧b<S.nx∧S.h.get b=some (.ro css.flatten)∧css.length=l.length∧∀ (i:Nat) (cs:List AV) (a:α),css[i]? =some cs→l[i]? =some a→cs.length=k∧E S cs a)
theorem aMd{a:Addr}{n base:Nat}{cs:List Value}(h:w.cells? base a n=some cs):cs.length=n∧∀i,i<n→w.cell? (a.add i)=cs[i]? :=by
 unfold World.cells? at h;split at h
 ·refine⟨by simpa using mapM_some_length h,fun i hi=>?_⟩;exact mapM_some_get h i i (by simp [hi])
 ·cases h
theorem aDe{e:TypeId}{k:Nat}{α:Type}{E:St→List AV→α→Prop}(hE:Lays P e E)(hF:aE8 E)(hk:0<k){H:Type}{enc:TypeId×Value→H}{base:Nat}{spare:Nat→Bool}{held:Bool}{fuel:Nat}{a:Addr}(hspot:a.spot=none)
  (hR:jM P σ S w) (hn:aAz S) (hf:aAK S) (hG:P.globals.size≤S.nx):∀ {m:Nat},(∀i,i<m→∃x,(w.cells? base (a.add (i * k)) k).bind (DataW.trod enc P w base spare held fuel e)=some x∧∀n∈DataW.weights P e x.1,n≤140737488355328)→
  ∃ (σ':Env) (S':St) (css:List (List AV)),∃l:List α,∃Cs:List Value,rG P σ S w σ' S'∧S.nx≤S'.nx∧css.length=m∧l.length=m∧(∀ (i:Nat) (cs:List AV) (a:α),css[i]? =some cs→l[i]? =some a→cs.length=k∧E S' cs a)∧gO P σ' css.flatten Cs∧(∀u∈Cs,u.oneCell'=true)∧Cs.length=m * k∧w.rangeAt a.block a.off Cs
 | 0,_=>⟨σ,S,[],[],[],rG.refl hR hn hf,Ag _,rfl,rfl,fun i cs a hi=>(by simp at hi),cO.2 rfl,fun u hu=>(by cases hu),by simp,fun j v hv=>(by simp at hv)⟩
 | m+1,h=>by
  obtain⟨σ1,S1,css,l,Cs,hA,hn1,hcl,hll,hel,hrv,hone,hlen,hrange⟩:=aDe hE hF hk hspot hR hn hf hG (m:=m) fun i hi=>h i (by omega);obtain⟨x,hx,hxW⟩:=h m (by omega);obtain⟨cs,hcs,hx⟩:=Dl.1 hx;obtain⟨σ2,S2,avs,y,hA2,hrv2,hone2,hE2,hn2⟩:=hE H enc σ1 S1 w base spare held fuel cs x hA.rep hA.no hA.fresh (Ap hG hn1) hx hxW;obtain⟨hcl2,hcell⟩:=aMd hcs;have hal:avs.length=k:=by rw[←hrv2.length];exact hcl2
  refine⟨σ2,S2,css++ [avs],l++ [y],Cs++cs,hA.trans hA2,Ap hn1 hn2,by simp [hcl],by simp [hll],?_,?_,?_,?_,?_⟩
  ·intro i cs' a' hi ha;rw[Ec] at hi ha;rw[hcl] at hi;rw[hll] at ha;split at hi
   ·rename_i hlt;rw[if_pos hlt] at ha;exact⟨(hel i cs' a' hi ha).1,hF (hel i cs' a' hi ha).2 hA2.same⟩
   ·rename_i hlt;rw[if_neg hlt] at ha;have him:i - m=0:=by
     rcases Ca (i - m) with h | h
     ·exact h
     ·obtain⟨q,hq⟩:=Nat.exists_eq_succ_of_ne_zero (Nat.pos_iff_ne_zero.1 h);rw[hq] at hi;simp at hi
    rw[him] at hi ha;simp at hi ha;subst hi;subst ha;exact⟨hal,hE2⟩
  ·rw[List.flatten_append];simp only[List.flatten_cons,List.flatten_nil,Bz];exact(hrv.mono hA2.le).append hrv2
  ·intro u hu;rcases Bf.1 hu with hu | hu
   ·exact hone u hu
   ·exact hone2 u hu
  ·rw[Ai,hlen,hcl2,Dj]
  ·intro j v hv;rw[Ec] at hv;split at hv
   ·exact hrange j v hv
   ·rename_i hlt;have hj:j - Cs.length<k:=by
     have:=(Af.1 hv).1;omega
    have:=hcell (j - Cs.length) hj;rw[hv] at this;rw[←this];congr 1;have hadd:∀i,a.add i=⟨a.block,a.off+i,none⟩:=fun i=>by
     unfold Addr.add;split
     ·rename_i h;subst h;cases a;simp_all
     ·rfl
    have hadd2:∀ (x y:Nat),Addr.add ⟨a.block,x,none⟩ y=⟨a.block,x+y,none⟩:=fun x y=>by
     unfold Addr.add;split
     ·rename_i h;rw[h,Bs]
     ·rfl
    rw[hadd,hadd2,hlen];congr 1;rw[hlen] at hlt;omega
theorem aHS{t e:TypeId}{k:Nat}{α:Type}{E:St→List AV→α→Prop}(ht:P.underlying t=some (.slice e))(hc:P.cellsOf e=k)(hk:0<k)(hby:8 * k≤P.bytesOf e)(hE:Lays P e E)(hF:aE8 E):Lays P t (aLo k E):=by
 intro H enc σ S w base spare held fuel cs x hR hn hf hG h hW;rcases DataW.trod_slice ht h with⟨rfl,_⟩ | ⟨a,len,cap,elems,rest,n,rfl,rfl,hxe,_,hlc,_,hlen,hel,_⟩
 ·exact⟨σ,S,[.nilsl],[],rG.refl hR hn hf,cJ.2 ⟨_,_,rfl,by simp only[Rv],cO.2 rfl⟩,fun u hu=>by simp at hu;subst hu;rfl,⟨_,rfl,by simp,.inl ⟨rfl,.inl rfl⟩⟩,Ag _⟩
 ·rw[hc] at hel;subst hxe;have hW:∀n∈DataW.weights P t (.slice (elems.map (·.1)) (rest.map (·.1))),n≤140737488355328:=hW;rw[aD9 ht] at hW;have hlw:len * (8 * k)≤140737488355328:=by
   have h1:=hW _ (Cd ..);rw[Az,hlen,Dx] at h1;exact Ap (Nat.mul_le_mul_left len hby) (by omega)
  rcases Ca len with h0 | hp
  ·subst h0;exact⟨σ,S,[.emp],[],rG.refl hR hn hf,cJ.2 ⟨_,_,rfl,by simp only[Rv];exact⟨a,cap,rfl⟩,cO.2 rfl⟩,fun u hu=>by simp at hu;subst hu;rfl,⟨_,rfl,by simp,.inl ⟨rfl,.inr rfl⟩⟩,Ag _⟩
  ·have hget:∀i,i<len→∃x,(w.cells? base (a.add (i * k)) k).bind (DataW.trod enc P w base spare held n e)=some x∧∀n∈DataW.weights P e x.1,n≤140737488355328:=fun i hi=>by
    rw[hel i hi];exact⟨elems[i]'(by omega),Ab (by omega),fun n hn=>hW n (Bq _ (Dp _ (aBV (List.mem_map_of_mem (Br _)) hn)))⟩
   obtain⟨x0,hx0,_⟩:=hget 0 hp;obtain⟨cs0,hcs0,_⟩:=Dl.1 hx0;obtain⟨hl0,hc0⟩:=aMd hcs0;have c0:=hc0 0 hk;rw[Ab (by omega),Ey] at c0;have e0:(a.add 0).add 0=a:=rfl;rw[e0] at c0;have hblk:a.block<w.heap.size∧a.spot=none:=by
    unfold World.cell? at c0;cases hh:w.heap[a.block]? with
    | none=>rw[hh] at c0;cases c0
    | some o=>
     refine⟨(Ee.1 hh).1,?_⟩;rw[hh] at c0;cases o with
     | cells c t fr=>
      simp only at c0;by_cases hs:a.spot.isSome
      ·rw[if_pos hs] at c0;cases c0
      ·simpa using hs
     | _=>cases c0
   obtain⟨σ1,S1,css,l,Cs,hA,hn1,hcl,hll,hE1,hrv,hone,hCl,hrange⟩:=aDe hE hF hk hblk.2 hR hn hf hG hget;have hA2:=aKh hA.rep hA.no hA.fresh (Ap hG hn1) hblk.1 hrv hone hrange;refine⟨_,_,[.sl S1.nx 0 len cap false],l,hA.trans hA2,cJ.2 ⟨_,_,rfl,?_,cO.2 rfl⟩,fun u hu=>by simp at hu;subst hu;rfl,⟨_,rfl,by rw[hll];exact hlw,.inr ⟨S1.nx,cap,css,by rw[hll],by omega,by simp,?_,by rw[hcl,hll],fun i cs a' hi ha=>⟨(hE1 i cs a' hi ha).1,hF (hE1 i cs a' hi ha).2 hA2.same⟩⟩⟩,by simp only;omega⟩
   ·simp only[Rv];refine⟨⟨a.block,a.off,0⟩,by unfold zD;rw[if_pos rfl],?_⟩;have:=hblk.2;cases a
    simp_all
   ·simp only;rw[T.get_set,if_pos rfl]
end Go.Ev
namespace Go.Ev
def bB(k:Nat){α:Type}(E:St→List AV→α→Prop)(S:St)(v:AV)(l:List α):Prop:=
 (l= []∧(v= .nilsl∨v= .emp))∨∃b off cap o cs,v= .sl b off l.length cap o∧l.length≤cap∧b<S.nx∧cL S.h b=some cs∧∀ (i:Nat) (a:α),l[i]? =some a→∃e:List AV,e.length=k∧(∀ (j:Nat) (x:AV),e[j]? =some x→cs[off+i * k+j]? =some x)∧E S e a
theorem bB.same{k:Nat}{α:Type}{E:St→List AV→α→Prop}(hE:aE8 E){S S':St}{v:AV}{l:List α}(h:bB k E S v l)(hs:Same S S'):bB k E S' v l:=by
 rcases h with h | ⟨b,off,cap,o,cs,h1,hc,h2,h3,h4⟩
 ·exact .inl h
 ·refine .inr ⟨b,off,cap,o,cs,h1,hc,Ah h2 hs.1,by rw[uL hs h2];exact h3,fun i a hi=>?_⟩;obtain⟨e,e1,e2,e3⟩:=h4 i a hi;exact⟨e,e1,e2,hE e3 hs⟩
theorem flat_get{k:Nat}:∀ {css:List (List AV)} {i j:Nat} {cs:List AV} {x:AV},(∀ (i:Nat) (cs:List AV),css[i]? =some cs→cs.length=k)→css[i]? =some cs→cs[j]? =some x→css.flatten[i * k+j]? =some x
 | [],i,j,cs,x,_,hi,_=>by simp at hi
 | c::css,0,j,cs,x,_,hi,hj=>by
  simp at hi;subst hi;rw[Ey,Ao,List.flatten_cons,Av (Af.1 hj).1];exact hj
 | c::css,i+1,j,cs,x,hk,hi,hj=>by
  have hc:=hk 0 c rfl;rw[List.flatten_cons,Dj,Aw (by omega),hc,show i * k+k+j - k=i * k+j by omega];exact flat_get (fun i cs h=>hk (i+1) cs (by simpa using h)) (by simpa using hi) hj
theorem aLo.is{k:Nat}{α:Type}{E:St→List AV→α→Prop}{S:St}{avs:List AV}{l:List α}(h:aLo k E S avs l):∃v,avs= [v]∧bB k E S v l:=by
 obtain⟨v,rfl,_,h | ⟨b,cap,css,h1,h2,h3,h4,h5,h6⟩⟩:=h
 ·exact⟨v,rfl,.inl h⟩
 ·refine⟨v,rfl,.inr ⟨b,0,cap,false,css.flatten,h1,h2,h3,?_,fun i a hi=>?_⟩⟩
  ·unfold cL;rw[h4];rfl
  ·have hil:i<css.length:=by have:=(Af.1 hi).1;omega
   obtain⟨e1,e2⟩:=h6 i css[i] a (Ab hil) hi;refine⟨css[i],e1,fun j x hj=>?_,e2⟩;rw[Ao];exact flat_get (fun i' cs' hi'=>(h6 i' cs' (l[i']'(by have:=(Af.1 hi').1;omega)) hi' (Ab _)).1) (Ab hil) hj
section
variable {k:Nat}{α:Type}{E:St→List AV→α→Prop}{S:St}{v:AV}{l:List α}
theorem bB.len(h:bB k E S v l):lH v=some (.int .i64 ((l.length:Nat):Int)):=by
 rcases h with⟨rfl,rfl | rfl⟩ | ⟨b,off,cap,o,cs,rfl,_⟩<;>rfl
def aLV(k:Nat)(v:AV)(i:Nat):AV:=
 match v with
 | .sl b off _ _ _=>.ptr b (off+i * k)
 | _=>.undef
theorem bB.iaddr(h:bB k E S v l){i:Nat}(hi:i<l.length):eS (.slice k) v i=some (aLV k v i):=by
 rcases h with⟨rfl,_⟩ | ⟨b,off,cap,o,cs,rfl,_⟩
 ·simp at hi
 ·simp only[eS,aLV];have:Nat.blt i l.length=true:=Aj hi;rw[this,aL]
theorem bB.get(h:bB k E S v l){i:Nat}{a:α}(hi:l[i]? =some a):∃ (e:List AV) (b p:Nat),aLV k v i= .ptr b p∧b<S.nx∧e.length=k∧E S e a∧∃cs,cL S.h b=some cs∧∀ (j:Nat) (x:AV),e[j]? =some x→cs[p+j]? =some x:=by
 rcases h with⟨rfl,_⟩ | ⟨b,off,cap,o,cs,rfl,hc,hb,hcs,hel⟩
 ·simp at hi
 ·obtain⟨e,e1,e2,e3⟩:=hel i a hi;exact⟨e,b,off+i * k,rfl,hb,e1,e3,cs,hcs,e2⟩
end
end Go.Ev
