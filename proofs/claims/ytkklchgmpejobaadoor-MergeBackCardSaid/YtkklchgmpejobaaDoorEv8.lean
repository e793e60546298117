import Derived.Test.YtkklchgmpejobaaDoorEv7
import Derived.ChangeSlices
import Derived.ChangeArms
import Derived.DataReads
namespace Go.Ev
def uP(c d:eS):Prop:=∀f args S r,c f args S=some r→d f args S=some r
structure Le(a b:Evs):Prop where
 code:∀c A S r,a.code c A S=some r→b.code c A S=some r
 call:uP a.call b.call
theorem dO{α β:Type}{x y:Option α}{f g:α→Option β}{b:β}(h:aW x f=some b)(hx:∀a,x=some a→y=some a)(hf:∀a,f a=some b→g a=some b):aW y g=some b:=by
 obtain⟨a,h1,h2⟩:=aH h;rw[hx a h1];exact hf a h2
theorem aKm{c d:eS}(h:uP c d){v:AV}{tbl:List (Nat×Nat×Option (Bool×Nat))}{args:List AV}{S:St}{r:AV×St}(hv:aFe v tbl args c S=some r):aFe v tbl args d S=some r:=by
 unfold aFe at hv ⊢;split at hv
 ·refine dO hv (fun _ h=>h) fun a ha=>?_;unfold aHW at ha ⊢;split at ha
  ·exact h _ _ _ _ ha
  ·unfold aE8 at ha ⊢;split at ha
   ·exact dO ha (fun _ h=>h) fun _ hb=>h _ _ _ _ hb
   ·cases ha
 ·cases hv
theorem aGc{c d:eS}(h:uP c d){x:XOp}{F:Fr}{S:St}{r:AV×St}(hv:zN x c F S=some r):zN x d F S=some r:=by
 cases x with
 | call f args=>exact h _ _ _ _ hv
 | inv tbl recv args=>exact aKm h hv
 | _=>exact hv
theorem aJr{c d:eS}(h:uP c d){o:AO}{F:Fr}{S:St}{r:Fr×St}(hv:aCT o c F S=some r):aCT o d F S=some r:=by
 unfold aCT at hv ⊢;rw[cF] at hv ⊢;split at hv
 ·rename_i hw;rw[if_pos hw];cases ho:o.op with
  | q q=>rw[ho] at hv;exact hv
  | a a=>rw[ho] at hv;exact hv
  | x x=>
   rw[ho] at hv;exact dO (show aW (zN x c F S) _=some r from hv) (fun _ hx=>aGc h hx) fun _ hb=>hb
 ·rename_i hw;rw[if_neg hw];exact hv
theorem yP{c d:eS}(h:uP c d):∀ {l:List AO} {F:Fr} {S:St} {r:Fr×St},uT l c F S=some r→uT l d F S=some r
 | [],F,S,r,hv=>hv
 | o::l,F,S,r,hv=>dO (show aW (aCT o c F S) (fun r=>uT l c r.1 r.2)=some r from hv) (fun _ hx=>aJr h hx) fun _ hb=>yP h hb
theorem aLt{c d:eS}(h:uP c d){o:AO}{i base:Nat}{D:DS}{r:DS}(hv:qN o i base c D=some r):qN o i base d D=some r:=by
 unfold qN at hv ⊢;rw[cF] at hv ⊢;split at hv
 ·rename_i hw;rw[if_pos hw];cases ho:o.op with
  | q q=>rw[ho] at hv;exact hv
  | a a=>rw[ho] at hv;exact hv
  | x x=>
   rw[ho] at hv;obtain⟨h1,h2⟩:=bP (show bL (iH D.hs o.mask) _ none=some r from hv);show bL (iH D.hs o.mask) _ none=some r;rw[h1,aL];exact dO h2 (fun _ hx=>aGc h hx) fun _ hb=>hb
 ·rename_i hw;rw[if_neg hw];exact hv
theorem tA{c d:eS}(h:uP c d):∀ {l:List AO} {i base:Nat} {D r:DS},vA l i base c D=some r→vA l i base d D=some r
 | [],_,_,_,_,hv=>hv
 | o::l,i,base,D,r,hv=>dO (show aW (qN o i base c D) (fun D'=>vA l (i+1) base c D')=some r from hv) (fun _ hx=>aLt h hx) fun _ hb=>tA h hb
theorem aEK{c d:eS}(h:uP c d){l:List AO}{F:Fr}{S:St}{r:Fr×St}(hv:xC l c F S=some r):xC l d F S=some r:=
 dO (show aW _ _=some r from hv) (fun _ hx=>tA h hx) fun _ hb=>hb
theorem aFY{a b:Evs}(h:Le a b){c:AC}{A:bR}{S:St}{r:Out×bR×St}(hv:aH1 c a A S=some r):aH1 c b A S=some r:=by
 cases c with
 | skip=>exact hv
 | seq x y=>
  refine dO (show aW (a.code x A S) (tB y a)=some r from hv) (fun _ hx=>h.code _ _ _ _ hx) fun q hq=>?_;unfold tB at hq ⊢;split at hq
  ·exact h.code _ _ _ _ hq
  ·exact hq
 | cond x y z=>
  have hv:aBG (x.val A.F) y z a A S=some r:=hv;show aBG (x.val A.F) y z b A S=some r;unfold aBG at hv ⊢;split at hv
  ·exact h.code _ _ _ _ hv
  ·cases hv
 | block id x=>exact dO (show aW (a.code x A S) (rK id)=some r from hv) (fun _ hx=>h.code _ _ _ _ hx) fun _ hq=>hq
 | loop x=>
  refine dO (show aW (a.code x A S) (tB (.loop x) a)=some r from hv) (fun _ hx=>h.code _ _ _ _ hx) fun q hq=>?_;unfold tB at hq ⊢;split at hq
  ·exact h.code _ _ _ _ hq
  ·exact hq
 | exit id=>exact hv
 | ret=>exact hv
 | reg ops=>exact dO (show aW (uT ops a.call A.F S) _=some r from hv) (fun _ hx=>yP h.call hx) fun _ hq=>hq
 | drw ops=>exact dO (show aW (xC ops a.call A.F S) _=some r from hv) (fun _ hx=>aEK h.call hx) fun _ hq=>hq
 | rng f ps as bd=>
  have hv:aNt f ps as bd a A S=some r:=hv;show aNt f ps as bd b A S=some r;unfold aNt at hv ⊢;cases hi:A.inr with
  | true=>rw[hi,aL] at hv;cases hv
  | false=>
   rw[hi,aR] at hv;rw[aR];obtain⟨h1,h2⟩:=bP hv;rw[h1,aL];refine dO h2 (fun _ hx=>h.call _ _ _ _ hx) fun q hq=>dO hq (fun _ hx=>hx) fun bl hbl=>?_;unfold aAN at hbl ⊢;split at hbl
   ·split at hbl
    ·cases hbl
    ·exact dO hbl (fun _ hx=>hx) fun _ hc=>h.code _ _ _ _ hc
   ·cases hbl
 | dfr ops f args=>exact hv
theorem aGY{a b:Evs}(h:Le a b){bl:AB}{l:Nat}{args:List AV}{S:St}{r:AV×St}(hv:yI bl l args a S=some r):yI bl l args b S=some r:=by
 unfold yI at hv ⊢;split at hv
 ·refine dO hv (fun _ hx=>hx) fun F hF=>dO hF (fun _ hx=>h.code _ _ _ _ hx) fun q hq=>?_;unfold aB7 at hq ⊢;split at hq
  ·refine dO hq (fun _ hx=>hx) fun bl hbl=>?_;unfold qQ at hbl ⊢;split at hbl
   ·exact dO (show aW (a.code _ _ _) _=some r from hbl) (fun _ hx=>h.code _ _ _ _ hx) fun _ hq=>hq
   ·cases hbl
  ·cases hq
 ·cases hv
theorem aF7{fns:T dB}{a b:Evs}(h:Le a b):uP (vH fns a) (vH fns b):=by
 intro f args S r hv;unfold vH at hv ⊢;split at hv
 ·refine dO hv (fun _ hx=>hx) fun fn hfn=>?_;unfold vD at hfn ⊢;obtain⟨h1,h2⟩:=bP hfn;rw[h1,aL];exact dO h2 (fun _ hx=>h.code _ _ _ _ hx) fun _ hq=>hq
 ·exact dO hv (fun _ hx=>hx) fun bl hbl=>aGY h hbl
 ·cases hv
theorem tT(fns:T dB):∀n,Le (ev fns n) (ev fns (n+1))
 | 0=>⟨fun c A S r (h:none=some r)=>(by cases h),fun f args S r (h:none=some r)=>(by cases h)⟩
 | n+1=>⟨fun _ _ _ _ h=>aFY (tT fns n) h,aF7 (tT fns n)⟩
theorem jI(fns:T dB){n m:Nat}(h:n≤m):Le (ev fns n) (ev fns m):=by
 induction h with
 | refl=>exact⟨fun _ _ _ _ h=>h,fun _ _ _ _ h=>h⟩
 | step _ ih=>exact⟨fun c A S r h=>(tT fns _).code _ _ _ _ (ih.code _ _ _ _ h),fun f args S r h=>(tT fns _).call _ _ _ _ (ih.call _ _ _ _ h)⟩
end Go.Ev
namespace Go.Ev
abbrev oq(d:Nat)(q:zM):AO:=⟨some d,.q q,none,0⟩
abbrev om(d m:Nat)(q:zM):AO:=⟨some d,.q q,none,m⟩
abbrev og(d s:Nat)(b:Bool)(m:Nat)(q:zM):AO:=⟨some d,.q q,some (s,b),m⟩
abbrev oc(d f:Nat)(l:List cK)(m:Nat):AO:=⟨some d,.x (.call (.c (.fn f [] [])) l),none,m⟩
abbrev mt(d i:Nat):AO:=⟨some d,.q (.mv (.t i)),none,0⟩
abbrev ci(n:Int):cK:=.c (.int .i64 n)
abbrev bi(o:BinOp)(x y:cK):zM:=.bin o (.p .int) x y
abbrev ld(i:Nat):zM:=.ld false 1 (.t i)
abbrev Zs(n x v m:Nat):AO:=⟨none,.x (.st n (.t x) (.t v)),none,m⟩
abbrev Zf(d o x:Nat):AO:=oq d (.faddr o (.t x))
abbrev Zg(d m o x:Nat):AO:=om d m (.faddr o (.t x))
abbrev Zi(d k x y:Nat):AO:=oq d (.iaddr (.slice k) (.t x) (.t y))
abbrev Zj(d m k x y:Nat):AO:=om d m (.iaddr (.slice k) (.t x) (.t y))
abbrev Zl(d x:Nat):AO:=oq d (ld x)
abbrev Zm(d m x:Nat):AO:=om d m (ld x)
abbrev Zc(d:Nat)(n:Int):AO:=oq d (.mv (ci n))
abbrev Zn(d x:Nat):AO:=oq d (.lenSl (.t x))
abbrev Za(d x:Nat)(n:Int):AO:=oq d (bi .add (.t x) (ci n))
abbrev Zt(d x y:Nat):AO:=oq d (bi .lss (.t x) (.t y))
abbrev Ze(d x i:Nat):AO:=oq d (.extract (.t x) i)
abbrev Zd(d n x:Nat):AO:=oq d (.ld true n (.t x))
abbrev Zp(d c y:Nat):AO:=oq d (.pick (.t c) (.c (.bool true)) (.t y))
abbrev Zx(d s:Nat)(b:Bool)(m o x:Nat):AO:=og d s b m (.faddr o (.t x))
abbrev Zy(d s:Nat)(b:Bool)(m x:Nat):AO:=og d s b m (ld x)
abbrev Zu(d s:Nat)(b:Bool)(m x:Nat):AO:=og d s b m (.lenSl (.t x))
abbrev Zb(d k x:Nat):AO:=⟨some d,.a (.box k (.t x)),none,0⟩
variable {fns:T dB}
def mA(fns:T dB)(c:AC)(A:bR)(S:St)(Q:Out→bR→St→Prop):Prop:=∃n o A' S',(ev fns n).code c A S=some (o,A',S')∧Q o A' S'
def fP(fns:T dB)(f:AV)(args:List AV)(S:St)(Q:AV→St→Prop):Prop:=∃n v S',(ev fns n).call f args S=some (v,S')∧Q v S'
def uG(fns:T dB)(ops:List AO)(F:Fr)(S:St)(Q:Fr→St→Prop):Prop:=∃n F' S',uT ops (ev fns n).call F S=some (F',S')∧Q F' S'
theorem bF{c:AC}{A:bR}{S:St}{Q R:Out→bR→St→Prop}(h:mA fns c A S Q)(hq:∀o A S,Q o A S→R o A S):mA fns c A S R:=by
 obtain⟨n,o,A',S',h1,h2⟩:=h;exact⟨n,o,A',S',h1,hq _ _ _ h2⟩
theorem aN{f:AV}{args:List AV}{S:St}{Q R:AV→St→Prop}(h:fP fns f args S Q)(hq:∀v S,Q v S→R v S):fP fns f args S R:=by
 obtain⟨n,v,S',h1,h2⟩:=h;exact⟨n,v,S',h1,hq _ _ h2⟩
theorem aGP{ops:List AO}{F:Fr}{S:St}{Q R:Fr→St→Prop}(h:uG fns ops F S Q)(hq:∀F S,Q F S→R F S):uG fns ops F S R:=by
 obtain⟨n,F',S',h1,h2⟩:=h;exact⟨n,F',S',h1,hq _ _ h2⟩
theorem aM{A:bR}{S:St}{Q:Out→bR→St→Prop}(h:Q .normal A S):mA fns .skip A S Q:=⟨1,_,_,_,rfl,h⟩
theorem bN{id:Nat}{A:bR}{S:St}{Q:Out→bR→St→Prop}(h:Q (.exit id) A S):mA fns (.exit id) A S Q:=⟨1,_,_,_,rfl,h⟩
theorem aU{A:bR}{S:St}{Q:Out→bR→St→Prop}(h:Q .ret A S):mA fns .ret A S Q:=⟨1,_,_,_,rfl,h⟩
def aCX(fns:T dB)(y:AC)(Q:Out→bR→St→Prop):Out→bR→St→Prop
 | .normal,A,S=>mA fns y A S Q
 | o,A,S=>Q o A S
theorem aC{x y:AC}{A:bR}{S:St}{Q:Out→bR→St→Prop}(h:mA fns x A S (aCX fns y Q)):mA fns (.seq x y) A S Q:=by
 obtain⟨n,o,A1,S1,h1,h2⟩:=h;cases o with
 | normal=>
  obtain⟨m,o,A2,S2,h3,h4⟩:=h2;refine⟨max n m+1,o,A2,S2,?_,h4⟩;show aW ((ev fns (max n m)).code x A S) (tB y (ev fns (max n m)))=_;rw[(jI fns (Ez n m)).code _ _ _ _ h1,aJ];exact(jI fns (Ex n m)).code _ _ _ _ h3
 | ret=>
  refine⟨n+1,.ret,A1,S1,?_,h2⟩;show aW ((ev fns n).code x A S) (tB y (ev fns n))=_;rw[h1];rfl
 | exit i=>
  refine⟨n+1,.exit i,A1,S1,?_,h2⟩;show aW ((ev fns n).code x A S) (tB y (ev fns n))=_;rw[h1];rfl
theorem aLa{c:cK}{x y:AC}{A:bR}{S:St}{Q:Out→bR→St→Prop}{t:Bool}(hc:c.val A.F= .bool t)(h:mA fns (bL t x y) A S Q):mA fns (.cond c x y) A S Q:=by
 obtain⟨n,o,A1,S1,h1,h2⟩:=h;refine⟨n+1,o,A1,S1,?_,h2⟩;show aBG (c.val A.F) x y (ev fns n) A S=_;rw[hc];exact h1
theorem aHP{c:cK}{x y:AC}{A:bR}{S:St}{Q:Out→bR→St→Prop}{t:Bool}(hc:c.val A.F= .bool t)(h1:t=true→mA fns x A S Q)(h2:t=false→mA fns y A S Q):mA fns (.cond c x y) A S Q:=by
 refine aLa hc ?_;cases t
 ·exact h2 rfl
 ·exact h1 rfl
def aAG(id:Nat)(Q:Out→bR→St→Prop):Out→bR→St→Prop
 | .exit i,A,S=>if i=id then Q .normal A S else Q (.exit i) A S
 | o,A,S=>Q o A S
theorem aP{id:Nat}{c:AC}{A:bR}{S:St}{Q:Out→bR→St→Prop}(h:mA fns c A S (aAG id Q)):mA fns (.block id c) A S Q:=by
 obtain⟨n,o,A1,S1,h1,h2⟩:=h;cases o with
 | normal=>exact⟨n+1,.normal,A1,S1,by show aW ((ev fns n).code c A S) (rK id)=_;rw[h1];rfl,h2⟩
 | ret=>exact⟨n+1,.ret,A1,S1,by show aW ((ev fns n).code c A S) (rK id)=_;rw[h1];rfl,h2⟩
 | exit i=>
  by_cases hi:i=id
  ·subst hi;have h2:Q .normal A1 S1:=by simpa [aAG] using h2
   exact⟨n+1,.normal,A1,S1,by show aW ((ev fns n).code c A S) (rK i)=_;rw[h1];simp [aJ,rK,cF,Ax],h2⟩
  ·have h2:Q (.exit i) A1 S1:=by simpa [aAG,hi] using h2
   exact⟨n+1,.exit i,A1,S1,by show aW ((ev fns n).code c A S) (rK id)=_;rw[h1];simp [aJ,rK,cF,Ax,hi],h2⟩
def aE4(I:Nat→bR→St→Prop)(k:Nat)(Q:Out→bR→St→Prop):Out→bR→St→Prop
 | .normal,A,S=>∃k',k'<k∧I k' A S
 | o,A,S=>Q o A S
theorem cB{c:AC}{Q:Out→bR→St→Prop}(I:Nat→bR→St→Prop)(h:∀k A S,I k A S→mA fns c A S (aE4 I k Q)):∀k A S,I k A S→mA fns (.loop c) A S Q:=by
 intro k
 induction k using Nat.strongRecOn with
 | _ k ih=>
  intro A S hI;obtain⟨n,o,A1,S1,h1,h2⟩:=h k A S hI;cases o with
  | normal=>
   obtain⟨k',hk,hI'⟩:=h2;obtain⟨m,o,A2,S2,h3,h4⟩:=ih k' hk A1 S1 hI';refine⟨max n m+1,o,A2,S2,?_,h4⟩;show aW ((ev fns (max n m)).code c A S) (tB (.loop c) (ev fns (max n m)))=_;rw[(jI fns (Ez n m)).code _ _ _ _ h1,aJ];exact(jI fns (Ex n m)).code _ _ _ _ h3
  | ret=>
   refine⟨n+1,.ret,A1,S1,?_,h2⟩;show aW ((ev fns n).code c A S) (tB (.loop c) (ev fns n))=_;rw[h1];rfl
  | exit i=>
   refine⟨n+1,.exit i,A1,S1,?_,h2⟩;show aW ((ev fns n).code c A S) (tB (.loop c) (ev fns n))=_;rw[h1];rfl
theorem aE{ops:List AO}{A:bR}{S:St}{Q:Out→bR→St→Prop}(h:uG fns ops A.F S fun F' S'=>Q .normal ⟨F',A.inr⟩ S'):mA fns (.reg ops) A S Q:=by
 obtain⟨n,F',S',h1,h2⟩:=h;refine⟨n+1,.normal,⟨F',A.inr⟩,S',?_,h2⟩;show aW (uT ops (ev fns n).call A.F S) _=_;rw[h1];rfl
def aPt(res:List RV)(Q:AV→St→Prop):Out→bR→St→Prop
 | .exit _,_,_=>False
 | _,A,S=>∃vs,results res A.F S.h=some vs∧Q (oneOf vs) S
theorem cC{id nt:Nat}{res:List RV}{body:AC}{first cap args:List AV}{S:St}{Q:AV→St→Prop}(hfn:fns.get id=some ⟨nt,res,body⟩)(hn:(first++(args++cap)).length≤nt)
  (h:mA fns body ⟨rH (first++(args++cap)) 0 .e,false⟩ S (aPt res Q)):fP fns (.fn id first cap) args S Q:=by
 obtain⟨n,o,A',S',h1,h2⟩:=h;have key:∀ (_:∃vs,results res A'.F S'.h=some vs∧Q (oneOf vs) S') (_:aE7 ⟨nt,res,body⟩ (o,A',S')=aW (results res A'.F S'.h) fun vs=>some (oneOf vs,S')),fP fns (.fn id first cap) args S Q:=by
  rintro⟨vs,h3,h4⟩ h5;refine⟨n+1,oneOf vs,S',?_,h4⟩;show aW (fns.get id) (fun fn=>vD fn (vW first (vW args cap)) (ev fns n) S)=_;rw[hfn,aJ];unfold vD;rw[fT,fT,dR,Aj hn,aL,h1,aJ,h5,h3];rfl
 cases o with
 | normal=>exact key h2 rfl
 | ret=>exact key h2 rfl
 | exit i=>exact h2.elim
theorem aAw{F:Fr}{S:St}{Q:Fr→St→Prop}:uG fns [] F S Q↔Q F S:=
 ⟨fun⟨_,_,_,h1,h2⟩=>by cases h1;exact h2,fun h=>⟨0,F,S,rfl,h⟩⟩
theorem aCd{o:AO}{l:List AO}{F F1:Fr}{S S1:St}{Q:Fr→St→Prop}(h:∀call,aCT o call F S=some (F1,S1))(hl:uG fns l F1 S1 Q):uG fns (o::l) F S Q:=by
 obtain⟨n,F',S',h1,h2⟩:=hl;refine⟨n,F',S',?_,h2⟩;rw[gD,h,aJ];exact h1
theorem aLR{d:Option Nat}{q:zM}{m:Nat}{l:List AO}{F:Fr}{S:St}{Q:Fr→St→Prop}{v:AV}(h:hJ q F S.h=some v)(hl:uG fns l (cI d F v) S Q):uG fns (⟨d,.q q,none,m⟩::l) F S Q:=
 aCd (fun call=>by show aW (hJ q F S.h) _=_;rw[h];rfl) hl
theorem aPZ{d:Option Nat}{a:vE}{m:Nat}{l:List AO}{F:Fr}{S:St}{Q:Fr→St→Prop}{v:AV}{bl:AB}(h:tE a F S.nx=some (v,bl))(hl:uG fns l (cI d F v) ⟨S.h.set S.nx (some bl),S.nx+1⟩ Q):uG fns (⟨d,.a a,none,m⟩::l) F S Q:=
 aCd (fun call=>by show aW (tE a F S.nx) _=_;rw[h];rfl) hl
theorem eZ{d:Option Nat}{x:XOp}{m:Nat}{l:List AO}{F:Fr}{S S1:St}{Q:Fr→St→Prop}{v:AV}(h:∀call,zN x call F S=some (v,S1))(hl:uG fns l (cI d F v) S1 Q):uG fns (⟨d,.x x,none,m⟩::l) F S Q:=
 aCd (fun call=>by show aW (zN x call F S) _=_;rw[h];rfl) hl
theorem bB{d:Option Nat}{f:cK}{args:List cK}{m:Nat}{l:List AO}{F:Fr}{S:St}{Q:Fr→St→Prop}(h:fP fns (f.val F) (dC args F) S fun v S1=>uG fns l (cI d F v) S1 Q):uG fns (⟨d,.x (.call f args),none,m⟩::l) F S Q:=by
 obtain⟨n,v,S1,h1,k,F',S',h2,h3⟩:=h;refine⟨max n k,F',S',?_,h3⟩;rw[gD];have:aCT ⟨d,.x (.call f args),none,m⟩ (ev fns (max n k)).call F S=some (cI d F v,S1):=by
  show aW ((ev fns (max n k)).call (f.val F) (dC args F) S) _=_;rw[(jI fns (Ez n k)).call _ _ _ _ h1];rfl
 rw[this,aJ];exact yP (jI fns (Ex n k)).call h2
theorem fN(i:Nat)(F:Fr):(cK.t i).val F=aD i F:=rfl
theorem aEr(v:AV)(F:Fr):(cK.c v).val F=v:=rfl
theorem dY(F:Fr)(v:AV):cI none F v=F:=rfl
theorem bQ(i j:Nat)(F:Fr)(v:AV):aD i (cI (some j) F v)=if i=j then v else aD i F:=by
 show aD i (F.set j (some v))=_;unfold aD;rw[T.get_set];split<;>rfl
end Go.Ev
namespace Go.Ev
variable {fns:T dB}
theorem aNy{l:Nat}{args:List AV}{S:St}{Q:AV→St→Prop}{pend:Option Out}{fr F:Fr}{ps:List Nat}{as bd:AC}(hl:S.h.get l=some (.loop .ready pend fr ps as bd))(hF:mL ps args fr=some F)
  (h:mA fns as ⟨F,true⟩ S fun o A1 S1=>o= .normal∧∃pend1 fr1 ps1 as1,S1.h.get l=some (.loop .ready pend1 fr1 ps1 as1 bd)∧mA fns bd A1 ⟨S1.h.set l (some (.loop .busy pend1 fr1 ps1 as1 bd)),S1.nx⟩ fun o A2 S2=>∃pend2 fr2 ps2 as2 bd2,S2.h.get l=some (.loop .busy pend2 fr2 ps2 as2 bd2)∧
   ((o= .normal∧Q (.bool true) ⟨S2.h.set l (some (.loop .ready none fr2 ps2 as2 bd2)),S2.nx⟩)∨(o≠ .normal∧Q (.bool false) ⟨S2.h.set l (some (.loop .done (some o) fr2 ps2 as2 bd2)),S2.nx⟩))):fP fns (.yld l) args S Q:=by
 obtain⟨n,o,A1,S1,h1,rfl,pend1,fr1,ps1,as1,h2,m,o2,A2,S2,h3,pend2,fr2,ps2,as2,bd2,h4,h5⟩:=h;have e1:=(jI fns (Ez n m)).code _ _ _ _ h1;have e3:=(jI fns (Ex n m)).code _ _ _ _ h3;have key:∀r,sR (.loop .busy pend2 fr2 ps2 as2 bd2) o2 l S2=some r→(ev fns (max n m+1)).call (.yld l) args S=some r:=fun r hr=>by
  show aW (S.h.get l) (fun bl=>yI bl l args (ev fns (max n m)) S)=_;rw[hl,aJ];show aW (mL ps args fr) (fun F=>aW ((ev fns (max n m)).code as ⟨F,true⟩ S) (aB7 l bd (ev fns (max n m))))=_;rw[hF,aJ,e1,aJ];show aW (S1.h.get l) (fun bl=>qQ bl l bd (ev fns (max n m)) A1 S1)=_;rw[h2,aJ];show aW ((ev fns (max n m)).code bd A1 ⟨S1.h.set l (some (.loop .busy pend1 fr1 ps1 as1 bd)),S1.nx⟩) (fun r=>aW (r.2.2.h.get l) fun bl=>sR bl r.1 l r.2.2)=_;rw[e3,aJ];show aW (S2.h.get l) (fun bl=>sR bl o2 l S2)=_;rw[h4,aJ];exact hr
 rcases h5 with⟨rfl,h5⟩ | ⟨hne,h5⟩
 ·exact⟨_,_,_,key _ rfl,h5⟩
 ·refine⟨_,_,_,key (.bool false,⟨S2.h.set l (some (.loop .done (some o2) fr2 ps2 as2 bd2)),S2.nx⟩) ?_,h5⟩;cases o2 with
  | normal=>exact absurd rfl hne
  | _=>rfl
theorem aNl{f:cK}{ps:List Nat}{as bd:AC}{A:bR}{S:St}{Q:Out→bR→St→Prop}{id:Nat}{first cap:List AV}(hi:A.inr=false)(hf:f.val A.F= .fn id first cap)
  (h:fP fns (.fn id first cap) [.yld S.nx] ⟨S.h.set S.nx (some (.loop .ready none A.F ps as bd)),S.nx+1⟩ fun _ S2=>∃st pend fr ps2 as2 bd2 c,S2.h.get S.nx=some (.loop st pend fr ps2 as2 bd2)∧st≠ .busy∧aMM pend=some c∧mA fns c A ⟨S2.h.set S.nx (some (.loop .exhausted pend fr ps2 as2 bd2)),S2.nx⟩ Q):mA fns (.rng f ps as bd) A S Q:=by
 obtain⟨n,v,S2,h1,st,pend,fr,ps2,as2,bd2,c,h2,hst,hc,m,o,A',S',h3,hq⟩:=h;refine⟨max n m+1,o,A',S',?_,hq⟩;show bL A.inr none (bL (aL6 (f.val A.F)) (aW ((ev fns (max n m)).call (f.val A.F) [.yld S.nx] ⟨S.h.set S.nx (some (.loop .ready none A.F ps as bd)),Nat.succ S.nx⟩) fun r=>aW (r.2.h.get S.nx) fun bl=>aAN bl S.nx A r.2 (ev fns (max n m))) none)=_;rw[hi,aR,hf,show aL6 (.fn id first cap)=true from rfl,aL,show Nat.succ S.nx=S.nx+1 from rfl,(jI fns (Ez n m)).call _ _ _ _ h1,aJ];show aW (S2.h.get S.nx) (fun bl=>aAN bl S.nx A S2 (ev fns (max n m)))=_;rw[h2,aJ];have e:=(jI fns (Ex n m)).code _ _ _ _ h3;cases st with
 | busy=>exact absurd rfl hst
 | _=>
  show aW (aMM pend) (fun c=>(ev fns (max n m)).code c A ⟨S2.h.set S.nx _,S2.nx⟩)=_;rw[hc,aJ];exact e
theorem aNk{tbl:List (Nat×Nat×Option (Bool×Nat))}{recv:cK}{args:List cK}{F:Fr}{t f:Nat}{v:AV}(hr:recv.val F= .iface t v)(hf:wE t tbl=some (f,none))(call:eS)(S:St):zN (.inv tbl recv args) call F S=zN (.call (.c (.fn f [v] [])) args) call F S:=by
 show aFe (recv.val F) tbl (dC args F) call S=call (.fn f [v] []) (dC args F) S;rw[hr];show aW (wE t tbl) (fun r=>aHW r v (dC args F) call S)=_;rw[hf,aJ];rfl
end Go.Ev
namespace Go.Ev
def Same(S S':St):Prop:=S.nx≤S'.nx∧∀b,b<S.nx→S'.h.get b=S.h.get b
theorem Same.refl(S:St):Same S S:=⟨Ag _,fun _ _=>rfl⟩
theorem Same.trans{S S' S'':St}(h:Same S S')(h':Same S' S''):Same S S'':=⟨Bb h.1 h'.1,fun b hb=>(h'.2 b (Af hb h.1)).trans (h.2 b hb)⟩
theorem Same.alloc(S:St)(bl:AB):Same S ⟨S.h.set S.nx (some bl),S.nx+1⟩:=⟨Nat.le_succ _,fun b hb=>by simp only;rw[T.get_set,if_neg (by omega)]⟩
theorem Same.put{S S':St}{b:Nat}(h:Same S S')(hb:S.nx≤b)(x:Option AB):Same S ⟨S'.h.set b x,S'.nx⟩:=⟨h.1,fun c hc=>by simp only;rw[T.get_set,if_neg (by omega)];exact h.2 c hc⟩
def cE(k:IntKind)(S:St)(v:AV)(l:List Int):Prop:=
 (l= []∧(v= .nilsl∨v= .emp))∨∃b off cap o cs,v= .sl b off l.length cap o∧l.length≤cap∧b<S.nx∧cM S.h b=some cs∧∀i x,l[i]? =some x→cs[off+i]? =some (.int k x)
theorem tV{S S':St}(h:Same S S'){b:Nat}(hb:b<S.nx):cM S'.h b=cM S.h b:=by unfold cM;rw[h.2 b hb]
theorem cE.same{k:IntKind}{S S':St}{v:AV}{l:List Int}(h:cE k S v l)(hs:Same S S'):cE k S' v l:=by
 rcases h with h | ⟨b,off,cap,o,cs,h1,hc,h2,h3,h4⟩
 ·exact .inl h
 ·exact .inr ⟨b,off,cap,o,cs,h1,hc,Af h2 hs.1,by rw[tV hs h2];exact h3,h4⟩
theorem cE.len{k:IntKind}{S:St}{v:AV}{l:List Int}(h:cE k S v l):kS v=some (.int .i64 (.ofNat l.length)):=by
 rcases h with⟨rfl,rfl | rfl⟩ | ⟨b,off,cap,o,cs,rfl,_⟩<;>rfl
def aBt(v:AV)(i:Nat):AV:=
 match v with
 | .sl b off _ _ _=>.ptr b (off+i * 1)
 | _=>.undef
theorem cE.iaddr{k:IntKind}{S:St}{v:AV}{l:List Int}(h:cE k S v l){i:Nat}(hi:i<l.length):eQ (.slice 1) v i=some (aBt v i):=by
 rcases h with⟨rfl,_⟩ | ⟨b,off,cap,o,cs,rfl,_⟩
 ·simp at hi
 ·simp only[eQ,aBt];have:Nat.blt i l.length=true:=Aj hi;rw[this,aL]
theorem cE.ld{k:IntKind}{S:St}{v:AV}{l:List Int}(h:cE k S v l){i:Nat}(hi:i<l.length):cW (aBt v i) false 1 S.h=some (.int k (l.getD i 0)):=by
 rcases h with⟨rfl,_⟩ | ⟨b,off,cap,o,cs,rfl,hc,hb,hcs,hel⟩
 ·simp at hi
 ·simp only[aBt,cW,oC,aR,lA,hcs,aJ,mP,Eb];rw[hel i l[i] (Ad hi)];simp [Ah,hi]
theorem aEO(e:oG)(k:IntKind)(a b:Int):eX .add e (.int k a) (.int k b)=some (.int k (k.wrap (a+b))):=by
 show cP .add k a k b=_;unfold cP;rw[show dP .add=false from rfl,aR,eG,aL];show some (AV.int k (aLl k a b))=_;rw[aFO]
theorem aER(e:oG)(k:IntKind)(a b:Int):eX .sub e (.int k a) (.int k b)=some (.int k (k.wrap (a - b))):=by
 show cP .sub k a k b=_;unfold cP;rw[show dP .sub=false from rfl,aR,eG,aL];show some (AV.int k (aD3 k a b))=_;rw[vY]
theorem aE3(e:oG)(k:IntKind)(a b:Int):eX .mul e (.int k a) (.int k b)=some (.int k (k.wrap (a * b))):=by
 show cP .mul k a k b=_;unfold cP;rw[show dP .mul=false from rfl,aR,eG,aL];show some (AV.int k (aF9 k a b))=_;rw[zW]
theorem aEL(e:oG)(k:IntKind)(a b:Int):eX .lss e (.int k a) (.int k b)=some (.bool (decide (a<b))):=by
 show cP .lss k a k b=_;unfold cP;rw[show dP .lss=false from rfl,aR,eG,aL];show some (AV.bool (bL (ile b a) false true))=_;rw[oH,qM];congr 2;rw[Cl];simp
theorem aFr(e:oG)(k:IntKind)(a b:Int):eX .leq e (.int k a) (.int k b)=some (.bool (decide (a≤b))):=by
 show cP .leq k a k b=_;unfold cP;rw[show dP .leq=false from rfl,aR,eG,aL];show some (AV.bool (ile a b))=_;rw[oH]
theorem aE0(e:oG)(k:IntKind)(a b:Int):eX .gtr e (.int k a) (.int k b)=some (.bool (decide (b<a))):=by
 show cP .gtr k a k b=_;unfold cP;rw[show dP .gtr=false from rfl,aR,eG,aL];show some (AV.bool (bL (ile a b) false true))=_;rw[oH,qM];congr 2;rw[Cl];simp
theorem aFs(e:oG)(k:IntKind)(a b:Int):eX .geq e (.int k a) (.int k b)=some (.bool (decide (b≤a))):=by
 show cP .geq k a k b=_;unfold cP;rw[show dP .geq=false from rfl,aR,eG,aL];show some (AV.bool (ile b a))=_;rw[oH]
theorem aB9(e:oG)(k:IntKind)(a b:Int):eX .eql e (.int k a) (.int k b)=some (.bool (decide (a=b))):=by
 show cP .eql k a k b=_;unfold cP;rw[show dP .eql=false from rfl,aR,eG,aL];show some (AV.bool (ieq a b))=_;rw[jO];congr 2
theorem aFc(e:oG)(k:IntKind)(a b:Int):eX .neq e (.int k a) (.int k b)=some (.bool (decide (a≠b))):=by
 show cP .neq k a k b=_;unfold cP;rw[show dP .neq=false from rfl,aR,eG,aL];show some (AV.bool (bL (ieq a b) false true))=_;rw[jO,qM];congr 2;rw[Cl];simp
section
variable (F:Fr)(h:T AB)
theorem aHm(x:cK):hJ (.mv x) F h=some (x.val F):=rfl
theorem aFp(op:BinOp)(e:oG)(x y:cK):hJ (.bin op e x y) F h=eX op e (x.val F) (y.val F):=rfl
theorem aFg(op:UnOp)(x:cK):hJ (.un op x) F h=unV op (x.val F):=rfl
theorem aBm(x:cK):hJ (.lenSl x) F h=kS (x.val F):=rfl
theorem sB(k:IxK)(x ix:cK):hJ (.iaddr k x ix) F h=aW (fA (ix.val F)) fun i=>eQ k (x.val F) i:=rfl
theorem aDt(agg:Bool)(n:Nat)(x:cK):hJ (.ld agg n x) F h=cW (x.val F) agg n h:=rfl
theorem aCx(k:aGr)(x:cK):hJ (.conv k x) F h=wG k (x.val F) h:=rfl
theorem vI(x:cK)(i:Nat):hJ (.extract x i) F h=lC (x.val F) i:=rfl
theorem aDC(c a b:cK):hJ (.pick c a b) F h=vL (c.val F) a b F:=rfl
theorem aEG(agg:Bool)(off n:Nat)(x:cK):hJ (.fld agg off n x) F h=aHt (x.val F) agg off n:=rfl
end
theorem aK(k:IntKind)(n:Nat):fA (.int k (n:Int))=some n:=rfl
theorem aCW(k j:IntKind)(n:Int)(h:T AB):wG (.int k) (.int j n) h=some (.int k (k.wrap n)):=by
 show some (AV.int k (aEe k n))=_;rw[sF]
end Go.Ev
namespace Go.Ev
variable {fns:T dB}
def jY{α:Type}(x:Option α)(Q:α→Prop):Prop:=∃a,x=some a∧Q a
theorem eF{α:Type}(a:α)(Q:α→Prop):jY (some a) Q=Q a:=propext ⟨fun⟨_,h1,h2⟩=>by cases h1;exact h2,fun h=>⟨a,rfl,h⟩⟩
theorem aHO{d:Option Nat}{q:zM}{m:Nat}{l:List AO}{F:Fr}{S:St}{Q:Fr→St→Prop}:uG fns (⟨d,.q q,none,m⟩::l) F S Q↔jY (hJ q F S.h) fun v=>uG fns l (cI d F v) S Q:=by
 constructor
 ·rintro⟨n,F',S',h1,h2⟩;rw[gD] at h1;obtain⟨r,h3,h4⟩:=aH h1;obtain⟨v,h5,h6⟩:=aH (show aW (hJ q F S.h) (fun v=>some (cI d F v,S))=some r from h3);cases h6;exact⟨v,h5,n,F',S',h4,h2⟩
 ·rintro⟨v,h1,h2⟩;exact aLR h1 h2
theorem aA9{d:Option Nat}{a:vE}{m:Nat}{l:List AO}{F:Fr}{S:St}{Q:Fr→St→Prop}:uG fns (⟨d,.a a,none,m⟩::l) F S Q↔jY (tE a F S.nx) fun r=>uG fns l (cI d F r.1) ⟨S.h.set S.nx (some r.2),S.nx+1⟩ Q:=by
 constructor
 ·rintro⟨n,F',S',h1,h2⟩;rw[gD] at h1;obtain⟨r,h3,h4⟩:=aH h1;obtain⟨v,h5,h6⟩:=aH (show aW (tE a F S.nx) (fun r=>some (cI d F r.1,(⟨S.h.set S.nx (some r.2),Nat.succ S.nx⟩:St)))=some r from h3);cases h6;exact⟨v,h5,n,F',S',h4,h2⟩
 ·rintro⟨⟨v,bl⟩,h1,h2⟩;exact aPZ h1 h2
def wZ(fns:T dB)(ops:List AO)(i base:Nat)(D:DS)(Q:DS→Prop):Prop:=∃n D',vA ops i base (ev fns n).call D=some D'∧Q D'
theorem wS{ops:List AO}{A:bR}{S:St}{Q:Out→bR→St→Prop}(h:wZ fns ops 0 S.nx ⟨A.F,⟨S.h,S.nx+ops.length⟩,[],[],[]⟩ fun D=>fH S.h D.hs.reverse D.ls=true∧Q .normal ⟨D.F,A.inr⟩ ⟨(cG (2 ^ ops.length - 1) D.ps D.S.h).2,D.S.nx⟩):mA fns (.drw ops) A S Q:=by
 obtain⟨n,D,h1,h2,h3⟩:=h;refine⟨n+1,.normal,⟨D.F,A.inr⟩,⟨(cG (2 ^ ops.length - 1) D.ps D.S.h).2,D.S.nx⟩,?_,h3⟩;show aW (aW (vA ops 0 S.nx (ev fns n).call ⟨A.F,⟨S.h,S.nx+iW ops⟩,[],[],[]⟩) fun D=>aAv S.h (iW ops) D) _=_;rw[dR,h1,aJ];unfold aAv;rw[h2,aL];rfl
theorem iA{i base:Nat}{D:DS}{Q:DS→Prop}:wZ fns [] i base D Q↔Q D:=
 ⟨fun⟨_,_,h1,h2⟩=>by cases h1;exact h2,fun h=>⟨0,D,rfl,h⟩⟩
theorem mI{d:Option Nat}{q:zM}{m i base:Nat}{l:List AO}{D:DS}{Q:DS→Prop}:wZ fns (⟨d,.q q,none,m⟩::l) i base D Q↔
  jY (hJ q D.F D.S.h) fun v=>wZ fns l (i+1) base ⟨cI d D.F v,D.S,D.ps,D.hs,bL (dE q) (⟨q,D.F,v,i,m⟩::D.ls) D.ls⟩ Q:=by
 constructor
 ·rintro⟨n,D',h1,h2⟩;obtain⟨r,h3,h4⟩:=aH (show aW (qN ⟨d,.q q,none,m⟩ i base (ev fns n).call D) (fun D'=>vA l (i+1) base (ev fns n).call D')=some D' from h1);obtain⟨v,h5,h6⟩:=aH (show aW (hJ q D.F D.S.h) (fun v=>some (⟨cI d D.F v,D.S,D.ps,D.hs,bL (dE q) (⟨q,D.F,v,i,m⟩::D.ls) D.ls⟩:DS))=some r from h3);cases h6;exact⟨v,h5,n,D',h4,h2⟩
 ·rintro⟨v,h1,n,D',h2,h3⟩;refine⟨n,D',?_,h3⟩;show aW (aW (hJ q D.F D.S.h) _) _=_;rw[h1];exact h2
theorem aLu{d:Option Nat}{a:vE}{m i base:Nat}{l:List AO}{D:DS}{Q:DS→Prop}:wZ fns (⟨d,.a a,none,m⟩::l) i base D Q↔
  jY (tE a D.F (base+i)) fun r=>wZ fns l (i+1) base ⟨cI d D.F r.1,D.S,⟨i,base+i,r.2⟩::D.ps,D.hs,D.ls⟩ Q:=by
 constructor
 ·rintro⟨n,D',h1,h2⟩;obtain⟨r,h3,h4⟩:=aH (show aW (qN ⟨d,.a a,none,m⟩ i base (ev fns n).call D) (fun D'=>vA l (i+1) base (ev fns n).call D')=some D' from h1);obtain⟨v,h5,h6⟩:=aH (show aW (tE a D.F (base+i)) (fun r=>some (⟨cI d D.F r.1,D.S,⟨i,base+i,r.2⟩::D.ps,D.hs,D.ls⟩:DS))=some r from h3);cases h6;exact⟨v,h5,n,D',h4,h2⟩
 ·rintro⟨r,h1,n,D',h2,h3⟩;refine⟨n,D',?_,h3⟩;show aW (aW (tE a D.F (base+i)) _) _=_;rw[h1];exact h2
theorem jH{d:Option Nat}{x:XOp}{m i base:Nat}{l:List AO}{D:DS}{Q:DS→Prop}{v:AV}{S1:St}(hl:iH D.hs m=true)(h:∀call,zN x call D.F ⟨(cG m D.ps D.S.h).2,D.S.nx⟩=some (v,S1))
  (hq:wZ fns l (i+1) base ⟨cI d D.F v,S1,(cG m D.ps D.S.h).1,(i,m,S1.h)::D.hs,D.ls⟩ Q):wZ fns (⟨d,.x x,none,m⟩::l) i base D Q:=by
 obtain⟨n,D',h2,h3⟩:=hq;refine⟨n,D',?_,h3⟩;show aW (bL (iH D.hs m) (aW (zN x (ev fns n).call D.F ⟨(cG m D.ps D.S.h).2,D.S.nx⟩) _) none) _=_;rw[hl,aL,h];exact h2
theorem aFI{d:Option Nat}{f:cK}{args:List cK}{m i base:Nat}{l:List AO}{D:DS}{Q:DS→Prop}(hl:iH D.hs m=true)
  (h:fP fns (f.val D.F) (dC args D.F) ⟨(cG m D.ps D.S.h).2,D.S.nx⟩ fun v S1=>wZ fns l (i+1) base ⟨cI d D.F v,S1,(cG m D.ps D.S.h).1,(i,m,S1.h)::D.hs,D.ls⟩ Q):wZ fns (⟨d,.x (.call f args),none,m⟩::l) i base D Q:=by
 obtain⟨n,v,S1,h1,k,D',h2,h3⟩:=h;refine⟨max n k,D',?_,h3⟩;show aW (bL (iH D.hs m) (aW ((ev fns (max n k)).call (f.val D.F) (dC args D.F) ⟨(cG m D.ps D.S.h).2,D.S.nx⟩) _) none) _=_;rw[hl,aL,(jI fns (Ez n k)).call _ _ _ _ h1];exact tA (jI fns (Ex n k)).call h2
theorem fV(k:IntKind)(a:Int):cL (.int k a) (.int k a)=true:=by simp [cL,cF,eG,jO]
theorem aBj(a:Bool):cL (.bool a) (.bool a)=true:=by simp [cL,tR]
theorem aDF(a b:Nat):cL (.ptr a b) (.ptr a b)=true:=by simp [cL,cF,Ax]
theorem uD(a b c d:Nat)(o:Bool):cL (.sl a b c d o) (.sl a b c d o)=true:=by simp [cL,Ax,tR]
theorem zE:cL .nilsl .nilsl=true:=rfl
end Go.Ev
namespace Go.Ev
def zS(S:St):Prop:=∀b,S.nx≤b→S.h.get b=none
def Frs(S S':St):Prop:=(zS S→zS S')∧S.nx≤S'.nx
theorem aJJ(S:St)(x:Option AB):Frs S ⟨S.h.set S.nx x,S.nx+1⟩:=
 ⟨fun h c hc=>by simp only at hc ⊢;rw[T.get_set,if_neg (by omega)];exact h c (by omega),Nat.le_succ _⟩
end Go.Ev
namespace Go.Ev
variable {P:Program}{σ:Env}{S:St}{w:World}
def aFA:List (Nat×Nat×IntKind×Int)→AC
 | []=>.seq (.reg [⟨some 0,.q (.mv (.c (.bool true))),none,0⟩]) .ret
 | (g,j,k,z)::l=>.seq (.reg [⟨some 1,.q (.ld false 1 (.c (.ptr g j))),none,0⟩,⟨some 2,.q (.bin .eql (.p .int) (.t 1) (.c (.int k z))),none,0⟩]) (.seq (.cond (.t 2) .skip (.exit 0)) (aFA l))
def aA5(l:List (Nat×Nat×IntKind×Int)):dB:=⟨0,[.t 0],aFA l⟩
theorem aIY{fns:T dB}{Q:Out→bR→St→Prop}(hQ:∀A,aD 0 A.F= .bool true→Q .ret A S):∀ {l:List (Nat×Nat×IntKind×Int)} {A:bR},(∀c∈l,lA S.h c.1 c.2.1=some (.int c.2.2.1 c.2.2.2))→mA fns (aFA l) A S Q
 | [],A,_=>by
  refine aC (aE ?_);rw[aHO];exact⟨.bool true,rfl,(aAw).2 (aU (hQ _ (by rw[bQ,if_pos rfl])))⟩
 | (g,j,k,z)::l,A,h=>by
  have h1:=h (g,j,k,z) (by simp);simp only at h1;refine aC (aE (aLR (v:=.int k z) h1 (aLR (v:=.bool true) ?_ (aAw.2 ?_))))
  ·show eX .eql (.p .int) (aD 1 (cI (some 1) A.F (.int k z))) (.int k z)=_;rw[bQ,if_pos rfl,aB9,Ac rfl]
  refine aC (aHP (t:=true) (by show aD 2 _=_;rw[bQ,if_pos rfl]) (fun _=>aM ?_) (fun h=>by cases h));exact aIY hQ fun c hc=>h c (by simp [hc])
theorem aKv{fns:T dB}{id:Nat}{l:List (Nat×Nat×IntKind×Int)}(hfn:fns.get id=some (aA5 l))(h:∀c∈l,lA S.h c.1 c.2.1=some (.int c.2.2.1 c.2.2.2)):fP fns (.fn id [] []) [] S fun r S'=>r= .bool true∧S'=S:=by
 refine cC hfn (by simp) (aIY (fun A hA=>?_) h);exact⟨[aD 0 A.F],rfl,by rw[hA];rfl,rfl⟩
theorem aFE{v:AV}{k:IntKind}{z:Int}(h:eX .eql (.p .int) v (.int k z)=some (.bool true)):v= .int k z:=by
 cases v with
 | int k' z'=>
  have h':cP .eql k' z' k z=some (.bool true):=h;unfold cP at h';rw[show dP .eql=false from rfl,aR] at h';obtain⟨hk,h'⟩:=bP h';have hz:some (AV.bool (ieq z' z))=some (.bool true):=h';simp only[Ak,AV.bool.injEq] at hz;rw[jO] at hz;have hz:=eq_of_beq hz;subst hz;have hkk:k'=k:=by
   cases k<;>cases k'<;>first | rfl | (exfalso;revert hk;decide)
  rw[hkk]
 | _=>cases h
theorem aFJ{fns:T dB}:∀ {l:List (Nat×Nat×IntKind×Int)} {n:Nat} {A A':bR} {S':St} {o:Out},(ev fns n).code (aFA l) A S=some (o,A',S')→(∀i,o≠ .exit i)→(∀c∈l,lA S.h c.1 c.2.1=some (.int c.2.2.1 c.2.2.2))∧S'=S∧aD 0 A'.F= .bool true
 | l,0,_,_,_,_,h,_=>by cases h
 | l,1,A,A',S',o,h,_=>by
  cases l with
  | nil=>
   have h':(none:Option (Out×bR×St))=some (o,A',S'):=h;cases h'
  | cons c l=>
   obtain⟨g,j,k,z⟩:=c;have h':(none:Option (Out×bR×St))=some (o,A',S'):=h;cases h'
 | [],n+2,A,A',S',o,h,ho=>by
  obtain⟨⟨o1,A1,S1⟩,h1,h2⟩:=aH (show aW ((ev fns (n+1)).code (.reg [⟨some 0,.q (.mv (.c (.bool true))),none,0⟩]) A S) (tB .ret (ev fns (n+1)))=some (o,A',S') from h);have e1:(ev fns (n+1)).code (.reg [⟨some 0,.q (.mv (.c (.bool true))),none,0⟩]) A S=some (.normal,⟨cI (some 0) A.F (.bool true),A.inr⟩,S):=rfl;rw[e1] at h1;cases h1;have e2:tB .ret (ev fns (n+1)) (.normal,⟨cI (some 0) A.F (.bool true),A.inr⟩,S)=some (.ret,⟨cI (some 0) A.F (.bool true),A.inr⟩,S):=rfl;rw[e2] at h2;cases h2;exact⟨fun c hc=>(by cases hc),rfl,by rw[bQ,if_pos rfl]⟩
 | (g,j,k,z)::l,n+2,A,A',S',o,h,ho=>by
  obtain⟨⟨o1,A1,S1⟩,h1,h2⟩:=aH (show aW ((ev fns (n+1)).code (.reg [⟨some 1,.q (.ld false 1 (.c (.ptr g j))),none,0⟩,⟨some 2,.q (.bin .eql (.p .int) (.t 1) (.c (.int k z))),none,0⟩]) A S) (tB (.seq (.cond (.t 2) .skip (.exit 0)) (aFA l)) (ev fns (n+1)))=some (o,A',S') from h);obtain⟨⟨F1,S2⟩,h3,h4⟩:=aH (show aW (uT [⟨some 1,.q (.ld false 1 (.c (.ptr g j))),none,0⟩,⟨some 2,.q (.bin .eql (.p .int) (.t 1) (.c (.int k z))),none,0⟩] (ev fns n).call A.F S) (fun r=>some (.normal,(⟨r.1,A.inr⟩:bR),r.2))=some (o1,A1,S1) from h1);cases h4;rw[gD] at h3;obtain⟨⟨F2,S3⟩,h5,h6⟩:=aH h3;obtain⟨v,hv,h7⟩:=aH (show aW (lA S.h g j) (fun v=>some (cI (some 1) A.F v,S))=some (F2,S3) from h5);cases h7;rw[gD] at h6;obtain⟨⟨F4,S4⟩,h8,h9⟩:=aH h6;cases h9;obtain⟨b,hb,h10⟩:=aH (show aW (eX .eql (.p .int) (aD 1 (cI (some 1) A.F v)) (.int k z)) (fun u=>some (cI (some 2) (cI (some 1) A.F v) u,S))=some (F4,S4) from h8);cases h10;rw[bQ,if_pos rfl] at hb;have h2:(ev fns (n+1)).code (.seq (.cond (.t 2) .skip (.exit 0)) (aFA l)) ⟨cI (some 2) (cI (some 1) A.F v) b,A.inr⟩ S=some (o,A',S'):=h2;obtain⟨⟨o5,A5,S5⟩,k1,k2⟩:=aH (show aW ((ev fns n).code (.cond (.t 2) .skip (.exit 0)) ⟨cI (some 2) (cI (some 1) A.F v) b,A.inr⟩ S) (tB (aFA l) (ev fns n))=some (o,A',S') from h2);cases n with
  | zero=>cases k1
  | succ n=>
   have k1:aBG (aD 2 (cI (some 2) (cI (some 1) A.F v) b)) .skip (.exit 0) (ev fns n) ⟨cI (some 2) (cI (some 1) A.F v) b,A.inr⟩ S=some (o5,A5,S5):=k1;rw[bQ,if_pos rfl] at k1;cases b with
   | bool t=>
    have k1:(ev fns n).code (bL t .skip (.exit 0)) ⟨cI (some 2) (cI (some 1) A.F v) (.bool t),A.inr⟩ S=some (o5,A5,S5):=k1;cases t with
    | true=>
     rw[aL] at k1;cases n with
     | zero=>cases k1
     | succ n=>
      have e:(ev fns (n+1)).code .skip ⟨cI (some 2) (cI (some 1) A.F v) (.bool true),A.inr⟩ S=some (.normal,⟨cI (some 2) (cI (some 1) A.F v) (.bool true),A.inr⟩,S):=rfl;rw[e] at k1;cases k1;have ih:=aFJ (l:=l) (show(ev fns (n+1+1)).code (aFA l) _ S=some (o,A',S') from k2) ho;refine⟨fun c hc=>?_,ih.2⟩;rcases Bl.1 hc with rfl | hc
      ·rw[hv,aFE hb]
      ·exact ih.1 c hc
    | false=>
     rw[aR] at k1;cases n with
     | zero=>cases k1
     | succ n=>
      have e:(ev fns (n+1)).code (.exit 0) ⟨cI (some 2) (cI (some 1) A.F v) (.bool false),A.inr⟩ S=some (.exit 0,⟨cI (some 2) (cI (some 1) A.F v) (.bool false),A.inr⟩,S):=rfl;rw[e] at k1;cases k1;have k2:some (Out.exit 0,(⟨cI (some 2) (cI (some 1) A.F v) (.bool false),A.inr⟩:bR),S)=some (o,A',S'):=k2;cases k2;exact absurd rfl (ho 0)
   | _=>cases k1
theorem aJe{fns:T dB}{l:List (Nat×Nat×IntKind×Int)}{n:Nat}{S':St}{v:AV}(h:vD (aA5 l) [] (ev fns n) S=some (v,S')):(∀c∈l,lA S.h c.1 c.2.1=some (.int c.2.2.1 c.2.2.2))∧S'=S∧v= .bool true:=by
 unfold vD at h;obtain⟨_,h⟩:=bP h;obtain⟨⟨o,A',S1⟩,h1,h2⟩:=aH h;unfold aE7 at h2;split at h2
 ·cases h2
 ·rename_i hne;obtain⟨vs,h3,h4⟩:=aH h2;cases h4;obtain⟨k1,k2,k3⟩:=aFJ (show(ev fns n).code (aFA l) ⟨.e,false⟩ S=some (o,A',S1) from h1) (fun i e=>hne i e);refine⟨k1,k2,?_⟩;have:some [aD 0 A'.F]=some vs:=h3;cases this;exact k3
def aA6:Nat→Nat→List (IntKind×Int)→List (Nat×Nat×IntKind×Int)
 | _,_,[]=>[]
 | g,j,(k,z)::l=>(g,j,k,z)::aA6 g (j+1) l
theorem aDv:∀ {l:List (IntKind×Int)} {g j i:Nat} {k:IntKind} {z:Int},l[i]? =some (k,z)→(g,j+i,k,z)∈aA6 g j l
 | [],_,_,_,_,_,h=>by simp at h
 | (k,z)::l,g,j,0,k',z',h=>by
  simp at h;obtain⟨rfl,rfl⟩:=h;simp [aA6]
 | (k,z)::l,g,j,i+1,k',z',h=>by
  have:=aDv (g:=g) (j:=j+1) (show l[i]? =some (k',z') by simpa using h);rw[show j+(i+1)=j+1+i by omega];exact Bw _ this
def kT:List (Nat×List (IntKind×Int))→List (Nat×Nat×IntKind×Int)
 | []=>[]
 | (g,l)::r=>aA6 g 0 l++kT r
theorem aAj:∀ {t:List (Nat×List (IntKind×Int))} {g:Nat} {l:List (IntKind×Int)},(g,l)∈t→∀c∈aA6 g 0 l,c∈kT t
 | (g',l')::t,g,l,h,c,hc=>by
  simp only[kT,Be];rcases Bl.1 h with h | h
  ·cases h;exact .inl hc
  ·exact .inr (aAj h c hc)
theorem aGo(hR:jG P σ S w){t:List (Nat×List (IntKind×Int))}(hg:∀x∈t,x.1<P.globals.size∧x.2≠ [])(h:∀c∈kT t,lA S.h c.1 c.2.1=some (.int c.2.2.1 c.2.2.2)):aHs P (t.map fun x=>(x.1,x.2.map fun y=>AV.int y.1 y.2)) w:=by
 intro x hx;obtain⟨⟨g,l⟩,hgl,rfl⟩:=Ej.1 hx;obtain⟨h1,h2⟩:=hg _ hgl;have hc:∀i k z,l[i]? =some (k,z)→lA S.h g i=some (.int k z):=fun i k z hi=>by
  have:=h _ (aAj hgl _ (aDv (g:=g) (j:=0) hi));simpa using this
 obtain⟨⟨k0,z0⟩,l',rfl⟩:∃a l',l=a::l':=by cases l with | nil=>exact absurd rfl h2 | cons a l'=>exact⟨a,l',rfl⟩
 have h0:=hc 0 k0 z0 rfl;unfold lA cM at h0;obtain⟨cs,h3,h4⟩:=aH h0;obtain⟨bl,h5,h6⟩:=aH h3;obtain⟨L,h7,h8,h9⟩:=hR.blk g bl h5;rw[hR.glob g h1] at h7;cases h7;have hcs:∀i k z,((k0,z0)::l')[i]? =some (k,z)→cs[i]? =some (AV.int k z):=fun i k z hi=>by
  have:=hc i k z hi;unfold lA cM at this;rw[h5,aJ,h6,aJ,mP] at this;exact this
 have key:∀Cs,gH P σ cs Cs→w.rangeAt g 0 Cs→∃Ds,gH P (aCA P) (((k0,z0)::l').map fun y=>AV.int y.1 y.2) Ds∧(∀u∈Ds,u.oneCell'=true)∧w.rangeAt g 0 Ds:=by
  intro Cs hC hr;refine⟨((k0,z0)::l').map fun y=>Value.int y.1 y.2,?_,fun u hu=>?_,fun j v hv=>?_⟩
  ·clear hcs hc hg h h0 hgl hx h2;generalize (k0,z0)::l'=m
   induction m with
   | nil=>exact cQ.2 rfl
   | cons a m ih=>exact cJ.2 ⟨_,_,rfl,by simp only[Rv],ih⟩
  ·obtain⟨y,_,rfl⟩:=Ej.1 hu;rfl
  ·rw[Bi,Av] at hv;obtain⟨⟨k,z⟩,hkz,rfl⟩:=hv;have h10:=hcs j k z hkz;obtain⟨V,hV,hVV⟩:=hC.get h10;simp only[Rv] at hVV;rw[←hVV];exact hr j V hV
 refine⟨h1,by simpa using h8,?_⟩;cases bl with
 | cells ds o s=>
  simp only[mD,Ak] at h6;subst h6;obtain⟨Cs,q1,_,q3,_⟩:=h9;exact key Cs q1 q3
 | ro ds=>
  simp only[mD,Ak] at h6;subst h6;obtain⟨Cs,q1,_,q3⟩:=h9;exact key Cs q1 q3
 | _=>cases h6
theorem aE5{l:List (Nat×List AV)}{σ':Env}{S':St}{w':World}(hR:jG P σ S w)(h:gI P (aCA P) (stL P l) w σ' S' w'):gI P σ S w σ S w':=by
 have hk:∀r,r<w.heap.size→w'.heap[r]? =w.heap[r]? :=fun r hr=>h.keep r hr (aQR r);refine⟨⟨fun b bl hb=>?_,hR.lt,hR.fresh,hR.glob,hR.inj⟩,fun _ _=>rfl,Ag _,fun r hr _=>hk r hr,fun _ ho=>.inl ho,h.size,h.os,h.tape,h.output,fun _ _ hb=>hb⟩;obtain⟨L,q1,q2,q3⟩:=hR.blk b bl hb;exact⟨L,q1,Af q2 h.size,q3.frame (fun _ _ x=>x) (hk _ q2)⟩
theorem aDT{fns:T dB}{id nt:Nat}{res:List RV}{c:AC}{Fn:Func}{t:List (Nat×List (IntKind×Int))}{l:List (Nat×List AV)}(hFn:P.funcs[id]? =some Fn)(hc:cFn P Fn=some ⟨nt,res,c⟩)(hl:l=t.map fun x=>(x.1,x.2.map fun y=>AV.int y.1 y.2))(hg:∀x∈t,x.1<P.globals.size∧x.2≠ [])
  (h:Good P c ⟨.e,false⟩ (stL P l) fun o A S=>aKf res o A S=some true):aIi P fns id (aA5 (kT t)):=by
 obtain⟨C,c',rs,hbody,hname,hC,hrs,heq⟩:=aCe hc;cases heq;refine⟨rfl,⟨Fn,C,hFn,hbody,hname⟩,fun n S S' v hrun σ w fv hf hR=>?_⟩;obtain⟨hloads,hS',hv⟩:=aJe hrun;subst hS';subst hv;have hT:aHs P l w:=by rw[hl];exact aGo hR hg hloads
 simp only[Rv] at hf;obtain⟨A,B,rfl,hA,hB⟩:=hf;have hA:=cQ.1 hA;have hB:=cQ.1 hB;subst hA;subst hB;rw[lD hFn hbody hname];show CallsIn Fence.wide 0 P id ⟨[]++([]++ [])⟩ w _;refine callsIn_of_wp_marks hFn hbody trivial ?_;obtain⟨hfr,hsz⟩:=aCp (P:=P) (σ:=aCA P) (args:=[]) (Args:=[]) (cQ.2 rfl) (nt:=Fn.ntmps) (Cb _);rw[←aET];refine h none 0 Fn.ntmps C hC (fun _=>rfl) w.heap.size (aCA P) _ w _ hsz Df.nil (Ag _) hfr (aP6 hT) ?_;intro o A' S2 σ' a' w' hret hinr hsz' hdf hfr' hext;obtain⟨hoo,hres⟩:=aJm hret;obtain⟨_,rks,hd,hnd,hmk⟩:=hdf;have fin:∀w'',gI P (aCA P) (stL P l) w σ' S2 w''→∃V,(Go.results Fn a'.tmps).run P w''= .ok V w''∧∃σ',Rv P σ' (.bool true) V∧gI P σ S' w σ' S' w'':=fun w'' hx=>by
  obtain⟨Vs,h8,h9⟩:=nQ hx.rep hfr' hrs hres;refine⟨if h:Vs.toArray.size=1 then Vs.toArray[0] else .tuple Vs.toArray,?_,σ,?_,aE5 hR hx⟩
  ·show((do let vs ←Fn.results.mapM (aEB a'.tmps);pure (if h:vs.size=1 then vs[0] else .tuple vs):Sem Value)).run P w''=_;rw[Array.mapM_eq_mapM_toList];simp only[Sem.run_bind,Sem.run_map,h8,Result.andThen_ok,Sem.run_pure]
  ·have:=aBI h9;simp only[oneOf,Rv] at this;rw[this];simp only[Rv]
 rcases hoo with rfl | rfl
 ·show LeavesInM Fence.wide 0 P Fn a'.tmps _ a'.defers .returning w';rw[hd];exact leaves rks w' hnd hmk hext fin
 ·show LeavesInM Fence.wide 0 P Fn a'.tmps _ a'.defers .returning w';rw[hd];exact leaves rks w' hnd hmk hext fin
theorem aFj{l:List (Nat×dB)}(hmix:P.follows .mixedOrders=true)(hl:∀p∈l,Row P p∨aIi P (table l) p.1 p.2):uQ P (table l):=
 ⟨asked P,tY P,fun id fn h=>by
  rcases hl _ (aAJ h) with⟨Fn,h1,h2⟩ | h1
  ·exact .inl ⟨Fn,h1,h2⟩
  ·exact .inr h1,fun call hcall=>aBE (asked P) (tY P) hmix call hcall⟩
end Go.Ev
namespace Go.Ev
variable {P:Program}{σ:Env}{S:St}{w:World}
def aAk(S:St):Prop:=∀b bl,S.h.get b=some bl→¬uX bl
def yX(σ:Env)(b:Nat)(L:Loc):Env:=fun c=>if c=b then some L else σ c
theorem aOI(hR:jG P σ S w)(L:Loc):∀b M,σ b=some M→yX σ S.nx L b=some M:=fun b M h=>by
 have:=hR.below h;unfold yX;rw[if_neg (by omega)];exact h
structure qV(P:Program)(σ:Env)(S:St)(w:World)(σ':Env)(S':St):Prop where
 rep:jG P σ' S' w
 no:aAk S'
 same:Same S S'
 fresh:zS S'
 le:∀b L,σ b=some L→σ' b=some L
theorem qV.refl(hR:jG P σ S w)(hn:aAk S)(hf:zS S):qV P σ S w σ S:=⟨hR,hn,Same.refl S,hf,fun _ _ h=>h⟩
theorem qV.trans{σ' σ'':Env}{S' S'':St}(h:qV P σ S w σ' S')(h':qV P σ' S' w σ'' S''):qV P σ S w σ'' S'':=⟨h'.rep,h'.no,h.same.trans h'.same,h'.fresh,fun b L hb=>h'.le b L (h.le b L hb)⟩
theorem aOu(hn:aAk S)(r:Nat):¬Own σ S r:=fun⟨b,bl,_,h1,h2,_⟩=>hn b bl h1 h2
theorem aJQ{fns:T dB}(hK:uQ P fns){id:Nat}{b:Bool}{Fn:Func}(hFn:P.funcs[id]? =some Fn)(hb:Fn.body.isSome=true)(hnm:(Fn.name== "runtime.NumGoroutine")=false){avs:List AV}{Args:List Value}{Q:St→Prop}
  (h:fP fns (.fn id [] []) avs S fun r S'=>r= .bool b∧Q S') (hargs:gH P σ avs Args) (hR:jG P σ S w) (hn:aAk S):
  Calls P id ⟨Args⟩ w fun e w'=>e= .returned (.bool b)∧Kept w w':=by
 obtain⟨n,v,S',hrun0,hv,_⟩:=h;subst hv;have hs:=aKL hK n _ _ _ _ _ hrun0 σ w (.func (.func id) ⟨[]⟩ ⟨[]⟩) Args (by simp only[Rv];exact⟨[],[],rfl,cQ.2 rfl,cQ.2 rfl⟩) hargs hR;have hnm':¬Fn.name= "runtime.NumGoroutine" :=by simpa using hnm
 obtain⟨C,hC⟩:=Option.isSome_iff_exists.1 hb;have hrun:((do let d ←Deferred.ofValue (.func (.func id) ⟨[]⟩ ⟨[]⟩) ⟨Args⟩;invoke d.target d.args:Sem Next)).run P w= .ok (.enter id ⟨Args⟩) w:=by
  simp only[Deferred.ofValue,Sem.run_bind,Sem.run_pure,Result.andThen_ok,invoke,callFunc,run_program,hFn];simp [hC,hnm']
 rw[hrun] at hs;have hs:CallsIn Fence.wide 0 P id ⟨Args⟩ w _:=hs;refine(callsIn_wide.1 hs).mono fun e w' h=>?_;cases e with
 | returned V=>
  obtain⟨σ',h1,h2⟩:=h;simp only[Rv] at h1;subst h1;exact⟨rfl,h2.kept (aOu hn)⟩
 | _=>exact h.elim
theorem aN3{l:List (Nat×List AV)}:aAk (stL P l):=fun b bl h ho=>by
 obtain⟨cs,_,rfl⟩:=nH h;exact ho.elim
theorem aMQ{l:List (Nat×List AV)}(hl:∀x∈l,x.1<P.globals.size):zS (stL P l):=fun b hb=>by
 cases h:(stL P l).h.get b with
 | none=>rfl
 | some bl=>
  obtain⟨cs,h1,_⟩:=nH h;have h2:=hl _ h1;simp only[stL] at hb;simp only at h2;omega
end Go.Ev
namespace Go.Ev
variable {P:Program}{σ:Env}{S:St}{w:World}
theorem aJt(hR:jG P σ S w)(hn:aAk S)(hf:zS S)(hG:P.globals.size≤S.nx){r d:Nat}{cs:List AV}{Cs:List Value}(hr:r<w.heap.size)(hc:gH P σ cs Cs)(h1:∀u∈Cs,u.oneCell'=true)(hw:w.rangeAt r d Cs):
  qV P σ S w (yX σ S.nx ⟨r,d,0⟩) ⟨S.h.set S.nx (some (.ro cs)),S.nx+1⟩:=by
 have hle:=aOI hR ⟨r,d,0⟩;refine⟨⟨fun b bl hb=>?_,fun b bl hb=>?_,fun b hb=>?_,fun g hg=>?_,fun b b' bl bl' L L' hb _ ho=>?_⟩,fun b bl hb=>?_,Same.alloc S _,(aJJ S _).1 hf,hle⟩
 ·simp only at hb;rw[T.get_set] at hb;split at hb
  ·rename_i e;subst e;cases hb;exact⟨⟨r,d,0⟩,by unfold yX;rw[if_pos rfl],hr,Cs,hc.mono hle,h1,hw⟩
  ·obtain⟨L,h1,h2,h3⟩:=hR.blk b bl hb;exact⟨L,hle b L h1,h2,h3.frame hle rfl⟩
 ·simp only at hb;rw[T.get_set] at hb;split at hb
  ·rename_i e;subst e;simp
  ·have:=hR.lt b bl hb;simp only;omega
 ·simp only at hb;unfold yX;rw[if_neg (by omega)];exact hR.fresh b (by omega)
 ·unfold yX;rw[if_neg (by omega)];exact hR.glob g hg
 ·simp only at hb;rw[T.get_set] at hb;split at hb
  ·cases hb;exact ho.elim
  ·exact absurd ho (hn b bl hb)
 ·simp only at hb;rw[T.get_set] at hb;split at hb
  ·cases hb;exact fun h=>h
  ·exact hn b bl hb
def Lays(P:Program)(t:TypeId){α:Type}(E:St→List AV→α→Prop):Prop:=
 ∀ (H:Type) (enc:TypeId×Value→H) (σ:Env) (S:St) (w:World) (base:Nat) (spare:Nat→Bool) (held:Bool) (fuel:Nat) (cs:List Value) (x:DataW H×List MemPlace),jG P σ S w→aAk S→zS S→P.globals.size≤S.nx→DataW.trod enc P w base spare held fuel t cs=some x→(∀n∈DataW.weights P t x.1,n≤140737488355328)→
  ∃σ' S' avs a,qV P σ S w σ' S'∧gH P σ' avs cs∧(∀u∈cs,u.oneCell'=true)∧E S' avs a∧S.nx≤S'.nx
def aFt{α:Type}(E:St→List AV→α→Prop):Prop:=∀ {S S':St} {avs:List AV} {a:α},E S avs a→Same S S'→E S' avs a
def aNR(k:IntKind)(_:St)(avs:List AV)(z:Int):Prop:=avs= [.int k z]∧(Lit.int k z).wf=true
theorem aMo{k:IntKind}:aFt (aNR k):=fun h _=>h
theorem aLH{t:TypeId}{k:IntKind}(ht:P.underlying t=some (.int k)):Lays P t (aNR k):=by
 intro H enc σ S w base spare held fuel cs x hR hn hf hG h hW;obtain⟨n,rfl,_,hw⟩:=DataW.trod_int ht h;exact⟨σ,S,[.int k n],n,qV.refl hR hn hf,cJ.2 ⟨_,_,rfl,by simp only[Rv],cQ.2 rfl⟩,fun u hu=>by simp at hu;subst hu;rfl,⟨rfl,hw⟩,Ag _⟩
theorem aBR{H:Type}{e:TypeId}{d:DataW H}{n:Nat}:∀ {l:List (DataW H)},d∈l→n∈DataW.weights P e d→n∈DataW.weightsAll P e l
 | [],h,_=>by cases h
 | x::r,h,hn=>by
  show n∈DataW.weights P e x++DataW.weightsAll P e r;rcases Bl.1 h with rfl | h
  ·exact Dk _ hn
  ·exact Cu _ (aBR h hn)
theorem aAs{H:Type}{n:Nat}:∀ {ts:List TypeId} {l:List (DataW H)} {i:Nat} {t:TypeId} {d:DataW H},ts[i]? =some t→l[i]? =some d→n∈DataW.weights P t d→n∈DataW.weightsEach P ts l
 | [],_,_,_,_,h,_,_=>by simp at h
 | _::_,[],_,_,_,_,h,_=>by simp at h
 | u::ts,x::r,0,t,d,h1,h2,hn=>by
  simp at h1 h2;subst h1;subst h2;exact Dk _ hn
 | u::ts,x::r,i+1,t,d,h1,h2,hn=>by
  show n∈DataW.weights P u x++DataW.weightsEach P ts r;exact Cu _ (aAs (by simpa using h1) (by simpa using h2) hn)
theorem aDW{H:Type}{t e:TypeId}{xs ys:List (DataW H)}(ht:P.underlying t=some (.slice e)):DataW.weights P t (.slice xs ys)=(xs.length+ys.length) * P.bytesOf e::(DataW.weightsAll P e xs++DataW.weightsAll P e ys):=by
 unfold DataW.weights;rw[ht]
def aL2(k:Nat){α:Type}(E:St→List AV→α→Prop)(S:St)(avs:List AV)(l:List α):Prop:=
 ∃av,avs= [av]∧l.length * (8 * k)≤140737488355328∧((l= []∧(av= .nilsl∨av= .emp))∨∃ (b cap:Nat) (css:List (List AV)),av= .sl b 0 l.length cap false∧l.length≤cap∧b<S.nx∧S.h.get b=some (.ro css.flatten)∧css.length=l.length∧∀ (i:Nat) (cs:List AV) (a:α),css[i]? =some cs→l[i]? =some a→cs.length=k∧E S cs a)
theorem aK8{a:Addr}{n base:Nat}{cs:List Value}(h:w.cells? base a n=some cs):cs.length=n∧∀i,i<n→w.cell? (a.add i)=cs[i]? :=by
 unfold World.cells? at h;split at h
 ·refine⟨by simpa using mapM_some_length h,fun i hi=>?_⟩;exact mapM_some_get h i i (by simp [hi])
 ·cases h
theorem aDs{e:TypeId}{k:Nat}{α:Type}{E:St→List AV→α→Prop}(hE:Lays P e E)(hF:aFt E)(hk:0<k){H:Type}{enc:TypeId×Value→H}{base:Nat}{spare:Nat→Bool}{held:Bool}{fuel:Nat}{a:Addr}(hspot:a.spot=none)
  (hR:jG P σ S w) (hn:aAk S) (hf:zS S) (hG:P.globals.size≤S.nx):∀ {m:Nat},(∀i,i<m→∃x,(w.cells? base (a.add (i * k)) k).bind (DataW.trod enc P w base spare held fuel e)=some x∧∀n∈DataW.weights P e x.1,n≤140737488355328)→
  ∃ (σ':Env) (S':St) (css:List (List AV)),∃l:List α,∃Cs:List Value,qV P σ S w σ' S'∧S.nx≤S'.nx∧css.length=m∧l.length=m∧(∀ (i:Nat) (cs:List AV) (a:α),css[i]? =some cs→l[i]? =some a→cs.length=k∧E S' cs a)∧gH P σ' css.flatten Cs∧(∀u∈Cs,u.oneCell'=true)∧Cs.length=m * k∧w.rangeAt a.block a.off Cs
 | 0,_=>⟨σ,S,[],[],[],qV.refl hR hn hf,Ag _,rfl,rfl,fun i cs a hi=>(by simp at hi),cQ.2 rfl,fun u hu=>(by cases hu),by simp,fun j v hv=>(by simp at hv)⟩
 | m+1,h=>by
  obtain⟨σ1,S1,css,l,Cs,hA,hn1,hcl,hll,hel,hrv,hone,hlen,hrange⟩:=aDs hE hF hk hspot hR hn hf hG (m:=m) fun i hi=>h i (by omega);obtain⟨x,hx,hxW⟩:=h m (by omega);obtain⟨cs,hcs,hx⟩:=Dt.1 hx;obtain⟨σ2,S2,avs,y,hA2,hrv2,hone2,hE2,hn2⟩:=hE H enc σ1 S1 w base spare held fuel cs x hA.rep hA.no hA.fresh (Bb hG hn1) hx hxW;obtain⟨hcl2,hcell⟩:=aK8 hcs;have hal:avs.length=k:=by rw[←hrv2.length];exact hcl2
  refine⟨σ2,S2,css++ [avs],l++ [y],Cs++cs,hA.trans hA2,Bb hn1 hn2,by simp [hcl],by simp [hll],?_,?_,?_,?_,?_⟩
  ·intro i cs' a' hi ha;rw[Dw] at hi ha;rw[hcl] at hi;rw[hll] at ha;split at hi
   ·rename_i hlt;rw[if_pos hlt] at ha;exact⟨(hel i cs' a' hi ha).1,hF (hel i cs' a' hi ha).2 hA2.same⟩
   ·rename_i hlt;rw[if_neg hlt] at ha;have him:i - m=0:=by
     rcases Cd (i - m) with h | h
     ·exact h
     ·obtain⟨q,hq⟩:=Nat.exists_eq_succ_of_ne_zero (Nat.pos_iff_ne_zero.1 h);rw[hq] at hi;simp at hi
    rw[him] at hi ha;simp at hi ha;subst hi;subst ha;exact⟨hal,hE2⟩
  ·rw[List.flatten_append];simp only[List.flatten_cons,List.flatten_nil,Bt];exact(hrv.mono hA2.le).append hrv2
  ·intro u hu;rcases Be.1 hu with hu | hu
   ·exact hone u hu
   ·exact hone2 u hu
  ·rw[Ai,hlen,hcl2,Dd]
  ·intro j v hv;rw[Dw] at hv;split at hv
   ·exact hrange j v hv
   ·rename_i hlt;have hj:j - Cs.length<k:=by
     have:=(Ae.1 hv).1;omega
    have:=hcell (j - Cs.length) hj;rw[hv] at this;rw[←this];congr 1;have hadd:∀i,a.add i=⟨a.block,a.off+i,none⟩:=fun i=>by
     unfold Addr.add;split
     ·rename_i h;subst h;cases a;simp_all
     ·rfl
    have hadd2:∀ (x y:Nat),Addr.add ⟨a.block,x,none⟩ y=⟨a.block,x+y,none⟩:=fun x y=>by
     unfold Addr.add;split
     ·rename_i h;rw[h,Bv]
     ·rfl
    rw[hadd,hadd2,hlen];congr 1;rw[hlen] at hlt;omega
theorem aHo{t e:TypeId}{k:Nat}{α:Type}{E:St→List AV→α→Prop}(ht:P.underlying t=some (.slice e))(hc:P.cellsOf e=k)(hk:0<k)(hby:8 * k≤P.bytesOf e)(hE:Lays P e E)(hF:aFt E):Lays P t (aL2 k E):=by
 intro H enc σ S w base spare held fuel cs x hR hn hf hG h hW;rcases DataW.trod_slice ht h with⟨rfl,_⟩ | ⟨a,len,cap,elems,rest,n,rfl,rfl,hxe,_,hlc,_,hlen,hel,_⟩
 ·exact⟨σ,S,[.nilsl],[],qV.refl hR hn hf,cJ.2 ⟨_,_,rfl,by simp only[Rv],cQ.2 rfl⟩,fun u hu=>by simp at hu;subst hu;rfl,⟨_,rfl,by simp,.inl ⟨rfl,.inl rfl⟩⟩,Ag _⟩
 ·rw[hc] at hel;subst hxe;have hW:∀n∈DataW.weights P t (.slice (elems.map (·.1)) (rest.map (·.1))),n≤140737488355328:=hW;rw[aDW ht] at hW;have hlw:len * (8 * k)≤140737488355328:=by
   have h1:=hW _ (Cn ..);rw[Bc,hlen,Du] at h1;exact Bb (Nat.mul_le_mul_left len hby) (by omega)
  rcases Cd len with h0 | hp
  ·subst h0;exact⟨σ,S,[.emp],[],qV.refl hR hn hf,cJ.2 ⟨_,_,rfl,by simp only[Rv];exact⟨a,cap,rfl⟩,cQ.2 rfl⟩,fun u hu=>by simp at hu;subst hu;rfl,⟨_,rfl,by simp,.inl ⟨rfl,.inr rfl⟩⟩,Ag _⟩
  ·have hget:∀i,i<len→∃x,(w.cells? base (a.add (i * k)) k).bind (DataW.trod enc P w base spare held n e)=some x∧∀n∈DataW.weights P e x.1,n≤140737488355328:=fun i hi=>by
    rw[hel i hi];exact⟨elems[i]'(by omega),Ad (by omega),fun n hn=>hW n (Bw _ (Dk _ (aBR (List.mem_map_of_mem (Ci _)) hn)))⟩
   obtain⟨x0,hx0,_⟩:=hget 0 hp;obtain⟨cs0,hcs0,_⟩:=Dt.1 hx0;obtain⟨hl0,hc0⟩:=aK8 hcs0;have c0:=hc0 0 hk;rw[Ad (by omega),Es] at c0;have e0:(a.add 0).add 0=a:=rfl;rw[e0] at c0;have hblk:a.block<w.heap.size∧a.spot=none:=by
    unfold World.cell? at c0;cases hh:w.heap[a.block]? with
    | none=>rw[hh] at c0;cases c0
    | some o=>
     refine⟨(Dy.1 hh).1,?_⟩;rw[hh] at c0;cases o with
     | cells c t fr=>
      simp only at c0;by_cases hs:a.spot.isSome
      ·rw[if_pos hs] at c0;cases c0
      ·simpa using hs
     | _=>cases c0
   obtain⟨σ1,S1,css,l,Cs,hA,hn1,hcl,hll,hE1,hrv,hone,hCl,hrange⟩:=aDs hE hF hk hblk.2 hR hn hf hG hget;have hA2:=aJt hA.rep hA.no hA.fresh (Bb hG hn1) hblk.1 hrv hone hrange;refine⟨_,_,[.sl S1.nx 0 len cap false],l,hA.trans hA2,cJ.2 ⟨_,_,rfl,?_,cQ.2 rfl⟩,fun u hu=>by simp at hu;subst hu;rfl,⟨_,rfl,by rw[hll];exact hlw,.inr ⟨S1.nx,cap,css,by rw[hll],by omega,by simp,?_,by rw[hcl,hll],fun i cs a' hi ha=>⟨(hE1 i cs a' hi ha).1,hF (hE1 i cs a' hi ha).2 hA2.same⟩⟩⟩,by simp only;omega⟩
   ·simp only[Rv];refine⟨⟨a.block,a.off,0⟩,by unfold yX;rw[if_pos rfl],?_⟩;have:=hblk.2;cases a
    simp_all
   ·simp only;rw[T.get_set,if_pos rfl]
end Go.Ev
namespace Go.Ev
def aY(k:Nat){α:Type}(E:St→List AV→α→Prop)(S:St)(v:AV)(l:List α):Prop:=
 (l= []∧(v= .nilsl∨v= .emp))∨∃b off cap o cs,v= .sl b off l.length cap o∧l.length≤cap∧b<S.nx∧cM S.h b=some cs∧∀ (i:Nat) (a:α),l[i]? =some a→∃e:List AV,e.length=k∧(∀ (j:Nat) (x:AV),e[j]? =some x→cs[off+i * k+j]? =some x)∧E S e a
theorem aY.same{k:Nat}{α:Type}{E:St→List AV→α→Prop}(hE:aFt E){S S':St}{v:AV}{l:List α}(h:aY k E S v l)(hs:Same S S'):aY k E S' v l:=by
 rcases h with h | ⟨b,off,cap,o,cs,h1,hc,h2,h3,h4⟩
 ·exact .inl h
 ·refine .inr ⟨b,off,cap,o,cs,h1,hc,Af h2 hs.1,by rw[tV hs h2];exact h3,fun i a hi=>?_⟩;obtain⟨e,e1,e2,e3⟩:=h4 i a hi;exact⟨e,e1,e2,hE e3 hs⟩
theorem flat_get{k:Nat}:∀ {css:List (List AV)} {i j:Nat} {cs:List AV} {x:AV},(∀ (i:Nat) (cs:List AV),css[i]? =some cs→cs.length=k)→css[i]? =some cs→cs[j]? =some x→css.flatten[i * k+j]? =some x
 | [],i,j,cs,x,_,hi,_=>by simp at hi
 | c::css,0,j,cs,x,_,hi,hj=>by
  simp at hi;subst hi;rw[Es,Ap,List.flatten_cons,Ay (Ae.1 hj).1];exact hj
 | c::css,i+1,j,cs,x,hk,hi,hj=>by
  have hc:=hk 0 c rfl;rw[List.flatten_cons,Dd,Az (by omega),hc,show i * k+k+j - k=i * k+j by omega];exact flat_get (fun i cs h=>hk (i+1) cs (by simpa using h)) (by simpa using hi) hj
theorem aL2.is{k:Nat}{α:Type}{E:St→List AV→α→Prop}{S:St}{avs:List AV}{l:List α}(h:aL2 k E S avs l):∃v,avs= [v]∧aY k E S v l:=by
 obtain⟨v,rfl,_,h | ⟨b,cap,css,h1,h2,h3,h4,h5,h6⟩⟩:=h
 ·exact⟨v,rfl,.inl h⟩
 ·refine⟨v,rfl,.inr ⟨b,0,cap,false,css.flatten,h1,h2,h3,?_,fun i a hi=>?_⟩⟩
  ·unfold cM;rw[h4];rfl
  ·have hil:i<css.length:=by have:=(Ae.1 hi).1;omega
   obtain⟨e1,e2⟩:=h6 i css[i] a (Ad hil) hi;refine⟨css[i],e1,fun j x hj=>?_,e2⟩;rw[Ap];exact flat_get (fun i' cs' hi'=>(h6 i' cs' (l[i']'(by have:=(Ae.1 hi').1;omega)) hi' (Ad _)).1) (Ad hil) hj
section
variable {k:Nat}{α:Type}{E:St→List AV→α→Prop}{S:St}{v:AV}{l:List α}
theorem aY.len(h:aY k E S v l):kS v=some (.int .i64 ((l.length:Nat):Int)):=by
 rcases h with⟨rfl,rfl | rfl⟩ | ⟨b,off,cap,o,cs,rfl,_⟩<;>rfl
def aMb(k:Nat)(v:AV)(i:Nat):AV:=
 match v with
 | .sl b off _ _ _=>.ptr b (off+i * k)
 | _=>.undef
theorem aY.iaddr(h:aY k E S v l){i:Nat}(hi:i<l.length):eQ (.slice k) v i=some (aMb k v i):=by
 rcases h with⟨rfl,_⟩ | ⟨b,off,cap,o,cs,rfl,_⟩
 ·simp at hi
 ·simp only[eQ,aMb];have:Nat.blt i l.length=true:=Aj hi;rw[this,aL]
theorem aY.get(h:aY k E S v l){i:Nat}{a:α}(hi:l[i]? =some a):∃ (e:List AV) (b p:Nat),aMb k v i= .ptr b p∧b<S.nx∧e.length=k∧E S e a∧∃cs,cM S.h b=some cs∧∀ (j:Nat) (x:AV),e[j]? =some x→cs[p+j]? =some x:=by
 rcases h with⟨rfl,_⟩ | ⟨b,off,cap,o,cs,rfl,hc,hb,hcs,hel⟩
 ·simp at hi
 ·obtain⟨e,e1,e2,e3⟩:=hel i a hi;exact⟨e,b,off+i * k,rfl,hb,e1,e3,cs,hcs,e2⟩
end
end Go.Ev
