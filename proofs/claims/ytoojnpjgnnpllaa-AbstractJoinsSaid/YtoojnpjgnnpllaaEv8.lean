import Derived.Test.YtoojnpjgnnpllaaEv7
import Derived.ChangeSlices
import Derived.ChangeArms
import Derived.DataReads
namespace Go.Ev
def uF(c d:eQ):Prop:=∀f args S r,c f args S=some r→d f args S=some r
structure Le(a b:Evs):Prop where
 code:∀c A S r,a.code c A S=some r→b.code c A S=some r
 call:uF a.call b.call
theorem dZ{α β:Type}{x y:Option α}{f g:α→Option β}{b:β}(h:aZ x f=some b)(hx:∀a,x=some a→y=some a)(hf:∀a,f a=some b→g a=some b):aZ y g=some b:=by
 obtain⟨a,h1,h2⟩:=aM h;rw[hx a h1];exact hf a h2
theorem aIX{c d:eQ}(h:uF c d){v:AV}{tbl:List (Nat×Nat×Option (Bool×Nat))}{args:List AV}{S:St}{r:AV×St}(hv:aHL v tbl args c S=some r):aHL v tbl args d S=some r:=by
 unfold aHL at hv ⊢;split at hv
 ·refine dZ hv (fun _ h=>h) fun a ha=>?_;unfold aG5 at ha ⊢;split at ha
  ·exact h _ _ _ _ ha
  ·unfold aJS at ha ⊢;split at ha
   ·exact dZ ha (fun _ h=>h) fun _ hb=>h _ _ _ _ hb
   ·cases ha
 ·cases hv
theorem aGt{c d:eQ}(h:uF c d){x:XOp}{F:Fr}{S:St}{r:AV×St}(hv:zB x c F S=some r):zB x d F S=some r:=by
 cases x with
 | call f args=>exact h _ _ _ _ hv
 | inv tbl recv args=>exact aIX h hv
 | _=>exact hv
theorem aI0{c d:eQ}(h:uF c d){o:AO}{F:Fr}{S:St}{r:Fr×St}(hv:aDL o c F S=some r):aDL o d F S=some r:=by
 unfold aDL at hv ⊢;rw[cJ] at hv ⊢;split at hv
 ·rename_i hw;rw[if_pos hw];cases ho:o.op with
  | q q=>rw[ho] at hv;exact hv
  | a a=>rw[ho] at hv;exact hv
  | x x=>
   rw[ho] at hv;exact dZ (show aZ (zB x c F S) _=some r from hv) (fun _ hx=>aGt h hx) fun _ hb=>hb
 ·rename_i hw;rw[if_neg hw];exact hv
theorem yT{c d:eQ}(h:uF c d):∀ {l:List AO} {F:Fr} {S:St} {r:Fr×St},uO l c F S=some r→uO l d F S=some r
 | [],F,S,r,hv=>hv
 | o::l,F,S,r,hv=>dZ (show aZ (aDL o c F S) (fun r=>uO l c r.1 r.2)=some r from hv) (fun _ hx=>aI0 h hx) fun _ hb=>yT h hb
theorem aLa{c d:eQ}(h:uF c d){o:AO}{i base:Nat}{D:DS}{r:DS}(hv:rT o i base c D=some r):rT o i base d D=some r:=by
 unfold rT at hv ⊢;rw[cJ] at hv ⊢;split at hv
 ·rename_i hw;rw[if_pos hw];cases ho:o.op with
  | q q=>rw[ho] at hv;exact hv
  | a a=>rw[ho] at hv;exact hv
  | x x=>
   rw[ho] at hv;obtain⟨h1,h2⟩:=cD (show bN (iY D.hs o.mask) _ none=some r from hv);show bN (iY D.hs o.mask) _ none=some r;rw[h1,aQ];exact dZ h2 (fun _ hx=>aGt h hx) fun _ hb=>hb
 ·rename_i hw;rw[if_neg hw];exact hv
theorem sQ{c d:eQ}(h:uF c d):∀ {l:List AO} {i base:Nat} {D r:DS},uQ l i base c D=some r→uQ l i base d D=some r
 | [],_,_,_,_,hv=>hv
 | o::l,i,base,D,r,hv=>dZ (show aZ (rT o i base c D) (fun D'=>uQ l (i+1) base c D')=some r from hv) (fun _ hx=>aLa h hx) fun _ hb=>sQ h hb
theorem aFa{c d:eQ}(h:uF c d){l:List AO}{F:Fr}{S:St}{r:Fr×St}(hv:wI l c F S=some r):wI l d F S=some r:=
 dZ (show aZ _ _=some r from hv) (fun _ hx=>sQ h hx) fun _ hb=>hb
theorem aGu{a b:Evs}(h:Le a b){c:AC}{A:bH}{S:St}{r:Out×bH×St}(hv:aHo c a A S=some r):aHo c b A S=some r:=by
 cases c with
 | skip=>exact hv
 | seq x y=>
  refine dZ (show aZ (a.code x A S) (tC y a)=some r from hv) (fun _ hx=>h.code _ _ _ _ hx) fun q hq=>?_;unfold tC at hq ⊢;split at hq
  ·exact h.code _ _ _ _ hq
  ·exact hq
 | cond x y z=>
  have hv:aBi (x.val A.F) y z a A S=some r:=hv;show aBi (x.val A.F) y z b A S=some r;unfold aBi at hv ⊢;split at hv
  ·exact h.code _ _ _ _ hv
  ·cases hv
 | block id x=>exact dZ (show aZ (a.code x A S) (rN id)=some r from hv) (fun _ hx=>h.code _ _ _ _ hx) fun _ hq=>hq
 | loop x=>
  refine dZ (show aZ (a.code x A S) (tC (.loop x) a)=some r from hv) (fun _ hx=>h.code _ _ _ _ hx) fun q hq=>?_;unfold tC at hq ⊢;split at hq
  ·exact h.code _ _ _ _ hq
  ·exact hq
 | exit id=>exact hv
 | ret=>exact hv
 | reg ops=>exact dZ (show aZ (uO ops a.call A.F S) _=some r from hv) (fun _ hx=>yT h.call hx) fun _ hq=>hq
 | drw ops=>exact dZ (show aZ (wI ops a.call A.F S) _=some r from hv) (fun _ hx=>aFa h.call hx) fun _ hq=>hq
 | rng f ps as bd=>
  have hv:aLW f ps as bd a A S=some r:=hv;show aLW f ps as bd b A S=some r;unfold aLW at hv ⊢;cases hi:A.inr with
  | true=>rw[hi,aQ] at hv;cases hv
  | false=>
   rw[hi,aW] at hv;rw[aW];obtain⟨h1,h2⟩:=cD hv;rw[h1,aQ];refine dZ h2 (fun _ hx=>h.call _ _ _ _ hx) fun q hq=>dZ hq (fun _ hx=>hx) fun bl hbl=>?_;unfold aAW at hbl ⊢;split at hbl
   ·split at hbl
    ·cases hbl
    ·exact dZ hbl (fun _ hx=>hx) fun _ hc=>h.code _ _ _ _ hc
   ·cases hbl
 | dfr ops f args=>exact hv
theorem aGh{a b:Evs}(h:Le a b){bl:AB}{l:Nat}{args:List AV}{S:St}{r:AV×St}(hv:yR bl l args a S=some r):yR bl l args b S=some r:=by
 unfold yR at hv ⊢;split at hv
 ·refine dZ hv (fun _ hx=>hx) fun F hF=>dZ hF (fun _ hx=>h.code _ _ _ _ hx) fun q hq=>?_;unfold aB3 at hq ⊢;split at hq
  ·refine dZ hq (fun _ hx=>hx) fun bl hbl=>?_;unfold qN at hbl ⊢;split at hbl
   ·exact dZ (show aZ (a.code _ _ _) _=some r from hbl) (fun _ hx=>h.code _ _ _ _ hx) fun _ hq=>hq
   ·cases hbl
  ·cases hq
 ·cases hv
theorem aGB{fns:T eG}{a b:Evs}(h:Le a b):uF (vT fns a) (vT fns b):=by
 intro f args S r hv;unfold vT at hv ⊢;split at hv
 ·refine dZ hv (fun _ hx=>hx) fun fn hfn=>?_;unfold vL at hfn ⊢;obtain⟨h1,h2⟩:=cD hfn;rw[h1,aQ];exact dZ h2 (fun _ hx=>h.code _ _ _ _ hx) fun _ hq=>hq
 ·exact dZ hv (fun _ hx=>hx) fun bl hbl=>aGh h hbl
 ·cases hv
theorem tO(fns:T eG):∀n,Le (ev fns n) (ev fns (n+1))
 | 0=>⟨fun c A S r (h:none=some r)=>(by cases h),fun f args S r (h:none=some r)=>(by cases h)⟩
 | n+1=>⟨fun _ _ _ _ h=>aGu (tO fns n) h,aGB (tO fns n)⟩
theorem jM(fns:T eG){n m:Nat}(h:n≤m):Le (ev fns n) (ev fns m):=by
 induction h with
 | refl=>exact⟨fun _ _ _ _ h=>h,fun _ _ _ _ h=>h⟩
 | step _ ih=>exact⟨fun c A S r h=>(tO fns _).code _ _ _ _ (ih.code _ _ _ _ h),fun f args S r h=>(tO fns _).call _ _ _ _ (ih.call _ _ _ _ h)⟩
end Go.Ev
namespace Go.Ev
abbrev oq(d:Nat)(q:xL):AO:=⟨some d,.q q,none,0⟩
abbrev om(d m:Nat)(q:xL):AO:=⟨some d,.q q,none,m⟩
abbrev og(d s:Nat)(b:Bool)(m:Nat)(q:xL):AO:=⟨some d,.q q,some (s,b),m⟩
abbrev oc(d f:Nat)(l:List cL)(m:Nat):AO:=⟨some d,.x (.call (.c (.fn f [] [])) l),none,m⟩
abbrev mt(d i:Nat):AO:=⟨some d,.q (.mv (.t i)),none,0⟩
abbrev ci(n:Int):cL:=.c (.int .i64 n)
abbrev bi(o:BinOp)(x y:cL):xL:=.bin o (.p .int) x y
abbrev ld(i:Nat):xL:=.ld false 1 (.t i)
abbrev Zs(n x v m:Nat):AO:=⟨none,.x (.st n (.t x) (.t v)),none,m⟩
abbrev Zf(d o x:Nat):AO:=oq d (.faddr o (.t x))
abbrev Zg(d m o x:Nat):AO:=om d m (.faddr o (.t x))
abbrev Zi(d k x y:Nat):AO:=oq d (.iaddr (.slice k) (.t x) (.t y))
abbrev Zj(d m k x y:Nat):AO:=om d m (.iaddr (.slice k) (.t x) (.t y))
abbrev Zl(d x:Nat):AO:=oq d (ld x)
abbrev Zm(d m x:Nat):AO:=om d m (ld x)
abbrev Zc(d:Nat)(n:Int):AO:=oq d (.mv (ci n))
abbrev Zn(d x:Nat):AO:=oq d (.lenSl (.t x))
abbrev Za(d x:Nat)(n:Int):AO:=oq d (bi .add (.t x) (ci n))
abbrev Zt(d x y:Nat):AO:=oq d (bi .lss (.t x) (.t y))
abbrev Ze(d x i:Nat):AO:=oq d (.extract (.t x) i)
abbrev Zd(d n x:Nat):AO:=oq d (.ld true n (.t x))
abbrev Zp(d c y:Nat):AO:=oq d (.pick (.t c) (.c (.bool true)) (.t y))
abbrev Zx(d s:Nat)(b:Bool)(m o x:Nat):AO:=og d s b m (.faddr o (.t x))
abbrev Zy(d s:Nat)(b:Bool)(m x:Nat):AO:=og d s b m (ld x)
abbrev Zu(d s:Nat)(b:Bool)(m x:Nat):AO:=og d s b m (.lenSl (.t x))
abbrev Zb(d k x:Nat):AO:=⟨some d,.a (.box k (.t x)),none,0⟩
variable {fns:T eG}
def iH(fns:T eG)(c:AC)(A:bH)(S:St)(Q:Out→bH→St→Prop):Prop:=∃n o A' S',(ev fns n).code c A S=some (o,A',S')∧Q o A' S'
def gH(fns:T eG)(f:AV)(args:List AV)(S:St)(Q:AV→St→Prop):Prop:=∃n v S',(ev fns n).call f args S=some (v,S')∧Q v S'
def tX(fns:T eG)(ops:List AO)(F:Fr)(S:St)(Q:Fr→St→Prop):Prop:=∃n F' S',uO ops (ev fns n).call F S=some (F',S')∧Q F' S'
theorem aY{c:AC}{A:bH}{S:St}{Q R:Out→bH→St→Prop}(h:iH fns c A S Q)(hq:∀o A S,Q o A S→R o A S):iH fns c A S R:=by
 obtain⟨n,o,A',S',h1,h2⟩:=h;exact⟨n,o,A',S',h1,hq _ _ _ h2⟩
theorem aX{f:AV}{args:List AV}{S:St}{Q R:AV→St→Prop}(h:gH fns f args S Q)(hq:∀v S,Q v S→R v S):gH fns f args S R:=by
 obtain⟨n,v,S',h1,h2⟩:=h;exact⟨n,v,S',h1,hq _ _ h2⟩
theorem aGk{ops:List AO}{F:Fr}{S:St}{Q R:Fr→St→Prop}(h:tX fns ops F S Q)(hq:∀F S,Q F S→R F S):tX fns ops F S R:=by
 obtain⟨n,F',S',h1,h2⟩:=h;exact⟨n,F',S',h1,hq _ _ h2⟩
theorem aI{A:bH}{S:St}{Q:Out→bH→St→Prop}(h:Q .normal A S):iH fns .skip A S Q:=⟨1,_,_,_,rfl,h⟩
theorem bM{id:Nat}{A:bH}{S:St}{Q:Out→bH→St→Prop}(h:Q (.exit id) A S):iH fns (.exit id) A S Q:=⟨1,_,_,_,rfl,h⟩
theorem aS{A:bH}{S:St}{Q:Out→bH→St→Prop}(h:Q .ret A S):iH fns .ret A S Q:=⟨1,_,_,_,rfl,h⟩
def aCl(fns:T eG)(y:AC)(Q:Out→bH→St→Prop):Out→bH→St→Prop
 | .normal,A,S=>iH fns y A S Q
 | o,A,S=>Q o A S
theorem aA{x y:AC}{A:bH}{S:St}{Q:Out→bH→St→Prop}(h:iH fns x A S (aCl fns y Q)):iH fns (.seq x y) A S Q:=by
 obtain⟨n,o,A1,S1,h1,h2⟩:=h;cases o with
 | normal=>
  obtain⟨m,o,A2,S2,h3,h4⟩:=h2;refine⟨max n m+1,o,A2,S2,?_,h4⟩;show aZ ((ev fns (max n m)).code x A S) (tC y (ev fns (max n m)))=_;rw[(jM fns (El n m)).code _ _ _ _ h1,aK];exact(jM fns (Eg n m)).code _ _ _ _ h3
 | ret=>
  refine⟨n+1,.ret,A1,S1,?_,h2⟩;show aZ ((ev fns n).code x A S) (tC y (ev fns n))=_;rw[h1];rfl
 | exit i=>
  refine⟨n+1,.exit i,A1,S1,?_,h2⟩;show aZ ((ev fns n).code x A S) (tC y (ev fns n))=_;rw[h1];rfl
theorem aJ8{c:cL}{x y:AC}{A:bH}{S:St}{Q:Out→bH→St→Prop}{t:Bool}(hc:c.val A.F= .bool t)(h:iH fns (bN t x y) A S Q):iH fns (.cond c x y) A S Q:=by
 obtain⟨n,o,A1,S1,h1,h2⟩:=h;refine⟨n+1,o,A1,S1,?_,h2⟩;show aBi (c.val A.F) x y (ev fns n) A S=_;rw[hc];exact h1
theorem aHd{c:cL}{x y:AC}{A:bH}{S:St}{Q:Out→bH→St→Prop}{t:Bool}(hc:c.val A.F= .bool t)(h1:t=true→iH fns x A S Q)(h2:t=false→iH fns y A S Q):iH fns (.cond c x y) A S Q:=by
 refine aJ8 hc ?_;cases t
 ·exact h2 rfl
 ·exact h1 rfl
def aA6(id:Nat)(Q:Out→bH→St→Prop):Out→bH→St→Prop
 | .exit i,A,S=>if i=id then Q .normal A S else Q (.exit i) A S
 | o,A,S=>Q o A S
theorem aL{id:Nat}{c:AC}{A:bH}{S:St}{Q:Out→bH→St→Prop}(h:iH fns c A S (aA6 id Q)):iH fns (.block id c) A S Q:=by
 obtain⟨n,o,A1,S1,h1,h2⟩:=h;cases o with
 | normal=>exact⟨n+1,.normal,A1,S1,by show aZ ((ev fns n).code c A S) (rN id)=_;rw[h1];rfl,h2⟩
 | ret=>exact⟨n+1,.ret,A1,S1,by show aZ ((ev fns n).code c A S) (rN id)=_;rw[h1];rfl,h2⟩
 | exit i=>
  by_cases hi:i=id
  ·subst hi;have h2:Q .normal A1 S1:=by simpa [aA6] using h2
   exact⟨n+1,.normal,A1,S1,by show aZ ((ev fns n).code c A S) (rN i)=_;rw[h1];simp [aK,rN,cJ,Bh],h2⟩
  ·have h2:Q (.exit i) A1 S1:=by simpa [aA6,hi] using h2
   exact⟨n+1,.exit i,A1,S1,by show aZ ((ev fns n).code c A S) (rN id)=_;rw[h1];simp [aK,rN,cJ,Bh,hi],h2⟩
def aEZ(I:Nat→bH→St→Prop)(k:Nat)(Q:Out→bH→St→Prop):Out→bH→St→Prop
 | .normal,A,S=>∃k',k'<k∧I k' A S
 | o,A,S=>Q o A S
theorem bL{c:AC}{Q:Out→bH→St→Prop}(I:Nat→bH→St→Prop)(h:∀k A S,I k A S→iH fns c A S (aEZ I k Q)):∀k A S,I k A S→iH fns (.loop c) A S Q:=by
 intro k
 induction k using Nat.strongRecOn with
 | _ k ih=>
  intro A S hI;obtain⟨n,o,A1,S1,h1,h2⟩:=h k A S hI;cases o with
  | normal=>
   obtain⟨k',hk,hI'⟩:=h2;obtain⟨m,o,A2,S2,h3,h4⟩:=ih k' hk A1 S1 hI';refine⟨max n m+1,o,A2,S2,?_,h4⟩;show aZ ((ev fns (max n m)).code c A S) (tC (.loop c) (ev fns (max n m)))=_;rw[(jM fns (El n m)).code _ _ _ _ h1,aK];exact(jM fns (Eg n m)).code _ _ _ _ h3
  | ret=>
   refine⟨n+1,.ret,A1,S1,?_,h2⟩;show aZ ((ev fns n).code c A S) (tC (.loop c) (ev fns n))=_;rw[h1];rfl
  | exit i=>
   refine⟨n+1,.exit i,A1,S1,?_,h2⟩;show aZ ((ev fns n).code c A S) (tC (.loop c) (ev fns n))=_;rw[h1];rfl
theorem aJ{ops:List AO}{A:bH}{S:St}{Q:Out→bH→St→Prop}(h:tX fns ops A.F S fun F' S'=>Q .normal ⟨F',A.inr⟩ S'):iH fns (.reg ops) A S Q:=by
 obtain⟨n,F',S',h1,h2⟩:=h;refine⟨n+1,.normal,⟨F',A.inr⟩,S',?_,h2⟩;show aZ (uO ops (ev fns n).call A.F S) _=_;rw[h1];rfl
def aOd(res:List RV)(Q:AV→St→Prop):Out→bH→St→Prop
 | .exit _,_,_=>False
 | _,A,S=>∃vs,results res A.F S.h=some vs∧Q (oneOf vs) S
theorem cI{id nt:Nat}{res:List RV}{body:AC}{first cap args:List AV}{S:St}{Q:AV→St→Prop}(hfn:fns.get id=some ⟨nt,res,body⟩)(hn:(first++(args++cap)).length≤nt)
  (h:iH fns body ⟨rR (first++(args++cap)) 0 .e,false⟩ S (aOd res Q)):gH fns (.fn id first cap) args S Q:=by
 obtain⟨n,o,A',S',h1,h2⟩:=h;have key:∀ (_:∃vs,results res A'.F S'.h=some vs∧Q (oneOf vs) S') (_:aEz ⟨nt,res,body⟩ (o,A',S')=aZ (results res A'.F S'.h) fun vs=>some (oneOf vs,S')),gH fns (.fn id first cap) args S Q:=by
  rintro⟨vs,h3,h4⟩ h5;refine⟨n+1,oneOf vs,S',?_,h4⟩;show aZ (fns.get id) (fun fn=>vL fn (wU first (wU args cap)) (ev fns n) S)=_;rw[hfn,aK];unfold vL;rw[fS,fS,fL,Au hn,aQ,h1,aK,h5,h3];rfl
 cases o with
 | normal=>exact key h2 rfl
 | ret=>exact key h2 rfl
 | exit i=>exact h2.elim
theorem aAn{F:Fr}{S:St}{Q:Fr→St→Prop}:tX fns [] F S Q↔Q F S:=
 ⟨fun⟨_,_,_,h1,h2⟩=>by cases h1;exact h2,fun h=>⟨0,F,S,rfl,h⟩⟩
theorem aCS{o:AO}{l:List AO}{F F1:Fr}{S S1:St}{Q:Fr→St→Prop}(h:∀call,aDL o call F S=some (F1,S1))(hl:tX fns l F1 S1 Q):tX fns (o::l) F S Q:=by
 obtain⟨n,F',S',h1,h2⟩:=hl;refine⟨n,F',S',?_,h2⟩;rw[gF,h,aK];exact h1
theorem aKi{d:Option Nat}{q:xL}{m:Nat}{l:List AO}{F:Fr}{S:St}{Q:Fr→St→Prop}{v:AV}(h:fV q F S.h=some v)(hl:tX fns l (cK d F v) S Q):tX fns (⟨d,.q q,none,m⟩::l) F S Q:=
 aCS (fun call=>by show aZ (fV q F S.h) _=_;rw[h];rfl) hl
theorem aPC{d:Option Nat}{a:uS}{m:Nat}{l:List AO}{F:Fr}{S:St}{Q:Fr→St→Prop}{v:AV}{bl:AB}(h:uL a F S.nx=some (v,bl))(hl:tX fns l (cK d F v) ⟨S.h.set S.nx (some bl),S.nx+1⟩ Q):tX fns (⟨d,.a a,none,m⟩::l) F S Q:=
 aCS (fun call=>by show aZ (uL a F S.nx) _=_;rw[h];rfl) hl
theorem fJ{d:Option Nat}{x:XOp}{m:Nat}{l:List AO}{F:Fr}{S S1:St}{Q:Fr→St→Prop}{v:AV}(h:∀call,zB x call F S=some (v,S1))(hl:tX fns l (cK d F v) S1 Q):tX fns (⟨d,.x x,none,m⟩::l) F S Q:=
 aCS (fun call=>by show aZ (zB x call F S) _=_;rw[h];rfl) hl
theorem bG{d:Option Nat}{f:cL}{args:List cL}{m:Nat}{l:List AO}{F:Fr}{S:St}{Q:Fr→St→Prop}(h:gH fns (f.val F) (dD args F) S fun v S1=>tX fns l (cK d F v) S1 Q):tX fns (⟨d,.x (.call f args),none,m⟩::l) F S Q:=by
 obtain⟨n,v,S1,h1,k,F',S',h2,h3⟩:=h;refine⟨max n k,F',S',?_,h3⟩;rw[gF];have:aDL ⟨d,.x (.call f args),none,m⟩ (ev fns (max n k)).call F S=some (cK d F v,S1):=by
  show aZ ((ev fns (max n k)).call (f.val F) (dD args F) S) _=_;rw[(jM fns (El n k)).call _ _ _ _ h1];rfl
 rw[this,aK];exact yT (jM fns (Eg n k)).call h2
theorem fD(i:Nat)(F:Fr):(cL.t i).val F=aB i F:=rfl
theorem aH5(v:AV)(F:Fr):(cL.c v).val F=v:=rfl
theorem eF(F:Fr)(v:AV):cK none F v=F:=rfl
theorem cE(i j:Nat)(F:Fr)(v:AV):aB i (cK (some j) F v)=if i=j then v else aB i F:=by
 show aB i (F.set j (some v))=_;unfold aB;rw[T.get_set];split<;>rfl
end Go.Ev
namespace Go.Ev
variable {fns:T eG}
theorem aLp{l:Nat}{args:List AV}{S:St}{Q:AV→St→Prop}{pend:Option Out}{fr F:Fr}{ps:List Nat}{as bd:AC}(hl:S.h.get l=some (.loop .ready pend fr ps as bd))(hF:mF ps args fr=some F)
  (h:iH fns as ⟨F,true⟩ S fun o A1 S1=>o= .normal∧∃pend1 fr1 ps1 as1,S1.h.get l=some (.loop .ready pend1 fr1 ps1 as1 bd)∧iH fns bd A1 ⟨S1.h.set l (some (.loop .busy pend1 fr1 ps1 as1 bd)),S1.nx⟩ fun o A2 S2=>∃pend2 fr2 ps2 as2 bd2,S2.h.get l=some (.loop .busy pend2 fr2 ps2 as2 bd2)∧
   ((o= .normal∧Q (.bool true) ⟨S2.h.set l (some (.loop .ready none fr2 ps2 as2 bd2)),S2.nx⟩)∨(o≠ .normal∧Q (.bool false) ⟨S2.h.set l (some (.loop .done (some o) fr2 ps2 as2 bd2)),S2.nx⟩))):gH fns (.yld l) args S Q:=by
 obtain⟨n,o,A1,S1,h1,rfl,pend1,fr1,ps1,as1,h2,m,o2,A2,S2,h3,pend2,fr2,ps2,as2,bd2,h4,h5⟩:=h;have e1:=(jM fns (El n m)).code _ _ _ _ h1;have e3:=(jM fns (Eg n m)).code _ _ _ _ h3;have key:∀r,sJ (.loop .busy pend2 fr2 ps2 as2 bd2) o2 l S2=some r→(ev fns (max n m+1)).call (.yld l) args S=some r:=fun r hr=>by
  show aZ (S.h.get l) (fun bl=>yR bl l args (ev fns (max n m)) S)=_;rw[hl,aK];show aZ (mF ps args fr) (fun F=>aZ ((ev fns (max n m)).code as ⟨F,true⟩ S) (aB3 l bd (ev fns (max n m))))=_;rw[hF,aK,e1,aK];show aZ (S1.h.get l) (fun bl=>qN bl l bd (ev fns (max n m)) A1 S1)=_;rw[h2,aK];show aZ ((ev fns (max n m)).code bd A1 ⟨S1.h.set l (some (.loop .busy pend1 fr1 ps1 as1 bd)),S1.nx⟩) (fun r=>aZ (r.2.2.h.get l) fun bl=>sJ bl r.1 l r.2.2)=_;rw[e3,aK];show aZ (S2.h.get l) (fun bl=>sJ bl o2 l S2)=_;rw[h4,aK];exact hr
 rcases h5 with⟨rfl,h5⟩ | ⟨hne,h5⟩
 ·exact⟨_,_,_,key _ rfl,h5⟩
 ·refine⟨_,_,_,key (.bool false,⟨S2.h.set l (some (.loop .done (some o2) fr2 ps2 as2 bd2)),S2.nx⟩) ?_,h5⟩;cases o2 with
  | normal=>exact absurd rfl hne
  | _=>rfl
theorem aL4{f:cL}{ps:List Nat}{as bd:AC}{A:bH}{S:St}{Q:Out→bH→St→Prop}{id:Nat}{first cap:List AV}(hi:A.inr=false)(hf:f.val A.F= .fn id first cap)
  (h:gH fns (.fn id first cap) [.yld S.nx] ⟨S.h.set S.nx (some (.loop .ready none A.F ps as bd)),S.nx+1⟩ fun _ S2=>∃st pend fr ps2 as2 bd2 c,S2.h.get S.nx=some (.loop st pend fr ps2 as2 bd2)∧st≠ .busy∧aIT pend=some c∧iH fns c A ⟨S2.h.set S.nx (some (.loop .exhausted pend fr ps2 as2 bd2)),S2.nx⟩ Q):iH fns (.rng f ps as bd) A S Q:=by
 obtain⟨n,v,S2,h1,st,pend,fr,ps2,as2,bd2,c,h2,hst,hc,m,o,A',S',h3,hq⟩:=h;refine⟨max n m+1,o,A',S',?_,hq⟩;show bN A.inr none (bN (aKZ (f.val A.F)) (aZ ((ev fns (max n m)).call (f.val A.F) [.yld S.nx] ⟨S.h.set S.nx (some (.loop .ready none A.F ps as bd)),Nat.succ S.nx⟩) fun r=>aZ (r.2.h.get S.nx) fun bl=>aAW bl S.nx A r.2 (ev fns (max n m))) none)=_;rw[hi,aW,hf,show aKZ (.fn id first cap)=true from rfl,aQ,show Nat.succ S.nx=S.nx+1 from rfl,(jM fns (El n m)).call _ _ _ _ h1,aK];show aZ (S2.h.get S.nx) (fun bl=>aAW bl S.nx A S2 (ev fns (max n m)))=_;rw[h2,aK];have e:=(jM fns (Eg n m)).code _ _ _ _ h3;cases st with
 | busy=>exact absurd rfl hst
 | _=>
  show aZ (aIT pend) (fun c=>(ev fns (max n m)).code c A ⟨S2.h.set S.nx _,S2.nx⟩)=_;rw[hc,aK];exact e
theorem aLQ{tbl:List (Nat×Nat×Option (Bool×Nat))}{recv:cL}{args:List cL}{F:Fr}{t f:Nat}{v:AV}(hr:recv.val F= .iface t v)(hf:aCk t tbl=some (f,none))(call:eQ)(S:St):zB (.inv tbl recv args) call F S=zB (.call (.c (.fn f [v] [])) args) call F S:=by
 show aHL (recv.val F) tbl (dD args F) call S=call (.fn f [v] []) (dD args F) S;rw[hr];show aZ (aCk t tbl) (fun r=>aG5 r v (dD args F) call S)=_;rw[hf,aK];rfl
end Go.Ev
namespace Go.Ev
def Same(S S':St):Prop:=S.nx≤S'.nx∧∀b,b<S.nx→S'.h.get b=S.h.get b
theorem Same.refl(S:St):Same S S:=⟨Ah _,fun _ _=>rfl⟩
theorem Same.trans{S S' S'':St}(h:Same S S')(h':Same S' S''):Same S S'':=⟨Ak h.1 h'.1,fun b hb=>(h'.2 b (Ae hb h.1)).trans (h.2 b hb)⟩
theorem Same.alloc(S:St)(bl:AB):Same S ⟨S.h.set S.nx (some bl),S.nx+1⟩:=⟨Nat.le_succ _,fun b hb=>by simp only;rw[T.get_set,if_neg (by omega)]⟩
theorem Same.put{S S':St}{b:Nat}(h:Same S S')(hb:S.nx≤b)(x:Option AB):Same S ⟨S'.h.set b x,S'.nx⟩:=⟨h.1,fun c hc=>by simp only;rw[T.get_set,if_neg (by omega)];exact h.2 c hc⟩
def bK(k:IntKind)(S:St)(v:AV)(l:List Int):Prop:=
 (l= []∧(v= .nilsl∨v= .emp))∨∃b off cap o cs,v= .sl b off l.length cap o∧l.length≤cap∧b<S.nx∧cN S.h b=some cs∧∀i x,l[i]? =some x→cs[off+i]? =some (.int k x)
theorem tJ{S S':St}(h:Same S S'){b:Nat}(hb:b<S.nx):cN S'.h b=cN S.h b:=by unfold cN;rw[h.2 b hb]
theorem bK.same{k:IntKind}{S S':St}{v:AV}{l:List Int}(h:bK k S v l)(hs:Same S S'):bK k S' v l:=by
 rcases h with h | ⟨b,off,cap,o,cs,h1,hc,h2,h3,h4⟩
 ·exact .inl h
 ·exact .inr ⟨b,off,cap,o,cs,h1,hc,Ae h2 hs.1,by rw[tJ hs h2];exact h3,h4⟩
theorem bK.len{k:IntKind}{S:St}{v:AV}{l:List Int}(h:bK k S v l):kO v=some (.int .i64 (.ofNat l.length)):=by
 rcases h with⟨rfl,rfl | rfl⟩ | ⟨b,off,cap,o,cs,rfl,_⟩<;>rfl
def aCA(v:AV)(i:Nat):AV:=
 match v with
 | .sl b off _ _ _=>.ptr b (off+i * 1)
 | _=>.undef
theorem bK.iaddr{k:IntKind}{S:St}{v:AV}{l:List Int}(h:bK k S v l){i:Nat}(hi:i<l.length):eU (.slice 1) v i=some (aCA v i):=by
 rcases h with⟨rfl,_⟩ | ⟨b,off,cap,o,cs,rfl,_⟩
 ·simp at hi
 ·simp only[eU,aCA];have:Nat.blt i l.length=true:=Au hi;rw[this,aQ]
theorem bK.ld{k:IntKind}{S:St}{v:AV}{l:List Int}(h:bK k S v l){i:Nat}(hi:i<l.length):eH (aCA v i) false 1 S.h=some (.int k (l.getD i 0)):=by
 rcases h with⟨rfl,_⟩ | ⟨b,off,cap,o,cs,rfl,hc,hb,hcs,hel⟩
 ·simp at hi
 ·simp only[aCA,eH,mW,aW,kL,hcs,aK,oS,Dh];rw[hel i l[i] (Ab hi)];simp [Ad,hi]
theorem aEE(e:sC)(k:IntKind)(a b:Int):pO .add e (.int k a) (.int k b)=some (.int k (k.wrap (a+b))):=by
 show fF .add k a k b=_;unfold fF;rw[show gQ .add=false from rfl,aW,fC,aQ];show some (AV.int k (aKC k a b))=_;rw[aFH]
theorem aEA(e:sC)(k:IntKind)(a b:Int):pO .sub e (.int k a) (.int k b)=some (.int k (k.wrap (a - b))):=by
 show fF .sub k a k b=_;unfold fF;rw[show gQ .sub=false from rfl,aW,fC,aQ];show some (AV.int k (aH7 k a b))=_;rw[aCU]
theorem aEW(e:sC)(k:IntKind)(a b:Int):pO .mul e (.int k a) (.int k b)=some (.int k (k.wrap (a * b))):=by
 show fF .mul k a k b=_;unfold fF;rw[show gQ .mul=false from rfl,aW,fC,aQ];show some (AV.int k (aIy k a b))=_;rw[aDs]
theorem aEy(e:sC)(k:IntKind)(a b:Int):pO .lss e (.int k a) (.int k b)=some (.bool (decide (a<b))):=by
 show fF .lss k a k b=_;unfold fF;rw[show gQ .lss=false from rfl,aW,fC,aQ];show some (AV.bool (bN (ile b a) false true))=_;rw[oT,qU];congr 2;rw[Cg];simp
theorem aES(e:sC)(k:IntKind)(a b:Int):pO .leq e (.int k a) (.int k b)=some (.bool (decide (a≤b))):=by
 show fF .leq k a k b=_;unfold fF;rw[show gQ .leq=false from rfl,aW,fC,aQ];show some (AV.bool (ile a b))=_;rw[oT]
theorem aED(e:sC)(k:IntKind)(a b:Int):pO .gtr e (.int k a) (.int k b)=some (.bool (decide (b<a))):=by
 show fF .gtr k a k b=_;unfold fF;rw[show gQ .gtr=false from rfl,aW,fC,aQ];show some (AV.bool (bN (ile a b) false true))=_;rw[oT,qU];congr 2;rw[Cg];simp
theorem aEQ(e:sC)(k:IntKind)(a b:Int):pO .geq e (.int k a) (.int k b)=some (.bool (decide (b≤a))):=by
 show fF .geq k a k b=_;unfold fF;rw[show gQ .geq=false from rfl,aW,fC,aQ];show some (AV.bool (ile b a))=_;rw[oT]
theorem aBW(e:sC)(k:IntKind)(a b:Int):pO .eql e (.int k a) (.int k b)=some (.bool (decide (a=b))):=by
 show fF .eql k a k b=_;unfold fF;rw[show gQ .eql=false from rfl,aW,fC,aQ];show some (AV.bool (ieq a b))=_;rw[iL];congr 2
theorem aFl(e:sC)(k:IntKind)(a b:Int):pO .neq e (.int k a) (.int k b)=some (.bool (decide (a≠b))):=by
 show fF .neq k a k b=_;unfold fF;rw[show gQ .neq=false from rfl,aW,fC,aQ];show some (AV.bool (bN (ieq a b) false true))=_;rw[iL,qU];congr 2;rw[Cg];simp
section
variable (F:Fr)(h:T AB)
theorem aFf(x:cL):fV (.mv x) F h=some (x.val F):=rfl
theorem aBY(op:BinOp)(e:sC)(x y:cL):fV (.bin op e x y) F h=pO op e (x.val F) (y.val F):=rfl
theorem aHj(op:UnOp)(x:cL):fV (.un op x) F h=unV op (x.val F):=rfl
theorem wP(x:cL):fV (.lenSl x) F h=kO (x.val F):=rfl
theorem pK(k:IxK)(x ix:cL):fV (.iaddr k x ix) F h=aZ (fI (ix.val F)) fun i=>eU k (x.val F) i:=rfl
theorem lN(agg:Bool)(n:Nat)(x:cL):fV (.ld agg n x) F h=eH (x.val F) agg n h:=rfl
theorem aCb(k:aIh)(x:cL):fV (.conv k x) F h=aCZ k (x.val F) h:=rfl
theorem wB(x:cL)(i:Nat):fV (.extract x i) F h=jF (x.val F) i:=rfl
theorem aDA(c a b:cL):fV (.pick c a b) F h=wA (c.val F) a b F:=rfl
theorem aFg(agg:Bool)(off n:Nat)(x:cL):fV (.fld agg off n x) F h=aI4 (x.val F) agg off n:=rfl
end
theorem aG(k:IntKind)(n:Nat):fI (.int k (n:Int))=some n:=rfl
theorem aCI(k j:IntKind)(n:Int)(h:T AB):aCZ (.int k) (.int j n) h=some (.int k (k.wrap n)):=by
 show some (AV.int k (aD3 k n))=_;rw[zR]
end Go.Ev
namespace Go.Ev
variable {fns:T eG}
def kR{α:Type}(x:Option α)(Q:α→Prop):Prop:=∃a,x=some a∧Q a
theorem dW{α:Type}(a:α)(Q:α→Prop):kR (some a) Q=Q a:=propext ⟨fun⟨_,h1,h2⟩=>by cases h1;exact h2,fun h=>⟨a,rfl,h⟩⟩
theorem aHe{d:Option Nat}{q:xL}{m:Nat}{l:List AO}{F:Fr}{S:St}{Q:Fr→St→Prop}:tX fns (⟨d,.q q,none,m⟩::l) F S Q↔kR (fV q F S.h) fun v=>tX fns l (cK d F v) S Q:=by
 constructor
 ·rintro⟨n,F',S',h1,h2⟩;rw[gF] at h1;obtain⟨r,h3,h4⟩:=aM h1;obtain⟨v,h5,h6⟩:=aM (show aZ (fV q F S.h) (fun v=>some (cK d F v,S))=some r from h3);cases h6;exact⟨v,h5,n,F',S',h4,h2⟩
 ·rintro⟨v,h1,h2⟩;exact aKi h1 h2
theorem aAK{d:Option Nat}{a:uS}{m:Nat}{l:List AO}{F:Fr}{S:St}{Q:Fr→St→Prop}:tX fns (⟨d,.a a,none,m⟩::l) F S Q↔kR (uL a F S.nx) fun r=>tX fns l (cK d F r.1) ⟨S.h.set S.nx (some r.2),S.nx+1⟩ Q:=by
 constructor
 ·rintro⟨n,F',S',h1,h2⟩;rw[gF] at h1;obtain⟨r,h3,h4⟩:=aM h1;obtain⟨v,h5,h6⟩:=aM (show aZ (uL a F S.nx) (fun r=>some (cK d F r.1,(⟨S.h.set S.nx (some r.2),Nat.succ S.nx⟩:St)))=some r from h3);cases h6;exact⟨v,h5,n,F',S',h4,h2⟩
 ·rintro⟨⟨v,bl⟩,h1,h2⟩;exact aPC h1 h2
def yG(fns:T eG)(ops:List AO)(i base:Nat)(D:DS)(Q:DS→Prop):Prop:=∃n D',uQ ops i base (ev fns n).call D=some D'∧Q D'
theorem qO{ops:List AO}{A:bH}{S:St}{Q:Out→bH→St→Prop}(h:yG fns ops 0 S.nx ⟨A.F,⟨S.h,S.nx+ops.length⟩,[],[],[]⟩ fun D=>fN S.h D.hs.reverse D.ls=true∧Q .normal ⟨D.F,A.inr⟩ ⟨(cF (2 ^ ops.length - 1) D.ps D.S.h).2,D.S.nx⟩):iH fns (.drw ops) A S Q:=by
 obtain⟨n,D,h1,h2,h3⟩:=h;refine⟨n+1,.normal,⟨D.F,A.inr⟩,⟨(cF (2 ^ ops.length - 1) D.ps D.S.h).2,D.S.nx⟩,?_,h3⟩;show aZ (aZ (uQ ops 0 S.nx (ev fns n).call ⟨A.F,⟨S.h,S.nx+lI ops⟩,[],[],[]⟩) fun D=>zQ S.h (lI ops) D) _=_;rw[fL,h1,aK];unfold zQ;rw[h2,aQ];rfl
theorem fZ{i base:Nat}{D:DS}{Q:DS→Prop}:yG fns [] i base D Q↔Q D:=
 ⟨fun⟨_,_,h1,h2⟩=>by cases h1;exact h2,fun h=>⟨0,D,rfl,h⟩⟩
theorem lA{d:Option Nat}{q:xL}{m i base:Nat}{l:List AO}{D:DS}{Q:DS→Prop}:yG fns (⟨d,.q q,none,m⟩::l) i base D Q↔
  kR (fV q D.F D.S.h) fun v=>yG fns l (i+1) base ⟨cK d D.F v,D.S,D.ps,D.hs,bN (dI q) (⟨q,D.F,v,i,m⟩::D.ls) D.ls⟩ Q:=by
 constructor
 ·rintro⟨n,D',h1,h2⟩;obtain⟨r,h3,h4⟩:=aM (show aZ (rT ⟨d,.q q,none,m⟩ i base (ev fns n).call D) (fun D'=>uQ l (i+1) base (ev fns n).call D')=some D' from h1);obtain⟨v,h5,h6⟩:=aM (show aZ (fV q D.F D.S.h) (fun v=>some (⟨cK d D.F v,D.S,D.ps,D.hs,bN (dI q) (⟨q,D.F,v,i,m⟩::D.ls) D.ls⟩:DS))=some r from h3);cases h6;exact⟨v,h5,n,D',h4,h2⟩
 ·rintro⟨v,h1,n,D',h2,h3⟩;refine⟨n,D',?_,h3⟩;show aZ (aZ (fV q D.F D.S.h) _) _=_;rw[h1];exact h2
theorem aHx{d:Option Nat}{a:uS}{m i base:Nat}{l:List AO}{D:DS}{Q:DS→Prop}:yG fns (⟨d,.a a,none,m⟩::l) i base D Q↔
  kR (uL a D.F (base+i)) fun r=>yG fns l (i+1) base ⟨cK d D.F r.1,D.S,⟨i,base+i,r.2⟩::D.ps,D.hs,D.ls⟩ Q:=by
 constructor
 ·rintro⟨n,D',h1,h2⟩;obtain⟨r,h3,h4⟩:=aM (show aZ (rT ⟨d,.a a,none,m⟩ i base (ev fns n).call D) (fun D'=>uQ l (i+1) base (ev fns n).call D')=some D' from h1);obtain⟨v,h5,h6⟩:=aM (show aZ (uL a D.F (base+i)) (fun r=>some (⟨cK d D.F r.1,D.S,⟨i,base+i,r.2⟩::D.ps,D.hs,D.ls⟩:DS))=some r from h3);cases h6;exact⟨v,h5,n,D',h4,h2⟩
 ·rintro⟨r,h1,n,D',h2,h3⟩;refine⟨n,D',?_,h3⟩;show aZ (aZ (uL a D.F (base+i)) _) _=_;rw[h1];exact h2
theorem jP{d:Option Nat}{x:XOp}{m i base:Nat}{l:List AO}{D:DS}{Q:DS→Prop}{v:AV}{S1:St}(hl:iY D.hs m=true)(h:∀call,zB x call D.F ⟨(cF m D.ps D.S.h).2,D.S.nx⟩=some (v,S1))
  (hq:yG fns l (i+1) base ⟨cK d D.F v,S1,(cF m D.ps D.S.h).1,(i,m,S1.h)::D.hs,D.ls⟩ Q):yG fns (⟨d,.x x,none,m⟩::l) i base D Q:=by
 obtain⟨n,D',h2,h3⟩:=hq;refine⟨n,D',?_,h3⟩;show aZ (bN (iY D.hs m) (aZ (zB x (ev fns n).call D.F ⟨(cF m D.ps D.S.h).2,D.S.nx⟩) _) none) _=_;rw[hl,aQ,h];exact h2
theorem vG{d:Option Nat}{f:cL}{args:List cL}{m i base:Nat}{l:List AO}{D:DS}{Q:DS→Prop}(hl:iY D.hs m=true)
  (h:gH fns (f.val D.F) (dD args D.F) ⟨(cF m D.ps D.S.h).2,D.S.nx⟩ fun v S1=>yG fns l (i+1) base ⟨cK d D.F v,S1,(cF m D.ps D.S.h).1,(i,m,S1.h)::D.hs,D.ls⟩ Q):yG fns (⟨d,.x (.call f args),none,m⟩::l) i base D Q:=by
 obtain⟨n,v,S1,h1,k,D',h2,h3⟩:=h;refine⟨max n k,D',?_,h3⟩;show aZ (bN (iY D.hs m) (aZ ((ev fns (max n k)).call (f.val D.F) (dD args D.F) ⟨(cF m D.ps D.S.h).2,D.S.nx⟩) _) none) _=_;rw[hl,aQ,(jM fns (El n k)).call _ _ _ _ h1];exact sQ (jM fns (Eg n k)).call h2
theorem aKu{d:Option Nat}{op:AOp}{s:Nat}{b:Bool}{m i base:Nat}{l:List AO}{D:DS}{Q:DS→Prop}(hg:aB s D.F= .bool b)(hl:yG fns (⟨d,op,none,m⟩::l) i base D Q):yG fns (⟨d,op,some (s,b),m⟩::l) i base D Q:=by
 obtain⟨n,D',h1,h2⟩:=hl;refine⟨n,D',?_,h2⟩;have:rT ⟨d,op,some (s,b),m⟩ i base (ev fns n).call D=rT ⟨d,op,none,m⟩ i base (ev fns n).call D:=by
  unfold rT;have e1:eM (some (s,b)) D.F=true:=by show isB (aB s D.F) b=true;rw[hg];cases b<;>rfl
  have e2:eM none D.F=true:=rfl;simp only[e1,e2];cases op<;>rfl
 show aZ (rT ⟨d,op,some (s,b),m⟩ i base (ev fns n).call D) _=_;rw[this];exact h1
theorem cS(k:IntKind)(a:Int):cC (.int k a) (.int k a)=true:=by simp [cC,cJ,fC,iL]
theorem aAP(a:Bool):cC (.bool a) (.bool a)=true:=by simp [cC,uG]
theorem aC9(a b:Nat):cC (.ptr a b) (.ptr a b)=true:=by simp [cC,cJ,Bh]
theorem nS(a b c d:Nat)(o:Bool):cC (.sl a b c d o) (.sl a b c d o)=true:=by simp [cC,Bh,uG]
theorem yX:cC .nilsl .nilsl=true:=rfl
end Go.Ev
namespace Go.Ev
def uY(S:St):Prop:=∀b,S.nx≤b→S.h.get b=none
def Frs(S S':St):Prop:=(uY S→uY S')∧S.nx≤S'.nx
theorem aI6(S:St)(x:Option AB):Frs S ⟨S.h.set S.nx x,S.nx+1⟩:=
 ⟨fun h c hc=>by simp only at hc ⊢;rw[T.get_set,if_neg (by omega)];exact h c (by omega),Nat.le_succ _⟩
end Go.Ev
namespace Go.Ev
variable {P:Program}{σ:Env}{S:St}{w:World}
def aEV:List (Nat×Nat×IntKind×Int)→AC
 | []=>.seq (.reg [⟨some 0,.q (.mv (.c (.bool true))),none,0⟩]) .ret
 | (g,j,k,z)::l=>.seq (.reg [⟨some 1,.q (.ld false 1 (.c (.ptr g j))),none,0⟩,⟨some 2,.q (.bin .eql (.p .int) (.t 1) (.c (.int k z))),none,0⟩]) (.seq (.cond (.t 2) .skip (.exit 0)) (aEV l))
def aAY(l:List (Nat×Nat×IntKind×Int)):eG:=⟨0,[.t 0],aEV l⟩
theorem aH2{fns:T eG}{Q:Out→bH→St→Prop}(hQ:∀A,aB 0 A.F= .bool true→Q .ret A S):∀ {l:List (Nat×Nat×IntKind×Int)} {A:bH},(∀c∈l,kL S.h c.1 c.2.1=some (.int c.2.2.1 c.2.2.2))→iH fns (aEV l) A S Q
 | [],A,_=>by
  refine aA (aJ ?_);rw[aHe];exact⟨.bool true,rfl,(aAn).2 (aS (hQ _ (by rw[cE,if_pos rfl])))⟩
 | (g,j,k,z)::l,A,h=>by
  have h1:=h (g,j,k,z) (by simp);simp only at h1;refine aA (aJ (aKi (v:=.int k z) h1 (aKi (v:=.bool true) ?_ (aAn.2 ?_))))
  ·show pO .eql (.p .int) (aB 1 (cK (some 1) A.F (.int k z))) (.int k z)=_;rw[cE,if_pos rfl,aBW,Ac rfl]
  refine aA (aHd (t:=true) (by show aB 2 _=_;rw[cE,if_pos rfl]) (fun _=>aI ?_) (fun h=>by cases h));exact aH2 hQ fun c hc=>h c (by simp [hc])
theorem aKA{fns:T eG}{id:Nat}{l:List (Nat×Nat×IntKind×Int)}(hfn:fns.get id=some (aAY l))(h:∀c∈l,kL S.h c.1 c.2.1=some (.int c.2.2.1 c.2.2.2)):gH fns (.fn id [] []) [] S fun r S'=>r= .bool true∧S'=S:=by
 refine cI hfn (by simp) (aH2 (fun A hA=>?_) h);exact⟨[aB 0 A.F],rfl,by rw[hA];rfl,rfl⟩
theorem aFr{v:AV}{k:IntKind}{z:Int}(h:pO .eql (.p .int) v (.int k z)=some (.bool true)):v= .int k z:=by
 cases v with
 | int k' z'=>
  have h':fF .eql k' z' k z=some (.bool true):=h;unfold fF at h';rw[show gQ .eql=false from rfl,aW] at h';obtain⟨hk,h'⟩:=cD h';have hz:some (AV.bool (ieq z' z))=some (.bool true):=h';simp only[An,AV.bool.injEq] at hz;rw[iL] at hz;have hz:=eq_of_beq hz;subst hz;have hkk:k'=k:=by
   cases k<;>cases k'<;>first | rfl | (exfalso;revert hk;decide)
  rw[hkk]
 | _=>cases h
theorem aF4{fns:T eG}:∀ {l:List (Nat×Nat×IntKind×Int)} {n:Nat} {A A':bH} {S':St} {o:Out},(ev fns n).code (aEV l) A S=some (o,A',S')→(∀i,o≠ .exit i)→(∀c∈l,kL S.h c.1 c.2.1=some (.int c.2.2.1 c.2.2.2))∧S'=S∧aB 0 A'.F= .bool true
 | l,0,_,_,_,_,h,_=>by cases h
 | l,1,A,A',S',o,h,_=>by
  cases l with
  | nil=>
   have h':(none:Option (Out×bH×St))=some (o,A',S'):=h;cases h'
  | cons c l=>
   obtain⟨g,j,k,z⟩:=c;have h':(none:Option (Out×bH×St))=some (o,A',S'):=h;cases h'
 | [],n+2,A,A',S',o,h,ho=>by
  obtain⟨⟨o1,A1,S1⟩,h1,h2⟩:=aM (show aZ ((ev fns (n+1)).code (.reg [⟨some 0,.q (.mv (.c (.bool true))),none,0⟩]) A S) (tC .ret (ev fns (n+1)))=some (o,A',S') from h);have e1:(ev fns (n+1)).code (.reg [⟨some 0,.q (.mv (.c (.bool true))),none,0⟩]) A S=some (.normal,⟨cK (some 0) A.F (.bool true),A.inr⟩,S):=rfl;rw[e1] at h1;cases h1;have e2:tC .ret (ev fns (n+1)) (.normal,⟨cK (some 0) A.F (.bool true),A.inr⟩,S)=some (.ret,⟨cK (some 0) A.F (.bool true),A.inr⟩,S):=rfl;rw[e2] at h2;cases h2;exact⟨fun c hc=>(by cases hc),rfl,by rw[cE,if_pos rfl]⟩
 | (g,j,k,z)::l,n+2,A,A',S',o,h,ho=>by
  obtain⟨⟨o1,A1,S1⟩,h1,h2⟩:=aM (show aZ ((ev fns (n+1)).code (.reg [⟨some 1,.q (.ld false 1 (.c (.ptr g j))),none,0⟩,⟨some 2,.q (.bin .eql (.p .int) (.t 1) (.c (.int k z))),none,0⟩]) A S) (tC (.seq (.cond (.t 2) .skip (.exit 0)) (aEV l)) (ev fns (n+1)))=some (o,A',S') from h);obtain⟨⟨F1,S2⟩,h3,h4⟩:=aM (show aZ (uO [⟨some 1,.q (.ld false 1 (.c (.ptr g j))),none,0⟩,⟨some 2,.q (.bin .eql (.p .int) (.t 1) (.c (.int k z))),none,0⟩] (ev fns n).call A.F S) (fun r=>some (.normal,(⟨r.1,A.inr⟩:bH),r.2))=some (o1,A1,S1) from h1);cases h4;rw[gF] at h3;obtain⟨⟨F2,S3⟩,h5,h6⟩:=aM h3;obtain⟨v,hv,h7⟩:=aM (show aZ (kL S.h g j) (fun v=>some (cK (some 1) A.F v,S))=some (F2,S3) from h5);cases h7;rw[gF] at h6;obtain⟨⟨F4,S4⟩,h8,h9⟩:=aM h6;cases h9;obtain⟨b,hb,h10⟩:=aM (show aZ (pO .eql (.p .int) (aB 1 (cK (some 1) A.F v)) (.int k z)) (fun u=>some (cK (some 2) (cK (some 1) A.F v) u,S))=some (F4,S4) from h8);cases h10;rw[cE,if_pos rfl] at hb;have h2:(ev fns (n+1)).code (.seq (.cond (.t 2) .skip (.exit 0)) (aEV l)) ⟨cK (some 2) (cK (some 1) A.F v) b,A.inr⟩ S=some (o,A',S'):=h2;obtain⟨⟨o5,A5,S5⟩,k1,k2⟩:=aM (show aZ ((ev fns n).code (.cond (.t 2) .skip (.exit 0)) ⟨cK (some 2) (cK (some 1) A.F v) b,A.inr⟩ S) (tC (aEV l) (ev fns n))=some (o,A',S') from h2);cases n with
  | zero=>cases k1
  | succ n=>
   have k1:aBi (aB 2 (cK (some 2) (cK (some 1) A.F v) b)) .skip (.exit 0) (ev fns n) ⟨cK (some 2) (cK (some 1) A.F v) b,A.inr⟩ S=some (o5,A5,S5):=k1;rw[cE,if_pos rfl] at k1;cases b with
   | bool t=>
    have k1:(ev fns n).code (bN t .skip (.exit 0)) ⟨cK (some 2) (cK (some 1) A.F v) (.bool t),A.inr⟩ S=some (o5,A5,S5):=k1;cases t with
    | true=>
     rw[aQ] at k1;cases n with
     | zero=>cases k1
     | succ n=>
      have e:(ev fns (n+1)).code .skip ⟨cK (some 2) (cK (some 1) A.F v) (.bool true),A.inr⟩ S=some (.normal,⟨cK (some 2) (cK (some 1) A.F v) (.bool true),A.inr⟩,S):=rfl;rw[e] at k1;cases k1;have ih:=aF4 (l:=l) (show(ev fns (n+1+1)).code (aEV l) _ S=some (o,A',S') from k2) ho;refine⟨fun c hc=>?_,ih.2⟩;rcases Bm.1 hc with rfl | hc
      ·rw[hv,aFr hb]
      ·exact ih.1 c hc
    | false=>
     rw[aW] at k1;cases n with
     | zero=>cases k1
     | succ n=>
      have e:(ev fns (n+1)).code (.exit 0) ⟨cK (some 2) (cK (some 1) A.F v) (.bool false),A.inr⟩ S=some (.exit 0,⟨cK (some 2) (cK (some 1) A.F v) (.bool false),A.inr⟩,S):=rfl;rw[e] at k1;cases k1;have k2:some (Out.exit 0,(⟨cK (some 2) (cK (some 1) A.F v) (.bool false),A.inr⟩:bH),S)=some (o,A',S'):=k2;cases k2;exact absurd rfl (ho 0)
   | _=>cases k1
theorem aI5{fns:T eG}{l:List (Nat×Nat×IntKind×Int)}{n:Nat}{S':St}{v:AV}(h:vL (aAY l) [] (ev fns n) S=some (v,S')):(∀c∈l,kL S.h c.1 c.2.1=some (.int c.2.2.1 c.2.2.2))∧S'=S∧v= .bool true:=by
 unfold vL at h;obtain⟨_,h⟩:=cD h;obtain⟨⟨o,A',S1⟩,h1,h2⟩:=aM h;unfold aEz at h2;split at h2
 ·cases h2
 ·rename_i hne;obtain⟨vs,h3,h4⟩:=aM h2;cases h4;obtain⟨k1,k2,k3⟩:=aF4 (show(ev fns n).code (aEV l) ⟨.e,false⟩ S=some (o,A',S1) from h1) (fun i e=>hne i e);refine⟨k1,k2,?_⟩;have:some [aB 0 A'.F]=some vs:=h3;cases this;exact k3
def aDm:Nat→Nat→List (IntKind×Int)→List (Nat×Nat×IntKind×Int)
 | _,_,[]=>[]
 | g,j,(k,z)::l=>(g,j,k,z)::aDm g (j+1) l
theorem aDF:∀ {l:List (IntKind×Int)} {g j i:Nat} {k:IntKind} {z:Int},l[i]? =some (k,z)→(g,j+i,k,z)∈aDm g j l
 | [],_,_,_,_,_,h=>by simp at h
 | (k,z)::l,g,j,0,k',z',h=>by
  simp at h;obtain⟨rfl,rfl⟩:=h;simp [aDm]
 | (k,z)::l,g,j,i+1,k',z',h=>by
  have:=aDF (g:=g) (j:=j+1) (show l[i]? =some (k',z') by simpa using h);rw[show j+(i+1)=j+1+i by omega];exact Bj _ this
def mM:List (Nat×List (IntKind×Int))→List (Nat×Nat×IntKind×Int)
 | []=>[]
 | (g,l)::r=>aDm g 0 l++mM r
theorem zX:∀ {t:List (Nat×List (IntKind×Int))} {g:Nat} {l:List (IntKind×Int)},(g,l)∈t→∀c∈aDm g 0 l,c∈mM t
 | (g',l')::t,g,l,h,c,hc=>by
  simp only[mM,Bx];rcases Bm.1 h with h | h
  ·cases h;exact .inl hc
  ·exact .inr (zX h c hc)
theorem aF5(hR:kC P σ S w){t:List (Nat×List (IntKind×Int))}(hg:∀x∈t,x.1<P.globals.size∧x.2≠ [])(h:∀c∈mM t,kL S.h c.1 c.2.1=some (.int c.2.2.1 c.2.2.2)):aKL P (t.map fun x=>(x.1,x.2.map fun y=>AV.int y.1 y.2)) w:=by
 intro x hx;obtain⟨⟨g,l⟩,hgl,rfl⟩:=Du.1 hx;obtain⟨h1,h2⟩:=hg _ hgl;have hc:∀i k z,l[i]? =some (k,z)→kL S.h g i=some (.int k z):=fun i k z hi=>by
  have:=h _ (zX hgl _ (aDF (g:=g) (j:=0) hi));simpa using this
 obtain⟨⟨k0,z0⟩,l',rfl⟩:∃a l',l=a::l':=by cases l with | nil=>exact absurd rfl h2 | cons a l'=>exact⟨a,l',rfl⟩
 have h0:=hc 0 k0 z0 rfl;unfold kL cN at h0;obtain⟨cs,h3,h4⟩:=aM h0;obtain⟨bl,h5,h6⟩:=aM h3;obtain⟨L,h7,h8,h9⟩:=hR.blk g bl h5;rw[hR.glob g h1] at h7;cases h7;have hcs:∀i k z,((k0,z0)::l')[i]? =some (k,z)→cs[i]? =some (AV.int k z):=fun i k z hi=>by
  have:=hc i k z hi;unfold kL cN at this;rw[h5,aK,h6,aK,oS] at this;exact this
 have key:∀Cs,gO P σ cs Cs→w.rangeAt g 0 Cs→∃Ds,gO P (aC1 P) (((k0,z0)::l').map fun y=>AV.int y.1 y.2) Ds∧(∀u∈Ds,u.oneCell'=true)∧w.rangeAt g 0 Ds:=by
  intro Cs hC hr;refine⟨((k0,z0)::l').map fun y=>Value.int y.1 y.2,?_,fun u hu=>?_,fun j v hv=>?_⟩
  ·clear hcs hc hg h h0 hgl hx h2;generalize (k0,z0)::l'=m
   induction m with
   | nil=>exact cU.2 rfl
   | cons a m ih=>exact dJ.2 ⟨_,_,rfl,by simp only[Rv],ih⟩
  ·obtain⟨y,_,rfl⟩:=Du.1 hu;rfl
  ·rw[Aq,Aw] at hv;obtain⟨⟨k,z⟩,hkz,rfl⟩:=hv;have h10:=hcs j k z hkz;obtain⟨V,hV,hVV⟩:=hC.get h10;simp only[Rv] at hVV;rw[←hVV];exact hr j V hV
 refine⟨h1,by simpa using h8,?_⟩;cases bl with
 | cells ds o s=>
  simp only[jS,An] at h6;subst h6;obtain⟨Cs,q1,_,q3,_⟩:=h9;exact key Cs q1 q3
 | ro ds=>
  simp only[jS,An] at h6;subst h6;obtain⟨Cs,q1,_,q3⟩:=h9;exact key Cs q1 q3
 | _=>cases h6
theorem aEL{l:List (Nat×List AV)}{σ':Env}{S':St}{w':World}(hR:kC P σ S w)(h:iD P (aC1 P) (stL P l) w σ' S' w'):iD P σ S w σ S w':=by
 have hk:∀r,r<w.heap.size→w'.heap[r]? =w.heap[r]? :=fun r hr=>h.keep r hr (aQJ r);refine⟨⟨fun b bl hb=>?_,hR.lt,hR.fresh,hR.glob,hR.inj⟩,fun _ _=>rfl,Ah _,fun r hr _=>hk r hr,fun _ ho=>.inl ho,h.size,h.os,h.tape,h.output,fun _ _ hb=>hb⟩;obtain⟨L,q1,q2,q3⟩:=hR.blk b bl hb;exact⟨L,q1,Ae q2 h.size,q3.frame (fun _ _ x=>x) (hk _ q2)⟩
theorem aDN{fns:T eG}{id nt:Nat}{res:List RV}{c:AC}{Fn:Func}{t:List (Nat×List (IntKind×Int))}{l:List (Nat×List AV)}(hFn:P.funcs[id]? =some Fn)(hc:cFn P Fn=some ⟨nt,res,c⟩)(hl:l=t.map fun x=>(x.1,x.2.map fun y=>AV.int y.1 y.2))(hg:∀x∈t,x.1<P.globals.size∧x.2≠ [])
  (h:Good P c ⟨.e,false⟩ (stL P l) fun o A S=>aIM res o A S=some true):aIu P fns id (aAY (mM t)):=by
 obtain⟨C,c',rs,hbody,hname,hC,hrs,heq⟩:=aCQ hc;cases heq;refine⟨rfl,⟨Fn,C,hFn,hbody,hname⟩,fun n S S' v hrun σ w fv hf hR=>?_⟩;obtain⟨hloads,hS',hv⟩:=aI5 hrun;subst hS';subst hv;have hT:aKL P l w:=by rw[hl];exact aF5 hR hg hloads
 simp only[Rv] at hf;obtain⟨A,B,rfl,hA,hB⟩:=hf;have hA:=cU.1 hA;have hB:=cU.1 hB;subst hA;subst hB;rw[lL hFn hbody hname];show CallsIn Fence.wide 0 P id ⟨[]++([]++ [])⟩ w _;refine callsIn_of_wp_marks hFn hbody trivial ?_;obtain⟨hfr,hsz⟩:=aCt (P:=P) (σ:=aC1 P) (args:=[]) (Args:=[]) (cU.2 rfl) (nt:=Fn.ntmps) (De _);rw[←aEH];refine h none 0 Fn.ntmps C hC (fun _=>rfl) w.heap.size (aC1 P) _ w _ hsz Df.nil (Ah _) hfr (aOK hT) ?_;intro o A' S2 σ' a' w' hret hinr hsz' hdf hfr' hext;obtain⟨hoo,hres⟩:=aJr hret;obtain⟨_,rks,hd,hnd,hmk⟩:=hdf;have fin:∀w'',iD P (aC1 P) (stL P l) w σ' S2 w''→∃V,(Go.results Fn a'.tmps).run P w''= .ok V w''∧∃σ',Rv P σ' (.bool true) V∧iD P σ S' w σ' S' w'':=fun w'' hx=>by
  obtain⟨Vs,h8,h9⟩:=oC hx.rep hfr' hrs hres;refine⟨if h:Vs.toArray.size=1 then Vs.toArray[0] else .tuple Vs.toArray,?_,σ,?_,aEL hR hx⟩
  ·show((do let vs ←Fn.results.mapM (aEa a'.tmps);pure (if h:vs.size=1 then vs[0] else .tuple vs):Sem Value)).run P w''=_;rw[Array.mapM_eq_mapM_toList];simp only[Sem.run_bind,Sem.run_map,h8,Result.andThen_ok,Sem.run_pure]
  ·have:=aBI h9;simp only[oneOf,Rv] at this;rw[this];simp only[Rv]
 rcases hoo with rfl | rfl
 ·show LeavesInM Fence.wide 0 P Fn a'.tmps _ a'.defers .returning w';rw[hd];exact leaves rks w' hnd hmk hext fin
 ·show LeavesInM Fence.wide 0 P Fn a'.tmps _ a'.defers .returning w';rw[hd];exact leaves rks w' hnd hmk hext fin
theorem aE2{l:List (Nat×eG)}(hmix:P.follows .mixedOrders=true)(hl:∀p∈l,Row P p∨aIu P (table l) p.1 p.2):qR P (table l):=
 ⟨asked P,tP P,fun id fn h=>by
  rcases hl _ (aA9 h) with⟨Fn,h1,h2⟩ | h1
  ·exact .inl ⟨Fn,h1,h2⟩
  ·exact .inr h1,fun call hcall=>aBJ (asked P) (tP P) hmix call hcall⟩
end Go.Ev
namespace Go.Ev
variable {P:Program}{σ:Env}{S:St}{w:World}
def wF(S:St):Prop:=∀b bl,S.h.get b=some bl→¬uJ bl
def yV(σ:Env)(b:Nat)(L:Loc):Env:=fun c=>if c=b then some L else σ c
theorem aNV(hR:kC P σ S w)(L:Loc):∀b M,σ b=some M→yV σ S.nx L b=some M:=fun b M h=>by
 have:=hR.below h;unfold yV;rw[if_neg (by omega)];exact h
structure oH(P:Program)(σ:Env)(S:St)(w:World)(σ':Env)(S':St):Prop where
 rep:kC P σ' S' w
 no:wF S'
 same:Same S S'
 fresh:uY S'
 le:∀b L,σ b=some L→σ' b=some L
theorem oH.refl(hR:kC P σ S w)(hn:wF S)(hf:uY S):oH P σ S w σ S:=⟨hR,hn,Same.refl S,hf,fun _ _ h=>h⟩
theorem oH.trans{σ' σ'':Env}{S' S'':St}(h:oH P σ S w σ' S')(h':oH P σ' S' w σ'' S''):oH P σ S w σ'' S'':=⟨h'.rep,h'.no,h.same.trans h'.same,h'.fresh,fun b L hb=>h'.le b L (h.le b L hb)⟩
theorem aN8(hn:wF S)(r:Nat):¬Own σ S r:=fun⟨b,bl,_,h1,h2,_⟩=>hn b bl h1 h2
theorem aJc{fns:T eG}(hK:qR P fns){id:Nat}{b:Bool}{Fn:Func}(hFn:P.funcs[id]? =some Fn)(hb:Fn.body.isSome=true)(hnm:(Fn.name== "runtime.NumGoroutine")=false){avs:List AV}{Args:List Value}{Q:St→Prop}
  (h:gH fns (.fn id [] []) avs S fun r S'=>r= .bool b∧Q S') (hargs:gO P σ avs Args) (hR:kC P σ S w) (hn:wF S):
  Calls P id ⟨Args⟩ w fun e w'=>e= .returned (.bool b)∧Kept w w':=by
 obtain⟨n,v,S',hrun0,hv,_⟩:=h;subst hv;have hs:=aJ1 hK n _ _ _ _ _ hrun0 σ w (.func (.func id) ⟨[]⟩ ⟨[]⟩) Args (by simp only[Rv];exact⟨[],[],rfl,cU.2 rfl,cU.2 rfl⟩) hargs hR;have hnm':¬Fn.name= "runtime.NumGoroutine" :=by simpa using hnm
 obtain⟨C,hC⟩:=Option.isSome_iff_exists.1 hb;have hrun:((do let d ←Deferred.ofValue (.func (.func id) ⟨[]⟩ ⟨[]⟩) ⟨Args⟩;invoke d.target d.args:Sem Next)).run P w= .ok (.enter id ⟨Args⟩) w:=by
  simp only[Deferred.ofValue,Sem.run_bind,Sem.run_pure,Result.andThen_ok,invoke,callFunc,run_program,hFn];simp [hC,hnm']
 rw[hrun] at hs;have hs:CallsIn Fence.wide 0 P id ⟨Args⟩ w _:=hs;refine(callsIn_wide.1 hs).mono fun e w' h=>?_;cases e with
 | returned V=>
  obtain⟨σ',h1,h2⟩:=h;simp only[Rv] at h1;subst h1;exact⟨rfl,h2.kept (aN8 hn)⟩
 | _=>exact h.elim
theorem aMf{l:List (Nat×List AV)}:wF (stL P l):=fun b bl h ho=>by
 obtain⟨cs,_,rfl⟩:=nN h;exact ho.elim
theorem aMk{l:List (Nat×List AV)}(hl:∀x∈l,x.1<P.globals.size):uY (stL P l):=fun b hb=>by
 cases h:(stL P l).h.get b with
 | none=>rfl
 | some bl=>
  obtain⟨cs,h1,_⟩:=nN h;have h2:=hl _ h1;simp only[stL] at hb;simp only at h2;omega
end Go.Ev
namespace Go.Ev
variable {P:Program}{σ:Env}{S:St}{w:World}
theorem aIB(hR:kC P σ S w)(hn:wF S)(hf:uY S)(hG:P.globals.size≤S.nx){r d:Nat}{cs:List AV}{Cs:List Value}(hr:r<w.heap.size)(hc:gO P σ cs Cs)(h1:∀u∈Cs,u.oneCell'=true)(hw:w.rangeAt r d Cs):
  oH P σ S w (yV σ S.nx ⟨r,d,0⟩) ⟨S.h.set S.nx (some (.ro cs)),S.nx+1⟩:=by
 have hle:=aNV hR ⟨r,d,0⟩;refine⟨⟨fun b bl hb=>?_,fun b bl hb=>?_,fun b hb=>?_,fun g hg=>?_,fun b b' bl bl' L L' hb _ ho=>?_⟩,fun b bl hb=>?_,Same.alloc S _,(aI6 S _).1 hf,hle⟩
 ·simp only at hb;rw[T.get_set] at hb;split at hb
  ·rename_i e;subst e;cases hb;exact⟨⟨r,d,0⟩,by unfold yV;rw[if_pos rfl],hr,Cs,hc.mono hle,h1,hw⟩
  ·obtain⟨L,h1,h2,h3⟩:=hR.blk b bl hb;exact⟨L,hle b L h1,h2,h3.frame hle rfl⟩
 ·simp only at hb;rw[T.get_set] at hb;split at hb
  ·rename_i e;subst e;simp
  ·have:=hR.lt b bl hb;simp only;omega
 ·simp only at hb;unfold yV;rw[if_neg (by omega)];exact hR.fresh b (by omega)
 ·unfold yV;rw[if_neg (by omega)];exact hR.glob g hg
 ·simp only at hb;rw[T.get_set] at hb;split at hb
  ·cases hb;exact ho.elim
  ·exact absurd ho (hn b bl hb)
 ·simp only at hb;rw[T.get_set] at hb;split at hb
  ·cases hb;exact fun h=>h
  ·exact hn b bl hb
def Lays(P:Program)(t:TypeId){α:Type}(E:St→List AV→α→Prop):Prop:=
 ∀ (H:Type) (enc:TypeId×Value→H) (σ:Env) (S:St) (w:World) (base:Nat) (spare:Nat→Bool) (held:Bool) (fuel:Nat) (cs:List Value) (x:DataW H×List MemPlace),kC P σ S w→wF S→uY S→P.globals.size≤S.nx→DataW.trod enc P w base spare held fuel t cs=some x→(∀n∈DataW.weights P t x.1,n≤140737488355328)→
  ∃σ' S' avs a,oH P σ S w σ' S'∧gO P σ' avs cs∧(∀u∈cs,u.oneCell'=true)∧E S' avs a∧S.nx≤S'.nx
def qA{α:Type}(E:St→List AV→α→Prop):Prop:=∀ {S S':St} {avs:List AV} {a:α},E S avs a→Same S S'→E S' avs a
def qK(k:IntKind)(_:St)(avs:List AV)(z:Int):Prop:=avs= [.int k z]∧(Lit.int k z).wf=true
theorem iO{k:IntKind}:qA (qK k):=fun h _=>h
theorem aGP{t:TypeId}{k:IntKind}(ht:P.underlying t=some (.int k)):Lays P t (qK k):=by
 intro H enc σ S w base spare held fuel cs x hR hn hf hG h hW;obtain⟨n,rfl,_,hw⟩:=DataW.trod_int ht h;exact⟨σ,S,[.int k n],n,oH.refl hR hn hf,dJ.2 ⟨_,_,rfl,by simp only[Rv],cU.2 rfl⟩,fun u hu=>by simp at hu;subst hu;rfl,⟨rfl,hw⟩,Ah _⟩
theorem aBs{H:Type}{e:TypeId}{d:DataW H}{n:Nat}:∀ {l:List (DataW H)},d∈l→n∈DataW.weights P e d→n∈DataW.weightsAll P e l
 | [],h,_=>by cases h
 | x::r,h,hn=>by
  show n∈DataW.weights P e x++DataW.weightsAll P e r;rcases Bm.1 h with rfl | h
  ·exact Dc _ hn
  ·exact Cp _ (aBs h hn)
theorem uC{H:Type}{n:Nat}:∀ {ts:List TypeId} {l:List (DataW H)} {i:Nat} {t:TypeId} {d:DataW H},ts[i]? =some t→l[i]? =some d→n∈DataW.weights P t d→n∈DataW.weightsEach P ts l
 | [],_,_,_,_,h,_,_=>by simp at h
 | _::_,[],_,_,_,_,h,_=>by simp at h
 | u::ts,x::r,0,t,d,h1,h2,hn=>by
  simp at h1 h2;subst h1;subst h2;exact Dc _ hn
 | u::ts,x::r,i+1,t,d,h1,h2,hn=>by
  show n∈DataW.weights P u x++DataW.weightsEach P ts r;exact Cp _ (uC (by simpa using h1) (by simpa using h2) hn)
theorem aDR{H:Type}{t e:TypeId}{xs ys:List (DataW H)}(ht:P.underlying t=some (.slice e)):DataW.weights P t (.slice xs ys)=(xs.length+ys.length) * P.bytesOf e::(DataW.weightsAll P e xs++DataW.weightsAll P e ys):=by
 unfold DataW.weights;rw[ht]
theorem aF9{H:Type}{t:TypeId}{fs:Array Field}{xs:List (DataW H)}(ht:P.underlying t=some (.struct fs)):DataW.weights P t (.agg xs)=DataW.weightsEach P (fs.toList.map (·.type)) xs:=by
 unfold DataW.weights;rw[ht]
def sP(k:Nat){α:Type}(E:St→List AV→α→Prop)(S:St)(avs:List AV)(l:List α):Prop:=
 ∃av,avs= [av]∧l.length * (8 * k)≤140737488355328∧((l= []∧(av= .nilsl∨av= .emp))∨∃ (b cap:Nat) (css:List (List AV)),av= .sl b 0 l.length cap false∧l.length≤cap∧b<S.nx∧S.h.get b=some (.ro css.flatten)∧css.length=l.length∧∀ (i:Nat) (cs:List AV) (a:α),css[i]? =some cs→l[i]? =some a→cs.length=k∧E S cs a)
theorem firm_sl{k:Nat}{α:Type}{E:St→List AV→α→Prop}(hE:qA E):qA (sP k E):=by
 rintro S S' avs l ⟨av,rfl,hL,h | ⟨b,cap,css,h1,h2,h3,h4,h5,h6⟩⟩ hs
 ·exact⟨av,rfl,hL,.inl h⟩
 ·exact⟨av,rfl,hL,.inr ⟨b,cap,css,h1,h2,Ae h3 hs.1,(hs.2 b h3).trans h4,h5,fun i cs a hi ha=>⟨(h6 i cs a hi ha).1,hE (h6 i cs a hi ha).2 hs⟩⟩⟩
theorem aLe{a:Addr}{n base:Nat}{cs:List Value}(h:w.cells? base a n=some cs):cs.length=n∧∀i,i<n→w.cell? (a.add i)=cs[i]? :=by
 unfold World.cells? at h;split at h
 ·refine⟨by simpa using mapM_some_length h,fun i hi=>?_⟩;exact mapM_some_get h i i (by simp [hi])
 ·cases h
theorem aCH{e:TypeId}{k:Nat}{α:Type}{E:St→List AV→α→Prop}(hE:Lays P e E)(hF:qA E)(hk:0<k){H:Type}{enc:TypeId×Value→H}{base:Nat}{spare:Nat→Bool}{held:Bool}{fuel:Nat}{a:Addr}(hspot:a.spot=none)
  (hR:kC P σ S w) (hn:wF S) (hf:uY S) (hG:P.globals.size≤S.nx):∀ {m:Nat},(∀i,i<m→∃x,(w.cells? base (a.add (i * k)) k).bind (DataW.trod enc P w base spare held fuel e)=some x∧∀n∈DataW.weights P e x.1,n≤140737488355328)→
  ∃ (σ':Env) (S':St) (css:List (List AV)),∃l:List α,∃Cs:List Value,oH P σ S w σ' S'∧S.nx≤S'.nx∧css.length=m∧l.length=m∧(∀ (i:Nat) (cs:List AV) (a:α),css[i]? =some cs→l[i]? =some a→cs.length=k∧E S' cs a)∧gO P σ' css.flatten Cs∧(∀u∈Cs,u.oneCell'=true)∧Cs.length=m * k∧w.rangeAt a.block a.off Cs
 | 0,_=>⟨σ,S,[],[],[],oH.refl hR hn hf,Ah _,rfl,rfl,fun i cs a hi=>(by simp at hi),cU.2 rfl,fun u hu=>(by cases hu),by simp,fun j v hv=>(by simp at hv)⟩
 | m+1,h=>by
  obtain⟨σ1,S1,css,l,Cs,hA,hn1,hcl,hll,hel,hrv,hone,hlen,hrange⟩:=aCH hE hF hk hspot hR hn hf hG (m:=m) fun i hi=>h i (by omega);obtain⟨x,hx,hxW⟩:=h m (by omega);obtain⟨cs,hcs,hx⟩:=Db.1 hx;obtain⟨σ2,S2,avs,y,hA2,hrv2,hone2,hE2,hn2⟩:=hE H enc σ1 S1 w base spare held fuel cs x hA.rep hA.no hA.fresh (Ak hG hn1) hx hxW;obtain⟨hcl2,hcell⟩:=aLe hcs;have hal:avs.length=k:=by rw[←hrv2.length];exact hcl2
  refine⟨σ2,S2,css++ [avs],l++ [y],Cs++cs,hA.trans hA2,Ak hn1 hn2,by simp [hcl],by simp [hll],?_,?_,?_,?_,?_⟩
  ·intro i cs' a' hi ha;rw[Ed] at hi ha;rw[hcl] at hi;rw[hll] at ha;split at hi
   ·rename_i hlt;rw[if_pos hlt] at ha;exact⟨(hel i cs' a' hi ha).1,hF (hel i cs' a' hi ha).2 hA2.same⟩
   ·rename_i hlt;rw[if_neg hlt] at ha;have him:i - m=0:=by
     rcases Ei (i - m) with h | h
     ·exact h
     ·obtain⟨q,hq⟩:=Nat.exists_eq_succ_of_ne_zero (Nat.pos_iff_ne_zero.1 h);rw[hq] at hi;simp at hi
    rw[him] at hi ha;simp at hi ha;subst hi;subst ha;exact⟨hal,hE2⟩
  ·rw[List.flatten_append];simp only[List.flatten_cons,List.flatten_nil,Dd];exact(hrv.mono hA2.le).append hrv2
  ·intro u hu;rcases Bx.1 hu with hu | hu
   ·exact hone u hu
   ·exact hone2 u hu
  ·rw[Am,hlen,hcl2,Nat.succ_mul]
  ·intro j v hv;rw[Ed] at hv;split at hv
   ·exact hrange j v hv
   ·rename_i hlt;have hj:j - Cs.length<k:=by
     have:=(Ai.1 hv).1;omega
    have:=hcell (j - Cs.length) hj;rw[hv] at this;rw[←this];congr 1;have hadd:∀i,a.add i=⟨a.block,a.off+i,none⟩:=fun i=>by
     unfold Addr.add;split
     ·rename_i h;subst h;cases a;simp_all
     ·rfl
    have hadd2:∀ (x y:Nat),Addr.add ⟨a.block,x,none⟩ y=⟨a.block,x+y,none⟩:=fun x y=>by
     unfold Addr.add;split
     ·rename_i h;rw[h,Br]
     ·rfl
    rw[hadd,hadd2,hlen];congr 1;rw[hlen] at hlt;omega
theorem tT{t e:TypeId}{k:Nat}{α:Type}{E:St→List AV→α→Prop}(ht:P.underlying t=some (.slice e))(hc:P.cellsOf e=k)(hk:0<k)(hby:8 * k≤P.bytesOf e)(hE:Lays P e E)(hF:qA E):Lays P t (sP k E):=by
 intro H enc σ S w base spare held fuel cs x hR hn hf hG h hW;rcases DataW.trod_slice ht h with⟨rfl,_⟩ | ⟨a,len,cap,elems,rest,n,rfl,rfl,hxe,_,hlc,_,hlen,hel,_⟩
 ·exact⟨σ,S,[.nilsl],[],oH.refl hR hn hf,dJ.2 ⟨_,_,rfl,by simp only[Rv],cU.2 rfl⟩,fun u hu=>by simp at hu;subst hu;rfl,⟨_,rfl,by simp,.inl ⟨rfl,.inl rfl⟩⟩,Ah _⟩
 ·rw[hc] at hel;subst hxe;have hW:∀n∈DataW.weights P t (.slice (elems.map (·.1)) (rest.map (·.1))),n≤140737488355328:=hW;rw[aDR ht] at hW;have hlw:len * (8 * k)≤140737488355328:=by
   have h1:=hW _ (Bu ..);rw[Aj,hlen,Dy] at h1;exact Ak (Nat.mul_le_mul_left len hby) (by omega)
  rcases Ei len with h0 | hp
  ·subst h0;exact⟨σ,S,[.emp],[],oH.refl hR hn hf,dJ.2 ⟨_,_,rfl,by simp only[Rv];exact⟨a,cap,rfl⟩,cU.2 rfl⟩,fun u hu=>by simp at hu;subst hu;rfl,⟨_,rfl,by simp,.inl ⟨rfl,.inr rfl⟩⟩,Ah _⟩
  ·have hget:∀i,i<len→∃x,(w.cells? base (a.add (i * k)) k).bind (DataW.trod enc P w base spare held n e)=some x∧∀n∈DataW.weights P e x.1,n≤140737488355328:=fun i hi=>by
    rw[hel i hi];exact⟨elems[i]'(by omega),Ab (by omega),fun n hn=>hW n (Bj _ (Dc _ (aBs (List.mem_map_of_mem (Bo _)) hn)))⟩
   obtain⟨x0,hx0,_⟩:=hget 0 hp;obtain⟨cs0,hcs0,_⟩:=Db.1 hx0;obtain⟨hl0,hc0⟩:=aLe hcs0;have c0:=hc0 0 hk;rw[Ab (by omega),Nat.zero_mul] at c0;have e0:(a.add 0).add 0=a:=rfl;rw[e0] at c0;have hblk:a.block<w.heap.size∧a.spot=none:=by
    unfold World.cell? at c0;cases hh:w.heap[a.block]? with
    | none=>rw[hh] at c0;cases c0
    | some o=>
     refine⟨(Cm.1 hh).1,?_⟩;rw[hh] at c0;cases o with
     | cells c t fr=>
      simp only at c0;by_cases hs:a.spot.isSome
      ·rw[if_pos hs] at c0;cases c0
      ·simpa using hs
     | _=>cases c0
   obtain⟨σ1,S1,css,l,Cs,hA,hn1,hcl,hll,hE1,hrv,hone,hCl,hrange⟩:=aCH hE hF hk hblk.2 hR hn hf hG hget;have hA2:=aIB hA.rep hA.no hA.fresh (Ak hG hn1) hblk.1 hrv hone hrange;refine⟨_,_,[.sl S1.nx 0 len cap false],l,hA.trans hA2,dJ.2 ⟨_,_,rfl,?_,cU.2 rfl⟩,fun u hu=>by simp at hu;subst hu;rfl,⟨_,rfl,by rw[hll];exact hlw,.inr ⟨S1.nx,cap,css,by rw[hll],by omega,by simp,?_,by rw[hcl,hll],fun i cs a' hi ha=>⟨(hE1 i cs a' hi ha).1,hF (hE1 i cs a' hi ha).2 hA2.same⟩⟩⟩,by simp only;omega⟩
   ·simp only[Rv];refine⟨⟨a.block,a.off,0⟩,by unfold yV;rw[if_pos rfl],?_⟩;have:=hblk.2;cases a
    simp_all
   ·simp only;rw[T.get_set,if_pos rfl]
def NoE(_:St)(avs:List AV)(_:Unit):Prop:=avs= []
def tA{α β:Type}(E:St→List AV→α→Prop)(R:St→List AV→β→Prop)(S:St)(avs:List AV)(x:α×β):Prop:=∃u v,avs=u++v∧E S u x.1∧R S v x.2
theorem aIo:qA NoE:=fun h _=>h
theorem mD{α β:Type}{E:St→List AV→α→Prop}{R:St→List AV→β→Prop}(h1:qA E)(h2:qA R):qA (tA E R):=fun⟨u,v,e,a,b⟩ hs=>⟨u,v,e,h1 a hs,h2 b hs⟩
def aIz(P:Program)(ts:List TypeId){α:Type}(E:St→List AV→α→Prop):Prop:=
 ∀ (H:Type) (enc:TypeId×Value→H) (σ:Env) (S:St) (w:World) (base:Nat) (spare:Nat→Bool) (held:Bool) (fuel off:Nat) (cs:List Value),kC P σ S w→wF S→uY S→P.globals.size≤S.nx→cs.length=off+(ts.map P.cellsOf).sum→
  (∀ (i:Nat) t,ts[i]? =some t→∃x,DataW.trod enc P w base spare held fuel t ((cs.drop (off+((ts.take i).map P.cellsOf).sum)).take (P.cellsOf t))=some x∧∀n∈DataW.weights P t x.1,n≤140737488355328)→
  ∃σ' S' avs a,oH P σ S w σ' S'∧gO P σ' avs (cs.drop off)∧(∀u∈cs.drop off,u.oneCell'=true)∧E S' avs a∧S.nx≤S'.nx
theorem aAH:aIz P [] NoE:=by
 intro H enc σ S w base spare held fuel off cs hR hn hf hG hl h;have:cs.drop off= []:=Ch (by simp at hl;omega);rw[this];exact⟨σ,S,[],(),oH.refl hR hn hf,cU.2 rfl,fun u hu=>(by cases hu),rfl,Ah _⟩
theorem gL{t:TypeId}{ts:List TypeId}{α β:Type}{E:St→List AV→α→Prop}{R:St→List AV→β→Prop}(h1:Lays P t E)(f1:qA E)(h2:aIz P ts R):aIz P (t::ts) (tA E R):=by
 intro H enc σ S w base spare held fuel off cs hR hn hf hG hl h;rw[Cx,Dr] at hl;obtain⟨x,hx,hxW⟩:=h 0 t rfl;simp only[Er,List.map_nil,List.sum_nil,Br] at hx;obtain⟨σ1,S1,avs,a,hA,hrv,hone,hE,hn1⟩:=h1 H enc σ S w base spare held fuel _ x hR hn hf hG hx hxW;obtain⟨σ2,S2,avs2,b,hA2,hrv2,hone2,hE2,hn2⟩:=h2 H enc σ1 S1 w base spare held fuel (off+P.cellsOf t) cs hA.rep hA.no hA.fresh (Ak hG hn1) (by omega) (fun i u hi=>by
  obtain⟨y,hy,hyW⟩:=h (i+1) u (by simpa using hi);rw[List.take_succ_cons,Cx,Dr,←Co] at hy;exact⟨y,hy,hyW⟩)
 have hsplit:cs.drop off=(cs.drop off).take (P.cellsOf t)++cs.drop (off+P.cellsOf t):=by
  rw[←List.drop_drop,List.take_append_drop]
 refine⟨σ2,S2,avs++avs2,(a,b),hA.trans hA2,?_,?_,⟨avs,avs2,rfl,f1 hE hA2.same,hE2⟩,Ak hn1 hn2⟩
 ·rw[hsplit];exact(hrv.mono hA2.le).append hrv2
 ·rw[hsplit];intro u hu;rcases Bx.1 hu with hu | hu
  ·exact hone u hu
  ·exact hone2 u hu
theorem vK{t:TypeId}{fs:Array Field}{ts:List TypeId}{α:Type}{E:St→List AV→α→Prop}(ht:P.underlying t=some (.struct fs))(hts:fs.toList.map (·.type)=ts)(hoff:∀i f,fs[i]? =some f→f.offset=((ts.take i).map P.cellsOf).sum)(hc:P.cellsOf t=(ts.map P.cellsOf).sum)(hE:aIz P ts E):Lays P t E:=by
 intro H enc σ S w base spare held fuel cs x hR hn hf hG h hW;obtain⟨xs,n,rfl,hxe,hl,hxs,hfs⟩:=DataW.trod_struct ht h;subst hxe;have hW:∀n∈DataW.weights P t (.agg (xs.map (·.1))),n≤140737488355328:=hW;rw[aF9 ht] at hW;obtain⟨σ1,S1,avs,a,hA,hrv,hone,hE1,hn1⟩:=hE H enc σ S w base spare held n 0 cs hR hn hf hG (by omega) (fun i u hi=>by
  have hi0:=hi;rw[←hts,Aq,Aw] at hi;obtain⟨f,hf1,rfl⟩:=hi;have hf2:fs[i]? =some f:=by simpa using hf1
  have h3:=hfs i f hf2;rw[hoff i f hf2] at h3;have hlt:i<xs.length:=by
   rw[hxs];exact(Cm.1 hf2).1
  exact⟨xs[i],by rw[Ao,h3,Ab hlt],fun n hn=>hW n (uC (i:=i) (by rw[hts];exact hi0) (by rw[Aq,Ab hlt];rfl) hn)⟩)
 exact⟨σ1,S1,avs,a,hA,by simpa using hrv,by simpa using hone,hE1,hn1⟩
end Go.Ev
namespace Go.Ev
def aH(k:Nat){α:Type}(E:St→List AV→α→Prop)(S:St)(v:AV)(l:List α):Prop:=
 (l= []∧(v= .nilsl∨v= .emp))∨∃b off cap o cs,v= .sl b off l.length cap o∧l.length≤cap∧b<S.nx∧cN S.h b=some cs∧∀ (i:Nat) (a:α),l[i]? =some a→∃e:List AV,e.length=k∧(∀ (j:Nat) (x:AV),e[j]? =some x→cs[off+i * k+j]? =some x)∧E S e a
theorem aH.same{k:Nat}{α:Type}{E:St→List AV→α→Prop}(hE:qA E){S S':St}{v:AV}{l:List α}(h:aH k E S v l)(hs:Same S S'):aH k E S' v l:=by
 rcases h with h | ⟨b,off,cap,o,cs,h1,hc,h2,h3,h4⟩
 ·exact .inl h
 ·refine .inr ⟨b,off,cap,o,cs,h1,hc,Ae h2 hs.1,by rw[tJ hs h2];exact h3,fun i a hi=>?_⟩;obtain⟨e,e1,e2,e3⟩:=h4 i a hi;exact⟨e,e1,e2,hE e3 hs⟩
theorem flat_get{k:Nat}:∀ {css:List (List AV)} {i j:Nat} {cs:List AV} {x:AV},(∀ (i:Nat) (cs:List AV),css[i]? =some cs→cs.length=k)→css[i]? =some cs→cs[j]? =some x→css.flatten[i * k+j]? =some x
 | [],i,j,cs,x,_,hi,_=>by simp at hi
 | c::css,0,j,cs,x,_,hi,hj=>by
  simp at hi;subst hi;rw[Nat.zero_mul,Ao,List.flatten_cons,Bg (Ai.1 hj).1];exact hj
 | c::css,i+1,j,cs,x,hk,hi,hj=>by
  have hc:=hk 0 c rfl;rw[List.flatten_cons,Nat.succ_mul,Bd (by omega),hc,show i * k+k+j - k=i * k+j by omega];exact flat_get (fun i cs h=>hk (i+1) cs (by simpa using h)) (by simpa using hi) hj
theorem sP.is{k:Nat}{α:Type}{E:St→List AV→α→Prop}{S:St}{avs:List AV}{l:List α}(h:sP k E S avs l):∃v,avs= [v]∧aH k E S v l:=by
 obtain⟨v,rfl,_,h | ⟨b,cap,css,h1,h2,h3,h4,h5,h6⟩⟩:=h
 ·exact⟨v,rfl,.inl h⟩
 ·refine⟨v,rfl,.inr ⟨b,0,cap,false,css.flatten,h1,h2,h3,?_,fun i a hi=>?_⟩⟩
  ·unfold cN;rw[h4];rfl
  ·have hil:i<css.length:=by have:=(Ai.1 hi).1;omega
   obtain⟨e1,e2⟩:=h6 i css[i] a (Ab hil) hi;refine⟨css[i],e1,fun j x hj=>?_,e2⟩;rw[Ao];exact flat_get (fun i' cs' hi'=>(h6 i' cs' (l[i']'(by have:=(Ai.1 hi').1;omega)) hi' (Ab _)).1) (Ab hil) hj
section
variable {k:Nat}{α:Type}{E:St→List AV→α→Prop}{S:St}{v:AV}{l:List α}
theorem aH.len(h:aH k E S v l):kO v=some (.int .i64 ((l.length:Nat):Int)):=by
 rcases h with⟨rfl,rfl | rfl⟩ | ⟨b,off,cap,o,cs,rfl,_⟩<;>rfl
def aJO(k:Nat)(v:AV)(i:Nat):AV:=
 match v with
 | .sl b off _ _ _=>.ptr b (off+i * k)
 | _=>.undef
theorem aH.iaddr(h:aH k E S v l){i:Nat}(hi:i<l.length):eU (.slice k) v i=some (aJO k v i):=by
 rcases h with⟨rfl,_⟩ | ⟨b,off,cap,o,cs,rfl,_⟩
 ·simp at hi
 ·simp only[eU,aJO];have:Nat.blt i l.length=true:=Au hi;rw[this,aQ]
theorem aH.get(h:aH k E S v l){i:Nat}{a:α}(hi:l[i]? =some a):∃ (e:List AV) (b p:Nat),aJO k v i= .ptr b p∧b<S.nx∧e.length=k∧E S e a∧∃cs,cN S.h b=some cs∧∀ (j:Nat) (x:AV),e[j]? =some x→cs[p+j]? =some x:=by
 rcases h with⟨rfl,_⟩ | ⟨b,off,cap,o,cs,rfl,hc,hb,hcs,hel⟩
 ·simp at hi
 ·obtain⟨e,e1,e2,e3⟩:=hel i a hi;exact⟨e,b,off+i * k,rfl,hb,e1,e3,cs,hcs,e2⟩
end
end Go.Ev
