import Derived.Test.YtdkehphobhnjoaaEv7
import Derived.ChangeSlices
import Derived.ChangeArms
import Derived.DataReads
namespace Go.Ev
def uF(c d:fK):Prop:=∀f args S r,c f args S=some r->d f args S=some r
structure Le(a b:Evs):Prop where
 code:∀c A S r,a.code c A S=some r->b.code c A S=some r
 call:uF a.call b.call
theorem fS{α β:Type}{x y:Option α}{f g:α->Option β}{b:β}(h:bH x f=some b)(hx:∀a,x=some a->y=some a)(hf:∀a,f a=some b->g a=some b):bH y g=some b:=by
 have⟨a,h1,h2⟩:=aS h;rw[hx a h1];exact hf a h2
theorem aKY{c d:fK}(h:uF c d){v:AV}{tbl:List (Nat×Nat×Option (Bool×Nat))}{args:b6}{S:St}{r:AV×St}(hv:aIV v tbl args c S=some r):aIV v tbl args d S=some r:=by
 unfold aIV at hv ⊢;split at hv
 ·refine fS hv (fun _ h=>h) fun a ha=>?_;unfold aIZ at ha ⊢;split at ha
  ·exact h _ _ _ _ ha
  ·unfold aLz at ha ⊢;split at ha
   ·exact fS ha (fun _ h=>h) fun _ hb=>h _ _ _ _ hb
   ·cases ha
 ·cases hv
theorem aHz{c d:fK}(h:uF c d){x:XOp}{F:Fr}{S:St}{r:AV×St}(hv:evX x c F S=some r):evX x d F S=some r:=by
 cases x with
 | call f args=>exact h _ _ _ _ hv
 | inv tbl recv args=>exact aKY h hv
 | _=>exact hv
theorem aK1{c d:fK}(h:uF c d){o:AO}{F:Fr}{S:St}{r:Fr×St}(hv:aEd o c F S=some r):aEd o d F S=some r:=by
 unfold aEd at hv ⊢;rw[cN] at hv ⊢;split at hv
 ·rename_i hw;rw[if_pos hw];cases ho:o.op with
  | q q=>rw[ho] at hv;exact hv
  | a a=>rw[ho] at hv;exact hv
  | x x=>
   rw[ho] at hv;exact fS (show bH (evX x c F S) _=some r from hv) (fun _ hx=>aHz h hx) fun _ hb=>hb
 ·rename_i hw;rw[if_neg hw];exact hv
theorem zT{c d:fK}(h:uF c d):∀ {l:List AO} {F:Fr} {S:St} {r:Fr×St},uZ l c F S=some r->uZ l d F S=some r
 | [],F,S,r,hv=>hv
 | o::l,F,S,r,hv=>fS (show bH (aEd o c F S) (fun r=>uZ l c r.1 r.2)=some r from hv) (fun _ hx=>aK1 h hx) fun _ hb=>zT h hb
theorem aL7{c d:fK}(h:uF c d){o:AO}{i base:Nat}{D:DS}{r:DS}(hv:pV o i base c D=some r):pV o i base d D=some r:=by
 unfold pV at hv ⊢;rw[cN] at hv ⊢;split at hv
 ·rename_i hw;rw[if_pos hw];cases ho:o.op with
  | q q=>rw[ho] at hv;exact hv
  | a a=>rw[ho] at hv;exact hv
  | x x=>
   rw[ho] at hv;have⟨h1,h2⟩:=cG (show cB (jL D.hs o.mask) _ none=some r from hv);show cB (jL D.hs o.mask) _ none=some r;rw[h1,aO];exact fS h2 (fun _ hx=>aHz h hx) fun _ hb=>hb
 ·rename_i hw;rw[if_neg hw];exact hv
theorem sN{c d:fK}(h:uF c d):∀ {l:List AO} {i base:Nat} {D r:DS},vF l i base c D=some r->vF l i base d D=some r
 | [],_,_,_,_,hv=>hv
 | o::l,i,base,D,r,hv=>fS (show bH (pV o i base c D) (fun D'=>vF l (i+1) base c D')=some r from hv) (fun _ hx=>aL7 h hx) fun _ hb=>sN h hb
theorem aFS{c d:fK}(h:uF c d){l:List AO}{F:Fr}{S:St}{r:Fr×St}(hv:xD l c F S=some r):xD l d F S=some r:=
 fS (show bH _ _=some r from hv) (fun _ hx=>sN h hx) fun _ hb=>hb
theorem aHu{a b:Evs}(h:Le a b){c:AC}{A:bS}{S:St}{r:Out×bS×St}(hv:aI2 c a A S=some r):aI2 c b A S=some r:=by
 cases c with
 | skip=>exact hv
 | seq x y=>
  refine fS (show bH (a.code x A S) (sT y a)=some r from hv) (fun _ hx=>h.code _ _ _ _ hx) fun q hq=>?_;unfold sT at hq ⊢;split at hq
  ·exact h.code _ _ _ _ hq
  ·exact hq
 | cond x y z=>
  have hv:aBZ (x.val A.F) y z a A S=some r:=hv;show aBZ (x.val A.F) y z b A S=some r;unfold aBZ at hv ⊢;split at hv
  ·exact h.code _ _ _ _ hv
  ·cases hv
 | block id x=>exact fS (show bH (a.code x A S) (sF id)=some r from hv) (fun _ hx=>h.code _ _ _ _ hx) fun _ hq=>hq
 | loop x=>
  refine fS (show bH (a.code x A S) (sT (.loop x) a)=some r from hv) (fun _ hx=>h.code _ _ _ _ hx) fun q hq=>?_;unfold sT at hq ⊢;split at hq
  ·exact h.code _ _ _ _ hq
  ·exact hq
 | exit id=>exact hv
 | ret=>exact hv
 | reg ops=>exact fS (show bH (uZ ops a.call A.F S) _=some r from hv) (fun _ hx=>zT h.call hx) fun _ hq=>hq
 | drw ops=>exact fS (show bH (xD ops a.call A.F S) _=some r from hv) (fun _ hx=>aFS h.call hx) fun _ hq=>hq
 | rng f ps as bd=>
  have hv:aOl f ps as bd a A S=some r:=hv;show aOl f ps as bd b A S=some r;unfold aOl at hv ⊢;cases hi:A.inr with
  | true=>rw[hi,aO] at hv;cases hv
  | false=>
   rw[hi,aT] at hv;rw[aT];have⟨h1,h2⟩:=cG hv;rw[h1,aO];refine fS h2 (fun _ hx=>h.call _ _ _ _ hx) fun q hq=>fS hq (fun _ hx=>hx) fun bl hbl=>?_;unfold aMV at hbl ⊢;split at hbl
   ·split at hbl
    ·cases hbl
    ·exact fS hbl (fun _ hx=>hx) fun _ hc=>h.code _ _ _ _ hc
   ·cases hbl
 | dfr ops f args=>exact hv
theorem aHy{fns:T dU}{a b:Evs}(h:Le a b):uF (aBf fns a) (aBf fns b):=by
 intro f args S r hv;unfold aBf at hv ⊢;split at hv
 ·refine fS hv (fun _ hx=>hx) fun fn hfn=>?_;unfold wM at hfn ⊢;have⟨h1,h2⟩:=cG hfn;rw[h1,aO];exact fS h2 (fun _ hx=>h.code _ _ _ _ hx) fun _ hq=>hq
 ·cases hv
theorem tU(fns:T dU):∀n,Le (ev fns n) (ev fns (n+1))
 | 0=>⟨fun c A S r (h:none=some r)=>(by cases h),fun f args S r (h:none=some r)=>(by cases h)⟩
 | n+1=>⟨fun _ _ _ _ h=>aHu (tU fns n) h,aHy (tU fns n)⟩
theorem oP(fns:T dU){n m:Nat}(h:n<=m):Le (ev fns n) (ev fns m):=by
 induction h with
 | refl=>exact⟨fun _ _ _ _ h=>h,fun _ _ _ _ h=>h⟩
 | step _ ih=>exact⟨fun c A S r h=>(tU fns _).code _ _ _ _ (ih.code _ _ _ _ h),fun f args S r h=>(tU fns _).call _ _ _ _ (ih.call _ _ _ _ h)⟩
end Go.Ev
namespace Go.Ev
abbrev oq(d:Nat)(q:zH):AO:=⟨some d,.q q,none,0⟩
abbrev om(d m:Nat)(q:zH):AO:=⟨some d,.q q,none,m⟩
abbrev og(d s:Nat)(b:Bool)(m:Nat)(q:zH):AO:=⟨some d,.q q,some (s,b),m⟩
abbrev oc(d f:Nat)(l:List cU)(m:Nat):AO:=⟨some d,.x (.call (.c (.fn f [] [])) l),none,m⟩
abbrev mt(d i:Nat):AO:=⟨some d,.q (.mv (.t i)),none,0⟩
abbrev ci(n:Int):cU:=.c (.int .i64 n)
abbrev bi(o:BinOp)(x y:cU):zH:=.bin o (.p .int) x y
abbrev ld(i:Nat):zH:=.ld false 1 (.t i)
abbrev Zs(n x v m:Nat):AO:=⟨none,.x (.st n (.t x) (.t v)),none,m⟩
abbrev Zf(d o x:Nat):AO:=oq d (.cr o (.t x))
abbrev Zg(d m o x:Nat):AO:=om d m (.cr o (.t x))
abbrev Zi(d k x y:Nat):AO:=oq d (.cn (.slice k) (.t x) (.t y))
abbrev Zj(d m k x y:Nat):AO:=om d m (.cn (.slice k) (.t x) (.t y))
abbrev Zl(d x:Nat):AO:=oq d (ld x)
abbrev Zm(d m x:Nat):AO:=om d m (ld x)
abbrev Zc(d:Nat)(n:Int):AO:=oq d (.mv (ci n))
abbrev Zn(d x:Nat):AO:=oq d (.cq (.t x))
abbrev Za(d x:Nat)(n:Int):AO:=oq d (bi .add (.t x) (ci n))
abbrev Zt(d x y:Nat):AO:=oq d (bi .lss (.t x) (.t y))
abbrev Ze(d x i:Nat):AO:=oq d (.extract (.t x) i)
abbrev Zd(d n x:Nat):AO:=oq d (.ld true n (.t x))
abbrev Zp(d c y:Nat):AO:=oq d (.pick (.t c) (.c (.bool true)) (.t y))
abbrev Zx(d s:Nat)(b:Bool)(m o x:Nat):AO:=og d s b m (.cr o (.t x))
abbrev Zy(d s:Nat)(b:Bool)(m x:Nat):AO:=og d s b m (ld x)
abbrev Zu(d s:Nat)(b:Bool)(m x:Nat):AO:=og d s b m (.cq (.t x))
abbrev Zb(d k x:Nat):AO:=⟨some d,.a (.box k (.t x)),none,0⟩
variable {fns:T dU}
def lU(fns:T dU)(c:AC)(A:bS)(S:St)(Q:Out->bS->St->Prop):Prop:=∃n o A' S',(ev fns n).code c A S=some (o,A',S')/\Q o A' S'
def gH(fns:T dU)(f:AV)(args:b6)(S:St)(Q:AV->St->Prop):Prop:=∃n v S',(ev fns n).call f args S=some (v,S')/\Q v S'
def tS(fns:T dU)(ops:List AO)(F:Fr)(S:St)(Q:Fr->St->Prop):Prop:=∃n F' S',uZ ops (ev fns n).call F S=some (F',S')/\Q F' S'
theorem aW{c:AC}{A:bS}{S:St}{Q R:Out->bS->St->Prop}(h:lU fns c A S Q)(hq:∀o A S,Q o A S->R o A S):lU fns c A S R:=by
 have⟨n,o,A',S',h1,h2⟩:=h;exact⟨n,o,A',S',h1,hq _ _ _ h2⟩
theorem aQ{f:AV}{args:b6}{S:St}{Q R:AV->St->Prop}(h:gH fns f args S Q)(hq:∀v S,Q v S->R v S):gH fns f args S R:=by
 have⟨n,v,S',h1,h2⟩:=h;exact⟨n,v,S',h1,hq _ _ h2⟩
theorem aHL{ops:List AO}{F:Fr}{S:St}{Q R:Fr->St->Prop}(h:tS fns ops F S Q)(hq:∀F S,Q F S->R F S):tS fns ops F S R:=by
 have⟨n,F',S',h1,h2⟩:=h;exact⟨n,F',S',h1,hq _ _ h2⟩
theorem aH{A:bS}{S:St}{Q:Out->bS->St->Prop}(h:Q .normal A S):lU fns .skip A S Q:=⟨1,_,_,_,rfl,h⟩
theorem bG{id:Nat}{A:bS}{S:St}{Q:Out->bS->St->Prop}(h:Q (.exit id) A S):lU fns (.exit id) A S Q:=⟨1,_,_,_,rfl,h⟩
theorem aR{A:bS}{S:St}{Q:Out->bS->St->Prop}(h:Q .ret A S):lU fns .ret A S Q:=⟨1,_,_,_,rfl,h⟩
def aEb(fns:T dU)(y:AC)(Q:Out->bS->St->Prop):Out->bS->St->Prop
 | .normal,A,S=>lU fns y A S Q
 | o,A,S=>Q o A S
theorem aA{x y:AC}{A:bS}{S:St}{Q:Out->bS->St->Prop}(h:lU fns x A S (aEb fns y Q)):lU fns (.seq x y) A S Q:=by
 have⟨n,o,A1,S1,h1,h2⟩:=h;cases o with
 | normal=>
  have⟨m,o,A2,S2,h3,h4⟩:=h2;refine⟨max n m+1,o,A2,S2,?_,h4⟩;show bH ((ev fns (max n m)).code x A S) (sT y (ev fns (max n m)))=_;rw[(oP fns (Nat.le_max_left n m)).code _ _ _ _ h1,aN];exact(oP fns (Nat.le_max_right n m)).code _ _ _ _ h3
 | ret=>
  refine⟨n+1,.ret,A1,S1,?_,h2⟩;show bH ((ev fns n).code x A S) (sT y (ev fns n))=_;rw[h1];rfl
 | exit i=>
  refine⟨n+1,.exit i,A1,S1,?_,h2⟩;show bH ((ev fns n).code x A S) (sT y (ev fns n))=_;rw[h1];rfl
theorem aL0{c:cU}{x y:AC}{A:bS}{S:St}{Q:Out->bS->St->Prop}{t:Bool}(hc:c.val A.F= .bool t)(h:lU fns (cB t x y) A S Q):lU fns (.cond c x y) A S Q:=by
 have⟨n,o,A1,S1,h1,h2⟩:=h;refine⟨n+1,o,A1,S1,?_,h2⟩;show aBZ (c.val A.F) x y (ev fns n) A S=_;rw[hc];exact h1
theorem aJg{c:cU}{x y:AC}{A:bS}{S:St}{Q:Out->bS->St->Prop}{t:Bool}(hc:c.val A.F= .bool t)(h1:t=true->lU fns x A S Q)(h2:t=false->lU fns y A S Q):lU fns (.cond c x y) A S Q:=by
 refine aL0 hc ?_;cases t
 ·exact h2 rfl
 ·exact h1 rfl
def aBq(id:Nat)(Q:Out->bS->St->Prop):Out->bS->St->Prop
 | .exit i,A,S=>if i=id then Q .normal A S else Q (.exit i) A S
 | o,A,S=>Q o A S
theorem aL{id:Nat}{c:AC}{A:bS}{S:St}{Q:Out->bS->St->Prop}(h:lU fns c A S (aBq id Q)):lU fns (.block id c) A S Q:=by
 have⟨n,o,A1,S1,h1,h2⟩:=h;cases o with
 | normal=>exact⟨n+1,.normal,A1,S1,by show bH ((ev fns n).code c A S) (sF id)=_;rw[h1];rfl,h2⟩
 | ret=>exact⟨n+1,.ret,A1,S1,by show bH ((ev fns n).code c A S) (sF id)=_;rw[h1];rfl,h2⟩
 | exit i=>
  by_cases hi:i=id
  ·subst hi;have h2:Q .normal A1 S1:=by simpa [aBq] using h2
   exact⟨n+1,.normal,A1,S1,by show bH ((ev fns n).code c A S) (sF i)=_;rw[h1];simp [aN,sF,cN,Bg],h2⟩
  ·have h2:Q (.exit i) A1 S1:=by simpa [aBq,hi] using h2
   exact⟨n+1,.exit i,A1,S1,by show bH ((ev fns n).code c A S) (sF id)=_;rw[h1];simp [aN,sF,cN,Bg,hi],h2⟩
def aFH(I:Nat->bS->St->Prop)(k:Nat)(Q:Out->bS->St->Prop):Out->bS->St->Prop
 | .normal,A,S=>∃k',k'<k/\I k' A S
 | o,A,S=>Q o A S
theorem bK{c:AC}{Q:Out->bS->St->Prop}(I:Nat->bS->St->Prop)(h:∀k A S,I k A S->lU fns c A S (aFH I k Q)):∀k A S,I k A S->lU fns (.loop c) A S Q:=by
 intro k
 induction k using Nat.strongRecOn with
 | _ k ih=>
  intro A S hI;have⟨n,o,A1,S1,h1,h2⟩:=h k A S hI;cases o with
  | normal=>
   have⟨k',hk,hI'⟩:=h2;have⟨m,o,A2,S2,h3,h4⟩:=ih k' hk A1 S1 hI';refine⟨max n m+1,o,A2,S2,?_,h4⟩;show bH ((ev fns (max n m)).code c A S) (sT (.loop c) (ev fns (max n m)))=_;rw[(oP fns (Nat.le_max_left n m)).code _ _ _ _ h1,aN];exact(oP fns (Nat.le_max_right n m)).code _ _ _ _ h3
  | ret=>
   refine⟨n+1,.ret,A1,S1,?_,h2⟩;show bH ((ev fns n).code c A S) (sT (.loop c) (ev fns n))=_;rw[h1];rfl
  | exit i=>
   refine⟨n+1,.exit i,A1,S1,?_,h2⟩;show bH ((ev fns n).code c A S) (sT (.loop c) (ev fns n))=_;rw[h1];rfl
theorem aG{ops:List AO}{A:bS}{S:St}{Q:Out->bS->St->Prop}(h:tS fns ops A.F S fun F' S'=>Q .normal ⟨F',A.inr⟩ S'):lU fns (.reg ops) A S Q:=by
 have⟨n,F',S',h1,h2⟩:=h;refine⟨n+1,.normal,⟨F',A.inr⟩,S',?_,h2⟩;show bH (uZ ops (ev fns n).call A.F S) _=_;rw[h1];rfl
def aPK(res:List RV)(Q:AV->St->Prop):Out->bS->St->Prop
 | .exit _,_,_=>False
 | _,A,S=>∃vs,results res A.F S.h=some vs/\Q (oneOf vs) S
theorem cF{id nt:Nat}{res:List RV}{body:AC}{first cap args:b6}{S:St}{Q:AV->St->Prop}(hfn:fns.get id=some ⟨nt,res,body⟩)(hn:(first++(args++cap)).length<=nt)
  (h:lU fns body ⟨sC (first++(args++cap)) 0 .e,false⟩ S (aPK res Q)):gH fns (.fn id first cap) args S Q:=by
 have⟨n,o,A',S',h1,h2⟩:=h;have key:∀ (_:∃vs,results res A'.F S'.h=some vs/\Q (oneOf vs) S') (_:aFz ⟨nt,res,body⟩ (o,A',S')=bH (results res A'.F S'.h) fun vs=>some (oneOf vs,S')),gH fns (.fn id first cap) args S Q:=by
  rintro⟨vs,h3,h4⟩ h5;refine⟨n+1,oneOf vs,S',?_,h4⟩;show bH (fns.get id) (fun fn=>wM fn (wR first (wR args cap)) (ev fns n) S)=_;rw[hfn,aN];unfold wM;rw[fW,fW,fL,Ak hn,aO,h1,aN,h5,h3];rfl
 cases o with
 | normal=>exact key h2 rfl
 | ret=>exact key h2 rfl
 | exit i=>exact h2.elim
theorem aAC{F:Fr}{S:St}{Q:Fr->St->Prop}:tS fns [] F S Q↔Q F S:=
 ⟨fun⟨_,_,_,h1,h2⟩=>by cases h1;exact h2,fun h=>⟨0,F,S,rfl,h⟩⟩
theorem aDt{o:AO}{l:List AO}{F F1:Fr}{S S1:St}{Q:Fr->St->Prop}(h:∀call,aEd o call F S=some (F1,S1))(hl:tS fns l F1 S1 Q):tS fns (o::l) F S Q:=by
 have⟨n,F',S',h1,h2⟩:=hl;refine⟨n,F',S',?_,h2⟩;rw[iA,h,aN];exact h1
theorem aNq{d:Option Nat}{q:zH}{m:Nat}{l:List AO}{F:Fr}{S:St}{Q:Fr->St->Prop}{v:AV}(h:gT q F S.h=some v)(hl:tS fns l (cR d F v) S Q):tS fns (⟨d,.q q,none,m⟩::l) F S Q:=
 aDt (fun call=>by show bH (gT q F S.h) _=_;rw[h];rfl) hl
theorem aRx{d:Option Nat}{a:wY}{m:Nat}{l:List AO}{F:Fr}{S:St}{Q:Fr->St->Prop}{v:AV}{bl:AB}(h:sH a F S.nx=some (v,bl))(hl:tS fns l (cR d F v) ⟨S.h.set S.nx (some bl),S.nx+1⟩ Q):tS fns (⟨d,.a a,none,m⟩::l) F S Q:=
 aDt (fun call=>by show bH (sH a F S.nx) _=_;rw[h];rfl) hl
theorem fD{d:Option Nat}{x:XOp}{m:Nat}{l:List AO}{F:Fr}{S S1:St}{Q:Fr->St->Prop}{v:AV}(h:∀call,evX x call F S=some (v,S1))(hl:tS fns l (cR d F v) S1 Q):tS fns (⟨d,.x x,none,m⟩::l) F S Q:=
 aDt (fun call=>by show bH (evX x call F S) _=_;rw[h];rfl) hl
theorem bE{d:Option Nat}{f:cU}{args:List cU}{m:Nat}{l:List AO}{F:Fr}{S:St}{Q:Fr->St->Prop}(h:gH fns (f.val F) (dG args F) S fun v S1=>tS fns l (cR d F v) S1 Q):tS fns (⟨d,.x (.call f args),none,m⟩::l) F S Q:=by
 have⟨n,v,S1,h1,k,F',S',h2,h3⟩:=h;refine⟨max n k,F',S',?_,h3⟩;rw[iA];have:aEd ⟨d,.x (.call f args),none,m⟩ (ev fns (max n k)).call F S=some (cR d F v,S1):=by
  show bH ((ev fns (max n k)).call (f.val F) (dG args F) S) _=_;rw[(oP fns (Nat.le_max_left n k)).call _ _ _ _ h1];rfl
 rw[this,aN];exact zT (oP fns (Nat.le_max_right n k)).call h2
theorem fR(i:Nat)(F:Fr):(cU.t i).val F=aD i F:=rfl
theorem aGx(v:AV)(F:Fr):(cU.c v).val F=v:=rfl
theorem gP(F:Fr)(v:AV):cR none F v=F:=rfl
theorem bP(i j:Nat)(F:Fr)(v:AV):aD i (cR (some j) F v)=if i=j then v else aD i F:=by
 show aD i (F.set j (some v))=_;unfold aD;rw[dd];split<;>rfl
end Go.Ev
namespace Go.Ev
variable {fns:T dU}
theorem aNR{tbl:List (Nat×Nat×Option (Bool×Nat))}{recv:cU}{args:List cU}{F:Fr}{t f:Nat}{v:AV}(hr:recv.val F= .iface t v)(hf:aD0 t tbl=some (f,none))(call:fK)(S:St):evX (.inv tbl recv args) call F S=evX (.call (.c (.fn f [v] [])) args) call F S:=by
 show aIV (recv.val F) tbl (dG args F) call S=call (.fn f [v] []) (dG args F) S;rw[hr];show bH (aD0 t tbl) (fun r=>aIZ r v (dG args F) call S)=_;rw[hf,aN];rfl
end Go.Ev
namespace Go.Ev
def Same(S S':St):Prop:=S.nx<=S'.nx/\∀b,b<S.nx->S'.h.get b=S.h.get b
theorem Same.refl(S:St):Same S S:=⟨Ag _,fun _ _=>rfl⟩
theorem Same.trans{S S' S'':St}(h:Same S S')(h':Same S' S''):Same S S'':=⟨Au h.1 h'.1,fun b hb=>(h'.2 b (Ae hb h.1)).trans (h.2 b hb)⟩
theorem Same.alloc(S:St)(bl:AB):Same S ⟨S.h.set S.nx (some bl),S.nx+1⟩:=⟨Nat.le_succ _,fun b hb=>by simp only;rw[dd,if_neg ay]⟩
theorem Same.put{S S':St}{b:Nat}(h:Same S S')(hb:S.nx<=b)(x:Option AB):Same S ⟨S'.h.set b x,S'.nx⟩:=⟨h.1,fun c hc=>by simp only;rw[dd,if_neg ay];exact h.2 c hc⟩
def bO(k:IntKind)(S:St)(v:AV)(l:bu):Prop:=
 (l= []/\(v= .cb\/v= .emp))\/∃b off cap o cs,v= .sl b off l.length cap o/\l.length<=cap/\b<S.nx/\cJ S.h b=some cs/\∀i x,l[i]? =some x->cs[off+i]? =some (.int k x)
theorem uP{S S':St}(h:Same S S'){b:Nat}(hb:b<S.nx):cJ S'.h b=cJ S.h b:=by unfold cJ;rw[h.2 b hb]
theorem bO.same{k:IntKind}{S S':St}{v:AV}{l:bu}(h:bO k S v l)(hs:Same S S'):bO k S' v l:=by
 rcases h with h | ⟨b,off,cap,o,cs,h1,hc,h2,h3,h4⟩
 ·exact .inl h
 ·exact .inr ⟨b,off,cap,o,cs,h1,hc,Ae h2 hs.1,by rw[uP hs h2];exact h3,h4⟩
theorem bO.len{k:IntKind}{S:St}{v:AV}{l:bu}(h:bO k S v l):jD v=some (.int .i64 (.ofNat l.length)):=by
 rcases h with⟨rfl,rfl | rfl⟩ | ⟨b,off,cap,o,cs,rfl,_⟩<;>rfl
def aAe(v:AV)(i:Nat):AV:=
 match v with
 | .sl b off _ _ _=>.ptr b (off+i * 1)
 | _=>.undef
theorem bO.cn{k:IntKind}{S:St}{v:AV}{l:bu}(h:bO k S v l){i:Nat}(hi:i<l.length):fC (.slice 1) v i=some (aAe v i):=by
 rcases h with⟨rfl,_⟩ | ⟨b,off,cap,o,cs,rfl,_⟩
 ·simp at hi
 ·simp only[fC,aAe];have:Nat.blt i l.length=true:=Ak hi;rw[this,aO]
theorem bO.ld{k:IntKind}{S:St}{v:AV}{l:bu}(h:bO k S v l){i:Nat}(hi:i<l.length):eQ (aAe v i) false 1 S.h=some (.int k (l.getD i 0)):=by
 rcases h with⟨rfl,_⟩ | ⟨b,off,cap,o,cs,rfl,hc,hb,hcs,hel⟩
 ·simp at hi
 ·simp only[aAe,eQ,nP,aT,mM,hcs,aN,mZ,Dm];rw[hel i l[i] (Ac hi)];simp [Ad,hi]
theorem aFY(e:qF)(k:IntKind)(a b:Int):iL .add e (.int k a) (.int k b)=some (.int k (k.wrap (a+b))):=by
 show dJ .add k a k b=_;unfold dJ;rw[show fI .add=false from rfl,aT,fT,aO];show some (AV.int k (aNh k a b))=_;rw[aG8]
theorem aF5(e:qF)(k:IntKind)(a b:Int):iL .sub e (.int k a) (.int k b)=some (.int k (k.wrap (a - b))):=by
 show dJ .sub k a k b=_;unfold dJ;rw[show fI .sub=false from rfl,aT,fT,aO];show some (AV.int k (aHO k a b))=_;rw[aAt]
theorem aFD(e:qF)(k:IntKind)(a b:Int):iL .mul e (.int k a) (.int k b)=some (.int k (k.wrap (a * b))):=by
 show dJ .mul k a k b=_;unfold dJ;rw[show fI .mul=false from rfl,aT,fT,aO];show some (AV.int k (aGE k a b))=_;rw[aAN]
theorem aF8(e:qF)(k:IntKind)(a b:Int):iL .lss e (.int k a) (.int k b)=some (.bool (decide (a<b))):=by
 show dJ .lss k a k b=_;unfold dJ;rw[show fI .lss=false from rfl,aT,fT,aO];show some (AV.bool (cB (ile b a) false true))=_;rw[pE,rK];congr 2;rw[Cr];simp
theorem aF6(e:qF)(k:IntKind)(a b:Int):iL .leq e (.int k a) (.int k b)=some (.bool (decide (a<=b))):=by
 show dJ .leq k a k b=_;unfold dJ;rw[show fI .leq=false from rfl,aT,fT,aO];show some (AV.bool (ile a b))=_;rw[pE]
theorem aFA(e:qF)(k:IntKind)(a b:Int):iL .gtr e (.int k a) (.int k b)=some (.bool (decide (b<a))):=by
 show dJ .gtr k a k b=_;unfold dJ;rw[show fI .gtr=false from rfl,aT,fT,aO];show some (AV.bool (cB (ile a b) false true))=_;rw[pE,rK];congr 2;rw[Cr];simp
theorem aF9(e:qF)(k:IntKind)(a b:Int):iL .geq e (.int k a) (.int k b)=some (.bool (decide (b<=a))):=by
 show dJ .geq k a k b=_;unfold dJ;rw[show fI .geq=false from rfl,aT,fT,aO];show some (AV.bool (ile b a))=_;rw[pE]
theorem aCD(e:qF)(k:IntKind)(a b:Int):iL .eql e (.int k a) (.int k b)=some (.bool (decide (a=b))):=by
 show dJ .eql k a k b=_;unfold dJ;rw[show fI .eql=false from rfl,aT,fT,aO];show some (AV.bool (ieq a b))=_;rw[lJ];congr 2
theorem aFr(e:qF)(k:IntKind)(a b:Int):iL .neq e (.int k a) (.int k b)=some (.bool (decide (a≠b))):=by
 show dJ .neq k a k b=_;unfold dJ;rw[show fI .neq=false from rfl,aT,fT,aO];show some (AV.bool (cB (ieq a b) false true))=_;rw[lJ,rK];congr 2;rw[Cr];simp
section
variable (F:Fr)(h:T AB)
theorem aFI(x:cU):gT (.mv x) F h=some (x.val F):=rfl
theorem aCJ(op:BinOp)(e:qF)(x y:cU):gT (.bin op e x y) F h=iL op e (x.val F) (y.val F):=rfl
theorem aIj(op:UnOp)(x:cU):gT (.un op x) F h=unV op (x.val F):=rfl
theorem xC(x:cU):gT (.cq x) F h=jD (x.val F):=rfl
theorem qB(k:IxK)(x ix:cU):gT (.cn k x ix) F h=bH (fG (ix.val F)) fun i=>fC k (x.val F) i:=rfl
theorem mE(agg:Bool)(n:Nat)(x:cU):gT (.ld agg n x) F h=eQ (x.val F) agg n h:=rfl
theorem aDJ(k:aGL)(x:cU):gT (.conv k x) F h=yH k (x.val F) h:=rfl
theorem vZ(x:cU)(i:Nat):gT (.extract x i) F h=jU (x.val F) i:=rfl
theorem aDu(c a b:cU):gT (.pick c a b) F h=wW (c.val F) a b F:=rfl
theorem aF2(agg:Bool)(off n:Nat)(x:cU):gT (.fld agg off n x) F h=aIq (x.val F) agg off n:=rfl
end
theorem aJ(k:IntKind)(n:Nat):fG (.int k (n:Int))=some n:=rfl
theorem aD7(k j:IntKind)(n:Int)(h:T AB):yH (.int k) (.int j n) h=some (.int k (k.wrap n)):=by
 show some (AV.int k (aE2 k n))=_;rw[tB]
end Go.Ev
namespace Go.Ev
variable {fns:T dU}
def lM{α:Type}(x:Option α)(Q:α->Prop):Prop:=∃a,x=some a/\Q a
theorem dK{α:Type}(a:α)(Q:α->Prop):lM (some a) Q=Q a:=propext ⟨fun⟨_,h1,h2⟩=>by cases h1;exact h2,fun h=>⟨a,rfl,h⟩⟩
theorem aIT{d:Option Nat}{q:zH}{m:Nat}{l:List AO}{F:Fr}{S:St}{Q:Fr->St->Prop}:tS fns (⟨d,.q q,none,m⟩::l) F S Q↔lM (gT q F S.h) fun v=>tS fns l (cR d F v) S Q:=by
 constructor
 ·rintro⟨n,F',S',h1,h2⟩;rw[iA] at h1;have⟨r,h3,h4⟩:=aS h1;have⟨v,h5,h6⟩:=aS (show bH (gT q F S.h) (fun v=>some (cR d F v,S))=some r from h3);cases h6;exact⟨v,h5,n,F',S',h4,h2⟩
 ·rintro⟨v,h1,h2⟩;exact aNq h1 h2
theorem aBK{d:Option Nat}{a:wY}{m:Nat}{l:List AO}{F:Fr}{S:St}{Q:Fr->St->Prop}:tS fns (⟨d,.a a,none,m⟩::l) F S Q↔lM (sH a F S.nx) fun r=>tS fns l (cR d F r.1) ⟨S.h.set S.nx (some r.2),S.nx+1⟩ Q:=by
 constructor
 ·rintro⟨n,F',S',h1,h2⟩;rw[iA] at h1;have⟨r,h3,h4⟩:=aS h1;have⟨v,h5,h6⟩:=aS (show bH (sH a F S.nx) (fun r=>some (cR d F r.1,(⟨S.h.set S.nx (some r.2),Nat.succ S.nx⟩:St)))=some r from h3);cases h6;exact⟨v,h5,n,F',S',h4,h2⟩
 ·rintro⟨⟨v,bl⟩,h1,h2⟩;exact aRx h1 h2
def vW(fns:T dU)(ops:List AO)(i base:Nat)(D:DS)(Q:DS->Prop):Prop:=∃n D',vF ops i base (ev fns n).call D=some D'/\Q D'
theorem oO{ops:List AO}{A:bS}{S:St}{Q:Out->bS->St->Prop}(h:vW fns ops 0 S.nx ⟨A.F,⟨S.h,S.nx+ops.length⟩,[],[],[]⟩ fun D=>gK S.h D.hs.reverse D.ls=true/\Q .normal ⟨D.F,A.inr⟩ ⟨(cO (2 ^ ops.length - 1) D.ps D.S.h).2,D.S.nx⟩):lU fns (.drw ops) A S Q:=by
 have⟨n,D,h1,h2,h3⟩:=h;refine⟨n+1,.normal,⟨D.F,A.inr⟩,⟨(cO (2 ^ ops.length - 1) D.ps D.S.h).2,D.S.nx⟩,?_,h3⟩;show bH (bH (vF ops 0 S.nx (ev fns n).call ⟨A.F,⟨S.h,S.nx+lO ops⟩,[],[],[]⟩) fun D=>aAn S.h (lO ops) D) _=_;rw[fL,h1,aN];unfold aAn;rw[h2,aO];rfl
theorem jB{i base:Nat}{D:DS}{Q:DS->Prop}:vW fns [] i base D Q↔Q D:=
 ⟨fun⟨_,_,h1,h2⟩=>by cases h1;exact h2,fun h=>⟨0,D,rfl,h⟩⟩
theorem iE{d:Option Nat}{q:zH}{m i base:Nat}{l:List AO}{D:DS}{Q:DS->Prop}:vW fns (⟨d,.q q,none,m⟩::l) i base D Q↔
  lM (gT q D.F D.S.h) fun v=>vW fns l (i+1) base ⟨cR d D.F v,D.S,D.ps,D.hs,cB (dR q) (⟨q,D.F,v,i,m⟩::D.ls) D.ls⟩ Q:=by
 constructor
 ·rintro⟨n,D',h1,h2⟩;have⟨r,h3,h4⟩:=aS (show bH (pV ⟨d,.q q,none,m⟩ i base (ev fns n).call D) (fun D'=>vF l (i+1) base (ev fns n).call D')=some D' from h1);have⟨v,h5,h6⟩:=aS (show bH (gT q D.F D.S.h) (fun v=>some (⟨cR d D.F v,D.S,D.ps,D.hs,cB (dR q) (⟨q,D.F,v,i,m⟩::D.ls) D.ls⟩:DS))=some r from h3);cases h6;exact⟨v,h5,n,D',h4,h2⟩
 ·rintro⟨v,h1,n,D',h2,h3⟩;refine⟨n,D',?_,h3⟩;show bH (bH (gT q D.F D.S.h) _) _=_;rw[h1];exact h2
theorem aEe{d:Option Nat}{a:wY}{m i base:Nat}{l:List AO}{D:DS}{Q:DS->Prop}:vW fns (⟨d,.a a,none,m⟩::l) i base D Q↔
  lM (sH a D.F (base+i)) fun r=>vW fns l (i+1) base ⟨cR d D.F r.1,D.S,⟨i,base+i,r.2⟩::D.ps,D.hs,D.ls⟩ Q:=by
 constructor
 ·rintro⟨n,D',h1,h2⟩;have⟨r,h3,h4⟩:=aS (show bH (pV ⟨d,.a a,none,m⟩ i base (ev fns n).call D) (fun D'=>vF l (i+1) base (ev fns n).call D')=some D' from h1);have⟨v,h5,h6⟩:=aS (show bH (sH a D.F (base+i)) (fun r=>some (⟨cR d D.F r.1,D.S,⟨i,base+i,r.2⟩::D.ps,D.hs,D.ls⟩:DS))=some r from h3);cases h6;exact⟨v,h5,n,D',h4,h2⟩
 ·rintro⟨r,h1,n,D',h2,h3⟩;refine⟨n,D',?_,h3⟩;show bH (bH (sH a D.F (base+i)) _) _=_;rw[h1];exact h2
theorem kE{d:Option Nat}{x:XOp}{m i base:Nat}{l:List AO}{D:DS}{Q:DS->Prop}{v:AV}{S1:St}(hl:jL D.hs m=true)(h:∀call,evX x call D.F ⟨(cO m D.ps D.S.h).2,D.S.nx⟩=some (v,S1))
  (hq:vW fns l (i+1) base ⟨cR d D.F v,S1,(cO m D.ps D.S.h).1,(i,m,S1.h)::D.hs,D.ls⟩ Q):vW fns (⟨d,.x x,none,m⟩::l) i base D Q:=by
 have⟨n,D',h2,h3⟩:=hq;refine⟨n,D',?_,h3⟩;show bH (cB (jL D.hs m) (bH (evX x (ev fns n).call D.F ⟨(cO m D.ps D.S.h).2,D.S.nx⟩) _) none) _=_;rw[hl,aO,h];exact h2
theorem aAj{d:Option Nat}{f:cU}{args:List cU}{m i base:Nat}{l:List AO}{D:DS}{Q:DS->Prop}(hl:jL D.hs m=true)
  (h:gH fns (f.val D.F) (dG args D.F) ⟨(cO m D.ps D.S.h).2,D.S.nx⟩ fun v S1=>vW fns l (i+1) base ⟨cR d D.F v,S1,(cO m D.ps D.S.h).1,(i,m,S1.h)::D.hs,D.ls⟩ Q):vW fns (⟨d,.x (.call f args),none,m⟩::l) i base D Q:=by
 have⟨n,v,S1,h1,k,D',h2,h3⟩:=h;refine⟨max n k,D',?_,h3⟩;show bH (cB (jL D.hs m) (bH ((ev fns (max n k)).call (f.val D.F) (dG args D.F) ⟨(cO m D.ps D.S.h).2,D.S.nx⟩) _) none) _=_;rw[hl,aO,(oP fns (Nat.le_max_left n k)).call _ _ _ _ h1];exact sN (oP fns (Nat.le_max_right n k)).call h2
theorem aMB{d:Option Nat}{op:AOp}{s:Nat}{b:Bool}{m i base:Nat}{l:List AO}{D:DS}{Q:DS->Prop}(hg:aD s D.F= .bool b)(hl:vW fns (⟨d,op,none,m⟩::l) i base D Q):vW fns (⟨d,op,some (s,b),m⟩::l) i base D Q:=by
 have⟨n,D',h1,h2⟩:=hl;refine⟨n,D',?_,h2⟩;have:pV ⟨d,op,some (s,b),m⟩ i base (ev fns n).call D=pV ⟨d,op,none,m⟩ i base (ev fns n).call D:=by
  unfold pV;have e1:eT (some (s,b)) D.F=true:=by show isB (aD s D.F) b=true;rw[hg];cases b<;>rfl
  have e2:eT none D.F=true:=rfl;simp only[e1,e2];cases op<;>rfl
 show bH (pV ⟨d,op,some (s,b),m⟩ i base (ev fns n).call D) _=_;rw[this];exact h1
theorem eM(k:IntKind)(a:Int):cT (.int k a) (.int k a)=true:=by simp [cT,cN,fT,lJ]
theorem aBP(a:Bool):cT (.bool a) (.bool a)=true:=by simp [cT,uN]
theorem aDy(a b:Nat):cT (.ptr a b) (.ptr a b)=true:=by simp [cT,cN,Bg]
theorem mR(a b c d:Nat)(o:Bool):cT (.sl a b c d o) (.sl a b c d o)=true:=by simp [cT,Bg,uN]
theorem aAa:cT .cb .cb=true:=rfl
end Go.Ev
namespace Go.Ev
def aAW(S:St):Prop:=∀b,S.nx<=b->S.h.get b=none
def Frs(S S':St):Prop:=(aAW S->aAW S')/\S.nx<=S'.nx
theorem aLt(S:St)(x:Option AB):Frs S ⟨S.h.set S.nx x,S.nx+1⟩:=
 ⟨fun h c hc=>by simp only at hc ⊢;rw[dd,if_neg ay];exact h c ay,Nat.le_succ _⟩
end Go.Ev
namespace Go.Ev
variable {P:Program}{σ:Env}{S:St}{w:World}
def aFq:List (Nat×Nat×IntKind×Int)->AC
 | []=>.seq (.reg [⟨some 0,.q (.mv (.c (.bool true))),none,0⟩]) .ret
 | (g,j,k,z)::l=>.seq (.reg [⟨some 1,.q (.ld false 1 (.c (.ptr g j))),none,0⟩,⟨some 2,.q (.bin .eql (.p .int) (.t 1) (.c (.int k z))),none,0⟩]) (.seq (.cond (.t 2) .skip (.exit 0)) (aFq l))
def aBB(l:List (Nat×Nat×IntKind×Int)):dU:=⟨0,[.t 0],aFq l⟩
theorem aJO{fns:T dU}{Q:Out->bS->St->Prop}(hQ:∀A,aD 0 A.F= .bool true->Q .ret A S):∀ {l:List (Nat×Nat×IntKind×Int)} {A:bS},(∀c∈l,mM S.h c.1 c.2.1=some (.int c.2.2.1 c.2.2.2))->lU fns (aFq l) A S Q
 | [],A,_=>by
  refine aA (aG ?_);rw[aIT];exact⟨.bool true,rfl,(aAC).2 (aR (hQ _ (by rw[bP,if_pos rfl])))⟩
 | (g,j,k,z)::l,A,h=>by
  have h1:=h (g,j,k,z) (by simp);simp only at h1;refine aA (aG (aNq (v:=.int k z) h1 (aNq (v:=.bool true) ?_ (aAC.2 ?_))))
  ·show iL .eql (.p .int) (aD 1 (cR (some 1) A.F (.int k z))) (.int k z)=_;rw[bP,if_pos rfl,aCD,Ab rfl]
  refine aA (aJg (t:=true) (by show aD 2 _=_;rw[bP,if_pos rfl]) (fun _=>aH ?_) (fun h=>by cases h));exact aJO hQ fun c hc=>h c (by simp [hc])
theorem aMj{fns:T dU}{id:Nat}{l:List (Nat×Nat×IntKind×Int)}(hfn:fns.get id=some (aBB l))(h:∀c∈l,mM S.h c.1 c.2.1=some (.int c.2.2.1 c.2.2.2)):gH fns (.fn id [] []) [] S fun r S'=>r= .bool true/\S'=S:=by
 refine cF hfn (by simp) (aJO (fun A hA=>?_) h);exact⟨[aD 0 A.F],rfl,by rw[hA];rfl,rfl⟩
theorem aFo{v:AV}{k:IntKind}{z:Int}(h:iL .eql (.p .int) v (.int k z)=some (.bool true)):v= .int k z:=by
 cases v with
 | int k' z'=>
  have h':dJ .eql k' z' k z=some (.bool true):=h;unfold dJ at h';rw[show fI .eql=false from rfl,aT] at h';have⟨hk,h'⟩:=cG h';have hz:some (AV.bool (ieq z' z))=some (.bool true):=h';simp only[Ao,AV.bool.injEq] at hz;rw[lJ] at hz;have hz:=eq_of_beq hz;subst hz;have hkk:k'=k:=by
   cases k<;>cases k'<;>first | rfl | (exfalso;revert hk;decide)
  rw[hkk]
 | _=>cases h
theorem aGH{fns:T dU}:∀ {l:List (Nat×Nat×IntKind×Int)} {n:Nat} {A A':bS} {S':St} {o:Out},(ev fns n).code (aFq l) A S=some (o,A',S')->(∀i,o≠ .exit i)->(∀c∈l,mM S.h c.1 c.2.1=some (.int c.2.2.1 c.2.2.2))/\S'=S/\aD 0 A'.F= .bool true
 | l,0,_,_,_,_,h,_=>by cases h
 | l,1,A,A',S',o,h,_=>by
  cases l with
  | nil=>
   have h':(none:Option (Out×bS×St))=some (o,A',S'):=h;cases h'
  | cons c l=>
   have⟨g,j,k,z⟩:=c;have h':(none:Option (Out×bS×St))=some (o,A',S'):=h;cases h'
 | [],n+2,A,A',S',o,h,ho=>by
  have⟨⟨o1,A1,S1⟩,h1,h2⟩:=aS (show bH ((ev fns (n+1)).code (.reg [⟨some 0,.q (.mv (.c (.bool true))),none,0⟩]) A S) (sT .ret (ev fns (n+1)))=some (o,A',S') from h);have e1:(ev fns (n+1)).code (.reg [⟨some 0,.q (.mv (.c (.bool true))),none,0⟩]) A S=some (.normal,⟨cR (some 0) A.F (.bool true),A.inr⟩,S):=rfl;rw[e1] at h1;cases h1;have e2:sT .ret (ev fns (n+1)) (.normal,⟨cR (some 0) A.F (.bool true),A.inr⟩,S)=some (.ret,⟨cR (some 0) A.F (.bool true),A.inr⟩,S):=rfl;rw[e2] at h2;cases h2;exact⟨fun c hc=>(by cases hc),rfl,by rw[bP,if_pos rfl]⟩
 | (g,j,k,z)::l,n+2,A,A',S',o,h,ho=>by
  have⟨⟨o1,A1,S1⟩,h1,h2⟩:=aS (show bH ((ev fns (n+1)).code (.reg [⟨some 1,.q (.ld false 1 (.c (.ptr g j))),none,0⟩,⟨some 2,.q (.bin .eql (.p .int) (.t 1) (.c (.int k z))),none,0⟩]) A S) (sT (.seq (.cond (.t 2) .skip (.exit 0)) (aFq l)) (ev fns (n+1)))=some (o,A',S') from h);have⟨⟨F1,S2⟩,h3,h4⟩:=aS (show bH (uZ [⟨some 1,.q (.ld false 1 (.c (.ptr g j))),none,0⟩,⟨some 2,.q (.bin .eql (.p .int) (.t 1) (.c (.int k z))),none,0⟩] (ev fns n).call A.F S) (fun r=>some (.normal,(⟨r.1,A.inr⟩:bS),r.2))=some (o1,A1,S1) from h1);cases h4;rw[iA] at h3;have⟨⟨F2,S3⟩,h5,h6⟩:=aS h3;have⟨v,hv,h7⟩:=aS (show bH (mM S.h g j) (fun v=>some (cR (some 1) A.F v,S))=some (F2,S3) from h5);cases h7;rw[iA] at h6;have⟨⟨F4,S4⟩,h8,h9⟩:=aS h6;cases h9;have⟨b,hb,h10⟩:=aS (show bH (iL .eql (.p .int) (aD 1 (cR (some 1) A.F v)) (.int k z)) (fun u=>some (cR (some 2) (cR (some 1) A.F v) u,S))=some (F4,S4) from h8);cases h10;rw[bP,if_pos rfl] at hb;have h2:(ev fns (n+1)).code (.seq (.cond (.t 2) .skip (.exit 0)) (aFq l)) ⟨cR (some 2) (cR (some 1) A.F v) b,A.inr⟩ S=some (o,A',S'):=h2;have⟨⟨o5,A5,S5⟩,k1,k2⟩:=aS (show bH ((ev fns n).code (.cond (.t 2) .skip (.exit 0)) ⟨cR (some 2) (cR (some 1) A.F v) b,A.inr⟩ S) (sT (aFq l) (ev fns n))=some (o,A',S') from h2);cases n with
  | zero=>cases k1
  | succ n=>
   have k1:aBZ (aD 2 (cR (some 2) (cR (some 1) A.F v) b)) .skip (.exit 0) (ev fns n) ⟨cR (some 2) (cR (some 1) A.F v) b,A.inr⟩ S=some (o5,A5,S5):=k1;rw[bP,if_pos rfl] at k1;cases b with
   | bool t=>
    have k1:(ev fns n).code (cB t .skip (.exit 0)) ⟨cR (some 2) (cR (some 1) A.F v) (.bool t),A.inr⟩ S=some (o5,A5,S5):=k1;cases t with
    | true=>
     rw[aO] at k1;cases n with
     | zero=>cases k1
     | succ n=>
      have e:(ev fns (n+1)).code .skip ⟨cR (some 2) (cR (some 1) A.F v) (.bool true),A.inr⟩ S=some (.normal,⟨cR (some 2) (cR (some 1) A.F v) (.bool true),A.inr⟩,S):=rfl;rw[e] at k1;cases k1;have ih:=aGH (l:=l) (show(ev fns (n+1+1)).code (aFq l) _ S=some (o,A',S') from k2) ho;refine⟨fun c hc=>?_,ih.2⟩;rcases Bm.1 hc with rfl | hc
      ·rw[hv,aFo hb]
      ·exact ih.1 c hc
    | false=>
     rw[aT] at k1;cases n with
     | zero=>cases k1
     | succ n=>
      have e:(ev fns (n+1)).code (.exit 0) ⟨cR (some 2) (cR (some 1) A.F v) (.bool false),A.inr⟩ S=some (.exit 0,⟨cR (some 2) (cR (some 1) A.F v) (.bool false),A.inr⟩,S):=rfl;rw[e] at k1;cases k1;have k2:some (Out.exit 0,(⟨cR (some 2) (cR (some 1) A.F v) (.bool false),A.inr⟩:bS),S)=some (o,A',S'):=k2;cases k2;exact absurd rfl (ho 0)
   | _=>cases k1
theorem aJ8{fns:T dU}{l:List (Nat×Nat×IntKind×Int)}{n:Nat}{S':St}{v:AV}(h:wM (aBB l) [] (ev fns n) S=some (v,S')):(∀c∈l,mM S.h c.1 c.2.1=some (.int c.2.2.1 c.2.2.2))/\S'=S/\v= .bool true:=by
 unfold wM at h;have⟨_,h⟩:=cG h;have⟨⟨o,A',S1⟩,h1,h2⟩:=aS h;unfold aFz at h2;split at h2
 ·cases h2
 ·rename_i hne;have⟨vs,h3,h4⟩:=aS h2;cases h4;have⟨k1,k2,k3⟩:=aGH (show(ev fns n).code (aFq l) ⟨.e,false⟩ S=some (o,A',S1) from h1) (fun i e=>hne i e);refine⟨k1,k2,?_⟩;have:some [aD 0 A'.F]=some vs:=h3;cases this;exact k3
def aDF:Nat->Nat->List (IntKind×Int)->List (Nat×Nat×IntKind×Int)
 | _,_,[]=>[]
 | g,j,(k,z)::l=>(g,j,k,z)::aDF g (j+1) l
theorem aDw:∀ {l:List (IntKind×Int)} {g j i:Nat} {k:IntKind} {z:Int},l[i]? =some (k,z)->(g,j+i,k,z)∈aDF g j l
 | [],_,_,_,_,_,h=>by simp at h
 | (k,z)::l,g,j,0,k',z',h=>by
  simp at h;obtain⟨rfl,rfl⟩:=h;simp [aDF]
 | (k,z)::l,g,j,i+1,k',z',h=>by
  have:=aDw (g:=g) (j:=j+1) (show l[i]? =some (k',z') by simpa using h);rw[show j+(i+1)=j+1+i by omega];exact Bj _ this
def nM:List (Nat×List (IntKind×Int))->List (Nat×Nat×IntKind×Int)
 | []=>[]
 | (g,l)::r=>aDF g 0 l++nM r
theorem aAZ:∀ {t:List (Nat×List (IntKind×Int))} {g:Nat} {l:List (IntKind×Int)},(g,l)∈t->∀c∈aDF g 0 l,c∈nM t
 | (g',l')::t,g,l,h,c,hc=>by
  simp only[nM,Bf];rcases Bm.1 h with h | h
  ·cases h;exact .inl hc
  ·exact .inr (aAZ h c hc)
theorem aGr(hR:mF P σ S w){t:List (Nat×List (IntKind×Int))}(hg:∀x∈t,x.1<P.globals.size/\x.2≠ [])(h:∀c∈nM t,mM S.h c.1 c.2.1=some (.int c.2.2.1 c.2.2.2)):aLF P (t.map fun x=>(x.1,x.2.map fun y=>AV.int y.1 y.2)) w:=by
 intro x hx;obtain⟨⟨g,l⟩,hgl,rfl⟩:=Dl.1 hx;have⟨h1,h2⟩:=hg _ hgl;have hc:∀i k z,l[i]? =some (k,z)->mM S.h g i=some (.int k z):=fun i k z hi=>by
  have:=h _ (aAZ hgl _ (aDw (g:=g) (j:=0) hi));simpa using this
 obtain⟨⟨k0,z0⟩,l',rfl⟩:∃a l',l=a::l':=by cases l with | nil=>exact absurd rfl h2 | cons a l'=>exact⟨a,l',rfl⟩
 have h0:=hc 0 k0 z0 rfl;unfold mM cJ at h0;have⟨cs,h3,h4⟩:=aS h0;have⟨bl,h5,h6⟩:=aS h3;have⟨L,h7,h8,h9⟩:=hR.blk g bl h5;rw[hR.glob g h1] at h7;cases h7;have hcs:∀i k z,((k0,z0)::l')[i]? =some (k,z)->cs[i]? =some (AV.int k z):=fun i k z hi=>by
  have:=hc i k z hi;unfold mM cJ at this;rw[h5,aN,h6,aN,mZ] at this;exact this
 have key:∀Cs,iK P σ cs Cs->w.rangeAt g 0 Cs->∃Ds,iK P (aDO P) (((k0,z0)::l').map fun y=>AV.int y.1 y.2) Ds/\(∀u∈Ds,u.oneCell'=true)/\w.rangeAt g 0 Ds:=by
  intro Cs hC hr;refine⟨((k0,z0)::l').map fun y=>Value.int y.1 y.2,?_,fun u hu=>?_,fun j v hv=>?_⟩
  ·clear hcs hc hg h h0 hgl hx h2;generalize (k0,z0)::l'=m
   induction m with
   | nil=>exact dH.2 rfl
   | cons a m ih=>exact dF.2 ⟨_,_,rfl,by simp only[Rv],ih⟩
  ·obtain⟨y,_,rfl⟩:=Dl.1 hu;rfl
  ·rw[Bc,Az] at hv;obtain⟨⟨k,z⟩,hkz,rfl⟩:=hv;have h10:=hcs j k z hkz;have⟨V,hV,hVV⟩:=hC.get h10;simp only[Rv] at hVV;rw[<-hVV];exact hr j V hV
 refine⟨h1,by simpa using h8,?_⟩;cases bl with
 | cells ds o s=>
  simp only[mI,Ao] at h6;subst h6;have⟨Cs,q1,_,q3,_⟩:=h9;exact key Cs q1 q3
 | ro ds=>
  simp only[mI,Ao] at h6;subst h6;have⟨Cs,q1,_,q3⟩:=h9;exact key Cs q1 q3
 | _=>cases h6
theorem aGe{l:List (Nat×b6)}{σ':Env}{S':St}{w':World}(hR:mF P σ S w)(h:kJ P (aDO P) (stL P l) w σ' S' w'):kJ P σ S w σ S w':=by
 have hk:∀r,r<w.heap.size->w'.heap[r]? =w.heap[r]? :=fun r hr=>h.keep r hr (aSk r);refine⟨⟨fun b bl hb=>?_,hR.lt,hR.fresh,hR.glob,hR.inj⟩,fun _ _=>rfl,Ag _,fun r hr _=>hk r hr,fun _ ho=>.inl ho,h.size,h.os,h.tape,h.output,fun _ _ hb=>hb⟩;have⟨L,q1,q2,q3⟩:=hR.blk b bl hb;exact⟨L,q1,Ae q2 h.size,q3.frame (fun _ _ x=>x) (hk _ q2)⟩
theorem aEn{fns:T dU}{id nt:Nat}{res:List RV}{c:AC}{Fn:Func}{t:List (Nat×List (IntKind×Int))}{l:List (Nat×b6)}(hFn:P.funcs[id]? =some Fn)(hc:cFn P Fn=some ⟨nt,res,c⟩)(hl:l=t.map fun x=>(x.1,x.2.map fun y=>AV.int y.1 y.2))(hg:∀x∈t,x.1<P.globals.size/\x.2≠ [])
  (h:Good P c ⟨.e,false⟩ (stL P l) fun o A S=>aLk res o A S=some true):aJD P fns id (aBB (nM t)):=by
 have⟨C,c',rs,hbody,hname,hC,hrs,heq⟩:=aHV hc;cases heq;refine⟨rfl,⟨Fn,C,hFn,hbody,hname⟩,fun n S S' v hrun σ w fv hf hR=>?_⟩;have⟨hloads,hS',hv⟩:=aJ8 hrun;subst hS';subst hv;have hT:aLF P l w:=by rw[hl];exact aGr hR hg hloads
 simp only[Rv] at hf;obtain⟨A,B,rfl,hA,hB⟩:=hf;have hA:=dH.1 hA;have hB:=dH.1 hB;subst hA;subst hB;rw[uW hFn hbody hname];show CallsIn Fence.wide 0 P id ⟨[]++([]++ [])⟩ w _;refine callsIn_of_wp_marks hFn hbody trivial ?_;have⟨hfr,hsz⟩:=aD6 (P:=P) (σ:=aDO P) (args:=[]) (Args:=[]) (dH.2 rfl) (nt:=Fn.ntmps) (Da _);rw[<-aJM];refine h none 0 Fn.ntmps C hC (fun _=>rfl) w.heap.size (aDO P) _ w _ hsz Df.nil (Ag _) hfr (aQ5 hT) ?_;intro o A' S2 σ' a' w' hret hinr hsz' hdf hfr' hext;have⟨hoo,hres⟩:=aLp hret;have⟨_,rks,hd,hnd,hmk⟩:=hdf;have fin:∀w'',kJ P (aDO P) (stL P l) w σ' S2 w''->∃V,(Go.results Fn a'.tmps).run P w''= .ok V w''/\∃σ',Rv P σ' (.bool true) V/\kJ P σ S' w σ' S' w'':=fun w'' hx=>by
  have⟨Vs,h8,h9⟩:=oR hx.rep hfr' hrs hres;refine⟨if h:Vs.toArray.size=1 then Vs.toArray[0] else .tuple Vs.toArray,?_,σ,?_,aGe hR hx⟩
  ·show((do let vs <-Fn.results.mapM (aE1 a'.tmps);pure (if h:vs.size=1 then vs[0] else .tuple vs):Sem Value)).run P w''=_;rw[Array.mapM_eq_mapM_toList];simp only[Sem.run_bind,Sem.run_map,h8,Result.andThen_ok,Sem.run_pure]
  ·have:=aCd h9;simp only[oneOf,Rv] at this;rw[this];simp only[Rv]
 rcases hoo with rfl | rfl
 ·show LeavesInM Fence.wide 0 P Fn a'.tmps _ a'.defers .returning w';rw[hd];exact leaves rks w' hnd hmk hext fin
 ·show LeavesInM Fence.wide 0 P Fn a'.tmps _ a'.defers .returning w';rw[hd];exact leaves rks w' hnd hmk hext fin
theorem aFj{l:List (Nat×dU)}(hmix:P.follows .mixedOrders=true)(hl:∀p∈l,Row P p\/aJD P (table l) p.1 p.2):vY P (table l):=
 ⟨asked P,uO P,fun id fn h=>by
  rcases hl _ (aBL h) with⟨Fn,h1,h2⟩ | h1
  ·exact .inl ⟨Fn,h1,h2⟩
  ·exact .inr h1,fun call hcall=>aCi (asked P) (uO P) hmix call hcall⟩
end Go.Ev
namespace Go.Ev
variable {P:Program}{σ:Env}{S:St}{w:World}
def aA6(S:St):Prop:=∀b bl,S.h.get b=some bl->¬uV bl
def yY(σ:Env)(b:Nat)(L:Loc):Env:=fun c=>if c=b then some L else σ c
theorem aPv(hR:mF P σ S w)(L:Loc):∀b M,σ b=some M->yY σ S.nx L b=some M:=fun b M h=>by
 have:=hR.below h;unfold yY;rw[if_neg ay];exact h
structure rC(P:Program)(σ:Env)(S:St)(w:World)(σ':Env)(S':St):Prop where
 rep:mF P σ' S' w
 no:aA6 S'
 same:Same S S'
 fresh:aAW S'
 le:∀b L,σ b=some L->σ' b=some L
theorem rC.refl(hR:mF P σ S w)(hn:aA6 S)(hf:aAW S):rC P σ S w σ S:=⟨hR,hn,Same.refl S,hf,fun _ _ h=>h⟩
theorem rC.trans{σ' σ'':Env}{S' S'':St}(h:rC P σ S w σ' S')(h':rC P σ' S' w σ'' S''):rC P σ S w σ'' S'':=⟨h'.rep,h'.no,h.same.trans h'.same,h'.fresh,fun b L hb=>h'.le b L (h.le b L hb)⟩
theorem aPy(hn:aA6 S)(r:Nat):¬Own σ S r:=fun⟨b,bl,_,h1,h2,_⟩=>hn b bl h1 h2
theorem aK8{fns:T dU}(hK:vY P fns){id:Nat}{b:Bool}{Fn:Func}(hFn:P.funcs[id]? =some Fn)(hb:Fn.body.isSome=true)(hnm:(Fn.name== "runtime.NumGoroutine")=false){avs:b6}{Args:List Value}{Q:St->Prop}
  (h:gH fns (.fn id [] []) avs S fun r S'=>r= .bool b/\Q S') (hargs:iK P σ avs Args) (hR:mF P σ S w) (hn:aA6 S):
  Calls P id ⟨Args⟩ w fun e w'=>e= .returned (.bool b)/\Kept w w':=by
 have⟨n,v,S',hrun0,hv,_⟩:=h;subst hv;have hs:=aLK hK n _ _ _ _ _ hrun0 σ w (.func (.func id) ⟨[]⟩ ⟨[]⟩) Args (by simp only[Rv];exact⟨[],[],rfl,dH.2 rfl,dH.2 rfl⟩) hargs hR;have hnm':¬Fn.name= "runtime.NumGoroutine" :=by simpa using hnm
 have⟨C,hC⟩:=Option.isSome_iff_exists.1 hb;have hrun:((do let d <-Deferred.ofValue (.func (.func id) ⟨[]⟩ ⟨[]⟩) ⟨Args⟩;invoke d.target d.args:Sem Next)).run P w= .ok (.enter id ⟨Args⟩) w:=by
  simp only[Deferred.ofValue,Sem.run_bind,Sem.run_pure,Result.andThen_ok,invoke,callFunc,run_program,hFn];simp [hC,hnm']
 rw[hrun] at hs;have hs:CallsIn Fence.wide 0 P id ⟨Args⟩ w _:=hs;refine(callsIn_wide.1 hs).mono fun e w' h=>?_;cases e with
 | returned V=>
  have⟨σ',h1,h2⟩:=h;simp only[Rv] at h1;subst h1;exact⟨rfl,h2.kept (aPy hn)⟩
 | _=>exact h.elim
theorem aN9{l:List (Nat×b6)}:aA6 (stL P l):=fun b bl h ho=>by
 obtain⟨cs,_,rfl⟩:=oK h;exact ho.elim
theorem aOz{l:List (Nat×b6)}(hl:∀x∈l,x.1<P.globals.size):aAW (stL P l):=fun b hb=>by
 cases h:(stL P l).h.get b with
 | none=>rfl
 | some bl=>
  have⟨cs,h1,_⟩:=oK h;have h2:=hl _ h1;simp only[stL] at hb;simp only at h2;omega
end Go.Ev
namespace Go.Ev
variable {P:Program}{σ:Env}{S:St}{w:World}
theorem aLb(hR:mF P σ S w)(hn:aA6 S)(hf:aAW S)(hG:P.globals.size<=S.nx){r d:Nat}{cs:b6}{Cs:List Value}(hr:r<w.heap.size)(hc:iK P σ cs Cs)(h1:∀u∈Cs,u.oneCell'=true)(hw:w.rangeAt r d Cs):
  rC P σ S w (yY σ S.nx ⟨r,d,0⟩) ⟨S.h.set S.nx (some (.ro cs)),S.nx+1⟩:=by
 have hle:=aPv hR ⟨r,d,0⟩;refine⟨⟨fun b bl hb=>?_,fun b bl hb=>?_,fun b hb=>?_,fun g hg=>?_,fun b b' bl bl' L L' hb _ ho=>?_⟩,fun b bl hb=>?_,Same.alloc S _,(aLt S _).1 hf,hle⟩
 ·simp only at hb;rw[dd] at hb;split at hb
  ·rename_i e;subst e;cases hb;exact⟨⟨r,d,0⟩,by unfold yY;rw[if_pos rfl],hr,Cs,hc.mono hle,h1,hw⟩
  ·have⟨L,h1,h2,h3⟩:=hR.blk b bl hb;exact⟨L,hle b L h1,h2,h3.frame hle rfl⟩
 ·simp only at hb;rw[dd] at hb;split at hb
  ·rename_i e;subst e;simp
  ·have:=hR.lt b bl hb;simp only;omega
 ·simp only at hb;unfold yY;rw[if_neg ay];exact hR.fresh b ay
 ·unfold yY;rw[if_neg ay];exact hR.glob g hg
 ·simp only at hb;rw[dd] at hb;split at hb
  ·cases hb;exact ho.elim
  ·exact absurd ho (hn b bl hb)
 ·simp only at hb;rw[dd] at hb;split at hb
  ·cases hb;exact fun h=>h
  ·exact hn b bl hb
def Lays(P:Program)(t:TypeId){α:Type}(E:St->b6->α->Prop):Prop:=
 ∀ (H:Type) (enc:TypeId×Value->H) (σ:Env) (S:St) (w:World) (base:Nat) (spare:Nat->Bool) (held:Bool) (fuel:Nat) (cs:List Value) (x:DataW H×List MemPlace),mF P σ S w->aA6 S->aAW S->P.globals.size<=S.nx->DataW.trod enc P w base spare held fuel t cs=some x->(∀n∈DataW.weights P t x.1,n<=140737488355328)->
  ∃σ' S' avs a,rC P σ S w σ' S'/\iK P σ' avs cs/\(∀u∈cs,u.oneCell'=true)/\E S' avs a/\S.nx<=S'.nx
def aEA{α:Type}(E:St->b6->α->Prop):Prop:=∀ {S S':St} {avs:b6} {a:α},E S avs a->Same S S'->E S' avs a
def aOP(k:IntKind)(_:St)(avs:b6)(z:Int):Prop:=avs= [.int k z]/\(Lit.int k z).wf=true
theorem aMo{k:IntKind}:aEA (aOP k):=fun h _=>h
theorem aNJ{t:TypeId}{k:IntKind}(ht:P.underlying t=some (.int k)):Lays P t (aOP k):=by
 intro H enc σ S w base spare held fuel cs x hR hn hf hG h hW;obtain⟨n,rfl,_,hw⟩:=DataW.trod_int ht h;exact⟨σ,S,[.int k n],n,rC.refl hR hn hf,dF.2 ⟨_,_,rfl,by simp only[Rv],dH.2 rfl⟩,fun u hu=>by simp at hu;subst hu;rfl,⟨rfl,hw⟩,Ag _⟩
theorem aB5{H:Type}{e:TypeId}{d:DataW H}{n:Nat}:∀ {l:List (DataW H)},d∈l->n∈DataW.weights P e d->n∈DataW.weightsAll P e l
 | [],h,_=>by cases h
 | x::r,h,hn=>by
  show n∈DataW.weights P e x++DataW.weightsAll P e r;rcases Bm.1 h with rfl | h
  ·exact Dh _ hn
  ·exact Dk _ (aB5 h hn)
theorem aAL{H:Type}{n:Nat}:∀ {ts:List TypeId} {l:List (DataW H)} {i:Nat} {t:TypeId} {d:DataW H},ts[i]? =some t->l[i]? =some d->n∈DataW.weights P t d->n∈DataW.weightsEach P ts l
 | [],_,_,_,_,h,_,_=>by simp at h
 | _::_,[],_,_,_,_,h,_=>by simp at h
 | u::ts,x::r,0,t,d,h1,h2,hn=>by
  simp at h1 h2;subst h1;subst h2;exact Dh _ hn
 | u::ts,x::r,i+1,t,d,h1,h2,hn=>by
  show n∈DataW.weights P u x++DataW.weightsEach P ts r;exact Dk _ (aAL (by simpa using h1) (by simpa using h2) hn)
theorem aEu{H:Type}{t e:TypeId}{xs ys:List (DataW H)}(ht:P.underlying t=some (.slice e)):DataW.weights P t (.slice xs ys)=(xs.length+ys.length) * P.bytesOf e::(DataW.weightsAll P e xs++DataW.weightsAll P e ys):=by
 unfold DataW.weights;rw[ht]
def aNo(k:Nat){α:Type}(E:St->b6->α->Prop)(S:St)(avs:b6)(l:List α):Prop:=
 ∃av,avs= [av]/\l.length * (8 * k)<=140737488355328/\((l= []/\(av= .cb\/av= .emp))\/∃ (b cap:Nat) (css:List (b6)),av= .sl b 0 l.length cap false/\l.length<=cap/\b<S.nx/\S.h.get b=some (.ro css.flatten)/\css.length=l.length/\∀ (i:Nat) (cs:b6) (a:α),css[i]? =some cs->l[i]? =some a->cs.length=k/\E S cs a)
theorem aMy{a:Addr}{n base:Nat}{cs:List Value}(h:w.cells? base a n=some cs):cs.length=n/\∀i,i<n->w.cell? (a.add i)=cs[i]? :=by
 unfold World.cells? at h;split at h
 ·refine⟨by simpa using mapM_some_length h,fun i hi=>?_⟩;exact mapM_some_get h i i (by simp [hi])
 ·cases h
theorem aDq{e:TypeId}{k:Nat}{α:Type}{E:St->b6->α->Prop}(hE:Lays P e E)(hF:aEA E)(hk:0<k){H:Type}{enc:TypeId×Value->H}{base:Nat}{spare:Nat->Bool}{held:Bool}{fuel:Nat}{a:Addr}(hspot:a.spot=none)
  (hR:mF P σ S w) (hn:aA6 S) (hf:aAW S) (hG:P.globals.size<=S.nx):∀ {m:Nat},(∀i,i<m->∃x,(w.cells? base (a.add (i * k)) k).bind (DataW.trod enc P w base spare held fuel e)=some x/\∀n∈DataW.weights P e x.1,n<=140737488355328)->
  ∃ (σ':Env) (S':St) (css:List (b6)),∃l:List α,∃Cs:List Value,rC P σ S w σ' S'/\S.nx<=S'.nx/\css.length=m/\l.length=m/\(∀ (i:Nat) (cs:b6) (a:α),css[i]? =some cs->l[i]? =some a->cs.length=k/\E S' cs a)/\iK P σ' css.flatten Cs/\(∀u∈Cs,u.oneCell'=true)/\Cs.length=m * k/\w.rangeAt a.block a.off Cs
 | 0,_=>⟨σ,S,[],[],[],rC.refl hR hn hf,Ag _,rfl,rfl,fun i cs a hi=>(by simp at hi),dH.2 rfl,fun u hu=>(by cases hu),by simp,fun j v hv=>(by simp at hv)⟩
 | m+1,h=>by
  have⟨σ1,S1,css,l,Cs,hA,hn1,hcl,hll,hel,hrv,hone,hlen,hrange⟩:=aDq hE hF hk hspot hR hn hf hG (m:=m) fun i hi=>h i ay;have⟨x,hx,hxW⟩:=h m ay;have⟨cs,hcs,hx⟩:=Co.1 hx;have⟨σ2,S2,avs,y,hA2,hrv2,hone2,hE2,hn2⟩:=hE H enc σ1 S1 w base spare held fuel cs x hA.rep hA.no hA.fresh (Au hG hn1) hx hxW;have⟨hcl2,hcell⟩:=aMy hcs;have hal:avs.length=k:=by rw[<-hrv2.length];exact hcl2
  refine⟨σ2,S2,css++ [avs],l++ [y],Cs++cs,hA.trans hA2,Au hn1 hn2,by simp [hcl],by simp [hll],?_,?_,?_,?_,?_⟩
  ·intro i cs' a' hi ha;rw[Em] at hi ha;rw[hcl] at hi;rw[hll] at ha;split at hi
   ·rename_i hlt;rw[if_pos hlt] at ha;exact⟨(hel i cs' a' hi ha).1,hF (hel i cs' a' hi ha).2 hA2.same⟩
   ·rename_i hlt;rw[if_neg hlt] at ha;have him:i - m=0:=by
     rcases Bk (i - m) with h | h
     ·exact h
     ·have⟨q,hq⟩:=Nat.exists_eq_succ_of_ne_zero (Nat.pos_iff_ne_zero.1 h);rw[hq] at hi;simp at hi
    rw[him] at hi ha;simp at hi ha;subst hi;subst ha;exact⟨hal,hE2⟩
  ·rw[List.flatten_append];simp only[List.flatten_cons,List.flatten_nil,Bi];exact(hrv.mono hA2.le).append hrv2
  ·intro u hu;rcases Bf.1 hu with hu | hu
   ·exact hone u hu
   ·exact hone2 u hu
  ·rw[Ai,hlen,hcl2,Cm]
  ·intro j v hv;rw[Em] at hv;split at hv
   ·exact hrange j v hv
   ·rename_i hlt;have hj:j - Cs.length<k:=by
     have:=(Aj.1 hv).1;omega
    have:=hcell (j - Cs.length) hj;rw[hv] at this;rw[<-this];congr 1;have hadd:∀i,a.add i=⟨a.block,a.off+i,none⟩:=fun i=>by
     unfold Addr.add;split
     ·rename_i h;subst h;cases a;simp_all
     ·rfl
    have hadd2:∀ (x y:Nat),Addr.add ⟨a.block,x,none⟩ y=⟨a.block,x+y,none⟩:=fun x y=>by
     unfold Addr.add;split
     ·rename_i h;rw[h,Bh]
     ·rfl
    rw[hadd,hadd2,hlen];congr 1;rw[hlen] at hlt;omega
theorem aIR{t e:TypeId}{k:Nat}{α:Type}{E:St->b6->α->Prop}(ht:P.underlying t=some (.slice e))(hc:P.cellsOf e=k)(hk:0<k)(hby:8 * k<=P.bytesOf e)(hE:Lays P e E)(hF:aEA E):Lays P t (aNo k E):=by
 intro H enc σ S w base spare held fuel cs x hR hn hf hG h hW;rcases DataW.trod_slice ht h with⟨rfl,_⟩ | ⟨a,len,cap,elems,rest,n,rfl,rfl,hxe,_,hlc,_,hlen,hel,_⟩
 ·exact⟨σ,S,[.cb],[],rC.refl hR hn hf,dF.2 ⟨_,_,rfl,by simp only[Rv],dH.2 rfl⟩,fun u hu=>by simp at hu;subst hu;rfl,⟨_,rfl,by simp,.inl ⟨rfl,.inl rfl⟩⟩,Ag _⟩
 ·rw[hc] at hel;subst hxe;have hW:∀n∈DataW.weights P t (.slice (elems.map (·.1)) (rest.map (·.1))),n<=140737488355328:=hW;rw[aEu ht] at hW;have hlw:len * (8 * k)<=140737488355328:=by
   have h1:=hW _ (Br ..);rw[Ay,hlen,Ec] at h1;exact Au (Nat.mul_le_mul_left len hby) ay
  rcases Bk len with h0 | hp
  ·subst h0;exact⟨σ,S,[.emp],[],rC.refl hR hn hf,dF.2 ⟨_,_,rfl,by simp only[Rv];exact⟨a,cap,rfl⟩,dH.2 rfl⟩,fun u hu=>by simp at hu;subst hu;rfl,⟨_,rfl,by simp,.inl ⟨rfl,.inr rfl⟩⟩,Ag _⟩
  ·have hget:∀i,i<len->∃x,(w.cells? base (a.add (i * k)) k).bind (DataW.trod enc P w base spare held n e)=some x/\∀n∈DataW.weights P e x.1,n<=140737488355328:=fun i hi=>by
    rw[hel i hi];exact⟨elems[i]' ay,Ac ay,fun n hn=>hW n (Bj _ (Dh _ (aB5 (List.mem_map_of_mem (Bo _)) hn)))⟩
   have⟨x0,hx0,_⟩:=hget 0 hp;have⟨cs0,hcs0,_⟩:=Co.1 hx0;have⟨hl0,hc0⟩:=aMy hcs0;have c0:=hc0 0 hk;rw[Ac ay,Cy] at c0;have e0:(a.add 0).add 0=a:=rfl;rw[e0] at c0;have hblk:a.block<w.heap.size/\a.spot=none:=by
    unfold World.cell? at c0;cases hh:w.heap[a.block]? with
    | none=>rw[hh] at c0;cases c0
    | some o=>
     refine⟨(Array.getElem?_eq_some_iff.1 hh).1,?_⟩;rw[hh] at c0;cases o with
     | cells c t fr=>
      simp only at c0;by_cases hs:a.spot.isSome
      ·rw[if_pos hs] at c0;cases c0
      ·simpa using hs
     | _=>cases c0
   have⟨σ1,S1,css,l,Cs,hA,hn1,hcl,hll,hE1,hrv,hone,hCl,hrange⟩:=aDq hE hF hk hblk.2 hR hn hf hG hget;have hA2:=aLb hA.rep hA.no hA.fresh (Au hG hn1) hblk.1 hrv hone hrange;refine⟨_,_,[.sl S1.nx 0 len cap false],l,hA.trans hA2,dF.2 ⟨_,_,rfl,?_,dH.2 rfl⟩,fun u hu=>by simp at hu;subst hu;rfl,⟨_,rfl,by rw[hll];exact hlw,.inr ⟨S1.nx,cap,css,by rw[hll],ay,by simp,?_,by rw[hcl,hll],fun i cs a' hi ha=>⟨(hE1 i cs a' hi ha).1,hF (hE1 i cs a' hi ha).2 hA2.same⟩⟩⟩,by simp only;omega⟩
   ·simp only[Rv];refine⟨⟨a.block,a.off,0⟩,by unfold yY;rw[if_pos rfl],?_⟩;have:=hblk.2;cases a
    simp_all
   ·simp only;rw[dd,if_pos rfl]
end Go.Ev
namespace Go.Ev
def aP(k:Nat){α:Type}(E:St->b6->α->Prop)(S:St)(v:AV)(l:List α):Prop:=
 (l= []/\(v= .cb\/v= .emp))\/∃b off cap o cs,v= .sl b off l.length cap o/\l.length<=cap/\b<S.nx/\cJ S.h b=some cs/\∀ (i:Nat) (a:α),l[i]? =some a->∃e:b6,e.length=k/\(∀ (j:Nat) (x:AV),e[j]? =some x->cs[off+i * k+j]? =some x)/\E S e a
theorem aP.same{k:Nat}{α:Type}{E:St->b6->α->Prop}(hE:aEA E){S S':St}{v:AV}{l:List α}(h:aP k E S v l)(hs:Same S S'):aP k E S' v l:=by
 rcases h with h | ⟨b,off,cap,o,cs,h1,hc,h2,h3,h4⟩
 ·exact .inl h
 ·refine .inr ⟨b,off,cap,o,cs,h1,hc,Ae h2 hs.1,by rw[uP hs h2];exact h3,fun i a hi=>?_⟩;have⟨e,e1,e2,e3⟩:=h4 i a hi;exact⟨e,e1,e2,hE e3 hs⟩
theorem flat_get{k:Nat}:∀ {css:List (b6)} {i j:Nat} {cs:b6} {x:AV},(∀ (i:Nat) (cs:b6),css[i]? =some cs->cs.length=k)->css[i]? =some cs->cs[j]? =some x->css.flatten[i * k+j]? =some x
 | [],i,j,cs,x,_,hi,_=>by simp at hi
 | c::css,0,j,cs,x,_,hi,hj=>by
  simp at hi;subst hi;rw[Cy,An,List.flatten_cons,Al (Aj.1 hj).1];exact hj
 | c::css,i+1,j,cs,x,hk,hi,hj=>by
  have hc:=hk 0 c rfl;rw[List.flatten_cons,Cm,Am ay,hc,show i * k+k+j - k=i * k+j by omega];exact flat_get (fun i cs h=>hk (i+1) cs (by simpa using h)) (by simpa using hi) hj
theorem aNo.is{k:Nat}{α:Type}{E:St->b6->α->Prop}{S:St}{avs:b6}{l:List α}(h:aNo k E S avs l):∃v,avs= [v]/\aP k E S v l:=by
 obtain⟨v,rfl,_,h | ⟨b,cap,css,h1,h2,h3,h4,h5,h6⟩⟩:=h
 ·exact⟨v,rfl,.inl h⟩
 ·refine⟨v,rfl,.inr ⟨b,0,cap,false,css.flatten,h1,h2,h3,?_,fun i a hi=>?_⟩⟩
  ·unfold cJ;rw[h4];rfl
  ·have hil:i<css.length:=by have:=(Aj.1 hi).1;omega
   have⟨e1,e2⟩:=h6 i css[i] a (Ac hil) hi;refine⟨css[i],e1,fun j x hj=>?_,e2⟩;rw[An];exact flat_get (fun i' cs' hi'=>(h6 i' cs' (l[i']'(by have:=(Aj.1 hi').1;omega)) hi' (Ac _)).1) (Ac hil) hj
section
variable {k:Nat}{α:Type}{E:St->b6->α->Prop}{S:St}{v:AV}{l:List α}
theorem aP.len(h:aP k E S v l):jD v=some (.int .i64 (l.length:Int)):=by
 rcases h with⟨rfl,rfl | rfl⟩ | ⟨b,off,cap,o,cs,rfl,_⟩<;>rfl
def aNp(k:Nat)(v:AV)(i:Nat):AV:=
 match v with
 | .sl b off _ _ _=>.ptr b (off+i * k)
 | _=>.undef
theorem aP.cn(h:aP k E S v l){i:Nat}(hi:i<l.length):fC (.slice k) v i=some (aNp k v i):=by
 rcases h with⟨rfl,_⟩ | ⟨b,off,cap,o,cs,rfl,_⟩
 ·simp at hi
 ·simp only[fC,aNp];have:Nat.blt i l.length=true:=Ak hi;rw[this,aO]
theorem aP.get(h:aP k E S v l){i:Nat}{a:α}(hi:l[i]? =some a):∃ (e:b6) (b p:Nat),aNp k v i= .ptr b p/\b<S.nx/\e.length=k/\E S e a/\∃cs,cJ S.h b=some cs/\∀ (j:Nat) (x:AV),e[j]? =some x->cs[p+j]? =some x:=by
 rcases h with⟨rfl,_⟩ | ⟨b,off,cap,o,cs,rfl,hc,hb,hcs,hel⟩
 ·simp at hi
 ·have⟨e,e1,e2,e3⟩:=hel i a hi;exact⟨e,b,off+i * k,rfl,hb,e1,e3,cs,hcs,e2⟩
end
end Go.Ev
