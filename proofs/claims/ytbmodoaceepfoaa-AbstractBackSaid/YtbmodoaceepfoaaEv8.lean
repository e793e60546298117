import Derived.Test.YtbmodoaceepfoaaEv7
import Derived.ChangeSlices
import Derived.ChangeArms
import Derived.DataReads
set_option linter.all false
namespace Go.Ev
variable {c d:fX}{b:Evs}{args:cd}{S:St}{r:AV×St}{F:Fr}
def wK(c d:fX):Prop:=∀f args S r,c f args S=some r->d f args S=some r
structure Le(a b:Evs):Prop where
 code:∀c A S r,a.code c A S=some r->b.code c A S=some r
 call:wK a.call b.call
def fF{α c:Type}{x y:Option α}{f g:α->Option c}{b:c}(h:bG x f=some b)(d:∀a,x=some a->y=some a)(e:∀a,f a=some b->g a=some b):bG y g=some b:=by
 have⟨a,i,j⟩:=aR h;rw[d a i];exact e a j
def aL0(h:wK c d){v:AV}{e:List (Nat×Nat×Option (Bool×Nat))}(f:aJH v e args c S=some r):aJH v e args d S=some r:=by
 unfold aJH at f ⊢;split at f
 .refine fF f (fun _ h=>h) fun a b=>?_;unfold aJL at b ⊢;split at b
  .exact h _ _ _ _ b
  .unfold aMA at b ⊢;split at b
   .exact fF b (fun _ h=>h) fun _ g=>h _ _ _ _ g
   .cases b
 .cases f
theorem aIt(h:wK c d){x:XOp}(a:evX x c F S=some r):evX x d F S=some r:=by
 cases x with
 | call f args=>exact h _ _ _ _ a
 | inv b recv args=>exact aL0 h a
 | _=>exact a
def aL2(h:wK c d){o:AO}{r:Fr×St}(b:aFf o c F S=some r):aFf o d F S=some r:=by
 unfold aFf at b ⊢;rw[dB] at b ⊢;split at b
 .rename_i e;rw[if_pos e];cases f:o.op with
  | q q=>rw[f] at b;exact b
  | a a=>rw[f] at b;exact b
  | x x=>
   rw[f] at b;exact fF (show bG (evX x c F S) _=some r from b) (fun _ g=>aIt h g) fun _ i=>i
 .rename_i e;rw[if_neg e];exact b
theorem aAZ{c d:fX}(h:wK c d):∀ {l:List AO} {F:Fr} {S:St} {r:Fr×St},xI l c F S=some r->xI l d F S=some r
 | [],F,S,r,a=>a
 | o::l,F,S,r,a=>fF (show bG (aFf o c F S) (fun r=>xI l c r.1 r.2)=some r from a) (fun _ b=>aL2 h b) fun _ e=>aAZ h e
def aNg(h:wK c d){o:AO}{i base:Nat}{D:DS}{r:DS}(b:tV o i base c D=some r):tV o i base d D=some r:=by
 unfold tV at b ⊢;rw[dB] at b ⊢;split at b
 .rename_i e;rw[if_pos e];cases f:o.op with
  | q q=>rw[f] at b;exact b
  | a a=>rw[f] at b;exact b
  | x x=>
   rw[f] at b;have⟨g,j⟩:=cN (show cC (kN D.hs o.mask) _ none=some r from b);show cC (kN D.hs o.mask) _ none=some r;rw[g,aN];exact fF j (fun _ m=>aIt h m) fun _ n=>n
 .rename_i e;rw[if_neg e];exact b
theorem uT{c d:fX}(h:wK c d):∀ {l:List AO} {i base:Nat} {D r:DS},xM l i base c D=some r->xM l i base d D=some r
 | [],_,_,_,_,a=>a
 | o::l,i,base,D,r,a=>fF (show bG (tV o i base c D) (fun b=>xM l (i+1) base c b)=some r from a) (fun _ e=>aNg h e) fun _ f=>uT h f
def aGQ(h:wK c d){l:List AO}{r:Fr×St}(a:zI l c F S=some r):zI l d F S=some r:=
 fF (show bG _ _=some r from a) (fun _ b=>uT h b) fun _ e=>e
theorem aIp{a:Evs}(h:Le a b){c:AC}{A:bO}{r:Out×bO×St}(d:aJR c a A S=some r):aJR c b A S=some r:=by
 cases c with
 | skip=>exact d
 | seq x y=>
  refine fF (show bG (a.code x A S) (uZ y a)=some r from d) (fun _ g=>h.code _ _ _ _ g) fun q e=>?_;unfold uZ at e ⊢;split at e
  .exact h.code _ _ _ _ e
  .exact e
 | cond x y z=>
  have d:aCH (x.val A.F) y z a A S=some r:=d;show aCH (x.val A.F) y z b A S=some r;unfold aCH at d ⊢;split at d
  .exact h.code _ _ _ _ d
  .cases d
 | block id x=>exact fF (show bG (a.code x A S) (uG id)=some r from d) (fun _ g=>h.code _ _ _ _ g) fun _ e=>e
 | loop x=>
  refine fF (show bG (a.code x A S) (uZ (.loop x) a)=some r from d) (fun _ g=>h.code _ _ _ _ g) fun q e=>?_;unfold uZ at e ⊢;split at e
  .exact h.code _ _ _ _ e
  .exact e
 | exit id=>exact d
 | ret=>exact d
 | reg j=>exact fF (show bG (xI j a.call A.F S) _=some r from d) (fun _ g=>aAZ h.call g) fun _ e=>e
 | drw j=>exact fF (show bG (zI j a.call A.F S) _=some r from d) (fun _ g=>aGQ h.call g) fun _ e=>e
 | rng f ps as m=>
  have d:aPz f ps as m a A S=some r:=d;show aPz f ps as m b A S=some r;unfold aPz at d ⊢;cases hi:A.inr with
  | true=>rw[hi,aN] at d;cases d
  | false=>
   rw[hi,aU] at d;rw[aU];have⟨n,o⟩:=cN d;rw[n,aN];refine fF o (fun _ g=>h.call _ _ _ _ g) fun q e=>fF e (fun _ g=>g) fun bl i=>?_;unfold aCk at i ⊢;split at i
   .split at i
    .cases i
    .exact fF i (fun _ g=>g) fun _ p=>h.code _ _ _ _ p
   .cases i
 | dfr j f args=>exact d
def aHz{a:Evs}(h:Le a b){bl:AB}{l:Nat}(f:aAN bl l args a S=some r):aAN bl l args b S=some r:=by
 unfold aAN at f ⊢;split at f
 .refine fF f (fun _ d=>d) fun F g=>fF g (fun _ d=>h.code _ _ _ _ d) fun q e=>?_;unfold aDn at e ⊢;split at e
  .refine fF e (fun _ d=>d) fun bl c=>?_;unfold tG at c ⊢;split at c
   .exact fF (show bG (a.code _ _ _) _=some r from c) (fun _ d=>h.code _ _ _ _ d) fun _ e=>e
   .cases c
  .cases e
 .cases f
def aIs{fns:T eY}{a:Evs}(h:Le a b):wK (xU fns a) (xU fns b):=by
 intro f args S r c;unfold xU at c ⊢;split at c
 .refine fF c (fun _ d=>d) fun fn e=>?_;unfold wT at e ⊢;have⟨i,j⟩:=cN e;rw[i,aN];exact fF j (fun _ d=>h.code _ _ _ _ d) fun _ m=>m
 .exact fF c (fun _ d=>d) fun bl g=>aHz h g
 .cases c
theorem vV(fns:T eY):∀n,Le (ev fns n) (ev fns (n+1))
 | 0=>⟨fun c A S r (h:none=some r)=>(by cases h),fun f args S r (h:none=some r)=>(by cases h)⟩
 | n+1=>⟨fun _ _ _ _ h=>aIp (vV fns n) h,aIs (vV fns n)⟩
theorem lQ(fns:T eY){n m:Nat}(h:n<=m):Le (ev fns n) (ev fns m):=by
 induction h with
 | refl=>exact⟨fun _ _ _ _ h=>h,fun _ _ _ _ h=>h⟩
 | step _ a=>exact⟨fun c A S r h=>(vV fns _).code _ _ _ _ (a.code _ _ _ _ h),fun f args S r h=>(vV fns _).call _ _ _ _ (a.call _ _ _ _ h)⟩
end Go.Ev
namespace Go.Ev
variable {c x y:AC}{A:bO}{S S1:St}{Q:Out->bO->St->Prop}{args:cd}{F:Fr}{t:Bool}{l:List AO}{d:Option Nat}{v:AV}
abbrev oq(d:Nat)(q:QOp):AO:=⟨some d,.q q,none,0⟩
abbrev om(d m:Nat)(q:QOp):AO:=⟨some d,.q q,none,m⟩
abbrev og(d s:Nat)(b:Bool)(m:Nat)(q:QOp):AO:=⟨some d,.q q,some (s,b),m⟩
abbrev oc(d f:Nat)(l:List cT)(m:Nat):AO:=⟨some d,.x (.call (.c (.fn f [] [])) l),none,m⟩
abbrev mt(d i:Nat):AO:=⟨some d,.q (.mv (.t i)),none,0⟩
abbrev ci(n:Int):cT:=.c (.int .i64 n)
abbrev bi(o:BinOp)(x y:cT):QOp:=.bin o (.p .int) x y
abbrev ld(i:Nat):QOp:=.ld false 1 (.t i)
abbrev Zs(n x v m:Nat):AO:=⟨none,.x (.st n (.t x) (.t v)),none,m⟩
abbrev Zf(d o x:Nat):AO:=oq d (.dk o (.t x))
abbrev Zg(d m o x:Nat):AO:=om d m (.dk o (.t x))
abbrev Zi(d k x y:Nat):AO:=oq d (.df (.slice k) (.t x) (.t y))
abbrev Zj(d m k x y:Nat):AO:=om d m (.df (.slice k) (.t x) (.t y))
abbrev Zl(d x:Nat):AO:=oq d (ld x)
abbrev Zm(d m x:Nat):AO:=om d m (ld x)
abbrev Zc(d:Nat)(n:Int):AO:=oq d (.mv (ci n))
abbrev Zn(d x:Nat):AO:=oq d (.dh (.t x))
abbrev Za(d x:Nat)(n:Int):AO:=oq d (bi .add (.t x) (ci n))
abbrev Zt(d x y:Nat):AO:=oq d (bi .lss (.t x) (.t y))
abbrev Ze(d x i:Nat):AO:=oq d (.extract (.t x) i)
abbrev Zd(d n x:Nat):AO:=oq d (.ld true n (.t x))
abbrev Zp(d c y:Nat):AO:=oq d (.pick (.t c) (.c (.bool true)) (.t y))
abbrev Zx(d s:Nat)(b:Bool)(m o x:Nat):AO:=og d s b m (.dk o (.t x))
abbrev Zy(d s:Nat)(b:Bool)(m x:Nat):AO:=og d s b m (ld x)
abbrev Zu(d s:Nat)(b:Bool)(m x:Nat):AO:=og d s b m (.dh (.t x))
abbrev Zb(d k x:Nat):AO:=⟨some d,.a (.box k (.t x)),none,0⟩
variable {fns:T eY}
def jP(fns:T eY)(c:AC)(A:bO)(S:St)(Q:Out->bO->St->Prop):Prop:=∃n o a b,(ev fns n).code c A S=some (o,a,b)/\Q o a b
def iI(fns:T eY)(f:AV)(args:cd)(S:St)(Q:AV->St->Prop):Prop:=∃n v a,(ev fns n).call f args S=some (v,a)/\Q v a
def vT(fns:T eY)(a:List AO)(F:Fr)(S:St)(Q:Fr->St->Prop):Prop:=∃n F' b,xI a (ev fns n).call F S=some (F',b)/\Q F' b
def bB{R:Out->bO->St->Prop}(h:jP fns c A S Q)(a:∀o A S,Q o A S->R o A S):jP fns c A S R:=by
 have⟨n,o,b,d,e,f⟩:=h;exact⟨n,o,b,d,e,a _ _ _ f⟩
def aW{f:AV}{Q R:AV->St->Prop}(h:iI fns f args S Q)(a:∀v S,Q v S->R v S):iI fns f args S R:=by
 have⟨n,v,b,c,d⟩:=h;exact⟨n,v,b,c,a _ _ d⟩
def aIC{a:List AO}{Q R:Fr->St->Prop}(h:vT fns a F S Q)(b:∀F S,Q F S->R F S):vT fns a F S R:=by
 have⟨n,F',c,d,e⟩:=h;exact⟨n,F',c,d,b _ _ e⟩
def aK(h:Q .normal A S):jP fns .skip A S Q:=⟨1,_,_,_,rfl,h⟩
def bT{id:Nat}(h:Q (.exit id) A S):jP fns (.exit id) A S Q:=⟨1,_,_,_,rfl,h⟩
def aT(h:Q .ret A S):jP fns .ret A S Q:=⟨1,_,_,_,rfl,h⟩
def aFa(fns:T eY)(y:AC)(Q:Out->bO->St->Prop):Out->bO->St->Prop
 | .normal,A,S=>jP fns y A S Q
 | o,A,S=>Q o A S
theorem aD(h:jP fns x A S (aFa fns y Q)):jP fns (.seq x y) A S Q:=by
 have⟨n,o,c,S1,a,b⟩:=h;cases o with
 | normal=>
  have⟨m,o,d,e,f,g⟩:=b;refine⟨max n m+1,o,d,e,?_,g⟩;show bG ((ev fns (max n m)).code x A S) (uZ y (ev fns (max n m)))=_;rw[(lQ fns (Fd n m)).code _ _ _ _ a,aH];exact(lQ fns (Eu n m)).code _ _ _ _ f
 | ret=>
  refine⟨n+1,.ret,c,S1,?_,b⟩;show bG ((ev fns n).code x A S) (uZ y (ev fns n))=_;rw[a];rfl
 | exit i=>
  refine⟨n+1,.exit i,c,S1,?_,b⟩;show bG ((ev fns n).code x A S) (uZ y (ev fns n))=_;rw[a];rfl
def aM8{c:cT}(a:c.val A.F= .bool t)(h:jP fns (cC t x y) A S Q):jP fns (.cond c x y) A S Q:=by
 have⟨n,o,b,S1,d,e⟩:=h;refine⟨n+1,o,b,S1,?_,e⟩;show aCH (c.val A.F) x y (ev fns n) A S=_;rw[a];exact d
def aJ9{c:cT}(a:c.val A.F= .bool t)(b:t=true->jP fns x A S Q)(d:t=false->jP fns y A S Q):jP fns (.cond c x y) A S Q:=by
 refine aM8 a ?_;cases t
 .exact d rfl
 .exact b rfl
def aB3(id:Nat)(Q:Out->bO->St->Prop):Out->bO->St->Prop
 | .exit i,A,S=>if i=id then Q .normal A S else Q (.exit i) A S
 | o,A,S=>Q o A S
theorem aO{id:Nat}(h:jP fns c A S (aB3 id Q)):jP fns (.block id c) A S Q:=by
 have⟨n,o,b,S1,d,a⟩:=h;cases o with
 | normal=>exact⟨n+1,.normal,b,S1,by show bG ((ev fns n).code c A S) (uG id)=_;rw[d];rfl,a⟩
 | ret=>exact⟨n+1,.ret,b,S1,by show bG ((ev fns n).code c A S) (uG id)=_;rw[d];rfl,a⟩
 | exit i=>
  by_cases hi:i=id
  .subst hi;have a:Q .normal b S1:=by simpa [aB3] using a
   exact⟨n+1,.normal,b,S1,by show bG ((ev fns n).code c A S) (uG i)=_;rw[d];simp [aH,uG,dB,Bl],a⟩
  .have a:Q (.exit i) b S1:=by simpa [aB3,hi] using a
   exact⟨n+1,.exit i,b,S1,by show bG ((ev fns n).code c A S) (uG id)=_;rw[d];simp [aH,uG,dB,Bl,hi],a⟩
def aGK(I:Nat->bO->St->Prop)(k:Nat)(Q:Out->bO->St->Prop):Out->bO->St->Prop
 | .normal,A,S=>∃k',k'<k/\I k' A S
 | o,A,S=>Q o A S
theorem bX(I:Nat->bO->St->Prop)(h:∀k A S,I k A S->jP fns c A S (aGK I k Q)):∀k A S,I k A S->jP fns (.loop c) A S Q:=by
 intro k
 induction k using Nat.strongRecOn with
 | _ k f=>
  intro A S g;have⟨n,o,a,S1,b,d⟩:=h k A S g;cases o with
  | normal=>
   have⟨k',j,e⟩:=d;have⟨m,o,p,q,r,s⟩:=f k' j a S1 e;refine⟨max n m+1,o,p,q,?_,s⟩;show bG ((ev fns (max n m)).code c A S) (uZ (.loop c) (ev fns (max n m)))=_;rw[(lQ fns (Fd n m)).code _ _ _ _ b,aH];exact(lQ fns (Eu n m)).code _ _ _ _ r
  | ret=>
   refine⟨n+1,.ret,a,S1,?_,d⟩;show bG ((ev fns n).code c A S) (uZ (.loop c) (ev fns n))=_;rw[b];rfl
  | exit i=>
   refine⟨n+1,.exit i,a,S1,?_,d⟩;show bG ((ev fns n).code c A S) (uZ (.loop c) (ev fns n))=_;rw[b];rfl
def aL{a:List AO}(h:vT fns a A.F S fun F' b=>Q .normal ⟨F',A.inr⟩ b):jP fns (.reg a) A S Q:=by
 have⟨n,F',b,c,d⟩:=h;refine⟨n+1,.normal,⟨F',A.inr⟩,b,?_,d⟩;show bG (xI a (ev fns n).call A.F S) _=_;rw[c];rfl
def aRg(a:List RV)(Q:AV->St->Prop):Out->bO->St->Prop
 | .exit _,_,_=>False
 | _,A,S=>∃vs,results a A.F S.h=some vs/\Q (oneOf vs) S
theorem cK{id nt:Nat}{a:List RV}{body:AC}{first cap:cd}{Q:AV->St->Prop}(c:fns.get id=some ⟨nt,a,body⟩)(f:(first++(args++cap)).length<=nt)
  (h:jP fns body ⟨sH (first++(args++cap)) 0 .e,false⟩ S (aRg a Q)):iI fns (.fn id first cap) args S Q:=by
 have⟨n,o,d,b,g,e⟩:=h;have key:∀ (_:∃vs,results a d.F b.h=some vs/\Q (oneOf vs) b) (_:aD2 ⟨nt,a,body⟩ (o,d,b)=bG (results a d.F b.h) fun vs=>some (oneOf vs,b)),iI fns (.fn id first cap) args S Q:=by
  rintro⟨vs,j,m⟩ p;refine⟨n+1,oneOf vs,b,?_,m⟩;show bG (fns.get id) (fun fn=>wT fn (yX first (yX args cap)) (ev fns n) S)=_;rw[c,aH];unfold wT;rw[fS,fS,gD,Ak f,aN,g,aH,p,j];rfl
 cases o with
 | normal=>exact key e rfl
 | ret=>exact key e rfl
 | exit i=>exact e.elim
def aBr{F:Fr}{S:St}{Q:Fr->St->Prop}:vT fns [] F S Q↔Q F S:=
 ⟨fun⟨_,_,_,a,b⟩=>by cases a;exact b,fun h=>⟨0,F,S,rfl,h⟩⟩
def aEl{o:AO}{a:Fr}{Q:Fr->St->Prop}(h:∀call,aFf o call F S=some (a,S1))(b:vT fns l a S1 Q):vT fns (o::l) F S Q:=by
 have⟨n,F',c,d,e⟩:=b;refine⟨n,F',c,?_,e⟩;rw[iY,h,aH];exact d
def aOG{q:QOp}{m:Nat}{Q:Fr->St->Prop}(h:gO q F S.h=some v)(a:vT fns l (cU d F v) S Q):vT fns (⟨d,.q q,none,m⟩::l) F S Q:=
 aEl (fun call=>by show bG (gO q F S.h) _=_;rw[h];rfl) a
def aTk{a:zD}{m:Nat}{Q:Fr->St->Prop}{bl:AB}(h:uH a F S.nx=some (v,bl))(b:vT fns l (cU d F v) ⟨S.h.set S.nx (some bl),S.nx+1⟩ Q):vT fns (⟨d,.a a,none,m⟩::l) F S Q:=
 aEl (fun call=>by show bG (uH a F S.nx) _=_;rw[h];rfl) b
def fN{x:XOp}{m:Nat}{Q:Fr->St->Prop}(h:∀call,evX x call F S=some (v,S1))(a:vT fns l (cU d F v) S1 Q):vT fns (⟨d,.x x,none,m⟩::l) F S Q:=
 aEl (fun call=>by show bG (evX x call F S) _=_;rw[h];rfl) a
def bK{f:cT}{args:List cT}{m:Nat}{Q:Fr->St->Prop}(h:iI fns (f.val F) (eF args F) S fun v S1=>vT fns l (cU d F v) S1 Q):vT fns (⟨d,.x (.call f args),none,m⟩::l) F S Q:=by
 have⟨n,v,S1,a,k,F',b,c,e⟩:=h;refine⟨max n k,F',b,?_,e⟩;rw[iY];have:aFf ⟨d,.x (.call f args),none,m⟩ (ev fns (max n k)).call F S=some (cU d F v,S1):=by
  show bG ((ev fns (max n k)).call (f.val F) (eF args F) S) _=_;rw[(lQ fns (Fd n k)).call _ _ _ _ a];rfl
 rw[this,aH];exact aAZ (lQ fns (Eu n k)).call c
def fE(i:Nat)(F:Fr):(cT.t i).val F=aC i F:=rfl
def aCM(v:AV)(F:Fr):(cT.c v).val F=v:=rfl
def fC(F:Fr)(v:AV):cU none F v=F:=rfl
def bH(i j:Nat)(F:Fr)(v:AV):aC i (cU (some j) F v)=if i=j then v else aC i F:=by
 show aC i (F.set j (some v))=_;unfold aC;rw[ef];split<;>rfl
end Go.Ev
namespace Go.Ev
variable {fns:T eY}
variable {S:St}{F:Fr}{ps:ce}{as:AC}
def aPn{l:Nat}{args:cd}{Q:AV->St->Prop}{pend:Option Out}{x:Fr}{q:AC}(z:S.h.get l=some (.loop .ready pend x ps as q))(A:pE ps args x=some F)
  (h:jP fns as ⟨F,true⟩ S fun o t S1=>o= .normal/\∃a i j p,S1.h.get l=some (.loop .ready a i j p q)/\jP fns q t ⟨S1.h.set l (some (.loop .busy a i j p q)),S1.nx⟩ fun o B g=>∃b c d e f,g.h.get l=some (.loop .busy b c d e f)/\
   ((o= .normal/\Q (.bool true) ⟨g.h.set l (some (.loop .ready none c d e f)),g.nx⟩)\/(o≠ .normal/\Q (.bool false) ⟨g.h.set l (some (.loop .done (some o) c d e f)),g.nx⟩))):iI fns (.yld l) args S Q:=by
 obtain⟨n,o,t,S1,C,rfl,a,i,j,p,D,m,u,B,g,G,b,c,d,e,f,H,s⟩:=h;have I:=(lQ fns (Fd n m)).code _ _ _ _ C;have J:=(lQ fns (Eu n m)).code _ _ _ _ G;have key:∀r,uL (.loop .busy b c d e f) u l g=some r->(ev fns (max n m+1)).call (.yld l) args S=some r:=fun r K=>by
  show bG (S.h.get l) (fun bl=>aAN bl l args (ev fns (max n m)) S)=_;rw[z,aH];show bG (pE ps args x) (fun F=>bG ((ev fns (max n m)).code as ⟨F,true⟩ S) (aDn l q (ev fns (max n m))))=_;rw[A,aH,I,aH];show bG (S1.h.get l) (fun bl=>tG bl l q (ev fns (max n m)) t S1)=_;rw[D,aH];show bG ((ev fns (max n m)).code q t ⟨S1.h.set l (some (.loop .busy a i j p q)),S1.nx⟩) (fun r=>bG (r.2.2.h.get l) fun bl=>uL bl r.1 l r.2.2)=_;rw[J,aH];show bG (g.h.get l) (fun bl=>uL bl u l g)=_;rw[H,aH];exact K
 rcases s with⟨rfl,s⟩|⟨y,s⟩
 .exact⟨_,_,_,key _ rfl,s⟩
 .refine⟨_,_,_,key (.bool false,⟨g.h.set l (some (.loop .done (some u) c d e f)),g.nx⟩) ?_,s⟩;cases u with
  | normal=>exact absurd rfl y
  | _=>rfl
theorem aQf{f:cT}{i:AC}{A:bO}{Q:Out->bO->St->Prop}{id:Nat}{first cap:cd}(hi:A.inr=false)(q:f.val A.F= .fn id first cap)
  (h:iI fns (.fn id first cap) [.yld S.nx] ⟨S.h.set S.nx (some (.loop .ready none A.F ps as i)),S.nx+1⟩ fun _ a=>∃st pend j b d g c,a.h.get S.nx=some (.loop st pend j b d g)/\st≠ .busy/\aLJ pend=some c/\jP fns c A ⟨a.h.set S.nx (some (.loop .exhausted pend j b d g)),a.nx⟩ Q):jP fns (.rng f ps as i) A S Q:=by
 have⟨n,v,a,s,st,pend,j,b,d,g,c,t,p,u,m,o,x,y,z,B⟩:=h;refine⟨max n m+1,o,x,y,?_,B⟩;show cC A.inr none (cC (aNO (f.val A.F)) (bG ((ev fns (max n m)).call (f.val A.F) [.yld S.nx] ⟨S.h.set S.nx (some (.loop .ready none A.F ps as i)),Nat.succ S.nx⟩) fun r=>bG (r.2.h.get S.nx) fun bl=>aCk bl S.nx A r.2 (ev fns (max n m))) none)=_;rw[hi,aU,q,show aNO (.fn id first cap)=true from rfl,aN,show Nat.succ S.nx=S.nx+1 from rfl,(lQ fns (Fd n m)).call _ _ _ _ s,aH];show bG (a.h.get S.nx) (fun bl=>aCk bl S.nx A a (ev fns (max n m)))=_;rw[t,aH];have e:=(lQ fns (Eu n m)).code _ _ _ _ z;cases st with
 | busy=>exact absurd rfl p
 | _=>
  show bG (aLJ pend) (fun c=>(ev fns (max n m)).code c A ⟨a.h.set S.nx _,a.nx⟩)=_;rw[u,aH];exact e
def aO6{a:List (Nat×Nat×Option (Bool×Nat))}{recv:cT}{args:List cT}{t f:Nat}{v:AV}(b:recv.val F= .iface t v)(c:aEZ t a=some (f,none))(call:fX)(S:St):evX (.inv a recv args) call F S=evX (.call (.c (.fn f [v] [])) args) call F S:=by
 show aJH (recv.val F) a (eF args F) call S=call (.fn f [v] []) (eF args F) S;rw[b];show bG (aEZ t a) (fun r=>aJL r v (eF args F) call S)=_;rw[c,aH];rfl
end Go.Ev
namespace Go.Ev
variable {S:St}{b i:Nat}{v:AV}{l:bu}
def Same(S a:St):Prop:=S.nx<=a.nx/\∀b,b<S.nx->a.h.get b=S.h.get b
def Same.refl(S:St):Same S S:=⟨Af _,fun _ _=>rfl⟩
def Same.trans{a S'':St}(h:Same S a)(h':Same a S''):Same S S'':=⟨Av h.1 h'.1,fun b c=>(h'.2 b (Ae c h.1)).trans (h.2 b c)⟩
def Same.alloc(S:St)(bl:AB):Same S ⟨S.h.set S.nx (some bl),S.nx+1⟩:=⟨Nat.le_succ _,fun b a=>by simp only;rw[ef,if_neg au]⟩
def Same.put{a:St}(h:Same S a)(e:S.nx<=b)(x:Option AB):Same S ⟨a.h.set b x,a.nx⟩:=⟨h.1,fun c d=>by simp only;rw[ef,if_neg au];exact h.2 c d⟩
def bN(k:IntKind)(S:St)(v:AV)(l:bu):Prop:=
 (l= []/\(v= .ct\/v= .emp))\/∃b off cap o cs,v= .sl b off l.length cap o/\l.length<=cap/\b<S.nx/\cI S.h b=some cs/\∀i x,l[i]? =some x->cs[off+i]? =some (.int k x)
def xA{a:St}(h:Same S a)(c:b<S.nx):cI a.h b=cI S.h b:=by unfold cI;rw[h.2 b c]
def bN.same{k:IntKind}{a:St}(h:bN k S v l)(c:Same S a):bN k a v l:=by
 rcases h with h|⟨b,off,cap,o,cs,e,f,d,g,i⟩
 .exact .inl h
 .exact .inr ⟨b,off,cap,o,cs,e,f,Ae d c.1,by rw[xA c d];exact g,i⟩
def bN.len{k:IntKind}(h:bN k S v l):kR v=some (.int .i64 (.ofNat l.length)):=by
 rcases h with⟨rfl,rfl|rfl⟩|⟨b,off,cap,o,cs,rfl,_⟩<;>rfl
def xS(v:AV)(i:Nat):AV:=
 match v with
 | .sl b off _ _ _=>.ptr b (off+i * 1)
 | _=>.undef
def bN.df{k:IntKind}(h:bN k S v l)(hi:i<l.length):eQ (.slice 1) v i=some (xS v i):=by
 rcases h with⟨rfl,_⟩|⟨b,off,cap,o,cs,rfl,_⟩
 .simp at hi
 .simp only[eQ,xS];have:Nat.blt i l.length=true:=Ak hi;rw[this,aN]
def bN.ld{k:IntKind}(h:bN k S v l)(hi:i<l.length):eK (xS v i) false 1 S.h=some (.int k (l.getD i 0)):=by
 rcases h with⟨rfl,_⟩|⟨b,off,cap,o,cs,rfl,d,e,a,c⟩
 .simp at hi
 .simp only[xS,eK,qI,aU,nF,a,aH,qQ,Dm];rw[c i l[i] (Ab hi)];simp [Ad,hi]
def aGW(e:sR)(k:IntKind)(a b:Int):nH .add e (.int k a) (.int k b)=some (.int k (k.wrap (a+b))):=by
 show fH .add k a k b=_;unfold fH;rw[show iA .add=false from rfl,aU,fO,aN];show some (AV.int k (aOw k a b))=_;rw[aH1]
def aG4(e:sR)(k:IntKind)(a b:Int):nH .sub e (.int k a) (.int k b)=some (.int k (k.wrap (a - b))):=by
 show fH .sub k a k b=_;unfold fH;rw[show iA .sub=false from rfl,aU,fO,aN];show some (AV.int k (aIG k a b))=_;rw[aBm]
def aGI(e:sR)(k:IntKind)(a b:Int):nH .mul e (.int k a) (.int k b)=some (.int k (k.wrap (a * b))):=by
 show fH .mul k a k b=_;unfold fH;rw[show iA .mul=false from rfl,aU,fO,aN];show some (AV.int k (aKq k a b))=_;rw[aEw]
def aG7(e:sR)(k:IntKind)(a b:Int):nH .lss e (.int k a) (.int k b)=some (.bool (decide (a<b))):=by
 show fH .lss k a k b=_;unfold fH;rw[show iA .lss=false from rfl,aU,fO,aN];show some (AV.bool (cC (ile b a) false true))=_;rw[qO,tL];congr 2;rw[Cn];simp
def aG5(e:sR)(k:IntKind)(a b:Int):nH .leq e (.int k a) (.int k b)=some (.bool (decide (a<=b))):=by
 show fH .leq k a k b=_;unfold fH;rw[show iA .leq=false from rfl,aU,fO,aN];show some (AV.bool (ile a b))=_;rw[qO]
def aGG(e:sR)(k:IntKind)(a b:Int):nH .gtr e (.int k a) (.int k b)=some (.bool (decide (b<a))):=by
 show fH .gtr k a k b=_;unfold fH;rw[show iA .gtr=false from rfl,aU,fO,aN];show some (AV.bool (cC (ile a b) false true))=_;rw[qO,tL];congr 2;rw[Cn];simp
def aG9(e:sR)(k:IntKind)(a b:Int):nH .geq e (.int k a) (.int k b)=some (.bool (decide (b<=a))):=by
 show fH .geq k a k b=_;unfold fH;rw[show iA .geq=false from rfl,aU,fO,aN];show some (AV.bool (ile b a))=_;rw[qO]
def aDv(e:sR)(k:IntKind)(a b:Int):nH .eql e (.int k a) (.int k b)=some (.bool (decide (a=b))):=by
 show fH .eql k a k b=_;unfold fH;rw[show iA .eql=false from rfl,aU,fO,aN];show some (AV.bool (ieq a b))=_;rw[jG];congr 2
def aGv(e:sR)(k:IntKind)(a b:Int):nH .neq e (.int k a) (.int k b)=some (.bool (decide (a≠b))):=by
 show fH .neq k a k b=_;unfold fH;rw[show iA .neq=false from rfl,aU,fO,aN];show some (AV.bool (cC (ieq a b) false true))=_;rw[jG,tL];congr 2;rw[Cn];simp
section
variable (F:Fr)(h:T AB)
def aGL(x:cT):gO (.mv x) F h=some (x.val F):=rfl
def aDA(op:BinOp)(e:sR)(x y:cT):gO (.bin op e x y) F h=nH op e (x.val F) (y.val F):=rfl
def aI3(op:UnOp)(x:cT):gO (.un op x) F h=unV op (x.val F):=rfl
def zH(x:cT):gO (.dh x) F h=kR (x.val F):=rfl
def vB(k:IxK)(x a:cT):gO (.df k x a) F h=bG (gN (a.val F)) fun i=>eQ k (x.val F) i:=rfl
def mQ(agg:Bool)(n:Nat)(x:cT):gO (.ld agg n x) F h=eK (x.val F) agg n h:=rfl
def aEH(k:aHL)(x:cT):gO (.conv k x) F h=aBi k (x.val F) h:=rfl
def yO(x:cT)(i:Nat):gO (.extract x i) F h=nC (x.val F) i:=rfl
def aEm(c a b:cT):gO (.pick c a b) F h=zC (c.val F) a b F:=rfl
def aGZ(agg:Bool)(off n:Nat)(x:cT):gO (.fld agg off n x) F h=aJd (x.val F) agg off n:=rfl
end
def aJ(k:IntKind)(n:Nat):gN (.int k (n:Int))=some n:=rfl
def aE7(k j:IntKind)(n:Int)(h:T AB):aBi (.int k) (.int j n) h=some (.int k (k.wrap n)):=by
 show some (AV.int k (aF4 k n))=_;rw[vE]
end Go.Ev
namespace Go.Ev
variable {fns:T eY}
variable {d:Option Nat}{l:List AO}{S:St}{Q:DS->Prop}{i base:Nat}{D:DS}
def mR{α:Type}(x:Option α)(Q:α->Prop):Prop:=∃a,x=some a/\Q a
def dH{α:Type}(a:α)(Q:α->Prop):mR (some a) Q=Q a:=propext ⟨fun⟨_,b,c⟩=>by cases b;exact c,fun h=>⟨a,rfl,h⟩⟩
def aJF{q:QOp}{m:Nat}{F:Fr}{Q:Fr->St->Prop}:vT fns (⟨d,.q q,none,m⟩::l) F S Q↔mR (gO q F S.h) fun v=>vT fns l (cU d F v) S Q:=by
 constructor
 .rintro⟨n,F',c,a,b⟩;rw[iY] at a;have⟨r,e,f⟩:=aR a;have⟨v,g,i⟩:=aR (show bG (gO q F S.h) (fun v=>some (cU d F v,S))=some r from e);cases i;exact⟨v,g,n,F',c,f,b⟩
 .rintro⟨v,a,b⟩;exact aOG a b
def aCn{d:Option Nat}{a:zD}{m:Nat}{l:List AO}{F:Fr}{S:St}{Q:Fr->St->Prop}:vT fns (⟨d,.a a,none,m⟩::l) F S Q↔mR (uH a F S.nx) fun r=>vT fns l (cU d F r.1) ⟨S.h.set S.nx (some r.2),S.nx+1⟩ Q:=by
 constructor
 .rintro⟨n,F',e,b,c⟩;rw[iY] at b;have⟨r,f,g⟩:=aR b;have⟨v,i,j⟩:=aR (show bG (uH a F S.nx) (fun r=>some (cU d F r.1,(⟨S.h.set S.nx (some r.2),Nat.succ S.nx⟩:St)))=some r from f);cases j;exact⟨v,i,n,F',e,g,c⟩
 .rintro⟨⟨v,bl⟩,b,c⟩;exact aTk b c
def wpd(fns:T eY)(a:List AO)(i base:Nat)(D:DS)(Q:DS->Prop):Prop:=∃n b,xM a i base (ev fns n).call D=some b/\Q b
def qZ{a:List AO}{A:bO}{Q:Out->bO->St->Prop}(h:wpd fns a 0 S.nx ⟨A.F,⟨S.h,S.nx+a.length⟩,[],[],[]⟩ fun D=>iB S.h D.hs.reverse D.ls=true/\Q .normal ⟨D.F,A.inr⟩ ⟨(cP (2 ^ a.length - 1) D.ps D.S.h).2,D.S.nx⟩):jP fns (.drw a) A S Q:=by
 have⟨n,D,b,c,d⟩:=h;refine⟨n+1,.normal,⟨D.F,A.inr⟩,⟨(cP (2 ^ a.length - 1) D.ps D.S.h).2,D.S.nx⟩,?_,d⟩;show bG (bG (xM a 0 S.nx (ev fns n).call ⟨A.F,⟨S.h,S.nx+mF a⟩,[],[],[]⟩) fun D=>aBh S.h (mF a) D) _=_;rw[gD,b,aH];unfold aBh;rw[c,aN];rfl
def iC:wpd fns [] i base D Q↔Q D:=
 ⟨fun⟨_,_,a,b⟩=>by cases a;exact b,fun h=>⟨0,D,rfl,h⟩⟩
def iW{q:QOp}{m:Nat}:wpd fns (⟨d,.q q,none,m⟩::l) i base D Q↔
  mR (gO q D.F D.S.h) fun v=>wpd fns l (i+1) base ⟨cU d D.F v,D.S,D.ps,D.hs,cC (eE q) (⟨q,D.F,v,i,m⟩::D.ls) D.ls⟩ Q:=by
 constructor
 .rintro⟨n,a,b,c⟩;have⟨r,e,f⟩:=aR (show bG (tV ⟨d,.q q,none,m⟩ i base (ev fns n).call D) (fun a=>xM l (i+1) base (ev fns n).call a)=some a from b);have⟨v,g,j⟩:=aR (show bG (gO q D.F D.S.h) (fun v=>some (⟨cU d D.F v,D.S,D.ps,D.hs,cC (eE q) (⟨q,D.F,v,i,m⟩::D.ls) D.ls⟩:DS))=some r from e);cases j;exact⟨v,g,n,a,f,c⟩
 .rintro⟨v,b,n,a,c,e⟩;refine⟨n,a,?_,e⟩;show bG (bG (gO q D.F D.S.h) _) _=_;rw[b];exact c
def aFg{a:zD}{m:Nat}:wpd fns (⟨d,.a a,none,m⟩::l) i base D Q↔
  mR (uH a D.F (base+i)) fun r=>wpd fns l (i+1) base ⟨cU d D.F r.1,D.S,⟨i,base+i,r.2⟩::D.ps,D.hs,D.ls⟩ Q:=by
 constructor
 .rintro⟨n,b,c,e⟩;have⟨r,f,g⟩:=aR (show bG (tV ⟨d,.a a,none,m⟩ i base (ev fns n).call D) (fun b=>xM l (i+1) base (ev fns n).call b)=some b from c);have⟨v,j,o⟩:=aR (show bG (uH a D.F (base+i)) (fun r=>some (⟨cU d D.F r.1,D.S,⟨i,base+i,r.2⟩::D.ps,D.hs,D.ls⟩:DS))=some r from f);cases o;exact⟨v,j,n,b,g,e⟩
 .rintro⟨r,c,n,b,e,f⟩;refine⟨n,b,?_,f⟩;show bG (bG (uH a D.F (base+i)) _) _=_;rw[c];exact e
def iQ{x:XOp}{m:Nat}{v:AV}{S1:St}(a:kN D.hs m=true)(h:∀call,evX x call D.F ⟨(cP m D.ps D.S.h).2,D.S.nx⟩=some (v,S1))
  (b:wpd fns l (i+1) base ⟨cU d D.F v,S1,(cP m D.ps D.S.h).1,(i,m,S1.h)::D.hs,D.ls⟩ Q):wpd fns (⟨d,.x x,none,m⟩::l) i base D Q:=by
 have⟨n,c,e,f⟩:=b;refine⟨n,c,?_,f⟩;show bG (cC (kN D.hs m) (bG (evX x (ev fns n).call D.F ⟨(cP m D.ps D.S.h).2,D.S.nx⟩) _) none) _=_;rw[a,aN,h];exact e
def aBc{f:cT}{args:List cT}{m:Nat}(a:kN D.hs m=true)
  (h:iI fns (f.val D.F) (eF args D.F) ⟨(cP m D.ps D.S.h).2,D.S.nx⟩ fun v S1=>wpd fns l (i+1) base ⟨cU d D.F v,S1,(cP m D.ps D.S.h).1,(i,m,S1.h)::D.hs,D.ls⟩ Q):wpd fns (⟨d,.x (.call f args),none,m⟩::l) i base D Q:=by
 have⟨n,v,S1,b,k,c,e,g⟩:=h;refine⟨max n k,c,?_,g⟩;show bG (cC (kN D.hs m) (bG ((ev fns (max n k)).call (f.val D.F) (eF args D.F) ⟨(cP m D.ps D.S.h).2,D.S.nx⟩) _) none) _=_;rw[a,aN,(lQ fns (Fd n k)).call _ _ _ _ b];exact uT (lQ fns (Eu n k)).call e
def aNN{op:AOp}{s:Nat}{b:Bool}{m:Nat}(a:aC s D.F= .bool b)(c:wpd fns (⟨d,op,none,m⟩::l) i base D Q):wpd fns (⟨d,op,some (s,b),m⟩::l) i base D Q:=by
 have⟨n,e,f,g⟩:=c;refine⟨n,e,?_,g⟩;have:tV ⟨d,op,some (s,b),m⟩ i base (ev fns n).call D=tV ⟨d,op,none,m⟩ i base (ev fns n).call D:=by
  unfold tV;have j:fT (some (s,b)) D.F=true:=by show isB (aC s D.F) b=true;rw[a];cases b<;>rfl
  have o:fT none D.F=true:=rfl;simp only[j,o];cases op<;>rfl
 show bG (tV ⟨d,op,some (s,b),m⟩ i base (ev fns n).call D) _=_;rw[this];exact f
def eM(k:IntKind)(a:Int):cO (.int k a) (.int k a)=true:=by simp [cO,dB,fO,jG]
def zY(a:Bool):cO (.bool a) (.bool a)=true:=by simp [cO,wW]
def aEr(a b:Nat):cO (.ptr a b) (.ptr a b)=true:=by simp [cO,dB,Bl]
def mE(a b c d:Nat)(o:Bool):cO (.sl a b c d o) (.sl a b c d o)=true:=by simp [cO,Bl,wW]
def aA5:cO .ct .ct=true:=rfl
end Go.Ev
namespace Go.Ev
def aBI(S:St):Prop:=∀b,S.nx<=b->S.h.get b=none
def Frs(S a:St):Prop:=(aBI S->aBI a)/\S.nx<=a.nx
def aMu(S:St)(x:Option AB):Frs S ⟨S.h.set S.nx x,S.nx+1⟩:=
 ⟨fun h c a=>by simp only at a ⊢;rw[ef,if_neg au];exact h c au,Nat.le_succ _⟩
end Go.Ev
namespace Go.Ev
variable {P:Program}{σ:Env}{S:St}{w:World}
variable {fns:T eY}{l:List (Nat×Nat×IntKind×Int)}{v:AV}{t:List (Nat×List (IntKind×Int))}
def aGu:List (Nat×Nat×IntKind×Int)->AC
 | []=>.seq (.reg [⟨some 0,.q (.mv (.c (.bool true))),none,0⟩]) .ret
 | (g,j,k,z)::l=>.seq (.reg [⟨some 1,.q (.ld false 1 (.c (.ptr g j))),none,0⟩,⟨some 2,.q (.bin .eql (.p .int) (.t 1) (.c (.int k z))),none,0⟩]) (.seq (.cond (.t 2) .skip (.exit 0)) (aGu l))
def aCd(l:List (Nat×Nat×IntKind×Int)):eY:=⟨0,[.t 0],aGu l⟩
theorem aKP{fns:T eY}{Q:Out->bO->St->Prop}(a:∀A,aC 0 A.F= .bool true->Q .ret A S):∀ {l:List (Nat×Nat×IntKind×Int)} {A:bO},(∀c∈l,nF S.h c.1 c.2.1=some (.int c.2.2.1 c.2.2.2))->jP fns (aGu l) A S Q
 | [],A,_=>by
  refine aD (aL ?_);rw[aJF];exact⟨.bool true,rfl,(aBr).2 (aT (a _ (by rw[bH,if_pos rfl])))⟩
 | (g,j,k,z)::l,A,h=>by
  have b:=h (g,j,k,z) (by simp);simp only at b;refine aD (aL (aOG (v:=.int k z) b (aOG (v:=.bool true) ?_ (aBr.2 ?_))))
  .show nH .eql (.p .int) (aC 1 (cU (some 1) A.F (.int k z))) (.int k z)=_;rw[bH,if_pos rfl,aDv,Ac rfl]
  refine aD (aJ9 (t:=true) (by show aC 2 _=_;rw[bH,if_pos rfl]) (fun _=>aK ?_) (nofun));exact aKP a fun c d=>h c (by simp [d])
def aNs{id:Nat}(a:fns.get id=some (aCd l))(h:∀c∈l,nF S.h c.1 c.2.1=some (.int c.2.2.1 c.2.2.2)):iI fns (.fn id [] []) [] S fun r b=>r= .bool true/\b=S:=by
 refine cK a (by simp) (aKP (fun A d=>?_) h);exact⟨[aC 0 A.F],rfl,by rw[d];rfl,rfl⟩
theorem aGs{v:AV}{k:IntKind}{z:Int}(h:nH .eql (.p .int) v (.int k z)=some (.bool true)):v= .int k z:=by
 cases v with
 | int k' z'=>
  have h':fH .eql k' z' k z=some (.bool true):=h;unfold fH at h';rw[show iA .eql=false from rfl,aU] at h';have⟨hk,h'⟩:=cN h';have hz:some (AV.bool (ieq z' z))=some (.bool true):=h';simp only[Au,AV.bool.injEq] at hz;rw[jG] at hz;have hz:=eq_of_beq hz;subst hz;have hkk:k'=k:=by
   cases k<;>cases k'<;>first | rfl | (exfalso;revert hk;decide)
  rw[hkk]
 | _=>cases h
theorem aHF{fns:T eY}:∀ {l:List (Nat×Nat×IntKind×Int)} {n:Nat} {A d:bO} {f:St} {o:Out},(ev fns n).code (aGu l) A S=some (o,d,f)->(∀i,o≠ .exit i)->(∀c∈l,nF S.h c.1 c.2.1=some (.int c.2.2.1 c.2.2.2))/\f=S/\aC 0 d.F= .bool true
 | l,0,_,_,_,_,h,_=>by cases h
 | l,1,A,d,f,o,h,_=>by
  cases l with
  | nil=>
   have h':(none:Option (Out×bO×St))=some (o,d,f):=h;cases h'
  | cons c l=>
   have⟨g,j,k,z⟩:=c;have h':(none:Option (Out×bO×St))=some (o,d,f):=h;cases h'
 | [],n+2,A,d,f,o,h,x=>by
  have⟨⟨B,C,S1⟩,q,m⟩:=aR (show bG ((ev fns (n+1)).code (.reg [⟨some 0,.q (.mv (.c (.bool true))),none,0⟩]) A S) (uZ .ret (ev fns (n+1)))=some (o,d,f) from h);have M:(ev fns (n+1)).code (.reg [⟨some 0,.q (.mv (.c (.bool true))),none,0⟩]) A S=some (.normal,⟨cU (some 0) A.F (.bool true),A.inr⟩,S):=rfl;rw[M] at q;cases q;have N:uZ .ret (ev fns (n+1)) (.normal,⟨cU (some 0) A.F (.bool true),A.inr⟩,S)=some (.ret,⟨cU (some 0) A.F (.bool true),A.inr⟩,S):=rfl;rw[N] at m;cases m;exact⟨fun c p=>(by cases p),rfl,by rw[bH,if_pos rfl]⟩
 | (g,j,k,z)::l,n+2,A,d,f,o,h,x=>by
  have⟨⟨B,C,S1⟩,q,m⟩:=aR (show bG ((ev fns (n+1)).code (.reg [⟨some 1,.q (.ld false 1 (.c (.ptr g j))),none,0⟩,⟨some 2,.q (.bin .eql (.p .int) (.t 1) (.c (.int k z))),none,0⟩]) A S) (uZ (.seq (.cond (.t 2) .skip (.exit 0)) (aGu l)) (ev fns (n+1)))=some (o,d,f) from h);have⟨⟨F1,S2⟩,D,O⟩:=aR (show bG (xI [⟨some 1,.q (.ld false 1 (.c (.ptr g j))),none,0⟩,⟨some 2,.q (.bin .eql (.p .int) (.t 1) (.c (.int k z))),none,0⟩] (ev fns n).call A.F S) (fun r=>some (.normal,(⟨r.1,A.inr⟩:bO),r.2))=some (B,C,S1) from q);cases O;rw[iY] at D;have⟨⟨Q,R⟩,U,G⟩:=aR D;have⟨v,V,W⟩:=aR (show bG (nF S.h g j) (fun v=>some (cU (some 1) A.F v,S))=some (Q,R) from U);cases W;rw[iY] at G;have⟨⟨X,Y⟩,Z,h9⟩:=aR G;cases h9;have⟨b,H,y⟩:=aR (show bG (nH .eql (.p .int) (aC 1 (cU (some 1) A.F v)) (.int k z)) (fun u=>some (cU (some 2) (cU (some 1) A.F v) u,S))=some (X,Y) from Z);cases y;rw[bH,if_pos rfl] at H;have m:(ev fns (n+1)).code (.seq (.cond (.t 2) .skip (.exit 0)) (aGu l)) ⟨cU (some 2) (cU (some 1) A.F v) b,A.inr⟩ S=some (o,d,f):=m;have⟨⟨I,J,K⟩,a,s⟩:=aR (show bG ((ev fns n).code (.cond (.t 2) .skip (.exit 0)) ⟨cU (some 2) (cU (some 1) A.F v) b,A.inr⟩ S) (uZ (aGu l) (ev fns n))=some (o,d,f) from m);cases n with
  | zero=>cases a
  | succ n=>
   have a:aCH (aC 2 (cU (some 2) (cU (some 1) A.F v) b)) .skip (.exit 0) (ev fns n) ⟨cU (some 2) (cU (some 1) A.F v) b,A.inr⟩ S=some (I,J,K):=a;rw[bH,if_pos rfl] at a;cases b with
   | bool t=>
    have a:(ev fns n).code (cC t .skip (.exit 0)) ⟨cU (some 2) (cU (some 1) A.F v) (.bool t),A.inr⟩ S=some (I,J,K):=a;cases t with
    | true=>
     rw[aN] at a;cases n with
     | zero=>cases a
     | succ n=>
      have e:(ev fns (n+1)).code .skip ⟨cU (some 2) (cU (some 1) A.F v) (.bool true),A.inr⟩ S=some (.normal,⟨cU (some 2) (cU (some 1) A.F v) (.bool true),A.inr⟩,S):=rfl;rw[e] at a;cases a;have L:=aHF (l:=l) (show(ev fns (n+1+1)).code (aGu l) _ S=some (o,d,f) from s) x;refine⟨fun c p=>?_,L.2⟩;rcases Bp.1 p with rfl|p
      .rw[V,aGs H]
      .exact L.1 c p
    | false=>
     rw[aU] at a;cases n with
     | zero=>cases a
     | succ n=>
      have e:(ev fns (n+1)).code (.exit 0) ⟨cU (some 2) (cU (some 1) A.F v) (.bool false),A.inr⟩ S=some (.exit 0,⟨cU (some 2) (cU (some 1) A.F v) (.bool false),A.inr⟩,S):=rfl;rw[e] at a;cases a;have s:some (Out.exit 0,(⟨cU (some 2) (cU (some 1) A.F v) (.bool false),A.inr⟩:bO),S)=some (o,d,f):=s;cases s;exact absurd rfl (x 0)
   | _=>cases a
def aLc{n:Nat}{d:St}(h:wT (aCd l) [] (ev fns n) S=some (v,d)):(∀c∈l,nF S.h c.1 c.2.1=some (.int c.2.2.1 c.2.2.2))/\d=S/\v= .bool true:=by
 unfold wT at h;have⟨_,h⟩:=cN h;have⟨⟨o,f,S1⟩,g,a⟩:=aR h;unfold aD2 at a;split at a
 .cases a
 .rename_i b;have⟨vs,j,m⟩:=aR a;cases m;have⟨p,q,r⟩:=aHF (show(ev fns n).code (aGu l) ⟨.e,false⟩ S=some (o,f,S1) from g) (fun i e=>b i e);refine⟨p,q,?_⟩;have:some [aC 0 f.F]=some vs:=j;cases this;exact r
def aEB:Nat->Nat->List (IntKind×Int)->List (Nat×Nat×IntKind×Int)
 | _,_,[]=>[]
 | g,j,(k,z)::l=>(g,j,k,z)::aEB g (j+1) l
theorem aEp:∀ {l:List (IntKind×Int)} {g j i:Nat} {k:IntKind} {z:Int},l[i]? =some (k,z)->(g,j+i,k,z)∈aEB g j l
 | [],_,_,_,_,_,h=>by simp at h
 | (k,z)::l,g,j,0,k',a,h=>by
  simp at h;obtain⟨rfl,rfl⟩:=h;simp [aEB]
 | (k,z)::l,g,j,i+1,k',a,h=>by
  have:=aEp (g:=g) (j:=j+1) (show l[i]? =some (k',a) by simpa using h);rw[show j+(i+1)=j+1+i by omega];exact Bf _ this
def oW:List (Nat×List (IntKind×Int))->List (Nat×Nat×IntKind×Int)
 | []=>[]
 | (g,l)::r=>aEB g 0 l++oW r
theorem aBK:∀ {t:List (Nat×List (IntKind×Int))} {g:Nat} {l:List (IntKind×Int)},(g,l)∈t->∀c∈aEB g 0 l,c∈oW t
 | (b,l')::t,g,l,h,c,a=>by
  simp only[oW,Bi];rcases Bp.1 h with h|h
  .cases h;exact .inl a
  .exact .inr (aBK h c a)
theorem aHs(G:mD P σ S w)(H:∀x∈t,x.1<P.globals.size/\x.2≠ [])(h:∀c∈oW t,nF S.h c.1 c.2.1=some (.int c.2.2.1 c.2.2.2)):aMJ P (t.map fun x=>(x.1,x.2.map fun y=>AV.int y.1 y.2)) w:=by
 intro x I;obtain⟨⟨g,l⟩,b,rfl⟩:=Cq.1 I;have⟨J,K⟩:=H _ b;have q:∀i k z,l[i]? =some (k,z)->nF S.h g i=some (.int k z):=fun i k z hi=>by
  have:=h _ (aBK b _ (aEp (g:=g) (j:=0) hi));simpa using this
 obtain⟨⟨f,z0⟩,l',rfl⟩:∃a l',l=a::l':=by cases l with|nil=>exact absurd rfl K|cons a l'=>exact⟨a,l',rfl⟩
 have r:=q 0 f z0 rfl;unfold nF cI at r;have⟨cs,R,h4⟩:=aR r;have⟨bl,M,e⟩:=aR R;have⟨L,N,T,O⟩:=G.blk g bl M;rw[G.glob g J] at N;cases N;have n:∀i k z,((f,z0)::l')[i]? =some (k,z)->cs[i]? =some (AV.int k z):=fun i k z hi=>by
  have:=q i k z hi;unfold nF cI at this;rw[M,aH,e,aH,qQ] at this;exact this
 have key:∀d,jE P σ cs d->w.rangeAt g 0 d->∃Ds,jE P (aEL P) (((f,z0)::l').map fun y=>AV.int y.1 y.2) Ds/\(∀u∈Ds,u.oneCell'=true)/\w.rangeAt g 0 Ds:=by
  intro d U W;refine⟨((f,z0)::l').map fun y=>Value.int y.1 y.2,?_,fun u X=>?_,fun j v Q=>?_⟩
  .clear n q H h r b I K;generalize (f,z0)::l'=m
   induction m with
   | nil=>exact dO.2 rfl
   | cons a m Y=>exact dK.2 ⟨_,_,rfl,by simp only[Rv],Y⟩
  .obtain⟨y,_,rfl⟩:=Cq.1 X;rfl
  .rw[Az,Bb] at Q;obtain⟨⟨k,z⟩,A,rfl⟩:=Q;have B:=n j k z A;have⟨V,Z,p⟩:=U.get B;simp only[Rv] at p;rw[<-p];exact W j V Z
 refine⟨J,by simpa using T,?_⟩;cases bl with
 | cells ds o s=>
  simp only[nD,Au] at e;subst e;have⟨d,C,_,D,_⟩:=O;exact key d C D
 | ro ds=>
  simp only[nD,Au] at e;subst e;have⟨d,C,_,D⟩:=O;exact key d C D
 | _=>cases e
def aHe{l:List (Nat×cd)}{c:Env}{i:St}{w':World}(a:mD P σ S w)(h:jL P (aEL P) (stL P l) w c i w'):jL P σ S w σ S w':=by
 have f:∀r,r<w.heap.size->w'.heap[r]? =w.heap[r]? :=fun r d=>h.keep r d (aUd r);refine⟨⟨fun b bl e=>?_,a.lt,a.fresh,a.glob,a.inj⟩,fun _ _=>rfl,Af _,fun r d _=>f r d,fun _ j=>.inl j,h.size,h.os,h.tape,h.output,fun _ _ e=>e⟩;have⟨L,m,g,n⟩:=a.blk b bl e;exact⟨L,m,Ae g h.size,n.frame (fun _ _ x=>x) (f _ g)⟩
def aFs{id nt:Nat}{i:List RV}{c:AC}{Fn:Func}{l:List (Nat×cd)}(g:P.funcs[id]? =some Fn)(Z:cFn P Fn=some ⟨nt,i,c⟩)(hl:l=t.map fun x=>(x.1,x.2.map fun y=>AV.int y.1 y.2))(hg:∀x∈t,x.1<P.globals.size/\x.2≠ [])
  (h:Good P c ⟨.e,false⟩ (stL P l) fun o A S=>aMk i o A S=some true):aKB P fns id (aCd (oW t)):=by
 have⟨C,c',rs,a,b,hC,D,heq⟩:=aE4 Z;cases heq;refine⟨rfl,⟨Fn,C,g,a,b⟩,fun n S Q v j σ w fv R U=>?_⟩;have⟨d,G,hv⟩:=aLc j;subst G;subst hv;have hT:aMJ P l w:=by rw[hl];exact aHs U hg d
 simp only[Rv] at R;obtain⟨A,B,rfl,H,I⟩:=R;have H:=dO.1 H;have I:=dO.1 I;subst H;subst I;rw[lH g a b];show CallsIn Fence.wide 0 P id ⟨[]++([]++ [])⟩ w _;refine callsIn_of_wp_marks g a trivial ?_;have⟨J,K⟩:=aA1 (P:=P) (σ:=aEL P) (args:=[]) (Args:=[]) (dO.2 rfl) (nt:=Fn.ntmps) (Ck _);rw[<-aDu];refine h none 0 Fn.ntmps C hC (fun _=>rfl) w.heap.size (aEL P) _ w _ K Df.nil (Af _) J (aSO hT) ?_;intro o A' S2 e a' w' m W X L p f;have⟨M,q⟩:=aMp m;have⟨_,r,N,s,u⟩:=L;rw[Bu] at N;have z:∀w'',jL P (aEL P) (stL P l) w e S2 w''->∃V,(Go.results Fn a'.tmps).run P w''= .ok V w''/\∃e,Rv P e (.bool true) V/\jL P σ Q w e Q w'':=fun w'' Y=>by
  have⟨O,h8,h9⟩:=nM Y.rep p D q;refine⟨if h:O.toArray.size=1 then O.toArray[0] else .tuple O.toArray,?_,σ,?_,aHe U Y⟩
  .show((do let vs <-Fn.results.mapM (aEz a'.tmps);pure (if h:vs.size=1 then vs[0] else .tuple vs):Sem Value)).run P w''=_;rw[Fa];simp only[Sem.run_bind,Sem.run_map,h8,Result.andThen_ok,Sem.run_pure]
  .have:=yN h9;simp only[oneOf,Rv] at this;rw[this];simp only[Rv]
 rcases M with rfl|rfl
 .show LeavesInM Fence.wide 0 P Fn a'.tmps _ a'.defers .returning w';rw[N];exact leaves r w' s u f z
 .show LeavesInM Fence.wide 0 P Fn a'.tmps _ a'.defers .returning w';rw[N];exact leaves r w' s u f z
def aGm{l:List (Nat×eY)}(b:P.follows .mixedOrders=true)(d:∀p∈l,Row P p\/aKB P (table l) p.1 p.2):qT P (table l):=
 ⟨asked P,wZ P,fun id fn h=>by
  rcases d _ (aCo h) with⟨Fn,c,e⟩|c
  .exact .inl ⟨Fn,c,e⟩
  .exact .inr (.inl c),fun call a=>aC2 (asked P) (wZ P) b call a⟩
end Go.Ev
namespace Go.Ev
variable {P:Program}{σ:Env}{S:St}{w:World}
variable {l:List (Nat×cd)}
def aBR(S:St):Prop:=∀b bl,S.h.get b=some bl->¬xH bl
def aAz(σ:Env)(b:Nat)(L:Loc):Env:=fun c=>if c=b then some L else σ c
def aQ1(a:mD P σ S w)(L:Loc):∀b M,σ b=some M->aAz σ S.nx L b=some M:=fun b M h=>by
 have:=a.below h;unfold aAz;rw[if_neg au];exact h
structure tH(P:Program)(σ:Env)(S:St)(w:World)(σ':Env)(S':St):Prop where
 rep:mD P σ' S' w
 no:aBR S'
 same:Same S S'
 fresh:aBI S'
 le:∀b L,σ b=some L->σ' b=some L
def tH.refl(a:mD P σ S w)(b:aBR S)(c:aBI S):tH P σ S w σ S:=⟨a,b,Same.refl S,c,fun _ _ h=>h⟩
def tH.trans{c a:Env}{d S'':St}(h:tH P σ S w c d)(h':tH P c d w a S''):tH P σ S w a S'':=⟨h'.rep,h'.no,h.same.trans h'.same,h'.fresh,fun b L e=>h'.le b L (h.le b L e)⟩
def aQ5(a:aBR S)(r:Nat):¬Own σ S r:=fun⟨b,bl,_,c,d,_⟩=>a b bl c d
theorem aMa{fns:T eY}(hK:qT P fns){id:Nat}{b:Bool}{Fn:Func}(hFn:P.funcs[id]? =some Fn)(hb:Fn.body.isSome=true)(hnm:(Fn.name== "runtime.NumGoroutine")=false){avs:cd}{Args:List Value}{Q:St->Prop}
  (h:iI fns (.fn id [] []) avs S fun r S'=>r= .bool b/\Q S') (hargs:jE P σ avs Args) (hR:mD P σ S w) (hn:aBR S):
  Calls P id ⟨Args⟩ w fun e w'=>e= .returned (.bool b)/\Kept w w':=by
 have⟨n,v,S',hrun0,hv,_⟩:=h;subst hv;have hs:=aMP hK n _ _ _ _ _ hrun0 σ w (.func (.func id) ⟨[]⟩ ⟨[]⟩) Args (by simp only[Rv];exact⟨[],[],rfl,dO.2 rfl,dO.2 rfl⟩) hargs hR;have hnm':¬Fn.name= "runtime.NumGoroutine" :=by simpa using hnm
 have⟨C,hC⟩:=Option.isSome_iff_exists.1 hb;have hrun:((do let d <-Deferred.ofValue (.func (.func id) ⟨[]⟩ ⟨[]⟩) ⟨Args⟩;invoke d.target d.args:Sem Next)).run P w= .ok (.enter id ⟨Args⟩) w:=by
  simp only[Deferred.ofValue,Sem.run_bind,Sem.run_pure,Result.andThen_ok,invoke,callFunc,run_program,hFn];simp [hC,hnm']
 rw[hrun] at hs;have hs:CallsIn Fence.wide 0 P id ⟨Args⟩ w _:=hs;refine(callsIn_wide.1 hs).mono fun e w' h=>?_;cases e with
 | returned V=>
  have⟨σ',h1,h2⟩:=h;simp only[Rv] at h1;subst h1;exact⟨rfl,h2.kept (aQ5 hn)⟩
 | _=>exact h.elim
def aPm:aBR (stL P l):=fun b bl h a=>by
 obtain⟨cs,_,rfl⟩:=pS h;exact a.elim
theorem aPN(a:∀x∈l,x.1<P.globals.size):aBI (stL P l):=fun b c=>by
 cases h:(stL P l).h.get b with
 | none=>rfl
 | some bl=>
  have⟨cs,d,_⟩:=pS h;have e:=a _ d;simp only[stL] at c;simp only at e;omega
end Go.Ev
namespace Go.Ev
variable {P:Program}{σ:Env}{S:St}{w:World}
variable {t:TypeId}
def aMd(f:mD P σ S w)(m:aBR S)(o:aBI S)(A:P.globals.size<=S.nx){r d:Nat}{cs:cd}{i:List Value}(p:r<w.heap.size)(q:jE P σ cs i)(j:∀u∈i,u.oneCell'=true)(s:w.rangeAt r d i):
  tH P σ S w (aAz σ S.nx ⟨r,d,0⟩) ⟨S.h.set S.nx (some (.ro cs)),S.nx+1⟩:=by
 have c:=aQ1 f ⟨r,d,0⟩;refine⟨⟨fun b bl a=>?_,fun b bl a=>?_,fun b a=>?_,fun g t=>?_,fun b B bl x L C a _ n=>?_⟩,fun b bl a=>?_,Same.alloc S _,(aMu S _).1 o,c⟩
 .simp only at a;rw[ef] at a;split at a
  .rename_i e;subst e;cases a;exact⟨⟨r,d,0⟩,by unfold aAz;rw[if_pos rfl],p,i,q.mono c,j,s⟩
  .have⟨L,j,y,z⟩:=f.blk b bl a;exact⟨L,c b L j,y,z.frame c rfl⟩
 .simp only at a;rw[ef] at a;split at a
  .rename_i e;subst e;simp
  .have:=f.lt b bl a;simp only;omega
 .simp only at a;unfold aAz;rw[if_neg au];exact f.fresh b au
 .unfold aAz;rw[if_neg au];exact f.glob g t
 .simp only at a;rw[ef] at a;split at a
  .cases a;exact n.elim
  .exact absurd n (m b bl a)
 .simp only at a;rw[ef] at a;split at a
  .cases a;exact fun h=>h
  .exact m b bl a
def Lays(P:Program)(t:TypeId){α:Type}(E:St->cd->α->Prop):Prop:=
 ∀ (H:Type) (enc:TypeId×Value->H) (σ:Env) (S:St) (w:World) (base:Nat) (spare:Nat->Bool) (held:Bool) (b:Nat) (cs:List Value) (x:DataW H×List MemPlace),mD P σ S w->aBR S->aBI S->P.globals.size<=S.nx->DataW.trod enc P w base spare held b t cs=some x->(∀n∈DataW.weights P t x.1,n<=140737488355328)->
  ∃c e d a,tH P σ S w c e/\jE P c d cs/\(∀u∈cs,u.oneCell'=true)/\E e d a/\S.nx<=e.nx
def aCG{α:Type}(E:St->cd->α->Prop):Prop:=∀ {S c:St} {b:cd} {a:α},E S b a->Same S c->E c b a
def aP6(k:IntKind)(_:St)(a:cd)(z:Int):Prop:=a= [.int k z]/\(Lit.int k z).wf=true
def aNv{k:IntKind}:aCG (aP6 k):=fun h _=>h
def aO0{k:IntKind}(c:P.underlying t=some (.int k)):Lays P t (aP6 k):=by
 intro H enc σ S w base spare held a cs x d e f i h j;obtain⟨n,rfl,_,g⟩:=DataW.trod_int c h;exact⟨σ,S,[.int k n],n,tH.refl d e f,dK.2 ⟨_,_,rfl,by simp only[Rv],dO.2 rfl⟩,fun u b=>by simp at b;subst b;rfl,⟨rfl,g⟩,Af _⟩
theorem aCP{H:Type}{e:TypeId}{d:DataW H}{n:Nat}:∀ {l:List (DataW H)},d∈l->n∈DataW.weights P e d->n∈DataW.weightsAll P e l
 | [],h,_=>by cases h
 | x::r,h,a=>by
  show n∈DataW.weights P e x++DataW.weightsAll P e r;rcases Bp.1 h with rfl|h
  .exact Dh _ a
  .exact Cx _ (aCP h a)
theorem aBx{H:Type}{n:Nat}:∀ {a:List TypeId} {l:List (DataW H)} {i:Nat} {t:TypeId} {d:DataW H},a[i]? =some t->l[i]? =some d->n∈DataW.weights P t d->n∈DataW.weightsEach P a l
 | [],_,_,_,_,h,_,_=>by simp at h
 | _::_,[],_,_,_,_,h,_=>by simp at h
 | u::a,x::r,0,t,d,b,c,e=>by
  simp at b c;subst b;subst c;exact Dh _ e
 | u::a,x::r,i+1,t,d,b,c,e=>by
  show n∈DataW.weights P u x++DataW.weightsEach P a r;exact Cx _ (aBx (by simpa using b) (by simpa using c) e)
def aFy{H:Type}{e:TypeId}{a b:List (DataW H)}(c:P.underlying t=some (.slice e)):DataW.weights P t (.slice a b)=(a.length+b.length) * P.bytesOf e::(DataW.weightsAll P e a++DataW.weightsAll P e b):=by
 unfold DataW.weights;rw[c]
def aOE(k:Nat){α:Type}(E:St->cd->α->Prop)(S:St)(d:cd)(l:List α):Prop:=
 ∃av,d= [av]/\l.length * (8 * k)<=140737488355328/\((l= []/\(av= .ct\/av= .emp))\/∃ (b cap:Nat) (c:List (cd)),av= .sl b 0 l.length cap false/\l.length<=cap/\b<S.nx/\S.h.get b=some (.ro c.flatten)/\c.length=l.length/\∀ (i:Nat) (cs:cd) (a:α),c[i]? =some cs->l[i]? =some a->cs.length=k/\E S cs a)
def aNG{a:Addr}{n base:Nat}{cs:List Value}(h:w.cells? base a n=some cs):cs.length=n/\∀i,i<n->w.cell? (a.add i)=cs[i]? :=by
 unfold World.cells? at h;split at h
 .refine⟨by simpa using mapM_some_length h,fun i hi=>?_⟩;exact mapM_some_get h i i (by simp [hi])
 .cases h
theorem aEj{e:TypeId}{k:Nat}{α:Type}{E:St->cd->α->Prop}(hE:Lays P e E)(hF:aCG E)(hk:0<k){H:Type}{enc:TypeId×Value->H}{base:Nat}{spare:Nat->Bool}{held:Bool}{o:Nat}{a:Addr}(t:a.spot=none)
  (hR:mD P σ S w) (hn:aBR S) (hf:aBI S) (hG:P.globals.size<=S.nx):∀ {m:Nat},(∀i,i<m->∃x,(w.cells? base (a.add (i * k)) k).bind (DataW.trod enc P w base spare held o e)=some x/\∀n∈DataW.weights P e x.1,n<=140737488355328)->
  ∃ (I:Env) (T:St) (b:List (cd)),∃l:List α,∃p:List Value,tH P σ S w I T/\S.nx<=T.nx/\b.length=m/\l.length=m/\(∀ (i:Nat) (cs:cd) (a:α),b[i]? =some cs->l[i]? =some a->cs.length=k/\E T cs a)/\jE P I b.flatten p/\(∀u∈p,u.oneCell'=true)/\p.length=m * k/\w.rangeAt a.block a.off p
 | 0,_=>⟨σ,S,[],[],[],tH.refl hR hn hf,Af _,rfl,rfl,fun i cs a hi=>(by simp at hi),dO.2 rfl,fun u z=>(by cases z),by simp,fun j v A=>(by simp at A)⟩
 | m+1,h=>by
  have⟨U,S1,b,l,p,R,J,K,L,M,V,N,c,f⟩:=aEj hE hF hk t hR hn hf hG (m:=m) fun i hi=>h i au;have⟨x,W,X⟩:=h m au;have⟨cs,Y,W⟩:=Cu.1 W;have⟨Z,S2,O,y,B,r,C,aa,ab⟩:=hE H enc U S1 w base spare held o cs x R.rep R.no R.fresh (Av hG J) W X;have⟨s,D⟩:=aNG Y;have ac:O.length=k:=by rw[<-r.length];exact s
  refine⟨Z,S2,b++ [O],l++ [y],p++cs,R.trans B,Av J ab,by simp [K],by simp [L],?_,?_,?_,?_,?_⟩
  .intro i cs' a' hi g;rw[Ec] at hi g;rw[K] at hi;rw[L] at g;split at hi
   .rename_i d;rw[if_pos d] at g;exact⟨(M i cs' a' hi g).1,hF (M i cs' a' hi g).2 B.same⟩
   .rename_i d;rw[if_neg d] at g;have an:i - m=0:=by
     rcases Ci (i - m) with h|h
     .exact h
     .have⟨q,hq⟩:=Nat.exists_eq_succ_of_ne_zero (Nat.pos_iff_ne_zero.1 h);rw[hq] at hi;simp at hi
    rw[an] at hi g;simp at hi g;subst hi;subst g;exact⟨ac,aa⟩
  .rw[List.flatten_append];simp only[List.flatten_cons,List.flatten_nil,Bu];exact(V.mono B.le).append r
  .intro u z;rcases Bi.1 z with z|z
   .exact N u z
   .exact C u z
  .rw[Aj,c,s,Dr]
  .intro j v A;rw[Ec] at A;split at A
   .exact f j v A
   .rename_i d;have hj:j - p.length<k:=by
     have:=(Ai.1 A).1;omega
    have:=D (j - p.length) hj;rw[A] at this;rw[<-this];congr 1;have Q:∀i,a.add i=⟨a.block,a.off+i,none⟩:=fun i=>by
     unfold Addr.add;split
     .rename_i h;subst h;cases a;simp_all
     .rfl
    have G:∀ (x y:Nat),Addr.add ⟨a.block,x,none⟩ y=⟨a.block,x+y,none⟩:=fun x y=>by
     unfold Addr.add;split
     .rename_i h;rw[h,Bs]
     .rfl
    rw[Q,G,c];congr 1;rw[c] at d;omega
def aJE{e:TypeId}{k:Nat}{α:Type}{E:St->cd->α->Prop}(W:P.underlying t=some (.slice e))(hc:P.cellsOf e=k)(X:0<k)(I:8 * k<=P.bytesOf e)(hE:Lays P e E)(Y:aCG E):Lays P t (aOE k E):=by
 intro H enc σ S w base spare held Z cs x J q K hG h r;rcases DataW.trod_slice W h with⟨rfl,_⟩|⟨a,len,cap,b,s,n,rfl,rfl,L,_,aa,_,y,z,_⟩
 .exact⟨σ,S,[.ct],[],tH.refl J q K,dK.2 ⟨_,_,rfl,by simp only[Rv],dO.2 rfl⟩,fun u j=>by simp at j;subst j;rfl,⟨_,rfl,by simp,.inl ⟨rfl,.inl rfl⟩⟩,Af _⟩
 .rw[hc] at z;subst L;have r:∀n∈DataW.weights P t (.slice (b.map (·.1)) (s.map (·.1))),n<=140737488355328:=r;rw[aFy W] at r;have M:len * (8 * k)<=140737488355328:=by
   have h1:=r _ (Bk ..);rw[Al,y,Du] at h1;exact Av (Nat.mul_le_mul_left len I) au
  rcases Ci len with h0|hp
  .subst h0;exact⟨σ,S,[.emp],[],tH.refl J q K,dK.2 ⟨_,_,rfl,by simp only[Rv];exact⟨a,cap,rfl⟩,dO.2 rfl⟩,fun u j=>by simp at j;subst j;rfl,⟨_,rfl,by simp,.inl ⟨rfl,.inr rfl⟩⟩,Af _⟩
  .have m:∀i,i<len->∃x,(w.cells? base (a.add (i * k)) k).bind (DataW.trod enc P w base spare held n e)=some x/\∀n∈DataW.weights P e x.1,n<=140737488355328:=fun i hi=>by
    rw[z i hi];exact⟨b[i]' au,Ab au,fun n q=>r n (Bf _ (Dh _ (aCP (List.mem_map_of_mem (Bt _)) q)))⟩
   have⟨x0,N,_⟩:=m 0 hp;have⟨cs0,A,_⟩:=Cu.1 N;have⟨ab,O⟩:=aNG A;have f:=O 0 X;rw[Ab au,Dy] at f;have e0:(a.add 0).add 0=a:=rfl;rw[e0] at f;have d:a.block<w.heap.size/\a.spot=none:=by
    unfold World.cell? at f;cases Q:w.heap[a.block]? with
    | none=>rw[Q] at f;cases f
    | some o=>
     refine⟨(Ex.1 Q).1,?_⟩;rw[Q] at f;cases o with
     | cells c t fr=>
      simp only at f;by_cases hs:a.spot.isSome
      .rw[if_pos hs] at f;cases f
      .simpa using hs
     | _=>cases f
   have⟨ac,S1,R,l,Cs,G,T,U,p,B,V,C,an,g⟩:=aEj hE Y X d.2 J q K hG m;have D:=aMd G.rep G.no G.fresh (Av hG T) d.1 V C g;refine⟨_,_,[.sl S1.nx 0 len cap false],l,G.trans D,dK.2 ⟨_,_,rfl,?_,dO.2 rfl⟩,fun u j=>by simp at j;subst j;rfl,⟨_,rfl,by rw[p];exact M,.inr ⟨S1.nx,cap,R,by rw[p],au,by simp,?_,by rw[U,p],fun i cs a' hi ha=>⟨(B i cs a' hi ha).1,Y (B i cs a' hi ha).2 D.same⟩⟩⟩,by simp only;omega⟩
   .simp only[Rv];refine⟨⟨a.block,a.off,0⟩,by unfold aAz;rw[if_pos rfl],?_⟩;have:=d.2;cases a
    simp_all
   .simp only;rw[ef,if_pos rfl]
end Go.Ev
namespace Go.Ev
variable {α:Type}{S:St}{i:Nat}{E:St->cd->α->Prop}{l:List α}
def aG(k:Nat){α:Type}(E:St->cd->α->Prop)(S:St)(v:AV)(l:List α):Prop:=
 (l= []/\(v= .ct\/v= .emp))\/∃b off cap o cs,v= .sl b off l.length cap o/\l.length<=cap/\b<S.nx/\cI S.h b=some cs/\∀ (i:Nat) (a:α),l[i]? =some a->∃e:cd,e.length=k/\(∀ (j:Nat) (x:AV),e[j]? =some x->cs[off+i * k+j]? =some x)/\E S e a
def aG.same{k:Nat}(g:aCG E){d:St}{v:AV}(h:aG k E S v l)(c:Same S d):aG k E d v l:=by
 rcases h with h|⟨b,off,cap,o,cs,j,m,f,n,p⟩
 .exact .inl h
 .refine .inr ⟨b,off,cap,o,cs,j,m,Ae f c.1,by rw[xA c f];exact n,fun i a hi=>?_⟩;have⟨e,q,r,s⟩:=p i a hi;exact⟨e,q,r,g s c⟩
theorem flat_get{k:Nat}:∀ {a:List (cd)} {i j:Nat} {cs:cd} {x:AV},(∀ (i:Nat) (cs:cd),a[i]? =some cs->cs.length=k)->a[i]? =some cs->cs[j]? =some x->a.flatten[i * k+j]? =some x
 | [],i,j,cs,x,_,hi,_=>by simp at hi
 | c::a,0,j,cs,x,_,hi,b=>by
  simp at hi;subst hi;rw[Dy,Am,List.flatten_cons,Ao (Ai.1 b).1];exact b
 | c::a,i+1,j,cs,x,d,hi,b=>by
  have e:=d 0 c rfl;rw[List.flatten_cons,Dr,Ap au,e,show i * k+k+j - k=i * k+j by omega];exact flat_get (fun i cs h=>d (i+1) cs (by simpa using h)) (by simpa using hi) b
def aOE.is{k:Nat}{d:cd}(h:aOE k E S d l):∃v,d= [v]/\aG k E S v l:=by
 obtain⟨v,rfl,_,h|⟨b,cap,c,n,o,p,q,u,g⟩⟩:=h
 .exact⟨v,rfl,.inl h⟩
 .refine⟨v,rfl,.inr ⟨b,0,cap,false,c.flatten,n,o,p,?_,fun i a hi=>?_⟩⟩
  .unfold cI;rw[q];rfl
  .have e:i<c.length:=by have:=(Ai.1 hi).1;omega
   have⟨r,s⟩:=g i c[i] a (Ab e) hi;refine⟨c[i],r,fun j x t=>?_,s⟩;rw[Am];exact flat_get (fun m cs' f=>(g m cs' (l[m]'(by have:=(Ai.1 f).1;omega)) f (Ab _)).1) (Ab e) t
section
variable {k:Nat}{α:Type}{E:St->cd->α->Prop}{S:St}{v:AV}{l:List α}
def aG.len(h:aG k E S v l):kR v=some (.int .i64 (l.length:Int)):=by
 rcases h with⟨rfl,rfl|rfl⟩|⟨b,off,cap,o,cs,rfl,_⟩<;>rfl
def aOF(k:Nat)(v:AV)(i:Nat):AV:=
 match v with
 | .sl b off _ _ _=>.ptr b (off+i * k)
 | _=>.undef
def aG.df(h:aG k E S v l)(hi:i<l.length):eQ (.slice k) v i=some (aOF k v i):=by
 rcases h with⟨rfl,_⟩|⟨b,off,cap,o,cs,rfl,_⟩
 .simp at hi
 .simp only[eQ,aOF];have:Nat.blt i l.length=true:=Ak hi;rw[this,aN]
def aG.get(h:aG k E S v l){a:α}(hi:l[i]? =some a):∃ (e:cd) (b p:Nat),aOF k v i= .ptr b p/\b<S.nx/\e.length=k/\E S e a/\∃cs,cI S.h b=some cs/\∀ (j:Nat) (x:AV),e[j]? =some x->cs[p+j]? =some x:=by
 rcases h with⟨rfl,_⟩|⟨b,off,cap,o,cs,rfl,q,f,c,d⟩
 .simp at hi
 .have⟨e,g,m,n⟩:=d i a hi;exact⟨e,b,off+i * k,rfl,f,g,n,cs,c,m⟩
end
end Go.Ev
