import Derived.Test.YtbmodoaceepfoaaEv7
import Derived.ChangeSlices
import Derived.ChangeArms
import Derived.DataReads
set_option linter.all false
namespace Go.Ev
variable {c d:gD}{b:Evs}{args:bu}{S:St}{r:AV×St}{F:Fr}
def vS(c d:gD):Prop:=∀f args S r,c f args S=some r->d f args S=some r
structure Le(a b:Evs):Prop where
 code:∀c A S r,a.code c A S=some r->b.code c A S=some r
 call:vS a.call b.call
def fI{α c:Type}{x y:Option α}{f g:α->Option c}{b:c}(h:bD x f=some b)(d:∀a,x=some a->y=some a)(e:∀a,f a=some b->g a=some b):bD y g=some b:=by
 have⟨a,i,j⟩:=aO h;rw[d a i];exact e a j
def aMl(h:vS c d){v:AV}{e:List (Nat×Nat×Option (Bool×Nat))}(f:aJ2 v e args c S=some r):aJ2 v e args d S=some r:=by
 unfold aJ2 at f ⊢;split at f
 .refine fI f (fun _ h=>h) fun a b=>?_;unfold aJ6 at b ⊢;split at b
  .exact h _ _ _ _ b
  .unfold aMU at b ⊢;split at b
   .exact fI b (fun _ h=>h) fun _ g=>h _ _ _ _ g
   .cases b
 .cases f
def aIP(h:vS c d){x:XOp}(a:evX x c F S=some r):evX x d F S=some r:=by
 cases x with
 | call f args=>exact h _ _ _ _ a
 | inv b recv args=>exact aMl h a
 | _=>exact a
def aMn(h:vS c d){o:AO}{r:Fr×St}(b:aFe o c F S=some r):aFe o d F S=some r:=by
 unfold aFe at b ⊢;rw[cS] at b ⊢;split at b
 .rename_i e;rw[if_pos e];cases f:o.op with
  | q q=>rw[f] at b;exact b
  | a a=>rw[f] at b;exact b
  | x x=>
   rw[f] at b;exact fI (show bD (evX x c F S) _=some r from b) (fun _ g=>aIP h g) fun _ i=>i
 .rename_i e;rw[if_neg e];exact b
def aAW{c d:gD}(h:vS c d):∀ {l:List AO} {F:Fr} {S:St} {r:Fr×St},wR l c F S=some r->wR l d F S=some r
 | [],F,S,r,a=>a
 | o::l,F,S,r,a=>fI (show bD (aFe o c F S) (fun r=>wR l c r.1 r.2)=some r from a) (fun _ b=>aMn h b) fun _ e=>aAW h e
def aNA(h:vS c d){o:AO}{i base:Nat}{D:DS}{r:DS}(b:tW o i base c D=some r):tW o i base d D=some r:=by
 unfold tW at b ⊢;rw[cS] at b ⊢;split at b
 .rename_i e;rw[if_pos e];cases f:o.op with
  | q q=>rw[f] at b;exact b
  | a a=>rw[f] at b;exact b
  | x x=>
   rw[f] at b;have⟨g,j⟩:=cH (show bX (kN D.hs o.mask) _ none=some r from b);show bX (kN D.hs o.mask) _ none=some r;rw[g,aL];exact fI j (fun _ m=>aIP h m) fun _ n=>n
 .rename_i e;rw[if_neg e];exact b
def uN{c d:gD}(h:vS c d):∀ {l:List AO} {i base:Nat} {D r:DS},wY l i base c D=some r->wY l i base d D=some r
 | [],_,_,_,_,a=>a
 | o::l,i,base,D,r,a=>fI (show bD (tW o i base c D) (fun b=>wY l (i+1) base c b)=some r from a) (fun _ e=>aNA h e) fun _ f=>uN h f
def aG3(h:vS c d){l:List AO}{r:Fr×St}(a:zE l c F S=some r):zE l d F S=some r:=
 fI (show bD _ _=some r from a) (fun _ b=>uN h b) fun _ e=>e
def aIL{a:Evs}(h:Le a b){c:AC}{A:bO}{r:Out×bO×St}(d:aKb c a A S=some r):aKb c b A S=some r:=by
 cases c with
 | skip=>exact d
 | seq x y=>
  refine fI (show bD (a.code x A S) (uQ y a)=some r from d) (fun _ g=>h.code _ _ _ _ g) fun q e=>?_;unfold uQ at e ⊢;split at e
  .exact h.code _ _ _ _ e
  .exact e
 | cond x y z=>
  have d:aCF (x.val A.F) y z a A S=some r:=d;show aCF (x.val A.F) y z b A S=some r;unfold aCF at d ⊢;split at d
  .exact h.code _ _ _ _ d
  .cases d
 | block id x=>exact fI (show bD (a.code x A S) (uC id)=some r from d) (fun _ g=>h.code _ _ _ _ g) fun _ e=>e
 | loop x=>
  refine fI (show bD (a.code x A S) (uQ (.loop x) a)=some r from d) (fun _ g=>h.code _ _ _ _ g) fun q e=>?_;unfold uQ at e ⊢;split at e
  .exact h.code _ _ _ _ e
  .exact e
 | exit id=>exact d
 | ret=>exact d
 | reg j=>exact fI (show bD (wR j a.call A.F S) _=some r from d) (fun _ g=>aAW h.call g) fun _ e=>e
 | drw j=>exact fI (show bD (zE j a.call A.F S) _=some r from d) (fun _ g=>aG3 h.call g) fun _ e=>e
 | rng f ps as m=>
  have d:aPV f ps as m a A S=some r:=d;show aPV f ps as m b A S=some r;unfold aPV at d ⊢;cases hi:A.inr with
  | true=>rw[hi,aL] at d;cases d
  | false=>
   rw[hi,aR] at d;rw[aR];have⟨n,o⟩:=cH d;rw[n,aL];refine fI o (fun _ g=>h.call _ _ _ _ g) fun q e=>fI e (fun _ g=>g) fun bl i=>?_;unfold aCj at i ⊢;split at i
   .split at i
    .cases i
    .exact fI i (fun _ g=>g) fun _ p=>h.code _ _ _ _ p
   .cases i
 | dfr j f args=>exact d
def aHV{a:Evs}(h:Le a b){bl:AB}{l:Nat}(f:aAL bl l args a S=some r):aAL bl l args b S=some r:=by
 unfold aAL at f ⊢;split at f
 .refine fI f (fun _ d=>d) fun F g=>fI g (fun _ d=>h.code _ _ _ _ d) fun q e=>?_;unfold aDk at e ⊢;split at e
  .refine fI e (fun _ d=>d) fun bl c=>?_;unfold tK at c ⊢;split at c
   .exact fI (show bD (a.code _ _ _) _=some r from c) (fun _ d=>h.code _ _ _ _ d) fun _ e=>e
   .cases c
  .cases e
 .cases f
def aIO{fns:T fD}{a:Evs}(h:Le a b):vS (xG fns a) (xG fns b):=by
 intro f args S r c;unfold xG at c ⊢;split at c
 .refine fI c (fun _ d=>d) fun fn e=>?_;unfold vY at e ⊢;have⟨i,j⟩:=cH e;rw[i,aL];exact fI j (fun _ d=>h.code _ _ _ _ d) fun _ m=>m
 .exact fI c (fun _ d=>d) fun bl g=>aHV h g
 .cases c
def vH(fns:T fD):∀n,Le (ev fns n) (ev fns (n+1))
 | 0=>⟨fun c A S r (h:none=some r)=>(by cases h),fun f args S r (h:none=some r)=>(by cases h)⟩
 | n+1=>⟨fun _ _ _ _ h=>aIL (vH fns n) h,aIO (vH fns n)⟩
def lO(fns:T fD){n m:Nat}(h:n<=m):Le (ev fns n) (ev fns m):=by
 induction h with
 | refl=>exact⟨fun _ _ _ _ h=>h,fun _ _ _ _ h=>h⟩
 | step _ a=>exact⟨fun c A S r h=>(vH fns _).code _ _ _ _ (a.code _ _ _ _ h),fun f args S r h=>(vH fns _).call _ _ _ _ (a.call _ _ _ _ h)⟩
end Go.Ev
namespace Go.Ev
variable {c x y:AC}{A:bO}{S S1:St}{Q:Out->bO->St->Prop}{args:bu}{F:Fr}{t:Bool}{l:List AO}{d:Option Nat}{v:AV}
abbrev oq(d:Nat)(q:QOp):AO:=⟨some d,.q q,none,0⟩
abbrev om(d m:Nat)(q:QOp):AO:=⟨some d,.q q,none,m⟩
abbrev og(d s:Nat)(b:Bool)(m:Nat)(q:QOp):AO:=⟨some d,.q q,some (s,b),m⟩
abbrev oc(d f:Nat)(l:List cQ)(m:Nat):AO:=⟨some d,.x (.call (.c (.fn f [] [])) l),none,m⟩
abbrev mt(d i:Nat):AO:=⟨some d,.q (.mv (.t i)),none,0⟩
abbrev ci(n:Int):cQ:=.c (.int .i64 n)
abbrev bi(o:BinOp)(x y:cQ):QOp:=.bin o (.p .int) x y
abbrev ld(i:Nat):QOp:=.ld false 1 (.t i)
abbrev Zs(n x v m:Nat):AO:=⟨none,.x (.st n (.t x) (.t v)),none,m⟩
abbrev Zf(d o x:Nat):AO:=oq d (.dd o (.t x))
abbrev Zg(d m o x:Nat):AO:=om d m (.dd o (.t x))
abbrev Zi(d k x y:Nat):AO:=oq d (.c9 (.slice k) (.t x) (.t y))
abbrev Zj(d m k x y:Nat):AO:=om d m (.c9 (.slice k) (.t x) (.t y))
abbrev Zl(d x:Nat):AO:=oq d (ld x)
abbrev Zm(d m x:Nat):AO:=om d m (ld x)
abbrev Zc(d:Nat)(n:Int):AO:=oq d (.mv (ci n))
abbrev Zn(d x:Nat):AO:=oq d (.dc (.t x))
abbrev Za(d x:Nat)(n:Int):AO:=oq d (bi .add (.t x) (ci n))
abbrev Zt(d x y:Nat):AO:=oq d (bi .lss (.t x) (.t y))
abbrev Ze(d x i:Nat):AO:=oq d (.extract (.t x) i)
abbrev Zd(d n x:Nat):AO:=oq d (.ld true n (.t x))
abbrev Zp(d c y:Nat):AO:=oq d (.pick (.t c) (.c (.bool true)) (.t y))
abbrev Zx(d s:Nat)(b:Bool)(m o x:Nat):AO:=og d s b m (.dd o (.t x))
abbrev Zy(d s:Nat)(b:Bool)(m x:Nat):AO:=og d s b m (ld x)
abbrev Zu(d s:Nat)(b:Bool)(m x:Nat):AO:=og d s b m (.dc (.t x))
abbrev Zb(d k x:Nat):AO:=⟨some d,.a (.box k (.t x)),none,0⟩
abbrev Yb(d:Nat)(b:Bool):AO:=oq d (.mv (.c (.bool b)))
abbrev Yn(d:Nat):AO:=oq d (.mv (.c .cr))
abbrev Yx(d t k b x y m:Nat):AO:=⟨some d,.x (.app t k b (.t x) (.t y)),none,m⟩
abbrev Yp(d c y:Nat):AO:=oq d (.pick (.t c) (.t y) (.c (.bool false)))
abbrev Yk(d x:Nat):AO:=oq d (.cw (.t x))
abbrev Yl(d m x:Nat):AO:=om d m (.cw (.t x))
abbrev Ym(d m x:Nat):AO:=om d m (.mv (.t x))
abbrev Yg(d s:Nat)(b:Bool)(m x:Nat):AO:=og d s b m (.mv (.t x))
abbrev Yi(d:Nat)(o:BinOp)(x:Nat)(n:Int):AO:=oq d (bi o (.t x) (ci n))
abbrev Yt(d:Nat)(o:BinOp)(x y:Nat):AO:=oq d (bi o (.t x) (.t y))
abbrev Yu(d s:Nat)(b:Bool)(m:Nat)(o:BinOp)(x:Nat)(n:Int):AO:=og d s b m (bi o (.t x) (ci n))
abbrev Yv(d s:Nat)(b:Bool)(m:Nat)(o:BinOp)(x y:Nat):AO:=og d s b m (bi o (.t x) (.t y))
abbrev Yw(d m:Nat)(o:BinOp)(x y:Nat):AO:=om d m (bi o (.t x) (.t y))
abbrev Yq(d m:Nat)(o:BinOp)(x:Nat)(n:Int):AO:=om d m (bi o (.t x) (ci n))
abbrev Yj(d s:Nat)(b:Bool)(m k x y:Nat):AO:=og d s b m (.c9 (.slice k) (.t x) (.t y))
abbrev Ys(d m x:Nat):AO:=om d m (.dc (.t x))
abbrev Yd(d m n x:Nat):AO:=om d m (.ld true n (.t x))
abbrev Yc(d:Nat)(g:Nat)(b:Bool)(f:Nat)(a:List cQ)(m:Nat):AO:=⟨some d,.x (.call (.c (.fn f [] [])) a),some (g,b),m⟩
abbrev Ya(d:Nat)(t:Nat)(l:bu)(m:Nat):AO:=⟨some d,.a (.alloc t l),none,m⟩
abbrev Ye(d t s k:Nat)(l:bu)(x m:Nat):AO:=⟨some d,.a (.c7 t s k l [(0,.t x)]),none,m⟩
abbrev Yf(d t s k:Nat)(l:bu)(x y m:Nat):AO:=⟨some d,.a (.df t s k l (.t x) (.t y)),none,m⟩
abbrev Yr(d x:Nat):AO:=oq d (.un .not (.t x))
abbrev Yh(l:List AO)(c:AC):AC:=.seq (.reg l) c
abbrev Yy(n m:Nat):AC:=.cond (.t n) .skip (.exit m)
abbrev Yo(b:Nat)(l:List AO)(n:Nat)(c:AC):AC:=.block b (.loop (.seq (.seq (.reg l) (.cond (.t n) .skip (.exit b))) c))
abbrev YR(d:Nat)(b:Bool):AC:=.seq (.reg [Yb d b]) .ret
abbrev YS(n:Nat)(c:AC):AC:=.cond (.t n) c .skip
variable {fns:T fD}
def jN(fns:T fD)(c:AC)(A:bO)(S:St)(Q:Out->bO->St->Prop):Prop:=∃n o a S',(ev fns n).code c A S=some (o,a,S')/\Q o a S'
def iK(fns:T fD)(f:AV)(args:bu)(S:St)(Q:AV->St->Prop):Prop:=∃n v S',(ev fns n).call f args S=some (v,S')/\Q v S'
def vG(fns:T fD)(a:List AO)(F:Fr)(S:St)(Q:Fr->St->Prop):Prop:=∃n F' S',wR a (ev fns n).call F S=some (F',S')/\Q F' S'
def aX{R:Out->bO->St->Prop}(h:jN fns c A S Q)(a:∀o A S,Q o A S->R o A S):jN fns c A S R:=by
 have⟨n,o,b,S',d,e⟩:=h;exact⟨n,o,b,S',d,a _ _ _ e⟩
def aW{f:AV}{Q R:AV->St->Prop}(h:iK fns f args S Q)(a:∀v S,Q v S->R v S):iK fns f args S R:=by
 have⟨n,v,S',b,c⟩:=h;exact⟨n,v,S',b,a _ _ c⟩
def aI2{a:List AO}{Q R:Fr->St->Prop}(h:vG fns a F S Q)(b:∀F S,Q F S->R F S):vG fns a F S R:=by
 have⟨n,F',S',c,d⟩:=h;exact⟨n,F',S',c,b _ _ d⟩
def aG(h:Q .normal A S):jN fns .skip A S Q:=⟨1,_,_,_,rfl,h⟩
def bH{id:Nat}(h:Q (.exit id) A S):jN fns (.exit id) A S Q:=⟨1,_,_,_,rfl,h⟩
def aS(h:Q .ret A S):jN fns .ret A S Q:=⟨1,_,_,_,rfl,h⟩
def aFa(fns:T fD)(y:AC)(Q:Out->bO->St->Prop):Out->bO->St->Prop
 | .normal,A,S=>jN fns y A S Q
 | o,A,S=>Q o A S
def aB(h:jN fns x A S (aFa fns y Q)):jN fns (.seq x y) A S Q:=by
 have⟨n,o,c,S1,a,b⟩:=h;cases o with
 | normal=>
  have⟨m,o,d,e,f,g⟩:=b;refine⟨max n m+1,o,d,e,?_,g⟩;show bD ((ev fns (max n m)).code x A S) (uQ y (ev fns (max n m)))=_;rw[(lO fns (Fg n m)).code _ _ _ _ a,aH];exact(lO fns (Ex n m)).code _ _ _ _ f
 | ret=>
  refine⟨n+1,.ret,c,S1,?_,b⟩;show bD ((ev fns n).code x A S) (uQ y (ev fns n))=_;rw[a];rfl
 | exit i=>
  refine⟨n+1,.exit i,c,S1,?_,b⟩;show bD ((ev fns n).code x A S) (uQ y (ev fns n))=_;rw[a];rfl
def aNt{c:cQ}(a:c.val A.F= .bool t)(h:jN fns (bX t x y) A S Q):jN fns (.cond c x y) A S Q:=by
 have⟨n,o,b,S1,d,e⟩:=h;refine⟨n+1,o,b,S1,?_,e⟩;show aCF (c.val A.F) x y (ev fns n) A S=_;rw[a];exact d
def aKq{c:cQ}(a:c.val A.F= .bool t)(b:t=true->jN fns x A S Q)(d:t=false->jN fns y A S Q):jN fns (.cond c x y) A S Q:=by
 refine aNt a ?_;cases t
 .exact d rfl
 .exact b rfl
def aB1(id:Nat)(Q:Out->bO->St->Prop):Out->bO->St->Prop
 | .exit i,A,S=>if i=id then Q .normal A S else Q (.exit i) A S
 | o,A,S=>Q o A S
def aJ{id:Nat}(h:jN fns c A S (aB1 id Q)):jN fns (.block id c) A S Q:=by
 have⟨n,o,b,S1,d,a⟩:=h;cases o with
 | normal=>exact⟨n+1,.normal,b,S1,by show bD ((ev fns n).code c A S) (uC id)=_;rw[d];rfl,a⟩
 | ret=>exact⟨n+1,.ret,b,S1,by show bD ((ev fns n).code c A S) (uC id)=_;rw[d];rfl,a⟩
 | exit i=>
  by_cases hi:i=id
  .subst hi;have a:Q .normal b S1:=by simpa [aB1] using a
   exact⟨n+1,.normal,b,S1,by show bD ((ev fns n).code c A S) (uC i)=_;rw[d];simp [aH,uC,cS,Bn],a⟩
  .have a:Q (.exit i) b S1:=by simpa [aB1,hi] using a
   exact⟨n+1,.exit i,b,S1,by show bD ((ev fns n).code c A S) (uC id)=_;rw[d];simp [aH,uC,cS,Bn,hi],a⟩
def aGV(I:Nat->bO->St->Prop)(k:Nat)(Q:Out->bO->St->Prop):Out->bO->St->Prop
 | .normal,A,S=>∃k',k'<k/\I k' A S
 | o,A,S=>Q o A S
def bL(I:Nat->bO->St->Prop)(h:∀k A S,I k A S->jN fns c A S (aGV I k Q)):∀k A S,I k A S->jN fns (.loop c) A S Q:=by
 intro k
 induction k using Nat.strongRecOn with
 | _ k f=>
  intro A S g;have⟨n,o,a,S1,b,d⟩:=h k A S g;cases o with
  | normal=>
   have⟨k',j,e⟩:=d;have⟨m,o,p,q,r,s⟩:=f k' j a S1 e;refine⟨max n m+1,o,p,q,?_,s⟩;show bD ((ev fns (max n m)).code c A S) (uQ (.loop c) (ev fns (max n m)))=_;rw[(lO fns (Fg n m)).code _ _ _ _ b,aH];exact(lO fns (Ex n m)).code _ _ _ _ r
  | ret=>
   refine⟨n+1,.ret,a,S1,?_,d⟩;show bD ((ev fns n).code c A S) (uQ (.loop c) (ev fns n))=_;rw[b];rfl
  | exit i=>
   refine⟨n+1,.exit i,a,S1,?_,d⟩;show bD ((ev fns n).code c A S) (uQ (.loop c) (ev fns n))=_;rw[b];rfl
def aF{a:List AO}(h:vG fns a A.F S fun F' S'=>Q .normal ⟨F',A.inr⟩ S'):jN fns (.reg a) A S Q:=by
 have⟨n,F',S',b,c⟩:=h;refine⟨n+1,.normal,⟨F',A.inr⟩,S',?_,c⟩;show bD (wR a (ev fns n).call A.F S) _=_;rw[b];rfl
def aRB(a:List RV)(Q:AV->St->Prop):Out->bO->St->Prop
 | .exit _,_,_=>False
 | _,A,S=>∃vs,results a A.F S.h=some vs/\Q (oneOf vs) S
def cJ{id nt:Nat}{a:List RV}{body:AC}{first cap:bu}{Q:AV->St->Prop}(b:fns.get id=some ⟨nt,a,body⟩)(e:(first++(args++cap)).length<=nt)
  (h:jN fns body ⟨sN (first++(args++cap)) 0 .e,false⟩ S (aRB a Q)):iK fns (.fn id first cap) args S Q:=by
 have⟨n,o,c,S',f,d⟩:=h;have key:∀ (_:∃vs,results a c.F S'.h=some vs/\Q (oneOf vs) S') (_:aDY ⟨nt,a,body⟩ (o,c,S')=bD (results a c.F S'.h) fun vs=>some (oneOf vs,S')),iK fns (.fn id first cap) args S Q:=by
  rintro⟨vs,g,j⟩ m;refine⟨n+1,oneOf vs,S',?_,j⟩;show bD (fns.get id) (fun fn=>vY fn (yQ first (yQ args cap)) (ev fns n) S)=_;rw[b,aH];unfold vY;rw[fT,fT,gJ,Al e,aL,f,aH,m,g];rfl
 cases o with
 | normal=>exact key d rfl
 | ret=>exact key d rfl
 | exit i=>exact d.elim
def aBr{F:Fr}{S:St}{Q:Fr->St->Prop}:vG fns [] F S Q↔Q F S:=
 ⟨fun⟨_,_,_,a,b⟩=>by cases a;exact b,fun h=>⟨0,F,S,rfl,h⟩⟩
def aEk{o:AO}{a:Fr}{Q:Fr->St->Prop}(h:∀call,aFe o call F S=some (a,S1))(b:vG fns l a S1 Q):vG fns (o::l) F S Q:=by
 have⟨n,F',S',c,d⟩:=b;refine⟨n,F',S',?_,d⟩;rw[iW,h,aH];exact c
def aOV{q:QOp}{m:Nat}{Q:Fr->St->Prop}(h:iC q F S.h=some v)(a:vG fns l (cT d F v) S Q):vG fns (⟨d,.q q,none,m⟩::l) F S Q:=
 aEk (fun call=>by show bD (iC q F S.h) _=_;rw[h];rfl) a
def aTY{a:yX}{m:Nat}{Q:Fr->St->Prop}{bl:AB}(h:uI a F S.nx=some (v,bl))(b:vG fns l (cT d F v) ⟨S.h.set S.nx (some bl),S.nx+1⟩ Q):vG fns (⟨d,.a a,none,m⟩::l) F S Q:=
 aEk (fun call=>by show bD (uI a F S.nx) _=_;rw[h];rfl) b
def eK{x:XOp}{m:Nat}{Q:Fr->St->Prop}(h:∀call,evX x call F S=some (v,S1))(a:vG fns l (cT d F v) S1 Q):vG fns (⟨d,.x x,none,m⟩::l) F S Q:=
 aEk (fun call=>by show bD (evX x call F S) _=_;rw[h];rfl) a
def bJ{f:cQ}{args:List cQ}{m:Nat}{Q:Fr->St->Prop}(h:iK fns (f.val F) (dV args F) S fun v S1=>vG fns l (cT d F v) S1 Q):vG fns (⟨d,.x (.call f args),none,m⟩::l) F S Q:=by
 have⟨n,v,S1,a,k,F',S',b,c⟩:=h;refine⟨max n k,F',S',?_,c⟩;rw[iW];have:aFe ⟨d,.x (.call f args),none,m⟩ (ev fns (max n k)).call F S=some (cT d F v,S1):=by
  show bD ((ev fns (max n k)).call (f.val F) (dV args F) S) _=_;rw[(lO fns (Fg n k)).call _ _ _ _ a];rfl
 rw[this,aH];exact aAW (lO fns (Ex n k)).call b
def fO(i:Nat)(F:Fr):(cQ.t i).val F=aA i F:=rfl
def aCJ(v:AV)(F:Fr):(cQ.c v).val F=v:=rfl
def fK(F:Fr)(v:AV):cT none F v=F:=rfl
def bE(i j:Nat)(F:Fr)(v:AV):aA i (cT (some j) F v)=if i=j then v else aA i F:=by
 show aA i (F.set j (some v))=_;unfold aA;rw[dx];split<;>rfl
end Go.Ev
namespace Go.Ev
variable {fns:T fD}
variable {S:St}{F:Fr}{ps:cd}{as:AC}
def aPJ{l:Nat}{args:bu}{Q:AV->St->Prop}{pend:Option Out}{x:Fr}{q:AC}(z:S.h.get l=some (.loop .ready pend x ps as q))(A:pK ps args x=some F)
  (h:jN fns as ⟨F,true⟩ S fun o t S1=>o= .normal/\∃a i j p,S1.h.get l=some (.loop .ready a i j p q)/\jN fns q t ⟨S1.h.set l (some (.loop .busy a i j p q)),S1.nx⟩ fun o B g=>∃b c d e f,g.h.get l=some (.loop .busy b c d e f)/\
   ((o= .normal/\Q (.bool true) ⟨g.h.set l (some (.loop .ready none c d e f)),g.nx⟩)\/(o≠ .normal/\Q (.bool false) ⟨g.h.set l (some (.loop .done (some o) c d e f)),g.nx⟩))):iK fns (.yld l) args S Q:=by
 obtain⟨n,o,t,S1,C,rfl,a,i,j,p,D,m,u,B,g,G,b,c,d,e,f,H,s⟩:=h;have I:=(lO fns (Fg n m)).code _ _ _ _ C;have J:=(lO fns (Ex n m)).code _ _ _ _ G;have key:∀r,uG (.loop .busy b c d e f) u l g=some r->(ev fns (max n m+1)).call (.yld l) args S=some r:=fun r K=>by
  show bD (S.h.get l) (fun bl=>aAL bl l args (ev fns (max n m)) S)=_;rw[z,aH];show bD (pK ps args x) (fun F=>bD ((ev fns (max n m)).code as ⟨F,true⟩ S) (aDk l q (ev fns (max n m))))=_;rw[A,aH,I,aH];show bD (S1.h.get l) (fun bl=>tK bl l q (ev fns (max n m)) t S1)=_;rw[D,aH];show bD ((ev fns (max n m)).code q t ⟨S1.h.set l (some (.loop .busy a i j p q)),S1.nx⟩) (fun r=>bD (r.2.2.h.get l) fun bl=>uG bl r.1 l r.2.2)=_;rw[J,aH];show bD (g.h.get l) (fun bl=>uG bl u l g)=_;rw[H,aH];exact K
 rcases s with⟨rfl,s⟩|⟨y,s⟩
 .exact⟨_,_,_,key _ rfl,s⟩
 .refine⟨_,_,_,key (.bool false,⟨g.h.set l (some (.loop .done (some u) c d e f)),g.nx⟩) ?_,s⟩;cases u with
  | normal=>exact absurd rfl y
  | _=>rfl
def aQz{f:cQ}{i:AC}{A:bO}{Q:Out->bO->St->Prop}{id:Nat}{first cap:bu}(hi:A.inr=false)(q:f.val A.F= .fn id first cap)
  (h:iK fns (.fn id first cap) [.yld S.nx] ⟨S.h.set S.nx (some (.loop .ready none A.F ps as i)),S.nx+1⟩ fun _ a=>∃st pend j b d g c,a.h.get S.nx=some (.loop st pend j b d g)/\st≠ .busy/\aL2 pend=some c/\jN fns c A ⟨a.h.set S.nx (some (.loop .exhausted pend j b d g)),a.nx⟩ Q):jN fns (.rng f ps as i) A S Q:=by
 have⟨n,v,a,s,st,pend,j,b,d,g,c,t,p,u,m,o,x,S',y,z⟩:=h;refine⟨max n m+1,o,x,S',?_,z⟩;show bX A.inr none (bX (aN8 (f.val A.F)) (bD ((ev fns (max n m)).call (f.val A.F) [.yld S.nx] ⟨S.h.set S.nx (some (.loop .ready none A.F ps as i)),Nat.succ S.nx⟩) fun r=>bD (r.2.h.get S.nx) fun bl=>aCj bl S.nx A r.2 (ev fns (max n m))) none)=_;rw[hi,aR,q,show aN8 (.fn id first cap)=true from rfl,aL,show Nat.succ S.nx=S.nx+1 from rfl,(lO fns (Fg n m)).call _ _ _ _ s,aH];show bD (a.h.get S.nx) (fun bl=>aCj bl S.nx A a (ev fns (max n m)))=_;rw[t,aH];have e:=(lO fns (Ex n m)).code _ _ _ _ y;cases st with
 | busy=>exact absurd rfl p
 | _=>
  show bD (aL2 pend) (fun c=>(ev fns (max n m)).code c A ⟨a.h.set S.nx _,a.nx⟩)=_;rw[u,aH];exact e
def aPo{a:List (Nat×Nat×Option (Bool×Nat))}{recv:cQ}{args:List cQ}{t f:Nat}{v:AV}(b:recv.val F= .iface t v)(c:aEZ t a=some (f,none))(call:gD)(S:St):evX (.inv a recv args) call F S=evX (.call (.c (.fn f [v] [])) args) call F S:=by
 show aJ2 (recv.val F) a (dV args F) call S=call (.fn f [v] []) (dV args F) S;rw[b];show bD (aEZ t a) (fun r=>aJ6 r v (dV args F) call S)=_;rw[c,aH];rfl
end Go.Ev
namespace Go.Ev
variable {S S':St}{b i:Nat}{v:AV}{l:bt}
def jq(S S':St):Prop:=S.nx<=S'.nx/\∀b,b<S.nx->S'.h.get b=S.h.get b
def jq.refl(S:St):jq S S:=⟨Af _,fun _ _=>rfl⟩
def jq.trans{S'':St}(h:jq S S')(h':jq S' S''):jq S S'':=⟨Aq h.1 h'.1,fun b a=>(h'.2 b (Ae a h.1)).trans (h.2 b a)⟩
def jq.alloc(S:St)(bl:AB):jq S ⟨S.h.set S.nx (some bl),S.nx+1⟩:=⟨Nat.le_succ _,fun b a=>by simp only;rw[dx,if_neg au]⟩
def jq.put(h:jq S S')(d:S.nx<=b)(x:Option AB):jq S ⟨S'.h.set b x,S'.nx⟩:=⟨h.1,fun c a=>by simp only;rw[dx,if_neg au];exact h.2 c a⟩
def bN(k:IntKind)(S:St)(v:AV)(l:bt):Prop:=
 (l= []/\(v= .cr\/v= .emp))\/∃b off cap o cs,v= .sl b off l.length cap o/\l.length<=cap/\b<S.nx/\cG S.h b=some cs/\∀i x,l[i]? =some x->cs[off+i]? =some (.int k x)
def wG(h:jq S S')(a:b<S.nx):cG S'.h b=cG S.h b:=by unfold cG;rw[h.2 b a]
def bN.jo{k:IntKind}(h:bN k S v l)(a:jq S S'):bN k S' v l:=by
 rcases h with h|⟨b,off,cap,o,cs,d,e,c,f,g⟩
 .exact .inl h
 .exact .inr ⟨b,off,cap,o,cs,d,e,Ae c a.1,by rw[wG a c];exact f,g⟩
def bN.len{k:IntKind}(h:bN k S v l):lW v=some (.int .i64 (.ofNat l.length)):=by
 rcases h with⟨rfl,rfl|rfl⟩|⟨b,off,cap,o,cs,rfl,_⟩<;>rfl
def aA7(v:AV)(i:Nat):AV:=
 match v with
 | .sl b off _ _ _=>.ptr b (off+i * 1)
 | _=>.undef
def bN.c9{k:IntKind}(h:bN k S v l)(hi:i<l.length):eY (.slice 1) v i=some (aA7 v i):=by
 rcases h with⟨rfl,_⟩|⟨b,off,cap,o,cs,rfl,_⟩
 .simp at hi
 .simp only[eY,aA7];have:Nat.blt i l.length=true:=Al hi;rw[this,aL]
def bN.ld{k:IntKind}(h:bN k S v l)(hi:i<l.length):eE (aA7 v i) false 1 S.h=some (.int k (l.getD i 0)):=by
 rcases h with⟨rfl,_⟩|⟨b,off,cap,o,cs,rfl,d,e,a,c⟩
 .simp at hi
 .simp only[aA7,eE,qK,aR,nJ,a,aH,qU,Ec];rw[c i l[i] (Ab hi)];simp [Ad,hi]
def aHb(e:tC)(k:IntKind)(a b:Int):mL .add e (.int k a) (.int k b)=some (.int k (k.wrap (a+b))):=by
 show fL .add k a k b=_;unfold fL;rw[show iE .add=false from rfl,aR,fH,aL];show some (AV.int k (aOI k a b))=_;rw[aIm]
def aHi(e:tC)(k:IntKind)(a b:Int):mL .sub e (.int k a) (.int k b)=some (.int k (k.wrap (a - b))):=by
 show fL .sub k a k b=_;unfold fL;rw[show iE .sub=false from rfl,aR,fH,aL];show some (AV.int k (aI6 k a b))=_;rw[aBn]
def aGS(e:tC)(k:IntKind)(a b:Int):mL .mul e (.int k a) (.int k b)=some (.int k (k.wrap (a * b))):=by
 show fL .mul k a k b=_;unfold fL;rw[show iE .mul=false from rfl,aR,fH,aL];show some (AV.int k (aKH k a b))=_;rw[aEv]
def aHm(e:tC)(k:IntKind)(a b:Int):mL .lss e (.int k a) (.int k b)=some (.bool (decide (a<b))):=by
 show fL .lss k a k b=_;unfold fL;rw[show iE .lss=false from rfl,aR,fH,aL];show some (AV.bool (bX (ile b a) false true))=_;rw[qT,tO];congr 2;rw[Cv];simp
def aHj(e:tC)(k:IntKind)(a b:Int):mL .leq e (.int k a) (.int k b)=some (.bool (decide (a<=b))):=by
 show fL .leq k a k b=_;unfold fL;rw[show iE .leq=false from rfl,aR,fH,aL];show some (AV.bool (ile a b))=_;rw[qT]
def aGQ(e:tC)(k:IntKind)(a b:Int):mL .gtr e (.int k a) (.int k b)=some (.bool (decide (b<a))):=by
 show fL .gtr k a k b=_;unfold fL;rw[show iE .gtr=false from rfl,aR,fH,aL];show some (AV.bool (bX (ile a b) false true))=_;rw[qT,tO];congr 2;rw[Cv];simp
def aHo(e:tC)(k:IntKind)(a b:Int):mL .geq e (.int k a) (.int k b)=some (.bool (decide (b<=a))):=by
 show fL .geq k a k b=_;unfold fL;rw[show iE .geq=false from rfl,aR,fH,aL];show some (AV.bool (ile b a))=_;rw[qT]
def aDt(e:tC)(k:IntKind)(a b:Int):mL .eql e (.int k a) (.int k b)=some (.bool (decide (a=b))):=by
 show fL .eql k a k b=_;unfold fL;rw[show iE .eql=false from rfl,aR,fH,aL];show some (AV.bool (ieq a b))=_;rw[jA];congr 2
def aGF(e:tC)(k:IntKind)(a b:Int):mL .neq e (.int k a) (.int k b)=some (.bool (decide (a≠b))):=by
 show fL .neq k a k b=_;unfold fL;rw[show iE .neq=false from rfl,aR,fH,aL];show some (AV.bool (bX (ieq a b) false true))=_;rw[jA,tO];congr 2;rw[Cv];simp
section
variable (F:Fr)(h:T AB)
def aGW(x:cQ):iC (.mv x) F h=some (x.val F):=rfl
def aDy(op:BinOp)(e:tC)(x y:cQ):iC (.bin op e x y) F h=mL op e (x.val F) (y.val F):=rfl
def aJv(op:UnOp)(x:cQ):iC (.un op x) F h=unV op (x.val F):=rfl
def zD(x:cQ):iC (.dc x) F h=lW (x.val F):=rfl
def uT(k:IxK)(x a:cQ):iC (.c9 k x a) F h=bD (gL (a.val F)) fun i=>eY k (x.val F) i:=rfl
def nC(agg:Bool)(n:Nat)(x:cQ):iC (.ld agg n x) F h=eE (x.val F) agg n h:=rfl
def aEF(k:aKI)(x:cQ):iC (.conv k x) F h=aD5 k (x.val F) h:=rfl
def yC(x:cQ)(i:Nat):iC (.extract x i) F h=nG (x.val F) i:=rfl
def sK(c a b:cQ):iC (.pick c a b) F h=yV (c.val F) a b F:=rfl
def aHe(agg:Bool)(off n:Nat)(x:cQ):iC (.fld agg off n x) F h=aJD (x.val F) agg off n:=rfl
end
def aY(k:IntKind)(n:Nat):gL (.int k (n:Int))=some n:=rfl
def aE6(k j:IntKind)(n:Int)(h:T AB):aD5 (.int k) (.int j n) h=some (.int k (k.wrap n)):=by
 show some (AV.int k (aF9 k n))=_;rw[yE]
end Go.Ev
namespace Go.Ev
variable {fns:T fD}
variable {d:Option Nat}{l:List AO}{S:St}{Q:DS->Prop}{i base:Nat}{D:DS}
def nE{α:Type}(x:Option α)(Q:α->Prop):Prop:=∃a,x=some a/\Q a
def dJ{α:Type}(a:α)(Q:α->Prop):nE (some a) Q=Q a:=propext ⟨fun⟨_,b,c⟩=>by cases b;exact c,fun h=>⟨a,rfl,h⟩⟩
def aJ0{q:QOp}{m:Nat}{F:Fr}{Q:Fr->St->Prop}:vG fns (⟨d,.q q,none,m⟩::l) F S Q↔nE (iC q F S.h) fun v=>vG fns l (cT d F v) S Q:=by
 constructor
 .rintro⟨n,F',S',a,b⟩;rw[iW] at a;have⟨r,c,e⟩:=aO a;have⟨v,f,g⟩:=aO (show bD (iC q F S.h) (fun v=>some (cT d F v,S))=some r from c);cases g;exact⟨v,f,n,F',S',e,b⟩
 .rintro⟨v,a,b⟩;exact aOV a b
def aCm{d:Option Nat}{a:yX}{m:Nat}{l:List AO}{F:Fr}{S:St}{Q:Fr->St->Prop}:vG fns (⟨d,.a a,none,m⟩::l) F S Q↔nE (uI a F S.nx) fun r=>vG fns l (cT d F r.1) ⟨S.h.set S.nx (some r.2),S.nx+1⟩ Q:=by
 constructor
 .rintro⟨n,F',S',b,c⟩;rw[iW] at b;have⟨r,e,f⟩:=aO b;have⟨v,g,i⟩:=aO (show bD (uI a F S.nx) (fun r=>some (cT d F r.1,(⟨S.h.set S.nx (some r.2),Nat.succ S.nx⟩:St)))=some r from e);cases i;exact⟨v,g,n,F',S',f,c⟩
 .rintro⟨⟨v,bl⟩,b,c⟩;exact aTY b c
def wpd(fns:T fD)(a:List AO)(i base:Nat)(D:DS)(Q:DS->Prop):Prop:=∃n b,wY a i base (ev fns n).call D=some b/\Q b
def rC{a:List AO}{A:bO}{Q:Out->bO->St->Prop}(h:wpd fns a 0 S.nx ⟨A.F,⟨S.h,S.nx+a.length⟩,[],[],[]⟩ fun D=>iF S.h D.hs.reverse D.ls=true/\Q .normal ⟨D.F,A.inr⟩ ⟨(cN (2 ^ a.length - 1) D.ps D.S.h).2,D.S.nx⟩):jN fns (.drw a) A S Q:=by
 have⟨n,D,b,c,d⟩:=h;refine⟨n+1,.normal,⟨D.F,A.inr⟩,⟨(cN (2 ^ a.length - 1) D.ps D.S.h).2,D.S.nx⟩,?_,d⟩;show bD (bD (wY a 0 S.nx (ev fns n).call ⟨A.F,⟨S.h,S.nx+mF a⟩,[],[],[]⟩) fun D=>aBi S.h (mF a) D) _=_;rw[gJ,b,aH];unfold aBi;rw[c,aL];rfl
def iL:wpd fns [] i base D Q↔Q D:=
 ⟨fun⟨_,_,a,b⟩=>by cases a;exact b,fun h=>⟨0,D,rfl,h⟩⟩
def iT{q:QOp}{m:Nat}:wpd fns (⟨d,.q q,none,m⟩::l) i base D Q↔
  nE (iC q D.F D.S.h) fun v=>wpd fns l (i+1) base ⟨cT d D.F v,D.S,D.ps,D.hs,bX (dU q) (⟨q,D.F,v,i,m⟩::D.ls) D.ls⟩ Q:=by
 constructor
 .rintro⟨n,a,b,c⟩;have⟨r,e,f⟩:=aO (show bD (tW ⟨d,.q q,none,m⟩ i base (ev fns n).call D) (fun a=>wY l (i+1) base (ev fns n).call a)=some a from b);have⟨v,g,j⟩:=aO (show bD (iC q D.F D.S.h) (fun v=>some (⟨cT d D.F v,D.S,D.ps,D.hs,bX (dU q) (⟨q,D.F,v,i,m⟩::D.ls) D.ls⟩:DS))=some r from e);cases j;exact⟨v,g,n,a,f,c⟩
 .rintro⟨v,b,n,a,c,e⟩;refine⟨n,a,?_,e⟩;show bD (bD (iC q D.F D.S.h) _) _=_;rw[b];exact c
def aFf{a:yX}{m:Nat}:wpd fns (⟨d,.a a,none,m⟩::l) i base D Q↔
  nE (uI a D.F (base+i)) fun r=>wpd fns l (i+1) base ⟨cT d D.F r.1,D.S,⟨i,base+i,r.2⟩::D.ps,D.hs,D.ls⟩ Q:=by
 constructor
 .rintro⟨n,b,c,e⟩;have⟨r,f,g⟩:=aO (show bD (tW ⟨d,.a a,none,m⟩ i base (ev fns n).call D) (fun b=>wY l (i+1) base (ev fns n).call b)=some b from c);have⟨v,j,o⟩:=aO (show bD (uI a D.F (base+i)) (fun r=>some (⟨cT d D.F r.1,D.S,⟨i,base+i,r.2⟩::D.ps,D.hs,D.ls⟩:DS))=some r from f);cases o;exact⟨v,j,n,b,g,e⟩
 .rintro⟨r,c,n,b,e,f⟩;refine⟨n,b,?_,f⟩;show bD (bD (uI a D.F (base+i)) _) _=_;rw[c];exact e
def iS{x:XOp}{m:Nat}{v:AV}{S1:St}(a:kN D.hs m=true)(h:∀call,evX x call D.F ⟨(cN m D.ps D.S.h).2,D.S.nx⟩=some (v,S1))
  (b:wpd fns l (i+1) base ⟨cT d D.F v,S1,(cN m D.ps D.S.h).1,(i,m,S1.h)::D.hs,D.ls⟩ Q):wpd fns (⟨d,.x x,none,m⟩::l) i base D Q:=by
 have⟨n,c,e,f⟩:=b;refine⟨n,c,?_,f⟩;show bD (bX (kN D.hs m) (bD (evX x (ev fns n).call D.F ⟨(cN m D.ps D.S.h).2,D.S.nx⟩) _) none) _=_;rw[a,aL,h];exact e
def aBe{f:cQ}{args:List cQ}{m:Nat}(a:kN D.hs m=true)
  (h:iK fns (f.val D.F) (dV args D.F) ⟨(cN m D.ps D.S.h).2,D.S.nx⟩ fun v S1=>wpd fns l (i+1) base ⟨cT d D.F v,S1,(cN m D.ps D.S.h).1,(i,m,S1.h)::D.hs,D.ls⟩ Q):wpd fns (⟨d,.x (.call f args),none,m⟩::l) i base D Q:=by
 have⟨n,v,S1,b,k,c,e,g⟩:=h;refine⟨max n k,c,?_,g⟩;show bD (bX (kN D.hs m) (bD ((ev fns (max n k)).call (f.val D.F) (dV args D.F) ⟨(cN m D.ps D.S.h).2,D.S.nx⟩) _) none) _=_;rw[a,aL,(lO fns (Fg n k)).call _ _ _ _ b];exact uN (lO fns (Ex n k)).call e
def aN7{op:AOp}{s:Nat}{b:Bool}{m:Nat}(a:aA s D.F= .bool b)(c:wpd fns (⟨d,op,none,m⟩::l) i base D Q):wpd fns (⟨d,op,some (s,b),m⟩::l) i base D Q:=by
 have⟨n,e,f,g⟩:=c;refine⟨n,e,?_,g⟩;have:tW ⟨d,op,some (s,b),m⟩ i base (ev fns n).call D=tW ⟨d,op,none,m⟩ i base (ev fns n).call D:=by
  unfold tW;have j:fX (some (s,b)) D.F=true:=by show isB (aA s D.F) b=true;rw[a];cases b<;>rfl
  have o:fX none D.F=true:=rfl;simp only[j,o];cases op<;>rfl
 show bD (tW ⟨d,op,some (s,b),m⟩ i base (ev fns n).call D) _=_;rw[this];exact f
def dO(k:IntKind)(a:Int):cI (.int k a) (.int k a)=true:=by simp [cI,cS,fH,jA]
def aCw(a:Bool):cI (.bool a) (.bool a)=true:=by simp [cI,vZ]
def aEq(a b:Nat):cI (.ptr a b) (.ptr a b)=true:=by simp [cI,cS,Bn]
def nQ(a b c d:Nat)(o:Bool):cI (.sl a b c d o) (.sl a b c d o)=true:=by simp [cI,Bn,vZ]
def aA2:cI .cr .cr=true:=rfl
end Go.Ev
namespace Go.Ev
def aBH(S:St):Prop:=∀b,S.nx<=b->S.h.get b=none
def Frs(S S':St):Prop:=(aBH S->aBH S')/\S.nx<=S'.nx
def aMQ(S:St)(x:Option AB):Frs S ⟨S.h.set S.nx x,S.nx+1⟩:=
 ⟨fun h c a=>by simp only at a ⊢;rw[dx,if_neg au];exact h c au,Nat.le_succ _⟩
end Go.Ev
namespace Go.Ev
variable {P:Program}{σ:Env}{S:St}{w:World}
variable {fns:T fD}{l:List (Nat×Nat×IntKind×Int)}{v:AV}{S':St}{t:List (Nat×List (IntKind×Int))}
def aGE:List (Nat×Nat×IntKind×Int)->AC
 | []=>.seq (.reg [⟨some 0,.q (.mv (.c (.bool true))),none,0⟩]) .ret
 | (g,j,k,z)::l=>.seq (.reg [⟨some 1,.q (.ld false 1 (.c (.ptr g j))),none,0⟩,⟨some 2,.q (.bin .eql (.p .int) (.t 1) (.c (.int k z))),none,0⟩]) (.seq (.cond (.t 2) .skip (.exit 0)) (aGE l))
def aCd(l:List (Nat×Nat×IntKind×Int)):fD:=⟨0,[.t 0],aGE l⟩
def aK7{fns:T fD}{Q:Out->bO->St->Prop}(a:∀A,aA 0 A.F= .bool true->Q .ret A S):∀ {l:List (Nat×Nat×IntKind×Int)} {A:bO},(∀c∈l,nJ S.h c.1 c.2.1=some (.int c.2.2.1 c.2.2.2))->jN fns (aGE l) A S Q
 | [],A,_=>by
  refine aB (aF ?_);rw[aJ0];exact⟨.bool true,rfl,(aBr).2 (aS (a _ (by rw[bE,if_pos rfl])))⟩
 | (g,j,k,z)::l,A,h=>by
  have b:=h (g,j,k,z) (by simp);simp only at b;refine aB (aF (aOV (v:=.int k z) b (aOV (v:=.bool true) ?_ (aBr.2 ?_))))
  .show mL .eql (.p .int) (aA 1 (cT (some 1) A.F (.int k z))) (.int k z)=_;rw[bE,if_pos rfl,aDt,Ac rfl]
  refine aB (aKq (t:=true) (by show aA 2 _=_;rw[bE,if_pos rfl]) (fun _=>aG ?_) (nofun));exact aK7 a fun c d=>h c (by simp [d])
def aNP{id:Nat}(a:fns.get id=some (aCd l))(h:∀c∈l,nJ S.h c.1 c.2.1=some (.int c.2.2.1 c.2.2.2)):iK fns (.fn id [] []) [] S fun r S'=>r= .bool true/\S'=S:=by
 refine cJ a (by simp) (aK7 (fun A b=>?_) h);exact⟨[aA 0 A.F],rfl,by rw[b];rfl,rfl⟩
theorem aGB{v:AV}{k:IntKind}{z:Int}(h:mL .eql (.p .int) v (.int k z)=some (.bool true)):v= .int k z:=by
 cases v with
 | int k' z'=>
  have h':fL .eql k' z' k z=some (.bool true):=h;unfold fL at h';rw[show iE .eql=false from rfl,aR] at h';have⟨hk,h'⟩:=cH h';have hz:some (AV.bool (ieq z' z))=some (.bool true):=h';simp only[Ay,AV.bool.injEq] at hz;rw[jA] at hz;have hz:=eq_of_beq hz;subst hz;have hkk:k'=k:=by
   cases k<;>cases k'<;>first | rfl | (exfalso;revert hk;decide)
  rw[hkk]
 | _=>cases h
def aH0{fns:T fD}:∀ {l:List (Nat×Nat×IntKind×Int)} {n:Nat} {A d:bO} {S':St} {o:Out},(ev fns n).code (aGE l) A S=some (o,d,S')->(∀i,o≠ .exit i)->(∀c∈l,nJ S.h c.1 c.2.1=some (.int c.2.2.1 c.2.2.2))/\S'=S/\aA 0 d.F= .bool true
 | l,0,_,_,_,_,h,_=>by cases h
 | l,1,A,d,S',o,h,_=>by
  cases l with
  | nil=>
   have h':(none:Option (Out×bO×St))=some (o,d,S'):=h;cases h'
  | cons c l=>
   have⟨g,j,k,z⟩:=c;have h':(none:Option (Out×bO×St))=some (o,d,S'):=h;cases h'
 | [],n+2,A,d,S',o,h,s=>by
  have⟨⟨y,B,S1⟩,p,f⟩:=aO (show bD ((ev fns (n+1)).code (.reg [⟨some 0,.q (.mv (.c (.bool true))),none,0⟩]) A S) (uQ .ret (ev fns (n+1)))=some (o,d,S') from h);have L:(ev fns (n+1)).code (.reg [⟨some 0,.q (.mv (.c (.bool true))),none,0⟩]) A S=some (.normal,⟨cT (some 0) A.F (.bool true),A.inr⟩,S):=rfl;rw[L] at p;cases p;have M:uQ .ret (ev fns (n+1)) (.normal,⟨cT (some 0) A.F (.bool true),A.inr⟩,S)=some (.ret,⟨cT (some 0) A.F (.bool true),A.inr⟩,S):=rfl;rw[M] at f;cases f;exact⟨fun c m=>(by cases m),rfl,by rw[bE,if_pos rfl]⟩
 | (g,j,k,z)::l,n+2,A,d,S',o,h,s=>by
  have⟨⟨y,B,S1⟩,p,f⟩:=aO (show bD ((ev fns (n+1)).code (.reg [⟨some 1,.q (.ld false 1 (.c (.ptr g j))),none,0⟩,⟨some 2,.q (.bin .eql (.p .int) (.t 1) (.c (.int k z))),none,0⟩]) A S) (uQ (.seq (.cond (.t 2) .skip (.exit 0)) (aGE l)) (ev fns (n+1)))=some (o,d,S') from h);have⟨⟨F1,S2⟩,C,N⟩:=aO (show bD (wR [⟨some 1,.q (.ld false 1 (.c (.ptr g j))),none,0⟩,⟨some 2,.q (.bin .eql (.p .int) (.t 1) (.c (.int k z))),none,0⟩] (ev fns n).call A.F S) (fun r=>some (.normal,(⟨r.1,A.inr⟩:bO),r.2))=some (y,B,S1) from p);cases N;rw[iW] at C;have⟨⟨O,Q⟩,R,D⟩:=aO C;have⟨v,U,V⟩:=aO (show bD (nJ S.h g j) (fun v=>some (cT (some 1) A.F v,S))=some (O,Q) from R);cases V;rw[iW] at D;have⟨⟨W,X⟩,Y,Z⟩:=aO D;cases Z;have⟨b,G,x⟩:=aO (show bD (mL .eql (.p .int) (aA 1 (cT (some 1) A.F v)) (.int k z)) (fun u=>some (cT (some 2) (cT (some 1) A.F v) u,S))=some (W,X) from Y);cases x;rw[bE,if_pos rfl] at G;have f:(ev fns (n+1)).code (.seq (.cond (.t 2) .skip (.exit 0)) (aGE l)) ⟨cT (some 2) (cT (some 1) A.F v) b,A.inr⟩ S=some (o,d,S'):=f;have⟨⟨H,I,J⟩,a,q⟩:=aO (show bD ((ev fns n).code (.cond (.t 2) .skip (.exit 0)) ⟨cT (some 2) (cT (some 1) A.F v) b,A.inr⟩ S) (uQ (aGE l) (ev fns n))=some (o,d,S') from f);cases n with
  | zero=>cases a
  | succ n=>
   have a:aCF (aA 2 (cT (some 2) (cT (some 1) A.F v) b)) .skip (.exit 0) (ev fns n) ⟨cT (some 2) (cT (some 1) A.F v) b,A.inr⟩ S=some (H,I,J):=a;rw[bE,if_pos rfl] at a;cases b with
   | bool t=>
    have a:(ev fns n).code (bX t .skip (.exit 0)) ⟨cT (some 2) (cT (some 1) A.F v) (.bool t),A.inr⟩ S=some (H,I,J):=a;cases t with
    | true=>
     rw[aL] at a;cases n with
     | zero=>cases a
     | succ n=>
      have e:(ev fns (n+1)).code .skip ⟨cT (some 2) (cT (some 1) A.F v) (.bool true),A.inr⟩ S=some (.normal,⟨cT (some 2) (cT (some 1) A.F v) (.bool true),A.inr⟩,S):=rfl;rw[e] at a;cases a;have K:=aH0 (l:=l) (show(ev fns (n+1+1)).code (aGE l) _ S=some (o,d,S') from q) s;refine⟨fun c m=>?_,K.2⟩;rcases Bm.1 m with rfl|m
      .rw[U,aGB G]
      .exact K.1 c m
    | false=>
     rw[aR] at a;cases n with
     | zero=>cases a
     | succ n=>
      have e:(ev fns (n+1)).code (.exit 0) ⟨cT (some 2) (cT (some 1) A.F v) (.bool false),A.inr⟩ S=some (.exit 0,⟨cT (some 2) (cT (some 1) A.F v) (.bool false),A.inr⟩,S):=rfl;rw[e] at a;cases a;have q:some (Out.exit 0,(⟨cT (some 2) (cT (some 1) A.F v) (.bool false),A.inr⟩:bO),S)=some (o,d,S'):=q;cases q;exact absurd rfl (s 0)
   | _=>cases a
def aLx{n:Nat}(h:vY (aCd l) [] (ev fns n) S=some (v,S')):(∀c∈l,nJ S.h c.1 c.2.1=some (.int c.2.2.1 c.2.2.2))/\S'=S/\v= .bool true:=by
 unfold vY at h;have⟨_,h⟩:=cH h;have⟨⟨o,d,S1⟩,f,a⟩:=aO h;unfold aDY at a;split at a
 .cases a
 .rename_i b;have⟨vs,g,j⟩:=aO a;cases j;have⟨m,p,q⟩:=aH0 (show(ev fns n).code (aGE l) ⟨.e,false⟩ S=some (o,d,S1) from f) (fun i e=>b i e);refine⟨m,p,?_⟩;have:some [aA 0 d.F]=some vs:=g;cases this;exact q
def aEB:Nat->Nat->List (IntKind×Int)->List (Nat×Nat×IntKind×Int)
 | _,_,[]=>[]
 | g,j,(k,z)::l=>(g,j,k,z)::aEB g (j+1) l
def aEn:∀ {l:List (IntKind×Int)} {g j i:Nat} {k:IntKind} {z:Int},l[i]? =some (k,z)->(g,j+i,k,z)∈aEB g j l
 | [],_,_,_,_,_,h=>by simp at h
 | (k,z)::l,g,j,0,k',a,h=>by
  simp at h;obtain⟨rfl,rfl⟩:=h;simp [aEB]
 | (k,z)::l,g,j,i+1,k',a,h=>by
  have:=aEn (g:=g) (j:=j+1) (show l[i]? =some (k',a) by simpa using h);rw[show j+(i+1)=j+1+i by omega];exact Az _ this
def pD:List (Nat×List (IntKind×Int))->List (Nat×Nat×IntKind×Int)
 | []=>[]
 | (g,l)::r=>aEB g 0 l++pD r
def aBL:∀ {t:List (Nat×List (IntKind×Int))} {g:Nat} {l:List (IntKind×Int)},(g,l)∈t->∀c∈aEB g 0 l,c∈pD t
 | (b,l')::t,g,l,h,c,a=>by
  simp only[pD,Bi];rcases Bm.1 h with h|h
  .cases h;exact .inl a
  .exact .inr (aBL h c a)
def aHK(G:mR P σ S w)(H:∀x∈t,x.1<P.globals.size/\x.2≠ [])(h:∀c∈pD t,nJ S.h c.1 c.2.1=some (.int c.2.2.1 c.2.2.2)):aM3 P (t.map fun x=>(x.1,x.2.map fun y=>AV.int y.1 y.2)) w:=by
 intro x I;obtain⟨⟨g,l⟩,b,rfl⟩:=Cp.1 I;have⟨J,K⟩:=H _ b;have q:∀i k z,l[i]? =some (k,z)->nJ S.h g i=some (.int k z):=fun i k z hi=>by
  have:=h _ (aBL b _ (aEn (g:=g) (j:=0) hi));simpa using this
 obtain⟨⟨f,z0⟩,l',rfl⟩:∃a l',l=a::l':=by cases l with|nil=>exact absurd rfl K|cons a l'=>exact⟨a,l',rfl⟩
 have r:=q 0 f z0 rfl;unfold nJ cG at r;have⟨cs,R,h4⟩:=aO r;have⟨bl,M,e⟩:=aO R;have⟨L,N,T,O⟩:=G.blk g bl M;rw[G.glob g J] at N;cases N;have n:∀i k z,((f,z0)::l')[i]? =some (k,z)->cs[i]? =some (AV.int k z):=fun i k z hi=>by
  have:=q i k z hi;unfold nJ cG at this;rw[M,aH,e,aH,qU] at this;exact this
 have key:∀d,jG P σ cs d->w.rangeAt g 0 d->∃Ds,jG P (aEL P) (((f,z0)::l').map fun y=>AV.int y.1 y.2) Ds/\(∀u∈Ds,u.oneCell'=true)/\w.rangeAt g 0 Ds:=by
  intro d U W;refine⟨((f,z0)::l').map fun y=>Value.int y.1 y.2,?_,fun u X=>?_,fun j v Q=>?_⟩
  .clear n q H h r b I K;generalize (f,z0)::l'=m
   induction m with
   | nil=>exact dS.2 rfl
   | cons a m Y=>exact dL.2 ⟨_,_,rfl,by simp only[Rv],Y⟩
  .obtain⟨y,_,rfl⟩:=Cp.1 X;rfl
  .rw[Ba,Bc] at Q;obtain⟨⟨k,z⟩,A,rfl⟩:=Q;have B:=n j k z A;have⟨V,Z,p⟩:=U.get B;simp only[Rv] at p;rw[<-p];exact W j V Z
 refine⟨J,by simpa using T,?_⟩;cases bl with
 | cells ds o s=>
  simp only[nH,Ay] at e;subst e;have⟨d,C,_,D,_⟩:=O;exact key d C D
 | ro ds=>
  simp only[nH,Ay] at e;subst e;have⟨d,C,_,D⟩:=O;exact key d C D
 | _=>cases e
def aHt{l:List (Nat×bu)}{c:Env}{w':World}(a:mR P σ S w)(h:jJ P (aEL P) (stL P l) w c S' w'):jJ P σ S w σ S w':=by
 have f:∀r,r<w.heap.size->w'.heap[r]? =w.heap[r]? :=fun r d=>h.keep r d (aU3 r);refine⟨⟨fun b bl e=>?_,a.lt,a.fresh,a.glob,a.inj⟩,fun _ _=>rfl,Af _,fun r d _=>f r d,fun _ i=>.inl i,h.size,h.os,h.tape,h.output,fun _ _ e=>e⟩;have⟨L,j,g,m⟩:=a.blk b bl e;exact⟨L,j,Ae g h.size,m.frame (fun _ _ x=>x) (f _ g)⟩
def aFv{id nt:Nat}{i:List RV}{c:AC}{Fn:Func}{l:List (Nat×bu)}(g:P.funcs[id]? =some Fn)(Y:cFn P Fn=some ⟨nt,i,c⟩)(Z:l=t.map fun x=>(x.1,x.2.map fun y=>AV.int y.1 y.2))(hg:∀x∈t,x.1<P.globals.size/\x.2≠ [])
  (h:Good P c ⟨.e,false⟩ (stL P l) fun o A S=>aMF i o A S=some true):aKU P fns id (aCd (pD t)):=by
 have⟨C,c',rs,a,b,hC,D,heq⟩:=aE4 Y;cases heq;refine⟨rfl,⟨Fn,C,g,a,b⟩,fun n S S' v j σ w fv Q R=>?_⟩;have⟨d,G,hv⟩:=aLx j;subst G;subst hv;have hT:aM3 P l w:=by rw[Z];exact aHK R hg d
 simp only[Rv] at Q;obtain⟨A,B,rfl,H,I⟩:=Q;have H:=dS.1 H;have I:=dS.1 I;subst H;subst I;rw[lG g a b];show CallsIn Fence.wide 0 P id ⟨[]++([]++ [])⟩ w _;refine callsIn_of_wp_marks g a trivial ?_;have⟨J,K⟩:=aAY (P:=P) (σ:=aEL P) (args:=[]) (Args:=[]) (dS.2 rfl) (nt:=Fn.ntmps) (Ct _);rw[<-aDs];refine h none 0 Fn.ntmps C hC (fun _=>rfl) w.heap.size (aEL P) _ w _ K Df.nil (Af _) J (aTp hT) ?_;intro o A' S2 e a' w' m U W L p f;have⟨M,q⟩:=aML m;have⟨_,r,N,s,u⟩:=L;rw[Bs] at N;have z:∀w'',jJ P (aEL P) (stL P l) w e S2 w''->∃V,(Go.results Fn a'.tmps).run P w''= .ok V w''/\∃e,Rv P e (.bool true) V/\jJ P σ S' w e S' w'':=fun w'' X=>by
  have⟨O,h8,h9⟩:=nP X.rep p D q;refine⟨if h:O.toArray.size=1 then O.toArray[0] else .tuple O.toArray,?_,σ,?_,aHt R X⟩
  .show((do let vs <-Fn.results.mapM (aEy a'.tmps);pure (if h:vs.size=1 then vs[0] else .tuple vs):Sem Value)).run P w''=_;rw[Fd];simp only[Sem.run_bind,Sem.run_map,h8,Result.andThen_ok,Sem.run_pure]
  .have:=yB h9;simp only[oneOf,Rv] at this;rw[this];simp only[Rv]
 rcases M with rfl|rfl
 .show LeavesInM Fence.wide 0 P Fn a'.tmps _ a'.defers .returning w';rw[N];exact leaves r w' s u f z
 .show LeavesInM Fence.wide 0 P Fn a'.tmps _ a'.defers .returning w';rw[N];exact leaves r w' s u f z
def aGv{l:List (Nat×fD)}(b:P.follows .mixedOrders=true)(d:∀p∈l,Row P p\/aKU P (table l) p.1 p.2):qW P (table l):=
 ⟨asked P,wE P,fun id fn h=>by
  rcases d _ (aCn h) with⟨Fn,c,e⟩|c
  .exact .inl ⟨Fn,c,e⟩
  .exact .inr (.inl c),fun call a=>aC0 (asked P) (wE P) b call a⟩
end Go.Ev
namespace Go.Ev
variable {P:Program}{σ:Env}{S:St}{w:World}
variable {l:List (Nat×bu)}
def aBR(S:St):Prop:=∀b bl,S.h.get b=some bl->¬wQ bl
def aAy(σ:Env)(b:Nat)(L:Loc):Env:=fun c=>if c=b then some L else σ c
def aRl(a:mR P σ S w)(L:Loc):∀b M,σ b=some M->aAy σ S.nx L b=some M:=fun b M h=>by
 have:=a.below h;unfold aAy;rw[if_neg au];exact h
structure tL(P:Program)(σ:Env)(S:St)(w:World)(σ':Env)(S':St):Prop where
 rep:mR P σ' S' w
 no:aBR S'
 jo:jq S S'
 fresh:aBH S'
 le:∀b L,σ b=some L->σ' b=some L
def tL.refl(a:mR P σ S w)(b:aBR S)(c:aBH S):tL P σ S w σ S:=⟨a,b,jq.refl S,c,fun _ _ h=>h⟩
def tL.trans{c a:Env}{S' S'':St}(h:tL P σ S w c S')(h':tL P c S' w a S''):tL P σ S w a S'':=⟨h'.rep,h'.no,h.jo.trans h'.jo,h'.fresh,fun b L d=>h'.le b L (h.le b L d)⟩
def aRp(a:aBR S)(r:Nat):¬Own σ S r:=fun⟨b,bl,_,c,d,_⟩=>a b bl c d
theorem aMv{fns:T fD}(hK:qW P fns){id:Nat}{b:Bool}{Fn:Func}(hFn:P.funcs[id]? =some Fn)(hb:Fn.body.isSome=true)(hnm:(Fn.name== "runtime.NumGoroutine")=false){avs:bu}{Args:List Value}{Q:St->Prop}
  (h:iK fns (.fn id [] []) avs S fun r S'=>r= .bool b/\Q S') (hargs:jG P σ avs Args) (hR:mR P σ S w) (hn:aBR S):
  Calls P id ⟨Args⟩ w fun e w'=>e= .returned (.bool b)/\Kept w w':=by
 have⟨n,v,S',hrun0,hv,_⟩:=h;subst hv;have hs:=aNa hK n _ _ _ _ _ hrun0 σ w (.func (.func id) ⟨[]⟩ ⟨[]⟩) Args (by simp only[Rv];exact⟨[],[],rfl,dS.2 rfl,dS.2 rfl⟩) hargs hR;have hnm':¬Fn.name= "runtime.NumGoroutine" :=by simpa using hnm
 have⟨C,hC⟩:=Option.isSome_iff_exists.1 hb;have hrun:((do let d <-Deferred.ofValue (.func (.func id) ⟨[]⟩ ⟨[]⟩) ⟨Args⟩;invoke d.target d.args:Sem Next)).run P w= .ok (.enter id ⟨Args⟩) w:=by
  simp only[Deferred.ofValue,Sem.run_bind,Sem.run_pure,Result.andThen_ok,invoke,callFunc,run_program,hFn];simp [hC,hnm']
 rw[hrun] at hs;have hs:CallsIn Fence.wide 0 P id ⟨Args⟩ w _:=hs;refine(callsIn_wide.1 hs).mono fun e w' h=>?_;cases e with
 | returned V=>
  have⟨σ',h1,h2⟩:=h;simp only[Rv] at h1;subst h1;exact⟨rfl,h2.kept (aRp hn)⟩
 | _=>exact h.elim
def aPI:aBR (stL P l):=fun b bl h a=>by
 obtain⟨cs,_,rfl⟩:=pX h;exact a.elim
def aP9(a:∀x∈l,x.1<P.globals.size):aBH (stL P l):=fun b c=>by
 cases h:(stL P l).h.get b with
 | none=>rfl
 | some bl=>
  have⟨cs,d,_⟩:=pX h;have e:=a _ d;simp only[stL] at c;simp only at e;omega
end Go.Ev
namespace Go.Ev
variable {P:Program}{σ:Env}{S:St}{w:World}
variable {t:TypeId}
def aMy(f:mR P σ S w)(m:aBR S)(o:aBH S)(A:P.globals.size<=S.nx){r d:Nat}{cs:bu}{i:List Value}(p:r<w.heap.size)(q:jG P σ cs i)(j:∀u∈i,u.oneCell'=true)(s:w.rangeAt r d i):
  tL P σ S w (aAy σ S.nx ⟨r,d,0⟩) ⟨S.h.set S.nx (some (.ro cs)),S.nx+1⟩:=by
 have c:=aRl f ⟨r,d,0⟩;refine⟨⟨fun b bl a=>?_,fun b bl a=>?_,fun b a=>?_,fun g t=>?_,fun b B bl x L C a _ n=>?_⟩,fun b bl a=>?_,jq.alloc S _,(aMQ S _).1 o,c⟩
 .simp only at a;rw[dx] at a;split at a
  .rename_i e;subst e;cases a;exact⟨⟨r,d,0⟩,by unfold aAy;rw[if_pos rfl],p,i,q.mono c,j,s⟩
  .have⟨L,j,y,z⟩:=f.blk b bl a;exact⟨L,c b L j,y,z.frame c rfl⟩
 .simp only at a;rw[dx] at a;split at a
  .rename_i e;subst e;simp
  .have:=f.lt b bl a;simp only;omega
 .simp only at a;unfold aAy;rw[if_neg au];exact f.fresh b au
 .unfold aAy;rw[if_neg au];exact f.glob g t
 .simp only at a;rw[dx] at a;split at a
  .cases a;exact n.elim
  .exact absurd n (m b bl a)
 .simp only at a;rw[dx] at a;split at a
  .cases a;exact fun h=>h
  .exact m b bl a
def Lays(P:Program)(t:TypeId){α:Type}(E:St->bu->α->Prop):Prop:=
 ∀ (H:Type) (enc:TypeId×Value->H) (σ:Env) (S:St) (w:World) (base:Nat) (spare:Nat->Bool) (held:Bool) (b:Nat) (cs:List Value) (x:DataW H×List MemPlace),mR P σ S w->aBR S->aBH S->P.globals.size<=S.nx->DataW.trod enc P w base spare held b t cs=some x->(∀n∈DataW.weights P t x.1,n<=140737488355328)->
  ∃c S' d a,tL P σ S w c S'/\jG P c d cs/\(∀u∈cs,u.oneCell'=true)/\E S' d a/\S.nx<=S'.nx
def aFq{α:Type}(E:St->bu->α->Prop):Prop:=∀ {S S':St} {b:bu} {a:α},E S b a->jq S S'->E S' b a
def aQt(k:IntKind)(_:St)(a:bu)(z:Int):Prop:=a= [.int k z]/\(Lit.int k z).wf=true
def aNS{k:IntKind}:aFq (aQt k):=fun h _=>h
def aPh{k:IntKind}(c:P.underlying t=some (.int k)):Lays P t (aQt k):=by
 intro H enc σ S w base spare held a cs x d e f i h j;obtain⟨n,rfl,_,g⟩:=DataW.trod_int c h;exact⟨σ,S,[.int k n],n,tL.refl d e f,dL.2 ⟨_,_,rfl,by simp only[Rv],dS.2 rfl⟩,fun u b=>by simp at b;subst b;rfl,⟨rfl,g⟩,Af _⟩
def aCN{H:Type}{e:TypeId}{d:DataW H}{n:Nat}:∀ {l:List (DataW H)},d∈l->n∈DataW.weights P e d->n∈DataW.weightsAll P e l
 | [],h,_=>by cases h
 | x::r,h,a=>by
  show n∈DataW.weights P e x++DataW.weightsAll P e r;rcases Bm.1 h with rfl|h
  .exact Dc _ a
  .exact Cq _ (aCN h a)
def aBy{H:Type}{n:Nat}:∀ {a:List TypeId} {l:List (DataW H)} {i:Nat} {t:TypeId} {d:DataW H},a[i]? =some t->l[i]? =some d->n∈DataW.weights P t d->n∈DataW.weightsEach P a l
 | [],_,_,_,_,h,_,_=>by simp at h
 | _::_,[],_,_,_,_,h,_=>by simp at h
 | u::a,x::r,0,t,d,b,c,e=>by
  simp at b c;subst b;subst c;exact Dc _ e
 | u::a,x::r,i+1,t,d,b,c,e=>by
  show n∈DataW.weights P u x++DataW.weightsEach P a r;exact Cq _ (aBy (by simpa using b) (by simpa using c) e)
def aFB{H:Type}{e:TypeId}{a b:List (DataW H)}(c:P.underlying t=some (.slice e)):DataW.weights P t (.slice a b)=(a.length+b.length) * P.bytesOf e::(DataW.weightsAll P e a++DataW.weightsAll P e b):=by
 unfold DataW.weights;rw[c]
def aOT(k:Nat){α:Type}(E:St->bu->α->Prop)(S:St)(d:bu)(l:List α):Prop:=
 ∃av,d= [av]/\l.length * (8 * k)<=140737488355328/\((l= []/\(av= .cr\/av= .emp))\/∃ (b cap:Nat) (c:List (bu)),av= .sl b 0 l.length cap false/\l.length<=cap/\b<S.nx/\S.h.get b=some (.ro c.flatten)/\c.length=l.length/\∀ (i:Nat) (cs:bu) (a:α),c[i]? =some cs->l[i]? =some a->cs.length=k/\E S cs a)
def aN2{a:Addr}{n base:Nat}{cs:List Value}(h:w.cells? base a n=some cs):cs.length=n/\∀i,i<n->w.cell? (a.add i)=cs[i]? :=by
 unfold World.cells? at h;split at h
 .refine⟨by simpa using mapM_some_length h,fun i hi=>?_⟩;exact mapM_some_get h i i (by simp [hi])
 .cases h
def aEh{e:TypeId}{k:Nat}{α:Type}{E:St->bu->α->Prop}(hE:Lays P e E)(hF:aFq E)(hk:0<k){H:Type}{enc:TypeId×Value->H}{base:Nat}{spare:Nat->Bool}{held:Bool}{o:Nat}{a:Addr}(t:a.spot=none)
  (hR:mR P σ S w) (hn:aBR S) (hf:aBH S) (hG:P.globals.size<=S.nx):∀ {m:Nat},(∀i,i<m->∃x,(w.cells? base (a.add (i * k)) k).bind (DataW.trod enc P w base spare held o e)=some x/\∀n∈DataW.weights P e x.1,n<=140737488355328)->
  ∃ (I:Env) (S':St) (b:List (bu)),∃l:List α,∃p:List Value,tL P σ S w I S'/\S.nx<=S'.nx/\b.length=m/\l.length=m/\(∀ (i:Nat) (cs:bu) (a:α),b[i]? =some cs->l[i]? =some a->cs.length=k/\E S' cs a)/\jG P I b.flatten p/\(∀u∈p,u.oneCell'=true)/\p.length=m * k/\w.rangeAt a.block a.off p
 | 0,_=>⟨σ,S,[],[],[],tL.refl hR hn hf,Af _,rfl,rfl,fun i cs a hi=>(by simp at hi),dS.2 rfl,fun u z=>(by cases z),by simp,fun j v A=>(by simp at A)⟩
 | m+1,h=>by
  have⟨T,S1,b,l,p,R,J,K,L,M,U,N,c,f⟩:=aEh hE hF hk t hR hn hf hG (m:=m) fun i hi=>h i au;have⟨x,V,W⟩:=h m au;have⟨cs,X,V⟩:=Dg.1 V;have⟨Y,S2,O,y,B,r,C,Z,aa⟩:=hE H enc T S1 w base spare held o cs x R.rep R.no R.fresh (Aq hG J) V W;have⟨s,D⟩:=aN2 X;have ab:O.length=k:=by rw[<-r.length];exact s
  refine⟨Y,S2,b++ [O],l++ [y],p++cs,R.trans B,Aq J aa,by simp [K],by simp [L],?_,?_,?_,?_,?_⟩
  .intro i cs' a' hi g;rw[Eg] at hi g;rw[K] at hi;rw[L] at g;split at hi
   .rename_i d;rw[if_pos d] at g;exact⟨(M i cs' a' hi g).1,hF (M i cs' a' hi g).2 B.jo⟩
   .rename_i d;rw[if_neg d] at g;have ac:i - m=0:=by
     rcases Cb (i - m) with h|h
     .exact h
     .have⟨q,hq⟩:=Nat.exists_eq_succ_of_ne_zero (Nat.pos_iff_ne_zero.1 h);rw[hq] at hi;simp at hi
    rw[ac] at hi g;simp at hi g;subst hi;subst g;exact⟨ab,Z⟩
  .rw[List.flatten_append];simp only[List.flatten_cons,List.flatten_nil,Bs];exact(U.mono B.le).append r
  .intro u z;rcases Bi.1 z with z|z
   .exact N u z
   .exact C u z
  .rw[Ai,c,s,Du]
  .intro j v A;rw[Eg] at A;split at A
   .exact f j v A
   .rename_i d;have hj:j - p.length<k:=by
     have:=(Aj.1 A).1;omega
    have:=D (j - p.length) hj;rw[A] at this;rw[<-this];congr 1;have Q:∀i,a.add i=⟨a.block,a.off+i,none⟩:=fun i=>by
     unfold Addr.add;split
     .rename_i h;subst h;cases a;simp_all
     .rfl
    have G:∀ (x y:Nat),Addr.add ⟨a.block,x,none⟩ y=⟨a.block,x+y,none⟩:=fun x y=>by
     unfold Addr.add;split
     .rename_i h;rw[h,Bw]
     .rfl
    rw[Q,G,c];congr 1;rw[c] at d;omega
def aJZ{e:TypeId}{k:Nat}{α:Type}{E:St->bu->α->Prop}(W:P.underlying t=some (.slice e))(hc:P.cellsOf e=k)(X:0<k)(I:8 * k<=P.bytesOf e)(hE:Lays P e E)(Y:aFq E):Lays P t (aOT k E):=by
 intro H enc σ S w base spare held Z cs x J q K hG h r;rcases DataW.trod_slice W h with⟨rfl,_⟩|⟨a,len,cap,b,s,n,rfl,rfl,L,_,aa,_,y,z,_⟩
 .exact⟨σ,S,[.cr],[],tL.refl J q K,dL.2 ⟨_,_,rfl,by simp only[Rv],dS.2 rfl⟩,fun u j=>by simp at j;subst j;rfl,⟨_,rfl,by simp,.inl ⟨rfl,.inl rfl⟩⟩,Af _⟩
 .rw[hc] at z;subst L;have r:∀n∈DataW.weights P t (.slice (b.map (·.1)) (s.map (·.1))),n<=140737488355328:=r;rw[aFB W] at r;have M:len * (8 * k)<=140737488355328:=by
   have h1:=r _ (Be ..);rw[Av,y,Dl] at h1;exact Aq (Nat.mul_le_mul_left len I) au
  rcases Cb len with h0|hp
  .subst h0;exact⟨σ,S,[.emp],[],tL.refl J q K,dL.2 ⟨_,_,rfl,by simp only[Rv];exact⟨a,cap,rfl⟩,dS.2 rfl⟩,fun u j=>by simp at j;subst j;rfl,⟨_,rfl,by simp,.inl ⟨rfl,.inr rfl⟩⟩,Af _⟩
  .have m:∀i,i<len->∃x,(w.cells? base (a.add (i * k)) k).bind (DataW.trod enc P w base spare held n e)=some x/\∀n∈DataW.weights P e x.1,n<=140737488355328:=fun i hi=>by
    rw[z i hi];exact⟨b[i]' au,Ab au,fun n q=>r n (Az _ (Dc _ (aCN (List.mem_map_of_mem (Bl _)) q)))⟩
   have⟨x0,N,_⟩:=m 0 hp;have⟨cs0,A,_⟩:=Dg.1 N;have⟨ab,O⟩:=aN2 A;have f:=O 0 X;rw[Ab au,Dz] at f;have e0:(a.add 0).add 0=a:=rfl;rw[e0] at f;have d:a.block<w.heap.size/\a.spot=none:=by
    unfold World.cell? at f;cases Q:w.heap[a.block]? with
    | none=>rw[Q] at f;cases f
    | some o=>
     refine⟨(Fb.1 Q).1,?_⟩;rw[Q] at f;cases o with
     | cells c t fr=>
      simp only at f;by_cases hs:a.spot.isSome
      .rw[if_pos hs] at f;cases f
      .simpa using hs
     | _=>cases f
   have⟨ac,S1,R,l,Cs,G,T,U,p,B,V,C,an,g⟩:=aEh hE Y X d.2 J q K hG m;have D:=aMy G.rep G.no G.fresh (Aq hG T) d.1 V C g;refine⟨_,_,[.sl S1.nx 0 len cap false],l,G.trans D,dL.2 ⟨_,_,rfl,?_,dS.2 rfl⟩,fun u j=>by simp at j;subst j;rfl,⟨_,rfl,by rw[p];exact M,.inr ⟨S1.nx,cap,R,by rw[p],au,by simp,?_,by rw[U,p],fun i cs a' hi ha=>⟨(B i cs a' hi ha).1,Y (B i cs a' hi ha).2 D.jo⟩⟩⟩,by simp only;omega⟩
   .simp only[Rv];refine⟨⟨a.block,a.off,0⟩,by unfold aAy;rw[if_pos rfl],?_⟩;have:=d.2;cases a
    simp_all
   .simp only;rw[dx,if_pos rfl]
end Go.Ev
namespace Go.Ev
variable {α:Type}{S:St}{i:Nat}{E:St->bu->α->Prop}{l:List α}
def aE(k:Nat){α:Type}(E:St->bu->α->Prop)(S:St)(v:AV)(l:List α):Prop:=
 (l= []/\(v= .cr\/v= .emp))\/∃b off cap o cs,v= .sl b off l.length cap o/\l.length<=cap/\b<S.nx/\cG S.h b=some cs/\∀ (i:Nat) (a:α),l[i]? =some a->∃e:bu,e.length=k/\(∀ (j:Nat) (x:AV),e[j]? =some x->cs[off+i * k+j]? =some x)/\E S e a
def aE.jo{k:Nat}(f:aFq E){S':St}{v:AV}(h:aE k E S v l)(c:jq S S'):aE k E S' v l:=by
 rcases h with h|⟨b,off,cap,o,cs,g,j,d,m,n⟩
 .exact .inl h
 .refine .inr ⟨b,off,cap,o,cs,g,j,Ae d c.1,by rw[wG c d];exact m,fun i a hi=>?_⟩;have⟨e,p,q,r⟩:=n i a hi;exact⟨e,p,q,f r c⟩
def flat_get{k:Nat}:∀ {a:List (bu)} {i j:Nat} {cs:bu} {x:AV},(∀ (i:Nat) (cs:bu),a[i]? =some cs->cs.length=k)->a[i]? =some cs->cs[j]? =some x->a.flatten[i * k+j]? =some x
 | [],i,j,cs,x,_,hi,_=>by simp at hi
 | c::a,0,j,cs,x,_,hi,b=>by
  simp at hi;subst hi;rw[Dz,An,List.flatten_cons,Ak (Aj.1 b).1];exact b
 | c::a,i+1,j,cs,x,d,hi,b=>by
  have e:=d 0 c rfl;rw[List.flatten_cons,Du,Ao au,e,show i * k+k+j - k=i * k+j by omega];exact flat_get (fun i cs h=>d (i+1) cs (by simpa using h)) (by simpa using hi) b
def aOT.is{k:Nat}{d:bu}(h:aOT k E S d l):∃v,d= [v]/\aE k E S v l:=by
 obtain⟨v,rfl,_,h|⟨b,cap,c,n,o,p,q,u,g⟩⟩:=h
 .exact⟨v,rfl,.inl h⟩
 .refine⟨v,rfl,.inr ⟨b,0,cap,false,c.flatten,n,o,p,?_,fun i a hi=>?_⟩⟩
  .unfold cG;rw[q];rfl
  .have e:i<c.length:=by have:=(Aj.1 hi).1;omega
   have⟨r,s⟩:=g i c[i] a (Ab e) hi;refine⟨c[i],r,fun j x t=>?_,s⟩;rw[An];exact flat_get (fun m cs' f=>(g m cs' (l[m]'(by have:=(Aj.1 f).1;omega)) f (Ab _)).1) (Ab e) t
section
variable {k:Nat}{α:Type}{E:St->bu->α->Prop}{S:St}{v:AV}{l:List α}
def aE.len(h:aE k E S v l):lW v=some (.int .i64 (l.length:Int)):=by
 rcases h with⟨rfl,rfl|rfl⟩|⟨b,off,cap,o,cs,rfl,_⟩<;>rfl
def aOU(k:Nat)(v:AV)(i:Nat):AV:=
 match v with
 | .sl b off _ _ _=>.ptr b (off+i * k)
 | _=>.undef
def aE.c9(h:aE k E S v l)(hi:i<l.length):eY (.slice k) v i=some (aOU k v i):=by
 rcases h with⟨rfl,_⟩|⟨b,off,cap,o,cs,rfl,_⟩
 .simp at hi
 .simp only[eY,aOU];have:Nat.blt i l.length=true:=Al hi;rw[this,aL]
def aE.get(h:aE k E S v l){a:α}(hi:l[i]? =some a):∃ (e:bu) (b p:Nat),aOU k v i= .ptr b p/\b<S.nx/\e.length=k/\E S e a/\∃cs,cG S.h b=some cs/\∀ (j:Nat) (x:AV),e[j]? =some x->cs[p+j]? =some x:=by
 rcases h with⟨rfl,_⟩|⟨b,off,cap,o,cs,rfl,q,f,c,d⟩
 .simp at hi
 .have⟨e,g,m,n⟩:=d i a hi;exact⟨e,b,off+i * k,rfl,f,g,n,cs,c,m⟩
end
end Go.Ev
