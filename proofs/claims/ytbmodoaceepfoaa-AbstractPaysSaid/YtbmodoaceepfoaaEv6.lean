import Derived.Test.YtbmodoaceepfoaaEv5
import Derived.RangeFuncLeaves
import Derived.OrdersIn
set_option linter.all false
namespace Go.Ev
variable {P:Program}
variable {lo r nt n:Nat}{σ σ':Env}{S S':St}{w w':World}{inr:Bool}{args:bu}{Args:List Value}{fns:T fD}
def aGZ:Out->Exit
 | .normal=>.normal
 | .exit id=>.exit id
 | .ret=>.ret
structure Mark(lo:Nat)(σ:Env)(S:St)(w:World)(r:Nat):Prop where
 low:lo<=r
 lt:r<w.heap.size
 cell:w.heap[r]? =some (.deferred (some []))
 off:∀b bl L,S.h.get b=some bl->σ b=some L->L.r≠r
def aCD(r:Nat):Deferred:={target:=.collected r,args:= #[]}
def Df(b:List Deferred)(lo:Nat)(inr:Bool)(σ:Env)(S:St)(w:World)(ds:List Deferred):Prop:=
 (inr=true->ds= [])/\∃a:cd,ds=a.map aCD++b/\a.Nodup/\∀r∈a,Mark lo σ S w r
def Mark.notOwn(h:Mark lo σ S w r):¬Own σ S r:=fun⟨b,bl,L,a,_,c,d⟩=>h.off b bl L a c d
def Mark.ext(h:Mark lo σ S w r)(g:mR P σ S w)(e:jJ P σ S w σ' S' w'):Mark lo σ' S' w' r where
 low:=h.low
 lt:=Ae h.lt e.size
 cell:=by rw[e.keep r h.lt h.notOwn];exact h.cell
 off:=fun b bl L c d f=>by
  have own:wQ bl->False:=fun i=>by
   rcases e.own r ⟨b,bl,L,c,i,d,f⟩ with a|a
   .exact h.notOwn a
   .exact absurd h.lt au
  cases bl with
  | ro cs=>
   have a:=e.ro b cs c;exact h.off b _ L a (by rw[<-e.low b (g.lt b _ a)];exact d) f
  | _=>exact own trivial
def Df.ext{a:List Deferred}{ds:List Deferred}(h:Df a lo inr σ S w ds)(b:mR P σ S w)(e:jJ P σ S w σ' S' w'):Df a lo inr σ' S' w' ds:=by
 have⟨c,d,f,g,i⟩:=h;exact⟨c,d,f,g,fun r j=>(i r j).ext b e⟩
def Df.nil:Df [] lo inr σ S w []:=⟨fun _=>rfl,[],rfl,by simp,fun r a=>by cases a⟩
def nL(P:Program)(code:AC->bO->St->Option (Out×bO×St)):Prop:=
 ∀ (ro:Option Nat) (n nt:Nat) (C:Code) (c:AC),jU P nt C=some c->∀ (A:bO) (S:St) (o:Out) (b:bO) (S':St),(A.inr=false->ro=none)->code c A S=some (o,b,S')->
  ∀ (d:List Deferred) (lo:Nat) (σ:Env) (a:Act) (w:World) (Q:Exit->Act->World->Prop),a.tmps.size=nt->Df d lo A.inr σ S w a.defers->lo<=w.heap.size->qR P σ A.F a.tmps->mR P σ S w->
   (∀σ' a' w',b.inr=A.inr->a'.tmps.size=nt->Df d lo A.inr σ' S' w' a'.defers->(aCT c=true->a'.defers=a.defers)->qR P σ' b.F a'.tmps->jJ P σ S w σ' S' w'->Q (aGZ o) a' w')->C.wpIn (Fw ro) n P Q a w
def aF8(P:Program)(call:gD):Prop:=
 ∀ (ro:Option Nat) (n nt id:Nat) (b:Array Oper) (aos:List AO),aDG P nt b=some (.drw aos)->∀ (σ:Env) (F F':Fr) (S S':St) (a:Act) (w:World) (Q:Exit->Act->World->Prop),
  a.tmps.size=nt->qR P σ F a.tmps->mR P σ S w->zE aos call F S=some (F',S')->
  (∀σ' a' w',qR P σ' F' a'.tmps->a'.tmps.size=nt->a'.defers=a.defers->jJ P σ S w σ' S' w'->Q .normal a' w')->(Code.region id b true).wpIn (Fw ro) n P Q a w
def aTq(P:Program)(fns:T fD)(Fn:Func)(C:Code)(c:AC):Prop:=
 ∀ (n:Nat),(∀k,k<=n->nL P (ev fns k).code/\kD P (ev fns k).call)->∀ (A:bO) (S:St) (o:Out) (d:bO) (S':St),A.inr=false->(ev fns n).code c A S=some (o,d,S')->(∀i,o≠ .exit i)->
  ∀ (σ0 σ:Env) (S0:St) (w0 w:World) (a:Act) (R:Ending->World->Prop),a.tmps.size=Fn.ntmps->a.defers= []->qR P σ A.F a.tmps->jJ P σ0 S0 w0 σ S w->w0.heap.size<=w.heap.size->
   (∀σ' b w',qR P σ' d.F b->jJ P σ0 S0 w0 σ' S' w'->∃V,(Go.results Fn b).run P w'= .ok V w'/\R (.returned V) w')->
   C.wpIn (Fw none) 0 P (bodyPostM Fence.wide 0 P Fn R) a w
def aVs(P:Program)(fns:T fD)(id:Nat)(fn:fD):Prop:=
 ∃Fn C rs c,P.funcs[id]? =some Fn/\Fn.body=some C/\¬ (Fn.name== "runtime.NumGoroutine")=true/\aGP P Fn.results.toList=some rs/\fn=⟨Fn.ntmps,rs,c⟩/\aTq P fns Fn C c
structure aKU(P:Program)(fns:T fD)(id:Nat)(fn:fD):Prop where
 none:fn.ntmps=0
 has:∃Fn C,P.funcs[id]? =some Fn/\Fn.body=some C/\¬ (Fn.name== "runtime.NumGoroutine")=true
 ok:∀ (n:Nat) (S S':St) (v:AV),vY fn [] (ev fns n) S=some (v,S')->∀ (σ:Env) (w:World) (fv:Value),Rv P σ (.fn id [] []) fv->mR P σ S w->
  sC P (fun V w'=>∃σ',Rv P σ' v V/\jJ P σ S w σ' S' w') ((do let d <-Deferred.ofValue fv ⟨[]⟩;invoke d.target d.args:Sem Next).run P w)
structure qW(P:Program)(fns:T fD):Prop where
 asked:aAn P
 bits:oO P
 fn:∀id fn,fns.get id=some fn->(∃Fn,P.funcs[id]? =some Fn/\cFn P Fn=some fn)\/aKU P fns id fn\/aVs P fns id fn
 drawn:∀call,kD P call->aF8 P call
def aEy(tmps:Array Value)(r:ResultVar):Sem Value:=
 match r with
 | .tmp t=>pure (tmps.getD t undef)
 | .cell a t=>do loadVar t (<-asAddr (tmps.getD a undef))
def nP{σ:Env}{S:St}{w:World}(o:mR P σ S w){F:Fr}{tmps:Array Value}(k:qR P σ F tmps):∀ {l:List ResultVar} {d:List RV} {vs:bu},aGP P l=some d->results d F S.h=some vs->
  ∃f,(l.mapM (aEy tmps)).run P w= .ok f w/\jG P σ vs f
 | [],d,vs,c,h=>by
  simp only[aGP,Ay] at c;subst c;simp only[results,Ay] at h;subst h;exact⟨[],rfl,dS.2 rfl⟩
 | .tmp t::l,d,vs,c,h=>by
  simp only[aGP,Bc] at c;obtain⟨g,c,rfl⟩:=c;simp only[results] at h;have⟨p,q,r⟩:=aO h;cases r;have⟨f,s,u⟩:=nP o k c q;refine⟨tmps.getD t undef::f,?_,dL.2 ⟨_,_,rfl,k.get t,u⟩⟩;have e:(aEy tmps (.tmp t)).run P w= .ok (tmps.getD t undef) w:=rfl;rw[List.mapM_cons];simp only[Sem.run_bind,e,Sem.run_pure,Result.andThen_ok,s]
 | .cell a t::l,d,vs,c,h=>by
  simp only[aGP] at c;split at c
  .rename_i agg n g x y;cases c;simp only[results] at h;have⟨v,m,h⟩:=aO h;have⟨p,q,r⟩:=aO h;cases r;have⟨f,s,u⟩:=nP o k y q;have i:=k.get a;unfold aTm at m;split at m
   .rename_i b off z;rw[z] at i;simp only[Rv] at i;have⟨L,A,i⟩:=i;have⟨E,V,j,B,C⟩:=aC1 x o m;rw[A] at j;cases j;refine⟨V::f,?_,dL.2 ⟨_,_,rfl,C,u⟩⟩;have e:(aEy tmps (.cell a t)).run P w= .ok V w:=by simp [aEy,i,asAddr,B]
    rw[List.mapM_cons];simp only[Sem.run_bind,e,Sem.run_pure,Result.andThen_ok,s]
   .cases m
  .cases c
def yB{vs:bu}{a:List Value}(h:jG P σ vs a):Rv P σ (oneOf vs) (if h:a.toArray.size=1 then a.toArray[0] else .tuple a.toArray):=by
 cases vs with
 | nil=>
  rw[dS] at h;subst h;simp only[oneOf,Rv];exact⟨[],rfl,dS.2 rfl⟩
 | cons v vs=>
  cases vs with
  | nil=>
   rw[dL] at h;obtain⟨V,e,rfl,c,b⟩:=h;rw[dS] at b;subst b;simpa [oneOf] using c
  | cons u f=>
   have d:=h.length;rw[dif_neg (by simp;simp at d;omega)];simp only[oneOf,Rv];exact⟨a,rfl,h⟩
def aE1:∀ (vs:bu) (i:Nat) (F:Fr) (t:Nat),aA t (sN vs i F)=if i<=t/\t<i+vs.length then(vs[t - i]?).getD .undef else aA t F
 | [],i,F,t=>by rw[if_neg (by simp)];rfl
 | v::vs,i,F,t=>by
  simp only[sN];rw[aE1 vs (i+1) _ t,yT];by_cases a:t=i
  .subst a;rw[if_neg au,if_pos rfl,if_pos (by simp)];simp
  .by_cases b:i+1<=t/\t<i+1+vs.length
   .rw[if_pos b,if_pos (by simp;omega),show t - i=(t - (i+1))+1 by omega];simp
   .rw[if_neg b,if_neg a,if_neg (by simp;omega)]
def aAY(h:jG P σ args Args)(e:args.length<=nt):
  qR P σ (sN args 0 .e) ((⟨Args⟩:Array Value)++Array.replicate (nt - Args.length) undef)/\((⟨Args⟩:Array Value)++Array.replicate (nt - Args.length) undef).size=nt:=by
 have f:=h.length;have a:Rv P σ .undef undef:=by simp only[AV.undef,undef,Rv];exact⟨[],rfl,dS.2 rfl⟩
 refine⟨⟨fun t=>?_⟩,by simp;omega⟩;rw[aE1];by_cases b:t<args.length
 .rw[if_pos ⟨Ct _,au⟩,Ew,Ab b];have⟨V,c,d⟩:=h.get (Ab b);rw[Bp,Array.getElem?_append_left (by simp;omega)];simp only[List.getElem?_toArray,c,Ea];exact d
 .rw[if_neg au];have:((⟨Args⟩:Array Value)++Array.replicate (nt - Args.length) undef).getD t undef=undef:=by
   rw[Bp,Array.getElem?_append_right (by simp;omega)];simp only[Array.getElem?_replicate];split<;>rfl
  rw[this];exact a
def aDs:Fw none=Fence.wide:=rfl
def aPE(l:Nat):Fw (some l)=Fence.wide.inRound l:=rfl
def tV{o:Obj}(o':Obj)(h:w.heap[r]? =some o):({w with heap:=w.heap.setIfInBounds r o'}:World).heap[r]? =some o':=by
 have:=(Fb.1 h).1;simp [this]
def lT{a:Nat}(b:Obj)(h:a≠r):({w with heap:=w.heap.setIfInBounds r b}:World).heap[a]? =w.heap[a]? :=by
 simp [Ch h]
def run_getLoop{a:Loop}(h:w.heap[r]? =some (.loop a)):(Instr.getLoop r).run P w= .ok a w:=by
 simp [Instr.getLoop,aAH h (fun _ _ _ e=>by cases e)]
def jJ.poke{σ0:Env}{S0:St}{w0:World}(h:jJ P σ0 S0 w0 σ S w)(m:w0.heap.size<=r)(off:∀b bl L,S.h.get b=some bl->σ b=some L->L.r≠r)
  (e:∀a,a≠r->w'.heap[a]? =w.heap[a]?) (d:w'.heap.size=w.heap.size) (i:w'.os=w.os) (j:w'.tape=w.tape) (k:w'.output=w.output):jJ P σ0 S0 w0 σ S w' where
 rep:=⟨fun b bl f=>by
  have⟨L,c,g,l⟩:=h.rep.blk b bl f;exact⟨L,c,au,l.frame (fun _ _ x=>x) (e _ (off b bl L f c))⟩,h.rep.lt,h.rep.fresh,h.rep.glob,h.rep.inj⟩
 low:=h.low
 nx:=h.nx
 keep:=fun a c g=>by rw[e a au];exact h.keep a c g
 own:=h.own
 size:=by rw[d];exact h.size
 os:=i.trans h.os
 tape:=j.trans h.tape
 output:=k.trans h.output
 ro:=h.ro
def leaves{fn:Func}{n:Nat}{tmps:Array Value}{R:Ending->World->Prop}{σ0 σ:Env}{S0 S:St}{w0:World}:∀ (a:cd) (w:World),a.Nodup->(∀r∈a,Mark w0.heap.size σ S w r)->jJ P σ0 S0 w0 σ S w->
  (∀w',jJ P σ0 S0 w0 σ S w'->∃v,(Go.results fn tmps).run P w'= .ok v w'/\R (.returned v) w')->LeavesInM Fence.wide n P fn tmps R (a.map aCD) .returning w
 | [],w,_,_,f,g=>g w f
 | r::a,w,i,l,f,g=>by
  have c:=l r (by simp);rw[List.nodup_cons] at i;refine⟨by simp,.inl ⟨r,{w with heap:=w.heap.setIfInBounds r (.deferred none)},rfl,?_,?_⟩⟩
  .simp only[Instr.takeDeferred,Sem.run_bind,aAH c.cell (fun _ _ _ e=>by cases e),Result.andThen_ok,pU c.cell (fun _ _ _ e=>by cases e),Sem.run_pure]
  .refine leaves a _ i.2 (fun j b=>?_) (f.poke c.low c.off (fun j h=>lT _ h) (by simp) rfl rfl rfl) g;have d:=l j (by simp [b]);have k:j≠r:=fun e=>i.1 (e ▸ b);exact⟨d.low,by simpa using d.lt,by rw[lT _ k];exact d.cell,d.off⟩
theorem lG{id:Nat}{Fn:Func}{C:Code}{A B:List Value}(hFn:P.funcs[id]? =some Fn)(hbody:Fn.body=some C)(hname:¬ (Fn.name== "runtime.NumGoroutine")=true):
  ((do let d <-Deferred.ofValue (.func (.func id) ⟨A⟩ ⟨B⟩) ⟨Args⟩;invoke d.target d.args:Sem Next)).run P w= .ok (.enter id ⟨A++(Args++B)⟩) w:=by
 simp only[Deferred.ofValue,Sem.run_bind,Sem.run_pure,Result.andThen_ok,invoke,callFunc,run_program,hFn];rw[if_neg hname];simp [hbody]
theorem aE4{Fn:Func}{fn:fD}(hc:cFn P Fn=some fn):∃C c rs,Fn.body=some C/\¬ (Fn.name== "runtime.NumGoroutine")=true/\jU P Fn.ntmps C=some c/\aGP P Fn.results.toList=some rs/\fn=⟨Fn.ntmps,rs,c⟩:=by
 unfold cFn at hc;rw[Bq] at hc;split at hc
 ·cases hc
 ·rename_i hname;split at hc
  ·rename_i C hbody;split at hc
   ·rename_i c rs hC hrs;cases hc;exact⟨C,c,rs,hbody,hname,hC,hrs,rfl⟩
   ·cases hc
  ·cases hc
def xE{σ:Env}:∀ {ps:cd} {args:bu} {Args:List Value} {F F':Fr} {tmps:Array Value},pK ps args F=some F'->jG P σ args Args->qR P σ F tmps->(∀p∈ps,p<tmps.size)->
  args.length=ps.length/\qR P σ F' ((ps.zip Args).foldl (fun tmps (t,a)=>tmps.setIfInBounds t a) tmps)/\((ps.zip Args).foldl (fun tmps (t,a)=>tmps.setIfInBounds t a) tmps).size=tmps.size
 | [],[],Args,F,F',tmps,h,b,c,_=>by
  simp only[pK,Ay] at h;subst h;exact⟨rfl,by simpa using c,by simp⟩
 | [],_::_,Args,F,F',tmps,h,b,c,_=>by simp [pK] at h
 | _::_,[],Args,F,F',tmps,h,b,c,_=>by simp [pK] at h
 | p::ps,v::vs,Args,F,F',tmps,h,b,c,g=>by
  rw[dL] at b;obtain⟨V,n,rfl,i,b⟩:=b;simp only[pK] at h;have d:=g p (by simp);have e:qR P σ (F.set p (some v)) (tmps.setIfInBounds p V):=⟨fun t=>by
   rw[yT];by_cases f:t=p
   .subst f;rw[if_pos rfl,Bp,Array.getElem?_setIfInBounds_self_of_lt d];exact i
   .rw[if_neg f,Bp,Array.getElem?_setIfInBounds_ne (Ch f),<-Bp];exact c.get t⟩
  have⟨j,k,l⟩:=xE h b e (fun q m=>by simpa using g q (by simp [m]));exact⟨by simp [j],by simpa using k,by simpa using l⟩
def aID{ih:Evs}(d:nL P ih.code){bl:AB}{b:Nat}{v:AV}(hb:S.h.get b=some bl)(h:aAL bl b args ih S=some (v,S')){L:Loc}
  (hL:σ b=some L) (f:jG P σ args Args) (hR:mR P σ S w):
  sC P (fun V w'=>∃σ',Rv P σ' v V/\jJ P σ S w σ' S' w') ((Instr.yield L.r ⟨Args⟩).run P w):=by
 cases bl<;>simp only[aAL,reduceCtorEq] at h;rename_i st pend fr ps as bd;cases st<;>simp only[reduceCtorEq] at h;have⟨F,hF,h⟩:=aO h;have⟨⟨o1,x,S1⟩,h1,h⟩:=aO h;have⟨L',y,b0,c,aI,b1,aV,aZ,z,has,a0,a4⟩:=hR.blk b _ hb;rw[hL] at y;cases y;have⟨bV,A,a5⟩:=xE hF f aZ a4;have b2:=f.length;have b3:c.params.size=ps.length:=by rw[<-z];simp
 have B:(Instr.yield L.r ⟨Args⟩).run P w= .ok (.round L.r c.fn ((ps.zip Args).foldl (fun tmps (t,a)=>tmps.setIfInBounds t a) c.tmps) c.assign c.body) w:=by
  have C:(⟨Args⟩:Array Value).size=c.params.size:=by simp;omega
  have o:(c.params.zip ⟨Args⟩).foldl (fun tmps (t,a)=>tmps.setIfInBounds t a) c.tmps=(ps.zip Args).foldl (fun tmps (t,a)=>tmps.setIfInBounds t a) c.tmps:=by
   rw[<-Array.foldl_toList,Array.toList_zip,z]
  simp only[Instr.yield,Sem.run_bind,run_getLoop aI,Result.andThen_ok,C,ne_eq,Dd,Eh,Sem.run_pure,o]
 rw[B];show RoundIn Fence.wide 0 P L.r c.fn _ c.assign c.body w _;refine roundIn_of_wpIn trivial ?_;rw[<-aPE];refine d (some L.r) 0 c.tmps.size c.assign as has ⟨F,true⟩ S o1 x S1 (nofun) h1 [] w.heap.size σ {tmps:=(ps.zip Args).foldl (fun tmps (t,a)=>tmps.setIfInBounds t a) c.tmps,defers:=[]} w _ a5 Df.nil (Af _) A hR ?_;intro l a1 q i1 s1 d1 _ f1 u;cases o1<;>simp only[aDk,reduceCtorEq] at h;have⟨ba,E,h⟩:=aO h;cases ba<;>simp only[tK,reduceCtorEq] at h;rename_i be g G H I J;cases be<;>simp only[reduceCtorEq] at h;have⟨⟨o2,A2,S2⟩,h2,h⟩:=aO h;have⟨bj,K,h⟩:=aO h;have⟨L1,M,bW,N,i,O,m,Q,R,T,U,W⟩:=u.rep.blk b _ E;have:=u.mono hR b L hL;rw[this] at M;cases M;have X:(Instr.beginRound L.r).run P q= .ok () {q with heap:=q.heap.setIfInBounds L.r (.loop {N with state:=.busy})}:=by
  simp only[Instr.beginRound,Sem.run_bind,run_getLoop i,Result.andThen_ok,pU i (fun _ _ _ e=>by cases e),O,aOZ,Sem.run_pure]
 refine⟨_,X,?_⟩;have e2:jJ P l S1 q l ⟨S1.h.set b (some (.loop .busy g G H I J)),S1.nx⟩ {q with heap:=q.heap.setIfInBounds L.r (.loop {N with state:=.busy})}:=
  jJ.write u.rep E trivial trivial this (fun r hr=>lT _ hr) (by simp) rfl rfl rfl ⟨_,tV _ i,rfl,m,Q,R,T,U,W⟩
 have bk:x.inr=true:=i1;have bm:ih.code bd x ⟨S1.h.set b (some (.loop .busy g G H I J)),S1.nx⟩=some (o2,A2,S2):=h2;have bp:Df [] w.heap.size x.inr l S1 q a1.defers:=by rw[i1];exact d1
 refine d (some L.r) 0 c.tmps.size c.body bd a0 x _ o2 A2 S2 (fun h=>by rw[bk] at h;cases h) bm [] w.heap.size l a1 _ _ s1 (bp.ext u.rep e2) (by have:=u.size;simpa using this) f1 e2.rep ?_;intro bq a2 w2 i2 s2 d2 _ f2 e3;cases bj<;>simp only[uG,reduceCtorEq] at h;rename_i bs bv bw bx bz bA;cases bs<;>simp only[reduceCtorEq] at h;have⟨L2,Y,bY,bC,k,bZ,aw,Z,aa,ab,ac,an⟩:=e3.rep.blk b _ K;have n:=e3.mono e2.rep b L this;rw[n] at Y;cases Y;have s:∀ (p:Option Out) (st:LSt) (j:Option Code) (bb:Bool),aOZ st=(if j.isNone then .ready else .done)->p.bind codeOf=j->bb=j.isNone->v= .bool bb->
   S'=⟨S2.h.set b (some (.loop st p bw bx bz bA)),S2.nx⟩->∃V w',(Instr.endRound L.r j).run P w2= .ok V w'/\∃σ',Rv P σ' v V/\jJ P σ S w σ' S' w':=by
  intro p st j bb bI bM bP bR bU;have ao:(Instr.endRound L.r j).run P w2= .ok (.bool j.isNone) {w2 with heap:=w2.heap.setIfInBounds L.r (.loop {bC with state:=if j.isNone then .ready else .done,pending:=j})}:=by
   simp only[Instr.endRound,Sem.run_bind,run_getLoop k,Result.andThen_ok,pU k (fun _ _ _ e=>by cases e),Sem.run_pure]
  refine⟨_,_,ao,bq,by rw[bR,bP];simp only[Rv],?_⟩;rw[bU];exact u.trans (e2.trans (e3.trans (jJ.write e3.rep K trivial trivial n (fun r hr=>lT _ hr) (by simp) rfl rfl rfl ⟨_,tV _ k,bI.symm,bM.symm,Z,aa,ab,ac,an⟩)))
 cases o2 with
 | normal=>cases h;exact s none .ready none true rfl rfl rfl rfl rfl
 | ret=>cases h;exact s (some .ret) .done (some .ret) false rfl rfl rfl rfl rfl
 | exit id=>cases h;exact s (some (.exit id)) .done (some (.exit id)) false rfl rfl rfl rfl rfl
def aJn(hK:qW P fns)(hs:∀k,k<=n->nL P (ev fns k).code/\kD P (ev fns k).call):kD P (xG fns (ev fns n)):=by
 have p:=(hs n (Af n)).1;intro f args S v S' h σ w fv Args x j W;cases f<;>simp only[xG,reduceCtorEq] at h
 .rename_i id first cap;have⟨fn,X,h⟩:=aO h;rcases hK.fn id fn X with⟨Fn,q,hc⟩|I|y
  case inr.inl=>
   have⟨a,_⟩:=cH (show bX (Nat.ble (mF (yQ first (yQ args cap))) fn.ntmps) _ _=_ from h);rw[I.none,gJ,fT,fT] at a;have hz:=Bd a;simp only[Ai] at hz;have z:first= []:=Bj.1 au;have m:args= []:=Bj.1 au;have h3:cap= []:=Bj.1 au;subst z;subst m;subst h3;have J:=dS.1 j;subst J;exact I.ok n S S' v h σ w fv x W
  case inr.inr=>
   obtain⟨Fn,C,Y,c,q,g,l,E,rfl,hD⟩:=y;simp only[Rv] at x;obtain⟨A,B,rfl,J,Z⟩:=x;unfold vY at h;have⟨a,h⟩:=cH h;have⟨⟨o,K,S1⟩,z,m⟩:=aO h;rw[gJ,fT,fT] at a;have a:=Bd a;rw[fT,fT] at z;have r:jG P σ (first++(args++cap)) (A++(Args++B)):=J.append (j.append Z);rw[lG q g l];show CallsIn Fence.wide 0 P id ⟨A++(Args++B)⟩ w _;have⟨F,G⟩:=aAY r (nt:=Fn.ntmps) a;refine callsIn_of_wp_marks q g trivial ?_;have s:(⟨A++(Args++B)⟩:Array Value).size=(A++(Args++B)).length:=rfl;rw[<-aDs,s];unfold aDY at m;obtain⟨vs,h6,h7⟩:∃vs,results Y K.F S1.h=some vs/\some (oneOf vs,S1)=some (v,S'):=by
    cases o with
    | normal=>exact aO m
    | ret=>exact aO m
    | exit i=>cases m
   cases h7;refine hD n hs ⟨sN (first++(args++cap)) 0 .e,false⟩ S o K _ rfl z (fun i e=>by subst e;cases m) σ σ S w w _ _ G rfl F (jJ.refl W) (Af _) ?_;intro σ' H w' t M;have⟨Vs,h8,h9⟩:=nP M.rep t E h6;refine⟨_,?_,σ',yB h9,M⟩;show((do let vs <-Fn.results.mapM (aEy H);pure (if h:vs.size=1 then vs[0] else .tuple vs):Sem Value)).run P w'=_;rw[Fd];simp only[Sem.run_bind,Sem.run_map,h8,Result.andThen_ok,Sem.run_pure]
  simp only[Rv] at x;obtain⟨A,B,rfl,J,Z⟩:=x;obtain⟨C,c,Y,g,l,hC,E,rfl⟩:=aE4 hc;unfold vY at h;have⟨a,h⟩:=cH h;have⟨⟨o,K,S1⟩,z,m⟩:=aO h;rw[gJ,fT,fT] at a;have a:=Bd a;rw[fT,fT] at z;have r:jG P σ (first++(args++cap)) (A++(Args++B)):=J.append (j.append Z);rw[lG q g l];show CallsIn Fence.wide 0 P id ⟨A++(Args++B)⟩ w _;have⟨F,G⟩:=aAY r (nt:=Fn.ntmps) a;refine callsIn_of_wp_marks q g trivial ?_;have s:(⟨A++(Args++B)⟩:Array Value).size=(A++(Args++B)).length:=rfl;rw[<-aDs,s];refine p none 0 Fn.ntmps C c hC ⟨sN (first++(args++cap)) 0 .e,false⟩ S o K S1 (fun _=>rfl) z [] w.heap.size σ _ w _ G Df.nil (Af _) F W ?_;intro σ' a' w' aa ab y _ t u;have⟨_,N,hd,O,Q⟩:=y;rw[Bs] at hd;unfold aDY at m;obtain⟨vs,h6,h7⟩:∃vs,results Y K.F S1.h=some vs/\some (oneOf vs,S1)=some (v,S'):=by
   cases o with
   | normal=>exact aO m
   | ret=>exact aO m
   | exit i=>cases m
  cases h7;have R:∀w'',jJ P σ S w σ' S' w''->∃V,(Go.results Fn a'.tmps).run P w''= .ok V w''/\∃σ',Rv P σ' (oneOf vs) V/\jJ P σ S w σ' S' w'':=fun w'' M=>by
   have⟨Vs,h8,h9⟩:=nP M.rep t E h6;refine⟨_,?_,σ',yB h9,M⟩;show((do let vs <-Fn.results.mapM (aEy a'.tmps);pure (if h:vs.size=1 then vs[0] else .tuple vs):Sem Value)).run P w''=_;rw[Fd];simp only[Sem.run_bind,Sem.run_map,h8,Result.andThen_ok,Sem.run_pure]
  cases o with
  | normal=>
   show LeavesInM Fence.wide 0 P Fn a'.tmps _ a'.defers .returning w';rw[hd];exact leaves N w' O Q u R
  | ret=>
   show LeavesInM Fence.wide 0 P Fn a'.tmps _ a'.defers .returning w';rw[hd];exact leaves N w' O Q u R
  | exit i=>cases m
 .rename_i b;have⟨bl,hb,h⟩:=aO h;simp only[Rv] at x;obtain⟨L,hL,rfl⟩:=x;have U:((do let d <-Deferred.ofValue (.func (.yield L.r) #[] #[]) ⟨Args⟩;invoke d.target d.args:Sem Next)).run P w=(Instr.yield L.r ⟨Args⟩).run P w:=by
   simp [Deferred.ofValue,invoke]
  rw[U];exact aID p hb h hL j W
def aD9{fns:T fD}{ro:Option Nat}{m nt:Nat}{C:Code}{c:AC}(v:jU P nt C=some c):∀ (n:Nat),(∀k,k<n->nL P (ev fns k).code)->
  ∀ (A:bO) (S:St) (o:Out) (b:bO) (S':St),(A.inr=false->ro=none)->(ev fns n).code (.loop c) A S=some (o,b,S')->
  ∀ (e:List Deferred) (lo:Nat) (σ:Env) (a:Act) (w:World) (Q:Exit->Act->World->Prop),a.tmps.size=nt->Df e lo A.inr σ S w a.defers->lo<=w.heap.size->qR P σ A.F a.tmps->mR P σ S w->
   (∀σ' a' w',b.inr=A.inr->a'.tmps.size=nt->Df e lo A.inr σ' S' w' a'.defers->(aCT c=true->a'.defers=a.defers)->qR P σ' b.F a'.tmps->jJ P σ S w σ' S' w'->Q (aGZ o) a' w')->Code.roundsIn (Fw ro) m P C Q n a w
 | 0,_,A,S,o,b,S',_,h=>by cases h
 | n+1,x,A,S,o,b,S',f,h=>by
  intro e lo σ a w Q q g j G H r;have⟨⟨y,z,S1⟩,I,p⟩:=aO (show(bD ((ev fns n).code c A S) (uQ (.loop c) (ev fns n)))=some (o,b,S') from h);show C.wpIn (Fw ro) m P (Exit.then (Code.roundsIn (Fw ro) m P C Q n) Q) a w;refine x n (Dm n) ro m nt C c v A S y z S1 f I e lo σ a w _ q g j G H ?_;intro d s t B s1 d1 u f1 l;have⟨J,E⟩:=z;simp only at B;subst B;have K:=Aq j l.size;unfold uQ at p;cases y with
  | normal=>exact aD9 v n (fun k L=>x k au) ⟨J,A.inr⟩ S1 o b S' f p e lo d s t Q s1 d1 K f1 l.rep (fun σ' a' w' E M N O R U=>r σ' a' w' E M N (fun F=>(O F).trans (u F)) R (l.trans U))
  | exit i=>cases p;exact r d s t rfl s1 d1 u f1 l
  | ret=>cases p;exact r d s t rfl s1 d1 u f1 l
theorem aLT(hK:qW P fns)(ih:nL P (ev fns n).code)(hcall:kD P (ev fns n).call)(_:∀k,n=k+1->nL P (ev fns k).code){ro:Option Nat}{m:Nat}
  {f:Operand} {ps:Array Tmp} {x y:Code} {cf:cQ} {cx cy:AC} (hf:jC P f=some cf) (hx:jU P nt x=some cx) (hy:jU P nt y=some cy) (hps:ps.toList.all (fun p=>Nat.blt p nt)=true)
  {A A':bO} {S S':St} {o:Out} (hro:A.inr=false->ro=none) (h:(ev fns (n+1)).code (.rng cf ps.toList cx cy) A S=some (o,A',S'))
  {D0:List Deferred} {lo:Nat} {σ:Env} {a:Act} {w:World} {Q:Exit->Act->World->Prop} (hsz:a.tmps.size=nt) (hdef:Df D0 lo A.inr σ S w a.defers) (hlo:lo<=w.heap.size) (hF:qR P σ A.F a.tmps) (hR:mR P σ S w)
  (hQ:∀σ' a' w',A'.inr=A.inr->a'.tmps.size=nt->Df D0 lo A.inr σ' S' w' a'.defers->qR P σ' A'.F a'.tmps->jJ P σ S w σ' S' w'->Q (aGZ o) a' w'):(Code.rangeFunc f ps x y).wpIn (Fw ro) m P Q a w:=by
 have h:bX A.inr none (bX (aN8 (cf.val A.F))
  (bD ((ev fns n).call (cf.val A.F) [.yld S.nx] ⟨S.h.set S.nx (some (.loop .ready none A.F ps.toList cx cy)),Nat.succ S.nx⟩) fun r=>
   bD (r.2.h.get S.nx) fun bl=>aCj bl S.nx A r.2 (ev fns n)) none)=some (o,A',S'):=h
 cases hinr:A.inr with
 | true=>rw[hinr,aL] at h;cases h
 | false=>
  rw[hinr,aR] at h;have:=hro hinr;subst this;have⟨hfn,h⟩:=cH h;have⟨⟨v1,S1⟩,h1,h⟩:=aO h;have⟨bl,hbl,h⟩:=aO h;simp only at hbl h;have hfv:=cO (a:=a) hF hR hf;cases hcf:cf.val A.F<;>rw[hcf] at hfn<;>simp only[aN8,Bf] at hfn;rename_i id first cap;rw[hcf] at hfv h1;have hfv':=hfv;simp only[Rv] at hfv;have⟨FA,FB,hev,hA,hB⟩:=hfv;have hent:∃Fn C,P.funcs[id]? =some Fn/\Fn.body=some C/\¬ (Fn.name== "runtime.NumGoroutine")=true:=by
   cases n with
   | zero=>cases h1
   | succ k=>
    have h1':xG fns (ev fns k) (.fn id first cap) [.yld S.nx] _=some (v1,S1):=h1;simp only[xG] at h1';have⟨fn,hfn',_⟩:=aO h1';rcases hK.fn id fn hfn' with⟨Fn,hFn,hc⟩ | hfk | ⟨Fn,C,_,_,hFn,hbody,hname,_⟩
    ·have⟨C,c,rs,hbody,hname,_⟩:=aE4 hc;exact⟨Fn,C,hFn,hbody,hname⟩
    ·exact hfk.has
    ·exact⟨Fn,C,hFn,hbody,hname⟩
  have⟨Fn,C,hFn,hbody,hname⟩:=hent;rw[aDs];refine wpIn_rangeFunc fun fnid _=>?_;have ep:jJ P σ S w σ S (w.alloc (.deferred (some []))):=by
   have hpush:∀r,r<w.heap.size->(w.alloc (.deferred (some []))).heap[r]? =w.heap[r]? :=fun r hr=>by
    show(w.heap.push _)[r]? =_;rw[Array.getElem?_push,if_neg au]
   have hsize:(w.alloc (.deferred (some []))).heap.size=w.heap.size+1:=by show(w.heap.push _).size=_;simp
   exact⟨⟨fun b bl hb=>by
    have⟨L,q1,q2,q3⟩:=hR.blk b bl hb;exact⟨L,q1,au,q3.frame (fun _ _ x=>x) (hpush _ q2)⟩,hR.lt,hR.fresh,hR.glob,hR.inj⟩,fun _ _=>rfl,Af _,fun r hr _=>hpush r hr,fun _ ho=>.inl ho,au,rfl,rfl,rfl,fun _ _ hb=>hb⟩
  have hsize1:(w.alloc (.deferred (some []))).heap.size=w.heap.size+1:=by show(w.heap.push _).size=_;simp
  have hmk:Mark lo σ S (w.alloc (.deferred (some []))) w.heap.size:=by
   refine⟨hlo,au,?_,fun b bl L hb hL he=>?_⟩
   ·show(w.heap.push _)[w.heap.size]? =_;simp
   ·have⟨L',q1,q2,_⟩:=hR.blk b bl hb;rw[hL] at q1;cases q1;omega
  let lp:Loop:={state:=.ready,pending:=none,fn:=fnid,tmps:=a.tmps,params:=ps,assign:=x,body:=y,defers:=w.heap.size}
  have ea:jJ P σ S (w.alloc (.deferred (some []))) (upd σ S.nx ⟨w.heap.size+1,0,0⟩) ⟨S.h.set S.nx (some (.loop .ready none A.F ps.toList cx cy)),Nat.succ S.nx⟩ ((w.alloc (.deferred (some []))).alloc (.loop lp)):=by
   have:=jJ.alloc (P:=P) (bl:=.loop .ready none A.F ps.toList cx cy) (e:=0) (ob:=.loop lp) ep.rep (w':=(w.alloc (.deferred (some []))).alloc (.loop lp)) rfl rfl rfl rfl;rw[hsize1] at this;refine this ?_ trivial;refine⟨lp,?_,rfl,rfl,hF.mono (iI (hR.fresh _ (Af _))),rfl,by rw[<-hsz] at hx;exact hx,by rw[<-hsz] at hy;exact hy,fun p hp=>?_⟩
   ·show((w.alloc (.deferred (some []))).heap.push (.loop lp))[w.heap.size+1]? =some (.loop lp);rw[<-hsize1,Array.getElem?_push_size]
   ·have:=Dq.1 hps p hp;have:=Bd (show Nat.ble (p+1) nt=true from this);show p<a.tmps.size;omega
  have hsl:upd σ S.nx ⟨w.heap.size+1,0,0⟩ S.nx=some ⟨w.heap.size+1,0,0⟩:=upd_same _ _;have e2:=ep.trans ea;have hnext:=hcall (.fn id first cap) [.yld S.nx] _ v1 S1 h1 _ _ (.func (.func id) ⟨FA⟩ ⟨FB⟩) [.func (.yield (w.heap.size+1)) #[] #[]]
   (by rw[hev] at hfv';exact hfv'.mono (e2.mono hR)) (dL.2 ⟨_,_,rfl,by simp only[Rv];exact⟨_,hsl,rfl⟩,dS.2 rfl⟩) e2.rep
  rw[lG hFn hbody hname] at hnext;have hnext:CallsIn Fence.wide 0 P id _ _ _:=hnext;refine⟨w.heap.size+1,[aCD w.heap.size],(w.alloc (.deferred (some []))).alloc (.loop lp),{target:=.fn (.func id) ⟨FB⟩,args:=⟨FA⟩++ #[.func (.yield (w.heap.size+1)) #[] #[]]},(w.alloc (.deferred (some []))).alloc (.loop lp),id,
   ⟨FA++([.func (.yield (w.heap.size+1)) #[] #[]]++FB)⟩,(w.alloc (.deferred (some []))).alloc (.loop lp),?_,?_,fun _ _=>trivial,?_,fun hd=>by simp [Fence.wide] at hd,?_⟩
  ·have n1:∀ (o:Obj) (w:World),(newObj o).run P w= .ok w.heap.size (w.alloc o):=fun _ _=>rfl;simp only[Instr.enterLoop,Fence.wide,Sem.run_bind,n1,Result.andThen_ok,Sem.run_pure,hsize1];rfl
  ·show(Deferred.ofValue (a.eval f) _).run P _=_;rw[hev];simp [Deferred.ofValue,rangeCall,Act.eval]
  ·have:=lG (P:=P) (A:=FA) (B:=FB) (Args:=[.func (.yield (w.heap.size+1)) #[] #[]]) (w:=(w.alloc (.deferred (some []))).alloc (.loop lp)) hFn hbody hname;simpa [Deferred.ofValue] using this
  ·refine aC6 (ro:=none) (CallsIn.mono hnext fun e w3 he=>?_);cases e with
   | returned V=>
    have⟨σ3,_,e3⟩:=he;have e13:=e2.trans e3;unfold aCj at h;split at h
    ·rename_i st pend fr ps' as bd;have⟨L,hL,hlt,lp3,hlp3,hst,hpend,hfr,hps3,has,hbd,hpb⟩:=e3.rep.blk S.nx _ hbl;have hL':=e3.mono e2.rep _ _ hsl;rw[hL'] at hL;cases hL;have hnb:(lp3.state== .busy)=false:=by
      rw[hst];cases st<;>first | (simp at h;done) | rfl
     have hpost:∃c,aL2 pend=some c/\(ev fns n).code c A ⟨S1.h.set S.nx (some (.loop .exhausted pend fr ps' as bd)),S1.nx⟩=some (o,A',S'):=by
      cases st<;>first | (simp at h;done) | exact aO h
     have⟨c,hc,hcode⟩:=hpost;obtain⟨w4,hw4⟩:∃w4:World,w4= {w3 with heap:=w3.heap.setIfInBounds (w.heap.size+1) (.loop {lp3 with state:=.exhausted})}:=⟨_,rfl⟩;refine⟨lp3.pending,w4,?_,?_⟩
     ·rw[hw4];simp only[Instr.endLoop,Sem.run_bind,run_getLoop hlp3,Result.andThen_ok,hnb,Bf,Eh,pU hlp3 (fun _ _ _ e=>by cases e),Sem.run_pure]
     ·have e4:jJ P σ3 S1 w3 σ3 ⟨S1.h.set S.nx (some (.loop .exhausted pend fr ps' as bd)),S1.nx⟩ {w3 with heap:=w3.heap.setIfInBounds (w.heap.size+1) (.loop {lp3 with state:=.exhausted})}:=
       jJ.write e3.rep hbl trivial trivial hL' (fun r hr=>lT _ hr) (by simp) rfl rfl rfl ⟨_,tV _ hlp3,rfl,hpend,hfr,hps3,has,hbd,hpb⟩
      rw[<-hw4] at e4;have e14:=e13.trans e4;have hd4:Df D0 lo A.inr σ3 ⟨S1.h.set S.nx (some (.loop .exhausted pend fr ps' as bd)),S1.nx⟩ w4 ([aCD w.heap.size]++a.defers):=by
       have⟨_,rs,d1,d2,d3⟩:=hdef;refine⟨fun hh=>(by rw[hinr] at hh;cases hh),w.heap.size::rs,(by rw[d1];rfl),List.nodup_cons.2 ⟨fun hm=>?_,d2⟩,fun r hr=>?_⟩
       ·exact absurd (d3 _ hm).lt au
       ·rcases Bm.1 hr with rfl | hr
        ·exact(hmk.ext ep.rep (ea.trans (e3.trans e4)))
        ·exact(d3 r hr).ext hR e14
      have hfin:=ih none m nt;have hA4:qR P σ3 A.F a.tmps:=hF.mono (e14.mono hR);have hlo4:=Aq hlo e14.size;rw[hpend];cases pend with
      | none=>
       cases hc;cases n with
       | zero=>cases hcode
       | succ k=>
        cases hcode;exact hQ σ3 _ _ rfl hsz hd4 hA4 e14
      | some out=>
       cases out with
       | normal=>cases hc
       | ret=>
        cases hc;exact hfin .ret .ret rfl A _ o A' S' (fun _=>rfl) hcode D0 lo σ3 {a with defers:=[aCD w.heap.size]++a.defers} _ Q hsz hd4 hlo4 hA4 e4.rep (fun σ' a' w' q1 q2 q3 _ q4 q5=>hQ σ' a' w' q1 q2 q3 q4 (e14.trans q5))
       | exit i=>
        cases hc;exact hfin (.exit i) (.exit i) rfl A _ o A' S' (fun _=>rfl) hcode D0 lo σ3 {a with defers:=[aCD w.heap.size]++a.defers} _ Q hsz hd4 hlo4 hA4 e4.rep (fun σ' a' w' q1 q2 q3 _ q4 q5=>hQ σ' a' w' q1 q2 q3 q4 (e14.trans q5))
    ·cases h
   | _=>exact he.elim
def uH{a b:Bool}(h:(a && b)=true):a=true/\b=true:=by
 cases a<;>cases b<;>simp_all
def aMp(hK:qW P fns)(V:∀k,k<n+1->nL P (ev fns k).code)(B:kD P (ev fns n).call):nL P (ev fns (n+1)).code:=by
   have Z:=V n (Dm n);intro ro m nt C c b A S o N S' E h D0 lo σ a w Q g e p I F v;cases C with
   | skip=>
    cases b;cases h;exact wpIn_skip (v σ a w rfl g e (fun _=>rfl) I (jJ.refl F))
   | seq x y=>
    simp only[jU] at b;split at b
    .rename_i W cy O hy;cases b;have⟨⟨o1,A1,S1⟩,X,q⟩:=aO (show(bD ((ev fns n).code W A S) (uQ cy (ev fns n)))=some (o,N,S') from h);refine wpIn_seq (Z ro m nt x W O A S o1 A1 S1 E X D0 lo σ a w _ g e p I F ?_);intro u L M i1 s1 d1 U f1 J;have⟨F1,G⟩:=A1;simp only at i1;subst i1;have l1:=Aq p J.size;unfold uQ at q;cases o1 with
     | normal=>exact Z ro m nt y cy hy ⟨F1,A.inr⟩ S1 o N S' E q D0 lo u L M Q s1 d1 l1 f1 J.rep (fun σ' a' w' G K H qk Y q5=>v σ' a' w' G K H (fun R=>by have⟨u1,u2⟩:=uH R;exact(qk u2).trans (U u1)) Y (J.trans q5))
     | exit i=>cases q;exact v u L M rfl s1 d1 (fun R=>U (uH R).1) f1 J
     | ret=>cases q;exact v u L M rfl s1 d1 (fun R=>U (uH R).1) f1 J
    .cases b
   | cond x y z=>
    simp only[jU] at b;split at b
    .rename_i cc cy cz O hy hz;cases b;have h:aCF (cc.val A.F) cy cz (ev fns n) A S=some (o,N,S'):=h;have hv:=cO (a:=a) I F O;unfold aCF at h;split at h
     .rename_i t ht;rw[ht] at hv;simp only[Rv] at hv;refine wpIn_cond hv ?_;cases t
      .exact Z ro m nt z cz hz A S o N S' E h D0 lo σ a w Q g e p I F fun σ' a' w' G K H qk=>v σ' a' w' G K H fun R=>qk (uH R).2
      .exact Z ro m nt y cy hy A S o N S' E h D0 lo σ a w Q g e p I F fun σ' a' w' G K H qk=>v σ' a' w' G K H fun R=>qk (uH R).1
     .cases h
    .cases b
   | block id x=>
    simp only[jU,Bc] at b;obtain⟨W,O,rfl⟩:=b;have⟨⟨o1,A1,S1⟩,X,q⟩:=aO (show(bD ((ev fns n).code W A S) (uC id))=some (o,N,S') from h);refine wpIn_block (Z ro m nt x W O A S o1 A1 S1 E X D0 lo σ a w _ g e p I F ?_);intro u L M i1 s1 d1 U f1 J;have⟨F1,G⟩:=A1;simp only at i1;subst i1;have l1:=Aq p J.size;unfold uC at q;cases o1 with
    | normal=>cases q;exact v u L M rfl s1 d1 U f1 J
    | ret=>cases q;exact v u L M rfl s1 d1 U f1 J
    | exit i=>
     simp only at q;rw[cS] at q;show(if i=id then Q .normal L M else Q (.exit i) L M);split at q
     .rename_i he;rw[Bn] at he;rw[if_pos he];cases q;exact v u L M rfl s1 d1 U f1 J
     .rename_i he;rw[Bn] at he;rw[if_neg he];cases q;exact v u L M rfl s1 d1 U f1 J
   | loop x=>
    simp only[jU,Bc] at b;obtain⟨W,O,rfl⟩:=b;exact wpIn_loop_rounds (n+1) (aD9 O (n+1) V A S o N S' E h D0 lo σ a w Q g e p I F v)
   | exit id=>
    cases b;cases h;exact wpIn_exit (v σ a w rfl g e (fun _=>rfl) I (jJ.refl F))
   | ret=>
    cases b;cases h;exact wpIn_ret (v σ a w rfl g e (fun _=>rfl) I (jJ.refl F))
   | region id aa d=>
    simp only[jU,Bq] at b;split at b
    .rename_i hd;subst hd;obtain⟨aos,rfl⟩:∃aos,c= .drw aos:=by
      unfold aDG at b;split at b
      .rw[Bq] at b;split at b
       .cases b;exact⟨_,rfl⟩
       .cases b
      .cases b
     have⟨⟨F1,S1⟩,X,q⟩:=aO (show(bD (zE aos (ev fns n).call A.F S) fun r=>some (Out.normal,(⟨r.1,A.inr⟩:bO),r.2))=some (o,N,S') from h);cases q;exact hK.drawn _ B ro m nt id aa aos b σ A.F F1 S S1 a w Q g I F X (fun σ' a' w' G K H Y=>v σ' a' w' rfl K (by rw[H];exact e.ext F Y) (fun _=>H) G Y)
    .rename_i hd;have hd:d=false:=by simpa using hd
     subst hd;obtain⟨aos,ab,rfl⟩:=Bc.1 b;have⟨⟨F1,S1⟩,X,q⟩:=aO (show(bD (wR aos (ev fns n).call A.F S) fun r=>some (Out.normal,(⟨r.1,A.inr⟩:bO),r.2))=some (o,N,S') from h);cases q;refine wpIn_region ?_;rw[List.range_eq_range',<-Et];exact xV hK.asked hK.bits B aa.toList 0 [] aos σ A.F F1 S S1 a w (fun j _=>by simp) ab g I F X (fun σ' a' w' G K H Y=>v σ' a' w' rfl K (by rw[H];exact e.ext F Y) (fun _=>H) G Y)
   | rangeFunc f ps x y=>
    simp only[jU,Bq] at b;split at b
    .rename_i ac;split at b
     .rename_i cf W cy hf O hy;cases b;exact aLT hK Z B (fun k hk=>by subst hk;exact V k au) hf O hy ac E h g e p I F fun σ' a' w' G K H=>v σ' a' w' G K H nofun
     .cases b
    .cases b
   | scope x=>cases b
   | label l=>cases b
   | goto l=>cases b
   | refuse s=>cases b
def aQJ(b:qW P fns)(n:Nat):nL P (ev fns n).code/\kD P (ev fns n).call:=by
 induction n using Nat.strongRecOn with
 | _ n a=>
  cases n with
  | zero=>exact⟨(fun ro m nt C c g A S o i S' e h=>by cases h),(fun f args S v S' h=>by cases h)⟩
  | succ n=>exact⟨aMp b (fun k d=>(a k d).1) (a n (Dm n)).2,aJn b fun k d=>a k au⟩
def aEo(a:qW P fns)(n:Nat):nL P (ev fns n).code:=(aQJ a n).1
def aNa(a:qW P fns)(n:Nat):kD P (ev fns n).call:=(aQJ a n).2
end Go.Ev
namespace Go.Ev
variable {l:cd}{F F':Fr}{lo hi:Option cQ}
def Agree(l:cd)(F F':Fr):Prop:=∀t∈l,aA t F=aA t F'
def Agree.left{m:cd}(h:Agree (l++m) F F'):Agree l F F':=fun t a=>h t (Dc _ a)
def Agree.right{m:cd}(h:Agree (l++m) F F'):Agree m F F':=fun t a=>h t (Cq _ a)
def cE{x:cQ}(h:Agree x.rd F F'):x.val F=x.val F':=by
 cases x with
 | t i=>exact h i (by simp [cQ.rd])
 | c v=>rfl
def oI{F F':Fr}:∀ {a:List cQ},Agree (rds a) F F'->dV a F=dV a F'
 | [],_=>rfl
 | x::a,h=>by
  show x.val F::dV a F=x.val F'::dV a F';rw[cE h.left,oI h.right]
def oV{x:Option cQ}(d:Nat)(h:Agree (rdo x) F F'):jO F d x=jO F' d x:=by
 cases x with
 | none=>rfl
 | some x=>simp only[jO];rw[cE (show Agree x.rd F F' from h)]
def aBF{F F':Fr}:∀ {ps:List (Nat×Nat×cQ)},Agree (rdp ps) F F'->dN F ps=dN F' ps
 | [],_=>rfl
 | (a,b,x)::ps,h=>by
  simp only[dN];rw[cE h.left,aBF h.right]
def aAg{F F':Fr}(s:Nat):∀ {ps:List (Nat×cQ)},Agree (aSx ps) F F'->lN s F ps=lN s F' ps
 | [],_=>rfl
 | (a,x)::ps,h=>by
  simp only[lN];rw[cE h.left,aAg s h.right]
def qY{mx:Option cQ}(a b:Nat)(c:Agree (rdo lo) F F')(d:Agree (rdo hi) F F')(e:Agree (rdo mx) F F'):kT a b lo hi mx F=kT a b lo hi mx F':=by
 simp only[kT,oV _ c,oV _ d,oV _ e]
def aJ1{mx:Option cQ}(k:SlK)(v:AV)(a:Agree (rdo lo) F F')(b:Agree (rdo hi) F F')(c:Agree (rdo mx) F F'):rS k v lo hi mx F=rS k v lo hi mx F':=by
 unfold rS;split
 .simp only[aQN,oV _ a,oV _ b]
 .simp only[aFE,qY _ _ a b c]
 .simp only[aKQ,qY _ _ a b c]
 .simp only[aLa,qY _ _ a b c]
 .simp only[aNh,qY _ _ a b c]
 .rfl
theorem aMw{q:QOp}{F F':Fr}(h:Agree q.rd F F')(hp:T AB):iC q F hp=iC q F' hp:=by
 cases q with
 | mv x=>show some (x.val F)=_;rw[cE (x:=x) h];rfl
 | pick c a b=>show yV (c.val F) a b F=yV (c.val F') a b F';simp only[yV,cE h.left,cE h.right.left,cE h.right.right]
 | build z ps=>show bD (eO z (dN F ps)) _=_;rw[aBF h];rfl
 | ld a n x=>show eE (x.val F) a n hp=eE (x.val F') a n hp;rw[cE h]
 | cw x=>show wN (x.val F)=wN (x.val F');rw[cE h]
 | bin op e x y=>show mL op e (x.val F) (y.val F)=mL op e (x.val F') (y.val F');rw[cE h.left,cE h.right]
 | un op x=>show unV op (x.val F)=unV op (x.val F');rw[cE h]
 | conv k x=>show aD5 k (x.val F) hp=aD5 k (x.val F') hp;rw[cE h]
 | mkIface t x=>show some (AV.iface t (x.val F))=some (AV.iface t (x.val F'));rw[cE h]
 | mkFunc f a b=>show some (AV.fn f (dV a F) (dV b F))=some (AV.fn f (dV a F') (dV b F'));rw[oI h.left,oI h.right]
 | slc k x lo hi mx=>show rS k (x.val F) lo hi mx F=rS k (x.val F') lo hi mx F';rw[cE h.left,aJ1 k _ h.right.left h.right.right.left h.right.right.right]
 | dd off x=>show aAE (x.val F) off=aAE (x.val F') off;rw[cE h]
 | fld a off n x=>show aJD (x.val F) a off n=aJD (x.val F') a off n;rw[cE h]
 | c9 k x ix=>show(bD (gL (ix.val F)) fun i=>eY k (x.val F) i)=bD (gL (ix.val F')) fun i=>eY k (x.val F') i;rw[cE h.left,cE h.right]
 | idxArr a n s x ix=>show(bD (gL (ix.val F)) fun i=>aGG (x.val F) a n s i)=bD (gL (ix.val F')) fun i=>aGG (x.val F') a n s i;rw[cE h.left,cE h.right]
 | idxStr x ix=>show(bD (gL (ix.val F)) fun i=>aG8 (x.val F) i)=bD (gL (ix.val F')) fun i=>aG8 (x.val F') i;rw[cE h.left,cE h.right]
 | lookup e z ok m k=>show(bD (uW hp (m.val F)) fun es=>bD (pL e (k.val F) es) fun r=>pM r z ok)=bD (uW hp (m.val F')) fun es=>bD (pL e (k.val F') es) fun r=>pM r z ok;rw[cE h.left,cE h.right]
 | tassert t z ok x=>show aEI (x.val F) t z ok=aEI (x.val F') t z ok;rw[cE h]
 | extract x i=>show nG (x.val F) i=nG (x.val F') i;rw[cE h]
 | lenArr n=>rfl
 | lenStr x=>show aGR (x.val F)=aGR (x.val F');rw[cE h]
 | dc x=>show lW (x.val F)=lW (x.val F');rw[cE h]
 | lenMap x=>show(bD (uW hp (x.val F)) fun es=>some (AV.int .i64 (.ofNat (mF es))))=bD (uW hp (x.val F')) fun es=>some (AV.int .i64 (.ofNat (mF es)));rw[cE h]
 | capSl x=>show aJH (x.val F)=aJH (x.val F');rw[cE h]
 | dt m xs=>show oB m (dV xs F)=oB m (dV xs F');rw[oI h]
 | mkMeth n tbl x=>show some (AV.mth n tbl (x.val F))=some (AV.mth n tbl (x.val F'));rw[cE h]
def aLH{q:QOp}(b:dU q=false)(F:Fr)(h h':T AB):iC q F h=iC q F h':=by
 cases q with
 | ld a n x=>cases b
 | lookup e z ok m k=>cases b
 | lenMap x=>cases b
 | conv k x=>
  show aD5 k (x.val F) h=aD5 k (x.val F) h';cases k with
  | bytesToStr=>cases b
  | int k=>cases x.val F<;>rfl
  | jo=>cases x.val F<;>rfl
  | intToStr=>
   cases x.val F with
   | int k n=>cases n<;>rfl
   | _=>rfl
 | _=>rfl
theorem aL0{a:yX}{F F':Fr}(h:Agree a.rd F F')(id:Nat):uI a F id=uI a F' id:=by
 cases a with
 | alloc t cs=>rfl
 | box t x=>show(bD (x.val F).cells fun cs=>some (AV.ptr id 0,AB.cells cs false 0))=bD (x.val F').cells fun cs=>some (AV.ptr id 0,AB.cells cs false 0);rw[cE h]
 | c7 t s len z ps=>show(bD (eO (repeatL z len) (lN s F ps)) fun cs=>some (AV.sl id 0 len len false,AB.cells cs false 0))=bD (eO (repeatL z len) (lN s F' ps)) fun cs=>some (AV.sl id 0 len len false,AB.cells cs false 0);rw[aAg s h]
 | df t s by_ z l c=>
  show zB t s by_ z l c F id=zB t s by_ z l c F' id;unfold zB;rw[cE h.left,cE h.right]
 | mkMap=>rfl
 | strBytes t x=>show aB4 (x.val F) id=aB4 (x.val F') id;rw[cE h]
def aMD{x:XOp}(h:Agree x.rd F F')(call:gD)(S:St):evX x call F S=evX x call F' S:=by
 cases x with
 | st n x v=>show(bD (v.val F).cells fun cs=>qZ (x.val F) n cs S)=bD (v.val F').cells fun cs=>qZ (x.val F') n cs S;rw[cE h.left,cE h.right]
 | call f args=>show call (f.val F) (dV args F) S=call (f.val F') (dV args F') S;rw[cE h.left,oI h.right]
 | inv a f args=>show aJ2 (f.val F) a (dV args F) call S=aJ2 (f.val F') a (dV args F') call S;rw[cE h.left,oI h.right]
 | app t s b x y=>show gQ b s (x.val F) (y.val F) S=gQ b s (x.val F') (y.val F') S;rw[cE h.left,cE h.right]
 | copy s d x=>show(bD (aKi (x.val F)) fun m=>copyV (d.val F) s m (x.val F) S)=bD (aKi (x.val F')) fun m=>copyV (d.val F') s m (x.val F') S;rw[cE h.left,cE h.right]
 | mapUpd e m k v=>show rJ (m.val F) e (k.val F) (v.val F) S=rJ (m.val F') e (k.val F') (v.val F') S;rw[cE h.left,cE h.right.left,cE h.right.right]
 | mapDel e m k=>show aHw (m.val F) e (k.val F) S=aHw (m.val F') e (k.val F') S;rw[cE h.left,cE h.right]
 | clr z x=>show aRs (x.val F) z S=aRs (x.val F') z S;rw[cE h]
 | ext k args=>show(bD (aRz k (dV args F)) fun v=>some (v,S))=bD (aRz k (dV args F')) fun v=>some (v,S);rw[oI h]
 | bad=>rfl
def aIJ{g:Option (Nat×Bool)}(h:Agree (g.map (·.1)).toList F F'):fX g F=fX g F':=by
 cases g with
 | none=>rfl
 | some p=>show isB (aA p.1 F) p.2=isB (aA p.1 F') p.2;rw[h p.1 (by simp)]
def aKE{t:Nat}:∀ {l:cd},inL t l=true↔t∈l
 | []=>by simp [inL]
 | u::l=>by
  simp only[inL,Bq,Bm];split
  .rename_i h;rw[Bn] at h;simp [h]
  .rename_i h;rw[Bn] at h;simp [h,aKE]
def aJg{d:Option Nat}{t:Nat}(h:d=some t)(a:t∈l):meets d l=true:=by subst h;exact aKE.2 a
def aDE{i:Nat}{d:Option Nat}{c:cd}:∀ {l:List AO},aG0 i d c l=true->∀ {j:Nat} {b:AO},l[j]? =some b->(meets d b.touch || meets b.dst c)=true->Nat.testBit b.mask i=true
 | [],_,j,b,e=>by simp at e
 | a::l,h,j,b,e=>by
  intro f;simp only[aG0,Cy] at h;cases j with
  | zero=>
   simp at e;subst e;have g:=h.1;rw[f] at g;exact g
  | succ j=>exact aDE h.2 (by simpa using e) f
def aFX:∀ {l:List AO} {k:Nat},aKz k l=true->∀ {i j:Nat} {a b:AO},i<j->l[i]? =some a->l[j]? =some b->(meets a.dst b.touch || meets b.dst a.touch)=true->Nat.testBit b.mask (k+i)=true
 | [],k,_,i,j,a,b,_,d=>by simp at d
 | c::l,k,h,i,j,a,b,g,d=>by
  intro e f;simp only[aKz,Cy] at h;cases j with
  | zero=>omega
  | succ j=>
   cases i with
   | zero=>
    simp at d;subst d;exact aDE h.1 (by simpa using e) f
   | succ i=>
    have:=aFX h.2 (i:=i) (j:=j) au (by simpa using d) (by simpa using e) f
    rwa [show k+1+i=k+(i+1) by omega] at this
def aCX:∀ {l:List Oper} {k:Nat},aDm k l=true->∀ {i:Nat} {o:Oper},l[i]? =some o->∀e∈o.after,Region.binds .any e=true->e.on<k+i
 | [],k,_,i,o,a=>by simp at a
 | c::l,k,h,i,o,a=>by
  intro e b d;simp only[aDm,Cy] at h;cases i with
  | zero=>
   simp at a;subst a;have f:=Array.all_eq_true'.1 h.1 e b;simp only[d,Dn,Bool.false_or] at f;exact Bd f
  | succ i=>
   have:=aCX h.2 (by simpa using a) e b d;omega
end Go.Ev
namespace Go.Ev
variable {i t:Nat}{F:Fr}{v:AV}{D:Nat->Prop}
structure Tr(aos:List AO)(base:Nat)(call:gD)(Ds:Nat->DS):Prop where
 step:∀i o,aos[i]? =some o->tW o i base call (Ds i)=some (Ds (i+1))
def aDP{base:Nat}{call:gD}:∀ {l:List AO} {k:Nat} {D b:DS},wY l k base call D=some b->
  ∃Ds:Nat->DS,Ds k=D/\(∀i o,l[i]? =some o->tW o (k+i) base call (Ds (k+i))=some (Ds (k+i+1)))/\Ds (k+l.length)=b
 | [],k,D,b,h=>by
  simp only[wY,Ay] at h;exact⟨fun _=>D,rfl,fun i o a=>by simp at a,h⟩
 | o::l,k,D,b,h=>by
  simp only[wY] at h;have⟨m,c,d⟩:=aO h;have⟨Ds,e,f,g⟩:=aDP d;refine⟨fun i=>if i=k then D else Ds i,by simp,?_,?_⟩
  .intro i j a;cases i with
   | zero=>
    simp at a;subst a;simp only[Bw,Fc];rw[if_neg au,e];exact c
   | succ i=>
    have:=f i j (by simpa using a);rw[show k+(i+1)=k+1+i by omega];simp only[];rw[if_neg au,if_neg au];exact this
  .simp only[Aw];rw[if_neg au,show k+(l.length+1)=k+1+l.length by omega];exact g
section
variable {aos:List AO}{base:Nat}{call:gD}{Ds:Nat->DS}
inductive Kind(base:Nat)(call:gD)(D D':DS)(i:Nat)(o:AO):Prop where
 | no (hw:fX o.grd D.F=false) (e:D'=⟨cT o.dst D.F .undef,D.S,D.ps,D.hs,D.ls⟩)
 | q (q:QOp) (v:AV) (hw:fX o.grd D.F=true) (ho:o.op= .q q) (hv:iC q D.F D.S.h=some v)
   (e:D'=⟨cT o.dst D.F v,D.S,D.ps,D.hs,bX (dU q) (⟨q,D.F,v,i,o.mask⟩::D.ls) D.ls⟩)
 | a (a:yX) (v:AV) (b:AB) (hw:fX o.grd D.F=true) (ho:o.op= .a a) (hv:uI a D.F (base+i)=some (v,b))
   (e:D'=⟨cT o.dst D.F v,D.S,⟨i,base+i,b⟩::D.ps,D.hs,D.ls⟩)
 | x (x:XOp) (v:AV) (S:St) (hw:fX o.grd D.F=true) (ho:o.op= .x x) (hl:kN D.hs o.mask=true)
   (hv:evX x call D.F ⟨(cN o.mask D.ps D.S.h).2,D.S.nx⟩=some (v,S))
   (e:D'=⟨cT o.dst D.F v,S,(cN o.mask D.ps D.S.h).1,(i,o.mask,S.h)::D.hs,D.ls⟩)
def Tr.kind(h:Tr aos base call Ds){o:AO}(j:aos[i]? =some o):Kind base call (Ds i) (Ds (i+1)) i o:=by
 have d:=h.step i o j;unfold tW at d;rw[cS] at d;split at d
 .rename_i e;cases c:o.op with
  | q q=>
   rw[c] at d;have⟨v,f,g⟩:=aO (show(bD (iC q (Ds i).F (Ds i).S.h) fun v=>some (⟨cT o.dst (Ds i).F v,(Ds i).S,(Ds i).ps,(Ds i).hs,bX (dU q) (⟨q,(Ds i).F,v,i,o.mask⟩::(Ds i).ls) (Ds i).ls⟩:DS))=some (Ds (i+1)) from d);exact .q q v e c f (Bk g).symm
  | a a=>
   rw[c] at d;have⟨⟨v,b⟩,f,g⟩:=aO (show(bD (uI a (Ds i).F (base+i)) fun r=>some (⟨cT o.dst (Ds i).F r.1,(Ds i).S,⟨i,base+i,r.2⟩::(Ds i).ps,(Ds i).hs,(Ds i).ls⟩:DS))=some (Ds (i+1)) from d);exact .a a v b e c f (Bk g).symm
  | x x=>
   rw[c] at d;have⟨k,d⟩:=cH (show bX (kN (Ds i).hs o.mask) (bD (evX x call (Ds i).F ⟨(cN o.mask (Ds i).ps (Ds i).S.h).2,(Ds i).S.nx⟩) fun r=>
    some (⟨cT o.dst (Ds i).F r.1,r.2,(cN o.mask (Ds i).ps (Ds i).S.h).1,(i,o.mask,r.2.h)::(Ds i).hs,(Ds i).ls⟩:DS)) none=some (Ds (i+1)) from d)
   have⟨⟨v,S⟩,f,g⟩:=aO d;exact .x x v S e c k f (Bk g).symm
 .rename_i e;exact .no (by simpa using e) (Bk d).symm
def jW(aos:List AO)(Ds:Nat->DS)(c:Nat):Prop:=∃o x,aos[c]? =some o/\o.op= .x x/\fX o.grd (Ds c).F=true
def sE{d:Option Nat}(h:d≠some t):aA t (cT d F v)=aA t F:=by
 cases d with
 | none=>rfl
 | some d=>show aA t (F.set d (some v))=_;rw[yT,if_neg (fun e=>h (by rw[e]))]
def uK{d:Nat}:aA d (cT (some d) F v)=v:=by
 show aA d (F.set d (some v))=_;rw[yT,if_pos rfl]
def Tr.slot_step(h:Tr aos base call Ds){o:AO}(j:aos[i]? =some o)(d:o.dst≠some t):aA t (Ds (i+1)).F=aA t (Ds i).F:=by
 cases h.kind j with
 | no f e=>rw[e];exact sE d
 | q q v f c g e=>rw[e];exact sE d
 | a a v b f c g e=>rw[e];exact sE d
 | x x v S f c k g e=>rw[e];exact sE d
def Tr.slot_keep(h:Tr aos base call Ds):∀ {k:Nat},i<=k->k<=aos.length->(∀j o,i<=j->j<k->aos[j]? =some o->o.dst≠some t)->aA t (Ds k).F=aA t (Ds i).F:=by
 intro k
 induction k with
 | zero=>intro e _ _;rw[Nat.le_zero.1 e]
 | succ k l=>
  intro e m f;rcases Cx k i with d|d
  .rw[show i=k+1 by omega]
  .rw[<-l d au (fun j o a b c=>f j o a au c)];have g:aos[k]? =some aos[k]:=Ab au;exact h.slot_step g (f k _ d au g)
def Tr.heap_step(h:Tr aos base call Ds)(hi:i<aos.length)(j:¬jW aos Ds i):(Ds (i+1)).S=(Ds i).S/\(Ds (i+1)).hs=(Ds i).hs:=by
 have f:aos[i]? =some aos[i]:=Ab hi;cases h.kind f with
 | no d e=>rw[e];exact⟨rfl,rfl⟩
 | q q v d c g e=>rw[e];exact⟨rfl,rfl⟩
 | a a v b d c g e=>rw[e];exact⟨rfl,rfl⟩
 | x x v S d c k g e=>exact absurd ⟨_,x,f,c,d⟩ j
def Tr.heap_keep(h:Tr aos base call Ds):∀ {k:Nat},i<=k->k<=aos.length->(∀j,i<=j->j<k->¬jW aos Ds j)->(Ds k).S=(Ds i).S/\(Ds k).hs=(Ds i).hs:=by
 intro k
 induction k with
 | zero=>intro d _ _;rw[Nat.le_zero.1 d];exact⟨rfl,rfl⟩
 | succ k f=>
  intro d o e;rcases Cx k i with c|c
  .rw[show i=k+1 by omega];exact⟨rfl,rfl⟩
  .have⟨g,l⟩:=f c au (fun j a b=>e j a au);have⟨m,n⟩:=h.heap_step (au:k<aos.length) (e k c au);exact⟨m.trans g,n.trans l⟩
def Tr.chain_hs(h:Tr aos base call Ds){c:Nat}{o:AO}(g:aos[c]? =some o)(l:jW aos Ds c):(Ds (c+1)).hs=(c,o.mask,(Ds (c+1)).S.h)::(Ds c).hs/\kN (Ds c).hs o.mask=true:=by
 have⟨p,x,i,j,m⟩:=l;rw[g] at i;cases i;cases h.kind g with
 | no f e=>rw[m] at f;cases f
 | q q v f d k e=>rw[j] at d;cases d
 | a a v b f d k e=>rw[j] at d;cases d
 | x x v S f d n k e=>rw[e];exact⟨rfl,n⟩
def Tr.head(h:Tr aos base call Ds)(s:(Ds 0).hs= []):∀k,k<=aos.length->(∀c,c<k->¬jW aos Ds c)\/∃p m d r,p<k/\jW aos Ds p/\(Ds k).hs=(p,m,d)::r/\∀c,p<c->c<k->¬jW aos Ds c:=by
 intro k
 induction k with
 | zero=>intro _;exact .inl (fun c a=>au)
 | succ k i=>
  intro t;by_cases a:jW aos Ds k
  .have j:aos[k]? =some aos[k]:=Ab au;exact .inr ⟨k,_,_,_,Dm k,a,(h.chain_hs j a).1,fun c e f=>au⟩
  .have⟨_,l⟩:=h.heap_step (au:k<aos.length) a;rcases i au with e|⟨p,m,d,r,e,f,n,o⟩
   .refine .inl (fun c q=>?_);rcases Cx c k with b|b
    .exact e c b
    .rw[show c=k by omega];exact a
   .refine .inr ⟨p,m,d,r,au,f,l.trans n,fun c b u=>?_⟩;rcases Cx c k with g|g
    .exact o c b g
    .rw[show c=k by omega];exact a
def Tr.before(h:Tr aos base call Ds)(n:(Ds 0).hs= [])(q:∀j o,D j->aos[j]? =some o->∀i,Nat.testBit o.mask i=true->D i):
  ∀k,k<aos.length->∀o,aos[k]? =some o->jW aos Ds k->(∀i,Nat.testBit o.mask i=true->D i)->∀c,c<k->jW aos Ds c->D c:=by
 intro k
 induction k using Nat.strongRecOn with
 | _ k s=>
  intro A o t u v c b a;have⟨_,l⟩:=h.chain_hs t u;rcases h.head n k au with g|⟨p,m,B,r,g,x,y,z⟩
  .exact absurd a (g c b)
  .rw[y] at l;have d:D p:=v p l;rcases Ei c p with e|e|e
   .have f:aos[p]? =some aos[p]:=Ab au;exact s p g au _ f x (q p _ d f) c e a
   .rw[e];exact d
   .exact absurd a (z c e b)
def Tr.loads_mono(h:Tr aos base call Ds):∀ {k:Nat},i<=k->k<=aos.length->∀l∈(Ds i).ls,l∈(Ds k).ls:=by
 intro k
 induction k with
 | zero=>intro g _ l c;rw[Nat.le_zero.1 g] at c;exact c
 | succ k n=>
  intro g p l c;rcases Cx k i with j|j
  .rw[show k+1=i by omega];exact c
  .have:=n j au l c;have o:aos[k]? =some aos[k]:=Ab au;cases h.kind o with
   | no f e=>rw[e];exact this
   | q q v f d m e=>rw[e,cS];simp only;split<;>simp [this]
   | a a v b f d m e=>rw[e];exact this
   | x x v S f d c m e=>rw[e];exact this
def aCZ{b:T AB}{c:List (Nat×Nat×T AB)}:∀ {ls:List mC},iF b c ls=true->∀l∈ls,eU l c b=true
 | [],_,l,a=>by simp at a
 | m::ls,h,l,a=>by
  simp only[iF,cS] at h;split at h
  .rename_i d;rcases Bm.1 a with rfl|e
   .exact d
   .exact aCZ h l e
  .cases h
def Tr.hs_split(h:Tr aos base call Ds):∀d k,k+d=aos.length->∃r,(Ds aos.length).hs.reverse=(Ds k).hs.reverse++r/\∀e∈r,k<=e.1/\jW aos Ds e.1:=by
 intro d
 induction d with
 | zero=>intro k g;exact⟨[],by rw[show aos.length=k by omega];simp,by simp⟩
 | succ d i=>
  intro k g;have⟨r,f,b⟩:=i (k+1) au;by_cases c:jW aos Ds k
  .have j:aos[k]? =some aos[k]:=Ab au;refine⟨(k,aos[k].mask,(Ds (k+1)).S.h)::r,?_,?_⟩
   .rw[f,(h.chain_hs j c).1];simp
   .intro e a;rcases Bm.1 a with rfl|a
    .exact⟨Af _,c⟩
    .exact⟨by have:=(b e a).1;omega,(b e a).2⟩
  .refine⟨r,by rw[f,(h.heap_step au c).2],fun e a=>⟨by have:=(b e a).1;omega,(b e a).2⟩⟩
def Tr.load(h:Tr aos base call Ds)(A:(Ds 0).hs= [])(n:iF (Ds 0).S.h (Ds aos.length).hs.reverse (Ds aos.length).ls=true){l:mC}(B:l∈(Ds aos.length).ls)
  (C:∀j o,D j->aos[j]? =some o->∀i,Nat.testBit o.mask i=true->D i) (E:∀i,Nat.testBit l.mask i=true->D i) (hi:¬D l.i) {s:Nat} (K:s<=aos.length) (v:∀c,jW aos Ds c->(D c↔c<s)):
  pE l.v (iC l.q l.F (Ds s).S.h)=true:=by
 have p:=aCZ n l B;have key:∀k,k<=s->∀r,(Ds aos.length).hs.reverse=(Ds k).hs.reverse++r->eU l r (Ds k).S.h=true:=by
  intro k
  induction k with
  | zero=>
   intro _ r f;rw[A] at f;simp at f;rw[<-f];exact p
  | succ k x=>
   intro L r f;by_cases d:jW aos Ds k
   .have y:aos[k]? =some aos[k]:=Ab au;have q:=(h.chain_hs y d).1;have b:=x au ((k,aos[k].mask,(Ds (k+1)).S.h)::r) (by rw[f,q];simp);have t:D k:=(v k d).2 au;have a:Nat.testBit aos[k].mask l.i=false:=by
     cases u:Nat.testBit aos[k].mask l.i with
     | false=>rfl
     | true=>exact absurd (C k _ t y _ u) hi
    simp only[eU,cS,a] at b;split at b
    .exact b
    .split at b
     .simpa using b
     .cases b
   .have⟨F,G⟩:=h.heap_step (au:k<aos.length) d;rw[F];exact x au r (by rw[f,G])
 have⟨r,q,b⟩:=h.hs_split (aos.length - s) s au;have g:=key s (Af _) r q;cases r with
 | nil=>exact g
 | cons e r=>
  have⟨c,m,H⟩:=e;have⟨I,J⟩:=b (c,m,H) (by simp);have a:Nat.testBit l.mask c=false:=by
   cases u:Nat.testBit l.mask c with
   | false=>rfl
   | true=>have:=(v c J).1 (E c u);simp only at I;omega
  simp only[eU,cS,a] at g;by_cases z:pE l.v (iC l.q l.F (Ds s).S.h)=true
  .exact z
  .rw[if_neg (by simp),if_neg z] at g;cases g
end
def aJd:∀ {a b:cd},pQ a b=true->a=b
 | [],[],_=>rfl
 | [],_::_,h=>by simp [pQ] at h
 | _::_,[],h=>by simp [pQ] at h
 | a::x,b::y,h=>by
  simp only[pQ,cS] at h;split at h
  .rename_i c;rw[Db c,aJd h]
  .cases h
mutual
theorem aDJ:∀ (a b:AV),cI a b=true->a=b
 | .bool a,v,h=>by cases v<;>simp only[cI,vZ,Bf] at h;rw[eq_of_beq h]
 | .int k a,v,h=>by
  cases v<;>simp only[cI,cS,Bf] at h;split at h
  ·rename_i h1;rw[aAx h1];rw[jA] at h;rw[eq_of_beq h]
  ·cases h
 | .str a,v,h=>by cases v<;>simp only[cI,Bf] at h;rw[aJd h]
 | .ptr a b,v,h=>by
  cases v<;>simp only[cI,cS,Bf] at h;split at h
  ·rename_i h1;rw[Db h1,Db h]
  ·cases h
 | .nilp,v,h=>by cases v<;>first | rfl | simp only[cI,Bf] at h
 | .sl a b c d e,v,h=>by
  cases v<;>simp only[cI,Bf,Cy,vZ] at h;have⟨⟨⟨⟨h1,h2⟩,h3⟩,h4⟩,h5⟩:=h;rw[Db h1,Db h2,Db h3,Db h4,eq_of_beq h5]
 | .cr,v,h=>by cases v<;>first | rfl | simp only[cI,Bf] at h
 | .emp,v,h=>by cases v<;>first | rfl | simp only[cI,Bf] at h
 | .map a,v,h=>by cases v<;>simp only[cI,Bf] at h;rw[Db h]
 | .nilmap,v,h=>by cases v<;>first | rfl | simp only[cI,Bf] at h
 | .fn f a b,v,h=>by
  cases v<;>simp only[cI,Bf,Cy] at h;have⟨⟨h1,h2⟩,h3⟩:=h;rw[Db h1,uO _ _ h2,uO _ _ h3]
 | .nilfn,v,h=>by cases v<;>first | rfl | simp only[cI,Bf] at h
 | .yld a,v,h=>by cases v<;>simp only[cI,Bf] at h;rw[Db h]
 | .iface t w,v,h=>by
  cases v<;>simp only[cI,Bf,Cy] at h;rw[Db h.1,aDJ _ _ h.2]
 | .niliface,v,h=>by cases v<;>first | rfl | simp only[cI,Bf] at h
 | .mth n t w,v,h=>by cases v<;>simp only[cI,Bf] at h
 | .agg a,v,h=>by cases v<;>simp only[cI,Bf] at h;rw[uO _ _ h]
 | .tup a,v,h=>by cases v<;>simp only[cI,Bf] at h;rw[uO _ _ h]
theorem uO:∀ (a b:bu),kG a b=true->a=b
 | [],[],_=>rfl
 | [],_::_,h=>by simp [kG] at h
 | _::_,[],h=>by simp [kG] at h
 | a::x,b::y,h=>by
  simp only[kG,cS] at h;split at h
  .rename_i c;rw[aDJ _ _ c,uO _ _ h]
  .cases h
end
def aNJ{r:Option AV}(h:pE v r=true):r=some v:=by
 cases r with
 | none=>cases h
 | some w=>rw[aDJ _ _ h]
end Go.Ev
namespace Go.Ev
variable {ob:Obj}{b:AB}{L:Loc}
section
variable {D:Nat->Prop}
def aO7{look:Nat->Nat}{o:Oper}(h:∀e∈o.after,Region.binds .any e=true->D e.on/\∀b,Nat.testBit (look e.on) b=true->D b):∀b,Nat.testBit (CheckFast.one look o) b=true->D b:=by
 unfold CheckFast.one;rw[<-Array.foldl_toList];have key:∀ (l:List Edge) (s:Nat),(∀e∈l,Region.binds .any e=true->D e.on/\∀b,Nat.testBit (look e.on) b=true->D b)->(∀b,Nat.testBit s b=true->D b)->
   ∀b,Nat.testBit (l.foldl (fun s e=>if Region.binds .any e then s ||| 2 ^ e.on ||| look e.on else s) s) b=true->D b:=by
  intro l
  induction l with
  | nil=>intro s _ f b d;exact f b d
  | cons e l k=>
   intro s j f b d;rw[List.foldl_cons] at d;refine k _ (fun m g=>j m (Az _ g)) ?_ b d;intro c a;split at a
   .rename_i i;have⟨n,p⟩:=j e (by simp) i;rw[Nat.testBit_or,Nat.testBit_or,Ff,Ff] at a;rcases a with(a|a)|a
    .exact f c a
    .rw[Nat.testBit_two_pow] at a;have:e.on=c:=by simpa using a
     rw[<-this];exact n
    .exact p c a
   .exact f c a
 exact key o.after.toList 0 (fun e q=>h e (by simpa using q)) (fun b d=>by simp at d)
def aBv:∀ (l:List Oper) (j:Nat) (a:cd),a.length=j->(∀i,i<j->D i->∀b,Nat.testBit (a.getD (j - 1 - i) 0) b=true->D b)->
  (∀k o,l[k]? =some o->D (j+k)->∀e∈o.after,Region.binds .any e=true->D e.on)->
  (∀i,i<j->(CheckFast.beforeL l j a).getD i 0=a.getD (j - 1 - i) 0)/\
  ∀k o,l[k]? =some o->(∀e∈o.after,Region.binds .any e=true->D e.on)->∀b,Nat.testBit ((CheckFast.beforeL l j a).getD (j+k) 0) b=true->D b
 | [],j,a,q,_,_=>by
  refine⟨fun i hi=>?_,fun k o g=>by simp at g⟩;simp only[CheckFast.beforeL];rw[Ad,Ad,List.getElem?_reverse au,q]
 | o::l,j,a,q,f,h=>by
  simp only[CheckFast.beforeL,CheckFast.force_eq];have s:(∀e∈o.after,Region.binds .any e=true->D e.on)->∀b,Nat.testBit (CheckFast.one (fun i=>if i<j then a.getD (j - 1 - i) 0 else 0) o) b=true->D b:=by
   intro m;refine aO7 fun e t d=>⟨m e t d,fun b c=>?_⟩;split at c
   .exact f _ ‹_› (m e t d) b c
   .simp at c
  have:=aBv l (j+1) (CheckFast.one (fun i=>if i<j then a.getD (j - 1 - i) 0 else 0) o::a) (by simp [q]) ?_ ?_
  .have⟨u,v⟩:=this;refine⟨fun i hi=>?_,fun k r g m b d=>?_⟩
   .rw[u i au,show j+1 - 1 - i=(j - 1 - i)+1 by omega];simp
   .cases k with
    | zero=>
     simp at g;subst g;have n:=u j au;rw[show j+1 - 1 - j=0 by omega] at n;refine s m b ?_;rw[show j+0=j from rfl,n] at d;exact d
    | succ k=>
     refine v k r (by simpa using g) m b ?_
     rwa [show j+1+k=j+(k+1) by omega]
  .intro i hi p b d;rcases Cx i j with n|n
   .rw[show j+1 - 1 - i=(j - 1 - i)+1 by omega] at d;exact f i n p b (by simpa using d)
   .have:i=j:=by omega
    subst this;rw[show i+1 - 1 - i=0 by omega] at d;exact s (h 0 o (by simp) (by simpa using p)) b (by simpa using d)
  .intro k r g x;exact h (k+1) r (by simpa using g) (by rwa [show j+(k+1)=j+1+k by omega])
end
def aDN{P:Program}{nt:Nat}{c:Array Oper}:∀ {l:List Oper} {b:cd} {aos:List AO},vW P nt c l b=some aos->
  aos.length=l.length/\∀j o,l[j]? =some o->∃e,aos[j]? =some e/\aKY P nt c o (b.getD j 0)=some e
 | [],b,aos,h=>by
  simp only[vW,Ay] at h;subst h;exact⟨rfl,fun j o d=>by simp at d⟩
 | o::l,b,aos,h=>by
  simp only[vW] at h;split at h
  .rename_i a as f has;cases h;have⟨g,i⟩:=aDN has;refine⟨by simp [g],fun j k d=>?_⟩;cases j with
   | zero=>
    simp at d;subst d;refine⟨a,by simp,?_⟩;cases b<;>simpa using f
   | succ j=>
    have⟨e,m,n⟩:=i j k (by simpa using d);refine⟨e,by simpa using m,?_⟩;cases b<;>simpa using n
  .cases h
def mO{m:Nat}:∀ {ps:List jD} {h:T AB} {b:Nat} {bl:AB},(cN m ps h).2.get b=some bl->(∃p∈ps,Nat.testBit m p.i=true/\p.id=b/\p.b=bl)\/h.get b=some bl
 | [],h,b,bl,e=>.inr e
 | p::ps,h,b,bl,e=>by
  simp only[cN,cS] at e;split at e
  .rename_i d;rcases mO e with⟨q,a,c⟩|a
   .exact .inl ⟨q,by simp [a],c⟩
   .rw[dx] at a;split at a
    .rename_i f;cases a;exact .inl ⟨p,by simp,d,f.symm,rfl⟩
    .exact .inr a
  .rcases mO e with⟨q,a,c⟩|a
   .exact .inl ⟨q,by simp [a],c⟩
   .exact .inr a
def aBW{m:Nat}:∀ {ps:List jD} {h:T AB} {p:jD},p∈(cN m ps h).1->p∈ps/\Nat.testBit m p.i=false
 | [],h,p,e=>by simp [cN] at e
 | q::ps,h,p,e=>by
  simp only[cN,cS] at e;split at e
  .have⟨a,b⟩:=aBW e;exact⟨by simp [a],b⟩
  .rename_i c;rcases Bm.1 e with rfl|e
   .exact⟨by simp,by simpa using c⟩
   .have⟨a,b⟩:=aBW e;exact⟨by simp [a],b⟩
section
variable {aos:List AO}{base:Nat}{call:gD}{Ds:Nat->DS}
def Made(aos:List AO)(base:Nat)(Ds:Nat->DS)(i:Nat)(b:AB):Prop:=∃o a v,aos[i]? =some o/\o.op= .a a/\fX o.grd (Ds i).F=true/\uI a (Ds i).F (base+i)=some (v,b)
def Laid(aos:List AO)(Ds:Nat->DS)(i s:Nat):Prop:=∃c o,c<s/\jW aos Ds c/\aos[c]? =some o/\Nat.testBit o.mask i=true
def Tr.pend(h:Tr aos base call Ds)(E:(Ds 0).ps= [])(F:∀k o i,aos[k]? =some o->Nat.testBit o.mask i=true->i<k):∀k,k<=aos.length->∀p∈(Ds k).ps,p.i<k/\p.id=base+p.i/\Made aos base Ds p.i p.b/\¬Laid aos Ds p.i k:=by
 intro k
 induction k with
 | zero=>intro _ p d;rw[E] at d;cases d
 | succ k B=>
  intro I p d;have m:aos[k]? =some aos[k]:=Ab au;have old:¬jW aos Ds k->p∈(Ds k).ps->p.i<k+1/\p.id=base+p.i/\Made aos base Ds p.i p.b/\¬Laid aos Ds p.i (k+1):=by
   intro G d;have⟨H,s,a3,t⟩:=B au p d;refine⟨au,s,a3,?_⟩;rintro⟨c,o,g,f,l⟩;rcases Cx c k with n|n
   .exact t ⟨c,o,n,f,l⟩
   .rw[show c=k by omega] at f;exact G f
  cases h.kind m with
  | no r e=>rw[e] at d;exact old (fun⟨o,x,g,f,l⟩=>by rw[m] at g;cases g;rw[r] at l;cases l) d
  | q q v r j u e=>rw[e] at d;exact old (fun⟨o,x,g,f,l⟩=>by rw[m] at g;cases g;rw[j] at f;cases f) d
  | a a v b r j u e=>
   have y:¬jW aos Ds k:=fun⟨o,x,g,f,l⟩=>by rw[m] at g;cases g;rw[j] at f;cases f
   rw[e] at d;rcases Bm.1 d with rfl|d
   .refine⟨Dm _,rfl,⟨_,a,v,m,j,r,u⟩,?_⟩;rintro⟨c,o,g,f,l,n⟩;have:=F c o _ l n;simp only at this;omega
   .exact old y d
  | x x v S r j J u e=>
   rw[e] at d;have⟨g,f⟩:=aBW d;have⟨H,s,a3,t⟩:=B au p g;refine⟨au,s,a3,?_⟩;rintro⟨c,o,l,n,z,A⟩;rcases Cx c k with C|C
   .exact t ⟨c,o,C,n,z,A⟩
   .rw[show c=k by omega,m] at z;cases z;rw[f] at A;cases A
end
section
variable {P:Program}{σ σ' σ0:Env}{S S' S0:St}{w w' w0:World}
structure tY(P:Program)(n0:Nat)(σ:Env)(S:St)(w:World)(id:Nat)(b:AB)(L:Loc):Prop where
 at_:σ id=some L
 ge:n0<=L.r
 lt:L.r<w.heap.size
 rep:sJ P σ w L b
 own:wQ b
 sep:∀c bl M,S.h.get c=some bl->σ c=some M->M.r≠L.r
def jJ.grow(h:jJ P σ0 S0 w0 σ S w){id e:Nat}(c:σ id=none)(q:S0.nx<=id)(s:id<S.nx)(n:w'.heap=w.heap.push ob)(t:w'.os=w.os)(u:w'.tape=w.tape)(v:w'.output=w.output):
  jJ P σ0 S0 w0 (upd σ id ⟨w.heap.size,0,e⟩) S w':=by
 have d:∀r,r<w.heap.size->w'.heap[r]? =w.heap[r]? :=fun r l=>by rw[n,Array.getElem?_push,if_neg au]
 have x:w'.heap.size=w.heap.size+1:=by rw[n];simp
 have f:∀b bl,S.h.get b=some bl->b≠id:=fun b bl i e=>by
  have⟨L,a,_⟩:=h.rep.blk b bl i;rw[e,c] at a;cases a
 refine⟨⟨fun b bl i=>?_,h.rep.lt,fun b i=>?_,fun g y=>iI c _ _ (h.rep.glob g y),?_⟩,fun b i=>?_,h.nx,fun r l z=>?_,fun r l=>?_,ax h.size,t.trans h.os,u.trans h.tape,v.trans h.output,h.ro⟩
 .have⟨L,a,j,k⟩:=h.rep.blk b bl i;exact⟨L,iI c _ _ a,au,k.frame (iI c) (d _ j)⟩
 .rw[fJ _ au];exact h.rep.fresh b i
 .intro b A bl m L B a j k C o p;rw[fJ _ (f _ _ a)] at o;rw[fJ _ (f _ _ j)] at p;exact h.rep.inj b A bl m L B a j k C o p
 .rw[fJ _ au];exact h.low b i
 .rw[d r (Ae l h.size)];exact h.keep r l z
 .obtain⟨b,bl,L,a,j,k,rfl⟩:=l;rw[fJ _ (f _ _ a)] at k;exact h.own _ ⟨b,bl,L,a,j,k,rfl⟩
def tY.grow{a:Nat}{id:Nat}(h:tY P a σ S w id b L)(k:mR P σ S w){i e:Nat}(hi:σ i=none)(d:w'.heap=w.heap.push ob):
  tY P a (upd σ i ⟨w.heap.size,0,e⟩) S w' id b L where
 at_:=iI hi _ _ h.at_
 ge:=h.ge
 lt:=by rw[d];simp;have:=h.lt;omega
 rep:=h.rep.frame (iI hi) (by rw[d,Array.getElem?_push,if_neg (ax h.lt)])
 own:=h.own
 sep:=fun c bl M f g=>by
  refine h.sep c bl M f ?_;rw[fJ] at g
  .exact g
  .intro e;have⟨l,j,_⟩:=k.blk c bl f;rw[e,hi] at j;cases j
def jJ.lay(h:jJ P σ0 S0 w0 σ S w){v:Nat}(s:w0.heap.size<=v){m:Nat}{ps:List jD}(d:∀p∈ps,Nat.testBit m p.i=true->p.id<S.nx/\∃L,tY P v σ S w p.id p.b L)
  (y:∀p∈ps,∀q∈ps,Nat.testBit m p.i=true->Nat.testBit m q.i=true->p.id≠q.id->∀L k,σ p.id=some L->σ q.id=some k->L.r≠k.r):
  jJ P σ0 S0 w0 σ ⟨(cN m ps S.h).2,S.nx⟩ w:=by
 refine⟨⟨fun b bl g=>?_,fun b bl g=>?_,h.rep.fresh,h.rep.glob,?_⟩,h.low,h.nx,h.keep,fun r z=>?_,h.size,h.os,h.tape,h.output,fun b cs g=>?_⟩
 .rcases mO g with⟨p,a,f,rfl,rfl⟩|a
  .have⟨_,L,c⟩:=d p a f;exact⟨L,c.at_,c.lt,c.rep⟩
  .exact h.rep.blk b bl a
 .rcases mO g with⟨p,a,f,rfl,rfl⟩|a
  .exact(d p a f).1
  .exact h.rep.lt b bl a
 .intro b x bl l L k g t u n j i;rcases mO g with⟨p,a,f,rfl,rfl⟩|a<;>rcases mO t with⟨q,e,o,rfl,rfl⟩|e
  .exact y p a q e f o n L k j i
  .have⟨_,M,c⟩:=d p a f;have:=c.at_;rw[j] at this;cases this;exact(c.sep x l k e i).symm
  .have⟨_,M,c⟩:=d q e o;have:=c.at_;rw[i] at this;cases this;exact c.sep b bl L a j
  .exact h.rep.inj b x bl l L k a e u n j i
 .obtain⟨b,bl,L,g,u,j,rfl⟩:=z;rcases mO g with⟨p,a,f,rfl,rfl⟩|a
  .have⟨_,M,c⟩:=d p a f;have:=c.at_;rw[j] at this;cases this;exact .inr (Aq s c.ge)
  .exact h.own _ ⟨b,bl,L,a,u,j,rfl⟩
 .rcases mO g with⟨p,a,f,rfl,c⟩|a
  .have⟨_,M,A⟩:=d p a f;have:=A.own;rw[c] at this;exact this.elim
  .exact h.ro b cs a
def tY.act{k:Nat}{id:Nat}(h:tY P k σ S w id b L)(l:mR P σ S w)(a:jJ P σ S w σ' S' w')(g:id<S.nx):tY P k σ' S' w' id b L:=by
 have i:¬Own σ S L.r:=fun⟨c,bl,M,e,f,d,n⟩=>h.sep c bl M e d n;refine⟨by rw[a.low id g];exact h.at_,h.ge,Ae h.lt a.size,h.rep.frame (a.mono l) (a.keep _ h.lt i),h.own,?_⟩;intro c bl M e f;by_cases m:wQ bl
 .rcases a.own M.r ⟨c,bl,M,e,m,f,rfl⟩ with⟨o,j,p,q,s,a3,r⟩|d
  .rw[<-r];exact h.sep o j p q a3
  .have:=h.lt;omega
 .cases bl with
  | ro cs=>
   have d:=a.ro c cs e;rw[a.low c (l.lt c _ d)] at f;exact h.sep c _ M d f
  | _=>exact absurd trivial m
end
end Go.Ev
