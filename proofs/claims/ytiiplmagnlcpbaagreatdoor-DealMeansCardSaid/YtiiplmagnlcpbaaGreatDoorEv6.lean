import Derived.Test.YtiiplmagnlcpbaaGreatDoorEv5
import Derived.RangeFuncLeaves
import Derived.OrdersIn
set_option linter.unusedSimpArgs false
set_option linter.unusedVariables false
namespace Go.Ev
variable {P:Program}
def aDC:Out->Exit
 | .normal=>.normal
 | .exit id=>.exit id
 | .ret=>.ret
structure Mark(lo:Nat)(σ:Env)(S:St)(w:World)(r:Nat):Prop where
 low:lo<=r
 lt:r<w.heap.size
 cell:w.heap[r]? =some (.deferred (some []))
 off:∀b bl L,S.h.get b=some bl->σ b=some L->L.r≠r
def aAH(r:Nat):Deferred:={target:=.collected r,args:= #[]}
def Df(D0:List Deferred)(lo:Nat)(inr:Bool)(σ:Env)(S:St)(w:World)(ds:List Deferred):Prop:=
 (inr=true->ds= [])/\∃rs:bt,ds=rs.map aAH++D0/\rs.Nodup/\∀r∈rs,Mark lo σ S w r
theorem Mark.notOwn{lo r:Nat}{σ:Env}{S:St}{w:World}(h:Mark lo σ S w r):¬Own σ S r:=fun⟨b,bl,L,h1,_,h2,h3⟩=>h.off b bl L h1 h2 h3
theorem Mark.ext{lo r:Nat}{σ σ':Env}{S S':St}{w w':World}(h:Mark lo σ S w r)(hR:kT P σ S w)(e:gM P σ S w σ' S' w'):Mark lo σ' S' w' r where
 low:=h.low
 lt:=Ag h.lt e.size
 cell:=by rw[e.keep r h.lt h.notOwn];exact h.cell
 off:=fun b bl L hb hL hr=>by
  have own:wJ bl->False:=fun ho=>by
   rcases e.own r ⟨b,bl,L,hb,ho,hL,hr⟩ with h1 | h1
   ·exact h.notOwn h1
   ·exact absurd h.lt au
  cases bl with
  | ro cs=>
   have h1:=e.ro b cs hb;exact h.off b _ L h1 (by rw[<-e.low b (hR.lt b _ h1)];exact hL) hr
  | _=>exact own trivial
theorem Df.ext{D0:List Deferred}{lo:Nat}{inr:Bool}{σ σ':Env}{S S':St}{w w':World}{ds:List Deferred}(h:Df D0 lo inr σ S w ds)(hR:kT P σ S w)(e:gM P σ S w σ' S' w'):Df D0 lo inr σ' S' w' ds:=by
 have⟨h0,rs,h1,h2,h3⟩:=h;exact⟨h0,rs,h1,h2,fun r hr=>(h3 r hr).ext hR e⟩
theorem Df.nil{lo:Nat}{inr:Bool}{σ:Env}{S:St}{w:World}:Df [] lo inr σ S w []:=⟨fun _=>rfl,[],rfl,by simp,fun r hr=>by cases hr⟩
def lQ(P:Program)(code:AC->bN->St->Option (Out×bN×St)):Prop:=
 ∀ (ro:Option Nat) (n nt:Nat) (C:Code) (c:AC),iN P nt C=some c->∀ (A:bN) (S:St) (o:Out) (A':bN) (S':St),(A.inr=false->ro=none)->code c A S=some (o,A',S')->
  ∀ (D0:List Deferred) (lo:Nat) (σ:Env) (a:Act) (w:World) (Q:Exit->Act->World->Prop),a.tmps.size=nt->Df D0 lo A.inr σ S w a.defers->lo<=w.heap.size->pV P σ A.F a.tmps->kT P σ S w->
   (∀σ' a' w',A'.inr=A.inr->a'.tmps.size=nt->Df D0 lo A.inr σ' S' w' a'.defers->(sG c=true->a'.defers=a.defers)->pV P σ' A'.F a'.tmps->gM P σ S w σ' S' w'->Q (aDC o) a' w')->C.wpIn (Fw ro) n P Q a w
def aFt(P:Program)(call:dR):Prop:=
 ∀ (ro:Option Nat) (n nt id:Nat) (ops:Array Oper) (aos:List AO),aC4 P nt ops=some (.drw aos)->∀ (σ:Env) (F F':Fr) (S S':St) (a:Act) (w:World) (Q:Exit->Act->World->Prop),
  a.tmps.size=nt->pV P σ F a.tmps->kT P σ S w->nT aos call F S=some (F',S')->
  (∀σ' a' w',pV P σ' F' a'.tmps->a'.tmps.size=nt->a'.defers=a.defers->gM P σ S w σ' S' w'->Q .normal a' w')->(Code.region id ops true).wpIn (Fw ro) n P Q a w
def aA2(P:Program)(fns:T dD)(Fn:Func)(C:Code)(c:AC):Prop:=
 ∀ (n:Nat),(∀k,k<=n->lQ P (ev fns k).code/\iY P (ev fns k).call)->∀ (A:bN) (S:St) (o:Out) (A':bN) (S':St),A.inr=false->(ev fns n).code c A S=some (o,A',S')->(∀i,o≠ .exit i)->
  ∀ (σ0 σ:Env) (S0:St) (w0 w:World) (a:Act) (R:Ending->World->Prop),a.tmps.size=Fn.ntmps->a.defers= []->pV P σ A.F a.tmps->gM P σ0 S0 w0 σ S w->w0.heap.size<=w.heap.size->
   (∀σ' tmps' w',pV P σ' A'.F tmps'->gM P σ0 S0 w0 σ' S' w'->∃V,(Go.results Fn tmps').run P w'= .ok V w'/\R (.returned V) w')->
   C.wpIn (Fw none) 0 P (bodyPostM Fence.wide 0 P Fn R) a w
def aQe(P:Program)(fns:T dD)(id:Nat)(fn:dD):Prop:=
 ∃Fn C rs c,P.funcs[id]? =some Fn/\Fn.body=some C/\¬ (Fn.name== "runtime.NumGoroutine")=true/\aEX P Fn.results.toList=some rs/\fn=⟨Fn.ntmps,rs,c⟩/\aA2 P fns Fn C c
structure aKE(P:Program)(fns:T dD)(id:Nat)(fn:dD):Prop where
 none:fn.ntmps=0
 has:∃Fn C,P.funcs[id]? =some Fn/\Fn.body=some C/\¬ (Fn.name== "runtime.NumGoroutine")=true
 ok:∀ (n:Nat) (S S':St) (v:AV),qC fn [] (ev fns n) S=some (v,S')->∀ (σ:Env) (w:World) (fv:Value),Rv P σ (.fn id [] []) fv->kT P σ S w->
  oV P (fun V w'=>∃σ',Rv P σ' v V/\gM P σ S w σ' S' w') ((do let d <-Deferred.ofValue fv ⟨[]⟩;invoke d.target d.args:Sem Next).run P w)
structure qD(P:Program)(fns:T dD):Prop where
 asked:tZ P
 bits:jX P
 fn:∀id fn,fns.get id=some fn->(∃Fn,P.funcs[id]? =some Fn/\cFn P Fn=some fn)\/aKE P fns id fn\/aQe P fns id fn
 drawn:∀call,iY P call->aFt P call
def aCw(tmps:Array Value)(r:ResultVar):Sem Value:=
 match r with
 | .tmp t=>pure (tmps.getD t undef)
 | .cell a t=>do loadVar t (<-asAddr (tmps.getD a undef))
theorem lA{σ:Env}{S:St}{w:World}(hR:kT P σ S w){F:Fr}{tmps:Array Value}(hF:pV P σ F tmps):∀ {rs:List ResultVar} {rvs:List RV} {vs:bo},aEX P rs=some rvs->results rvs F S.h=some vs->
  ∃Vs,(rs.mapM (aCw tmps)).run P w= .ok Vs w/\iD P σ vs Vs
 | [],rvs,vs,hc,h=>by
  simp only[aEX,Al] at hc;subst hc;simp only[results,Al] at h;subst h;exact⟨[],rfl,cT.2 rfl⟩
 | .tmp t::rs,rvs,vs,hc,h=>by
  simp only[aEX,Ax] at hc;obtain⟨rvs',hc,rfl⟩:=hc;simp only[results] at h;have⟨vs',h1,h2⟩:=aA h;cases h2;have⟨Vs,h3,h4⟩:=lA hR hF hc h1;refine⟨tmps.getD t undef::Vs,?_,cS.2 ⟨_,_,rfl,hF.get t,h4⟩⟩;have hst:(aCw tmps (.tmp t)).run P w= .ok (tmps.getD t undef) w:=rfl;rw[List.mapM_cons];simp only[Sem.run_bind,hst,Sem.run_pure,Result.andThen_ok,h3]
 | .cell a t::rs,rvs,vs,hc,h=>by
  simp only[aEX] at hc;split at hc
  ·rename_i agg n rvs' hag hc';cases hc;simp only[results] at h;have⟨v,h0,h⟩:=aA h;have⟨vs',h1,h2⟩:=aA h;cases h2;have⟨Vs,h3,h4⟩:=lA hR hF hc' h1;have ha:=hF.get a;unfold aSp at h0;split at h0
   ·rename_i b off hb;rw[hb] at ha;simp only[Rv] at ha;have⟨L,hL,ha⟩:=ha;have⟨L',V,hL',h5,h6⟩:=yA hag hR h0;rw[hL] at hL';cases hL';refine⟨V::Vs,?_,cS.2 ⟨_,_,rfl,h6,h4⟩⟩;have hst:(aCw tmps (.cell a t)).run P w= .ok V w:=by simp [aCw,ha,asAddr,h5]
    rw[List.mapM_cons];simp only[Sem.run_bind,hst,Sem.run_pure,Result.andThen_ok,h3]
   ·cases h0
  ·cases hc
theorem xO{σ:Env}{vs:bo}{Vs:List Value}(h:iD P σ vs Vs):Rv P σ (oneOf vs) (if h:Vs.toArray.size=1 then Vs.toArray[0] else .tuple Vs.toArray):=by
 cases vs with
 | nil=>
  rw[cT] at h;subst h;simp only[oneOf,Rv];exact⟨[],rfl,cT.2 rfl⟩
 | cons v vs=>
  cases vs with
  | nil=>
   rw[cS] at h;obtain⟨V,Ws,rfl,h1,h2⟩:=h;rw[cT] at h2;subst h2;simpa [oneOf] using h1
  | cons u us=>
   have hl:=h.length;rw[dif_neg (by simp;simp at hl;omega)];simp only[oneOf,Rv];exact⟨Vs,rfl,h⟩
theorem aEs:∀ (vs:bo) (i:Nat) (F:Fr) (t:Nat),aB t (qB vs i F)=if i<=t/\t<i+vs.length then(vs[t - i]?).getD .undef else aB t F
 | [],i,F,t=>by rw[if_neg (by simp)];rfl
 | v::vs,i,F,t=>by
  simp only[qB];rw[aEs vs (i+1) _ t,rR];by_cases h1:t=i
  ·subst h1;rw[if_neg au,if_pos rfl,if_pos (by simp)];simp
  ·by_cases h2:i+1<=t/\t<i+1+vs.length
   ·rw[if_pos h2,if_pos (by simp;omega),show t - i=(t - (i+1))+1 by omega];simp
   ·rw[if_neg h2,if_neg h1,if_neg (by simp;omega)]
theorem vX{σ:Env}{args:bo}{Args:List Value}(h:iD P σ args Args){nt:Nat}(hn:args.length<=nt):
  pV P σ (qB args 0 .e) ((⟨Args⟩:Array Value)++Array.replicate (nt - Args.length) undef)/\((⟨Args⟩:Array Value)++Array.replicate (nt - Args.length) undef).size=nt:=by
 have hl:=h.length;have hund:Rv P σ .undef undef:=by simp only[AV.undef,undef,Rv];exact⟨[],rfl,cT.2 rfl⟩
 refine⟨⟨fun t=>?_⟩,by simp;omega⟩;rw[aEs];by_cases ht:t<args.length
 ·rw[if_pos ⟨Dt _,au⟩,Gu,Ad ht];have⟨V,h1,h2⟩:=h.get (Ad ht);rw[Bg,Array.getElem?_append_left (by simp;omega)];simp only[List.getElem?_toArray,h1,Option.getD_some];exact h2
 ·rw[if_neg au];have:((⟨Args⟩:Array Value)++Array.replicate (nt - Args.length) undef).getD t undef=undef:=by
   rw[Bg,Array.getElem?_append_right (by simp;omega)];simp only[Array.getElem?_replicate];split<;>rfl
  rw[this];exact hund
theorem aBj:Fw none=Fence.wide:=rfl
theorem aPC(l:Nat):Fw (some l)=Fence.wide.inRound l:=rfl
theorem sT{w:World}{r:Nat}{o:Obj}(o':Obj)(h:w.heap[r]? =some o):({w with heap:=w.heap.setIfInBounds r o'}:World).heap[r]? =some o':=by
 have:=(Fc.1 h).1;simp [this]
theorem iP{w:World}{r r':Nat}(o':Obj)(h:r'≠r):({w with heap:=w.heap.setIfInBounds r o'}:World).heap[r']? =w.heap[r']? :=by
 simp [Dy h]
theorem run_getLoop{w:World}{r:Nat}{lp:Loop}(h:w.heap[r]? =some (.loop lp)):(Instr.getLoop r).run P w= .ok lp w:=by
 simp [Instr.getLoop,vA h (fun _ _ _ e=>by cases e)]
theorem gM.poke{σ0 σ:Env}{S0 S:St}{w0 w w':World}(h:gM P σ0 S0 w0 σ S w){r:Nat}(hr:w0.heap.size<=r)(off:∀b bl L,S.h.get b=some bl->σ b=some L->L.r≠r)
  (hh:∀r',r'≠r->w'.heap[r']? =w.heap[r']?) (hsz:w'.heap.size=w.heap.size) (ho:w'.os=w.os) (ht:w'.tape=w.tape) (hu:w'.output=w.output):gM P σ0 S0 w0 σ S w' where
 rep:=⟨fun b bl hb=>by
  have⟨L,h1,h2,h3⟩:=h.rep.blk b bl hb;exact⟨L,h1,au,h3.frame (fun _ _ x=>x) (hh _ (off b bl L hb h1))⟩,h.rep.lt,h.rep.fresh,h.rep.glob,h.rep.inj⟩
 low:=h.low
 nx:=h.nx
 keep:=fun r' h1 h2=>by rw[hh r' au];exact h.keep r' h1 h2
 own:=h.own
 size:=by rw[hsz];exact h.size
 os:=ho.trans h.os
 tape:=ht.trans h.tape
 output:=hu.trans h.output
 ro:=h.ro
theorem leaves{fn:Func}{n:Nat}{tmps:Array Value}{R:Ending->World->Prop}{σ0 σ:Env}{S0 S:St}{w0:World}:∀ (rs:bt) (w:World),rs.Nodup->(∀r∈rs,Mark w0.heap.size σ S w r)->gM P σ0 S0 w0 σ S w->
  (∀w',gM P σ0 S0 w0 σ S w'->∃v,(Go.results fn tmps).run P w'= .ok v w'/\R (.returned v) w')->LeavesInM Fence.wide n P fn tmps R (rs.map aAH) .returning w
 | [],w,_,_,he,hQ=>hQ w he
 | r::rs,w,hn,hm,he,hQ=>by
  have hr:=hm r (by simp);rw[List.nodup_cons] at hn;refine⟨by simp,.inl ⟨r,{w with heap:=w.heap.setIfInBounds r (.deferred none)},rfl,?_,?_⟩⟩
  ·simp only[Instr.takeDeferred,Sem.run_bind,vA hr.cell (fun _ _ _ e=>by cases e),Result.andThen_ok,nI hr.cell (fun _ _ _ e=>by cases e),Sem.run_pure]
  ·refine leaves rs _ hn.2 (fun r' hr'=>?_) (he.poke hr.low hr.off (fun r' h=>iP _ h) (by simp) rfl rfl rfl) hQ;have h1:=hm r' (by simp [hr']);have hne:r'≠r:=fun e=>hn.1 (e ▸ hr');exact⟨h1.low,by simpa using h1.lt,by rw[iP _ hne];exact h1.cell,h1.off⟩
theorem iV{id:Nat}{Fn:Func}{C:Code}{A B Args:List Value}{w:World}(hFn:P.funcs[id]? =some Fn)(hbody:Fn.body=some C)(hname:¬ (Fn.name== "runtime.NumGoroutine")=true):
  ((do let d <-Deferred.ofValue (.func (.func id) ⟨A⟩ ⟨B⟩) ⟨Args⟩;invoke d.target d.args:Sem Next)).run P w= .ok (.enter id ⟨A++(Args++B)⟩) w:=by
 simp only[Deferred.ofValue,Sem.run_bind,Sem.run_pure,Result.andThen_ok,invoke,callFunc,run_program,hFn];rw[if_neg hname];simp [hbody]
theorem yH{Fn:Func}{fn:dD}(hc:cFn P Fn=some fn):∃C c rs,Fn.body=some C/\¬ (Fn.name== "runtime.NumGoroutine")=true/\iN P Fn.ntmps C=some c/\aEX P Fn.results.toList=some rs/\fn=⟨Fn.ntmps,rs,c⟩:=by
 unfold cFn at hc;rw[Ba] at hc;split at hc
 ·cases hc
 ·rename_i hname;split at hc
  ·rename_i C hbody;split at hc
   ·rename_i c rs hC hrs;cases hc;exact⟨C,c,rs,hbody,hname,hC,hrs,rfl⟩
   ·cases hc
  ·cases hc
theorem wT{σ:Env}:∀ {ps:bt} {args:bo} {Args:List Value} {F F':Fr} {tmps:Array Value},oI ps args F=some F'->iD P σ args Args->pV P σ F tmps->(∀p∈ps,p<tmps.size)->
  args.length=ps.length/\pV P σ F' ((ps.zip Args).foldl (fun tmps (t,a)=>tmps.setIfInBounds t a) tmps)/\((ps.zip Args).foldl (fun tmps (t,a)=>tmps.setIfInBounds t a) tmps).size=tmps.size
 | [],[],Args,F,F',tmps,h,ha,hF,_=>by
  simp only[oI,Al] at h;subst h;exact⟨rfl,by simpa using hF,by simp⟩
 | [],_::_,Args,F,F',tmps,h,ha,hF,_=>by simp [oI] at h
 | _::_,[],Args,F,F',tmps,h,ha,hF,_=>by simp [oI] at h
 | p::ps,v::vs,Args,F,F',tmps,h,ha,hF,hp=>by
  rw[cS] at ha;obtain⟨V,Ws,rfl,hv,ha⟩:=ha;simp only[oI] at h;have hlt:=hp p (by simp);have hF1:pV P σ (F.set p (some v)) (tmps.setIfInBounds p V):=⟨fun t=>by
   rw[rR];by_cases ht:t=p
   ·subst ht;rw[if_pos rfl,Bg,Array.getElem?_setIfInBounds_self_of_lt hlt];exact hv
   ·rw[if_neg ht,Bg,Array.getElem?_setIfInBounds_ne (Dy ht),<-Bg];exact hF.get t⟩
  have⟨h1,h2,h3⟩:=wT h ha hF1 (fun q hq=>by simpa using hp q (by simp [hq]));exact⟨by simp [h1],by simpa using h2,by simpa using h3⟩
theorem aH6{ih:Evs}(hcode:lQ P ih.code){bl:AB}{b:Nat}{args:bo}{S S':St}{v:AV}(hb:S.h.get b=some bl)(h:xV bl b args ih S=some (v,S')){σ:Env}{w:World}{L:Loc}{Args:List Value}
  (hL:σ b=some L) (hargs:iD P σ args Args) (hR:kT P σ S w):
  oV P (fun V w'=>∃σ',Rv P σ' v V/\gM P σ S w σ' S' w') ((Instr.yield L.r ⟨Args⟩).run P w):=by
 cases bl<;>simp only[xV,reduceCtorEq] at h;rename_i st pend fr ps as bd;cases st<;>simp only[reduceCtorEq] at h;have⟨F,hF,h⟩:=aA h;have⟨⟨o1,A1,S1⟩,h1,h⟩:=aA h;have⟨L',hL',hlt,lp,hlp,hst,hpend,hfr,hps,has,hbd,hpb⟩:=hR.blk b _ hb;rw[hL] at hL';cases hL';have⟨hlen,hfr',hsz⟩:=wT hF hargs hfr hpb;have hAl:=hargs.length;have hpl:lp.params.size=ps.length:=by rw[<-hps];simp
 have hrun:(Instr.yield L.r ⟨Args⟩).run P w= .ok (.round L.r lp.fn ((ps.zip Args).foldl (fun tmps (t,a)=>tmps.setIfInBounds t a) lp.tmps) lp.assign lp.body) w:=by
  have hsz':(⟨Args⟩:Array Value).size=lp.params.size:=by simp;omega
  have hfold:(lp.params.zip ⟨Args⟩).foldl (fun tmps (t,a)=>tmps.setIfInBounds t a) lp.tmps=(ps.zip Args).foldl (fun tmps (t,a)=>tmps.setIfInBounds t a) lp.tmps:=by
   rw[<-Array.foldl_toList,Array.toList_zip,hps]
  simp only[Instr.yield,Sem.run_bind,run_getLoop hlp,Result.andThen_ok,hsz',ne_eq,Cr,Bx,Sem.run_pure,hfold]
 rw[hrun];show RoundIn Fence.wide 0 P L.r lp.fn _ lp.assign lp.body w _;refine roundIn_of_wpIn trivial ?_;rw[<-aPC];refine hcode (some L.r) 0 lp.tmps.size lp.assign as has ⟨F,true⟩ S o1 A1 S1 (fun h=>by cases h) h1 [] w.heap.size σ {tmps:=(ps.zip Args).foldl (fun tmps (t,a)=>tmps.setIfInBounds t a) lp.tmps,defers:=[]} w _ hsz Df.nil (Af _) hfr' hR ?_;intro σ1 a1 w1 i1 s1 d1 _ f1 e1;cases o1<;>simp only[aAM,reduceCtorEq] at h;have⟨bl1,hb1,h⟩:=aA h;cases bl1<;>simp only[pK,reduceCtorEq] at h;rename_i st1 pend1 fr1 ps1 as1 bd1;cases st1<;>simp only[reduceCtorEq] at h;have⟨⟨o2,A2,S2⟩,h2,h⟩:=aA h;have⟨bl2,hb2,h⟩:=aA h;have⟨L1,hL1,hlt1,lp1,hlp1,hst1,hpend1,hfr1,hps1,has1,hbd1,hpb1⟩:=e1.rep.blk b _ hb1;have:=e1.mono hR b L hL;rw[this] at hL1;cases hL1;have hbeg:(Instr.beginRound L.r).run P w1= .ok () {w1 with heap:=w1.heap.setIfInBounds L.r (.loop {lp1 with state:=.busy})}:=by
  simp only[Instr.beginRound,Sem.run_bind,run_getLoop hlp1,Result.andThen_ok,nI hlp1 (fun _ _ _ e=>by cases e),hst1,aO4,Sem.run_pure]
 refine⟨_,hbeg,?_⟩;have e2:gM P σ1 S1 w1 σ1 ⟨S1.h.set b (some (.loop .busy pend1 fr1 ps1 as1 bd1)),S1.nx⟩ {w1 with heap:=w1.heap.setIfInBounds L.r (.loop {lp1 with state:=.busy})}:=
  gM.write e1.rep hb1 trivial trivial this (fun r hr=>iP _ hr) (by simp) rfl rfl rfl ⟨_,sT _ hlp1,rfl,hpend1,hfr1,hps1,has1,hbd1,hpb1⟩
 have i1':A1.inr=true:=i1;have h2':ih.code bd A1 ⟨S1.h.set b (some (.loop .busy pend1 fr1 ps1 as1 bd1)),S1.nx⟩=some (o2,A2,S2):=h2;have d1':Df [] w.heap.size A1.inr σ1 S1 w1 a1.defers:=by rw[i1];exact d1
 refine hcode (some L.r) 0 lp.tmps.size lp.body bd hbd A1 _ o2 A2 S2 (fun h=>by rw[i1'] at h;cases h) h2' [] w.heap.size σ1 a1 _ _ s1 (d1'.ext e1.rep e2) (by have:=e1.size;simpa using this) f1 e2.rep ?_;intro σ2 a2 w2 i2 s2 d2 _ f2 e3;cases bl2<;>simp only[qN,reduceCtorEq] at h;rename_i st2 pend2 fr2 ps2 as2 bd2;cases st2<;>simp only[reduceCtorEq] at h;have⟨L2,hL2,hlt2,lp2,hlp2,hst2,hpend2,hfr2,hps2,has2,hbd2,hpb2⟩:=e3.rep.blk b _ hb2;have hL2':=e3.mono e2.rep b L this;rw[hL2'] at hL2;cases hL2;have fin:∀ (p:Option Out) (st:LSt) (j:Option Code) (bb:Bool),aO4 st=(if j.isNone then .ready else .done)->p.bind codeOf=j->bb=j.isNone->v= .bool bb->
   S'=⟨S2.h.set b (some (.loop st p fr2 ps2 as2 bd2)),S2.nx⟩->∃V w',(Instr.endRound L.r j).run P w2= .ok V w'/\∃σ',Rv P σ' v V/\gM P σ S w σ' S' w':=by
  intro p st j bb e1' e2' e3' e4' e5';have hend:(Instr.endRound L.r j).run P w2= .ok (.bool j.isNone) {w2 with heap:=w2.heap.setIfInBounds L.r (.loop {lp2 with state:=if j.isNone then .ready else .done,pending:=j})}:=by
   simp only[Instr.endRound,Sem.run_bind,run_getLoop hlp2,Result.andThen_ok,nI hlp2 (fun _ _ _ e=>by cases e),Sem.run_pure]
  refine⟨_,_,hend,σ2,by rw[e4',e3'];simp only[Rv],?_⟩;rw[e5'];exact e1.trans (e2.trans (e3.trans (gM.write e3.rep hb2 trivial trivial hL2' (fun r hr=>iP _ hr) (by simp) rfl rfl rfl ⟨_,sT _ hlp2,e1'.symm,e2'.symm,hfr2,hps2,has2,hbd2,hpb2⟩)))
 cases o2 with
 | normal=>cases h;exact fin none .ready none true rfl rfl rfl rfl rfl
 | ret=>cases h;exact fin (some .ret) .done (some .ret) false rfl rfl rfl rfl rfl
 | exit id=>cases h;exact fin (some (.exit id)) .done (some (.exit id)) false rfl rfl rfl rfl rfl
theorem aIT{fns:T dD}(hK:qD P fns){n:Nat}(hs:∀k,k<=n->lQ P (ev fns k).code/\iY P (ev fns k).call):iY P (pX fns (ev fns n)):=by
 have hcode:=(hs n (Af n)).1;intro f args S v S' h σ w fv Args hf hargs hR;cases f<;>simp only[pX,reduceCtorEq] at h
 ·rename_i id first cap;have⟨fn,hfn,h⟩:=aA h;rcases hK.fn id fn hfn with⟨Fn,hFn,hc⟩ | hfk | hdf
  case inr.inl=>
   have⟨hle,_⟩:=bJ (show bO (Nat.ble (kL (yE first (yE args cap))) fn.ntmps) _ _=_ from h);rw[hfk.none,eR,fE,fE] at hle;have hz:=Au hle;simp only[Aj] at hz;have h1:first= []:=Cf.1 au;have h2:args= []:=Cf.1 au;have h3:cap= []:=Cf.1 au;subst h1;subst h2;subst h3;have hA:=cT.1 hargs;subst hA;exact hfk.ok n S S' v h σ w fv hf hR
  case inr.inr=>
   obtain⟨Fn,C,rs,c,hFn,hbody,hname,hrs,rfl,hD⟩:=hdf;simp only[Rv] at hf;obtain⟨A,B,rfl,hA,hB⟩:=hf;unfold qC at h;have⟨hle,h⟩:=bJ h;have⟨⟨o,A',S1⟩,h1,h2⟩:=aA h;rw[eR,fE,fE] at hle;have hle:=Au hle;rw[fE,fE] at h1;have hall:iD P σ (first++(args++cap)) (A++(Args++B)):=hA.append (hargs.append hB);rw[iV hFn hbody hname];show CallsIn Fence.wide 0 P id ⟨A++(Args++B)⟩ w _;have⟨hfr,hsz⟩:=vX hall (nt:=Fn.ntmps) hle;refine callsIn_of_wp_marks hFn hbody trivial ?_;have hsz0:(⟨A++(Args++B)⟩:Array Value).size=(A++(Args++B)).length:=rfl;rw[<-aBj,hsz0];unfold aAd at h2;obtain⟨vs,h6,h7⟩:∃vs,results rs A'.F S1.h=some vs/\some (oneOf vs,S1)=some (v,S'):=by
    cases o with
    | normal=>exact aA h2
    | ret=>exact aA h2
    | exit i=>cases h2
   cases h7;refine hD n hs ⟨qB (first++(args++cap)) 0 .e,false⟩ S o A' _ rfl h1 (fun i e=>by subst e;cases h2) σ σ S w w _ _ hsz rfl hfr (gM.refl hR) (Af _) ?_;intro σ' tmps' w' hfr' hx;have⟨Vs,h8,h9⟩:=lA hx.rep hfr' hrs h6;refine⟨_,?_,σ',xO h9,hx⟩;show((do let vs <-Fn.results.mapM (aCw tmps');pure (if h:vs.size=1 then vs[0] else .tuple vs):Sem Value)).run P w'=_;rw[Fe];simp only[Sem.run_bind,Sem.run_map,h8,Result.andThen_ok,Sem.run_pure]
  simp only[Rv] at hf;obtain⟨A,B,rfl,hA,hB⟩:=hf;obtain⟨C,c,rs,hbody,hname,hC,hrs,rfl⟩:=yH hc;unfold qC at h;have⟨hle,h⟩:=bJ h;have⟨⟨o,A',S1⟩,h1,h2⟩:=aA h;rw[eR,fE,fE] at hle;have hle:=Au hle;rw[fE,fE] at h1;have hall:iD P σ (first++(args++cap)) (A++(Args++B)):=hA.append (hargs.append hB);rw[iV hFn hbody hname];show CallsIn Fence.wide 0 P id ⟨A++(Args++B)⟩ w _;have⟨hfr,hsz⟩:=vX hall (nt:=Fn.ntmps) hle;refine callsIn_of_wp_marks hFn hbody trivial ?_;have hsz0:(⟨A++(Args++B)⟩:Array Value).size=(A++(Args++B)).length:=rfl;rw[<-aBj,hsz0];refine hcode none 0 Fn.ntmps C c hC ⟨qB (first++(args++cap)) 0 .e,false⟩ S o A' S1 (fun _=>rfl) h1 [] w.heap.size σ _ w _ hsz Df.nil (Af _) hfr hR ?_;intro σ' a' w' hinr hsz' hdf _ hfr' hext;have⟨_,rks,hd,hnd,hmk⟩:=hdf;rw[Cb] at hd;unfold aAd at h2;obtain⟨vs,h6,h7⟩:∃vs,results rs A'.F S1.h=some vs/\some (oneOf vs,S1)=some (v,S'):=by
   cases o with
   | normal=>exact aA h2
   | ret=>exact aA h2
   | exit i=>cases h2
  cases h7;have fin:∀w'',gM P σ S w σ' S' w''->∃V,(Go.results Fn a'.tmps).run P w''= .ok V w''/\∃σ',Rv P σ' (oneOf vs) V/\gM P σ S w σ' S' w'':=fun w'' hx=>by
   have⟨Vs,h8,h9⟩:=lA hx.rep hfr' hrs h6;refine⟨_,?_,σ',xO h9,hx⟩;show((do let vs <-Fn.results.mapM (aCw a'.tmps);pure (if h:vs.size=1 then vs[0] else .tuple vs):Sem Value)).run P w''=_;rw[Fe];simp only[Sem.run_bind,Sem.run_map,h8,Result.andThen_ok,Sem.run_pure]
  cases o with
  | normal=>
   show LeavesInM Fence.wide 0 P Fn a'.tmps _ a'.defers .returning w';rw[hd];exact leaves rks w' hnd hmk hext fin
  | ret=>
   show LeavesInM Fence.wide 0 P Fn a'.tmps _ a'.defers .returning w';rw[hd];exact leaves rks w' hnd hmk hext fin
  | exit i=>cases h2
 ·rename_i b;have⟨bl,hb,h⟩:=aA h;simp only[Rv] at hf;obtain⟨L,hL,rfl⟩:=hf;have hrun:((do let d <-Deferred.ofValue (.func (.yield L.r) #[] #[]) ⟨Args⟩;invoke d.target d.args:Sem Next)).run P w=(Instr.yield L.r ⟨Args⟩).run P w:=by
   simp [Deferred.ofValue,invoke]
  rw[hrun];exact aH6 hcode hb h hL hargs hR
theorem aDx{fns:T dD}{ro:Option Nat}{m nt:Nat}{C:Code}{c:AC}(hC:iN P nt C=some c):∀ (n:Nat),(∀k,k<n->lQ P (ev fns k).code)->
  ∀ (A:bN) (S:St) (o:Out) (A':bN) (S':St),(A.inr=false->ro=none)->(ev fns n).code (.loop c) A S=some (o,A',S')->
  ∀ (D0:List Deferred) (lo:Nat) (σ:Env) (a:Act) (w:World) (Q:Exit->Act->World->Prop),a.tmps.size=nt->Df D0 lo A.inr σ S w a.defers->lo<=w.heap.size->pV P σ A.F a.tmps->kT P σ S w->
   (∀σ' a' w',A'.inr=A.inr->a'.tmps.size=nt->Df D0 lo A.inr σ' S' w' a'.defers->(sG c=true->a'.defers=a.defers)->pV P σ' A'.F a'.tmps->gM P σ S w σ' S' w'->Q (aDC o) a' w')->Code.roundsIn (Fw ro) m P C Q n a w
 | 0,_,A,S,o,A',S',_,h=>by cases h
 | n+1,hk,A,S,o,A',S',hds,h=>by
  intro D0 lo σ a w Q hsz hdef hlo hF hR hQ;have⟨⟨o1,A1,S1⟩,h1,h2⟩:=aA (show(aU ((ev fns n).code c A S) (kI (.loop c) (ev fns n)))=some (o,A',S') from h);show C.wpIn (Fw ro) m P (Exit.then (Code.roundsIn (Fw ro) m P C Q n) Q) a w;refine hk n (Fj n) ro m nt C c hC A S o1 A1 S1 hds h1 D0 lo σ a w _ hsz hdef hlo hF hR ?_;intro σ1 a1 w1 i1 s1 d1 k1 f1 e1;have⟨F1,q1⟩:=A1;simp only at i1;subst i1;have l1:=Bb hlo e1.size;unfold kI at h2;cases o1 with
  | normal=>exact aDx hC n (fun k hlt=>hk k au) ⟨F1,A.inr⟩ S1 o A' S' hds h2 D0 lo σ1 a1 w1 Q s1 d1 l1 f1 e1.rep (fun σ' a' w' q1 q2 q3 qk q4 q5=>hQ σ' a' w' q1 q2 q3 (fun hr=>(qk hr).trans (k1 hr)) q4 (e1.trans q5))
  | exit i=>cases h2;exact hQ σ1 a1 w1 rfl s1 d1 k1 f1 e1
  | ret=>cases h2;exact hQ σ1 a1 w1 rfl s1 d1 k1 f1 e1
theorem aLC{fns:T dD}(hK:qD P fns){n:Nat}(ih:lQ P (ev fns n).code)(hcall:iY P (ev fns n).call)(_:∀k,n=k+1->lQ P (ev fns k).code){ro:Option Nat}{m nt:Nat}
  {f:Operand} {ps:Array Tmp} {x y:Code} {cf:cP} {cx cy:AC} (hf:fD P f=some cf) (hx:iN P nt x=some cx) (hy:iN P nt y=some cy) (hps:ps.toList.all (fun p=>Nat.blt p nt)=true)
  {A A':bN} {S S':St} {o:Out} (hro:A.inr=false->ro=none) (h:(ev fns (n+1)).code (.rng cf ps.toList cx cy) A S=some (o,A',S'))
  {D0:List Deferred} {lo:Nat} {σ:Env} {a:Act} {w:World} {Q:Exit->Act->World->Prop} (hsz:a.tmps.size=nt) (hdef:Df D0 lo A.inr σ S w a.defers) (hlo:lo<=w.heap.size) (hF:pV P σ A.F a.tmps) (hR:kT P σ S w)
  (hQ:∀σ' a' w',A'.inr=A.inr->a'.tmps.size=nt->Df D0 lo A.inr σ' S' w' a'.defers->pV P σ' A'.F a'.tmps->gM P σ S w σ' S' w'->Q (aDC o) a' w'):(Code.rangeFunc f ps x y).wpIn (Fw ro) m P Q a w:=by
 have h:bO A.inr none (bO (aN4 (cf.val A.F))
  (aU ((ev fns n).call (cf.val A.F) [.yld S.nx] ⟨S.h.set S.nx (some (.loop .ready none A.F ps.toList cx cy)),Nat.succ S.nx⟩) fun r=>
   aU (r.2.h.get S.nx) fun bl=>aAn bl S.nx A r.2 (ev fns n)) none)=some (o,A',S'):=h
 cases hinr:A.inr with
 | true=>rw[hinr,aN] at h;cases h
 | false=>
  rw[hinr,aR] at h;have:=hro hinr;subst this;have⟨hfn,h⟩:=bJ h;have⟨⟨v1,S1⟩,h1,h⟩:=aA h;have⟨bl,hbl,h⟩:=aA h;simp only at hbl h;have hfv:=bM (a:=a) hF hR hf;cases hcf:cf.val A.F<;>rw[hcf] at hfn<;>simp only[aN4,Aw] at hfn;rename_i id first cap;rw[hcf] at hfv h1;have hfv':=hfv;simp only[Rv] at hfv;have⟨FA,FB,hev,hA,hB⟩:=hfv;have hent:∃Fn C,P.funcs[id]? =some Fn/\Fn.body=some C/\¬ (Fn.name== "runtime.NumGoroutine")=true:=by
   cases n with
   | zero=>cases h1
   | succ k=>
    have h1':pX fns (ev fns k) (.fn id first cap) [.yld S.nx] _=some (v1,S1):=h1;simp only[pX] at h1';have⟨fn,hfn',_⟩:=aA h1';rcases hK.fn id fn hfn' with⟨Fn,hFn,hc⟩ | hfk | ⟨Fn,C,_,_,hFn,hbody,hname,_⟩
    ·have⟨C,c,rs,hbody,hname,_⟩:=yH hc;exact⟨Fn,C,hFn,hbody,hname⟩
    ·exact hfk.has
    ·exact⟨Fn,C,hFn,hbody,hname⟩
  have⟨Fn,C,hFn,hbody,hname⟩:=hent;rw[aBj];refine wpIn_rangeFunc fun fnid _=>?_;have ep:gM P σ S w σ S (w.alloc (.deferred (some []))):=by
   have hpush:∀r,r<w.heap.size->(w.alloc (.deferred (some []))).heap[r]? =w.heap[r]? :=fun r hr=>by
    show(w.heap.push _)[r]? =_;rw[Gy,if_neg au]
   have hsize:(w.alloc (.deferred (some []))).heap.size=w.heap.size+1:=by show(w.heap.push _).size=_;simp
   exact⟨⟨fun b bl hb=>by
    have⟨L,q1,q2,q3⟩:=hR.blk b bl hb;exact⟨L,q1,au,q3.frame (fun _ _ x=>x) (hpush _ q2)⟩,hR.lt,hR.fresh,hR.glob,hR.inj⟩,fun _ _=>rfl,Af _,fun r hr _=>hpush r hr,fun _ ho=>.inl ho,au,rfl,rfl,rfl,fun _ _ hb=>hb⟩
  have hsize1:(w.alloc (.deferred (some []))).heap.size=w.heap.size+1:=by show(w.heap.push _).size=_;simp
  have hmk:Mark lo σ S (w.alloc (.deferred (some []))) w.heap.size:=by
   refine⟨hlo,au,?_,fun b bl L hb hL he=>?_⟩
   ·show(w.heap.push _)[w.heap.size]? =_;simp
   ·have⟨L',q1,q2,_⟩:=hR.blk b bl hb;rw[hL] at q1;cases q1;omega
  let lp:Loop:={state:=.ready,pending:=none,fn:=fnid,tmps:=a.tmps,params:=ps,assign:=x,body:=y,defers:=w.heap.size}
  have ea:gM P σ S (w.alloc (.deferred (some []))) (upd σ S.nx ⟨w.heap.size+1,0,0⟩) ⟨S.h.set S.nx (some (.loop .ready none A.F ps.toList cx cy)),Nat.succ S.nx⟩ ((w.alloc (.deferred (some []))).alloc (.loop lp)):=by
   have:=gM.alloc (P:=P) (bl:=.loop .ready none A.F ps.toList cx cy) (e:=0) (ob:=.loop lp) ep.rep (w':=(w.alloc (.deferred (some []))).alloc (.loop lp)) rfl rfl rfl rfl;rw[hsize1] at this;refine this ?_ trivial;refine⟨lp,?_,rfl,rfl,hF.mono (gF (hR.fresh _ (Af _))),rfl,by rw[<-hsz] at hx;exact hx,by rw[<-hsz] at hy;exact hy,fun p hp=>?_⟩
   ·show((w.alloc (.deferred (some []))).heap.push (.loop lp))[w.heap.size+1]? =some (.loop lp);rw[<-hsize1,Array.getElem?_push_size]
   ·have:=Et.1 hps p hp;have:=Au (show Nat.ble (p+1) nt=true from this);show p<a.tmps.size;omega
  have hsl:upd σ S.nx ⟨w.heap.size+1,0,0⟩ S.nx=some ⟨w.heap.size+1,0,0⟩:=upd_same _ _;have e2:=ep.trans ea;have hnext:=hcall (.fn id first cap) [.yld S.nx] _ v1 S1 h1 _ _ (.func (.func id) ⟨FA⟩ ⟨FB⟩) [.func (.yield (w.heap.size+1)) #[] #[]]
   (by rw[hev] at hfv';exact hfv'.mono (e2.mono hR)) (cS.2 ⟨_,_,rfl,by simp only[Rv];exact⟨_,hsl,rfl⟩,cT.2 rfl⟩) e2.rep
  rw[iV hFn hbody hname] at hnext;have hnext:CallsIn Fence.wide 0 P id _ _ _:=hnext;refine⟨w.heap.size+1,[aAH w.heap.size],(w.alloc (.deferred (some []))).alloc (.loop lp),{target:=.fn (.func id) ⟨FB⟩,args:=⟨FA⟩++ #[.func (.yield (w.heap.size+1)) #[] #[]]},(w.alloc (.deferred (some []))).alloc (.loop lp),id,
   ⟨FA++([.func (.yield (w.heap.size+1)) #[] #[]]++FB)⟩,(w.alloc (.deferred (some []))).alloc (.loop lp),?_,?_,fun _ _=>trivial,?_,fun hd=>by simp [Fence.wide] at hd,?_⟩
  ·have n1:∀ (o:Obj) (w:World),(newObj o).run P w= .ok w.heap.size (w.alloc o):=fun _ _=>rfl;simp only[Instr.enterLoop,Fence.wide,Sem.run_bind,n1,Result.andThen_ok,Sem.run_pure,hsize1];rfl
  ·show(Deferred.ofValue (a.eval f) _).run P _=_;rw[hev];simp [Deferred.ofValue,rangeCall,Act.eval]
  ·have:=iV (P:=P) (A:=FA) (B:=FB) (Args:=[.func (.yield (w.heap.size+1)) #[] #[]]) (w:=(w.alloc (.deferred (some []))).alloc (.loop lp)) hFn hbody hname;simpa [Deferred.ofValue] using this
  ·refine aCF (ro:=none) (CallsIn.mono hnext fun e w3 he=>?_);cases e with
   | returned V=>
    have⟨σ3,_,e3⟩:=he;have e13:=e2.trans e3;unfold aAn at h;split at h
    ·rename_i st pend fr ps' as bd;have⟨L,hL,hlt,lp3,hlp3,hst,hpend,hfr,hps3,has,hbd,hpb⟩:=e3.rep.blk S.nx _ hbl;have hL':=e3.mono e2.rep _ _ hsl;rw[hL'] at hL;cases hL;have hnb:(lp3.state== .busy)=false:=by
      rw[hst];cases st<;>first | (simp at h;done) | rfl
     have hpost:∃c,aLR pend=some c/\(ev fns n).code c A ⟨S1.h.set S.nx (some (.loop .exhausted pend fr ps' as bd)),S1.nx⟩=some (o,A',S'):=by
      cases st<;>first | (simp at h;done) | exact aA h
     have⟨c,hc,hcode⟩:=hpost;obtain⟨w4,hw4⟩:∃w4:World,w4= {w3 with heap:=w3.heap.setIfInBounds (w.heap.size+1) (.loop {lp3 with state:=.exhausted})}:=⟨_,rfl⟩;refine⟨lp3.pending,w4,?_,?_⟩
     ·rw[hw4];simp only[Instr.endLoop,Sem.run_bind,run_getLoop hlp3,Result.andThen_ok,hnb,Aw,Bx,nI hlp3 (fun _ _ _ e=>by cases e),Sem.run_pure]
     ·have e4:gM P σ3 S1 w3 σ3 ⟨S1.h.set S.nx (some (.loop .exhausted pend fr ps' as bd)),S1.nx⟩ {w3 with heap:=w3.heap.setIfInBounds (w.heap.size+1) (.loop {lp3 with state:=.exhausted})}:=
       gM.write e3.rep hbl trivial trivial hL' (fun r hr=>iP _ hr) (by simp) rfl rfl rfl ⟨_,sT _ hlp3,rfl,hpend,hfr,hps3,has,hbd,hpb⟩
      rw[<-hw4] at e4;have e14:=e13.trans e4;have hd4:Df D0 lo A.inr σ3 ⟨S1.h.set S.nx (some (.loop .exhausted pend fr ps' as bd)),S1.nx⟩ w4 ([aAH w.heap.size]++a.defers):=by
       have⟨_,rs,d1,d2,d3⟩:=hdef;refine⟨fun hh=>(by rw[hinr] at hh;cases hh),w.heap.size::rs,(by rw[d1];rfl),List.nodup_cons.2 ⟨fun hm=>?_,d2⟩,fun r hr=>?_⟩
       ·exact absurd (d3 _ hm).lt au
       ·rcases Br.1 hr with rfl | hr
        ·exact(hmk.ext ep.rep (ea.trans (e3.trans e4)))
        ·exact(d3 r hr).ext hR e14
      have hfin:=ih none m nt;have hA4:pV P σ3 A.F a.tmps:=hF.mono (e14.mono hR);have hlo4:=Bb hlo e14.size;rw[hpend];cases pend with
      | none=>
       cases hc;cases n with
       | zero=>cases hcode
       | succ k=>
        cases hcode;exact hQ σ3 _ _ rfl hsz hd4 hA4 e14
      | some out=>
       cases out with
       | normal=>cases hc
       | ret=>
        cases hc;exact hfin .ret .ret rfl A _ o A' S' (fun _=>rfl) hcode D0 lo σ3 {a with defers:=[aAH w.heap.size]++a.defers} _ Q hsz hd4 hlo4 hA4 e4.rep (fun σ' a' w' q1 q2 q3 _ q4 q5=>hQ σ' a' w' q1 q2 q3 q4 (e14.trans q5))
       | exit i=>
        cases hc;exact hfin (.exit i) (.exit i) rfl A _ o A' S' (fun _=>rfl) hcode D0 lo σ3 {a with defers:=[aAH w.heap.size]++a.defers} _ Q hsz hd4 hlo4 hA4 e4.rep (fun σ' a' w' q1 q2 q3 _ q4 q5=>hQ σ' a' w' q1 q2 q3 q4 (e14.trans q5))
    ·cases h
   | _=>exact he.elim
theorem iM{a b:Bool}(h:(a && b)=true):a=true/\b=true:=by
 cases a<;>cases b<;>simp_all
theorem aMl{fns:T dD}(hK:qD P fns){n:Nat}(ihn:∀k,k<n+1->lQ P (ev fns k).code)(hcall:iY P (ev fns n).call):lQ P (ev fns (n+1)).code:=by
   have ih:=ihn n (Fj n);intro ro m nt C c hC A S o A' S' hds h D0 lo σ a w Q hsz hdef hlo hF hR hQ;cases C with
   | skip=>
    cases hC;cases h;exact wpIn_skip (hQ σ a w rfl hsz hdef (fun _=>rfl) hF (gM.refl hR))
   | seq x y=>
    simp only[iN] at hC;split at hC
    ·rename_i cx cy hx hy;cases hC;have⟨⟨o1,A1,S1⟩,h1,h2⟩:=aA (show(aU ((ev fns n).code cx A S) (kI cy (ev fns n)))=some (o,A',S') from h);refine wpIn_seq (ih ro m nt x cx hx A S o1 A1 S1 hds h1 D0 lo σ a w _ hsz hdef hlo hF hR ?_);intro σ1 a1 w1 i1 s1 d1 k1 f1 e1;have⟨F1,q1⟩:=A1;simp only at i1;subst i1;have l1:=Bb hlo e1.size;unfold kI at h2;cases o1 with
     | normal=>exact ih ro m nt y cy hy ⟨F1,A.inr⟩ S1 o A' S' hds h2 D0 lo σ1 a1 w1 Q s1 d1 l1 f1 e1.rep (fun σ' a' w' q1 q2 q3 qk q4 q5=>hQ σ' a' w' q1 q2 q3 (fun hr=>by have⟨u1,u2⟩:=iM hr;exact(qk u2).trans (k1 u1)) q4 (e1.trans q5))
     | exit i=>cases h2;exact hQ σ1 a1 w1 rfl s1 d1 (fun hr=>k1 (iM hr).1) f1 e1
     | ret=>cases h2;exact hQ σ1 a1 w1 rfl s1 d1 (fun hr=>k1 (iM hr).1) f1 e1
    ·cases hC
   | cond x y z=>
    simp only[iN] at hC;split at hC
    ·rename_i cc cy cz hx hy hz;cases hC;have h:qT (cc.val A.F) cy cz (ev fns n) A S=some (o,A',S'):=h;have hv:=bM (a:=a) hF hR hx;unfold qT at h;split at h
     ·rename_i t ht;rw[ht] at hv;simp only[Rv] at hv;refine wpIn_cond hv ?_;cases t
      ·exact ih ro m nt z cz hz A S o A' S' hds h D0 lo σ a w Q hsz hdef hlo hF hR fun σ' a' w' q1 q2 q3 qk=>hQ σ' a' w' q1 q2 q3 fun hr=>qk (iM hr).2
      ·exact ih ro m nt y cy hy A S o A' S' hds h D0 lo σ a w Q hsz hdef hlo hF hR fun σ' a' w' q1 q2 q3 qk=>hQ σ' a' w' q1 q2 q3 fun hr=>qk (iM hr).1
     ·cases h
    ·cases hC
   | block id x=>
    simp only[iN,Ax] at hC;obtain⟨cx,hx,rfl⟩:=hC;have⟨⟨o1,A1,S1⟩,h1,h2⟩:=aA (show(aU ((ev fns n).code cx A S) (jH id))=some (o,A',S') from h);refine wpIn_block (ih ro m nt x cx hx A S o1 A1 S1 hds h1 D0 lo σ a w _ hsz hdef hlo hF hR ?_);intro σ1 a1 w1 i1 s1 d1 k1 f1 e1;have⟨F1,q1⟩:=A1;simp only at i1;subst i1;have l1:=Bb hlo e1.size;unfold jH at h2;cases o1 with
    | normal=>cases h2;exact hQ σ1 a1 w1 rfl s1 d1 k1 f1 e1
    | ret=>cases h2;exact hQ σ1 a1 w1 rfl s1 d1 k1 f1 e1
    | exit i=>
     simp only at h2;rw[bQ] at h2;show(if i=id then Q .normal a1 w1 else Q (.exit i) a1 w1);split at h2
     ·rename_i he;rw[Az] at he;rw[if_pos he];cases h2;exact hQ σ1 a1 w1 rfl s1 d1 k1 f1 e1
     ·rename_i he;rw[Az] at he;rw[if_neg he];cases h2;exact hQ σ1 a1 w1 rfl s1 d1 k1 f1 e1
   | loop x=>
    simp only[iN,Ax] at hC;obtain⟨cx,hx,rfl⟩:=hC;exact wpIn_loop_rounds (n+1) (aDx hx (n+1) ihn A S o A' S' hds h D0 lo σ a w Q hsz hdef hlo hF hR hQ)
   | exit id=>
    cases hC;cases h;exact wpIn_exit (hQ σ a w rfl hsz hdef (fun _=>rfl) hF (gM.refl hR))
   | ret=>
    cases hC;cases h;exact wpIn_ret (hQ σ a w rfl hsz hdef (fun _=>rfl) hF (gM.refl hR))
   | region id ops d=>
    simp only[iN,Ba] at hC;split at hC
    ·rename_i hd;subst hd;obtain⟨aos,rfl⟩:∃aos,c= .drw aos:=by
      unfold aC4 at hC;split at hC
      ·rw[Ba] at hC;split at hC
       ·cases hC;exact⟨_,rfl⟩
       ·cases hC
      ·cases hC
     have⟨⟨F1,S1⟩,h1,h2⟩:=aA (show(aU (nT aos (ev fns n).call A.F S) fun r=>some (Out.normal,(⟨r.1,A.inr⟩:bN),r.2))=some (o,A',S') from h);cases h2;exact hK.drawn _ hcall ro m nt id ops aos hC σ A.F F1 S S1 a w Q hsz hF hR h1 (fun σ' a' w' q1 q2 q3 q4=>hQ σ' a' w' rfl q2 (by rw[q3];exact hdef.ext hR q4) (fun _=>q3) q1 q4)
    ·rename_i hd;have hd:d=false:=by simpa using hd
     subst hd;obtain⟨aos,haos,rfl⟩:=Ax.1 hC;have⟨⟨F1,S1⟩,h1,h2⟩:=aA (show(aU (lF aos (ev fns n).call A.F S) fun r=>some (Out.normal,(⟨r.1,A.inr⟩:bN),r.2))=some (o,A',S') from h);cases h2;refine wpIn_region ?_;rw[List.range_eq_range',<-Eo];exact sF hK.asked hK.bits hcall ops.toList 0 [] aos σ A.F F1 S S1 a w (fun j _=>by simp) haos hsz hF hR h1 (fun σ' a' w' q1 q2 q3 q4=>hQ σ' a' w' rfl q2 (by rw[q3];exact hdef.ext hR q4) (fun _=>q3) q1 q4)
   | rangeFunc f ps x y=>
    simp only[iN,Ba] at hC;split at hC
    ·rename_i hps;split at hC
     ·rename_i cf cx cy hf hx hy;cases hC;exact aLC hK ih hcall (fun k hk=>by subst hk;exact ihn k au) hf hx hy hps hds h hsz hdef hlo hF hR fun σ' a' w' q1 q2 q3=>hQ σ' a' w' q1 q2 q3 fun hr=>by cases hr
     ·cases hC
    ·cases hC
   | scope x=>cases hC
   | label l=>cases hC
   | goto l=>cases hC
   | refuse s=>cases hC
theorem aQH{fns:T dD}(hK:qD P fns)(n:Nat):lQ P (ev fns n).code/\iY P (ev fns n).call:=by
 induction n using Nat.strongRecOn with
 | _ n ihn=>
  cases n with
  | zero=>exact⟨(fun ro m nt C c hC A S o A' S' hds h=>by cases h),(fun f args S v S' h=>by cases h)⟩
  | succ n=>exact⟨aMl hK (fun k hk=>(ihn k hk).1) (ihn n (Fj n)).2,aIT hK fun k hk=>ihn k au⟩
theorem aDQ{fns:T dD}(hK:qD P fns)(n:Nat):lQ P (ev fns n).code:=(aQH hK n).1
theorem aM8{fns:T dD}(hK:qD P fns)(n:Nat):iY P (ev fns n).call:=(aQH hK n).2
end Go.Ev
namespace Go.Ev
variable {P:Program}
theorem aGj{k:Nat}{d:Option Nat}(h:kpD k d=true)(F:Fr)(v:AV):aB k (cJ d F v)=aB k F:=by
 cases d with
 | none=>rfl
 | some i=>
  show aB k (F.set i (some v))=_;rw[rR,if_neg];rintro rfl;simp [kpD] at h
theorem aOi{op:AOp}{d:Option Nat}{call:dR}{F F':Fr}{S S':St}{k:Nat}(h:oOp op d call F S=some (F',S')):∃v,F'=cJ d F v:=by
 cases op with
 | q q=>
  have⟨v,_,h2⟩:=aA (show aU (iT q F S.h) (fun v=>some (cJ d F v,S))=some (F',S') from h);cases h2;exact⟨_,rfl⟩
 | a a=>
  have⟨v,_,h2⟩:=aA (show(aU (tA a F S.nx) fun r=>some (cJ d F r.1,(⟨S.h.set S.nx (some r.2),Nat.succ S.nx⟩:St)))=some (F',S') from h);cases h2;exact⟨_,rfl⟩
 | x x=>
  have⟨v,_,h2⟩:=aA (show(aU (xN x call F S) fun r=>some (cJ d F r.1,r.2))=some (F',S') from h);cases h2;exact⟨_,rfl⟩
theorem aD8{call:dR}{k:Nat}:∀ {l:List AO} {F F':Fr} {S S':St},kpO k l=true->lF l call F S=some (F',S')->aB k F'=aB k F
 | [],F,F',S,S',_,h=>by cases h;rfl
 | o::l,F,F',S,S',hk,h=>by
  have⟨h1,h2⟩:=iM (show(kpD k o.dst && kpO k l)=true from hk);rw[fF] at h;have⟨⟨F1,S1⟩,e1,e2⟩:=aA h;rw[aD8 h2 e2];unfold yK at e1;rw[bQ] at e1;split at e1
  ·obtain⟨v,rfl⟩:=aOi (k:=k) e1;exact aGj h1 F v
  ·cases e1;exact aGj h1 F _
theorem aNH{o:AO}{i base:Nat}{call:dR}{D D':DS}(h:dOp o.op o i base call D=some D'):∃v,D'.F=cJ o.dst D.F v:=by
 cases hop:o.op with
 | q q=>
  rw[hop] at h;have⟨v,_,h2⟩:=aA (show(aU (iT q D.F D.S.h) fun v=>some (⟨cJ o.dst D.F v,D.S,D.ps,D.hs,bO (dK q) (⟨q,D.F,v,i,o.mask⟩::D.ls) D.ls⟩:DS))=some D' from h);cases h2;exact⟨_,rfl⟩
 | a a=>
  rw[hop] at h;have⟨v,_,h2⟩:=aA (show(aU (tA a D.F (base+i)) fun r=>some (⟨cJ o.dst D.F r.1,D.S,⟨i,base+i,r.2⟩::D.ps,D.hs,D.ls⟩:DS))=some D' from h);cases h2;exact⟨_,rfl⟩
 | x x=>
  rw[hop] at h;have⟨_,h⟩:=bJ (show bO (jE D.hs o.mask) (aU (xN x call D.F ⟨(cG o.mask D.ps D.S.h).2,D.S.nx⟩) fun r=>
   some (⟨cJ o.dst D.F r.1,r.2,(cG o.mask D.ps D.S.h).1,(i,o.mask,r.2.h)::D.hs,D.ls⟩:DS)) none=some D' from h)
  have⟨v,_,h2⟩:=aA h;cases h2;exact⟨_,rfl⟩
theorem aFJ{base:Nat}{call:dR}{k:Nat}:∀ {l:List AO} {i:Nat} {D D':DS},kpO k l=true->rG l i base call D=some D'->aB k D'.F=aB k D.F
 | [],i,D,D',_,h=>by cases h;rfl
 | o::l,i,D,D',hk,h=>by
  have⟨h1,h2⟩:=iM (show(kpD k o.dst && kpO k l)=true from hk);have⟨D1,e1,e2⟩:=aA (show(aU (tB o i base call D) fun D'=>rG l (i+1) base call D')=some D' from h);rw[aFJ h2 e2];unfold tB at e1;rw[bQ] at e1;split at e1
  ·have⟨v,e⟩:=aNH e1;rw[e];exact aGj h1 D.F v
  ·cases e1;exact aGj h1 D.F _
theorem aF3{call:dR}{k:Nat}{l:List AO}{F F':Fr}{S S':St}(hk:kpO k l=true)(h:nT l call F S=some (F',S')):aB k F'=aB k F:=by
 have⟨D,h1,h2⟩:=aA (show(aU (rG l 0 S.nx call ⟨F,⟨S.h,S.nx+kL l⟩,[],[],[]⟩) fun D=>tL S.h (kL l) D)=some (F',S') from h);have⟨_,h3⟩:=bJ (show bO (fT S.h D.hs.reverse D.ls) (some (D.F,(⟨(cG (2 ^ kL l - 1) D.ps D.S.h).2,D.S.nx⟩:St))) none=some (F',S') from h2);cases h3;exact aFJ hk h1
theorem aL9{fns:T dD}{k:Nat}:∀ (n:Nat) (c:AC) (A:bN) (S:St) (o:Out) (A':bN) (S':St),pG k c=true->(ev fns n).code c A S=some (o,A',S')->aB k A'.F=aB k A.F:=by
 intro n
 induction n with
 | zero=>intro c A S o A' S' _ h;cases h
 | succ n ih=>
  intro c A S o A' S' hk h;cases c with
  | skip=>cases h;rfl
  | seq a b=>
   have⟨k1,k2⟩:=iM (show(pG k a && pG k b)=true from hk);have⟨⟨o1,A1,S1⟩,h1,h2⟩:=aA (show(aU ((ev fns n).code a A S) (kI b (ev fns n)))=some (o,A',S') from h);have e1:=ih a A S o1 A1 S1 k1 h1;unfold kI at h2;cases o1 with
   | normal=>rw[ih b A1 S1 o A' S' k2 h2,e1]
   | exit i=>cases h2;exact e1
   | ret=>cases h2;exact e1
  | cond c a b=>
   have⟨k1,k2⟩:=iM (show(pG k a && pG k b)=true from hk);have h:qT (c.val A.F) a b (ev fns n) A S=some (o,A',S'):=h;unfold qT at h;split at h
   ·rename_i t _;cases t
    ·exact ih b A S o A' S' k2 h
    ·exact ih a A S o A' S' k1 h
   ·cases h
  | block id a=>
   have⟨⟨o1,A1,S1⟩,h1,h2⟩:=aA (show(aU ((ev fns n).code a A S) (jH id))=some (o,A',S') from h);have e1:=ih a A S o1 A1 S1 hk h1;unfold jH at h2;cases o1 with
   | normal=>cases h2;exact e1
   | ret=>cases h2;exact e1
   | exit i=>
    simp only at h2;rw[bQ] at h2;split at h2<;>(cases h2;exact e1)
  | loop a=>
   have⟨⟨o1,A1,S1⟩,h1,h2⟩:=aA (show(aU ((ev fns n).code a A S) (kI (.loop a) (ev fns n)))=some (o,A',S') from h);have e1:=ih a A S o1 A1 S1 hk h1;unfold kI at h2;cases o1 with
   | normal=>rw[ih (.loop a) A1 S1 o A' S' hk h2,e1]
   | exit i=>cases h2;exact e1
   | ret=>cases h2;exact e1
  | exit id=>cases h;rfl
  | ret=>cases h;rfl
  | reg l=>
   have⟨⟨F1,S1⟩,h1,h2⟩:=aA (show(aU (lF l (ev fns n).call A.F S) fun r=>some (Out.normal,(⟨r.1,A.inr⟩:bN),r.2))=some (o,A',S') from h);cases h2;exact aD8 hk h1
  | drw l=>
   have⟨⟨F1,S1⟩,h1,h2⟩:=aA (show(aU (nT l (ev fns n).call A.F S) fun r=>some (Out.normal,(⟨r.1,A.inr⟩:bN),r.2))=some (o,A',S') from h);cases h2;exact aF3 hk h1
  | rng f ps a b=>cases hk
  | dfr l f as=>cases hk
def qF(K:Nat):Out->Out
 | .exit i=>if i=K then .ret else .exit i
 | o=>o
theorem aFa{K i:Nat}(h:(!(Nat.beq i K))=true):i≠K:=by
 rintro rfl;simp at h
theorem aEi{K i:Nat}(h:i≠K):qF K (.exit i)= .exit i:=if_neg h
theorem aKJ{K:Nat}:qF K (.exit K)= .ret:=if_pos rfl
theorem aEF{K i:Nat}:qF K (.exit i)= .ret\/qF K (.exit i)= .exit i:=by
 by_cases h:i=K
 ·exact .inl (if_pos h)
 ·exact .inr (if_neg h)
theorem aJP{fns:T dD}{K:Nat}:∀ (n:Nat) (c:AC) (A:bN) (S:St) (o:Out) (A':bN) (S':St),rY K c=true->(ev fns n).code (oD K c) A S=some (o,A',S')->o≠ .ret/\(ev fns n).code c A S=some (qF K o,A',S'):=by
 intro n
 induction n with
 | zero=>intro c A S o A' S' _ h;cases h
 | succ n ih=>
  intro c A S o A' S' hk h;cases c with
  | skip=>cases h;exact⟨fun e=>(by cases e),rfl⟩
  | seq a b=>
   have⟨k1,k2⟩:=iM (show(rY K a && rY K b)=true from hk);have⟨⟨o1,A1,S1⟩,h1,h2⟩:=aA (show(aU ((ev fns n).code (oD K a) A S) (kI (oD K b) (ev fns n)))=some (o,A',S') from h);have⟨n1,e1⟩:=ih a A S o1 A1 S1 k1 h1;show o≠ .ret/\aU ((ev fns n).code a A S) (kI b (ev fns n))=_;rw[e1];unfold kI at h2;cases o1 with
   | normal=>exact ih b A1 S1 o A' S' k2 h2
   | exit i=>
    cases h2;refine⟨n1,?_⟩;show kI b (ev fns n) (qF K (.exit i),_,_)=_;rcases aEF (K:=K) (i:=i) with e | e<;>rw[e]<;>rfl
   | ret=>exact absurd rfl n1
  | cond c a b=>
   have⟨k1,k2⟩:=iM (show(rY K a && rY K b)=true from hk);have h:qT (c.val A.F) (oD K a) (oD K b) (ev fns n) A S=some (o,A',S'):=h;show o≠ .ret/\qT (c.val A.F) a b (ev fns n) A S=_;unfold qT at h ⊢;split at h
   ·rename_i t e;cases t
    ·exact ih b A S o A' S' k2 h
    ·exact ih a A S o A' S' k1 h
   ·cases h
  | block id a=>
   have⟨k0,k1⟩:=iM (show(!(Nat.beq id K) && rY K a)=true from hk);have k0:=aFa k0;have⟨⟨o1,A1,S1⟩,h1,h2⟩:=aA (show(aU ((ev fns n).code (oD K a) A S) (jH id))=some (o,A',S') from h);have⟨n1,e1⟩:=ih a A S o1 A1 S1 k1 h1;show o≠ .ret/\aU ((ev fns n).code a A S) (jH id)=_;rw[e1];unfold jH at h2;cases o1 with
   | normal=>cases h2;exact⟨fun e=>(by cases e),rfl⟩
   | ret=>exact absurd rfl n1
   | exit i=>
    simp only at h2;rw[bQ] at h2;split at h2
    ·rename_i e;rw[Az] at e;cases h2;refine⟨fun e=>(by cases e),?_⟩;show jH id (qF K (.exit i),_,_)=_;rw[aEi (by rw[e];exact k0)];show bO (Nat.beq i id) _ _=_;rw[bQ,if_pos (by rw[Az];exact e)];rfl
    ·rename_i e;cases h2;refine⟨fun e=>(by cases e),?_⟩;show jH id (qF K (.exit i),_,_)=some (qF K (.exit i),_,_);rcases aEF (K:=K) (i:=i) with e2 | e2
     ·rw[e2];rfl
     ·rw[e2];show bO (Nat.beq i id) _ _=_;rw[bQ,if_neg e]
  | loop a=>
   have⟨⟨o1,A1,S1⟩,h1,h2⟩:=aA (show(aU ((ev fns n).code (oD K a) A S) (kI (.loop (oD K a)) (ev fns n)))=some (o,A',S') from h);have⟨n1,e1⟩:=ih a A S o1 A1 S1 hk h1;show o≠ .ret/\aU ((ev fns n).code a A S) (kI (.loop a) (ev fns n))=_;rw[e1];unfold kI at h2;cases o1 with
   | normal=>exact ih (.loop a) A1 S1 o A' S' hk h2
   | exit i=>
    cases h2;refine⟨n1,?_⟩;show kI (.loop a) (ev fns n) (qF K (.exit i),_,_)=_;rcases aEF (K:=K) (i:=i) with e | e<;>rw[e]<;>rfl
   | ret=>exact absurd rfl n1
  | exit id=>
   have k0:=aFa (show(!(Nat.beq id K))=true from hk);cases h;refine⟨fun e=>(by cases e),?_⟩;show some (Out.exit id,A,S)=some (qF K (.exit id),A,S);rw[aEi k0]
  | ret=>
   cases h;refine⟨fun e=>(by cases e),?_⟩;show some (Out.ret,A,S)=some (qF K (.exit K),A,S);rw[aKJ]
  | reg l=>
   have⟨⟨F1,S1⟩,h1,h2⟩:=aA (show(aU (lF l (ev fns n).call A.F S) fun r=>some (Out.normal,(⟨r.1,A.inr⟩:bN),r.2))=some (o,A',S') from h);cases h2;exact⟨fun e=>(by cases e),h⟩
  | drw l=>
   have⟨⟨F1,S1⟩,h1,h2⟩:=aA (show(aU (nT l (ev fns n).call A.F S) fun r=>some (Out.normal,(⟨r.1,A.inr⟩:bN),r.2))=some (o,A',S') from h);cases h2;exact⟨fun e=>(by cases e),h⟩
  | rng f ps a b=>cases hk
  | dfr l f as=>cases h
end Go.Ev
namespace Go.Ev
variable {P:Program}
theorem aIb{F:Fence}{n:Nat}{o:Oper}{a:Act}{next next':Act->World->Prop}{Q Q':Exit->Act->World->Prop}(hp:∀c a w,Q' (.panic c) a w->Q (.panic c) a w)(ho:∀a w,Q' .outgrown a w->Q .outgrown a w)(hn:∀a w,next' a w->next a w){r:Result Next}(h:o.uponIn F n P a next' Q' r):o.uponIn F n P a next Q r:=by
 cases r with
 | ok nx w'=>
  cases nx with
  | value v=>exact hn _ _ h
  | skip=>exact hn _ _ h
  | defer d=>exact hn _ _ h
  | enter f args=>
   refine⟨h.1,CallsIn.mono h.2 fun e w2 he=>?_⟩;cases e with
   | returned v=>exact hn _ _ he
   | panicked c=>exact hp _ _ _ he
   | outgrown=>have⟨a2,w3,h3⟩:=he;exact⟨a2,w3,ho _ _ h3⟩
  | row row args=>exact⟨h.1,RowsIn.mono h.2 fun v w2 he=>hn _ _ he⟩
  | round l f tmps asn bd=>
   refine⟨h.1,RoundIn.mono h.2 fun e w2 he=>?_⟩;cases e with
   | returned v=>exact hn _ _ he
   | panicked c=>exact hp _ _ _ he
   | outgrown=>have⟨a2,w3,h3⟩:=he;exact⟨a2,w3,ho _ _ h3⟩
  | _=>exact h
 | halt e w'=>
  cases e with
  | panic v=>exact hp _ _ _ h
  | _=>exact h
def aSY(N:Act->World->Prop)(Q:Exit->Act->World->Prop):Exit->Act->World->Prop
 | .normal,a,w=>N a w
 | e,a,w=>Q e a w
theorem sO{F:Fence}{n:Nat}{ops:Array Oper}{Q:Exit->Act->World->Prop}{tl:bt}:∀ (l:bt) (a:Act) (w:World),wpOpsIn F n P ops (aSY (wpOpsIn F n P ops Q tl) Q) l a w->wpOpsIn F n P ops Q (l++tl) a w
 | [],a,w,h=>h
 | i::l,a,w,h=>by
  simp only[wpOpsIn,Cu] at h ⊢;split at h
  ·rename_i e;exact sO l a w h
  ·rename_i o e;split at h
   ·rename_i hw;rw[if_pos hw];exact⟨h.1,aIb (fun c a w h=>h) (fun a w h=>h) (fun a w h=>sO l a w h) h.2⟩
   ·rename_i hw;rw[if_neg hw];exact⟨h.1,sO l _ w h.2⟩
theorem aKI{fn:Func}{n:Nat}{tmps:Array Value}{R:Ending->World->Prop}{D0:List Deferred}{σ0 σ:Env}{S0 S:St}{w0:World}:∀ (rs:bt) (w:World),rs.Nodup->(∀r∈rs,Mark w0.heap.size σ S w r)->gM P σ0 S0 w0 σ S w->
  (∀w',gM P σ0 S0 w0 σ S w'->LeavesInM Fence.wide n P fn tmps R D0 .returning w')->LeavesInM Fence.wide n P fn tmps R (rs.map aAH++D0) .returning w
 | [],w,_,_,he,hQ=>hQ w he
 | r::rs,w,hn,hm,he,hQ=>by
  have hr:=hm r (by simp);rw[List.nodup_cons] at hn;refine⟨by simp,.inl ⟨r,{w with heap:=w.heap.setIfInBounds r (.deferred none)},rfl,?_,?_⟩⟩
  ·simp only[Instr.takeDeferred,Sem.run_bind,vA hr.cell (fun _ _ _ e=>by cases e),Result.andThen_ok,nI hr.cell (fun _ _ _ e=>by cases e),Sem.run_pure]
  ·refine aKI rs _ hn.2 (fun r' hr'=>?_) (he.poke hr.low hr.off (fun r' h=>iP _ h) (by simp) rfl rfl rfl) hQ;have h1:=hm r' (by simp [hr']);have hne:r'≠r:=fun e=>hn.1 (e ▸ hr');exact⟨h1.low,by simpa using h1.lt,by rw[iP _ hne];exact h1.cell,h1.off⟩
theorem aSC{fns:T dD}{n:Nat}(hcode:lQ P (ev fns n).code){id:Nat}{Fn:Func}{fn:dD}(hfn:fns.get id=some fn)(hFn:P.funcs[id]? =some Fn)(hc:cFn P Fn=some fn)(hr:sG fn.body=true)
  {first cap:bo} {S S':St} {v:AV} (h:pX fns (ev fns n) (.fn id first cap) [] S=some (v,S')) {σ:Env} {w:World} {A B:List Value} (hA:iD P σ first A) (hB:iD P σ cap B) (hR:kT P σ S w):
  CallsDIn Fence.wide 0 P id ⟨A++B⟩ .returning w fun e u' w'=>u'= .returning/\∃V,e= .returned V/\∃σ',gM P σ S w σ' S' w':=by
 have⟨fn',hfn',h⟩:=aA (show(aU (fns.get id) fun fn=>qC fn (yE first (yE [] cap)) (ev fns n) S)=some (v,S') from h);rw[hfn] at hfn';cases hfn';obtain⟨C,c,rs,hbody,hname,hC,hrs,rfl⟩:=yH hc;unfold qC at h;have⟨hle,h⟩:=bJ h;have⟨⟨o,A',S1⟩,h1,h2⟩:=aA h;rw[eR,fE,fE] at hle;have hle:=Au hle;rw[fE,fE] at h1;have hall:iD P σ (first++([]++cap)) (A++B):=hA.append hB;have⟨hfr,hsz⟩:=vX hall (nt:=Fn.ntmps) hle;have hsz0:(⟨A++B⟩:Array Value).size=(A++B).length:=rfl;refine callsDIn_of_wp (R:=fun e w'=>∃V,e= .returned V/\∃σ',gM P σ S w σ' S' w') hFn hbody trivial ?_;rw[<-aBj,hsz0];refine hcode none 0 Fn.ntmps C c hC ⟨qB (first++([]++cap)) 0 .e,false⟩ S o A' S1 (fun _=>rfl) h1 [] w.heap.size σ _ w _ hsz Df.nil (Af _) hfr hR ?_;intro σ' a' w' hinr hsz' hdf hkeep hfr' hext;have hd:a'.defers= []:=hkeep hr;unfold aAd at h2;obtain⟨vs,h6,h7⟩:∃vs,results rs A'.F S1.h=some vs/\some (oneOf vs,S1)=some (v,S'):=by
  cases o with
  | normal=>exact aA h2
  | ret=>exact aA h2
  | exit i=>cases h2
 cases h7;have fin:∃V,(Go.results Fn a'.tmps).run P w'= .ok V w':=by
  have⟨Vs,h8,h9⟩:=lA hext.rep hfr' hrs h6;refine⟨if h:Vs.toArray.size=1 then Vs.toArray[0] else .tuple Vs.toArray,?_⟩;show((do let vs <-Fn.results.mapM (aCw a'.tmps);pure (if h:vs.size=1 then vs[0] else .tuple vs):Sem Value)).run P w'=_;rw[Fe];simp only[Sem.run_bind,Sem.run_map,h8,Result.andThen_ok,Sem.run_pure]
 have⟨V,hV⟩:=fin;cases o with
 | normal=>exact⟨hd,V,hV,V,rfl,σ',hext⟩
 | ret=>exact⟨hd,V,hV,V,rfl,σ',hext⟩
 | exit i=>cases h2
end Go.Ev
namespace Go.Ev
variable {P:Program}
theorem aA2.seq{fns:T dD}{Fn:Func}{x y:Code}{cx cy:AC}(hx:iN P Fn.ntmps x=some cx)(hr:sG cx=true)(hy:aA2 P fns Fn y cy):aA2 P fns Fn (.seq x y) (.seq cx cy):=by
 intro n hk A S o A' S' hinr h ho σ0 σ S0 w0 w a R hsz hd hF he hlo hQ;cases n with
 | zero=>cases h
 | succ n=>
  have⟨⟨o1,A1,S1⟩,h1,h2⟩:=aA (show(aU ((ev fns n).code cx A S) (kI cy (ev fns n)))=some (o,A',S') from h);refine wpIn_seq ((hk n au).1 none 0 Fn.ntmps x cx hx A S o1 A1 S1 (fun _=>rfl) h1 [] w0.heap.size σ a w _ hsz (by rw[hd];exact Df.nil) hlo hF he.rep ?_);intro σ1 a1 w1 i1 s1 d1 k1 f1 e1;have hd1:a1.defers= []:=(k1 hr).trans hd;unfold kI at h2;cases o1 with
  | normal=>exact hy n (fun k h=>hk k au) A1 S1 o A' S' (i1.trans hinr) h2 ho σ0 σ1 S0 w0 w1 a1 R s1 hd1 f1 (he.trans e1) (Bb hlo e1.size) hQ
  | exit i=>cases h2;exact absurd rfl (ho i)
  | ret=>
   cases h2;show LeavesInM Fence.wide 0 P Fn a1.tmps R a1.defers .returning w1;rw[hd1];exact hQ σ1 a1.tmps w1 f1 (he.trans e1)
theorem aL3{idc:Nat}{Fnc:Func}{C:Code}{VA VB:List Value}{w:World}(hFn:P.funcs[idc]? =some Fnc)(hbody:Fnc.body=some C)(hname:¬ (Fnc.name== "runtime.NumGoroutine")=true):(invoke (.fn (.func idc) ⟨VB⟩) (⟨VA⟩++ #[])).run P w= .ok (.enter idc ⟨VA++VB⟩) w:=by
 have h:=iV (P:=P) (A:=VA) (B:=VB) (Args:=[]) (w:=w) hFn hbody hname;simpa [Deferred.ofValue] using h
theorem aA2.dfr{fns:T dD}{Fn:Func}{rid:Nat}{ops:Array Oper}{l:List Oper}{f:Operand}{ts:Array TypeId}{ty:TypeId}{pos:String}{after:Array Edge}{aos:List AO}{K k:Nat}{y:Code}{cy:AC}{idc:Nat}{Fnc:Func}{fnc:dD}
  (hA:tZ P) (hB:jX P) (hops:ops.toList=l++ [⟨none,.defer ⟨.value f, #[],ts⟩,ty,pos,after,none⟩]) (haos:qA P Fn.ntmps ops l []=some aos) (hf:fD P f=some (.t k)) (hy:iN P Fn.ntmps y=some cy) (hK:rY K cy=true) (hk:pG k cy=true)
  (hfn:fns.get idc=some fnc) (hFn:P.funcs[idc]? =some Fnc) (hc:cFn P Fnc=some fnc) (hrng:sG fnc.body=true) (hmk:∀ (call:dR) (F:Fr) (S:St) (F':Fr) (S':St),lF aos call F S=some (F',S')->∃first cap,aB k F'= .fn idc first cap):
  aA2 P fns Fn (.seq (.region rid ops false) y) (.seq (.reg aos) (.seq (.block K (oD K cy)) (.reg [⟨none,.x (.call (.t k) []),none,0⟩]))):=by
 intro n hs A S o A' S' hinr h ho σ0 σ S0 w0 w a R hsz hd hF he hlo hQ;cases n with
 | zero=>cases h
 | succ n=>
 have⟨⟨o1,A1,S1⟩,h1,h2⟩:=aA (show(aU ((ev fns n).code (.reg aos) A S) (kI (.seq (.block K (oD K cy)) (.reg [⟨none,.x (.call (.t k) []),none,0⟩])) (ev fns n)))=some (o,A',S') from h);cases n with
 | zero=>cases h1
 | succ n=>
 have⟨⟨F1,S1'⟩,g1,g2⟩:=aA (show(aU (lF aos (ev fns n).call A.F S) fun r=>some (Out.normal,(⟨r.1,A.inr⟩:bN),r.2))=some (o1,A1,S1) from h1);cases g2;have⟨⟨o2,A2,S2⟩,b1,b2⟩:=aA (show(aU ((ev fns n).code (.block K (oD K cy)) ⟨F1,A.inr⟩ S1') (kI (.reg [⟨none,.x (.call (.t k) []),none,0⟩]) (ev fns n)))=some (o,A',S') from h2);have hcn:=(hs n au).2;cases n with
 | zero=>cases b1
 | succ n=>
 have⟨⟨o3,A3,S3⟩,c1,c2⟩:=aA (show(aU ((ev fns n).code (oD K cy) ⟨F1,A.inr⟩ S1') (jH K))=some (o2,A2,S2) from b1);have⟨nr,e3⟩:=aJP n cy _ _ _ _ _ hK c1;have kk:=aL9 n cy _ _ _ _ _ hk e3;have hout:(o2,A2,S2)=(.normal,A3,S3)/\(qF K o3= .normal\/qF K o3= .ret):=by
  unfold jH at c2;cases o3 with
  | normal=>cases c2;exact⟨rfl,.inl rfl⟩
  | ret=>exact absurd rfl nr
  | exit i=>
   simp only at c2;rw[bQ] at c2;split at c2
   ·rename_i e;rw[Az] at e;subst e;cases c2;exact⟨rfl,.inr aKJ⟩
   ·cases c2;unfold kI at b2;cases b2;exact absurd rfl (ho i)
 have⟨hq,hend⟩:=hout;cases hq;have⟨⟨F4,S4⟩,d1,d2⟩:=aA (show(aU (lF [⟨none,.x (.call (.t k) []),none,0⟩] (ev fns n).call A2.F S2) fun r=>some (Out.normal,(⟨r.1,A2.inr⟩:bN),r.2))=some (o,A',S') from b2);cases d2;rw[fF] at d1;have⟨⟨F5,S5⟩,d3,d4⟩:=aA d1;cases d4;have⟨⟨v,S6⟩,d5,d6⟩:=aA (show(aU ((ev fns n).call (aB k A2.F) [] S2) fun r=>some (A2.F,r.2))=some (F5,S5) from d3);cases d6;have⟨first,cap,hv⟩:=hmk _ _ _ _ _ g1;rw[kk,hv] at d5;cases n with
 | zero=>cases d5
 | succ n=>
 have d5:pX fns (ev fns n) (.fn idc first cap) [] S2=some (v,_):=d5;have hsize:List.range ops.size=List.range' 0 l.length++ [l.length]:=by
  rw[List.range_eq_range',<-Eo,hops,Aj,Bc,List.range'_1_concat,Ao]
 have hlast:ops[l.length]? =some ⟨none,.defer ⟨.value f, #[],ts⟩,ty,pos,after,none⟩:=by
  rw[<-Da,hops,Aq (Af _),Ef];rfl
 refine wpIn_seq (wpIn_region ?_);rw[hsize];refine sO _ _ _ ?_;refine sF hA hB hcn l 0 [] aos σ A.F F1 S S1' a w (fun j hj=>by rw[Ao,<-Da,hops,Ap hj]) haos hsz hF he.rep g1 ?_;intro σ1 a1 w1 f1 s1 q1 e1;have hd1:a1.defers= []:=q1.trans hd;have hfv:=bM (a:=a1) f1 e1.rep hf;rw[show(cP.t k).val F1=aB k F1 from rfl,hv] at hfv;simp only[Rv] at hfv;have⟨VA,VB,hev,hVA,hVB⟩:=hfv;show wpOpsIn (Fw none) 0 P ops _ [l.length] a1 w1;simp only[wpOpsIn,hlast];rw[if_pos (by rfl)];refine⟨fun _ _=>trivial,?_⟩;have hrun:(Oper.semAt (Fw none).round a1.eval ⟨none,.defer ⟨.value f, #[],ts⟩,ty,pos,after,none⟩).run P w1= .ok (.defer ⟨.fn (.func idc) ⟨VB⟩,⟨VA⟩++ #[]⟩) w1:=by
  show(execOp a1.eval ⟨none,.defer ⟨.value f, #[],ts⟩,ty,pos,after,none⟩).run P w1=_;simp [execOp,resolve,hev,Deferred.ofValue]
 rw[hrun];obtain⟨d,hdd⟩:∃d:Deferred,d=⟨.fn (.func idc) ⟨VB⟩,⟨VA⟩++ #[]⟩:=⟨_,rfl⟩;rw[<-hdd];show y.wpIn (Fw none) 0 P _ {a1 with defers:=d::a1.defers} w1;refine(hs (n+1) au).1 none 0 Fn.ntmps y cy hy ⟨F1,A.inr⟩ S1' (qF K o3) A2 S2 (fun _=>rfl) e3 [d] w0.heap.size σ1 {a1 with defers:=d::a1.defers} w1 _ s1 ⟨fun h=>(by have h:A.inr=true:=h;rw[hinr] at h;cases h),[],by show d::a1.defers=_;rw[hd1];rfl,by simp,fun r hr=>by cases hr⟩ (Bb hlo e1.size) f1 e1.rep ?_;intro σ2 a2 w2 i2 s2 q2 k2 f2 e2;have⟨_,rs,hds,hnd,hmks⟩:=q2;have hgo:LeavesInM Fence.wide 0 P Fn a2.tmps R a2.defers .returning w2:=by
  rw[hds];refine aKI rs w2 hnd hmks (he.trans (e1.trans e2)) fun w3 e30=>?_;have⟨Cc,cc,rsc,hbody,hname,_⟩:=yH hc;have hcall:=aSC (hs n au).1 hfn hFn hc hrng d5 (hVA.mono (e2.mono e1.rep)) (hVB.mono (e2.mono e1.rep)) e30.rep;refine⟨by simp,.inr ⟨fun h=>by simp [Fence.wide] at h,.func idc,⟨VB⟩,idc,⟨VA++VB⟩,by rw[hdd],by rw[hdd];exact aL3 hFn hbody hname,fun _ _=>trivial,hcall.1,fun c cs hm hroom=>?_⟩⟩;obtain⟨e,u',w4,fr,⟨rfl,V,rfl,σ4,e4⟩,hrest⟩:=hcall.2 c cs hm hroom;exact⟨_,_,w4,fr,hQ σ4 a2.tmps w4 (f2.mono (e4.mono e30.rep)) (e30.trans e4),hrest⟩
 show bodyPostM Fence.wide 0 P Fn R (aDC (qF K o3)) a2 w2;rcases hend with e | e<;>rw[e]<;>exact hgo
end Go.Ev
namespace Go.Ev
variable {P:Program}
theorem aFQ{call:dR}{os:List AO}:∀ {l:List AO} {F F':Fr} {S S':St},lF (l++os) call F S=some (F',S')->∃F1 S1,lF l call F S=some (F1,S1)/\lF os call F1 S1=some (F',S')
 | [],F,F',S,S',h=>⟨F,S,rfl,h⟩
 | o::l,F,F',S,S',h=>by
  rw[Cu,fF] at h;have⟨⟨F1,S1⟩,h1,h2⟩:=aA h;have⟨F2,S2,h3,h4⟩:=aFQ h2;refine⟨F2,S2,?_,h4⟩;rw[fF,h1];exact h3
theorem aHe{nt:Nat}{ops:Array Oper}{aos:List AO}{k id:Nat}(h:aJk P nt ops=some (aos,k,id)):∃l f ts ty pos after pre m a b,ops.toList=l++ [⟨none,.defer ⟨.value f, #[],ts⟩,ty,pos,after,none⟩]/\qA P nt ops l []=some aos/\fD P f=some (.t k)/\aos=pre++ [⟨some k,.q (.mkFunc id a b),none,m⟩]:=by
 unfold aJk at h;split at h
 ·rename_i f as ts ty pos after l hl;split at h
  ·rename_i aos' k' haos hf has;split at h
   ·rename_i j id' a b m pre hpre;rw[Ba] at h;split at h
    ·rename_i hj;rw[Az] at hj;subst hj;cases h;have e:as= #[]:=by rw[<-Array.toList_inj,has]
     subst e;refine⟨l.reverse,f,ts,ty,pos,after,pre.reverse,m,a,b,?_,haos,hf,?_⟩
     ·have:=Hn List.reverse hl;rw[List.reverse_reverse,Dz] at this;exact this
     ·have:=Hn List.reverse hpre;rw[List.reverse_reverse,Dz] at this;exact this
    ·cases h
   ·cases h
  ·cases h
 ·cases h
theorem aFK{fns:T dD}{Fn:Func}(hA:tZ P)(hB:jX P):∀ (C:Code) (c:AC) (id:Nat),cDf P Fn.ntmps C=some (c,id)->(∃Fnc fnc,fns.get id=some fnc/\P.funcs[id]? =some Fnc/\cFn P Fnc=some fnc/\sG fnc.body=true)->aA2 P fns Fn C c
 | .seq x y,c,id,h,hcl=>by
  simp only[cDf] at h;split at h
  ·rename_i aos k id' hx;split at h
   ·rename_i cy hy;rw[Ba] at h;split at h
    ·rename_i hk;cases h;have⟨k1,k2⟩:=iM hk;split at hx
     ·rename_i rid ops;obtain⟨l,f,ts,ty,pos,after,pre,m,a,b,e1,e2,e3,rfl⟩:=aHe hx;have⟨Fnc,fnc,g1,g2,g3,g4⟩:=hcl;refine aA2.dfr hA hB e1 e2 e3 hy k1 k2 g1 g2 g3 g4 fun call F S F' S' hev=>?_;have⟨F1,S1,_,h2⟩:=aFQ hev;have h2:some (cJ (some k) F1 (AV.fn id (dE a F1) (dE b F1)),S1)=some (F',S'):=h2;cases h2;exact⟨_,_,by show aB k (F1.set k (some _))=_;rw[rR,if_pos rfl]⟩
     ·cases hx
    ·cases h
   ·cases h
  ·split at h
   ·rename_i cx cy id' hx hy;rw[Ba] at h;split at h
    ·rename_i hr;cases h;exact aA2.seq hx hr (aFK hA hB y cy _ hy hcl)
    ·cases h
   ·cases h
 | .skip,c,id,h,_=>by cases h
 | .cond _ _ _,c,id,h,_=>by cases h
 | .block _ _,c,id,h,_=>by cases h
 | .loop _,c,id,h,_=>by cases h
 | .exit _,c,id,h,_=>by cases h
 | .ret,c,id,h,_=>by cases h
 | .region _ _ _,c,id,h,_=>by cases h
 | .rangeFunc _ _ _ _,c,id,h,_=>by cases h
 | .scope _,c,id,h,_=>by cases h
 | .label _,c,id,h,_=>by cases h
 | .goto _,c,id,h,_=>by cases h
 | .refuse _,c,id,h,_=>by cases h
theorem aP1{fns:T dD}{id idc:Nat}{fn:dD}{Fn:Func}(hA:tZ P)(hB:jX P)(hFn:P.funcs[id]? =some Fn)(hc:aRg P Fn=some (fn,idc))(hcl:∃Fnc fnc,fns.get idc=some fnc/\P.funcs[idc]? =some Fnc/\cFn P Fnc=some fnc/\sG fnc.body=true):aQe P fns id fn:=by
 unfold aRg at hc;rw[Ba] at hc;split at hc
 ·cases hc
 ·rename_i hname;split at hc
  ·rename_i C hbody;split at hc
   ·rename_i c i rs hC hrs;cases hc;exact⟨Fn,C,rs,c,hFn,hbody,hname,hrs,rfl,aFK hA hB C c _ hC hcl⟩
   ·cases hc
  ·cases hc
end Go.Ev
namespace Go.Ev
def Agree(l:bt)(F F':Fr):Prop:=∀t∈l,aB t F=aB t F'
theorem Agree.left{l m:bt}{F F':Fr}(h:Agree (l++m) F F'):Agree l F F':=fun t ht=>h t (Ei _ ht)
theorem Agree.right{l m:bt}{F F':Fr}(h:Agree (l++m) F F'):Agree m F F':=fun t ht=>h t (Dr _ ht)
theorem bU{x:cP}{F F':Fr}(h:Agree x.rd F F'):x.val F=x.val F':=by
 cases x with
 | t i=>exact h i (by simp [cP.rd])
 | c v=>rfl
theorem nK{F F':Fr}:∀ {xs:List cP},Agree (rds xs) F F'->dE xs F=dE xs F'
 | [],_=>rfl
 | x::xs,h=>by
  show x.val F::dE xs F=x.val F'::dE xs F';rw[bU h.left,nK h.right]
theorem oC{x:Option cP}{F F':Fr}(d:Nat)(h:Agree (rdo x) F F'):iU F d x=iU F' d x:=by
 cases x with
 | none=>rfl
 | some x=>simp only[iU];rw[bU (show Agree x.rd F F' from h)]
theorem aBo{F F':Fr}:∀ {ps:List (Nat×Nat×cP)},Agree (rdp ps) F F'->fG F ps=fG F' ps
 | [],_=>rfl
 | (a,b,x)::ps,h=>by
  simp only[fG];rw[bU h.left,aBo h.right]
theorem zL{F F':Fr}(s:Nat):∀ {ps:List (Nat×cP)},Agree (aRQ ps) F F'->lE s F ps=lE s F' ps
 | [],_=>rfl
 | (a,x)::ps,h=>by
  simp only[lE];rw[bU h.left,zL s h.right]
theorem qH{F F':Fr}{lo hi mx:Option cP}(a b:Nat)(h1:Agree (rdo lo) F F')(h2:Agree (rdo hi) F F')(h3:Agree (rdo mx) F F'):jP a b lo hi mx F=jP a b lo hi mx F':=by
 simp only[jP,oC _ h1,oC _ h2,oC _ h3]
theorem aJI{F F':Fr}{lo hi mx:Option cP}(k:SlK)(v:AV)(h1:Agree (rdo lo) F F')(h2:Agree (rdo hi) F F')(h3:Agree (rdo mx) F F'):oS k v lo hi mx F=oS k v lo hi mx F':=by
 unfold oS;split
 ·simp only[aHG,oC _ h1,oC _ h2]
 ·simp only[aDR,qH _ _ h1 h2 h3]
 ·simp only[aNO,qH _ _ h1 h2 h3]
 ·simp only[aOJ,qH _ _ h1 h2 h3]
 ·simp only[aNi,qH _ _ h1 h2 h3]
 ·rfl
theorem aMp{q:QOp}{F F':Fr}(h:Agree q.rd F F')(hp:T AB):iT q F hp=iT q F' hp:=by
 cases q with
 | mv x=>show some (x.val F)=_;rw[bU (x:=x) h];rfl
 | pick c a b=>show yI (c.val F) a b F=yI (c.val F') a b F';simp only[yI,bU h.left,bU h.right.left,bU h.right.right]
 | build z ps=>show aU (eQ z (fG F ps)) _=_;rw[aBo h];rfl
 | ld a n x=>show dJ (x.val F) a n hp=dJ (x.val F') a n hp;rw[bU h]
 | cl x=>show sP (x.val F)=sP (x.val F');rw[bU h]
 | bin op e x y=>show kA op e (x.val F) (y.val F)=kA op e (x.val F') (y.val F');rw[bU h.left,bU h.right]
 | un op x=>show unV op (x.val F)=unV op (x.val F');rw[bU h]
 | conv k x=>show aAZ k (x.val F) hp=aAZ k (x.val F') hp;rw[bU h]
 | mkIface t x=>show some (AV.iface t (x.val F))=some (AV.iface t (x.val F'));rw[bU h]
 | mkFunc f a b=>show some (AV.fn f (dE a F) (dE b F))=some (AV.fn f (dE a F') (dE b F'));rw[nK h.left,nK h.right]
 | slc k x lo hi mx=>show oS k (x.val F) lo hi mx F=oS k (x.val F') lo hi mx F';rw[bU h.left,aJI k _ h.right.left h.right.right.left h.right.right.right]
 | cw off x=>show aAh (x.val F) off=aAh (x.val F') off;rw[bU h]
 | fld a off n x=>show aLz (x.val F) a off n=aLz (x.val F') a off n;rw[bU h]
 | cq k x ix=>show(aU (dS (ix.val F)) fun i=>dT k (x.val F) i)=aU (dS (ix.val F')) fun i=>dT k (x.val F') i;rw[bU h.left,bU h.right]
 | idxArr a n s x ix=>show(aU (dS (ix.val F)) fun i=>yS (x.val F) a n s i)=aU (dS (ix.val F')) fun i=>yS (x.val F') a n s i;rw[bU h.left,bU h.right]
 | idxStr x ix=>show(aU (dS (ix.val F)) fun i=>yZ (x.val F) i)=aU (dS (ix.val F')) fun i=>yZ (x.val F') i;rw[bU h.left,bU h.right]
 | lookup e z ok m k=>show(aU (tX hp (m.val F)) fun es=>aU (aAC e (k.val F) es) fun r=>wF r z ok)=aU (tX hp (m.val F')) fun es=>aU (aAC e (k.val F') es) fun r=>wF r z ok;rw[bU h.left,bU h.right]
 | tassert t z ok x=>show xZ (x.val F) t z ok=xZ (x.val F') t z ok;rw[bU h]
 | extract x i=>show mW (x.val F) i=mW (x.val F') i;rw[bU h]
 | lenArr n=>rfl
 | lenStr x=>show aA1 (x.val F)=aA1 (x.val F');rw[bU h]
 | ct x=>show lB (x.val F)=lB (x.val F');rw[bU h]
 | lenMap x=>show(aU (tX hp (x.val F)) fun es=>some (AV.int .i64 (.ofNat (kL es))))=aU (tX hp (x.val F')) fun es=>some (AV.int .i64 (.ofNat (kL es)));rw[bU h]
 | capSl x=>show aDv (x.val F)=aDv (x.val F');rw[bU h]
 | dj m xs=>show pI m (dE xs F)=pI m (dE xs F');rw[nK h]
 | mkMeth n tbl x=>show some (AV.mth n tbl (x.val F))=some (AV.mth n tbl (x.val F'));rw[bU h]
theorem aLr{q:QOp}(hq:dK q=false)(F:Fr)(h h':T AB):iT q F h=iT q F h':=by
 cases q with
 | ld a n x=>cases hq
 | lookup e z ok m k=>cases hq
 | lenMap x=>cases hq
 | conv k x=>
  show aAZ k (x.val F) h=aAZ k (x.val F) h';cases k with
  | bytesToStr=>cases hq
  | int k=>cases x.val F<;>rfl
  | same=>cases x.val F<;>rfl
  | intToStr=>
   cases x.val F with
   | int k n=>cases n<;>rfl
   | _=>rfl
 | _=>rfl
theorem aLO{a:wS}{F F':Fr}(h:Agree a.rd F F')(id:Nat):tA a F id=tA a F' id:=by
 cases a with
 | alloc t cs=>rfl
 | box t x=>show(aU (x.val F).cells fun cs=>some (AV.ptr id 0,AB.cells cs false 0))=aU (x.val F').cells fun cs=>some (AV.ptr id 0,AB.cells cs false 0);rw[bU h]
 | cm t s len z ps=>show(aU (eQ (repeatL z len) (lE s F ps)) fun cs=>some (AV.sl id 0 len len false,AB.cells cs false 0))=aU (eQ (repeatL z len) (lE s F' ps)) fun cs=>some (AV.sl id 0 len len false,AB.cells cs false 0);rw[zL s h]
 | df t s by_ z l c=>
  show yN t s by_ z l c F id=yN t s by_ z l c F' id;unfold yN;rw[bU h.left,bU h.right]
 | mkMap=>rfl
 | strBytes t x=>show tM (x.val F) id=tM (x.val F') id;rw[bU h]
theorem aMz{x:XOp}{F F':Fr}(h:Agree x.rd F F')(call:dR)(S:St):xN x call F S=xN x call F' S:=by
 cases x with
 | st n x v=>show(aU (v.val F).cells fun cs=>oT (x.val F) n cs S)=aU (v.val F').cells fun cs=>oT (x.val F') n cs S;rw[bU h.left,bU h.right]
 | call f args=>show call (f.val F) (dE args F) S=call (f.val F') (dE args F') S;rw[bU h.left,nK h.right]
 | inv tbl f args=>show aDX (f.val F) tbl (dE args F) call S=aDX (f.val F') tbl (dE args F') call S;rw[bU h.left,nK h.right]
 | app t s b x y=>show iW b s (x.val F) (y.val F) S=iW b s (x.val F') (y.val F') S;rw[bU h.left,bU h.right]
 | copy s d x=>show(aU (aAz (x.val F)) fun m=>copyV (d.val F) s m (x.val F) S)=aU (aAz (x.val F')) fun m=>copyV (d.val F') s m (x.val F') S;rw[bU h.left,bU h.right]
 | mapUpd e m k v=>show vQ (m.val F) e (k.val F) (v.val F) S=vQ (m.val F') e (k.val F') (v.val F') S;rw[bU h.left,bU h.right.left,bU h.right.right]
 | mapDel e m k=>show aBD (m.val F) e (k.val F) S=aBD (m.val F') e (k.val F') S;rw[bU h.left,bU h.right]
 | clr z x=>show aI9 (x.val F) z S=aI9 (x.val F') z S;rw[bU h]
 | ext k args=>show(aU (aJj k (dE args F)) fun v=>some (v,S))=aU (aJj k (dE args F')) fun v=>some (v,S);rw[nK h]
 | bad=>rfl
theorem aId{g:Option (Nat×Bool)}{F F':Fr}(h:Agree (g.map (·.1)).toList F F'):fI g F=fI g F':=by
 cases g with
 | none=>rfl
 | some p=>show isB (aB p.1 F) p.2=isB (aB p.1 F') p.2;rw[h p.1 (by simp)]
theorem aKp{t:Nat}:∀ {l:bt},inL t l=true↔t∈l
 | []=>by simp [inL]
 | u::l=>by
  simp only[inL,Ba,Br];split
  ·rename_i h;rw[Az] at h;simp [h]
  ·rename_i h;rw[Az] at h;simp [h,aKp]
theorem aIH{d:Option Nat}{t:Nat}{l:bt}(h:d=some t)(ht:t∈l):meets d l=true:=by subst h;exact aKp.2 ht
theorem aC1{i:Nat}{d:Option Nat}{tch:bt}:∀ {l:List AO},aGu i d tch l=true->∀ {j:Nat} {b:AO},l[j]? =some b->(meets d b.touch || meets b.dst tch)=true->Nat.testBit b.mask i=true
 | [],_,j,b,hb=>by simp at hb
 | a::l,h,j,b,hb=>by
  intro hm;simp only[aGu,Ct] at h;cases j with
  | zero=>
   simp at hb;subst hb;have h1:=h.1;rw[hm] at h1;exact h1
  | succ j=>exact aC1 h.2 (by simpa using hb) hm
theorem aFi:∀ {l:List AO} {k:Nat},aKh k l=true->∀ {i j:Nat} {a b:AO},i<j->l[i]? =some a->l[j]? =some b->(meets a.dst b.touch || meets b.dst a.touch)=true->Nat.testBit b.mask (k+i)=true
 | [],k,_,i,j,a,b,_,ha=>by simp at ha
 | c::l,k,h,i,j,a,b,hij,ha=>by
  intro hb hm;simp only[aKh,Ct] at h;cases j with
  | zero=>omega
  | succ j=>
   cases i with
   | zero=>
    simp at ha;subst ha;exact aC1 h.1 (by simpa using hb) hm
   | succ i=>
    have:=aFi h.2 (i:=i) (j:=j) au (by simpa using ha) (by simpa using hb) hm
    rwa [show k+1+i=k+(i+1) by omega] at this
theorem aCv:∀ {l:List Oper} {k:Nat},aCJ k l=true->∀ {i:Nat} {o:Oper},l[i]? =some o->∀e∈o.after,Region.binds .any e=true->e.on<k+i
 | [],k,_,i,o,ho=>by simp at ho
 | c::l,k,h,i,o,ho=>by
  intro e he hb;simp only[aCJ,Ct] at h;cases i with
  | zero=>
   simp at ho;subst ho;have h1:=Array.all_eq_true'.1 h.1 e he;simp only[hb,Bool.not_true,Bool.false_or] at h1;exact Au h1
  | succ i=>
   have:=aCv h.2 (by simpa using ho) e he hb;omega
end Go.Ev
namespace Go.Ev
structure Tr(aos:List AO)(base:Nat)(call:dR)(Ds:Nat->DS):Prop where
 step:∀i o,aos[i]? =some o->tB o i base call (Ds i)=some (Ds (i+1))
theorem aDg{base:Nat}{call:dR}:∀ {l:List AO} {k:Nat} {D D':DS},rG l k base call D=some D'->
  ∃Ds:Nat->DS,Ds k=D/\(∀i o,l[i]? =some o->tB o (k+i) base call (Ds (k+i))=some (Ds (k+i+1)))/\Ds (k+l.length)=D'
 | [],k,D,D',h=>by
  simp only[rG,Al] at h;exact⟨fun _=>D,rfl,fun i o ho=>by simp at ho,h⟩
 | o::l,k,D,D',h=>by
  simp only[rG] at h;have⟨D1,h1,h2⟩:=aA h;have⟨Ds,e1,e2,e3⟩:=aDg h2;refine⟨fun i=>if i=k then D else Ds i,by simp,?_,?_⟩
  ·intro i o' ho;cases i with
   | zero=>
    simp at ho;subst ho;simp only[Bm,Cq];rw[if_neg au,e1];exact h1
   | succ i=>
    have:=e2 i o' (by simpa using ho);rw[show k+(i+1)=k+1+i by omega];simp only[];rw[if_neg au,if_neg au];exact this
  ·simp only[Av];rw[if_neg au,show k+(l.length+1)=k+1+l.length by omega];exact e3
section
variable {aos:List AO}{base:Nat}{call:dR}{Ds:Nat->DS}
inductive Kind(base:Nat)(call:dR)(D D':DS)(i:Nat)(o:AO):Prop where
 | no (hw:fI o.grd D.F=false) (e:D'=⟨cJ o.dst D.F .undef,D.S,D.ps,D.hs,D.ls⟩)
 | q (q:QOp) (v:AV) (hw:fI o.grd D.F=true) (ho:o.op= .q q) (hv:iT q D.F D.S.h=some v)
   (e:D'=⟨cJ o.dst D.F v,D.S,D.ps,D.hs,bO (dK q) (⟨q,D.F,v,i,o.mask⟩::D.ls) D.ls⟩)
 | a (a:wS) (v:AV) (b:AB) (hw:fI o.grd D.F=true) (ho:o.op= .a a) (hv:tA a D.F (base+i)=some (v,b))
   (e:D'=⟨cJ o.dst D.F v,D.S,⟨i,base+i,b⟩::D.ps,D.hs,D.ls⟩)
 | x (x:XOp) (v:AV) (S:St) (hw:fI o.grd D.F=true) (ho:o.op= .x x) (hl:jE D.hs o.mask=true)
   (hv:xN x call D.F ⟨(cG o.mask D.ps D.S.h).2,D.S.nx⟩=some (v,S))
   (e:D'=⟨cJ o.dst D.F v,S,(cG o.mask D.ps D.S.h).1,(i,o.mask,S.h)::D.hs,D.ls⟩)
theorem Tr.kind(h:Tr aos base call Ds){i:Nat}{o:AO}(ho:aos[i]? =some o):Kind base call (Ds i) (Ds (i+1)) i o:=by
 have h1:=h.step i o ho;unfold tB at h1;rw[bQ] at h1;split at h1
 ·rename_i hw;cases hop:o.op with
  | q q=>
   rw[hop] at h1;have⟨v,h2,h3⟩:=aA (show(aU (iT q (Ds i).F (Ds i).S.h) fun v=>some (⟨cJ o.dst (Ds i).F v,(Ds i).S,(Ds i).ps,(Ds i).hs,bO (dK q) (⟨q,(Ds i).F,v,i,o.mask⟩::(Ds i).ls) (Ds i).ls⟩:DS))=some (Ds (i+1)) from h1);exact .q q v hw hop h2 (Cd h3).symm
  | a a=>
   rw[hop] at h1;have⟨⟨v,b⟩,h2,h3⟩:=aA (show(aU (tA a (Ds i).F (base+i)) fun r=>some (⟨cJ o.dst (Ds i).F r.1,(Ds i).S,⟨i,base+i,r.2⟩::(Ds i).ps,(Ds i).hs,(Ds i).ls⟩:DS))=some (Ds (i+1)) from h1);exact .a a v b hw hop h2 (Cd h3).symm
  | x x=>
   rw[hop] at h1;have⟨h4,h1⟩:=bJ (show bO (jE (Ds i).hs o.mask) (aU (xN x call (Ds i).F ⟨(cG o.mask (Ds i).ps (Ds i).S.h).2,(Ds i).S.nx⟩) fun r=>
    some (⟨cJ o.dst (Ds i).F r.1,r.2,(cG o.mask (Ds i).ps (Ds i).S.h).1,(i,o.mask,r.2.h)::(Ds i).hs,(Ds i).ls⟩:DS)) none=some (Ds (i+1)) from h1)
   have⟨⟨v,S⟩,h2,h3⟩:=aA h1;exact .x x v S hw hop h4 h2 (Cd h3).symm
 ·rename_i hw;exact .no (by simpa using hw) (Cd h1).symm
def jL(aos:List AO)(Ds:Nat->DS)(c:Nat):Prop:=∃o x,aos[c]? =some o/\o.op= .x x/\fI o.grd (Ds c).F=true
theorem rC{d:Option Nat}{F:Fr}{v:AV}{t:Nat}(h:d≠some t):aB t (cJ d F v)=aB t F:=by
 cases d with
 | none=>rfl
 | some d=>show aB t (F.set d (some v))=_;rw[rR,if_neg (fun e=>h (by rw[e]))]
theorem tO{d:Nat}{F:Fr}{v:AV}:aB d (cJ (some d) F v)=v:=by
 show aB d (F.set d (some v))=_;rw[rR,if_pos rfl]
theorem Tr.slot_step(h:Tr aos base call Ds){i t:Nat}{o:AO}(ho:aos[i]? =some o)(hd:o.dst≠some t):aB t (Ds (i+1)).F=aB t (Ds i).F:=by
 cases h.kind ho with
 | no hw e=>rw[e];exact rC hd
 | q q v hw ho' hv e=>rw[e];exact rC hd
 | a a v b hw ho' hv e=>rw[e];exact rC hd
 | x x v S hw ho' hl hv e=>rw[e];exact rC hd
theorem Tr.slot_keep(h:Tr aos base call Ds){t i:Nat}:∀ {k:Nat},i<=k->k<=aos.length->(∀j o,i<=j->j<k->aos[j]? =some o->o.dst≠some t)->aB t (Ds k).F=aB t (Ds i).F:=by
 intro k
 induction k with
 | zero=>intro h1 _ _;rw[Nat.le_zero.1 h1]
 | succ k ih=>
  intro h1 h2 h3;rcases Bj k i with h4 | h4
  ·rw[show i=k+1 by omega]
  ·rw[<-ih h4 au (fun j o a b c=>h3 j o a au c)];have ho:aos[k]? =some aos[k]:=Ad au;exact h.slot_step ho (h3 k _ h4 au ho)
theorem Tr.heap_step(h:Tr aos base call Ds){i:Nat}(hi:i<aos.length)(hc:¬jL aos Ds i):(Ds (i+1)).S=(Ds i).S/\(Ds (i+1)).hs=(Ds i).hs:=by
 have ho:aos[i]? =some aos[i]:=Ad hi;cases h.kind ho with
 | no hw e=>rw[e];exact⟨rfl,rfl⟩
 | q q v hw ho' hv e=>rw[e];exact⟨rfl,rfl⟩
 | a a v b hw ho' hv e=>rw[e];exact⟨rfl,rfl⟩
 | x x v S hw ho' hl hv e=>exact absurd ⟨_,x,ho,ho',hw⟩ hc
theorem Tr.heap_keep(h:Tr aos base call Ds){i:Nat}:∀ {k:Nat},i<=k->k<=aos.length->(∀j,i<=j->j<k->¬jL aos Ds j)->(Ds k).S=(Ds i).S/\(Ds k).hs=(Ds i).hs:=by
 intro k
 induction k with
 | zero=>intro h1 _ _;rw[Nat.le_zero.1 h1];exact⟨rfl,rfl⟩
 | succ k ih=>
  intro h1 h2 h3;rcases Bj k i with h4 | h4
  ·rw[show i=k+1 by omega];exact⟨rfl,rfl⟩
  ·have⟨a1,a2⟩:=ih h4 au (fun j a b=>h3 j a au);have⟨b1,b2⟩:=h.heap_step (show k<aos.length by omega) (h3 k h4 au);exact⟨b1.trans a1,b2.trans a2⟩
theorem Tr.chain_hs(h:Tr aos base call Ds){c:Nat}{o:AO}(ho:aos[c]? =some o)(hc:jL aos Ds c):(Ds (c+1)).hs=(c,o.mask,(Ds (c+1)).S.h)::(Ds c).hs/\jE (Ds c).hs o.mask=true:=by
 have⟨o',x,h1,h2,h3⟩:=hc;rw[ho] at h1;cases h1;cases h.kind ho with
 | no hw e=>rw[h3] at hw;cases hw
 | q q v hw ho' hv e=>rw[h2] at ho';cases ho'
 | a a v b hw ho' hv e=>rw[h2] at ho';cases ho'
 | x x v S hw ho' hl hv e=>rw[e];exact⟨rfl,hl⟩
theorem Tr.head(h:Tr aos base call Ds)(h0:(Ds 0).hs= []):∀k,k<=aos.length->(∀c,c<k->¬jL aos Ds c)\/∃p m hp r,p<k/\jL aos Ds p/\(Ds k).hs=(p,m,hp)::r/\∀c,p<c->c<k->¬jL aos Ds c:=by
 intro k
 induction k with
 | zero=>intro _;exact .inl (fun c hc=>au)
 | succ k ih=>
  intro hk;by_cases hc:jL aos Ds k
  ·have ho:aos[k]? =some aos[k]:=Ad au;exact .inr ⟨k,_,_,_,Fj k,hc,(h.chain_hs ho hc).1,fun c h1 h2=>au⟩
  ·have⟨_,e2⟩:=h.heap_step (show k<aos.length by omega) hc;rcases ih au with h1 | ⟨p,m,hp,r,h1,h2,h3,h4⟩
   ·refine .inl (fun c hlt=>?_);rcases Bj c k with h5 | h5
    ·exact h1 c h5
    ·rw[show c=k by omega];exact hc
   ·refine .inr ⟨p,m,hp,r,au,h2,e2.trans h3,fun c h5 h6=>?_⟩;rcases Bj c k with h7 | h7
    ·exact h4 c h5 h7
    ·rw[show c=k by omega];exact hc
theorem Tr.before(h:Tr aos base call Ds)(h0:(Ds 0).hs= []){D:Nat->Prop}(hD:∀j o,D j->aos[j]? =some o->∀i,Nat.testBit o.mask i=true->D i):
  ∀k,k<aos.length->∀o,aos[k]? =some o->jL aos Ds k->(∀i,Nat.testBit o.mask i=true->D i)->∀c,c<k->jL aos Ds c->D c:=by
 intro k
 induction k using Nat.strongRecOn with
 | _ k ih=>
  intro hk o ho hc hm c hlt hcc;have⟨_,hl⟩:=h.chain_hs ho hc;rcases h.head h0 k au with h1 | ⟨p,m,hp,r,h1,h2,h3,h4⟩
  ·exact absurd hcc (h1 c hlt)
  ·rw[h3] at hl;have hp':D p:=hm p hl;rcases Gv c p with h5 | h5 | h5
   ·have hop:aos[p]? =some aos[p]:=Ad au;exact ih p h1 au _ hop h2 (hD p _ hp' hop) c h5 hcc
   ·rw[h5];exact hp'
   ·exact absurd hcc (h4 c h5 hlt)
theorem Tr.loads_mono(h:Tr aos base call Ds){i:Nat}:∀ {k:Nat},i<=k->k<=aos.length->∀l∈(Ds i).ls,l∈(Ds k).ls:=by
 intro k
 induction k with
 | zero=>intro h1 _ l hl;rw[Nat.le_zero.1 h1] at hl;exact hl
 | succ k ih=>
  intro h1 h2 l hl;rcases Bj k i with h4 | h4
  ·rw[show k+1=i by omega];exact hl
  ·have:=ih h4 au l hl;have ho:aos[k]? =some aos[k]:=Ad au;cases h.kind ho with
   | no hw e=>rw[e];exact this
   | q q v hw ho' hv e=>rw[e,bQ];simp only;split<;>simp [this]
   | a a v b hw ho' hv e=>rw[e];exact this
   | x x v S hw ho' hl hv e=>rw[e];exact this
theorem aCy{h0:T AB}{hs:List (Nat×Nat×T AB)}:∀ {ls:List nL},fT h0 hs ls=true->∀l∈ls,gN l hs h0=true
 | [],_,l,hl=>by simp at hl
 | m::ls,h,l,hl=>by
  simp only[fT,bQ] at h;split at h
  ·rename_i h1;rcases Br.1 hl with rfl | h2
   ·exact h1
   ·exact aCy h l h2
  ·cases h
theorem Tr.hs_split(h:Tr aos base call Ds):∀d k,k+d=aos.length->∃r,(Ds aos.length).hs.reverse=(Ds k).hs.reverse++r/\∀e∈r,k<=e.1/\jL aos Ds e.1:=by
 intro d
 induction d with
 | zero=>intro k hk;exact⟨[],by rw[show aos.length=k by omega];simp,by simp⟩
 | succ d ih=>
  intro k hk;have⟨r,h1,h2⟩:=ih (k+1) au;by_cases hc:jL aos Ds k
  ·have ho:aos[k]? =some aos[k]:=Ad au;refine⟨(k,aos[k].mask,(Ds (k+1)).S.h)::r,?_,?_⟩
   ·rw[h1,(h.chain_hs ho hc).1];simp
   ·intro e he;rcases Br.1 he with rfl | he
    ·exact⟨Af _,hc⟩
    ·exact⟨by have:=(h2 e he).1;omega,(h2 e he).2⟩
  ·refine⟨r,by rw[h1,(h.heap_step au hc).2],fun e he=>⟨by have:=(h2 e he).1;omega,(h2 e he).2⟩⟩
theorem Tr.load(h:Tr aos base call Ds)(h0:(Ds 0).hs= [])(hok:fT (Ds 0).S.h (Ds aos.length).hs.reverse (Ds aos.length).ls=true){l:nL}(hl:l∈(Ds aos.length).ls){D:Nat->Prop}
  (hD:∀j o,D j->aos[j]? =some o->∀i,Nat.testBit o.mask i=true->D i) (hm:∀i,Nat.testBit l.mask i=true->D i) (hi:¬D l.i) {s:Nat} (hs:s<=aos.length) (hc:∀c,jL aos Ds c->(D c↔c<s)):
  qE l.v (iT l.q l.F (Ds s).S.h)=true:=by
 have hgo:=aCy hok l hl;have key:∀k,k<=s->∀r,(Ds aos.length).hs.reverse=(Ds k).hs.reverse++r->gN l r (Ds k).S.h=true:=by
  intro k
  induction k with
  | zero=>
   intro _ r hr;rw[h0] at hr;simp at hr;rw[<-hr];exact hgo
  | succ k ih=>
   intro hk r hr;by_cases hck:jL aos Ds k
   ·have ho:aos[k]? =some aos[k]:=Ad au;have h1:=(h.chain_hs ho hck).1;have h2:=ih au ((k,aos[k].mask,(Ds (k+1)).S.h)::r) (by rw[hr,h1];simp);have hDk:D k:=(hc k hck).2 au;have hbit:Nat.testBit aos[k].mask l.i=false:=by
     cases hb:Nat.testBit aos[k].mask l.i with
     | false=>rfl
     | true=>exact absurd (hD k _ hDk ho _ hb) hi
    simp only[gN,bQ,hbit] at h2;split at h2
    ·exact h2
    ·split at h2
     ·simpa using h2
     ·cases h2
   ·have⟨e1,e2⟩:=h.heap_step (show k<aos.length by omega) hck;rw[e1];exact ih au r (by rw[hr,e2])
 have⟨r,h1,h2⟩:=h.hs_split (aos.length - s) s au;have h3:=key s (Af _) r h1;cases r with
 | nil=>exact h3
 | cons e r=>
  have⟨c,m,hp⟩:=e;have⟨h4,h5⟩:=h2 (c,m,hp) (by simp);have hbit:Nat.testBit l.mask c=false:=by
   cases hb:Nat.testBit l.mask c with
   | false=>rfl
   | true=>have:=(hc c h5).1 (hm c hb);simp only at h4;omega
  simp only[gN,bQ,hbit] at h3;by_cases h6:qE l.v (iT l.q l.F (Ds s).S.h)=true
  ·exact h6
  ·rw[if_neg (by simp),if_neg h6] at h3;cases h3
end
theorem aIB:∀ {a b:bt},oL a b=true->a=b
 | [],[],_=>rfl
 | [],_::_,h=>by simp [oL] at h
 | _::_,[],h=>by simp [oL] at h
 | a::x,b::y,h=>by
  simp only[oL,bQ] at h;split at h
  ·rename_i h1;rw[Db h1,aIB h]
  ·cases h
mutual
theorem aC9:∀ (a b:AV),cQ a b=true->a=b
 | .bool a,v,h=>by cases v<;>simp only[cQ,vS,Aw] at h;rw[eq_of_beq h]
 | .int k a,v,h=>by
  cases v<;>simp only[cQ,bQ,Aw] at h;split at h
  ·rename_i h1;rw[zZ h1];rw[nJ] at h;rw[eq_of_beq h]
  ·cases h
 | .str a,v,h=>by cases v<;>simp only[cQ,Aw] at h;rw[aIB h]
 | .ptr a b,v,h=>by
  cases v<;>simp only[cQ,bQ,Aw] at h;split at h
  ·rename_i h1;rw[Db h1,Db h]
  ·cases h
 | .nilp,v,h=>by cases v<;>first | rfl | simp only[cQ,Aw] at h
 | .sl a b c d e,v,h=>by
  cases v<;>simp only[cQ,Aw,Ct,vS] at h;have⟨⟨⟨⟨h1,h2⟩,h3⟩,h4⟩,h5⟩:=h;rw[Db h1,Db h2,Db h3,Db h4,eq_of_beq h5]
 | .ce,v,h=>by cases v<;>first | rfl | simp only[cQ,Aw] at h
 | .emp,v,h=>by cases v<;>first | rfl | simp only[cQ,Aw] at h
 | .map a,v,h=>by cases v<;>simp only[cQ,Aw] at h;rw[Db h]
 | .nilmap,v,h=>by cases v<;>first | rfl | simp only[cQ,Aw] at h
 | .fn f a b,v,h=>by
  cases v<;>simp only[cQ,Aw,Ct] at h;have⟨⟨h1,h2⟩,h3⟩:=h;rw[Db h1,tS _ _ h2,tS _ _ h3]
 | .nilfn,v,h=>by cases v<;>first | rfl | simp only[cQ,Aw] at h
 | .yld a,v,h=>by cases v<;>simp only[cQ,Aw] at h;rw[Db h]
 | .iface t w,v,h=>by
  cases v<;>simp only[cQ,Aw,Ct] at h;rw[Db h.1,aC9 _ _ h.2]
 | .niliface,v,h=>by cases v<;>first | rfl | simp only[cQ,Aw] at h
 | .mth n t w,v,h=>by cases v<;>simp only[cQ,Aw] at h
 | .agg a,v,h=>by cases v<;>simp only[cQ,Aw] at h;rw[tS _ _ h]
 | .tup a,v,h=>by cases v<;>simp only[cQ,Aw] at h;rw[tS _ _ h]
theorem tS:∀ (a b:bo),oZ a b=true->a=b
 | [],[],_=>rfl
 | [],_::_,h=>by simp [oZ] at h
 | _::_,[],h=>by simp [oZ] at h
 | a::x,b::y,h=>by
  simp only[oZ,bQ] at h;split at h
  ·rename_i h1;rw[aC9 _ _ h1,tS _ _ h]
  ·cases h
end
theorem aNI{v:AV}{r:Option AV}(h:qE v r=true):r=some v:=by
 cases r with
 | none=>cases h
 | some w=>rw[aC9 _ _ h]
end Go.Ev
namespace Go.Ev
section
variable {D:Nat->Prop}
theorem aO9{look:Nat->Nat}{o:Oper}(h:∀e∈o.after,Region.binds .any e=true->D e.on/\∀b,Nat.testBit (look e.on) b=true->D b):∀b,Nat.testBit (CheckFast.one look o) b=true->D b:=by
 unfold CheckFast.one;rw[<-Array.foldl_toList];have key:∀ (l:List Edge) (s:Nat),(∀e∈l,Region.binds .any e=true->D e.on/\∀b,Nat.testBit (look e.on) b=true->D b)->(∀b,Nat.testBit s b=true->D b)->
   ∀b,Nat.testBit (l.foldl (fun s e=>if Region.binds .any e then s ||| 2 ^ e.on ||| look e.on else s) s) b=true->D b:=by
  intro l
  induction l with
  | nil=>intro s _ hs b hb;exact hs b hb
  | cons e l ih=>
   intro s hl hs b hb;rw[List.foldl_cons] at hb;refine ih _ (fun e' he'=>hl e' (Bf _ he')) ?_ b hb;intro c hc;split at hc
   ·rename_i hbi;have⟨h1,h2⟩:=hl e (by simp) hbi;rw[Nat.testBit_or,Nat.testBit_or,Gr,Gr] at hc;rcases hc with(hc | hc) | hc
    ·exact hs c hc
    ·rw[Nat.testBit_two_pow] at hc;have:e.on=c:=by simpa using hc
     rw[<-this];exact h1
    ·exact h2 c hc
   ·exact hs c hc
 exact key o.after.toList 0 (fun e he=>h e (by simpa using he)) (fun b hb=>by simp at hb)
theorem aBb:∀ (l:List Oper) (j:Nat) (acc:bt),acc.length=j->(∀i,i<j->D i->∀b,Nat.testBit (acc.getD (j - 1 - i) 0) b=true->D b)->
  (∀k o,l[k]? =some o->D (j+k)->∀e∈o.after,Region.binds .any e=true->D e.on)->
  (∀i,i<j->(CheckFast.beforeL l j acc).getD i 0=acc.getD (j - 1 - i) 0)/\
  ∀k o,l[k]? =some o->(∀e∈o.after,Region.binds .any e=true->D e.on)->∀b,Nat.testBit ((CheckFast.beforeL l j acc).getD (j+k) 0) b=true->D b
 | [],j,acc,hl,_,_=>by
  refine⟨fun i hi=>?_,fun k o ho=>by simp at ho⟩;simp only[CheckFast.beforeL];rw[Ae,Ae,List.getElem?_reverse au,hl]
 | o::l,j,acc,hl,hacc,hcl=>by
  simp only[CheckFast.beforeL,CheckFast.force_eq];have hv:(∀e∈o.after,Region.binds .any e=true->D e.on)->∀b,Nat.testBit (CheckFast.one (fun i=>if i<j then acc.getD (j - 1 - i) 0 else 0) o) b=true->D b:=by
   intro hp;refine aO9 fun e he hb=>⟨hp e he hb,fun b hbit=>?_⟩;split at hbit
   ·exact hacc _ ‹_› (hp e he hb) b hbit
   ·simp at hbit
  have:=aBb l (j+1) (CheckFast.one (fun i=>if i<j then acc.getD (j - 1 - i) 0 else 0) o::acc) (by simp [hl]) ?_ ?_
  ·have⟨h1,h2⟩:=this;refine⟨fun i hi=>?_,fun k o' ho hp b hb=>?_⟩
   ·rw[h1 i au,show j+1 - 1 - i=(j - 1 - i)+1 by omega];simp
   ·cases k with
    | zero=>
     simp at ho;subst ho;have h3:=h1 j au;rw[show j+1 - 1 - j=0 by omega] at h3;refine hv hp b ?_;rw[show j+0=j from rfl,h3] at hb;exact hb
    | succ k=>
     refine h2 k o' (by simpa using ho) hp b ?_
     rwa [show j+1+k=j+(k+1) by omega]
  ·intro i hi hDi b hb;rcases Bj i j with h3 | h3
   ·rw[show j+1 - 1 - i=(j - 1 - i)+1 by omega] at hb;exact hacc i h3 hDi b (by simpa using hb)
   ·have:i=j:=by omega
    subst this;rw[show i+1 - 1 - i=0 by omega] at hb;exact hv (hcl 0 o (by simp) (by simpa using hDi)) b (by simpa using hb)
  ·intro k o' ho hDk;exact hcl (k+1) o' (by simpa using ho) (by rwa [show j+(k+1)=j+1+k by omega])
end
theorem aDe{P:Program}{nt:Nat}{ops:Array Oper}:∀ {l:List Oper} {ms:bt} {aos:List AO},qA P nt ops l ms=some aos->
  aos.length=l.length/\∀j o,l[j]? =some o->∃ao,aos[j]? =some ao/\aKL P nt ops o (ms.getD j 0)=some ao
 | [],ms,aos,h=>by
  simp only[qA,Al] at h;subst h;exact⟨rfl,fun j o ho=>by simp at ho⟩
 | o::l,ms,aos,h=>by
  simp only[qA] at h;split at h
  ·rename_i a as ha has;cases h;have⟨h1,h2⟩:=aDe has;refine⟨by simp [h1],fun j o' ho=>?_⟩;cases j with
   | zero=>
    simp at ho;subst ho;refine⟨a,by simp,?_⟩;cases ms<;>simpa using ha
   | succ j=>
    have⟨ao,h3,h4⟩:=h2 j o' (by simpa using ho);refine⟨ao,by simpa using h3,?_⟩;cases ms<;>simpa using h4
  ·cases h
theorem mM{m:Nat}:∀ {ps:List kB} {h:T AB} {b:Nat} {bl:AB},(cG m ps h).2.get b=some bl->(∃p∈ps,Nat.testBit m p.i=true/\p.id=b/\p.b=bl)\/h.get b=some bl
 | [],h,b,bl,e=>.inr e
 | p::ps,h,b,bl,e=>by
  simp only[cG,bQ] at e;split at e
  ·rename_i hb;rcases mM e with⟨q,h1,h2⟩ | h1
   ·exact .inl ⟨q,by simp [h1],h2⟩
   ·rw[dq] at h1;split at h1
    ·rename_i e';cases h1;exact .inl ⟨p,by simp,hb,e'.symm,rfl⟩
    ·exact .inr h1
  ·rcases mM e with⟨q,h1,h2⟩ | h1
   ·exact .inl ⟨q,by simp [h1],h2⟩
   ·exact .inr h1
theorem aBK{m:Nat}:∀ {ps:List kB} {h:T AB} {p:kB},p∈(cG m ps h).1->p∈ps/\Nat.testBit m p.i=false
 | [],h,p,e=>by simp [cG] at e
 | q::ps,h,p,e=>by
  simp only[cG,bQ] at e;split at e
  ·have⟨h1,h2⟩:=aBK e;exact⟨by simp [h1],h2⟩
  ·rename_i hb;rcases Br.1 e with rfl | e
   ·exact⟨by simp,by simpa using hb⟩
   ·have⟨h1,h2⟩:=aBK e;exact⟨by simp [h1],h2⟩
section
variable {aos:List AO}{base:Nat}{call:dR}{Ds:Nat->DS}
def Made(aos:List AO)(base:Nat)(Ds:Nat->DS)(i:Nat)(b:AB):Prop:=∃o a v,aos[i]? =some o/\o.op= .a a/\fI o.grd (Ds i).F=true/\tA a (Ds i).F (base+i)=some (v,b)
def Laid(aos:List AO)(Ds:Nat->DS)(i s:Nat):Prop:=∃c o,c<s/\jL aos Ds c/\aos[c]? =some o/\Nat.testBit o.mask i=true
theorem Tr.pend(h:Tr aos base call Ds)(h0:(Ds 0).ps= [])(hb:∀k o i,aos[k]? =some o->Nat.testBit o.mask i=true->i<k):∀k,k<=aos.length->∀p∈(Ds k).ps,p.i<k/\p.id=base+p.i/\Made aos base Ds p.i p.b/\¬Laid aos Ds p.i k:=by
 intro k
 induction k with
 | zero=>intro _ p hp;rw[h0] at hp;cases hp
 | succ k ih=>
  intro hk p hp;have ho:aos[k]? =some aos[k]:=Ad au;have old:¬jL aos Ds k->p∈(Ds k).ps->p.i<k+1/\p.id=base+p.i/\Made aos base Ds p.i p.b/\¬Laid aos Ds p.i (k+1):=by
   intro hc hp;have⟨a1,a2,a3,a4⟩:=ih au p hp;refine⟨au,a2,a3,?_⟩;rintro⟨c,o,h1,h2,h3⟩;rcases Bj c k with h4 | h4
   ·exact a4 ⟨c,o,h4,h2,h3⟩
   ·rw[show c=k by omega] at h2;exact hc h2
  cases h.kind ho with
  | no hw e=>rw[e] at hp;exact old (fun⟨o,x,h1,h2,h3⟩=>by rw[ho] at h1;cases h1;rw[hw] at h3;cases h3) hp
  | q q v hw ho' hv e=>rw[e] at hp;exact old (fun⟨o,x,h1,h2,h3⟩=>by rw[ho] at h1;cases h1;rw[ho'] at h2;cases h2) hp
  | a a v b hw ho' hv e=>
   have hnc:¬jL aos Ds k:=fun⟨o,x,h1,h2,h3⟩=>by rw[ho] at h1;cases h1;rw[ho'] at h2;cases h2
   rw[e] at hp;rcases Br.1 hp with rfl | hp
   ·refine⟨Fj _,rfl,⟨_,a,v,ho,ho',hw,hv⟩,?_⟩;rintro⟨c,o,h1,h2,h3,h4⟩;have:=hb c o _ h3 h4;simp only at this;omega
   ·exact old hnc hp
  | x x v S hw ho' hl hv e=>
   rw[e] at hp;have⟨h1,h2⟩:=aBK hp;have⟨a1,a2,a3,a4⟩:=ih au p h1;refine⟨au,a2,a3,?_⟩;rintro⟨c,o,h3,h4,h5,h6⟩;rcases Bj c k with h7 | h7
   ·exact a4 ⟨c,o,h7,h4,h5,h6⟩
   ·rw[show c=k by omega,ho] at h5;cases h5;rw[h2] at h6;cases h6
end
section
variable {P:Program}{σ σ' σ0:Env}{S S' S0:St}{w w' w0:World}
structure tE(P:Program)(n0:Nat)(σ:Env)(S:St)(w:World)(id:Nat)(b:AB)(L:Loc):Prop where
 at_:σ id=some L
 ge:n0<=L.r
 lt:L.r<w.heap.size
 rep:rH P σ w L b
 own:wJ b
 sep:∀c bl M,S.h.get c=some bl->σ c=some M->M.r≠L.r
theorem gM.grow(h:gM P σ0 S0 w0 σ S w){ob:Obj}{id e:Nat}(hid:σ id=none)(hlo:S0.nx<=id)(hhi:id<S.nx)(hw:w'.heap=w.heap.push ob)(ho:w'.os=w.os)(ht:w'.tape=w.tape)(hu:w'.output=w.output):
  gM P σ0 S0 w0 (upd σ id ⟨w.heap.size,0,e⟩) S w':=by
 have hold:∀r,r<w.heap.size->w'.heap[r]? =w.heap[r]? :=fun r hr=>by rw[hw,Gy,if_neg au]
 have hsz:w'.heap.size=w.heap.size+1:=by rw[hw];simp
 have hne:∀b bl,S.h.get b=some bl->b≠id:=fun b bl hb e=>by
  have⟨L,h1,_⟩:=h.rep.blk b bl hb;rw[e,hid] at h1;cases h1
 refine⟨⟨fun b bl hb=>?_,h.rep.lt,fun b hb=>?_,fun g hg=>gF hid _ _ (h.rep.glob g hg),?_⟩,fun b hb=>?_,h.nx,fun r hr hn=>?_,fun r hr=>?_,aw h.size,ho.trans h.os,ht.trans h.tape,hu.trans h.output,h.ro⟩
 ·have⟨L,h1,h2,h3⟩:=h.rep.blk b bl hb;exact⟨L,gF hid _ _ h1,au,h3.frame (gF hid) (hold _ h2)⟩
 ·rw[eJ _ au];exact h.rep.fresh b hb
 ·intro b b' bl bl' L L' h1 h2 h3 h4 h5 h6;rw[eJ _ (hne _ _ h1)] at h5;rw[eJ _ (hne _ _ h2)] at h6;exact h.rep.inj b b' bl bl' L L' h1 h2 h3 h4 h5 h6
 ·rw[eJ _ au];exact h.low b hb
 ·rw[hold r (Ag hr h.size)];exact h.keep r hr hn
 ·obtain⟨b,bl,L,h1,h2,h3,rfl⟩:=hr;rw[eJ _ (hne _ _ h1)] at h3;exact h.own _ ⟨b,bl,L,h1,h2,h3,rfl⟩
theorem tE.grow{n0:Nat}{id:Nat}{b:AB}{L:Loc}(h:tE P n0 σ S w id b L)(hR:kT P σ S w){ob:Obj}{i e:Nat}(hi:σ i=none)(hw:w'.heap=w.heap.push ob):
  tE P n0 (upd σ i ⟨w.heap.size,0,e⟩) S w' id b L where
 at_:=gF hi _ _ h.at_
 ge:=h.ge
 lt:=by rw[hw];simp;have:=h.lt;omega
 rep:=h.rep.frame (gF hi) (by rw[hw,Gy,if_neg (aw h.lt)])
 own:=h.own
 sep:=fun c bl M h1 h2=>by
  refine h.sep c bl M h1 ?_;rw[eJ] at h2
  ·exact h2
  ·intro e;have⟨L',h3,_⟩:=hR.blk c bl h1;rw[e,hi] at h3;cases h3
theorem gM.lay(h:gM P σ0 S0 w0 σ S w){n0:Nat}(hn0:w0.heap.size<=n0){m:Nat}{ps:List kB}(hst:∀p∈ps,Nat.testBit m p.i=true->p.id<S.nx/\∃L,tE P n0 σ S w p.id p.b L)
  (hd:∀p∈ps,∀q∈ps,Nat.testBit m p.i=true->Nat.testBit m q.i=true->p.id≠q.id->∀L L',σ p.id=some L->σ q.id=some L'->L.r≠L'.r):
  gM P σ0 S0 w0 σ ⟨(cG m ps S.h).2,S.nx⟩ w:=by
 refine⟨⟨fun b bl hb=>?_,fun b bl hb=>?_,h.rep.fresh,h.rep.glob,?_⟩,h.low,h.nx,h.keep,fun r hr=>?_,h.size,h.os,h.tape,h.output,fun b cs hb=>?_⟩
 ·rcases mM hb with⟨p,h1,h2,rfl,rfl⟩ | h1
  ·have⟨_,L,h3⟩:=hst p h1 h2;exact⟨L,h3.at_,h3.lt,h3.rep⟩
  ·exact h.rep.blk b bl h1
 ·rcases mM hb with⟨p,h1,h2,rfl,rfl⟩ | h1
  ·exact(hst p h1 h2).1
  ·exact h.rep.lt b bl h1
 ·intro b b' bl bl' L L' hb hb' ho hne hL hL';rcases mM hb with⟨p,h1,h2,rfl,rfl⟩ | h1<;>rcases mM hb' with⟨q,h1',h2',rfl,rfl⟩ | h1'
  ·exact hd p h1 q h1' h2 h2' hne L L' hL hL'
  ·have⟨_,M,h3⟩:=hst p h1 h2;have:=h3.at_;rw[hL] at this;cases this;exact(h3.sep b' bl' L' h1' hL').symm
  ·have⟨_,M,h3⟩:=hst q h1' h2';have:=h3.at_;rw[hL'] at this;cases this;exact h3.sep b bl L h1 hL
  ·exact h.rep.inj b b' bl bl' L L' h1 h1' ho hne hL hL'
 ·obtain⟨b,bl,L,hb,ho,hL,rfl⟩:=hr;rcases mM hb with⟨p,h1,h2,rfl,rfl⟩ | h1
  ·have⟨_,M,h3⟩:=hst p h1 h2;have:=h3.at_;rw[hL] at this;cases this;exact .inr (Bb hn0 h3.ge)
  ·exact h.own _ ⟨b,bl,L,h1,ho,hL,rfl⟩
 ·rcases mM hb with⟨p,h1,h2,rfl,h3⟩ | h1
  ·have⟨_,M,h4⟩:=hst p h1 h2;have:=h4.own;rw[h3] at this;exact this.elim
  ·exact h.ro b cs h1
theorem tE.act{n0:Nat}{id:Nat}{b:AB}{L:Loc}(h:tE P n0 σ S w id b L)(hR:kT P σ S w)(hE:gM P σ S w σ' S' w')(hid:id<S.nx):tE P n0 σ' S' w' id b L:=by
 have hno:¬Own σ S L.r:=fun⟨c,bl,M,h1,h2,h3,h4⟩=>h.sep c bl M h1 h3 h4;refine⟨by rw[hE.low id hid];exact h.at_,h.ge,Ag h.lt hE.size,h.rep.frame (hE.mono hR) (hE.keep _ h.lt hno),h.own,?_⟩;intro c bl M h1 h2;by_cases ho:wJ bl
 ·rcases hE.own M.r ⟨c,bl,M,h1,ho,h2,rfl⟩ with⟨c',bl',M',a1,a2,a3,a4⟩ | h3
  ·rw[<-a4];exact h.sep c' bl' M' a1 a3
  ·have:=h.lt;omega
 ·cases bl with
  | ro cs=>
   have h3:=hE.ro c cs h1;rw[hE.low c (hR.lt c _ h3)] at h2;exact h.sep c _ M h3 h2
  | _=>exact absurd trivial ho
end
end Go.Ev
