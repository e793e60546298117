import Derived.Test.YtoojnpjgnnpllaaEv5
import Derived.RangeFuncLeaves
import Derived.OrdersIn
namespace Go.Ev
variable {P:Program}
def aF6:Out->Exit
 | .normal=>.normal
 | .exit id=>.exit id
 | .ret=>.ret
structure Mark(lo:Nat)(σ:Env)(S:St)(w:World)(r:Nat):Prop where
 low:lo<=r
 lt:r<w.heap.size
 cell:w.heap[r]? =some (.deferred (some []))
 off:∀b bl L,S.h.get b=some bl->σ b=some L->L.r≠r
def aBq(r:Nat):Deferred:={target:=.collected r,args:= #[]}
def Df(lo:Nat)(inr:Bool)(σ:Env)(S:St)(w:World)(ds:List Deferred):Prop:=
 (inr=true->ds= [])/\∃rs:bg,ds=rs.map aBq/\rs.Nodup/\∀r∈rs,Mark lo σ S w r
theorem Mark.notOwn{lo r:Nat}{σ:Env}{S:St}{w:World}(h:Mark lo σ S w r):¬Own σ S r:=fun⟨b,bl,L,h1,_,h2,h3⟩=>h.off b bl L h1 h2 h3
theorem Mark.ext{lo r:Nat}{σ σ':Env}{S S':St}{w w':World}(h:Mark lo σ S w r)(hR:kT P σ S w)(e:iV P σ S w σ' S' w'):Mark lo σ' S' w' r where
 low:=h.low
 lt:=Ae h.lt e.size
 cell:=by rw[e.keep r h.lt h.notOwn];exact h.cell
 off:=fun b bl L hb hL hr=>by
  have own:wE bl->False:=fun ho=>by
   rcases e.own r ⟨b,bl,L,hb,ho,hL,hr⟩ with h1 | h1
   ·exact h.notOwn h1
   ·exact absurd h.lt ar
  cases bl with
  | ro cs=>
   have h1:=e.ro b cs hb;exact h.off b _ L h1 (by rw[<-e.low b (hR.lt b _ h1)];exact hL) hr
  | _=>exact own trivial
theorem Df.ext{lo:Nat}{inr:Bool}{σ σ':Env}{S S':St}{w w':World}{ds:List Deferred}(h:Df lo inr σ S w ds)(hR:kT P σ S w)(e:iV P σ S w σ' S' w'):Df lo inr σ' S' w' ds:=by
 have⟨h0,rs,h1,h2,h3⟩:=h;exact⟨h0,rs,h1,h2,fun r hr=>(h3 r hr).ext hR e⟩
theorem Df.nil{lo:Nat}{inr:Bool}{σ:Env}{S:St}{w:World}:Df lo inr σ S w []:=⟨fun _=>rfl,[],rfl,by simp,fun r hr=>by cases hr⟩
def uH(P:Program)(code:AC->bG->St->Option (Out×bG×St)):Prop:=
 ∀ (ro:Option Nat) (n nt:Nat) (C:Code) (c:AC),jG P nt C=some c->∀ (A:bG) (S:St) (o:Out) (A':bG) (S':St),(A.inr=false->ro=none)->code c A S=some (o,A',S')->
  ∀ (lo:Nat) (σ:Env) (a:Act) (w:World) (Q:Exit->Act->World->Prop),a.tmps.size=nt->Df lo A.inr σ S w a.defers->lo<=w.heap.size->qO P σ A.F a.tmps->kT P σ S w->
   (∀σ' a' w',A'.inr=A.inr->a'.tmps.size=nt->Df lo A.inr σ' S' w' a'.defers->qO P σ' A'.F a'.tmps->iV P σ S w σ' S' w'->Q (aF6 o) a' w')->C.wpIn (Fw ro) n P Q a w
def aFA(P:Program)(call:fA):Prop:=
 ∀ (ro:Option Nat) (n nt id:Nat) (ops:Array Oper) (aos:List AO),aEz P nt ops=some (.drw aos)->∀ (σ:Env) (F F':Fr) (S S':St) (a:Act) (w:World) (Q:Exit->Act->World->Prop),
  a.tmps.size=nt->qO P σ F a.tmps->kT P σ S w->yT aos call F S=some (F',S')->
  (∀σ' a' w',qO P σ' F' a'.tmps->a'.tmps.size=nt->a'.defers=a.defers->iV P σ S w σ' S' w'->Q .normal a' w')->(Code.region id ops true).wpIn (Fw ro) n P Q a w
structure aJH(P:Program)(fns:T dY)(id:Nat)(fn:dY):Prop where
 none:fn.ntmps=0
 has:∃Fn C,P.funcs[id]? =some Fn/\Fn.body=some C/\¬ (Fn.name== "runtime.NumGoroutine")=true
 ok:∀ (n:Nat) (S S':St) (v:AV),wO fn [] (ev fns n) S=some (v,S')->∀ (σ:Env) (w:World) (fv:Value),Rv P σ (.fn id [] []) fv->kT P σ S w->
  rX P (fun V w'=>∃σ',Rv P σ' v V/\iV P σ S w σ' S' w') ((do let d <-Deferred.ofValue fv ⟨[]⟩;invoke d.target d.args:Sem Next).run P w)
structure tD(P:Program)(fns:T dY):Prop where
 asked:zH P
 bits:nB P
 fn:∀id fn,fns.get id=some fn->(∃Fn,P.funcs[id]? =some Fn/\cFn P Fn=some fn)\/aJH P fns id fn
 drawn:∀call,mG P call->aFA P call
def aFv(tmps:Array Value)(r:ResultVar):Sem Value:=
 match r with
 | .tmp t=>pure (tmps.getD t undef)
 | .cell a t=>do loadVar t (<-asAddr (tmps.getD a undef))
theorem pF{σ:Env}{S:St}{w:World}(hR:kT P σ S w){F:Fr}{tmps:Array Value}(hF:qO P σ F tmps):∀ {rs:List ResultVar} {rvs:List RV} {vs:bf},aHF P rs=some rvs->results rvs F S.h=some vs->
  ∃Vs,(rs.mapM (aFv tmps)).run P w= .ok Vs w/\iH P σ vs Vs
 | [],rvs,vs,hc,h=>by
  simp only[aHF,Ap] at hc;subst hc;simp only[results,Ap] at h;subst h;exact⟨[],rfl,cS.2 rfl⟩
 | .tmp t::rs,rvs,vs,hc,h=>by
  simp only[aHF,Aw] at hc;obtain⟨rvs',hc,rfl⟩:=hc;simp only[results] at h;have⟨vs',h1,h2⟩:=aO h;cases h2;have⟨Vs,h3,h4⟩:=pF hR hF hc h1;refine⟨tmps.getD t undef::Vs,?_,dB.2 ⟨_,_,rfl,hF.get t,h4⟩⟩;have hst:(aFv tmps (.tmp t)).run P w= .ok (tmps.getD t undef) w:=rfl;rw[List.mapM_cons];simp only[Sem.run_bind,hst,Sem.run_pure,Result.andThen_ok,h3]
 | .cell a t::rs,rvs,vs,hc,h=>by
  simp only[aHF] at hc;split at hc
  ·rename_i agg n rvs' hag hc';cases hc;simp only[results] at h;have⟨v,h0,h⟩:=aO h;have⟨vs',h1,h2⟩:=aO h;cases h2;have⟨Vs,h3,h4⟩:=pF hR hF hc' h1;have ha:=hF.get a;unfold aR7 at h0;split at h0
   ·rename_i b off hb;rw[hb] at ha;simp only[Rv] at ha;have⟨L,hL,ha⟩:=ha;have⟨L',V,hL',h5,h6⟩:=aCi hag hR h0;rw[hL] at hL';cases hL';refine⟨V::Vs,?_,dB.2 ⟨_,_,rfl,h6,h4⟩⟩;have hst:(aFv tmps (.cell a t)).run P w= .ok V w:=by simp [aFv,ha,asAddr,h5]
    rw[List.mapM_cons];simp only[Sem.run_bind,hst,Sem.run_pure,Result.andThen_ok,h3]
   ·cases h0
  ·cases hc
theorem aCe{σ:Env}{vs:bf}{Vs:List Value}(h:iH P σ vs Vs):Rv P σ (oneOf vs) (if h:Vs.toArray.size=1 then Vs.toArray[0] else .tuple Vs.toArray):=by
 cases vs with
 | nil=>
  rw[cS] at h;subst h;simp only[oneOf,Rv];exact⟨[],rfl,cS.2 rfl⟩
 | cons v vs=>
  cases vs with
  | nil=>
   rw[dB] at h;obtain⟨V,Ws,rfl,h1,h2⟩:=h;rw[cS] at h2;subst h2;simpa [oneOf] using h1
  | cons u us=>
   have hl:=h.length;rw[dif_neg (by simp;simp at hl;omega)];simp only[oneOf,Rv];exact⟨Vs,rfl,h⟩
theorem aEs:∀ (vs:bf) (i:Nat) (F:Fr) (t:Nat),aD t (tS vs i F)=if i<=t/\t<i+vs.length then(vs[t - i]?).getD .undef else aD t F
 | [],i,F,t=>by rw[if_neg (by simp)];rfl
 | v::vs,i,F,t=>by
  simp only[tS];rw[aEs vs (i+1) _ t,wP];by_cases h1:t=i
  ·subst h1;rw[if_neg ar,if_pos rfl,if_pos (by simp)];simp
  ·by_cases h2:i+1<=t/\t<i+1+vs.length
   ·rw[if_pos h2,if_pos (by simp;omega),show t - i=(t - (i+1))+1 by omega];simp
   ·rw[if_neg h2,if_neg h1,if_neg (by simp;omega)]
theorem aDI{σ:Env}{args:bf}{Args:List Value}(h:iH P σ args Args){nt:Nat}(hn:args.length<=nt):
  qO P σ (tS args 0 .e) ((⟨Args⟩:Array Value)++Array.replicate (nt - Args.length) undef)/\((⟨Args⟩:Array Value)++Array.replicate (nt - Args.length) undef).size=nt:=by
 have hl:=h.length;have hund:Rv P σ .undef undef:=by simp only[AV.undef,undef,Rv];exact⟨[],rfl,cS.2 rfl⟩
 refine⟨⟨fun t=>?_⟩,by simp;omega⟩;rw[aEs];by_cases ht:t<args.length
 ·rw[if_pos ⟨Du _,ar⟩,Nat.sub_zero,Ab ht];have⟨V,h1,h2⟩:=h.get (Ab ht);rw[Bh,Array.getElem?_append_left (by simp;omega)];simp only[List.getElem?_toArray,h1,Dq];exact h2
 ·rw[if_neg ar];have:((⟨Args⟩:Array Value)++Array.replicate (nt - Args.length) undef).getD t undef=undef:=by
   rw[Bh,Array.getElem?_append_right (by simp;omega)];simp only[Array.getElem?_replicate];split<;>rfl
  rw[this];exact hund
theorem aGh:Fw none=Fence.wide:=rfl
theorem aNP(l:Nat):Fw (some l)=Fence.wide.inRound l:=rfl
theorem tR{w:World}{r:Nat}{o:Obj}(o':Obj)(h:w.heap[r]? =some o):({w with heap:=w.heap.setIfInBounds r o'}:World).heap[r]? =some o':=by
 have:=(Ce.1 h).1;simp [this]
theorem kO{w:World}{r r':Nat}(o':Obj)(h:r'≠r):({w with heap:=w.heap.setIfInBounds r o'}:World).heap[r']? =w.heap[r']? :=by
 simp [Bt h]
theorem run_getLoop{w:World}{r:Nat}{lp:Loop}(h:w.heap[r]? =some (.loop lp)):(Instr.getLoop r).run P w= .ok lp w:=by
 simp [Instr.getLoop,zV h (fun _ _ _ e=>by cases e)]
theorem iV.poke{σ0 σ:Env}{S0 S:St}{w0 w w':World}(h:iV P σ0 S0 w0 σ S w){r:Nat}(hr:w0.heap.size<=r)(off:∀b bl L,S.h.get b=some bl->σ b=some L->L.r≠r)
  (hh:∀r',r'≠r->w'.heap[r']? =w.heap[r']?) (hsz:w'.heap.size=w.heap.size) (ho:w'.os=w.os) (ht:w'.tape=w.tape) (hu:w'.output=w.output):iV P σ0 S0 w0 σ S w' where
 rep:=⟨fun b bl hb=>by
  have⟨L,h1,h2,h3⟩:=h.rep.blk b bl hb;exact⟨L,h1,ar,h3.frame (fun _ _ x=>x) (hh _ (off b bl L hb h1))⟩,h.rep.lt,h.rep.fresh,h.rep.glob,h.rep.inj⟩
 low:=h.low
 nx:=h.nx
 keep:=fun r' h1 h2=>by rw[hh r' ar];exact h.keep r' h1 h2
 own:=h.own
 size:=by rw[hsz];exact h.size
 os:=ho.trans h.os
 tape:=ht.trans h.tape
 output:=hu.trans h.output
 ro:=h.ro
theorem leaves{fn:Func}{n:Nat}{tmps:Array Value}{R:Ending->World->Prop}{σ0 σ:Env}{S0 S:St}{w0:World}:∀ (rs:bg) (w:World),rs.Nodup->(∀r∈rs,Mark w0.heap.size σ S w r)->iV P σ0 S0 w0 σ S w->
  (∀w',iV P σ0 S0 w0 σ S w'->∃v,(Go.results fn tmps).run P w'= .ok v w'/\R (.returned v) w')->LeavesInM Fence.wide n P fn tmps R (rs.map aBq) .returning w
 | [],w,_,_,he,hQ=>hQ w he
 | r::rs,w,hn,hm,he,hQ=>by
  have hr:=hm r (by simp);rw[List.nodup_cons] at hn;refine⟨by simp,.inl ⟨r,{w with heap:=w.heap.setIfInBounds r (.deferred none)},rfl,?_,?_⟩⟩
  ·simp only[Instr.takeDeferred,Sem.run_bind,zV hr.cell (fun _ _ _ e=>by cases e),Result.andThen_ok,oW hr.cell (fun _ _ _ e=>by cases e),Sem.run_pure]
  ·refine leaves rs _ hn.2 (fun r' hr'=>?_) (he.poke hr.low hr.off (fun r' h=>kO _ h) (by simp) rfl rfl rfl) hQ;have h1:=hm r' (by simp [hr']);have hne:r'≠r:=fun e=>hn.1 (e ▸ hr');exact⟨h1.low,by simpa using h1.lt,by rw[kO _ hne];exact h1.cell,h1.off⟩
theorem mI{id:Nat}{Fn:Func}{C:Code}{A B Args:List Value}{w:World}(hFn:P.funcs[id]? =some Fn)(hbody:Fn.body=some C)(hname:¬ (Fn.name== "runtime.NumGoroutine")=true):
  ((do let d <-Deferred.ofValue (.func (.func id) ⟨A⟩ ⟨B⟩) ⟨Args⟩;invoke d.target d.args:Sem Next)).run P w= .ok (.enter id ⟨A++(Args++B)⟩) w:=by
 simp only[Deferred.ofValue,Sem.run_bind,Sem.run_pure,Result.andThen_ok,invoke,callFunc,run_program,hFn];rw[if_neg hname];simp [hbody]
theorem aEo{Fn:Func}{fn:dY}(hc:cFn P Fn=some fn):∃C c rs,Fn.body=some C/\¬ (Fn.name== "runtime.NumGoroutine")=true/\jG P Fn.ntmps C=some c/\aHF P Fn.results.toList=some rs/\fn=⟨Fn.ntmps,rs,c⟩:=by
 unfold cFn at hc;rw[Bi] at hc;split at hc
 ·cases hc
 ·rename_i hname;split at hc
  ·rename_i C hbody;split at hc
   ·rename_i c rs hC hrs;cases hc;exact⟨C,c,rs,hbody,hname,hC,hrs,rfl⟩
   ·cases hc
  ·cases hc
theorem xN{σ:Env}:∀ {ps:bg} {args:bf} {Args:List Value} {F F':Fr} {tmps:Array Value},nG ps args F=some F'->iH P σ args Args->qO P σ F tmps->(∀p∈ps,p<tmps.size)->
  args.length=ps.length/\qO P σ F' ((ps.zip Args).foldl (fun tmps (t,a)=>tmps.setIfInBounds t a) tmps)/\((ps.zip Args).foldl (fun tmps (t,a)=>tmps.setIfInBounds t a) tmps).size=tmps.size
 | [],[],Args,F,F',tmps,h,ha,hF,_=>by
  simp only[nG,Ap] at h;subst h;exact⟨rfl,by simpa using hF,by simp⟩
 | [],_::_,Args,F,F',tmps,h,ha,hF,_=>by simp [nG] at h
 | _::_,[],Args,F,F',tmps,h,ha,hF,_=>by simp [nG] at h
 | p::ps,v::vs,Args,F,F',tmps,h,ha,hF,hp=>by
  rw[dB] at ha;obtain⟨V,Ws,rfl,hv,ha⟩:=ha;simp only[nG] at h;have hlt:=hp p (by simp);have hF1:qO P σ (F.set p (some v)) (tmps.setIfInBounds p V):=⟨fun t=>by
   rw[wP];by_cases ht:t=p
   ·subst ht;rw[if_pos rfl,Bh,Array.getElem?_setIfInBounds_self_of_lt hlt];exact hv
   ·rw[if_neg ht,Bh,Array.getElem?_setIfInBounds_ne (Bt ht),<-Bh];exact hF.get t⟩
  have⟨h1,h2,h3⟩:=xN h ha hF1 (fun q hq=>by simpa using hp q (by simp [hq]));exact⟨by simp [h1],by simpa using h2,by simpa using h3⟩
theorem aGY{ih:Evs}(hcode:uH P ih.code){bl:AB}{b:Nat}{args:bf}{S S':St}{v:AV}(hb:S.h.get b=some bl)(h:aAf bl b args ih S=some (v,S')){σ:Env}{w:World}{L:Loc}{Args:List Value}
  (hL:σ b=some L) (hargs:iH P σ args Args) (hR:kT P σ S w):
  rX P (fun V w'=>∃σ',Rv P σ' v V/\iV P σ S w σ' S' w') ((Instr.yield L.r ⟨Args⟩).run P w):=by
 cases bl<;>simp only[aAf,reduceCtorEq] at h;rename_i st pend fr ps as bd;cases st<;>simp only[reduceCtorEq] at h;have⟨F,hF,h⟩:=aO h;have⟨⟨o1,A1,S1⟩,h1,h⟩:=aO h;have⟨L',hL',hlt,lp,hlp,hst,hpend,hfr,hps,has,hbd,hpb⟩:=hR.blk b _ hb;rw[hL] at hL';cases hL';have⟨hlen,hfr',hsz⟩:=xN hF hargs hfr hpb;have hAl:=hargs.length;have hpl:lp.params.size=ps.length:=by rw[<-hps];simp
 have hrun:(Instr.yield L.r ⟨Args⟩).run P w= .ok (.round L.r lp.fn ((ps.zip Args).foldl (fun tmps (t,a)=>tmps.setIfInBounds t a) lp.tmps) lp.assign lp.body) w:=by
  have hsz':(⟨Args⟩:Array Value).size=lp.params.size:=by simp;omega
  have hfold:(lp.params.zip ⟨Args⟩).foldl (fun tmps (t,a)=>tmps.setIfInBounds t a) lp.tmps=(ps.zip Args).foldl (fun tmps (t,a)=>tmps.setIfInBounds t a) lp.tmps:=by
   rw[<-Array.foldl_toList,Array.toList_zip,hps]
  simp only[Instr.yield,Sem.run_bind,run_getLoop hlp,Result.andThen_ok,hsz',ne_eq,Ct,Eg,Sem.run_pure,hfold]
 rw[hrun];show RoundIn Fence.wide 0 P L.r lp.fn _ lp.assign lp.body w _;refine roundIn_of_wpIn trivial ?_;rw[<-aNP];refine hcode (some L.r) 0 lp.tmps.size lp.assign as has ⟨F,true⟩ S o1 A1 S1 (fun h=>by cases h) h1 w.heap.size σ {tmps:=(ps.zip Args).foldl (fun tmps (t,a)=>tmps.setIfInBounds t a) lp.tmps,defers:=[]} w _ hsz Df.nil (Ag _) hfr' hR ?_;intro σ1 a1 w1 i1 s1 d1 f1 e1;cases o1<;>simp only[aCT,reduceCtorEq] at h;have⟨bl1,hb1,h⟩:=aO h;cases bl1<;>simp only[tH,reduceCtorEq] at h;rename_i st1 pend1 fr1 ps1 as1 bd1;cases st1<;>simp only[reduceCtorEq] at h;have⟨⟨o2,A2,S2⟩,h2,h⟩:=aO h;have⟨bl2,hb2,h⟩:=aO h;have⟨L1,hL1,hlt1,lp1,hlp1,hst1,hpend1,hfr1,hps1,has1,hbd1,hpb1⟩:=e1.rep.blk b _ hb1;have:=e1.mono hR b L hL;rw[this] at hL1;cases hL1;have hbeg:(Instr.beginRound L.r).run P w1= .ok () {w1 with heap:=w1.heap.setIfInBounds L.r (.loop {lp1 with state:=.busy})}:=by
  simp only[Instr.beginRound,Sem.run_bind,run_getLoop hlp1,Result.andThen_ok,oW hlp1 (fun _ _ _ e=>by cases e),hst1,aMY,Sem.run_pure]
 refine⟨_,hbeg,?_⟩;have e2:iV P σ1 S1 w1 σ1 ⟨S1.h.set b (some (.loop .busy pend1 fr1 ps1 as1 bd1)),S1.nx⟩ {w1 with heap:=w1.heap.setIfInBounds L.r (.loop {lp1 with state:=.busy})}:=
  iV.write e1.rep hb1 trivial trivial this (fun r hr=>kO _ hr) (by simp) rfl rfl rfl ⟨_,tR _ hlp1,rfl,hpend1,hfr1,hps1,has1,hbd1,hpb1⟩
 have i1':A1.inr=true:=i1;have h2':ih.code bd A1 ⟨S1.h.set b (some (.loop .busy pend1 fr1 ps1 as1 bd1)),S1.nx⟩=some (o2,A2,S2):=h2;have d1':Df w.heap.size A1.inr σ1 S1 w1 a1.defers:=by rw[i1];exact d1
 refine hcode (some L.r) 0 lp.tmps.size lp.body bd hbd A1 _ o2 A2 S2 (fun h=>by rw[i1'] at h;cases h) h2' w.heap.size σ1 a1 _ _ s1 (d1'.ext e1.rep e2) (by have:=e1.size;simpa using this) f1 e2.rep ?_;intro σ2 a2 w2 i2 s2 d2 f2 e3;cases bl2<;>simp only[uA,reduceCtorEq] at h;rename_i st2 pend2 fr2 ps2 as2 bd2;cases st2<;>simp only[reduceCtorEq] at h;have⟨L2,hL2,hlt2,lp2,hlp2,hst2,hpend2,hfr2,hps2,has2,hbd2,hpb2⟩:=e3.rep.blk b _ hb2;have hL2':=e3.mono e2.rep b L this;rw[hL2'] at hL2;cases hL2;have fin:∀ (p:Option Out) (st:LSt) (j:Option Code) (bb:Bool),aMY st=(if j.isNone then .ready else .done)->p.bind codeOf=j->bb=j.isNone->v= .bool bb->
   S'=⟨S2.h.set b (some (.loop st p fr2 ps2 as2 bd2)),S2.nx⟩->∃V w',(Instr.endRound L.r j).run P w2= .ok V w'/\∃σ',Rv P σ' v V/\iV P σ S w σ' S' w':=by
  intro p st j bb e1' e2' e3' e4' e5';have hend:(Instr.endRound L.r j).run P w2= .ok (.bool j.isNone) {w2 with heap:=w2.heap.setIfInBounds L.r (.loop {lp2 with state:=if j.isNone then .ready else .done,pending:=j})}:=by
   simp only[Instr.endRound,Sem.run_bind,run_getLoop hlp2,Result.andThen_ok,oW hlp2 (fun _ _ _ e=>by cases e),Sem.run_pure]
  refine⟨_,_,hend,σ2,by rw[e4',e3'];simp only[Rv],?_⟩;rw[e5'];exact e1.trans (e2.trans (e3.trans (iV.write e3.rep hb2 trivial trivial hL2' (fun r hr=>kO _ hr) (by simp) rfl rfl rfl ⟨_,tR _ hlp2,e1'.symm,e2'.symm,hfr2,hps2,has2,hbd2,hpb2⟩)))
 cases o2 with
 | normal=>cases h;exact fin none .ready none true rfl rfl rfl rfl rfl
 | ret=>cases h;exact fin (some .ret) .done (some .ret) false rfl rfl rfl rfl rfl
 | exit id=>cases h;exact fin (some (.exit id)) .done (some (.exit id)) false rfl rfl rfl rfl rfl
theorem aC3{fns:T dY}(hK:tD P fns){n:Nat}(hcode:uH P (ev fns n).code):mG P (xV fns (ev fns n)):=by
 intro f args S v S' h σ w fv Args hf hargs hR;cases f<;>simp only[xV,reduceCtorEq] at h
 ·rename_i id first cap;have⟨fn,hfn,h⟩:=aO h;rcases hK.fn id fn hfn with⟨Fn,hFn,hc⟩ | hfk
  case inr=>
   have⟨hle,_⟩:=cH (show bQ (Nat.ble (mC (yA first (yA args cap))) fn.ntmps) _ _=_ from h);rw[hfk.none,fS,gE,gE] at hle;have hz:=Bd hle;simp only[Ao] at hz;have h1:first= []:=Bu.1 ar;have h2:args= []:=Bu.1 ar;have h3:cap= []:=Bu.1 ar;subst h1;subst h2;subst h3;have hA:=cS.1 hargs;subst hA;exact hfk.ok n S S' v h σ w fv hf hR
  simp only[Rv] at hf;obtain⟨A,B,rfl,hA,hB⟩:=hf;obtain⟨C,c,rs,hbody,hname,hC,hrs,rfl⟩:=aEo hc;unfold wO at h;have⟨hle,h⟩:=cH h;have⟨⟨o,A',S1⟩,h1,h2⟩:=aO h;rw[fS,gE,gE] at hle;have hle:=Bd hle;rw[gE,gE] at h1;have hall:iH P σ (first++(args++cap)) (A++(Args++B)):=hA.append (hargs.append hB);rw[mI hFn hbody hname];show CallsIn Fence.wide 0 P id ⟨A++(Args++B)⟩ w _;have⟨hfr,hsz⟩:=aDI hall (nt:=Fn.ntmps) hle;refine callsIn_of_wp_marks hFn hbody trivial ?_;have hsz0:(⟨A++(Args++B)⟩:Array Value).size=(A++(Args++B)).length:=rfl;rw[<-aGh,hsz0];refine hcode none 0 Fn.ntmps C c hC ⟨tS (first++(args++cap)) 0 .e,false⟩ S o A' S1 (fun _=>rfl) h1 w.heap.size σ _ w _ hsz Df.nil (Ag _) hfr hR ?_;intro σ' a' w' hinr hsz' hdf hfr' hext;have⟨_,rks,hd,hnd,hmk⟩:=hdf;unfold aFX at h2;obtain⟨vs,h6,h7⟩:∃vs,results rs A'.F S1.h=some vs/\some (oneOf vs,S1)=some (v,S'):=by
   cases o with
   | normal=>exact aO h2
   | ret=>exact aO h2
   | exit i=>cases h2
  cases h7;have fin:∀w'',iV P σ S w σ' S' w''->∃V,(Go.results Fn a'.tmps).run P w''= .ok V w''/\∃σ',Rv P σ' (oneOf vs) V/\iV P σ S w σ' S' w'':=fun w'' hx=>by
   have⟨Vs,h8,h9⟩:=pF hx.rep hfr' hrs h6;refine⟨_,?_,σ',aCe h9,hx⟩;show((do let vs <-Fn.results.mapM (aFv a'.tmps);pure (if h:vs.size=1 then vs[0] else .tuple vs):Sem Value)).run P w''=_;rw[Array.mapM_eq_mapM_toList];simp only[Sem.run_bind,Sem.run_map,h8,Result.andThen_ok,Sem.run_pure]
  cases o with
  | normal=>
   show LeavesInM Fence.wide 0 P Fn a'.tmps _ a'.defers .returning w';rw[hd];exact leaves rks w' hnd hmk hext fin
  | ret=>
   show LeavesInM Fence.wide 0 P Fn a'.tmps _ a'.defers .returning w';rw[hd];exact leaves rks w' hnd hmk hext fin
  | exit i=>cases h2
 ·rename_i b;have⟨bl,hb,h⟩:=aO h;simp only[Rv] at hf;obtain⟨L,hL,rfl⟩:=hf;have hrun:((do let d <-Deferred.ofValue (.func (.yield L.r) #[] #[]) ⟨Args⟩;invoke d.target d.args:Sem Next)).run P w=(Instr.yield L.r ⟨Args⟩).run P w:=by
   simp [Deferred.ofValue,invoke]
  rw[hrun];exact aGY hcode hb h hL hargs hR
theorem aDN{fns:T dY}{ro:Option Nat}{m nt:Nat}{C:Code}{c:AC}(hC:jG P nt C=some c):∀ (n:Nat),(∀k,k<n->uH P (ev fns k).code)->
  ∀ (A:bG) (S:St) (o:Out) (A':bG) (S':St),(A.inr=false->ro=none)->(ev fns n).code (.loop c) A S=some (o,A',S')->
  ∀ (lo:Nat) (σ:Env) (a:Act) (w:World) (Q:Exit->Act->World->Prop),a.tmps.size=nt->Df lo A.inr σ S w a.defers->lo<=w.heap.size->qO P σ A.F a.tmps->kT P σ S w->
   (∀σ' a' w',A'.inr=A.inr->a'.tmps.size=nt->Df lo A.inr σ' S' w' a'.defers->qO P σ' A'.F a'.tmps->iV P σ S w σ' S' w'->Q (aF6 o) a' w')->Code.roundsIn (Fw ro) m P C Q n a w
 | 0,_,A,S,o,A',S',_,h=>by cases h
 | n+1,hk,A,S,o,A',S',hds,h=>by
  intro lo σ a w Q hsz hdef hlo hF hR hQ;have⟨⟨o1,A1,S1⟩,h1,h2⟩:=aO (show(bC ((ev fns n).code c A S) (uQ (.loop c) (ev fns n)))=some (o,A',S') from h);show C.wpIn (Fw ro) m P (Exit.then (Code.roundsIn (Fw ro) m P C Q n) Q) a w;refine hk n (Dj n) ro m nt C c hC A S o1 A1 S1 hds h1 lo σ a w _ hsz hdef hlo hF hR ?_;intro σ1 a1 w1 i1 s1 d1 f1 e1;have⟨F1,q1⟩:=A1;simp only at i1;subst i1;have l1:=Al hlo e1.size;unfold uQ at h2;cases o1 with
  | normal=>exact aDN hC n (fun k hlt=>hk k ar) ⟨F1,A.inr⟩ S1 o A' S' hds h2 lo σ1 a1 w1 Q s1 d1 l1 f1 e1.rep (fun σ' a' w' q1 q2 q3 q4 q5=>hQ σ' a' w' q1 q2 q3 q4 (e1.trans q5))
  | exit i=>cases h2;exact hQ σ1 a1 w1 rfl s1 d1 f1 e1
  | ret=>cases h2;exact hQ σ1 a1 w1 rfl s1 d1 f1 e1
theorem aKs{fns:T dY}(hK:tD P fns){n:Nat}(ih:uH P (ev fns n).code)(hcall:mG P (ev fns n).call)(_:∀k,n=k+1->uH P (ev fns k).code){ro:Option Nat}{m nt:Nat}
  {f:Operand} {ps:Array Tmp} {x y:Code} {cf:cO} {cx cy:AC} (hf:iB P f=some cf) (hx:jG P nt x=some cx) (hy:jG P nt y=some cy) (hps:ps.toList.all (fun p=>Nat.blt p nt)=true)
  {A A':bG} {S S':St} {o:Out} (hro:A.inr=false->ro=none) (h:(ev fns (n+1)).code (.rng cf ps.toList cx cy) A S=some (o,A',S'))
  {lo:Nat} {σ:Env} {a:Act} {w:World} {Q:Exit->Act->World->Prop} (hsz:a.tmps.size=nt) (hdef:Df lo A.inr σ S w a.defers) (hlo:lo<=w.heap.size) (hF:qO P σ A.F a.tmps) (hR:kT P σ S w)
  (hQ:∀σ' a' w',A'.inr=A.inr->a'.tmps.size=nt->Df lo A.inr σ' S' w' a'.defers->qO P σ' A'.F a'.tmps->iV P σ S w σ' S' w'->Q (aF6 o) a' w'):(Code.rangeFunc f ps x y).wpIn (Fw ro) m P Q a w:=by
 have h:bQ A.inr none (bQ (aMU (cf.val A.F))
  (bC ((ev fns n).call (cf.val A.F) [.yld S.nx] ⟨S.h.set S.nx (some (.loop .ready none A.F ps.toList cx cy)),Nat.succ S.nx⟩) fun r=>
   bC (r.2.h.get S.nx) fun bl=>aBM bl S.nx A r.2 (ev fns n)) none)=some (o,A',S'):=h
 cases hinr:A.inr with
 | true=>rw[hinr,aR] at h;cases h
 | false=>
  rw[hinr,bB] at h;have:=hro hinr;subst this;have⟨hfn,h⟩:=cH h;have⟨⟨v1,S1⟩,h1,h⟩:=aO h;have⟨bl,hbl,h⟩:=aO h;simp only at hbl h;have hfv:=cL (a:=a) hF hR hf;cases hcf:cf.val A.F<;>rw[hcf] at hfn<;>simp only[aMU,Bc] at hfn;rename_i id first cap;rw[hcf] at hfv h1;have hfv':=hfv;simp only[Rv] at hfv;have⟨FA,FB,hev,hA,hB⟩:=hfv;have hent:∃Fn C,P.funcs[id]? =some Fn/\Fn.body=some C/\¬ (Fn.name== "runtime.NumGoroutine")=true:=by
   cases n with
   | zero=>cases h1
   | succ k=>
    have h1':xV fns (ev fns k) (.fn id first cap) [.yld S.nx] _=some (v1,S1):=h1;simp only[xV] at h1';have⟨fn,hfn',_⟩:=aO h1';rcases hK.fn id fn hfn' with⟨Fn,hFn,hc⟩ | hfk
    ·have⟨C,c,rs,hbody,hname,_⟩:=aEo hc;exact⟨Fn,C,hFn,hbody,hname⟩
    ·exact hfk.has
  have⟨Fn,C,hFn,hbody,hname⟩:=hent;rw[aGh];refine wpIn_rangeFunc fun fnid _=>?_;have ep:iV P σ S w σ S (w.alloc (.deferred (some []))):=by
   have hpush:∀r,r<w.heap.size->(w.alloc (.deferred (some []))).heap[r]? =w.heap[r]? :=fun r hr=>by
    show(w.heap.push _)[r]? =_;rw[Array.getElem?_push,if_neg ar]
   have hsize:(w.alloc (.deferred (some []))).heap.size=w.heap.size+1:=by show(w.heap.push _).size=_;simp
   exact⟨⟨fun b bl hb=>by
    have⟨L,q1,q2,q3⟩:=hR.blk b bl hb;exact⟨L,q1,ar,q3.frame (fun _ _ x=>x) (hpush _ q2)⟩,hR.lt,hR.fresh,hR.glob,hR.inj⟩,fun _ _=>rfl,Ag _,fun r hr _=>hpush r hr,fun _ ho=>.inl ho,ar,rfl,rfl,rfl,fun _ _ hb=>hb⟩
  have hsize1:(w.alloc (.deferred (some []))).heap.size=w.heap.size+1:=by show(w.heap.push _).size=_;simp
  have hmk:Mark lo σ S (w.alloc (.deferred (some []))) w.heap.size:=by
   refine⟨hlo,ar,?_,fun b bl L hb hL he=>?_⟩
   ·show(w.heap.push _)[w.heap.size]? =_;simp
   ·have⟨L',q1,q2,_⟩:=hR.blk b bl hb;rw[hL] at q1;cases q1;omega
  let lp:Loop:={state:=.ready,pending:=none,fn:=fnid,tmps:=a.tmps,params:=ps,assign:=x,body:=y,defers:=w.heap.size}
  have ea:iV P σ S (w.alloc (.deferred (some []))) (upd σ S.nx ⟨w.heap.size+1,0,0⟩) ⟨S.h.set S.nx (some (.loop .ready none A.F ps.toList cx cy)),Nat.succ S.nx⟩ ((w.alloc (.deferred (some []))).alloc (.loop lp)):=by
   have:=iV.alloc (P:=P) (bl:=.loop .ready none A.F ps.toList cx cy) (e:=0) (ob:=.loop lp) ep.rep (w':=(w.alloc (.deferred (some []))).alloc (.loop lp)) rfl rfl rfl rfl;rw[hsize1] at this;refine this ?_ trivial;refine⟨lp,?_,rfl,rfl,hF.mono (fX (hR.fresh _ (Ag _))),rfl,by rw[<-hsz] at hx;exact hx,by rw[<-hsz] at hy;exact hy,fun p hp=>?_⟩
   ·show((w.alloc (.deferred (some []))).heap.push (.loop lp))[w.heap.size+1]? =some (.loop lp);rw[<-hsize1,Array.getElem?_push_size]
   ·have:=Di.1 hps p hp;have:=Bd (show Nat.ble (p+1) nt=true from this);show p<a.tmps.size;omega
  have hsl:upd σ S.nx ⟨w.heap.size+1,0,0⟩ S.nx=some ⟨w.heap.size+1,0,0⟩:=upd_same _ _;have e2:=ep.trans ea;have hnext:=hcall (.fn id first cap) [.yld S.nx] _ v1 S1 h1 _ _ (.func (.func id) ⟨FA⟩ ⟨FB⟩) [.func (.yield (w.heap.size+1)) #[] #[]]
   (by rw[hev] at hfv';exact hfv'.mono (e2.mono hR)) (dB.2 ⟨_,_,rfl,by simp only[Rv];exact⟨_,hsl,rfl⟩,cS.2 rfl⟩) e2.rep
  rw[mI hFn hbody hname] at hnext;have hnext:CallsIn Fence.wide 0 P id _ _ _:=hnext;refine⟨w.heap.size+1,[aBq w.heap.size],(w.alloc (.deferred (some []))).alloc (.loop lp),{target:=.fn (.func id) ⟨FB⟩,args:=⟨FA⟩++ #[.func (.yield (w.heap.size+1)) #[] #[]]},(w.alloc (.deferred (some []))).alloc (.loop lp),id,
   ⟨FA++([.func (.yield (w.heap.size+1)) #[] #[]]++FB)⟩,(w.alloc (.deferred (some []))).alloc (.loop lp),?_,?_,fun _ _=>trivial,?_,fun hd=>by simp [Fence.wide] at hd,?_⟩
  ·have n1:∀ (o:Obj) (w:World),(newObj o).run P w= .ok w.heap.size (w.alloc o):=fun _ _=>rfl;simp only[Instr.enterLoop,Fence.wide,Sem.run_bind,n1,Result.andThen_ok,Sem.run_pure,hsize1];rfl
  ·show(Deferred.ofValue (a.eval f) _).run P _=_;rw[hev];simp [Deferred.ofValue,rangeCall,Act.eval]
  ·have:=mI (P:=P) (A:=FA) (B:=FB) (Args:=[.func (.yield (w.heap.size+1)) #[] #[]]) (w:=(w.alloc (.deferred (some []))).alloc (.loop lp)) hFn hbody hname;simpa [Deferred.ofValue] using this
  ·refine aCr (ro:=none) (CallsIn.mono hnext fun e w3 he=>?_);cases e with
   | returned V=>
    have⟨σ3,_,e3⟩:=he;have e13:=e2.trans e3;unfold aBM at h;split at h
    ·rename_i st pend fr ps' as bd;have⟨L,hL,hlt,lp3,hlp3,hst,hpend,hfr,hps3,has,hbd,hpb⟩:=e3.rep.blk S.nx _ hbl;have hL':=e3.mono e2.rep _ _ hsl;rw[hL'] at hL;cases hL;have hnb:(lp3.state== .busy)=false:=by
      rw[hst];cases st<;>first | (simp at h;done) | rfl
     have hpost:∃c,aK5 pend=some c/\(ev fns n).code c A ⟨S1.h.set S.nx (some (.loop .exhausted pend fr ps' as bd)),S1.nx⟩=some (o,A',S'):=by
      cases st<;>first | (simp at h;done) | exact aO h
     have⟨c,hc,hcode⟩:=hpost;obtain⟨w4,hw4⟩:∃w4:World,w4= {w3 with heap:=w3.heap.setIfInBounds (w.heap.size+1) (.loop {lp3 with state:=.exhausted})}:=⟨_,rfl⟩;refine⟨lp3.pending,w4,?_,?_⟩
     ·rw[hw4];simp only[Instr.endLoop,Sem.run_bind,run_getLoop hlp3,Result.andThen_ok,hnb,Bc,Eg,oW hlp3 (fun _ _ _ e=>by cases e),Sem.run_pure]
     ·have e4:iV P σ3 S1 w3 σ3 ⟨S1.h.set S.nx (some (.loop .exhausted pend fr ps' as bd)),S1.nx⟩ {w3 with heap:=w3.heap.setIfInBounds (w.heap.size+1) (.loop {lp3 with state:=.exhausted})}:=
       iV.write e3.rep hbl trivial trivial hL' (fun r hr=>kO _ hr) (by simp) rfl rfl rfl ⟨_,tR _ hlp3,rfl,hpend,hfr,hps3,has,hbd,hpb⟩
      rw[<-hw4] at e4;have e14:=e13.trans e4;have hd4:Df lo A.inr σ3 ⟨S1.h.set S.nx (some (.loop .exhausted pend fr ps' as bd)),S1.nx⟩ w4 ([aBq w.heap.size]++a.defers):=by
       have⟨_,rs,d1,d2,d3⟩:=hdef;refine⟨fun hh=>(by rw[hinr] at hh;cases hh),w.heap.size::rs,(by rw[d1];rfl),List.nodup_cons.2 ⟨fun hm=>?_,d2⟩,fun r hr=>?_⟩
       ·exact absurd (d3 _ hm).lt ar
       ·rcases Bs.1 hr with rfl | hr
        ·exact(hmk.ext ep.rep (ea.trans (e3.trans e4)))
        ·exact(d3 r hr).ext hR e14
      have hfin:=ih none m nt;have hA4:qO P σ3 A.F a.tmps:=hF.mono (e14.mono hR);have hlo4:=Al hlo e14.size;rw[hpend];cases pend with
      | none=>
       cases hc;cases n with
       | zero=>cases hcode
       | succ k=>
        cases hcode;exact hQ σ3 _ _ rfl hsz hd4 hA4 e14
      | some out=>
       cases out with
       | normal=>cases hc
       | ret=>
        cases hc;exact hfin .ret .ret rfl A _ o A' S' (fun _=>rfl) hcode lo σ3 {a with defers:=[aBq w.heap.size]++a.defers} _ Q hsz hd4 hlo4 hA4 e4.rep (fun σ' a' w' q1 q2 q3 q4 q5=>hQ σ' a' w' q1 q2 q3 q4 (e14.trans q5))
       | exit i=>
        cases hc;exact hfin (.exit i) (.exit i) rfl A _ o A' S' (fun _=>rfl) hcode lo σ3 {a with defers:=[aBq w.heap.size]++a.defers} _ Q hsz hd4 hlo4 hA4 e4.rep (fun σ' a' w' q1 q2 q3 q4 q5=>hQ σ' a' w' q1 q2 q3 q4 (e14.trans q5))
    ·cases h
   | _=>exact he.elim
theorem zS{fns:T dY}(hK:tD P fns):∀n,uH P (ev fns n).code:=by
 intro n
 induction n using Nat.strongRecOn with
 | _ n ihn=>
  cases n with
  | zero=>intro ro m nt C c hC A S o A' S' hds h;cases h
  | succ n=>
   have ih:=ihn n (Dj n);have hcall:mG P (ev fns n).call:=by
    cases n with
    | zero=>intro f args S v S' h;cases h
    | succ k=>exact aC3 hK (ihn k ar)
   intro ro m nt C c hC A S o A' S' hds h lo σ a w Q hsz hdef hlo hF hR hQ;cases C with
   | skip=>
    cases hC;cases h;exact wpIn_skip (hQ σ a w rfl hsz hdef hF (iV.refl hR))
   | seq x y=>
    simp only[jG] at hC;split at hC
    ·rename_i cx cy hx hy;cases hC;have⟨⟨o1,A1,S1⟩,h1,h2⟩:=aO (show(bC ((ev fns n).code cx A S) (uQ cy (ev fns n)))=some (o,A',S') from h);refine wpIn_seq (ih ro m nt x cx hx A S o1 A1 S1 hds h1 lo σ a w _ hsz hdef hlo hF hR ?_);intro σ1 a1 w1 i1 s1 d1 f1 e1;have⟨F1,q1⟩:=A1;simp only at i1;subst i1;have l1:=Al hlo e1.size;unfold uQ at h2;cases o1 with
     | normal=>exact ih ro m nt y cy hy ⟨F1,A.inr⟩ S1 o A' S' hds h2 lo σ1 a1 w1 Q s1 d1 l1 f1 e1.rep (fun σ' a' w' q1 q2 q3 q4 q5=>hQ σ' a' w' q1 q2 q3 q4 (e1.trans q5))
     | exit i=>cases h2;exact hQ σ1 a1 w1 rfl s1 d1 f1 e1
     | ret=>cases h2;exact hQ σ1 a1 w1 rfl s1 d1 f1 e1
    ·cases hC
   | cond x y z=>
    simp only[jG] at hC;split at hC
    ·rename_i cc cy cz hx hy hz;cases hC;have h:aCa (cc.val A.F) cy cz (ev fns n) A S=some (o,A',S'):=h;have hv:=cL (a:=a) hF hR hx;unfold aCa at h;split at h
     ·rename_i t ht;rw[ht] at hv;simp only[Rv] at hv;refine wpIn_cond hv ?_;cases t
      ·exact ih ro m nt z cz hz A S o A' S' hds h lo σ a w Q hsz hdef hlo hF hR hQ
      ·exact ih ro m nt y cy hy A S o A' S' hds h lo σ a w Q hsz hdef hlo hF hR hQ
     ·cases h
    ·cases hC
   | block id x=>
    simp only[jG,Aw] at hC;obtain⟨cx,hx,rfl⟩:=hC;have⟨⟨o1,A1,S1⟩,h1,h2⟩:=aO (show(bC ((ev fns n).code cx A S) (tP id))=some (o,A',S') from h);refine wpIn_block (ih ro m nt x cx hx A S o1 A1 S1 hds h1 lo σ a w _ hsz hdef hlo hF hR ?_);intro σ1 a1 w1 i1 s1 d1 f1 e1;have⟨F1,q1⟩:=A1;simp only at i1;subst i1;have l1:=Al hlo e1.size;unfold tP at h2;cases o1 with
    | normal=>cases h2;exact hQ σ1 a1 w1 rfl s1 d1 f1 e1
    | ret=>cases h2;exact hQ σ1 a1 w1 rfl s1 d1 f1 e1
    | exit i=>
     simp only at h2;rw[cN] at h2;show(if i=id then Q .normal a1 w1 else Q (.exit i) a1 w1);split at h2
     ·rename_i he;rw[Bj] at he;rw[if_pos he];cases h2;exact hQ σ1 a1 w1 rfl s1 d1 f1 e1
     ·rename_i he;rw[Bj] at he;rw[if_neg he];cases h2;exact hQ σ1 a1 w1 rfl s1 d1 f1 e1
   | loop x=>
    simp only[jG,Aw] at hC;obtain⟨cx,hx,rfl⟩:=hC;exact wpIn_loop_rounds (n+1) (aDN hx (n+1) ihn A S o A' S' hds h lo σ a w Q hsz hdef hlo hF hR hQ)
   | exit id=>
    cases hC;cases h;exact wpIn_exit (hQ σ a w rfl hsz hdef hF (iV.refl hR))
   | ret=>
    cases hC;cases h;exact wpIn_ret (hQ σ a w rfl hsz hdef hF (iV.refl hR))
   | region id ops d=>
    simp only[jG,Bi] at hC;split at hC
    ·rename_i hd;subst hd;obtain⟨aos,rfl⟩:∃aos,c= .drw aos:=by
      unfold aEz at hC;split at hC
      ·rw[Bi] at hC;split at hC
       ·cases hC;exact⟨_,rfl⟩
       ·cases hC
      ·cases hC
     have⟨⟨F1,S1⟩,h1,h2⟩:=aO (show(bC (yT aos (ev fns n).call A.F S) fun r=>some (Out.normal,(⟨r.1,A.inr⟩:bG),r.2))=some (o,A',S') from h);cases h2;exact hK.drawn _ hcall ro m nt id ops aos hC σ A.F F1 S S1 a w Q hsz hF hR h1 (fun σ' a' w' q1 q2 q3 q4=>hQ σ' a' w' rfl q2 (by rw[q3];exact hdef.ext hR q4) q1 q4)
    ·rename_i hd;have hd:d=false:=by simpa using hd
     subst hd;obtain⟨aos,haos,rfl⟩:=Aw.1 hC;have⟨⟨F1,S1⟩,h1,h2⟩:=aO (show(bC (wJ aos (ev fns n).call A.F S) fun r=>some (Out.normal,(⟨r.1,A.inr⟩:bG),r.2))=some (o,A',S') from h);cases h2;refine wpIn_region ?_;rw[List.range_eq_range',<-Cy];exact yB hK.asked hK.bits hcall ops.toList 0 [] aos σ A.F F1 S S1 a w (fun j=>by simp) haos hsz hF hR h1 (fun σ' a' w' q1 q2 q3 q4=>hQ σ' a' w' rfl q2 (by rw[q3];exact hdef.ext hR q4) q1 q4)
   | rangeFunc f ps x y=>
    simp only[jG,Bi] at hC;split at hC
    ·rename_i hps;split at hC
     ·rename_i cf cx cy hf hx hy;cases hC;exact aKs hK ih hcall (fun k hk=>by subst hk;exact ihn k ar) hf hx hy hps hds h hsz hdef hlo hF hR hQ
     ·cases hC
    ·cases hC
   | scope x=>cases hC
   | label l=>cases hC
   | goto l=>cases hC
   | refuse s=>cases hC
theorem aLt{fns:T dY}(hK:tD P fns)(n:Nat):mG P (ev fns n).call:=by
 cases n with
 | zero=>intro f args S v S' h;cases h
 | succ k=>exact aC3 hK (zS hK k)
end Go.Ev
namespace Go.Ev
def Agree(l:bg)(F F':Fr):Prop:=∀t∈l,aD t F=aD t F'
theorem Agree.left{l m:bg}{F F':Fr}(h:Agree (l++m) F F'):Agree l F F':=fun t ht=>h t (De _ ht)
theorem Agree.right{l m:bg}{F F':Fr}(h:Agree (l++m) F F'):Agree m F F':=fun t ht=>h t (Cv _ ht)
theorem cC{x:cO}{F F':Fr}(h:Agree x.rd F F'):x.val F=x.val F':=by
 cases x with
 | t i=>exact h i (by simp [cO.rd])
 | c v=>rfl
theorem mK{F F':Fr}:∀ {xs:List cO},Agree (rds xs) F F'->dG xs F=dG xs F'
 | [],_=>rfl
 | x::xs,h=>by
  show x.val F::dG xs F=x.val F'::dG xs F';rw[cC h.left,mK h.right]
theorem nL{x:Option cO}{F F':Fr}(d:Nat)(h:Agree (rdo x) F F'):lC F d x=lC F' d x:=by
 cases x with
 | none=>rfl
 | some x=>simp only[lC];rw[cC (show Agree x.rd F F' from h)]
theorem aAV{F F':Fr}:∀ {ps:List (Nat×Nat×cO)},Agree (rdp ps) F F'->eH F ps=eH F' ps
 | [],_=>rfl
 | (a,b,x)::ps,h=>by
  simp only[eH];rw[cC h.left,aAV h.right]
theorem zF{F F':Fr}(s:Nat):∀ {ps:List (Nat×cO)},Agree (aQf ps) F F'->kK s F ps=kK s F' ps
 | [],_=>rfl
 | (a,x)::ps,h=>by
  simp only[kK];rw[cC h.left,zF s h.right]
theorem qP{F F':Fr}{lo hi mx:Option cO}(a b:Nat)(h1:Agree (rdo lo) F F')(h2:Agree (rdo hi) F F')(h3:Agree (rdo mx) F F'):pY a b lo hi mx F=pY a b lo hi mx F':=by
 simp only[pY,nL _ h1,nL _ h2,nL _ h3]
theorem aJe{F F':Fr}{lo hi mx:Option cO}(k:SlK)(v:AV)(h1:Agree (rdo lo) F F')(h2:Agree (rdo hi) F F')(h3:Agree (rdo mx) F F'):aAx k v lo hi mx F=aAx k v lo hi mx F':=by
 unfold aAx;split
 ·simp only[aOL,nL _ h1,nL _ h2]
 ·simp only[aM1,qP _ _ h1 h2 h3]
 ·simp only[aMJ,qP _ _ h1 h2 h3]
 ·simp only[aLb,qP _ _ h1 h2 h3]
 ·simp only[aMW,qP _ _ h1 h2 h3]
 ·rfl
theorem aKr{q:QOp}{F F':Fr}(h:Agree q.rd F F')(hp:T AB):gM q F hp=gM q F' hp:=by
 cases q with
 | mv x=>show some (x.val F)=_;rw[cC (x:=x) h];rfl
 | pick c a b=>show xY (c.val F) a b F=xY (c.val F') a b F';simp only[xY,cC h.left,cC h.right.left,cC h.right.right]
 | build z ps=>show bC (eQ z (eH F ps)) _=_;rw[aAV h];rfl
 | ld a n x=>show dT (x.val F) a n hp=dT (x.val F') a n hp;rw[cC h]
 | ch x=>show vI (x.val F)=vI (x.val F');rw[cC h]
 | bin op e x y=>show pV op e (x.val F) (y.val F)=pV op e (x.val F') (y.val F');rw[cC h.left,cC h.right]
 | un op x=>show unV op (x.val F)=unV op (x.val F');rw[cC h]
 | conv k x=>show aDq k (x.val F) hp=aDq k (x.val F') hp;rw[cC h]
 | mkIface t x=>show some (AV.iface t (x.val F))=some (AV.iface t (x.val F'));rw[cC h]
 | mkFunc f a b=>show some (AV.fn f (dG a F) (dG b F))=some (AV.fn f (dG a F') (dG b F'));rw[mK h.left,mK h.right]
 | slc k x lo hi mx=>show aAx k (x.val F) lo hi mx F=aAx k (x.val F') lo hi mx F';rw[cC h.left,aJe k _ h.right.left h.right.right.left h.right.right.right]
 | cw off x=>show zR (x.val F) off=zR (x.val F') off;rw[cC h]
 | fld a off n x=>show aKQ (x.val F) a off n=aKQ (x.val F') a off n;rw[cC h]
 | cp k x ix=>show(bC (fP (ix.val F)) fun i=>dO k (x.val F) i)=bC (fP (ix.val F')) fun i=>dO k (x.val F') i;rw[cC h.left,cC h.right]
 | idxArr a n s x ix=>show(bC (fP (ix.val F)) fun i=>aFH (x.val F) a n s i)=bC (fP (ix.val F')) fun i=>aFH (x.val F') a n s i;rw[cC h.left,cC h.right]
 | idxStr x ix=>show(bC (fP (ix.val F)) fun i=>aFL (x.val F) i)=bC (fP (ix.val F')) fun i=>aFL (x.val F') i;rw[cC h.left,cC h.right]
 | lookup e z ok m k=>show(bC (uE hp (m.val F)) fun es=>bC (nK e (k.val F) es) fun r=>nM r z ok)=bC (uE hp (m.val F')) fun es=>bC (nK e (k.val F') es) fun r=>nM r z ok;rw[cC h.left,cC h.right]
 | tassert t z ok x=>show aDA (x.val F) t z ok=aDA (x.val F') t z ok;rw[cC h]
 | extract x i=>show kC (x.val F) i=kC (x.val F') i;rw[cC h]
 | lenArr n=>rfl
 | lenStr x=>show aGe (x.val F)=aGe (x.val F');rw[cC h]
 | ct x=>show jJ (x.val F)=jJ (x.val F');rw[cC h]
 | lenMap x=>show(bC (uE hp (x.val F)) fun es=>some (AV.int .i64 (.ofNat (mC es))))=bC (uE hp (x.val F')) fun es=>some (AV.int .i64 (.ofNat (mC es)));rw[cC h]
 | capSl x=>show aIl (x.val F)=aIl (x.val F');rw[cC h]
 | dg m xs=>show mH m (dG xs F)=mH m (dG xs F');rw[mK h]
 | mkMeth n tbl x=>show some (AV.mth n tbl (x.val F))=some (AV.mth n tbl (x.val F'));rw[cC h]
theorem aKv{q:QOp}(hq:dN q=false)(F:Fr)(h h':T AB):gM q F h=gM q F h':=by
 cases q with
 | ld a n x=>cases hq
 | lookup e z ok m k=>cases hq
 | lenMap x=>cases hq
 | conv k x=>
  show aDq k (x.val F) h=aDq k (x.val F) h';cases k with
  | bytesToStr=>cases hq
  | int k=>cases x.val F<;>rfl
  | same=>cases x.val F<;>rfl
  | intToStr=>
   cases x.val F with
   | int k n=>cases n<;>rfl
   | _=>rfl
 | _=>rfl
theorem aJ7{a:wN}{F F':Fr}(h:Agree a.rd F F')(id:Nat):uW a F id=uW a F' id:=by
 cases a with
 | alloc t cs=>rfl
 | box t x=>show(bC (x.val F).cells fun cs=>some (AV.ptr id 0,AB.cells cs false 0))=bC (x.val F').cells fun cs=>some (AV.ptr id 0,AB.cells cs false 0);rw[cC h]
 | cj t s len z ps=>show(bC (eQ (repeatL z len) (kK s F ps)) fun cs=>some (AV.sl id 0 len len false,AB.cells cs false 0))=bC (eQ (repeatL z len) (kK s F' ps)) fun cs=>some (AV.sl id 0 len len false,AB.cells cs false 0);rw[zF s h]
 | dd t s by_ z l c=>
  show xW t s by_ z l c F id=xW t s by_ z l c F' id;unfold xW;rw[cC h.left,cC h.right]
 | mkMap=>rfl
 | strBytes t x=>show aB5 (x.val F) id=aB5 (x.val F') id;rw[cC h]
theorem aK6{x:XOp}{F F':Fr}(h:Agree x.rd F F')(call:fA)(S:St):evX x call F S=evX x call F' S:=by
 cases x with
 | st n x v=>show(bC (v.val F).cells fun cs=>sO (x.val F) n cs S)=bC (v.val F').cells fun cs=>sO (x.val F') n cs S;rw[cC h.left,cC h.right]
 | call f args=>show call (f.val F) (dG args F) S=call (f.val F') (dG args F') S;rw[cC h.left,mK h.right]
 | inv tbl f args=>show aI9 (f.val F) tbl (dG args F) call S=aI9 (f.val F') tbl (dG args F') call S;rw[cC h.left,mK h.right]
 | app t s b x y=>show gP b s (x.val F) (y.val F) S=gP b s (x.val F') (y.val F') S;rw[cC h.left,cC h.right]
 | copy s d x=>show(bC (mL (x.val F)) fun m=>copyV (d.val F) s m (x.val F) S)=bC (mL (x.val F')) fun m=>copyV (d.val F') s m (x.val F') S;rw[cC h.left,cC h.right]
 | mapUpd e m k v=>show qK (m.val F) e (k.val F) (v.val F) S=qK (m.val F') e (k.val F') (v.val F') S;rw[cC h.left,cC h.right.left,cC h.right.right]
 | mapDel e m k=>show aGx (m.val F) e (k.val F) S=aGx (m.val F') e (k.val F') S;rw[cC h.left,cC h.right]
 | clr z x=>show aPJ (x.val F) z S=aPJ (x.val F') z S;rw[cC h]
 | ext k args=>show(bC (aPm k (dG args F)) fun v=>some (v,S))=bC (aPm k (dG args F')) fun v=>some (v,S);rw[mK h]
 | bad=>rfl
theorem aGX{g:Option (Nat×Bool)}{F F':Fr}(h:Agree (g.map (·.1)).toList F F'):eS g F=eS g F':=by
 cases g with
 | none=>rfl
 | some p=>show isB (aD p.1 F) p.2=isB (aD p.1 F') p.2;rw[h p.1 (by simp)]
theorem aJB{t:Nat}:∀ {l:bg},inL t l=true↔t∈l
 | []=>by simp [inL]
 | u::l=>by
  simp only[inL,Bi,Bs];split
  ·rename_i h;rw[Bj] at h;simp [h]
  ·rename_i h;rw[Bj] at h;simp [h,aJB]
theorem aHz{d:Option Nat}{t:Nat}{l:bg}(h:d=some t)(ht:t∈l):meets d l=true:=by subst h;exact aJB.2 ht
theorem aEt{i:Nat}{d:Option Nat}{tch:bg}:∀ {l:List AO},aGm i d tch l=true->∀ {j:Nat} {b:AO},l[j]? =some b->(meets d b.touch || meets b.dst tch)=true->Nat.testBit b.mask i=true
 | [],_,j,b,hb=>by simp at hb
 | a::l,h,j,b,hb=>by
  intro hm;simp only[aGm,Co] at h;cases j with
  | zero=>
   simp at hb;subst hb;have h1:=h.1;rw[hm] at h1;exact h1
  | succ j=>exact aEt h.2 (by simpa using hb) hm
theorem aFg:∀ {l:List AO} {k:Nat},aJx k l=true->∀ {i j:Nat} {a b:AO},i<j->l[i]? =some a->l[j]? =some b->(meets a.dst b.touch || meets b.dst a.touch)=true->Nat.testBit b.mask (k+i)=true
 | [],k,_,i,j,a,b,_,ha=>by simp at ha
 | c::l,k,h,i,j,a,b,hij,ha=>by
  intro hb hm;simp only[aJx,Co] at h;cases j with
  | zero=>omega
  | succ j=>
   cases i with
   | zero=>
    simp at ha;subst ha;exact aEt h.1 (by simpa using hb) hm
   | succ i=>
    have:=aFg h.2 (i:=i) (j:=j) ar (by simpa using ha) (by simpa using hb) hm
    rwa [show k+1+i=k+(i+1) by omega] at this
theorem aCD:∀ {l:List Oper} {k:Nat},aCO k l=true->∀ {i:Nat} {o:Oper},l[i]? =some o->∀e∈o.after,Region.binds .any e=true->e.on<k+i
 | [],k,_,i,o,ho=>by simp at ho
 | c::l,k,h,i,o,ho=>by
  intro e he hb;simp only[aCO,Co] at h;cases i with
  | zero=>
   simp at ho;subst ho;have h1:=Array.all_eq_true'.1 h.1 e he;simp only[hb,Cc,Bool.false_or] at h1;exact Bd h1
  | succ i=>
   have:=aCD h.2 (by simpa using ho) e he hb;omega
end Go.Ev
namespace Go.Ev
structure Tr(aos:List AO)(base:Nat)(call:fA)(Ds:Nat->DS):Prop where
 step:∀i o,aos[i]? =some o->tW o i base call (Ds i)=some (Ds (i+1))
theorem aDF{base:Nat}{call:fA}:∀ {l:List AO} {k:Nat} {D D':DS},wL l k base call D=some D'->
  ∃Ds:Nat->DS,Ds k=D/\(∀i o,l[i]? =some o->tW o (k+i) base call (Ds (k+i))=some (Ds (k+i+1)))/\Ds (k+l.length)=D'
 | [],k,D,D',h=>by
  simp only[wL,Ap] at h;exact⟨fun _=>D,rfl,fun i o ho=>by simp at ho,h⟩
 | o::l,k,D,D',h=>by
  simp only[wL] at h;have⟨D1,h1,h2⟩:=aO h;have⟨Ds,e1,e2,e3⟩:=aDF h2;refine⟨fun i=>if i=k then D else Ds i,by simp,?_,?_⟩
  ·intro i o' ho;cases i with
   | zero=>
    simp at ho;subst ho;simp only[Br,Eo];rw[if_neg ar,e1];exact h1
   | succ i=>
    have:=e2 i o' (by simpa using ho);rw[show k+(i+1)=k+1+i by omega];simp only[];rw[if_neg ar,if_neg ar];exact this
  ·simp only[Ax];rw[if_neg ar,show k+(l.length+1)=k+1+l.length by omega];exact e3
section
variable {aos:List AO}{base:Nat}{call:fA}{Ds:Nat->DS}
inductive Kind(base:Nat)(call:fA)(D D':DS)(i:Nat)(o:AO):Prop where
 | no (hw:eS o.grd D.F=false) (e:D'=⟨cM o.dst D.F .undef,D.S,D.ps,D.hs,D.ls⟩)
 | q (q:QOp) (v:AV) (hw:eS o.grd D.F=true) (ho:o.op= .q q) (hv:gM q D.F D.S.h=some v)
   (e:D'=⟨cM o.dst D.F v,D.S,D.ps,D.hs,bQ (dN q) (⟨q,D.F,v,i,o.mask⟩::D.ls) D.ls⟩)
 | a (a:wN) (v:AV) (b:AB) (hw:eS o.grd D.F=true) (ho:o.op= .a a) (hv:uW a D.F (base+i)=some (v,b))
   (e:D'=⟨cM o.dst D.F v,D.S,⟨i,base+i,b⟩::D.ps,D.hs,D.ls⟩)
 | x (x:XOp) (v:AV) (S:St) (hw:eS o.grd D.F=true) (ho:o.op= .x x) (hl:jU D.hs o.mask=true)
   (hv:evX x call D.F ⟨(cJ o.mask D.ps D.S.h).2,D.S.nx⟩=some (v,S))
   (e:D'=⟨cM o.dst D.F v,S,(cJ o.mask D.ps D.S.h).1,(i,o.mask,S.h)::D.hs,D.ls⟩)
theorem Tr.kind(h:Tr aos base call Ds){i:Nat}{o:AO}(ho:aos[i]? =some o):Kind base call (Ds i) (Ds (i+1)) i o:=by
 have h1:=h.step i o ho;unfold tW at h1;rw[cN] at h1;split at h1
 ·rename_i hw;cases hop:o.op with
  | q q=>
   rw[hop] at h1;have⟨v,h2,h3⟩:=aO (show(bC (gM q (Ds i).F (Ds i).S.h) fun v=>some (⟨cM o.dst (Ds i).F v,(Ds i).S,(Ds i).ps,(Ds i).hs,bQ (dN q) (⟨q,(Ds i).F,v,i,o.mask⟩::(Ds i).ls) (Ds i).ls⟩:DS))=some (Ds (i+1)) from h1);exact .q q v hw hop h2 (Bp h3).symm
  | a a=>
   rw[hop] at h1;have⟨⟨v,b⟩,h2,h3⟩:=aO (show(bC (uW a (Ds i).F (base+i)) fun r=>some (⟨cM o.dst (Ds i).F r.1,(Ds i).S,⟨i,base+i,r.2⟩::(Ds i).ps,(Ds i).hs,(Ds i).ls⟩:DS))=some (Ds (i+1)) from h1);exact .a a v b hw hop h2 (Bp h3).symm
  | x x=>
   rw[hop] at h1;have⟨h4,h1⟩:=cH (show bQ (jU (Ds i).hs o.mask) (bC (evX x call (Ds i).F ⟨(cJ o.mask (Ds i).ps (Ds i).S.h).2,(Ds i).S.nx⟩) fun r=>
    some (⟨cM o.dst (Ds i).F r.1,r.2,(cJ o.mask (Ds i).ps (Ds i).S.h).1,(i,o.mask,r.2.h)::(Ds i).hs,(Ds i).ls⟩:DS)) none=some (Ds (i+1)) from h1)
   have⟨⟨v,S⟩,h2,h3⟩:=aO h1;exact .x x v S hw hop h4 h2 (Bp h3).symm
 ·rename_i hw;exact .no (by simpa using hw) (Bp h1).symm
def jL(aos:List AO)(Ds:Nat->DS)(c:Nat):Prop:=∃o x,aos[c]? =some o/\o.op= .x x/\eS o.grd (Ds c).F=true
theorem sE{d:Option Nat}{F:Fr}{v:AV}{t:Nat}(h:d≠some t):aD t (cM d F v)=aD t F:=by
 cases d with
 | none=>rfl
 | some d=>show aD t (F.set d (some v))=_;rw[wP,if_neg (fun e=>h (by rw[e]))]
theorem uT{d:Nat}{F:Fr}{v:AV}:aD d (cM (some d) F v)=v:=by
 show aD d (F.set d (some v))=_;rw[wP,if_pos rfl]
theorem Tr.slot_step(h:Tr aos base call Ds){i t:Nat}{o:AO}(ho:aos[i]? =some o)(hd:o.dst≠some t):aD t (Ds (i+1)).F=aD t (Ds i).F:=by
 cases h.kind ho with
 | no hw e=>rw[e];exact sE hd
 | q q v hw ho' hv e=>rw[e];exact sE hd
 | a a v b hw ho' hv e=>rw[e];exact sE hd
 | x x v S hw ho' hl hv e=>rw[e];exact sE hd
theorem Tr.slot_keep(h:Tr aos base call Ds){t i:Nat}:∀ {k:Nat},i<=k->k<=aos.length->(∀j o,i<=j->j<k->aos[j]? =some o->o.dst≠some t)->aD t (Ds k).F=aD t (Ds i).F:=by
 intro k
 induction k with
 | zero=>intro h1 _ _;rw[Nat.le_zero.1 h1]
 | succ k ih=>
  intro h1 h2 h3;rcases Cx k i with h4 | h4
  ·rw[show i=k+1 by omega]
  ·rw[<-ih h4 ar (fun j o a b c=>h3 j o a ar c)];have ho:aos[k]? =some aos[k]:=Ab ar;exact h.slot_step ho (h3 k _ h4 ar ho)
theorem Tr.heap_step(h:Tr aos base call Ds){i:Nat}(hi:i<aos.length)(hc:¬jL aos Ds i):(Ds (i+1)).S=(Ds i).S/\(Ds (i+1)).hs=(Ds i).hs:=by
 have ho:aos[i]? =some aos[i]:=Ab hi;cases h.kind ho with
 | no hw e=>rw[e];exact⟨rfl,rfl⟩
 | q q v hw ho' hv e=>rw[e];exact⟨rfl,rfl⟩
 | a a v b hw ho' hv e=>rw[e];exact⟨rfl,rfl⟩
 | x x v S hw ho' hl hv e=>exact absurd ⟨_,x,ho,ho',hw⟩ hc
theorem Tr.heap_keep(h:Tr aos base call Ds){i:Nat}:∀ {k:Nat},i<=k->k<=aos.length->(∀j,i<=j->j<k->¬jL aos Ds j)->(Ds k).S=(Ds i).S/\(Ds k).hs=(Ds i).hs:=by
 intro k
 induction k with
 | zero=>intro h1 _ _;rw[Nat.le_zero.1 h1];exact⟨rfl,rfl⟩
 | succ k ih=>
  intro h1 h2 h3;rcases Cx k i with h4 | h4
  ·rw[show i=k+1 by omega];exact⟨rfl,rfl⟩
  ·have⟨a1,a2⟩:=ih h4 ar (fun j a b=>h3 j a ar);have⟨b1,b2⟩:=h.heap_step (show k<aos.length by omega) (h3 k h4 ar);exact⟨b1.trans a1,b2.trans a2⟩
theorem Tr.chain_hs(h:Tr aos base call Ds){c:Nat}{o:AO}(ho:aos[c]? =some o)(hc:jL aos Ds c):(Ds (c+1)).hs=(c,o.mask,(Ds (c+1)).S.h)::(Ds c).hs/\jU (Ds c).hs o.mask=true:=by
 have⟨o',x,h1,h2,h3⟩:=hc;rw[ho] at h1;cases h1;cases h.kind ho with
 | no hw e=>rw[h3] at hw;cases hw
 | q q v hw ho' hv e=>rw[h2] at ho';cases ho'
 | a a v b hw ho' hv e=>rw[h2] at ho';cases ho'
 | x x v S hw ho' hl hv e=>rw[e];exact⟨rfl,hl⟩
theorem Tr.head(h:Tr aos base call Ds)(h0:(Ds 0).hs= []):∀k,k<=aos.length->(∀c,c<k->¬jL aos Ds c)\/∃p m hp r,p<k/\jL aos Ds p/\(Ds k).hs=(p,m,hp)::r/\∀c,p<c->c<k->¬jL aos Ds c:=by
 intro k
 induction k with
 | zero=>intro _;exact .inl (fun c hc=>ar)
 | succ k ih=>
  intro hk;by_cases hc:jL aos Ds k
  ·have ho:aos[k]? =some aos[k]:=Ab ar;exact .inr ⟨k,_,_,_,Dj k,hc,(h.chain_hs ho hc).1,fun c h1 h2=>ar⟩
  ·have⟨_,e2⟩:=h.heap_step (show k<aos.length by omega) hc;rcases ih ar with h1 | ⟨p,m,hp,r,h1,h2,h3,h4⟩
   ·refine .inl (fun c hlt=>?_);rcases Cx c k with h5 | h5
    ·exact h1 c h5
    ·rw[show c=k by omega];exact hc
   ·refine .inr ⟨p,m,hp,r,ar,h2,e2.trans h3,fun c h5 h6=>?_⟩;rcases Cx c k with h7 | h7
    ·exact h4 c h5 h7
    ·rw[show c=k by omega];exact hc
theorem Tr.before(h:Tr aos base call Ds)(h0:(Ds 0).hs= []){D:Nat->Prop}(hD:∀j o,D j->aos[j]? =some o->∀i,Nat.testBit o.mask i=true->D i):
  ∀k,k<aos.length->∀o,aos[k]? =some o->jL aos Ds k->(∀i,Nat.testBit o.mask i=true->D i)->∀c,c<k->jL aos Ds c->D c:=by
 intro k
 induction k using Nat.strongRecOn with
 | _ k ih=>
  intro hk o ho hc hm c hlt hcc;have⟨_,hl⟩:=h.chain_hs ho hc;rcases h.head h0 k ar with h1 | ⟨p,m,hp,r,h1,h2,h3,h4⟩
  ·exact absurd hcc (h1 c hlt)
  ·rw[h3] at hl;have hp':D p:=hm p hl;rcases Dl c p with h5 | h5 | h5
   ·have hop:aos[p]? =some aos[p]:=Ab ar;exact ih p h1 ar _ hop h2 (hD p _ hp' hop) c h5 hcc
   ·rw[h5];exact hp'
   ·exact absurd hcc (h4 c h5 hlt)
theorem Tr.loads_mono(h:Tr aos base call Ds){i:Nat}:∀ {k:Nat},i<=k->k<=aos.length->∀l∈(Ds i).ls,l∈(Ds k).ls:=by
 intro k
 induction k with
 | zero=>intro h1 _ l hl;rw[Nat.le_zero.1 h1] at hl;exact hl
 | succ k ih=>
  intro h1 h2 l hl;rcases Cx k i with h4 | h4
  ·rw[show k+1=i by omega];exact hl
  ·have:=ih h4 ar l hl;have ho:aos[k]? =some aos[k]:=Ab ar;cases h.kind ho with
   | no hw e=>rw[e];exact this
   | q q v hw ho' hv e=>rw[e,cN];simp only;split<;>simp [this]
   | a a v b hw ho' hv e=>rw[e];exact this
   | x x v S hw ho' hl hv e=>rw[e];exact this
theorem aCy{h0:T AB}{hs:List (Nat×Nat×T AB)}:∀ {ls:List mR},fV h0 hs ls=true->∀l∈ls,eI l hs h0=true
 | [],_,l,hl=>by simp at hl
 | m::ls,h,l,hl=>by
  simp only[fV,cN] at h;split at h
  ·rename_i h1;rcases Bs.1 hl with rfl | h2
   ·exact h1
   ·exact aCy h l h2
  ·cases h
theorem Tr.hs_split(h:Tr aos base call Ds):∀d k,k+d=aos.length->∃r,(Ds aos.length).hs.reverse=(Ds k).hs.reverse++r/\∀e∈r,k<=e.1/\jL aos Ds e.1:=by
 intro d
 induction d with
 | zero=>intro k hk;exact⟨[],by rw[show aos.length=k by omega];simp,by simp⟩
 | succ d ih=>
  intro k hk;have⟨r,h1,h2⟩:=ih (k+1) ar;by_cases hc:jL aos Ds k
  ·have ho:aos[k]? =some aos[k]:=Ab ar;refine⟨(k,aos[k].mask,(Ds (k+1)).S.h)::r,?_,?_⟩
   ·rw[h1,(h.chain_hs ho hc).1];simp
   ·intro e he;rcases Bs.1 he with rfl | he
    ·exact⟨Ag _,hc⟩
    ·exact⟨by have:=(h2 e he).1;omega,(h2 e he).2⟩
  ·refine⟨r,by rw[h1,(h.heap_step ar hc).2],fun e he=>⟨by have:=(h2 e he).1;omega,(h2 e he).2⟩⟩
theorem Tr.load(h:Tr aos base call Ds)(h0:(Ds 0).hs= [])(hok:fV (Ds 0).S.h (Ds aos.length).hs.reverse (Ds aos.length).ls=true){l:mR}(hl:l∈(Ds aos.length).ls){D:Nat->Prop}
  (hD:∀j o,D j->aos[j]? =some o->∀i,Nat.testBit o.mask i=true->D i) (hm:∀i,Nat.testBit l.mask i=true->D i) (hi:¬D l.i) {s:Nat} (hs:s<=aos.length) (hc:∀c,jL aos Ds c->(D c↔c<s)):
  qI l.v (gM l.q l.F (Ds s).S.h)=true:=by
 have hgo:=aCy hok l hl;have key:∀k,k<=s->∀r,(Ds aos.length).hs.reverse=(Ds k).hs.reverse++r->eI l r (Ds k).S.h=true:=by
  intro k
  induction k with
  | zero=>
   intro _ r hr;rw[h0] at hr;simp at hr;rw[<-hr];exact hgo
  | succ k ih=>
   intro hk r hr;by_cases hck:jL aos Ds k
   ·have ho:aos[k]? =some aos[k]:=Ab ar;have h1:=(h.chain_hs ho hck).1;have h2:=ih ar ((k,aos[k].mask,(Ds (k+1)).S.h)::r) (by rw[hr,h1];simp);have hDk:D k:=(hc k hck).2 ar;have hbit:Nat.testBit aos[k].mask l.i=false:=by
     cases hb:Nat.testBit aos[k].mask l.i with
     | false=>rfl
     | true=>exact absurd (hD k _ hDk ho _ hb) hi
    simp only[eI,cN,hbit] at h2;split at h2
    ·exact h2
    ·split at h2
     ·simpa using h2
     ·cases h2
   ·have⟨e1,e2⟩:=h.heap_step (show k<aos.length by omega) hck;rw[e1];exact ih ar r (by rw[hr,e2])
 have⟨r,h1,h2⟩:=h.hs_split (aos.length - s) s ar;have h3:=key s (Ag _) r h1;cases r with
 | nil=>exact h3
 | cons e r=>
  have⟨c,m,hp⟩:=e;have⟨h4,h5⟩:=h2 (c,m,hp) (by simp);have hbit:Nat.testBit l.mask c=false:=by
   cases hb:Nat.testBit l.mask c with
   | false=>rfl
   | true=>have:=(hc c h5).1 (hm c hb);simp only at h4;omega
  simp only[eI,cN,hbit] at h3;by_cases h6:qI l.v (gM l.q l.F (Ds s).S.h)=true
  ·exact h6
  ·rw[if_neg (by simp),if_neg h6] at h3;cases h3
end
theorem aHw:∀ {a b:bg},oG a b=true->a=b
 | [],[],_=>rfl
 | [],_::_,h=>by simp [oG] at h
 | _::_,[],h=>by simp [oG] at h
 | a::x,b::y,h=>by
  simp only[oG,cN] at h;split at h
  ·rename_i h1;rw[Cp h1,aHw h]
  ·cases h
mutual
theorem aDx:∀ (a b:AV),cE a b=true->a=b
 | .bool a,v,h=>by cases v<;>simp only[cE,vC,Bc] at h;rw[eq_of_beq h]
 | .int k a,v,h=>by
  cases v<;>simp only[cE,cN,Bc] at h;split at h
  ·rename_i h1;rw[aAt h1];rw[jP] at h;rw[eq_of_beq h]
  ·cases h
 | .str a,v,h=>by cases v<;>simp only[cE,Bc] at h;rw[aHw h]
 | .ptr a b,v,h=>by
  cases v<;>simp only[cE,cN,Bc] at h;split at h
  ·rename_i h1;rw[Cp h1,Cp h]
  ·cases h
 | .nilp,v,h=>by cases v<;>first | rfl | simp only[cE,Bc] at h
 | .sl a b c d e,v,h=>by
  cases v<;>simp only[cE,Bc,Co,vC] at h;have⟨⟨⟨⟨h1,h2⟩,h3⟩,h4⟩,h5⟩:=h;rw[Cp h1,Cp h2,Cp h3,Cp h4,eq_of_beq h5]
 | .bw,v,h=>by cases v<;>first | rfl | simp only[cE,Bc] at h
 | .emp,v,h=>by cases v<;>first | rfl | simp only[cE,Bc] at h
 | .map a,v,h=>by cases v<;>simp only[cE,Bc] at h;rw[Cp h]
 | .nilmap,v,h=>by cases v<;>first | rfl | simp only[cE,Bc] at h
 | .fn f a b,v,h=>by
  cases v<;>simp only[cE,Bc,Co] at h;have⟨⟨h1,h2⟩,h3⟩:=h;rw[Cp h1,uN _ _ h2,uN _ _ h3]
 | .nilfn,v,h=>by cases v<;>first | rfl | simp only[cE,Bc] at h
 | .yld a,v,h=>by cases v<;>simp only[cE,Bc] at h;rw[Cp h]
 | .iface t w,v,h=>by
  cases v<;>simp only[cE,Bc,Co] at h;rw[Cp h.1,aDx _ _ h.2]
 | .niliface,v,h=>by cases v<;>first | rfl | simp only[cE,Bc] at h
 | .mth n t w,v,h=>by cases v<;>simp only[cE,Bc] at h
 | .agg a,v,h=>by cases v<;>simp only[cE,Bc] at h;rw[uN _ _ h]
 | .tup a,v,h=>by cases v<;>simp only[cE,Bc] at h;rw[uN _ _ h]
theorem uN:∀ (a b:bf),jR a b=true->a=b
 | [],[],_=>rfl
 | [],_::_,h=>by simp [jR] at h
 | _::_,[],h=>by simp [jR] at h
 | a::x,b::y,h=>by
  simp only[jR,cN] at h;split at h
  ·rename_i h1;rw[aDx _ _ h1,uN _ _ h]
  ·cases h
end
theorem aLh{v:AV}{r:Option AV}(h:qI v r=true):r=some v:=by
 cases r with
 | none=>cases h
 | some w=>rw[aDx _ _ h]
end Go.Ev
namespace Go.Ev
section
variable {D:Nat->Prop}
theorem aLn{look:Nat->Nat}{o:Oper}(h:∀e∈o.after,Region.binds .any e=true->D e.on/\∀b,Nat.testBit (look e.on) b=true->D b):∀b,Nat.testBit (CheckFast.one look o) b=true->D b:=by
 unfold CheckFast.one;rw[<-Array.foldl_toList];have key:∀ (l:List Edge) (s:Nat),(∀e∈l,Region.binds .any e=true->D e.on/\∀b,Nat.testBit (look e.on) b=true->D b)->(∀b,Nat.testBit s b=true->D b)->
   ∀b,Nat.testBit (l.foldl (fun s e=>if Region.binds .any e then s ||| 2 ^ e.on ||| look e.on else s) s) b=true->D b:=by
  intro l
  induction l with
  | nil=>intro s _ hs b hb;exact hs b hb
  | cons e l ih=>
   intro s hl hs b hb;rw[List.foldl_cons] at hb;refine ih _ (fun e' he'=>hl e' (Bk _ he')) ?_ b hb;intro c hc;split at hc
   ·rename_i hbi;have⟨h1,h2⟩:=hl e (by simp) hbi;rw[Nat.testBit_or,Nat.testBit_or,Eu,Eu] at hc;rcases hc with(hc | hc) | hc
    ·exact hs c hc
    ·rw[Nat.testBit_two_pow] at hc;have:e.on=c:=by simpa using hc
     rw[<-this];exact h1
    ·exact h2 c hc
   ·exact hs c hc
 exact key o.after.toList 0 (fun e he=>h e (by simpa using he)) (fun b hb=>by simp at hb)
theorem aBd:∀ (l:List Oper) (j:Nat) (acc:bg),acc.length=j->(∀i,i<j->D i->∀b,Nat.testBit (acc.getD (j - 1 - i) 0) b=true->D b)->
  (∀k o,l[k]? =some o->D (j+k)->∀e∈o.after,Region.binds .any e=true->D e.on)->
  (∀i,i<j->(CheckFast.beforeL l j acc).getD i 0=acc.getD (j - 1 - i) 0)/\
  ∀k o,l[k]? =some o->(∀e∈o.after,Region.binds .any e=true->D e.on)->∀b,Nat.testBit ((CheckFast.beforeL l j acc).getD (j+k) 0) b=true->D b
 | [],j,acc,hl,_,_=>by
  refine⟨fun i hi=>?_,fun k o ho=>by simp at ho⟩;simp only[CheckFast.beforeL];rw[Ad,Ad,List.getElem?_reverse ar,hl]
 | o::l,j,acc,hl,hacc,hcl=>by
  simp only[CheckFast.beforeL,CheckFast.force_eq];have hv:(∀e∈o.after,Region.binds .any e=true->D e.on)->∀b,Nat.testBit (CheckFast.one (fun i=>if i<j then acc.getD (j - 1 - i) 0 else 0) o) b=true->D b:=by
   intro hp;refine aLn fun e he hb=>⟨hp e he hb,fun b hbit=>?_⟩;split at hbit
   ·exact hacc _ ‹_› (hp e he hb) b hbit
   ·simp at hbit
  have:=aBd l (j+1) (CheckFast.one (fun i=>if i<j then acc.getD (j - 1 - i) 0 else 0) o::acc) (by simp [hl]) ?_ ?_
  ·have⟨h1,h2⟩:=this;refine⟨fun i hi=>?_,fun k o' ho hp b hb=>?_⟩
   ·rw[h1 i ar,show j+1 - 1 - i=(j - 1 - i)+1 by omega];simp
   ·cases k with
    | zero=>
     simp at ho;subst ho;have h3:=h1 j ar;rw[show j+1 - 1 - j=0 by omega] at h3;refine hv hp b ?_;rw[show j+0=j from rfl,h3] at hb;exact hb
    | succ k=>
     refine h2 k o' (by simpa using ho) hp b ?_
     rwa [show j+1+k=j+(k+1) by omega]
  ·intro i hi hDi b hb;rcases Cx i j with h3 | h3
   ·rw[show j+1 - 1 - i=(j - 1 - i)+1 by omega] at hb;exact hacc i h3 hDi b (by simpa using hb)
   ·have:i=j:=by omega
    subst this;rw[show i+1 - 1 - i=0 by omega] at hb;exact hv (hcl 0 o (by simp) (by simpa using hDi)) b (by simpa using hb)
  ·intro k o' ho hDk;exact hcl (k+1) o' (by simpa using ho) (by rwa [show j+(k+1)=j+1+k by omega])
end
theorem aEy{P:Program}{nt:Nat}{ops:Array Oper}:∀ {l:List Oper} {ms:bg} {aos:List AO},wB P nt ops l ms=some aos->
  aos.length=l.length/\∀j o,l[j]? =some o->∃ao,aos[j]? =some ao/\aJN P nt ops o (ms.getD j 0)=some ao
 | [],ms,aos,h=>by
  simp only[wB,Ap] at h;subst h;exact⟨rfl,fun j o ho=>by simp at ho⟩
 | o::l,ms,aos,h=>by
  simp only[wB] at h;split at h
  ·rename_i a as ha has;cases h;have⟨h1,h2⟩:=aEy has;refine⟨by simp [h1],fun j o' ho=>?_⟩;cases j with
   | zero=>
    simp at ho;subst ho;refine⟨a,by simp,?_⟩;cases ms<;>simpa using ha
   | succ j=>
    have⟨ao,h3,h4⟩:=h2 j o' (by simpa using ho);refine⟨ao,by simpa using h3,?_⟩;cases ms<;>simpa using h4
  ·cases h
theorem lG{m:Nat}:∀ {ps:List iQ} {h:T AB} {b:Nat} {bl:AB},(cJ m ps h).2.get b=some bl->(∃p∈ps,Nat.testBit m p.i=true/\p.id=b/\p.b=bl)\/h.get b=some bl
 | [],h,b,bl,e=>.inr e
 | p::ps,h,b,bl,e=>by
  simp only[cJ,cN] at e;split at e
  ·rename_i hb;rcases lG e with⟨q,h1,h2⟩ | h1
   ·exact .inl ⟨q,by simp [h1],h2⟩
   ·rw[di] at h1;split at h1
    ·rename_i e';cases h1;exact .inl ⟨p,by simp,hb,e'.symm,rfl⟩
    ·exact .inr h1
  ·rcases lG e with⟨q,h1,h2⟩ | h1
   ·exact .inl ⟨q,by simp [h1],h2⟩
   ·exact .inr h1
theorem aBA{m:Nat}:∀ {ps:List iQ} {h:T AB} {p:iQ},p∈(cJ m ps h).1->p∈ps/\Nat.testBit m p.i=false
 | [],h,p,e=>by simp [cJ] at e
 | q::ps,h,p,e=>by
  simp only[cJ,cN] at e;split at e
  ·have⟨h1,h2⟩:=aBA e;exact⟨by simp [h1],h2⟩
  ·rename_i hb;rcases Bs.1 e with rfl | e
   ·exact⟨by simp,by simpa using hb⟩
   ·have⟨h1,h2⟩:=aBA e;exact⟨by simp [h1],h2⟩
section
variable {aos:List AO}{base:Nat}{call:fA}{Ds:Nat->DS}
def Made(aos:List AO)(base:Nat)(Ds:Nat->DS)(i:Nat)(b:AB):Prop:=∃o a v,aos[i]? =some o/\o.op= .a a/\eS o.grd (Ds i).F=true/\uW a (Ds i).F (base+i)=some (v,b)
def Laid(aos:List AO)(Ds:Nat->DS)(i s:Nat):Prop:=∃c o,c<s/\jL aos Ds c/\aos[c]? =some o/\Nat.testBit o.mask i=true
theorem Tr.pend(h:Tr aos base call Ds)(h0:(Ds 0).ps= [])(hb:∀k o i,aos[k]? =some o->Nat.testBit o.mask i=true->i<k):∀k,k<=aos.length->∀p∈(Ds k).ps,p.i<k/\p.id=base+p.i/\Made aos base Ds p.i p.b/\¬Laid aos Ds p.i k:=by
 intro k
 induction k with
 | zero=>intro _ p hp;rw[h0] at hp;cases hp
 | succ k ih=>
  intro hk p hp;have ho:aos[k]? =some aos[k]:=Ab ar;have old:¬jL aos Ds k->p∈(Ds k).ps->p.i<k+1/\p.id=base+p.i/\Made aos base Ds p.i p.b/\¬Laid aos Ds p.i (k+1):=by
   intro hc hp;have⟨a1,a2,a3,a4⟩:=ih ar p hp;refine⟨ar,a2,a3,?_⟩;rintro⟨c,o,h1,h2,h3⟩;rcases Cx c k with h4 | h4
   ·exact a4 ⟨c,o,h4,h2,h3⟩
   ·rw[show c=k by omega] at h2;exact hc h2
  cases h.kind ho with
  | no hw e=>rw[e] at hp;exact old (fun⟨o,x,h1,h2,h3⟩=>by rw[ho] at h1;cases h1;rw[hw] at h3;cases h3) hp
  | q q v hw ho' hv e=>rw[e] at hp;exact old (fun⟨o,x,h1,h2,h3⟩=>by rw[ho] at h1;cases h1;rw[ho'] at h2;cases h2) hp
  | a a v b hw ho' hv e=>
   have hnc:¬jL aos Ds k:=fun⟨o,x,h1,h2,h3⟩=>by rw[ho] at h1;cases h1;rw[ho'] at h2;cases h2
   rw[e] at hp;rcases Bs.1 hp with rfl | hp
   ·refine⟨Dj _,rfl,⟨_,a,v,ho,ho',hw,hv⟩,?_⟩;rintro⟨c,o,h1,h2,h3,h4⟩;have:=hb c o _ h3 h4;simp only at this;omega
   ·exact old hnc hp
  | x x v S hw ho' hl hv e=>
   rw[e] at hp;have⟨h1,h2⟩:=aBA hp;have⟨a1,a2,a3,a4⟩:=ih ar p h1;refine⟨ar,a2,a3,?_⟩;rintro⟨c,o,h3,h4,h5,h6⟩;rcases Cx c k with h7 | h7
   ·exact a4 ⟨c,o,h7,h4,h5,h6⟩
   ·rw[show c=k by omega,ho] at h5;cases h5;rw[h2] at h6;cases h6
end
section
variable {P:Program}{σ σ' σ0:Env}{S S' S0:St}{w w' w0:World}
structure tT(P:Program)(n0:Nat)(σ:Env)(S:St)(w:World)(id:Nat)(b:AB)(L:Loc):Prop where
 at_:σ id=some L
 ge:n0<=L.r
 lt:L.r<w.heap.size
 rep:rY P σ w L b
 own:wE b
 sep:∀c bl M,S.h.get c=some bl->σ c=some M->M.r≠L.r
theorem iV.grow(h:iV P σ0 S0 w0 σ S w){ob:Obj}{id e:Nat}(hid:σ id=none)(hlo:S0.nx<=id)(hhi:id<S.nx)(hw:w'.heap=w.heap.push ob)(ho:w'.os=w.os)(ht:w'.tape=w.tape)(hu:w'.output=w.output):
  iV P σ0 S0 w0 (upd σ id ⟨w.heap.size,0,e⟩) S w':=by
 have hold:∀r,r<w.heap.size->w'.heap[r]? =w.heap[r]? :=fun r hr=>by rw[hw,Array.getElem?_push,if_neg ar]
 have hsz:w'.heap.size=w.heap.size+1:=by rw[hw];simp
 have hne:∀b bl,S.h.get b=some bl->b≠id:=fun b bl hb e=>by
  have⟨L,h1,_⟩:=h.rep.blk b bl hb;rw[e,hid] at h1;cases h1
 refine⟨⟨fun b bl hb=>?_,h.rep.lt,fun b hb=>?_,fun g hg=>fX hid _ _ (h.rep.glob g hg),?_⟩,fun b hb=>?_,h.nx,fun r hr hn=>?_,fun r hr=>?_,au h.size,ho.trans h.os,ht.trans h.tape,hu.trans h.output,h.ro⟩
 ·have⟨L,h1,h2,h3⟩:=h.rep.blk b bl hb;exact⟨L,fX hid _ _ h1,ar,h3.frame (fX hid) (hold _ h2)⟩
 ·rw[eG _ ar];exact h.rep.fresh b hb
 ·intro b b' bl bl' L L' h1 h2 h3 h4 h5 h6;rw[eG _ (hne _ _ h1)] at h5;rw[eG _ (hne _ _ h2)] at h6;exact h.rep.inj b b' bl bl' L L' h1 h2 h3 h4 h5 h6
 ·rw[eG _ ar];exact h.low b hb
 ·rw[hold r (Ae hr h.size)];exact h.keep r hr hn
 ·obtain⟨b,bl,L,h1,h2,h3,rfl⟩:=hr;rw[eG _ (hne _ _ h1)] at h3;exact h.own _ ⟨b,bl,L,h1,h2,h3,rfl⟩
theorem tT.grow{n0:Nat}{id:Nat}{b:AB}{L:Loc}(h:tT P n0 σ S w id b L)(hR:kT P σ S w){ob:Obj}{i e:Nat}(hi:σ i=none)(hw:w'.heap=w.heap.push ob):
  tT P n0 (upd σ i ⟨w.heap.size,0,e⟩) S w' id b L where
 at_:=fX hi _ _ h.at_
 ge:=h.ge
 lt:=by rw[hw];simp;have:=h.lt;omega
 rep:=h.rep.frame (fX hi) (by rw[hw,Array.getElem?_push,if_neg (au h.lt)])
 own:=h.own
 sep:=fun c bl M h1 h2=>by
  refine h.sep c bl M h1 ?_;rw[eG] at h2
  ·exact h2
  ·intro e;have⟨L',h3,_⟩:=hR.blk c bl h1;rw[e,hi] at h3;cases h3
theorem iV.lay(h:iV P σ0 S0 w0 σ S w){n0:Nat}(hn0:w0.heap.size<=n0){m:Nat}{ps:List iQ}(hst:∀p∈ps,Nat.testBit m p.i=true->p.id<S.nx/\∃L,tT P n0 σ S w p.id p.b L)
  (hd:∀p∈ps,∀q∈ps,Nat.testBit m p.i=true->Nat.testBit m q.i=true->p.id≠q.id->∀L L',σ p.id=some L->σ q.id=some L'->L.r≠L'.r):
  iV P σ0 S0 w0 σ ⟨(cJ m ps S.h).2,S.nx⟩ w:=by
 refine⟨⟨fun b bl hb=>?_,fun b bl hb=>?_,h.rep.fresh,h.rep.glob,?_⟩,h.low,h.nx,h.keep,fun r hr=>?_,h.size,h.os,h.tape,h.output,fun b cs hb=>?_⟩
 ·rcases lG hb with⟨p,h1,h2,rfl,rfl⟩ | h1
  ·have⟨_,L,h3⟩:=hst p h1 h2;exact⟨L,h3.at_,h3.lt,h3.rep⟩
  ·exact h.rep.blk b bl h1
 ·rcases lG hb with⟨p,h1,h2,rfl,rfl⟩ | h1
  ·exact(hst p h1 h2).1
  ·exact h.rep.lt b bl h1
 ·intro b b' bl bl' L L' hb hb' ho hne hL hL';rcases lG hb with⟨p,h1,h2,rfl,rfl⟩ | h1<;>rcases lG hb' with⟨q,h1',h2',rfl,rfl⟩ | h1'
  ·exact hd p h1 q h1' h2 h2' hne L L' hL hL'
  ·have⟨_,M,h3⟩:=hst p h1 h2;have:=h3.at_;rw[hL] at this;cases this;exact(h3.sep b' bl' L' h1' hL').symm
  ·have⟨_,M,h3⟩:=hst q h1' h2';have:=h3.at_;rw[hL'] at this;cases this;exact h3.sep b bl L h1 hL
  ·exact h.rep.inj b b' bl bl' L L' h1 h1' ho hne hL hL'
 ·obtain⟨b,bl,L,hb,ho,hL,rfl⟩:=hr;rcases lG hb with⟨p,h1,h2,rfl,rfl⟩ | h1
  ·have⟨_,M,h3⟩:=hst p h1 h2;have:=h3.at_;rw[hL] at this;cases this;exact .inr (Al hn0 h3.ge)
  ·exact h.own _ ⟨b,bl,L,h1,ho,hL,rfl⟩
 ·rcases lG hb with⟨p,h1,h2,rfl,h3⟩ | h1
  ·have⟨_,M,h4⟩:=hst p h1 h2;have:=h4.own;rw[h3] at this;exact this.elim
  ·exact h.ro b cs h1
theorem tT.act{n0:Nat}{id:Nat}{b:AB}{L:Loc}(h:tT P n0 σ S w id b L)(hR:kT P σ S w)(hE:iV P σ S w σ' S' w')(hid:id<S.nx):tT P n0 σ' S' w' id b L:=by
 have hno:¬Own σ S L.r:=fun⟨c,bl,M,h1,h2,h3,h4⟩=>h.sep c bl M h1 h3 h4;refine⟨by rw[hE.low id hid];exact h.at_,h.ge,Ae h.lt hE.size,h.rep.frame (hE.mono hR) (hE.keep _ h.lt hno),h.own,?_⟩;intro c bl M h1 h2;by_cases ho:wE bl
 ·rcases hE.own M.r ⟨c,bl,M,h1,ho,h2,rfl⟩ with⟨c',bl',M',a1,a2,a3,a4⟩ | h3
  ·rw[<-a4];exact h.sep c' bl' M' a1 a3
  ·have:=h.lt;omega
 ·cases bl with
  | ro cs=>
   have h3:=hE.ro c cs h1;rw[hE.low c (hR.lt c _ h3)] at h2;exact h.sep c _ M h3 h2
  | _=>exact absurd trivial ho
end
end Go.Ev
