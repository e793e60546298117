import Derived.Test.YtdkehphobhnjoaaEv5
import Derived.RangeFuncLeaves
import Derived.OrdersIn
namespace Go.Ev
variable {P:Program}
def aII:Out->Exit
 | .normal=>.normal
 | .exit id=>.exit id
 | .ret=>.ret
structure Mark(lo:Nat)(σ:Env)(S:St)(w:World)(r:Nat):Prop where
 low:lo<=r
 lt:r<w.heap.size
 cell:w.heap[r]? =some (.deferred (some []))
 off:∀b bl L,S.h.get b=some bl->σ b=some L->L.r≠r
def aNF(r:Nat):Deferred:={target:=.collected r,args:= #[]}
def Df(lo:Nat)(inr:Bool)(σ:Env)(S:St)(w:World)(ds:List Deferred):Prop:=
 (inr=true->ds= [])/\∃rs:b9,ds=rs.map aNF/\rs.Nodup/\∀r∈rs,Mark lo σ S w r
theorem Mark.notOwn{lo r:Nat}{σ:Env}{S:St}{w:World}(h:Mark lo σ S w r):¬Own σ S r:=fun⟨b,bl,L,h1,_,h2,h3⟩=>h.off b bl L h1 h2 h3
theorem Mark.ext{lo r:Nat}{σ σ':Env}{S S':St}{w w':World}(h:Mark lo σ S w r)(hR:mF P σ S w)(e:kJ P σ S w σ' S' w'):Mark lo σ' S' w' r where
 low:=h.low
 lt:=Ae h.lt e.size
 cell:=by rw[e.keep r h.lt h.notOwn];exact h.cell
 off:=fun b bl L hb hL hr=>by
  have own:uV bl->False:=fun ho=>by
   rcases e.own r ⟨b,bl,L,hb,ho,hL,hr⟩ with h1 | h1
   ·exact h.notOwn h1
   ·exact absurd h.lt ay
  cases bl with
  | ro cs=>
   have h1:=e.ro b cs hb;exact h.off b _ L h1 (by rw[<-e.low b (hR.lt b _ h1)];exact hL) hr
  | _=>exact own trivial
theorem Df.ext{lo:Nat}{inr:Bool}{σ σ':Env}{S S':St}{w w':World}{ds:List Deferred}(h:Df lo inr σ S w ds)(hR:mF P σ S w)(e:kJ P σ S w σ' S' w'):Df lo inr σ' S' w' ds:=by
 have⟨h0,rs,h1,h2,h3⟩:=h;exact⟨h0,rs,h1,h2,fun r hr=>(h3 r hr).ext hR e⟩
theorem Df.nil{lo:Nat}{inr:Bool}{σ:Env}{S:St}{w:World}:Df lo inr σ S w []:=⟨fun _=>rfl,[],rfl,by simp,fun r hr=>by cases hr⟩
def aDA(P:Program)(code:AC->bS->St->Option (Out×bS×St)):Prop:=
 ∀ (ro:Option Nat) (n nt:Nat) (C:Code) (c:AC),oD P nt C=some c->∀ (A:bS) (S:St) (o:Out) (A':bS) (S':St),(A.inr=false->ro=none)->code c A S=some (o,A',S')->
  ∀ (lo:Nat) (σ:Env) (a:Act) (w:World) (Q:Exit->Act->World->Prop),a.tmps.size=nt->Df lo A.inr σ S w a.defers->lo<=w.heap.size->rV P σ A.F a.tmps->mF P σ S w->
   (∀σ' a' w',A'.inr=A.inr->a'.tmps.size=nt->Df lo A.inr σ' S' w' a'.defers->rV P σ' A'.F a'.tmps->kJ P σ S w σ' S' w'->Q (aII o) a' w')->C.wpIn (Fw ro) n P Q a w
def aE0(P:Program)(call:fK):Prop:=
 ∀ (ro:Option Nat) (n nt id:Nat) (ops:Array Oper) (aos:List AO),aFk P nt ops=some (.drw aos)->∀ (σ:Env) (F F':Fr) (S S':St) (a:Act) (w:World) (Q:Exit->Act->World->Prop),
  a.tmps.size=nt->rV P σ F a.tmps->mF P σ S w->xD aos call F S=some (F',S')->
  (∀σ' a' w',rV P σ' F' a'.tmps->a'.tmps.size=nt->a'.defers=a.defers->kJ P σ S w σ' S' w'->Q .normal a' w')->(Code.region id ops true).wpIn (Fw ro) n P Q a w
structure aJD(P:Program)(fns:T dU)(id:Nat)(fn:dU):Prop where
 none:fn.ntmps=0
 has:∃Fn C,P.funcs[id]? =some Fn/\Fn.body=some C/\¬ (Fn.name== "runtime.NumGoroutine")=true
 ok:∀ (n:Nat) (S S':St) (v:AV),wM fn [] (ev fns n) S=some (v,S')->∀ (σ:Env) (w:World) (fv:Value),Rv P σ (.fn id [] []) fv->mF P σ S w->
  rU P (fun V w'=>∃σ',Rv P σ' v V/\kJ P σ S w σ' S' w') ((do let d <-Deferred.ofValue fv ⟨[]⟩;invoke d.target d.args:Sem Next).run P w)
structure vY(P:Program)(fns:T dU):Prop where
 asked:yL P
 bits:nG P
 fn:∀id fn,fns.get id=some fn->(∃Fn,P.funcs[id]? =some Fn/\cFn P Fn=some fn)\/aJD P fns id fn
 drawn:∀call,nL P call->aE0 P call
def aE1(tmps:Array Value)(r:ResultVar):Sem Value:=
 match r with
 | .tmp t=>pure (tmps.getD t undef)
 | .cell a t=>do loadVar t (<-asAddr (tmps.getD a undef))
theorem oR{σ:Env}{S:St}{w:World}(hR:mF P σ S w){F:Fr}{tmps:Array Value}(hF:rV P σ F tmps):∀ {rs:List ResultVar} {rvs:List RV} {vs:b6},aGU P rs=some rvs->results rvs F S.h=some vs->
  ∃Vs,(rs.mapM (aE1 tmps)).run P w= .ok Vs w/\iK P σ vs Vs
 | [],rvs,vs,hc,h=>by
  simp only[aGU,Ao] at hc;subst hc;simp only[results,Ao] at h;subst h;exact⟨[],rfl,dH.2 rfl⟩
 | .tmp t::rs,rvs,vs,hc,h=>by
  simp only[aGU,Az] at hc;obtain⟨rvs',hc,rfl⟩:=hc;simp only[results] at h;have⟨vs',h1,h2⟩:=aS h;cases h2;have⟨Vs,h3,h4⟩:=oR hR hF hc h1;refine⟨tmps.getD t undef::Vs,?_,dF.2 ⟨_,_,rfl,hF.get t,h4⟩⟩;have hst:(aE1 tmps (.tmp t)).run P w= .ok (tmps.getD t undef) w:=rfl;rw[List.mapM_cons];simp only[Sem.run_bind,hst,Sem.run_pure,Result.andThen_ok,h3]
 | .cell a t::rs,rvs,vs,hc,h=>by
  simp only[aGU] at hc;split at hc
  ·rename_i agg n rvs' hag hc';cases hc;simp only[results] at h;have⟨v,h0,h⟩:=aS h;have⟨vs',h1,h2⟩:=aS h;cases h2;have⟨Vs,h3,h4⟩:=oR hR hF hc' h1;have ha:=hF.get a;unfold aQ1 at h0;split at h0
   ·rename_i b off hb;rw[hb] at ha;simp only[Rv] at ha;have⟨L,hL,ha⟩:=ha;have⟨L',V,hL',h5,h6⟩:=aCj hag hR h0;rw[hL] at hL';cases hL';refine⟨V::Vs,?_,dF.2 ⟨_,_,rfl,h6,h4⟩⟩;have hst:(aE1 tmps (.cell a t)).run P w= .ok V w:=by simp [aE1,ha,asAddr,h5]
    rw[List.mapM_cons];simp only[Sem.run_bind,hst,Sem.run_pure,Result.andThen_ok,h3]
   ·cases h0
  ·cases hc
theorem aCd{σ:Env}{vs:b6}{Vs:List Value}(h:iK P σ vs Vs):Rv P σ (oneOf vs) (if h:Vs.toArray.size=1 then Vs.toArray[0] else .tuple Vs.toArray):=by
 cases vs with
 | nil=>
  rw[dH] at h;subst h;simp only[oneOf,Rv];exact⟨[],rfl,dH.2 rfl⟩
 | cons v vs=>
  cases vs with
  | nil=>
   rw[dF] at h;obtain⟨V,Ws,rfl,h1,h2⟩:=h;rw[dH] at h2;subst h2;simpa [oneOf] using h1
  | cons u us=>
   have hl:=h.length;rw[dif_neg (by simp;simp at hl;omega)];simp only[oneOf,Rv];exact⟨Vs,rfl,h⟩
theorem aD2:∀ (vs:b6) (i:Nat) (F:Fr) (t:Nat),aD t (sC vs i F)=if i<=t/\t<i+vs.length then(vs[t - i]?).getD .undef else aD t F
 | [],i,F,t=>by rw[if_neg (by simp)];rfl
 | v::vs,i,F,t=>by
  simp only[sC];rw[aD2 vs (i+1) _ t,aA1];by_cases h1:t=i
  ·subst h1;rw[if_neg ay,if_pos rfl,if_pos (by simp)];simp
  ·by_cases h2:i+1<=t/\t<i+1+vs.length
   ·rw[if_pos h2,if_pos (by simp;omega),show t - i=(t - (i+1))+1 by omega];simp
   ·rw[if_neg h2,if_neg h1,if_neg (by simp;omega)]
theorem aD6{σ:Env}{args:b6}{Args:List Value}(h:iK P σ args Args){nt:Nat}(hn:args.length<=nt):
  rV P σ (sC args 0 .e) ((⟨Args⟩:Array Value)++Array.replicate (nt - Args.length) undef)/\((⟨Args⟩:Array Value)++Array.replicate (nt - Args.length) undef).size=nt:=by
 have hl:=h.length;have hund:Rv P σ .undef undef:=by simp only[AV.undef,undef,Rv];exact⟨[],rfl,dH.2 rfl⟩
 refine⟨⟨fun t=>?_⟩,by simp;omega⟩;rw[aD2];by_cases ht:t<args.length
 ·rw[if_pos ⟨Da _,ay⟩,Eu,Ac ht];have⟨V,h1,h2⟩:=h.get (Ac ht);rw[Bs,Array.getElem?_append_left (by simp;omega)];simp only[List.getElem?_toArray,h1,Option.getD_some];exact h2
 ·rw[if_neg ay];have:((⟨Args⟩:Array Value)++Array.replicate (nt - Args.length) undef).getD t undef=undef:=by
   rw[Bs,Array.getElem?_append_right (by simp;omega)];simp only[Array.getElem?_replicate];split<;>rfl
  rw[this];exact hund
theorem aJM:Fw none=Fence.wide:=rfl
theorem vN{w:World}{r r':Nat}(o':Obj)(h:r'≠r):({w with heap:=w.heap.setIfInBounds r o'}:World).heap[r']? =w.heap[r']? :=by
 simp [Cx h]
theorem kJ.poke{σ0 σ:Env}{S0 S:St}{w0 w w':World}(h:kJ P σ0 S0 w0 σ S w){r:Nat}(hr:w0.heap.size<=r)(off:∀b bl L,S.h.get b=some bl->σ b=some L->L.r≠r)
  (hh:∀r',r'≠r->w'.heap[r']? =w.heap[r']?) (hsz:w'.heap.size=w.heap.size) (ho:w'.os=w.os) (ht:w'.tape=w.tape) (hu:w'.output=w.output):kJ P σ0 S0 w0 σ S w' where
 rep:=⟨fun b bl hb=>by
  have⟨L,h1,h2,h3⟩:=h.rep.blk b bl hb;exact⟨L,h1,ay,h3.frame (fun _ _ x=>x) (hh _ (off b bl L hb h1))⟩,h.rep.lt,h.rep.fresh,h.rep.glob,h.rep.inj⟩
 low:=h.low
 nx:=h.nx
 keep:=fun r' h1 h2=>by rw[hh r' ay];exact h.keep r' h1 h2
 own:=h.own
 size:=by rw[hsz];exact h.size
 os:=ho.trans h.os
 tape:=ht.trans h.tape
 output:=hu.trans h.output
 ro:=h.ro
theorem leaves{fn:Func}{n:Nat}{tmps:Array Value}{R:Ending->World->Prop}{σ0 σ:Env}{S0 S:St}{w0:World}:∀ (rs:b9) (w:World),rs.Nodup->(∀r∈rs,Mark w0.heap.size σ S w r)->kJ P σ0 S0 w0 σ S w->
  (∀w',kJ P σ0 S0 w0 σ S w'->∃v,(Go.results fn tmps).run P w'= .ok v w'/\R (.returned v) w')->LeavesInM Fence.wide n P fn tmps R (rs.map aNF) .returning w
 | [],w,_,_,he,hQ=>hQ w he
 | r::rs,w,hn,hm,he,hQ=>by
  have hr:=hm r (by simp);rw[List.nodup_cons] at hn;refine⟨by simp,.inl ⟨r,{w with heap:=w.heap.setIfInBounds r (.deferred none)},rfl,?_,?_⟩⟩
  ·simp only[Instr.takeDeferred,Sem.run_bind,aDo hr.cell (fun _ _ _ e=>by cases e),Result.andThen_ok,zF hr.cell (fun _ _ _ e=>by cases e),Sem.run_pure]
  ·refine leaves rs _ hn.2 (fun r' hr'=>?_) (he.poke hr.low hr.off (fun r' h=>vN _ h) (by simp) rfl rfl rfl) hQ;have h1:=hm r' (by simp [hr']);have hne:r'≠r:=fun e=>hn.1 (e ▸ hr');exact⟨h1.low,by simpa using h1.lt,by rw[vN _ hne];exact h1.cell,h1.off⟩
theorem uW{id:Nat}{Fn:Func}{C:Code}{A B Args:List Value}{w:World}(hFn:P.funcs[id]? =some Fn)(hbody:Fn.body=some C)(hname:¬ (Fn.name== "runtime.NumGoroutine")=true):
  ((do let d <-Deferred.ofValue (.func (.func id) ⟨A⟩ ⟨B⟩) ⟨Args⟩;invoke d.target d.args:Sem Next)).run P w= .ok (.enter id ⟨A++(Args++B)⟩) w:=by
 simp only[Deferred.ofValue,Sem.run_bind,Sem.run_pure,Result.andThen_ok,invoke,callFunc,run_program,hFn];rw[if_neg hname];simp [hbody]
theorem aHV{Fn:Func}{fn:dU}(hc:cFn P Fn=some fn):∃C c rs,Fn.body=some C/\¬ (Fn.name== "runtime.NumGoroutine")=true/\oD P Fn.ntmps C=some c/\aGU P Fn.results.toList=some rs/\fn=⟨Fn.ntmps,rs,c⟩:=by
 unfold cFn at hc;rw[Bn] at hc;split at hc
 ·cases hc
 ·rename_i hname;split at hc
  ·rename_i C hbody;split at hc
   ·rename_i c rs hC hrs;cases hc;exact⟨C,c,rs,hbody,hname,hC,hrs,rfl⟩
   ·cases hc
  ·cases hc
theorem aCN{fns:T dU}(hK:vY P fns){n:Nat}(hcode:aDA P (ev fns n).code):nL P (aBf fns (ev fns n)):=by
 intro f args S v S' h σ w fv Args hf hargs hR;cases f<;>simp only[aBf,reduceCtorEq] at h
 ·rename_i id first cap;have⟨fn,hfn,h⟩:=aS h;rcases hK.fn id fn hfn with⟨Fn,hFn,hc⟩ | hfk
  case inr=>
   have⟨hle,_⟩:=cG (show cB (Nat.ble (lO (wR first (wR args cap))) fn.ntmps) _ _=_ from h);rw[hfk.none,fL,fW,fW] at hle;have hz:=Ba hle;simp only[Ai] at hz;have h1:first= []:=Bv.1 ay;have h2:args= []:=Bv.1 ay;have h3:cap= []:=Bv.1 ay;subst h1;subst h2;subst h3;have hA:=dH.1 hargs;subst hA;exact hfk.ok n S S' v h σ w fv hf hR
  simp only[Rv] at hf;obtain⟨A,B,rfl,hA,hB⟩:=hf;obtain⟨C,c,rs,hbody,hname,hC,hrs,rfl⟩:=aHV hc;unfold wM at h;have⟨hle,h⟩:=cG h;have⟨⟨o,A',S1⟩,h1,h2⟩:=aS h;rw[fL,fW,fW] at hle;have hle:=Ba hle;rw[fW,fW] at h1;have hall:iK P σ (first++(args++cap)) (A++(Args++B)):=hA.append (hargs.append hB);rw[uW hFn hbody hname];show CallsIn Fence.wide 0 P id ⟨A++(Args++B)⟩ w _;have⟨hfr,hsz⟩:=aD6 hall (nt:=Fn.ntmps) hle;refine callsIn_of_wp_marks hFn hbody trivial ?_;have hsz0:(⟨A++(Args++B)⟩:Array Value).size=(A++(Args++B)).length:=rfl;rw[<-aJM,hsz0];refine hcode none 0 Fn.ntmps C c hC ⟨sC (first++(args++cap)) 0 .e,false⟩ S o A' S1 (fun _=>rfl) h1 w.heap.size σ _ w _ hsz Df.nil (Ag _) hfr hR ?_;intro σ' a' w' hinr hsz' hdf hfr' hext;have⟨_,rks,hd,hnd,hmk⟩:=hdf;unfold aFz at h2;obtain⟨vs,h6,h7⟩:∃vs,results rs A'.F S1.h=some vs/\some (oneOf vs,S1)=some (v,S'):=by
   cases o with
   | normal=>exact aS h2
   | ret=>exact aS h2
   | exit i=>cases h2
  cases h7;have fin:∀w'',kJ P σ S w σ' S' w''->∃V,(Go.results Fn a'.tmps).run P w''= .ok V w''/\∃σ',Rv P σ' (oneOf vs) V/\kJ P σ S w σ' S' w'':=fun w'' hx=>by
   have⟨Vs,h8,h9⟩:=oR hx.rep hfr' hrs h6;refine⟨_,?_,σ',aCd h9,hx⟩;show((do let vs <-Fn.results.mapM (aE1 a'.tmps);pure (if h:vs.size=1 then vs[0] else .tuple vs):Sem Value)).run P w''=_;rw[Array.mapM_eq_mapM_toList];simp only[Sem.run_bind,Sem.run_map,h8,Result.andThen_ok,Sem.run_pure]
  cases o with
  | normal=>
   show LeavesInM Fence.wide 0 P Fn a'.tmps _ a'.defers .returning w';rw[hd];exact leaves rks w' hnd hmk hext fin
  | ret=>
   show LeavesInM Fence.wide 0 P Fn a'.tmps _ a'.defers .returning w';rw[hd];exact leaves rks w' hnd hmk hext fin
  | exit i=>cases h2
theorem aDi{fns:T dU}{ro:Option Nat}{m nt:Nat}{C:Code}{c:AC}(hC:oD P nt C=some c):∀ (n:Nat),(∀k,k<n->aDA P (ev fns k).code)->
  ∀ (A:bS) (S:St) (o:Out) (A':bS) (S':St),(A.inr=false->ro=none)->(ev fns n).code (.loop c) A S=some (o,A',S')->
  ∀ (lo:Nat) (σ:Env) (a:Act) (w:World) (Q:Exit->Act->World->Prop),a.tmps.size=nt->Df lo A.inr σ S w a.defers->lo<=w.heap.size->rV P σ A.F a.tmps->mF P σ S w->
   (∀σ' a' w',A'.inr=A.inr->a'.tmps.size=nt->Df lo A.inr σ' S' w' a'.defers->rV P σ' A'.F a'.tmps->kJ P σ S w σ' S' w'->Q (aII o) a' w')->Code.roundsIn (Fw ro) m P C Q n a w
 | 0,_,A,S,o,A',S',_,h=>by cases h
 | n+1,hk,A,S,o,A',S',hds,h=>by
  intro lo σ a w Q hsz hdef hlo hF hR hQ;have⟨⟨o1,A1,S1⟩,h1,h2⟩:=aS (show(bH ((ev fns n).code c A S) (sT (.loop c) (ev fns n)))=some (o,A',S') from h);show C.wpIn (Fw ro) m P (Exit.then (Code.roundsIn (Fw ro) m P C Q n) Q) a w;refine hk n (Ea n) ro m nt C c hC A S o1 A1 S1 hds h1 lo σ a w _ hsz hdef hlo hF hR ?_;intro σ1 a1 w1 i1 s1 d1 f1 e1;have⟨F1,q1⟩:=A1;simp only at i1;subst i1;have l1:=Au hlo e1.size;unfold sT at h2;cases o1 with
  | normal=>exact aDi hC n (fun k hlt=>hk k ay) ⟨F1,A.inr⟩ S1 o A' S' hds h2 lo σ1 a1 w1 Q s1 d1 l1 f1 e1.rep (fun σ' a' w' q1 q2 q3 q4 q5=>hQ σ' a' w' q1 q2 q3 q4 (e1.trans q5))
  | exit i=>cases h2;exact hQ σ1 a1 w1 rfl s1 d1 f1 e1
  | ret=>cases h2;exact hQ σ1 a1 w1 rfl s1 d1 f1 e1
theorem aDx{fns:T dU}(hK:vY P fns):∀n,aDA P (ev fns n).code:=by
 intro n
 induction n using Nat.strongRecOn with
 | _ n ihn=>
  cases n with
  | zero=>intro ro m nt C c hC A S o A' S' hds h;cases h
  | succ n=>
   have ih:=ihn n (Ea n);have hcall:nL P (ev fns n).call:=by
    cases n with
    | zero=>intro f args S v S' h;cases h
    | succ k=>exact aCN hK (ihn k ay)
   intro ro m nt C c hC A S o A' S' hds h lo σ a w Q hsz hdef hlo hF hR hQ;cases C with
   | skip=>
    cases hC;cases h;exact wpIn_skip (hQ σ a w rfl hsz hdef hF (kJ.refl hR))
   | seq x y=>
    simp only[oD] at hC;split at hC
    ·rename_i cx cy hx hy;cases hC;have⟨⟨o1,A1,S1⟩,h1,h2⟩:=aS (show(bH ((ev fns n).code cx A S) (sT cy (ev fns n)))=some (o,A',S') from h);refine wpIn_seq (ih ro m nt x cx hx A S o1 A1 S1 hds h1 lo σ a w _ hsz hdef hlo hF hR ?_);intro σ1 a1 w1 i1 s1 d1 f1 e1;have⟨F1,q1⟩:=A1;simp only at i1;subst i1;have l1:=Au hlo e1.size;unfold sT at h2;cases o1 with
     | normal=>exact ih ro m nt y cy hy ⟨F1,A.inr⟩ S1 o A' S' hds h2 lo σ1 a1 w1 Q s1 d1 l1 f1 e1.rep (fun σ' a' w' q1 q2 q3 q4 q5=>hQ σ' a' w' q1 q2 q3 q4 (e1.trans q5))
     | exit i=>cases h2;exact hQ σ1 a1 w1 rfl s1 d1 f1 e1
     | ret=>cases h2;exact hQ σ1 a1 w1 rfl s1 d1 f1 e1
    ·cases hC
   | cond x y z=>
    simp only[oD] at hC;split at hC
    ·rename_i cc cy cz hx hy hz;cases hC;have h:aBZ (cc.val A.F) cy cz (ev fns n) A S=some (o,A',S'):=h;have hv:=cD (a:=a) hF hR hx;unfold aBZ at h;split at h
     ·rename_i t ht;rw[ht] at hv;simp only[Rv] at hv;refine wpIn_cond hv ?_;cases t
      ·exact ih ro m nt z cz hz A S o A' S' hds h lo σ a w Q hsz hdef hlo hF hR hQ
      ·exact ih ro m nt y cy hy A S o A' S' hds h lo σ a w Q hsz hdef hlo hF hR hQ
     ·cases h
    ·cases hC
   | block id x=>
    simp only[oD,Az] at hC;obtain⟨cx,hx,rfl⟩:=hC;have⟨⟨o1,A1,S1⟩,h1,h2⟩:=aS (show(bH ((ev fns n).code cx A S) (sF id))=some (o,A',S') from h);refine wpIn_block (ih ro m nt x cx hx A S o1 A1 S1 hds h1 lo σ a w _ hsz hdef hlo hF hR ?_);intro σ1 a1 w1 i1 s1 d1 f1 e1;have⟨F1,q1⟩:=A1;simp only at i1;subst i1;have l1:=Au hlo e1.size;unfold sF at h2;cases o1 with
    | normal=>cases h2;exact hQ σ1 a1 w1 rfl s1 d1 f1 e1
    | ret=>cases h2;exact hQ σ1 a1 w1 rfl s1 d1 f1 e1
    | exit i=>
     simp only at h2;rw[cN] at h2;show(if i=id then Q .normal a1 w1 else Q (.exit i) a1 w1);split at h2
     ·rename_i he;rw[Bg] at he;rw[if_pos he];cases h2;exact hQ σ1 a1 w1 rfl s1 d1 f1 e1
     ·rename_i he;rw[Bg] at he;rw[if_neg he];cases h2;exact hQ σ1 a1 w1 rfl s1 d1 f1 e1
   | loop x=>
    simp only[oD,Az] at hC;obtain⟨cx,hx,rfl⟩:=hC;exact wpIn_loop_rounds (n+1) (aDi hx (n+1) ihn A S o A' S' hds h lo σ a w Q hsz hdef hlo hF hR hQ)
   | exit id=>
    cases hC;cases h;exact wpIn_exit (hQ σ a w rfl hsz hdef hF (kJ.refl hR))
   | ret=>
    cases hC;cases h;exact wpIn_ret (hQ σ a w rfl hsz hdef hF (kJ.refl hR))
   | region id ops d=>
    simp only[oD,Bn] at hC;split at hC
    ·rename_i hd;subst hd;obtain⟨aos,rfl⟩:∃aos,c= .drw aos:=by
      unfold aFk at hC;split at hC
      ·rw[Bn] at hC;split at hC
       ·cases hC;exact⟨_,rfl⟩
       ·cases hC
      ·cases hC
     have⟨⟨F1,S1⟩,h1,h2⟩:=aS (show(bH (xD aos (ev fns n).call A.F S) fun r=>some (Out.normal,(⟨r.1,A.inr⟩:bS),r.2))=some (o,A',S') from h);cases h2;exact hK.drawn _ hcall ro m nt id ops aos hC σ A.F F1 S S1 a w Q hsz hF hR h1 (fun σ' a' w' q1 q2 q3 q4=>hQ σ' a' w' rfl q2 (by rw[q3];exact hdef.ext hR q4) q1 q4)
    ·rename_i hd;have hd:d=false:=by simpa using hd
     subst hd;obtain⟨aos,haos,rfl⟩:=Az.1 hC;have⟨⟨F1,S1⟩,h1,h2⟩:=aS (show(bH (uZ aos (ev fns n).call A.F S) fun r=>some (Out.normal,(⟨r.1,A.inr⟩:bS),r.2))=some (o,A',S') from h);cases h2;refine wpIn_region ?_;rw[List.range_eq_range',<-Cu];exact vS hK.asked hK.bits hcall ops.toList 0 [] aos σ A.F F1 S S1 a w (fun j=>by simp) haos hsz hF hR h1 (fun σ' a' w' q1 q2 q3 q4=>hQ σ' a' w' rfl q2 (by rw[q3];exact hdef.ext hR q4) q1 q4)
   | rangeFunc f ps x y=>cases hC
   | scope x=>cases hC
   | label l=>cases hC
   | goto l=>cases hC
   | refuse s=>cases hC
theorem aLK{fns:T dU}(hK:vY P fns)(n:Nat):nL P (ev fns n).call:=by
 cases n with
 | zero=>intro f args S v S' h;cases h
 | succ k=>exact aCN hK (aDx hK k)
end Go.Ev
namespace Go.Ev
def Agree(l:b9)(F F':Fr):Prop:=∀t∈l,aD t F=aD t F'
theorem Agree.left{l m:b9}{F F':Fr}(h:Agree (l++m) F F'):Agree l F F':=fun t ht=>h t (Dh _ ht)
theorem Agree.right{l m:b9}{F F':Fr}(h:Agree (l++m) F F'):Agree m F F':=fun t ht=>h t (Dk _ ht)
theorem cE{x:cU}{F F':Fr}(h:Agree x.rd F F'):x.val F=x.val F':=by
 cases x with
 | t i=>exact h i (by simp [cU.rd])
 | c v=>rfl
theorem mY{F F':Fr}:∀ {xs:List cU},Agree (rds xs) F F'->dG xs F=dG xs F'
 | [],_=>rfl
 | x::xs,h=>by
  show x.val F::dG xs F=x.val F'::dG xs F';rw[cE h.left,mY h.right]
theorem nK{x:Option cU}{F F':Fr}(d:Nat)(h:Agree (rdo x) F F'):jO F d x=jO F' d x:=by
 cases x with
 | none=>rfl
 | some x=>simp only[jO];rw[cE (show Agree x.rd F F' from h)]
theorem aAU{F F':Fr}:∀ {ps:List (Nat×Nat×cU)},Agree (rdp ps) F F'->eH F ps=eH F' ps
 | [],_=>rfl
 | (a,b,x)::ps,h=>by
  simp only[eH];rw[cE h.left,aAU h.right]
theorem yE{F F':Fr}(s:Nat):∀ {ps:List (Nat×cU)},Agree (aQv ps) F F'->kR s F ps=kR s F' ps
 | [],_=>rfl
 | (a,x)::ps,h=>by
  simp only[kR];rw[cE h.left,yE s h.right]
theorem pL{F F':Fr}{lo hi mx:Option cU}(a b:Nat)(h1:Agree (rdo lo) F F')(h2:Agree (rdo hi) F F')(h3:Agree (rdo mx) F F'):mD a b lo hi mx F=mD a b lo hi mx F':=by
 simp only[mD,nK _ h1,nK _ h2,nK _ h3]
theorem aIU{F F':Fr}{lo hi mx:Option cU}(k:SlK)(v:AV)(h1:Agree (rdo lo) F F')(h2:Agree (rdo hi) F F')(h3:Agree (rdo mx) F F'):rQ k v lo hi mx F=rQ k v lo hi mx F':=by
 unfold rQ;split
 ·simp only[aO2,nK _ h1,nK _ h2]
 ·simp only[aHp,pL _ _ h1 h2 h3]
 ·simp only[aMn,pL _ _ h1 h2 h3]
 ·simp only[aNb,pL _ _ h1 h2 h3]
 ·simp only[aJt,pL _ _ h1 h2 h3]
 ·rfl
theorem aK9{q:zH}{F F':Fr}(h:Agree q.rd F F')(hp:T AB):gT q F hp=gT q F' hp:=by
 cases q with
 | mv x=>show some (x.val F)=_;rw[cE (x:=x) h];rfl
 | pick c a b=>show wW (c.val F) a b F=wW (c.val F') a b F';simp only[wW,cE h.left,cE h.right.left,cE h.right.right]
 | build z ps=>show bH (eZ z (eH F ps)) _=_;rw[aAU h];rfl
 | ld a n x=>show eQ (x.val F) a n hp=eQ (x.val F') a n hp;rw[cE h]
 | cg x=>show uT (x.val F)=uT (x.val F');rw[cE h]
 | bin op e x y=>show iL op e (x.val F) (y.val F)=iL op e (x.val F') (y.val F');rw[cE h.left,cE h.right]
 | un op x=>show unV op (x.val F)=unV op (x.val F');rw[cE h]
 | conv k x=>show yH k (x.val F) hp=yH k (x.val F') hp;rw[cE h]
 | mkIface t x=>show some (AV.iface t (x.val F))=some (AV.iface t (x.val F'));rw[cE h]
 | mkFunc f a b=>show some (AV.fn f (dG a F) (dG b F))=some (AV.fn f (dG a F') (dG b F'));rw[mY h.left,mY h.right]
 | slc k x lo hi mx=>show rQ k (x.val F) lo hi mx F=rQ k (x.val F') lo hi mx F';rw[cE h.left,aIU k _ h.right.left h.right.right.left h.right.right.right]
 | cr off x=>show zD (x.val F) off=zD (x.val F') off;rw[cE h]
 | fld a off n x=>show aIq (x.val F) a off n=aIq (x.val F') a off n;rw[cE h]
 | cn k x ix=>show(bH (fG (ix.val F)) fun i=>fC k (x.val F) i)=bH (fG (ix.val F')) fun i=>fC k (x.val F') i;rw[cE h.left,cE h.right]
 | idxArr a n s x ix=>show(bH (fG (ix.val F)) fun i=>xF (x.val F) a n s i)=bH (fG (ix.val F')) fun i=>xF (x.val F') a n s i;rw[cE h.left,cE h.right]
 | idxStr x ix=>show(bH (fG (ix.val F)) fun i=>pQ (x.val F) i)=bH (fG (ix.val F')) fun i=>pQ (x.val F') i;rw[cE h.left,cE h.right]
 | lookup e z ok m k=>show(bH (vC hp (m.val F)) fun es=>bH (pH e (k.val F) es) fun r=>pS r z ok)=bH (vC hp (m.val F')) fun es=>bH (pH e (k.val F') es) fun r=>pS r z ok;rw[cE h.left,cE h.right]
 | tassert t z ok x=>show aDL (x.val F) t z ok=aDL (x.val F') t z ok;rw[cE h]
 | extract x i=>show jU (x.val F) i=jU (x.val F') i;rw[cE h]
 | lenArr n=>rfl
 | lenStr x=>show aFB (x.val F)=aFB (x.val F');rw[cE h]
 | cq x=>show jD (x.val F)=jD (x.val F');rw[cE h]
 | lenMap x=>show(bH (vC hp (x.val F)) fun es=>some (AV.int .i64 (.ofNat (lO es))))=bH (vC hp (x.val F')) fun es=>some (AV.int .i64 (.ofNat (lO es)));rw[cE h]
 | capSl x=>show aIw (x.val F)=aIw (x.val F');rw[cE h]
 | c9 m xs=>show mT m (dG xs F)=mT m (dG xs F');rw[mY h]
 | mkMeth n tbl x=>show some (AV.mth n tbl (x.val F))=some (AV.mth n tbl (x.val F'));rw[cE h]
theorem aKe{q:zH}(hq:dR q=false)(F:Fr)(h h':T AB):gT q F h=gT q F h':=by
 cases q with
 | ld a n x=>cases hq
 | lookup e z ok m k=>cases hq
 | lenMap x=>cases hq
 | conv k x=>
  show yH k (x.val F) h=yH k (x.val F) h';cases k with
  | bytesToStr=>cases hq
  | int k=>cases x.val F<;>rfl
  | same=>cases x.val F<;>rfl
  | intToStr=>
   cases x.val F with
   | int k n=>cases n<;>rfl
   | _=>rfl
 | _=>rfl
theorem aKx{a:wY}{F F':Fr}(h:Agree a.rd F F')(id:Nat):sH a F id=sH a F' id:=by
 cases a with
 | alloc t cs=>rfl
 | box t x=>show(bH (x.val F).cells fun cs=>some (AV.ptr id 0,AB.cells cs false 0))=bH (x.val F').cells fun cs=>some (AV.ptr id 0,AB.cells cs false 0);rw[cE h]
 | ch t s len z ps=>show(bH (eZ (repeatL z len) (kR s F ps)) fun cs=>some (AV.sl id 0 len len false,AB.cells cs false 0))=bH (eZ (repeatL z len) (kR s F' ps)) fun cs=>some (AV.sl id 0 len len false,AB.cells cs false 0);rw[yE s h]
 | cv t s by_ z l c=>
  show xB t s by_ z l c F id=xB t s by_ z l c F' id;unfold xB;rw[cE h.left,cE h.right]
 | mkMap=>rfl
 | strBytes t x=>show sK (x.val F) id=sK (x.val F') id;rw[cE h]
theorem aLg{x:XOp}{F F':Fr}(h:Agree x.rd F F')(call:fK)(S:St):evX x call F S=evX x call F' S:=by
 cases x with
 | st n x v=>show(bH (v.val F).cells fun cs=>mJ (x.val F) n cs S)=bH (v.val F').cells fun cs=>mJ (x.val F') n cs S;rw[cE h.left,cE h.right]
 | call f args=>show call (f.val F) (dG args F) S=call (f.val F') (dG args F') S;rw[cE h.left,mY h.right]
 | inv tbl f args=>show aIV (f.val F) tbl (dG args F) call S=aIV (f.val F') tbl (dG args F') call S;rw[cE h.left,mY h.right]
 | app t s b x y=>show fN b s (x.val F) (y.val F) S=fN b s (x.val F') (y.val F') S;rw[cE h.left,cE h.right]
 | copy s d x=>show(bH (aI9 (x.val F)) fun m=>copyV (d.val F) s m (x.val F) S)=bH (aI9 (x.val F')) fun m=>copyV (d.val F') s m (x.val F') S;rw[cE h.left,cE h.right]
 | mapUpd e m k v=>show uL (m.val F) e (k.val F) (v.val F) S=uL (m.val F') e (k.val F') (v.val F') S;rw[cE h.left,cE h.right.left,cE h.right.right]
 | mapDel e m k=>show aGi (m.val F) e (k.val F) S=aGi (m.val F') e (k.val F') S;rw[cE h.left,cE h.right]
 | clr z x=>show aPD (x.val F) z S=aPD (x.val F') z S;rw[cE h]
 | ext k args=>show(bH (aPH k (dG args F)) fun v=>some (v,S))=bH (aPH k (dG args F')) fun v=>some (v,S);rw[mY h]
 | bad=>rfl
theorem aHr{g:Option (Nat×Bool)}{F F':Fr}(h:Agree (g.map (·.1)).toList F F'):eT g F=eT g F':=by
 cases g with
 | none=>rfl
 | some p=>show isB (aD p.1 F) p.2=isB (aD p.1 F') p.2;rw[h p.1 (by simp)]
theorem aJs{t:Nat}:∀ {l:b9},inL t l=true↔t∈l
 | []=>by simp [inL]
 | u::l=>by
  simp only[inL,Bn,Bm];split
  ·rename_i h;rw[Bg] at h;simp [h]
  ·rename_i h;rw[Bg] at h;simp [h,aJs]
theorem aH3{d:Option Nat}{t:Nat}{l:b9}(h:d=some t)(ht:t∈l):meets d l=true:=by subst h;exact aJs.2 ht
theorem aCR{i:Nat}{d:Option Nat}{tch:b9}:∀ {l:List AO},aFO i d tch l=true->∀ {j:Nat} {b:AO},l[j]? =some b->(meets d b.touch || meets b.dst tch)=true->Nat.testBit b.mask i=true
 | [],_,j,b,hb=>by simp at hb
 | a::l,h,j,b,hb=>by
  intro hm;simp only[aFO,Cn] at h;cases j with
  | zero=>
   simp at hb;subst hb;have h1:=h.1;rw[hm] at h1;exact h1
  | succ j=>exact aCR h.2 (by simpa using hb) hm
theorem aEO:∀ {l:List AO} {k:Nat},aJn k l=true->∀ {i j:Nat} {a b:AO},i<j->l[i]? =some a->l[j]? =some b->(meets a.dst b.touch || meets b.dst a.touch)=true->Nat.testBit b.mask (k+i)=true
 | [],k,_,i,j,a,b,_,ha=>by simp at ha
 | c::l,k,h,i,j,a,b,hij,ha=>by
  intro hb hm;simp only[aJn,Cn] at h;cases j with
  | zero=>omega
  | succ j=>
   cases i with
   | zero=>
    simp at ha;subst ha;exact aCR h.1 (by simpa using hb) hm
   | succ i=>
    have:=aEO h.2 (i:=i) (j:=j) ay (by simpa using ha) (by simpa using hb) hm
    rwa [show k+1+i=k+(i+1) by omega] at this
theorem aCf:∀ {l:List Oper} {k:Nat},aCw k l=true->∀ {i:Nat} {o:Oper},l[i]? =some o->∀e∈o.after,Region.binds .any e=true->e.on<k+i
 | [],k,_,i,o,ho=>by simp at ho
 | c::l,k,h,i,o,ho=>by
  intro e he hb;simp only[aCw,Cn] at h;cases i with
  | zero=>
   simp at ho;subst ho;have h1:=Array.all_eq_true'.1 h.1 e he;simp only[hb,Bt,Bool.false_or] at h1;exact Ba h1
  | succ i=>
   have:=aCf h.2 (by simpa using ho) e he hb;omega
end Go.Ev
namespace Go.Ev
structure Tr(aos:List AO)(base:Nat)(call:fK)(Ds:Nat->DS):Prop where
 step:∀i o,aos[i]? =some o->pV o i base call (Ds i)=some (Ds (i+1))
theorem aC3{base:Nat}{call:fK}:∀ {l:List AO} {k:Nat} {D D':DS},vF l k base call D=some D'->
  ∃Ds:Nat->DS,Ds k=D/\(∀i o,l[i]? =some o->pV o (k+i) base call (Ds (k+i))=some (Ds (k+i+1)))/\Ds (k+l.length)=D'
 | [],k,D,D',h=>by
  simp only[vF,Ao] at h;exact⟨fun _=>D,rfl,fun i o ho=>by simp at ho,h⟩
 | o::l,k,D,D',h=>by
  simp only[vF] at h;have⟨D1,h1,h2⟩:=aS h;have⟨Ds,e1,e2,e3⟩:=aC3 h2;refine⟨fun i=>if i=k then D else Ds i,by simp,?_,?_⟩
  ·intro i o' ho;cases i with
   | zero=>
    simp at ho;subst ho;simp only[Bh,Ej];rw[if_neg ay,e1];exact h1
   | succ i=>
    have:=e2 i o' (by simpa using ho);rw[show k+(i+1)=k+1+i by omega];simp only[];rw[if_neg ay,if_neg ay];exact this
  ·simp only[Aw];rw[if_neg ay,show k+(l.length+1)=k+1+l.length by omega];exact e3
section
variable {aos:List AO}{base:Nat}{call:fK}{Ds:Nat->DS}
inductive Kind(base:Nat)(call:fK)(D D':DS)(i:Nat)(o:AO):Prop where
 | no (hw:eT o.grd D.F=false) (e:D'=⟨cR o.dst D.F .undef,D.S,D.ps,D.hs,D.ls⟩)
 | q (q:zH) (v:AV) (hw:eT o.grd D.F=true) (ho:o.op= .q q) (hv:gT q D.F D.S.h=some v)
   (e:D'=⟨cR o.dst D.F v,D.S,D.ps,D.hs,cB (dR q) (⟨q,D.F,v,i,o.mask⟩::D.ls) D.ls⟩)
 | a (a:wY) (v:AV) (b:AB) (hw:eT o.grd D.F=true) (ho:o.op= .a a) (hv:sH a D.F (base+i)=some (v,b))
   (e:D'=⟨cR o.dst D.F v,D.S,⟨i,base+i,b⟩::D.ps,D.hs,D.ls⟩)
 | x (x:XOp) (v:AV) (S:St) (hw:eT o.grd D.F=true) (ho:o.op= .x x) (hl:jL D.hs o.mask=true)
   (hv:evX x call D.F ⟨(cO o.mask D.ps D.S.h).2,D.S.nx⟩=some (v,S))
   (e:D'=⟨cR o.dst D.F v,S,(cO o.mask D.ps D.S.h).1,(i,o.mask,S.h)::D.hs,D.ls⟩)
theorem Tr.kind(h:Tr aos base call Ds){i:Nat}{o:AO}(ho:aos[i]? =some o):Kind base call (Ds i) (Ds (i+1)) i o:=by
 have h1:=h.step i o ho;unfold pV at h1;rw[cN] at h1;split at h1
 ·rename_i hw;cases hop:o.op with
  | q q=>
   rw[hop] at h1;have⟨v,h2,h3⟩:=aS (show(bH (gT q (Ds i).F (Ds i).S.h) fun v=>some (⟨cR o.dst (Ds i).F v,(Ds i).S,(Ds i).ps,(Ds i).hs,cB (dR q) (⟨q,(Ds i).F,v,i,o.mask⟩::(Ds i).ls) (Ds i).ls⟩:DS))=some (Ds (i+1)) from h1);exact .q q v hw hop h2 (Bl h3).symm
  | a a=>
   rw[hop] at h1;have⟨⟨v,b⟩,h2,h3⟩:=aS (show(bH (sH a (Ds i).F (base+i)) fun r=>some (⟨cR o.dst (Ds i).F r.1,(Ds i).S,⟨i,base+i,r.2⟩::(Ds i).ps,(Ds i).hs,(Ds i).ls⟩:DS))=some (Ds (i+1)) from h1);exact .a a v b hw hop h2 (Bl h3).symm
  | x x=>
   rw[hop] at h1;have⟨h4,h1⟩:=cG (show cB (jL (Ds i).hs o.mask) (bH (evX x call (Ds i).F ⟨(cO o.mask (Ds i).ps (Ds i).S.h).2,(Ds i).S.nx⟩) fun r=>
    some (⟨cR o.dst (Ds i).F r.1,r.2,(cO o.mask (Ds i).ps (Ds i).S.h).1,(i,o.mask,r.2.h)::(Ds i).hs,(Ds i).ls⟩:DS)) none=some (Ds (i+1)) from h1)
   have⟨⟨v,S⟩,h2,h3⟩:=aS h1;exact .x x v S hw hop h4 h2 (Bl h3).symm
 ·rename_i hw;exact .no (by simpa using hw) (Bl h1).symm
def jC(aos:List AO)(Ds:Nat->DS)(c:Nat):Prop:=∃o x,aos[c]? =some o/\o.op= .x x/\eT o.grd (Ds c).F=true
theorem qK{d:Option Nat}{F:Fr}{v:AV}{t:Nat}(h:d≠some t):aD t (cR d F v)=aD t F:=by
 cases d with
 | none=>rfl
 | some d=>show aD t (F.set d (some v))=_;rw[aA1,if_neg (fun e=>h (by rw[e]))]
theorem sL{d:Nat}{F:Fr}{v:AV}:aD d (cR (some d) F v)=v:=by
 show aD d (F.set d (some v))=_;rw[aA1,if_pos rfl]
theorem Tr.slot_step(h:Tr aos base call Ds){i t:Nat}{o:AO}(ho:aos[i]? =some o)(hd:o.dst≠some t):aD t (Ds (i+1)).F=aD t (Ds i).F:=by
 cases h.kind ho with
 | no hw e=>rw[e];exact qK hd
 | q q v hw ho' hv e=>rw[e];exact qK hd
 | a a v b hw ho' hv e=>rw[e];exact qK hd
 | x x v S hw ho' hl hv e=>rw[e];exact qK hd
theorem Tr.slot_keep(h:Tr aos base call Ds){t i:Nat}:∀ {k:Nat},i<=k->k<=aos.length->(∀j o,i<=j->j<k->aos[j]? =some o->o.dst≠some t)->aD t (Ds k).F=aD t (Ds i).F:=by
 intro k
 induction k with
 | zero=>intro h1 _ _;rw[Nat.le_zero.1 h1]
 | succ k ih=>
  intro h1 h2 h3;rcases Cd k i with h4 | h4
  ·rw[show i=k+1 by omega]
  ·rw[<-ih h4 ay (fun j o a b c=>h3 j o a ay c)];have ho:aos[k]? =some aos[k]:=Ac ay;exact h.slot_step ho (h3 k _ h4 ay ho)
theorem Tr.heap_step(h:Tr aos base call Ds){i:Nat}(hi:i<aos.length)(hc:¬jC aos Ds i):(Ds (i+1)).S=(Ds i).S/\(Ds (i+1)).hs=(Ds i).hs:=by
 have ho:aos[i]? =some aos[i]:=Ac hi;cases h.kind ho with
 | no hw e=>rw[e];exact⟨rfl,rfl⟩
 | q q v hw ho' hv e=>rw[e];exact⟨rfl,rfl⟩
 | a a v b hw ho' hv e=>rw[e];exact⟨rfl,rfl⟩
 | x x v S hw ho' hl hv e=>exact absurd ⟨_,x,ho,ho',hw⟩ hc
theorem Tr.heap_keep(h:Tr aos base call Ds){i:Nat}:∀ {k:Nat},i<=k->k<=aos.length->(∀j,i<=j->j<k->¬jC aos Ds j)->(Ds k).S=(Ds i).S/\(Ds k).hs=(Ds i).hs:=by
 intro k
 induction k with
 | zero=>intro h1 _ _;rw[Nat.le_zero.1 h1];exact⟨rfl,rfl⟩
 | succ k ih=>
  intro h1 h2 h3;rcases Cd k i with h4 | h4
  ·rw[show i=k+1 by omega];exact⟨rfl,rfl⟩
  ·have⟨a1,a2⟩:=ih h4 ay (fun j a b=>h3 j a ay);have⟨b1,b2⟩:=h.heap_step (ay:k<aos.length) (h3 k h4 ay);exact⟨b1.trans a1,b2.trans a2⟩
theorem Tr.chain_hs(h:Tr aos base call Ds){c:Nat}{o:AO}(ho:aos[c]? =some o)(hc:jC aos Ds c):(Ds (c+1)).hs=(c,o.mask,(Ds (c+1)).S.h)::(Ds c).hs/\jL (Ds c).hs o.mask=true:=by
 have⟨o',x,h1,h2,h3⟩:=hc;rw[ho] at h1;cases h1;cases h.kind ho with
 | no hw e=>rw[h3] at hw;cases hw
 | q q v hw ho' hv e=>rw[h2] at ho';cases ho'
 | a a v b hw ho' hv e=>rw[h2] at ho';cases ho'
 | x x v S hw ho' hl hv e=>rw[e];exact⟨rfl,hl⟩
theorem Tr.head(h:Tr aos base call Ds)(h0:(Ds 0).hs= []):∀k,k<=aos.length->(∀c,c<k->¬jC aos Ds c)\/∃p m hp r,p<k/\jC aos Ds p/\(Ds k).hs=(p,m,hp)::r/\∀c,p<c->c<k->¬jC aos Ds c:=by
 intro k
 induction k with
 | zero=>intro _;exact .inl (fun c hc=>ay)
 | succ k ih=>
  intro hk;by_cases hc:jC aos Ds k
  ·have ho:aos[k]? =some aos[k]:=Ac ay;exact .inr ⟨k,_,_,_,Ea k,hc,(h.chain_hs ho hc).1,fun c h1 h2=>ay⟩
  ·have⟨_,e2⟩:=h.heap_step (ay:k<aos.length) hc;rcases ih ay with h1 | ⟨p,m,hp,r,h1,h2,h3,h4⟩
   ·refine .inl (fun c hlt=>?_);rcases Cd c k with h5 | h5
    ·exact h1 c h5
    ·rw[show c=k by omega];exact hc
   ·refine .inr ⟨p,m,hp,r,ay,h2,e2.trans h3,fun c h5 h6=>?_⟩;rcases Cd c k with h7 | h7
    ·exact h4 c h5 h7
    ·rw[show c=k by omega];exact hc
theorem Tr.before(h:Tr aos base call Ds)(h0:(Ds 0).hs= []){D:Nat->Prop}(hD:∀j o,D j->aos[j]? =some o->∀i,Nat.testBit o.mask i=true->D i):
  ∀k,k<aos.length->∀o,aos[k]? =some o->jC aos Ds k->(∀i,Nat.testBit o.mask i=true->D i)->∀c,c<k->jC aos Ds c->D c:=by
 intro k
 induction k using Nat.strongRecOn with
 | _ k ih=>
  intro hk o ho hc hm c hlt hcc;have⟨_,hl⟩:=h.chain_hs ho hc;rcases h.head h0 k ay with h1 | ⟨p,m,hp,r,h1,h2,h3,h4⟩
  ·exact absurd hcc (h1 c hlt)
  ·rw[h3] at hl;have hp':D p:=hm p hl;rcases Dt c p with h5 | h5 | h5
   ·have hop:aos[p]? =some aos[p]:=Ac ay;exact ih p h1 ay _ hop h2 (hD p _ hp' hop) c h5 hcc
   ·rw[h5];exact hp'
   ·exact absurd hcc (h4 c h5 hlt)
theorem Tr.loads_mono(h:Tr aos base call Ds){i:Nat}:∀ {k:Nat},i<=k->k<=aos.length->∀l∈(Ds i).ls,l∈(Ds k).ls:=by
 intro k
 induction k with
 | zero=>intro h1 _ l hl;rw[Nat.le_zero.1 h1] at hl;exact hl
 | succ k ih=>
  intro h1 h2 l hl;rcases Cd k i with h4 | h4
  ·rw[show k+1=i by omega];exact hl
  ·have:=ih h4 ay l hl;have ho:aos[k]? =some aos[k]:=Ac ay;cases h.kind ho with
   | no hw e=>rw[e];exact this
   | q q v hw ho' hv e=>rw[e,cN];simp only;split<;>simp [this]
   | a a v b hw ho' hv e=>rw[e];exact this
   | x x v S hw ho' hl hv e=>rw[e];exact this
theorem aCh{h0:T AB}{hs:List (Nat×Nat×T AB)}:∀ {ls:List jT},gK h0 hs ls=true->∀l∈ls,dY l hs h0=true
 | [],_,l,hl=>by simp at hl
 | m::ls,h,l,hl=>by
  simp only[gK,cN] at h;split at h
  ·rename_i h1;rcases Bm.1 hl with rfl | h2
   ·exact h1
   ·exact aCh h l h2
  ·cases h
theorem Tr.hs_split(h:Tr aos base call Ds):∀d k,k+d=aos.length->∃r,(Ds aos.length).hs.reverse=(Ds k).hs.reverse++r/\∀e∈r,k<=e.1/\jC aos Ds e.1:=by
 intro d
 induction d with
 | zero=>intro k hk;exact⟨[],by rw[show aos.length=k by omega];simp,by simp⟩
 | succ d ih=>
  intro k hk;have⟨r,h1,h2⟩:=ih (k+1) ay;by_cases hc:jC aos Ds k
  ·have ho:aos[k]? =some aos[k]:=Ac ay;refine⟨(k,aos[k].mask,(Ds (k+1)).S.h)::r,?_,?_⟩
   ·rw[h1,(h.chain_hs ho hc).1];simp
   ·intro e he;rcases Bm.1 he with rfl | he
    ·exact⟨Ag _,hc⟩
    ·exact⟨by have:=(h2 e he).1;omega,(h2 e he).2⟩
  ·refine⟨r,by rw[h1,(h.heap_step ay hc).2],fun e he=>⟨by have:=(h2 e he).1;omega,(h2 e he).2⟩⟩
theorem Tr.load(h:Tr aos base call Ds)(h0:(Ds 0).hs= [])(hok:gK (Ds 0).S.h (Ds aos.length).hs.reverse (Ds aos.length).ls=true){l:jT}(hl:l∈(Ds aos.length).ls){D:Nat->Prop}
  (hD:∀j o,D j->aos[j]? =some o->∀i,Nat.testBit o.mask i=true->D i) (hm:∀i,Nat.testBit l.mask i=true->D i) (hi:¬D l.i) {s:Nat} (hs:s<=aos.length) (hc:∀c,jC aos Ds c->(D c↔c<s)):
  mP l.v (gT l.q l.F (Ds s).S.h)=true:=by
 have hgo:=aCh hok l hl;have key:∀k,k<=s->∀r,(Ds aos.length).hs.reverse=(Ds k).hs.reverse++r->dY l r (Ds k).S.h=true:=by
  intro k
  induction k with
  | zero=>
   intro _ r hr;rw[h0] at hr;simp at hr;rw[<-hr];exact hgo
  | succ k ih=>
   intro hk r hr;by_cases hck:jC aos Ds k
   ·have ho:aos[k]? =some aos[k]:=Ac ay;have h1:=(h.chain_hs ho hck).1;have h2:=ih ay ((k,aos[k].mask,(Ds (k+1)).S.h)::r) (by rw[hr,h1];simp);have hDk:D k:=(hc k hck).2 ay;have hbit:Nat.testBit aos[k].mask l.i=false:=by
     cases hb:Nat.testBit aos[k].mask l.i with
     | false=>rfl
     | true=>exact absurd (hD k _ hDk ho _ hb) hi
    simp only[dY,cN,hbit] at h2;split at h2
    ·exact h2
    ·split at h2
     ·simpa using h2
     ·cases h2
   ·have⟨e1,e2⟩:=h.heap_step (ay:k<aos.length) hck;rw[e1];exact ih ay r (by rw[hr,e2])
 have⟨r,h1,h2⟩:=h.hs_split (aos.length - s) s ay;have h3:=key s (Ag _) r h1;cases r with
 | nil=>exact h3
 | cons e r=>
  have⟨c,m,hp⟩:=e;have⟨h4,h5⟩:=h2 (c,m,hp) (by simp);have hbit:Nat.testBit l.mask c=false:=by
   cases hb:Nat.testBit l.mask c with
   | false=>rfl
   | true=>have:=(hc c h5).1 (hm c hb);simp only at h4;omega
  simp only[dY,cN,hbit] at h3;by_cases h6:mP l.v (gT l.q l.F (Ds s).S.h)=true
  ·exact h6
  ·rw[if_neg (by simp),if_neg h6] at h3;cases h3
end
theorem aHU:∀ {a b:b9},mK a b=true->a=b
 | [],[],_=>rfl
 | [],_::_,h=>by simp [mK] at h
 | _::_,[],h=>by simp [mK] at h
 | a::x,b::y,h=>by
  simp only[mK,cN] at h;split at h
  ·rename_i h1;rw[Cp h1,aHU h]
  ·cases h
mutual
theorem aCW:∀ (a b:AV),cT a b=true->a=b
 | .bool a,v,h=>by cases v<;>simp only[cT,uN,Be] at h;rw[eq_of_beq h]
 | .int k a,v,h=>by
  cases v<;>simp only[cT,cN,Be] at h;split at h
  ·rename_i h1;rw[yW h1];rw[lJ] at h;rw[eq_of_beq h]
  ·cases h
 | .str a,v,h=>by cases v<;>simp only[cT,Be] at h;rw[aHU h]
 | .ptr a b,v,h=>by
  cases v<;>simp only[cT,cN,Be] at h;split at h
  ·rename_i h1;rw[Cp h1,Cp h]
  ·cases h
 | .nilp,v,h=>by cases v<;>first | rfl | simp only[cT,Be] at h
 | .sl a b c d e,v,h=>by
  cases v<;>simp only[cT,Be,Cn,uN] at h;have⟨⟨⟨⟨h1,h2⟩,h3⟩,h4⟩,h5⟩:=h;rw[Cp h1,Cp h2,Cp h3,Cp h4,eq_of_beq h5]
 | .cb,v,h=>by cases v<;>first | rfl | simp only[cT,Be] at h
 | .emp,v,h=>by cases v<;>first | rfl | simp only[cT,Be] at h
 | .map a,v,h=>by cases v<;>simp only[cT,Be] at h;rw[Cp h]
 | .nilmap,v,h=>by cases v<;>first | rfl | simp only[cT,Be] at h
 | .fn f a b,v,h=>by
  cases v<;>simp only[cT,Be,Cn] at h;have⟨⟨h1,h2⟩,h3⟩:=h;rw[Cp h1,sO _ _ h2,sO _ _ h3]
 | .nilfn,v,h=>by cases v<;>first | rfl | simp only[cT,Be] at h
 | .yld a,v,h=>by cases v<;>simp only[cT,Be] at h;rw[Cp h]
 | .iface t w,v,h=>by
  cases v<;>simp only[cT,Be,Cn] at h;rw[Cp h.1,aCW _ _ h.2]
 | .niliface,v,h=>by cases v<;>first | rfl | simp only[cT,Be] at h
 | .mth n t w,v,h=>by cases v<;>simp only[cT,Be] at h
 | .agg a,v,h=>by cases v<;>simp only[cT,Be] at h;rw[sO _ _ h]
 | .tup a,v,h=>by cases v<;>simp only[cT,Be] at h;rw[sO _ _ h]
theorem sO:∀ (a b:b6),nR a b=true->a=b
 | [],[],_=>rfl
 | [],_::_,h=>by simp [nR] at h
 | _::_,[],h=>by simp [nR] at h
 | a::x,b::y,h=>by
  simp only[nR,cN] at h;split at h
  ·rename_i h1;rw[aCW _ _ h1,sO _ _ h]
  ·cases h
end
theorem aMe{v:AV}{r:Option AV}(h:mP v r=true):r=some v:=by
 cases r with
 | none=>cases h
 | some w=>rw[aCW _ _ h]
end Go.Ev
namespace Go.Ev
section
variable {D:Nat->Prop}
theorem aNA{look:Nat->Nat}{o:Oper}(h:∀e∈o.after,Region.binds .any e=true->D e.on/\∀b,Nat.testBit (look e.on) b=true->D b):∀b,Nat.testBit (CheckFast.one look o) b=true->D b:=by
 unfold CheckFast.one;rw[<-Array.foldl_toList];have key:∀ (l:List Edge) (s:Nat),(∀e∈l,Region.binds .any e=true->D e.on/\∀b,Nat.testBit (look e.on) b=true->D b)->(∀b,Nat.testBit s b=true->D b)->
   ∀b,Nat.testBit (l.foldl (fun s e=>if Region.binds .any e then s ||| 2 ^ e.on ||| look e.on else s) s) b=true->D b:=by
  intro l
  induction l with
  | nil=>intro s _ hs b hb;exact hs b hb
  | cons e l ih=>
   intro s hl hs b hb;rw[List.foldl_cons] at hb;refine ih _ (fun e' he'=>hl e' (Bj _ he')) ?_ b hb;intro c hc;split at hc
   ·rename_i hbi;have⟨h1,h2⟩:=hl e (by simp) hbi;rw[Nat.testBit_or,Nat.testBit_or,Es,Es] at hc;rcases hc with(hc | hc) | hc
    ·exact hs c hc
    ·rw[Nat.testBit_two_pow] at hc;have:e.on=c:=by simpa using hc
     rw[<-this];exact h1
    ·exact h2 c hc
   ·exact hs c hc
 exact key o.after.toList 0 (fun e he=>h e (by simpa using he)) (fun b hb=>by simp at hb)
theorem aAF:∀ (l:List Oper) (j:Nat) (acc:b9),acc.length=j->(∀i,i<j->D i->∀b,Nat.testBit (acc.getD (j - 1 - i) 0) b=true->D b)->
  (∀k o,l[k]? =some o->D (j+k)->∀e∈o.after,Region.binds .any e=true->D e.on)->
  (∀i,i<j->(CheckFast.beforeL l j acc).getD i 0=acc.getD (j - 1 - i) 0)/\
  ∀k o,l[k]? =some o->(∀e∈o.after,Region.binds .any e=true->D e.on)->∀b,Nat.testBit ((CheckFast.beforeL l j acc).getD (j+k) 0) b=true->D b
 | [],j,acc,hl,_,_=>by
  refine⟨fun i hi=>?_,fun k o ho=>by simp at ho⟩;simp only[CheckFast.beforeL];rw[Ad,Ad,List.getElem?_reverse ay,hl]
 | o::l,j,acc,hl,hacc,hcl=>by
  simp only[CheckFast.beforeL,CheckFast.force_eq];have hv:(∀e∈o.after,Region.binds .any e=true->D e.on)->∀b,Nat.testBit (CheckFast.one (fun i=>if i<j then acc.getD (j - 1 - i) 0 else 0) o) b=true->D b:=by
   intro hp;refine aNA fun e he hb=>⟨hp e he hb,fun b hbit=>?_⟩;split at hbit
   ·exact hacc _ ‹_› (hp e he hb) b hbit
   ·simp at hbit
  have:=aAF l (j+1) (CheckFast.one (fun i=>if i<j then acc.getD (j - 1 - i) 0 else 0) o::acc) (by simp [hl]) ?_ ?_
  ·have⟨h1,h2⟩:=this;refine⟨fun i hi=>?_,fun k o' ho hp b hb=>?_⟩
   ·rw[h1 i ay,show j+1 - 1 - i=(j - 1 - i)+1 by omega];simp
   ·cases k with
    | zero=>
     simp at ho;subst ho;have h3:=h1 j ay;rw[show j+1 - 1 - j=0 by omega] at h3;refine hv hp b ?_;rw[show j+0=j from rfl,h3] at hb;exact hb
    | succ k=>
     refine h2 k o' (by simpa using ho) hp b ?_
     rwa [show j+1+k=j+(k+1) by omega]
  ·intro i hi hDi b hb;rcases Cd i j with h3 | h3
   ·rw[show j+1 - 1 - i=(j - 1 - i)+1 by omega] at hb;exact hacc i h3 hDi b (by simpa using hb)
   ·have:i=j:=by omega
    subst this;rw[show i+1 - 1 - i=0 by omega] at hb;exact hv (hcl 0 o (by simp) (by simpa using hDi)) b (by simpa using hb)
  ·intro k o' ho hDk;exact hcl (k+1) o' (by simpa using ho) (by rwa [show j+(k+1)=j+1+k by omega])
end
theorem aC2{P:Program}{nt:Nat}{ops:Array Oper}:∀ {l:List Oper} {ms:b9} {aos:List AO},uJ P nt ops l ms=some aos->
  aos.length=l.length/\∀j o,l[j]? =some o->∃ao,aos[j]? =some ao/\aJI P nt ops o (ms.getD j 0)=some ao
 | [],ms,aos,h=>by
  simp only[uJ,Ao] at h;subst h;exact⟨rfl,fun j o ho=>by simp at ho⟩
 | o::l,ms,aos,h=>by
  simp only[uJ] at h;split at h
  ·rename_i a as ha has;cases h;have⟨h1,h2⟩:=aC2 has;refine⟨by simp [h1],fun j o' ho=>?_⟩;cases j with
   | zero=>
    simp at ho;subst ho;refine⟨a,by simp,?_⟩;cases ms<;>simpa using ha
   | succ j=>
    have⟨ao,h3,h4⟩:=h2 j o' (by simpa using ho);refine⟨ao,by simpa using h3,?_⟩;cases ms<;>simpa using h4
  ·cases h
theorem lT{m:Nat}:∀ {ps:List iH} {h:T AB} {b:Nat} {bl:AB},(cO m ps h).2.get b=some bl->(∃p∈ps,Nat.testBit m p.i=true/\p.id=b/\p.b=bl)\/h.get b=some bl
 | [],h,b,bl,e=>.inr e
 | p::ps,h,b,bl,e=>by
  simp only[cO,cN] at e;split at e
  ·rename_i hb;rcases lT e with⟨q,h1,h2⟩ | h1
   ·exact .inl ⟨q,by simp [h1],h2⟩
   ·rw[dd] at h1;split at h1
    ·rename_i e';cases h1;exact .inl ⟨p,by simp,hb,e'.symm,rfl⟩
    ·exact .inr h1
  ·rcases lT e with⟨q,h1,h2⟩ | h1
   ·exact .inl ⟨q,by simp [h1],h2⟩
   ·exact .inr h1
theorem aBi{m:Nat}:∀ {ps:List iH} {h:T AB} {p:iH},p∈(cO m ps h).1->p∈ps/\Nat.testBit m p.i=false
 | [],h,p,e=>by simp [cO] at e
 | q::ps,h,p,e=>by
  simp only[cO,cN] at e;split at e
  ·have⟨h1,h2⟩:=aBi e;exact⟨by simp [h1],h2⟩
  ·rename_i hb;rcases Bm.1 e with rfl | e
   ·exact⟨by simp,by simpa using hb⟩
   ·have⟨h1,h2⟩:=aBi e;exact⟨by simp [h1],h2⟩
section
variable {aos:List AO}{base:Nat}{call:fK}{Ds:Nat->DS}
def Made(aos:List AO)(base:Nat)(Ds:Nat->DS)(i:Nat)(b:AB):Prop:=∃o a v,aos[i]? =some o/\o.op= .a a/\eT o.grd (Ds i).F=true/\sH a (Ds i).F (base+i)=some (v,b)
def Laid(aos:List AO)(Ds:Nat->DS)(i s:Nat):Prop:=∃c o,c<s/\jC aos Ds c/\aos[c]? =some o/\Nat.testBit o.mask i=true
theorem Tr.pend(h:Tr aos base call Ds)(h0:(Ds 0).ps= [])(hb:∀k o i,aos[k]? =some o->Nat.testBit o.mask i=true->i<k):∀k,k<=aos.length->∀p∈(Ds k).ps,p.i<k/\p.id=base+p.i/\Made aos base Ds p.i p.b/\¬Laid aos Ds p.i k:=by
 intro k
 induction k with
 | zero=>intro _ p hp;rw[h0] at hp;cases hp
 | succ k ih=>
  intro hk p hp;have ho:aos[k]? =some aos[k]:=Ac ay;have old:¬jC aos Ds k->p∈(Ds k).ps->p.i<k+1/\p.id=base+p.i/\Made aos base Ds p.i p.b/\¬Laid aos Ds p.i (k+1):=by
   intro hc hp;have⟨a1,a2,a3,a4⟩:=ih ay p hp;refine⟨ay,a2,a3,?_⟩;rintro⟨c,o,h1,h2,h3⟩;rcases Cd c k with h4 | h4
   ·exact a4 ⟨c,o,h4,h2,h3⟩
   ·rw[show c=k by omega] at h2;exact hc h2
  cases h.kind ho with
  | no hw e=>rw[e] at hp;exact old (fun⟨o,x,h1,h2,h3⟩=>by rw[ho] at h1;cases h1;rw[hw] at h3;cases h3) hp
  | q q v hw ho' hv e=>rw[e] at hp;exact old (fun⟨o,x,h1,h2,h3⟩=>by rw[ho] at h1;cases h1;rw[ho'] at h2;cases h2) hp
  | a a v b hw ho' hv e=>
   have hnc:¬jC aos Ds k:=fun⟨o,x,h1,h2,h3⟩=>by rw[ho] at h1;cases h1;rw[ho'] at h2;cases h2
   rw[e] at hp;rcases Bm.1 hp with rfl | hp
   ·refine⟨Ea _,rfl,⟨_,a,v,ho,ho',hw,hv⟩,?_⟩;rintro⟨c,o,h1,h2,h3,h4⟩;have:=hb c o _ h3 h4;simp only at this;omega
   ·exact old hnc hp
  | x x v S hw ho' hl hv e=>
   rw[e] at hp;have⟨h1,h2⟩:=aBi hp;have⟨a1,a2,a3,a4⟩:=ih ay p h1;refine⟨ay,a2,a3,?_⟩;rintro⟨c,o,h3,h4,h5,h6⟩;rcases Cd c k with h7 | h7
   ·exact a4 ⟨c,o,h7,h4,h5,h6⟩
   ·rw[show c=k by omega,ho] at h5;cases h5;rw[h2] at h6;cases h6
end
section
variable {P:Program}{σ σ' σ0:Env}{S S' S0:St}{w w' w0:World}
structure rY(P:Program)(n0:Nat)(σ:Env)(S:St)(w:World)(id:Nat)(b:AB)(L:Loc):Prop where
 at_:σ id=some L
 ge:n0<=L.r
 lt:L.r<w.heap.size
 rep:qL P σ w L b
 own:uV b
 sep:∀c bl M,S.h.get c=some bl->σ c=some M->M.r≠L.r
theorem kJ.grow(h:kJ P σ0 S0 w0 σ S w){ob:Obj}{id e:Nat}(hid:σ id=none)(hlo:S0.nx<=id)(hhi:id<S.nx)(hw:w'.heap=w.heap.push ob)(ho:w'.os=w.os)(ht:w'.tape=w.tape)(hu:w'.output=w.output):
  kJ P σ0 S0 w0 (upd σ id ⟨w.heap.size,0,e⟩) S w':=by
 have hold:∀r,r<w.heap.size->w'.heap[r]? =w.heap[r]? :=fun r hr=>by rw[hw,Array.getElem?_push,if_neg ay]
 have hsz:w'.heap.size=w.heap.size+1:=by rw[hw];simp
 have hne:∀b bl,S.h.get b=some bl->b≠id:=fun b bl hb e=>by
  have⟨L,h1,_⟩:=h.rep.blk b bl hb;rw[e,hid] at h1;cases h1
 refine⟨⟨fun b bl hb=>?_,h.rep.lt,fun b hb=>?_,fun g hg=>gR hid _ _ (h.rep.glob g hg),?_⟩,fun b hb=>?_,h.nx,fun r hr hn=>?_,fun r hr=>?_,az h.size,ho.trans h.os,ht.trans h.tape,hu.trans h.output,h.ro⟩
 ·have⟨L,h1,h2,h3⟩:=h.rep.blk b bl hb;exact⟨L,gR hid _ _ h1,ay,h3.frame (gR hid) (hold _ h2)⟩
 ·rw[eO _ ay];exact h.rep.fresh b hb
 ·intro b b' bl bl' L L' h1 h2 h3 h4 h5 h6;rw[eO _ (hne _ _ h1)] at h5;rw[eO _ (hne _ _ h2)] at h6;exact h.rep.inj b b' bl bl' L L' h1 h2 h3 h4 h5 h6
 ·rw[eO _ ay];exact h.low b hb
 ·rw[hold r (Ae hr h.size)];exact h.keep r hr hn
 ·obtain⟨b,bl,L,h1,h2,h3,rfl⟩:=hr;rw[eO _ (hne _ _ h1)] at h3;exact h.own _ ⟨b,bl,L,h1,h2,h3,rfl⟩
theorem rY.grow{n0:Nat}{id:Nat}{b:AB}{L:Loc}(h:rY P n0 σ S w id b L)(hR:mF P σ S w){ob:Obj}{i e:Nat}(hi:σ i=none)(hw:w'.heap=w.heap.push ob):
  rY P n0 (upd σ i ⟨w.heap.size,0,e⟩) S w' id b L where
 at_:=gR hi _ _ h.at_
 ge:=h.ge
 lt:=by rw[hw];simp;have:=h.lt;omega
 rep:=h.rep.frame (gR hi) (by rw[hw,Array.getElem?_push,if_neg (az h.lt)])
 own:=h.own
 sep:=fun c bl M h1 h2=>by
  refine h.sep c bl M h1 ?_;rw[eO] at h2
  ·exact h2
  ·intro e;have⟨L',h3,_⟩:=hR.blk c bl h1;rw[e,hi] at h3;cases h3
theorem kJ.lay(h:kJ P σ0 S0 w0 σ S w){n0:Nat}(hn0:w0.heap.size<=n0){m:Nat}{ps:List iH}(hst:∀p∈ps,Nat.testBit m p.i=true->p.id<S.nx/\∃L,rY P n0 σ S w p.id p.b L)
  (hd:∀p∈ps,∀q∈ps,Nat.testBit m p.i=true->Nat.testBit m q.i=true->p.id≠q.id->∀L L',σ p.id=some L->σ q.id=some L'->L.r≠L'.r):
  kJ P σ0 S0 w0 σ ⟨(cO m ps S.h).2,S.nx⟩ w:=by
 refine⟨⟨fun b bl hb=>?_,fun b bl hb=>?_,h.rep.fresh,h.rep.glob,?_⟩,h.low,h.nx,h.keep,fun r hr=>?_,h.size,h.os,h.tape,h.output,fun b cs hb=>?_⟩
 ·rcases lT hb with⟨p,h1,h2,rfl,rfl⟩ | h1
  ·have⟨_,L,h3⟩:=hst p h1 h2;exact⟨L,h3.at_,h3.lt,h3.rep⟩
  ·exact h.rep.blk b bl h1
 ·rcases lT hb with⟨p,h1,h2,rfl,rfl⟩ | h1
  ·exact(hst p h1 h2).1
  ·exact h.rep.lt b bl h1
 ·intro b b' bl bl' L L' hb hb' ho hne hL hL';rcases lT hb with⟨p,h1,h2,rfl,rfl⟩ | h1<;>rcases lT hb' with⟨q,h1',h2',rfl,rfl⟩ | h1'
  ·exact hd p h1 q h1' h2 h2' hne L L' hL hL'
  ·have⟨_,M,h3⟩:=hst p h1 h2;have:=h3.at_;rw[hL] at this;cases this;exact(h3.sep b' bl' L' h1' hL').symm
  ·have⟨_,M,h3⟩:=hst q h1' h2';have:=h3.at_;rw[hL'] at this;cases this;exact h3.sep b bl L h1 hL
  ·exact h.rep.inj b b' bl bl' L L' h1 h1' ho hne hL hL'
 ·obtain⟨b,bl,L,hb,ho,hL,rfl⟩:=hr;rcases lT hb with⟨p,h1,h2,rfl,rfl⟩ | h1
  ·have⟨_,M,h3⟩:=hst p h1 h2;have:=h3.at_;rw[hL] at this;cases this;exact .inr (Au hn0 h3.ge)
  ·exact h.own _ ⟨b,bl,L,h1,ho,hL,rfl⟩
 ·rcases lT hb with⟨p,h1,h2,rfl,h3⟩ | h1
  ·have⟨_,M,h4⟩:=hst p h1 h2;have:=h4.own;rw[h3] at this;exact this.elim
  ·exact h.ro b cs h1
theorem rY.act{n0:Nat}{id:Nat}{b:AB}{L:Loc}(h:rY P n0 σ S w id b L)(hR:mF P σ S w)(hE:kJ P σ S w σ' S' w')(hid:id<S.nx):rY P n0 σ' S' w' id b L:=by
 have hno:¬Own σ S L.r:=fun⟨c,bl,M,h1,h2,h3,h4⟩=>h.sep c bl M h1 h3 h4;refine⟨by rw[hE.low id hid];exact h.at_,h.ge,Ae h.lt hE.size,h.rep.frame (hE.mono hR) (hE.keep _ h.lt hno),h.own,?_⟩;intro c bl M h1 h2;by_cases ho:uV bl
 ·rcases hE.own M.r ⟨c,bl,M,h1,ho,h2,rfl⟩ with⟨c',bl',M',a1,a2,a3,a4⟩ | h3
  ·rw[<-a4];exact h.sep c' bl' M' a1 a3
  ·have:=h.lt;omega
 ·cases bl with
  | ro cs=>
   have h3:=hE.ro c cs h1;rw[hE.low c (hR.lt c _ h3)] at h2;exact h.sep c _ M h3 h2
  | _=>exact absurd trivial ho
end
end Go.Ev
