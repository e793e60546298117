import Derived.Test.YtdkehphobhnjoaaEv5
import Derived.RangeFuncLeaves
import Derived.OrdersIn
namespace Go.Ev
variable {P:Program}
def aDU:Out→Exit
 | .normal=>.normal
 | .exit id=>.exit id
 | .ret=>.ret
structure Mark(lo:Nat)(σ:Env)(S:St)(w:World)(r:Nat):Prop where
 low:lo≤r
 lt:r<w.heap.size
 cell:w.heap[r]? =some (.deferred (some []))
 off:∀b bl L,S.h.get b=some bl→σ b=some L→L.r≠r
def aAk(r:Nat):Deferred:={target:=.collected r,args:= #[]}
def Df(lo:Nat)(inr:Bool)(σ:Env)(S:St)(w:World)(ds:List Deferred):Prop:=
 (inr=true→ds= [])∧∃rs:List Nat,ds=rs.map aAk∧rs.Nodup∧∀r∈rs,Mark lo σ S w r
theorem Mark.notOwn{lo r:Nat}{σ:Env}{S:St}{w:World}(h:Mark lo σ S w r):¬Own σ S r:=fun⟨b,bl,L,h1,_,h2,h3⟩=>h.off b bl L h1 h2 h3
theorem Mark.ext{lo r:Nat}{σ σ':Env}{S S':St}{w w':World}(h:Mark lo σ S w r)(hR:iI P σ S w)(e:fL P σ S w σ' S' w'):Mark lo σ' S' w' r where
 low:=h.low
 lt:=Ae h.lt e.size
 cell:=by rw[e.keep r h.lt h.notOwn];exact h.cell
 off:=fun b bl L hb hL hr=>by
  have own:sA bl→False:=fun ho=>by
   rcases e.own r ⟨b,bl,L,hb,ho,hL,hr⟩ with h1 | h1
   ·exact h.notOwn h1
   ·exact absurd h.lt (by omega)
  cases bl with
  | ro cs=>
   have h1:=e.ro b cs hb;exact h.off b _ L h1 (by rw[←e.low b (hR.lt b _ h1)];exact hL) hr
  | _=>exact own trivial
theorem Df.ext{lo:Nat}{inr:Bool}{σ σ':Env}{S S':St}{w w':World}{ds:List Deferred}(h:Df lo inr σ S w ds)(hR:iI P σ S w)(e:fL P σ S w σ' S' w'):Df lo inr σ' S' w' ds:=by
 obtain⟨h0,rs,h1,h2,h3⟩:=h;exact⟨h0,rs,h1,h2,fun r hr=>(h3 r hr).ext hR e⟩
theorem Df.nil{lo:Nat}{inr:Bool}{σ:Env}{S:St}{w:World}:Df lo inr σ S w []:=⟨fun _=>rfl,[],rfl,by simp,fun r hr=>by cases hr⟩
def pR(P:Program)(code:AC→bH→St→Option (Out×bH×St)):Prop:=
 ∀ (ro:Option Nat) (n nt:Nat) (C:Code) (c:AC),iX P nt C=some c→∀ (A:bH) (S:St) (o:Out) (A':bH) (S':St),(A.inr=false→ro=none)→code c A S=some (o,A',S')→
  ∀ (lo:Nat) (σ:Env) (a:Act) (w:World) (Q:Exit→Act→World→Prop),a.tmps.size=nt→Df lo A.inr σ S w a.defers→lo≤w.heap.size→mK P σ A.F a.tmps→iI P σ S w→
   (∀σ' a' w',A'.inr=A.inr→a'.tmps.size=nt→Df lo A.inr σ' S' w' a'.defers→mK P σ' A'.F a'.tmps→fL P σ S w σ' S' w'→Q (aDU o) a' w')→C.wpIn (Fw ro) n P Q a w
def aDc(P:Program)(call:dZ):Prop:=
 ∀ (ro:Option Nat) (n nt id:Nat) (ops:Array Oper) (aos:List AO),aDw P nt ops=some (.drw aos)→∀ (σ:Env) (F F':Fr) (S S':St) (a:Act) (w:World) (Q:Exit→Act→World→Prop),
  a.tmps.size=nt→mK P σ F a.tmps→iI P σ S w→uJ aos call F S=some (F',S')→
  (∀σ' a' w',mK P σ' F' a'.tmps→a'.tmps.size=nt→a'.defers=a.defers→fL P σ S w σ' S' w'→Q .normal a' w')→(Code.region id ops true).wpIn (Fw ro) n P Q a w
structure aHi(P:Program)(fns:T dE)(id:Nat)(fn:dE):Prop where
 none:fn.ntmps=0
 has:∃Fn C,P.funcs[id]? =some Fn∧Fn.body=some C∧¬ (Fn.name== "runtime.NumGoroutine")=true
 ok:∀ (n:Nat) (S S':St) (v:AV),tU fn [] (ev fns n) S=some (v,S')→∀ (σ:Env) (w:World) (fv:Value),Rv P σ (.fn id [] []) fv→iI P σ S w→
  lL P (fun V w'=>∃σ',Rv P σ' v V∧fL P σ S w σ' S' w') ((do let d ←Deferred.ofValue fv ⟨[]⟩;invoke d.target d.args:Sem Next).run P w)
structure sH(P:Program)(fns:T dE):Prop where
 asked:vP P
 bits:kP P
 fn:∀id fn,fns.get id=some fn→(∃Fn,P.funcs[id]? =some Fn∧cFn P Fn=some fn)∨aHi P fns id fn
 drawn:∀call,jB P call→aDc P call
def aDd(tmps:Array Value)(r:ResultVar):Sem Value:=
 match r with
 | .tmp t=>pure (tmps.getD t undef)
 | .cell a t=>do loadVar t (←asAddr (tmps.getD a undef))
theorem lV{σ:Env}{S:St}{w:World}(hR:iI P σ S w){F:Fr}{tmps:Array Value}(hF:mK P σ F tmps):∀ {rs:List ResultVar} {rvs:List RV} {vs:List AV},aEX P rs=some rvs→results rvs F S.h=some vs→
  ∃Vs,(rs.mapM (aDd tmps)).run P w= .ok Vs w∧fJ P σ vs Vs
 | [],rvs,vs,hc,h=>by
  simp only[aEX,Aj] at hc;subst hc;simp only[results,Aj] at h;subst h;exact⟨[],rfl,cG.2 rfl⟩
 | .tmp t::rs,rvs,vs,hc,h=>by
  simp only[aEX,Ap] at hc;obtain⟨rvs',hc,rfl⟩:=hc;simp only[results] at h;obtain⟨vs',h1,h2⟩:=aL h;cases h2;obtain⟨Vs,h3,h4⟩:=lV hR hF hc h1;refine⟨tmps.getD t undef::Vs,?_,cF.2 ⟨_,_,rfl,hF.get t,h4⟩⟩;have hst:(aDd tmps (.tmp t)).run P w= .ok (tmps.getD t undef) w:=rfl;rw[List.mapM_cons];simp only[Sem.run_bind,hst,Sem.run_pure,Result.andThen_ok,h3]
 | .cell a t::rs,rvs,vs,hc,h=>by
  simp only[aEX] at hc;split at hc
  ·rename_i agg n rvs' hag hc';cases hc;simp only[results] at h;obtain⟨v,h0,h⟩:=aL h;obtain⟨vs',h1,h2⟩:=aL h;cases h2;obtain⟨Vs,h3,h4⟩:=lV hR hF hc' h1;have ha:=hF.get a;unfold aNy at h0;split at h0
   ·rename_i b off hb;rw[hb] at ha;simp only[Rv] at ha;obtain⟨L,hL,ha⟩:=ha;obtain⟨L',V,hL',h5,h6⟩:=tR hag hR h0;rw[hL] at hL';cases hL';refine⟨V::Vs,?_,cF.2 ⟨_,_,rfl,h6,h4⟩⟩;have hst:(aDd tmps (.cell a t)).run P w= .ok V w:=by simp [aDd,ha,asAddr,h5]
    rw[List.mapM_cons];simp only[Sem.run_bind,hst,Sem.run_pure,Result.andThen_ok,h3]
   ·cases h0
  ·cases hc
theorem aAD{σ:Env}{vs:List AV}{Vs:List Value}(h:fJ P σ vs Vs):Rv P σ (oneOf vs) (if h:Vs.toArray.size=1 then Vs.toArray[0] else .tuple Vs.toArray):=by
 cases vs with
 | nil=>
  rw[cG] at h;subst h;simp only[oneOf,Rv];exact⟨[],rfl,cG.2 rfl⟩
 | cons v vs=>
  cases vs with
  | nil=>
   rw[cF] at h;obtain⟨V,Ws,rfl,h1,h2⟩:=h;rw[cG] at h2;subst h2;simpa [oneOf] using h1
  | cons u us=>
   have hl:=h.length;rw[dif_neg (by simp;simp at hl;omega)];simp only[oneOf,Rv];exact⟨Vs,rfl,h⟩
theorem aCk:∀ (vs:List AV) (i:Nat) (F:Fr) (t:Nat),aD t (pB vs i F)=if i≤t∧t<i+vs.length then(vs[t - i]?).getD .undef else aD t F
 | [],i,F,t=>by rw[if_neg (by simp)];rfl
 | v::vs,i,F,t=>by
  simp only[pB];rw[aCk vs (i+1) _ t,uA];by_cases h1:t=i
  ·subst h1;rw[if_neg (by omega),if_pos rfl,if_pos (by simp)];simp
  ·by_cases h2:i+1≤t∧t<i+1+vs.length
   ·rw[if_pos h2,if_pos (by simp;omega),show t - i=(t - (i+1))+1 by omega];simp
   ·rw[if_neg h2,if_neg h1,if_neg (by simp;omega)]
theorem aCp{σ:Env}{args:List AV}{Args:List Value}(h:fJ P σ args Args){nt:Nat}(hn:args.length≤nt):
  mK P σ (pB args 0 .e) ((⟨Args⟩:Array Value)++Array.replicate (nt - Args.length) undef)∧((⟨Args⟩:Array Value)++Array.replicate (nt - Args.length) undef).size=nt:=by
 have hl:=h.length;have hund:Rv P σ .undef undef:=by simp only[AV.undef,undef,Rv];exact⟨[],rfl,cG.2 rfl⟩
 refine⟨⟨fun t=>?_⟩,by simp;omega⟩;rw[aCk];by_cases ht:t<args.length
 ·rw[if_pos ⟨Cj _,by omega⟩,Fc,Ac ht];obtain⟨V,h1,h2⟩:=h.get (Ac ht);rw[Be,Array.getElem?_append_left (by simp;omega)];simp only[List.getElem?_toArray,h1,Option.getD_some];exact h2
 ·rw[if_neg (by omega)];have:((⟨Args⟩:Array Value)++Array.replicate (nt - Args.length) undef).getD t undef=undef:=by
   rw[Be,Array.getElem?_append_right (by simp;omega)];simp only[Array.getElem?_replicate];split<;>rfl
  rw[this];exact hund
theorem aEb:Fw none=Fence.wide:=rfl
theorem aKZ(l:Nat):Fw (some l)=Fence.wide.inRound l:=rfl
theorem oV{w:World}{r:Nat}{o:Obj}(o':Obj)(h:w.heap[r]? =some o):({w with heap:=w.heap.setIfInBounds r o'}:World).heap[r]? =some o':=by
 have:=(Cp.1 h).1;simp [this]
theorem iZ{w:World}{r r':Nat}(o':Obj)(h:r'≠r):({w with heap:=w.heap.setIfInBounds r o'}:World).heap[r']? =w.heap[r']? :=by
 simp [Co h]
theorem run_getLoop{w:World}{r:Nat}{lp:Loop}(h:w.heap[r]? =some (.loop lp)):(Instr.getLoop r).run P w= .ok lp w:=by
 simp [Instr.getLoop,wI h (fun _ _ _ e=>by cases e)]
theorem fL.poke{σ0 σ:Env}{S0 S:St}{w0 w w':World}(h:fL P σ0 S0 w0 σ S w){r:Nat}(hr:w0.heap.size≤r)(off:∀b bl L,S.h.get b=some bl→σ b=some L→L.r≠r)
  (hh:∀r',r'≠r→w'.heap[r']? =w.heap[r']?) (hsz:w'.heap.size=w.heap.size) (ho:w'.os=w.os) (ht:w'.tape=w.tape) (hu:w'.output=w.output):fL P σ0 S0 w0 σ S w' where
 rep:=⟨fun b bl hb=>by
  obtain⟨L,h1,h2,h3⟩:=h.rep.blk b bl hb;exact⟨L,h1,by omega,h3.frame (fun _ _ x=>x) (hh _ (off b bl L hb h1))⟩,h.rep.lt,h.rep.fresh,h.rep.glob,h.rep.inj⟩
 low:=h.low
 nx:=h.nx
 keep:=fun r' h1 h2=>by rw[hh r' (by omega)];exact h.keep r' h1 h2
 own:=h.own
 size:=by rw[hsz];exact h.size
 os:=ho.trans h.os
 tape:=ht.trans h.tape
 output:=hu.trans h.output
 ro:=h.ro
theorem leaves{fn:Func}{n:Nat}{tmps:Array Value}{R:Ending→World→Prop}{σ0 σ:Env}{S0 S:St}{w0:World}:∀ (rs:List Nat) (w:World),rs.Nodup→(∀r∈rs,Mark w0.heap.size σ S w r)→fL P σ0 S0 w0 σ S w→
  (∀w',fL P σ0 S0 w0 σ S w'→∃v,(Go.results fn tmps).run P w'= .ok v w'∧R (.returned v) w')→LeavesInM Fence.wide n P fn tmps R (rs.map aAk) .returning w
 | [],w,_,_,he,hQ=>hQ w he
 | r::rs,w,hn,hm,he,hQ=>by
  have hr:=hm r (by simp);rw[List.nodup_cons] at hn;refine⟨by simp,.inl ⟨r,{w with heap:=w.heap.setIfInBounds r (.deferred none)},rfl,?_,?_⟩⟩
  ·simp only[Instr.takeDeferred,Sem.run_bind,wI hr.cell (fun _ _ _ e=>by cases e),Result.andThen_ok,lM hr.cell (fun _ _ _ e=>by cases e),Sem.run_pure]
  ·refine leaves rs _ hn.2 (fun r' hr'=>?_) (he.poke hr.low hr.off (fun r' h=>iZ _ h) (by simp) rfl rfl rfl) hQ;have h1:=hm r' (by simp [hr']);have hne:r'≠r:=fun e=>hn.1 (e ▸ hr');exact⟨h1.low,by simpa using h1.lt,by rw[iZ _ hne];exact h1.cell,h1.off⟩
theorem jY{id:Nat}{Fn:Func}{C:Code}{A B Args:List Value}{w:World}(hFn:P.funcs[id]? =some Fn)(hbody:Fn.body=some C)(hname:¬ (Fn.name== "runtime.NumGoroutine")=true):
  ((do let d ←Deferred.ofValue (.func (.func id) ⟨A⟩ ⟨B⟩) ⟨Args⟩;invoke d.target d.args:Sem Next)).run P w= .ok (.enter id ⟨A++(Args++B)⟩) w:=by
 simp only[Deferred.ofValue,Sem.run_bind,Sem.run_pure,Result.andThen_ok,invoke,callFunc,run_program,hFn];rw[if_neg hname];simp [hbody]
theorem aCn{Fn:Func}{fn:dE}(hc:cFn P Fn=some fn):∃C c rs,Fn.body=some C∧¬ (Fn.name== "runtime.NumGoroutine")=true∧iX P Fn.ntmps C=some c∧aEX P Fn.results.toList=some rs∧fn=⟨Fn.ntmps,rs,c⟩:=by
 unfold cFn at hc;rw[Bb] at hc;split at hc
 ·cases hc
 ·rename_i hname;split at hc
  ·rename_i C hbody;split at hc
   ·rename_i c rs hC hrs;cases hc;exact⟨C,c,rs,hbody,hname,hC,hrs,rfl⟩
   ·cases hc
  ·cases hc
theorem sM{σ:Env}:∀ {ps:List Nat} {args:List AV} {Args:List Value} {F F':Fr} {tmps:Array Value},nQ ps args F=some F'→fJ P σ args Args→mK P σ F tmps→(∀p∈ps,p<tmps.size)→
  args.length=ps.length∧mK P σ F' ((ps.zip Args).foldl (fun tmps (t,a)=>tmps.setIfInBounds t a) tmps)∧((ps.zip Args).foldl (fun tmps (t,a)=>tmps.setIfInBounds t a) tmps).size=tmps.size
 | [],[],Args,F,F',tmps,h,ha,hF,_=>by
  simp only[nQ,Aj] at h;subst h;exact⟨rfl,by simpa using hF,by simp⟩
 | [],_::_,Args,F,F',tmps,h,ha,hF,_=>by simp [nQ] at h
 | _::_,[],Args,F,F',tmps,h,ha,hF,_=>by simp [nQ] at h
 | p::ps,v::vs,Args,F,F',tmps,h,ha,hF,hp=>by
  rw[cF] at ha;obtain⟨V,Ws,rfl,hv,ha⟩:=ha;simp only[nQ] at h;have hlt:=hp p (by simp);have hF1:mK P σ (F.set p (some v)) (tmps.setIfInBounds p V):=⟨fun t=>by
   rw[uA];by_cases ht:t=p
   ·subst ht;rw[if_pos rfl,Be,Array.getElem?_setIfInBounds_self_of_lt hlt];exact hv
   ·rw[if_neg ht,Be,Array.getElem?_setIfInBounds_ne (Co ht),←Be];exact hF.get t⟩
  obtain⟨h1,h2,h3⟩:=sM h ha hF1 (fun q hq=>by simpa using hp q (by simp [hq]));exact⟨by simp [h1],by simpa using h2,by simpa using h3⟩
theorem aFk{ih:Evs}(hcode:pR P ih.code){bl:AB}{b:Nat}{args:List AV}{S S':St}{v:AV}(hb:S.h.get b=some bl)(h:zR bl b args ih S=some (v,S')){σ:Env}{w:World}{L:Loc}{Args:List Value}
  (hL:σ b=some L) (hargs:fJ P σ args Args) (hR:iI P σ S w):
  lL P (fun V w'=>∃σ',Rv P σ' v V∧fL P σ S w σ' S' w') ((Instr.yield L.r ⟨Args⟩).run P w):=by
 cases bl<;>simp only[zR,reduceCtorEq] at h;rename_i st pend fr ps as bd;cases st<;>simp only[reduceCtorEq] at h;obtain⟨F,hF,h⟩:=aL h;obtain⟨⟨o1,A1,S1⟩,h1,h⟩:=aL h;obtain⟨L',hL',hlt,lp,hlp,hst,hpend,hfr,hps,has,hbd,hpb⟩:=hR.blk b _ hb;rw[hL] at hL';cases hL';obtain⟨hlen,hfr',hsz⟩:=sM hF hargs hfr hpb;have hAl:=hargs.length;have hpl:lp.params.size=ps.length:=by rw[←hps];simp
 have hrun:(Instr.yield L.r ⟨Args⟩).run P w= .ok (.round L.r lp.fn ((ps.zip Args).foldl (fun tmps (t,a)=>tmps.setIfInBounds t a) lp.tmps) lp.assign lp.body) w:=by
  have hsz':(⟨Args⟩:Array Value).size=lp.params.size:=by simp;omega
  have hfold:(lp.params.zip ⟨Args⟩).foldl (fun tmps (t,a)=>tmps.setIfInBounds t a) lp.tmps=(ps.zip Args).foldl (fun tmps (t,a)=>tmps.setIfInBounds t a) lp.tmps:=by
   rw[←Array.foldl_toList,Array.toList_zip,hps]
  simp only[Instr.yield,Sem.run_bind,run_getLoop hlp,Result.andThen_ok,hsz',ne_eq,Ct,De,Sem.run_pure,hfold]
 rw[hrun];show RoundIn Fence.wide 0 P L.r lp.fn _ lp.assign lp.body w _;refine roundIn_of_wpIn trivial ?_;rw[←aKZ];refine hcode (some L.r) 0 lp.tmps.size lp.assign as has ⟨F,true⟩ S o1 A1 S1 (fun h=>by cases h) h1 w.heap.size σ {tmps:=(ps.zip Args).foldl (fun tmps (t,a)=>tmps.setIfInBounds t a) lp.tmps,defers:=[]} w _ hsz Df.nil (Ah _) hfr' hR ?_;intro σ1 a1 w1 i1 s1 d1 f1 e1;cases o1<;>simp only[aDv,reduceCtorEq] at h;obtain⟨bl1,hb1,h⟩:=aL h;cases bl1<;>simp only[tB,reduceCtorEq] at h;rename_i st1 pend1 fr1 ps1 as1 bd1;cases st1<;>simp only[reduceCtorEq] at h;obtain⟨⟨o2,A2,S2⟩,h2,h⟩:=aL h;obtain⟨bl2,hb2,h⟩:=aL h;obtain⟨L1,hL1,hlt1,lp1,hlp1,hst1,hpend1,hfr1,hps1,has1,hbd1,hpb1⟩:=e1.rep.blk b _ hb1;have:=e1.mono hR b L hL;rw[this] at hL1;cases hL1;have hbeg:(Instr.beginRound L.r).run P w1= .ok () {w1 with heap:=w1.heap.setIfInBounds L.r (.loop {lp1 with state:=.busy})}:=by
  simp only[Instr.beginRound,Sem.run_bind,run_getLoop hlp1,Result.andThen_ok,lM hlp1 (fun _ _ _ e=>by cases e),hst1,aKx,Sem.run_pure]
 refine⟨_,hbeg,?_⟩;have e2:fL P σ1 S1 w1 σ1 ⟨S1.h.set b (some (.loop .busy pend1 fr1 ps1 as1 bd1)),S1.nx⟩ {w1 with heap:=w1.heap.setIfInBounds L.r (.loop {lp1 with state:=.busy})}:=
  fL.write e1.rep hb1 trivial trivial this (fun r hr=>iZ _ hr) (by simp) rfl rfl rfl ⟨_,oV _ hlp1,rfl,hpend1,hfr1,hps1,has1,hbd1,hpb1⟩
 have i1':A1.inr=true:=i1;have h2':ih.code bd A1 ⟨S1.h.set b (some (.loop .busy pend1 fr1 ps1 as1 bd1)),S1.nx⟩=some (o2,A2,S2):=h2;have d1':Df w.heap.size A1.inr σ1 S1 w1 a1.defers:=by rw[i1];exact d1
 refine hcode (some L.r) 0 lp.tmps.size lp.body bd hbd A1 _ o2 A2 S2 (fun h=>by rw[i1'] at h;cases h) h2' w.heap.size σ1 a1 _ _ s1 (d1'.ext e1.rep e2) (by have:=e1.size;simpa using this) f1 e2.rep ?_;intro σ2 a2 w2 i2 s2 d2 f2 e3;cases bl2<;>simp only[aCS,reduceCtorEq] at h;rename_i st2 pend2 fr2 ps2 as2 bd2;cases st2<;>simp only[reduceCtorEq] at h;obtain⟨L2,hL2,hlt2,lp2,hlp2,hst2,hpend2,hfr2,hps2,has2,hbd2,hpb2⟩:=e3.rep.blk b _ hb2;have hL2':=e3.mono e2.rep b L this;rw[hL2'] at hL2;cases hL2;have fin:∀ (p:Option Out) (st:LSt) (j:Option Code) (bb:Bool),aKx st=(if j.isNone then .ready else .done)→p.bind codeOf=j→bb=j.isNone→v= .bool bb→
   S'=⟨S2.h.set b (some (.loop st p fr2 ps2 as2 bd2)),S2.nx⟩→∃V w',(Instr.endRound L.r j).run P w2= .ok V w'∧∃σ',Rv P σ' v V∧fL P σ S w σ' S' w':=by
  intro p st j bb e1' e2' e3' e4' e5';have hend:(Instr.endRound L.r j).run P w2= .ok (.bool j.isNone) {w2 with heap:=w2.heap.setIfInBounds L.r (.loop {lp2 with state:=if j.isNone then .ready else .done,pending:=j})}:=by
   simp only[Instr.endRound,Sem.run_bind,run_getLoop hlp2,Result.andThen_ok,lM hlp2 (fun _ _ _ e=>by cases e),Sem.run_pure]
  refine⟨_,_,hend,σ2,by rw[e4',e3'];simp only[Rv],?_⟩;rw[e5'];exact e1.trans (e2.trans (e3.trans (fL.write e3.rep hb2 trivial trivial hL2' (fun r hr=>iZ _ hr) (by simp) rfl rfl rfl ⟨_,oV _ hlp2,e1'.symm,e2'.symm,hfr2,hps2,has2,hbd2,hpb2⟩)))
 cases o2 with
 | normal=>cases h;exact fin none .ready none true rfl rfl rfl rfl rfl
 | ret=>cases h;exact fin (some .ret) .done (some .ret) false rfl rfl rfl rfl rfl
 | exit id=>cases h;exact fin (some (.exit id)) .done (some (.exit id)) false rfl rfl rfl rfl rfl
theorem aBb{fns:T dE}(hK:sH P fns){n:Nat}(hcode:pR P (ev fns n).code):jB P (sN fns (ev fns n)):=by
 intro f args S v S' h σ w fv Args hf hargs hR;cases f<;>simp only[sN,reduceCtorEq] at h
 ·rename_i id first cap;obtain⟨fn,hfn,h⟩:=aL h;rcases hK.fn id fn hfn with⟨Fn,hFn,hc⟩ | hfk
  case inr=>
   obtain⟨hle,_⟩:=bK (show bL (Nat.ble (jN (vD first (vD args cap))) fn.ntmps) _ _=_ from h);rw[hfk.none,dV,fK,fK] at hle;have hz:=Aw hle;simp only[Ak] at hz;have h1:first= []:=Cg.1 (by omega);have h2:args= []:=Cg.1 (by omega);have h3:cap= []:=Cg.1 (by omega);subst h1;subst h2;subst h3;have hA:=cG.1 hargs;subst hA;exact hfk.ok n S S' v h σ w fv hf hR
  simp only[Rv] at hf;obtain⟨A,B,rfl,hA,hB⟩:=hf;obtain⟨C,c,rs,hbody,hname,hC,hrs,rfl⟩:=aCn hc;unfold tU at h;obtain⟨hle,h⟩:=bK h;obtain⟨⟨o,A',S1⟩,h1,h2⟩:=aL h;rw[dV,fK,fK] at hle;have hle:=Aw hle;rw[fK,fK] at h1;have hall:fJ P σ (first++(args++cap)) (A++(Args++B)):=hA.append (hargs.append hB);rw[jY hFn hbody hname];show CallsIn Fence.wide 0 P id ⟨A++(Args++B)⟩ w _;obtain⟨hfr,hsz⟩:=aCp hall (nt:=Fn.ntmps) hle;refine callsIn_of_wp_marks hFn hbody trivial ?_;have hsz0:(⟨A++(Args++B)⟩:Array Value).size=(A++(Args++B)).length:=rfl;rw[←aEb,hsz0];refine hcode none 0 Fn.ntmps C c hC ⟨pB (first++(args++cap)) 0 .e,false⟩ S o A' S1 (fun _=>rfl) h1 w.heap.size σ _ w _ hsz Df.nil (Ah _) hfr hR ?_;intro σ' a' w' hinr hsz' hdf hfr' hext;obtain⟨_,rks,hd,hnd,hmk⟩:=hdf;unfold aDL at h2;obtain⟨vs,h6,h7⟩:∃vs,results rs A'.F S1.h=some vs∧some (oneOf vs,S1)=some (v,S'):=by
   cases o with
   | normal=>exact aL h2
   | ret=>exact aL h2
   | exit i=>cases h2
  cases h7;have fin:∀w'',fL P σ S w σ' S' w''→∃V,(Go.results Fn a'.tmps).run P w''= .ok V w''∧∃σ',Rv P σ' (oneOf vs) V∧fL P σ S w σ' S' w'':=fun w'' hx=>by
   obtain⟨Vs,h8,h9⟩:=lV hx.rep hfr' hrs h6;refine⟨_,?_,σ',aAD h9,hx⟩;show((do let vs ←Fn.results.mapM (aDd a'.tmps);pure (if h:vs.size=1 then vs[0] else .tuple vs):Sem Value)).run P w''=_;rw[Array.mapM_eq_mapM_toList];simp only[Sem.run_bind,Sem.run_map,h8,Result.andThen_ok,Sem.run_pure]
  cases o with
  | normal=>
   show LeavesInM Fence.wide 0 P Fn a'.tmps _ a'.defers .returning w';rw[hd];exact leaves rks w' hnd hmk hext fin
  | ret=>
   show LeavesInM Fence.wide 0 P Fn a'.tmps _ a'.defers .returning w';rw[hd];exact leaves rks w' hnd hmk hext fin
  | exit i=>cases h2
 ·rename_i b;obtain⟨bl,hb,h⟩:=aL h;simp only[Rv] at hf;obtain⟨L,hL,rfl⟩:=hf;have hrun:((do let d ←Deferred.ofValue (.func (.yield L.r) #[] #[]) ⟨Args⟩;invoke d.target d.args:Sem Next)).run P w=(Instr.yield L.r ⟨Args⟩).run P w:=by
   simp [Deferred.ofValue,invoke]
  rw[hrun];exact aFk hcode hb h hL hargs hR
theorem aBC{fns:T dE}{ro:Option Nat}{m nt:Nat}{C:Code}{c:AC}(hC:iX P nt C=some c):∀ (n:Nat),(∀k,k<n→pR P (ev fns k).code)→
  ∀ (A:bH) (S:St) (o:Out) (A':bH) (S':St),(A.inr=false→ro=none)→(ev fns n).code (.loop c) A S=some (o,A',S')→
  ∀ (lo:Nat) (σ:Env) (a:Act) (w:World) (Q:Exit→Act→World→Prop),a.tmps.size=nt→Df lo A.inr σ S w a.defers→lo≤w.heap.size→mK P σ A.F a.tmps→iI P σ S w→
   (∀σ' a' w',A'.inr=A.inr→a'.tmps.size=nt→Df lo A.inr σ' S' w' a'.defers→mK P σ' A'.F a'.tmps→fL P σ S w σ' S' w'→Q (aDU o) a' w')→Code.roundsIn (Fw ro) m P C Q n a w
 | 0,_,A,S,o,A',S',_,h=>by cases h
 | n+1,hk,A,S,o,A',S',hds,h=>by
  intro lo σ a w Q hsz hdef hlo hF hR hQ;obtain⟨⟨o1,A1,S1⟩,h1,h2⟩:=aL (show(aZ ((ev fns n).code c A S) (pN (.loop c) (ev fns n)))=some (o,A',S') from h);show C.wpIn (Fw ro) m P (Exit.then (Code.roundsIn (Fw ro) m P C Q n) Q) a w;refine hk n (Dy n) ro m nt C c hC A S o1 A1 S1 hds h1 lo σ a w _ hsz hdef hlo hF hR ?_;intro σ1 a1 w1 i1 s1 d1 f1 e1;obtain⟨F1,q1⟩:=A1;simp only at i1;subst i1;have l1:=Ay hlo e1.size;unfold pN at h2;cases o1 with
  | normal=>exact aBC hC n (fun k hlt=>hk k (by omega)) ⟨F1,A.inr⟩ S1 o A' S' hds h2 lo σ1 a1 w1 Q s1 d1 l1 f1 e1.rep (fun σ' a' w' q1 q2 q3 q4 q5=>hQ σ' a' w' q1 q2 q3 q4 (e1.trans q5))
  | exit i=>cases h2;exact hQ σ1 a1 w1 rfl s1 d1 f1 e1
  | ret=>cases h2;exact hQ σ1 a1 w1 rfl s1 d1 f1 e1
theorem aH6{fns:T dE}(hK:sH P fns){n:Nat}(ih:pR P (ev fns n).code)(hcall:jB P (ev fns n).call)(_:∀k,n=k+1→pR P (ev fns k).code){ro:Option Nat}{m nt:Nat}
  {f:Operand} {ps:Array Tmp} {x y:Code} {cf:cJ} {cx cy:AC} (hf:dU P f=some cf) (hx:iX P nt x=some cx) (hy:iX P nt y=some cy) (hps:ps.toList.all (fun p=>Nat.blt p nt)=true)
  {A A':bH} {S S':St} {o:Out} (hro:A.inr=false→ro=none) (h:(ev fns (n+1)).code (.rng cf ps.toList cx cy) A S=some (o,A',S'))
  {lo:Nat} {σ:Env} {a:Act} {w:World} {Q:Exit→Act→World→Prop} (hsz:a.tmps.size=nt) (hdef:Df lo A.inr σ S w a.defers) (hlo:lo≤w.heap.size) (hF:mK P σ A.F a.tmps) (hR:iI P σ S w)
  (hQ:∀σ' a' w',A'.inr=A.inr→a'.tmps.size=nt→Df lo A.inr σ' S' w' a'.defers→mK P σ' A'.F a'.tmps→fL P σ S w σ' S' w'→Q (aDU o) a' w'):(Code.rangeFunc f ps x y).wpIn (Fw ro) m P Q a w:=by
 have h:bL A.inr none (bL (aMH (cf.val A.F))
  (aZ ((ev fns n).call (cf.val A.F) [.yld S.nx] ⟨S.h.set S.nx (some (.loop .ready none A.F ps.toList cx cy)),Nat.succ S.nx⟩) fun r=>
   aZ (r.2.h.get S.nx) fun bl=>aD3 bl S.nx A r.2 (ev fns n)) none)=some (o,A',S'):=h
 cases hinr:A.inr with
 | true=>rw[hinr,aQ] at h;cases h
 | false=>
  rw[hinr,aV] at h;have:=hro hinr;subst this;obtain⟨hfn,h⟩:=bK h;obtain⟨⟨v1,S1⟩,h1,h⟩:=aL h;obtain⟨bl,hbl,h⟩:=aL h;simp only at hbl h;have hfv:=bD (a:=a) hF hR hf;cases hcf:cf.val A.F<;>rw[hcf] at hfn<;>simp only[aMH,Ar] at hfn;rename_i id first cap;rw[hcf] at hfv h1;have hfv':=hfv;simp only[Rv] at hfv;obtain⟨FA,FB,hev,hA,hB⟩:=hfv;have hent:∃Fn C,P.funcs[id]? =some Fn∧Fn.body=some C∧¬ (Fn.name== "runtime.NumGoroutine")=true:=by
   cases n with
   | zero=>cases h1
   | succ k=>
    have h1':sN fns (ev fns k) (.fn id first cap) [.yld S.nx] _=some (v1,S1):=h1;simp only[sN] at h1';obtain⟨fn,hfn',_⟩:=aL h1';rcases hK.fn id fn hfn' with⟨Fn,hFn,hc⟩ | hfk
    ·obtain⟨C,c,rs,hbody,hname,_⟩:=aCn hc;exact⟨Fn,C,hFn,hbody,hname⟩
    ·exact hfk.has
  obtain⟨Fn,C,hFn,hbody,hname⟩:=hent;rw[aEb];refine wpIn_rangeFunc fun fnid _=>?_;have ep:fL P σ S w σ S (w.alloc (.deferred (some []))):=by
   have hpush:∀r,r<w.heap.size→(w.alloc (.deferred (some []))).heap[r]? =w.heap[r]? :=fun r hr=>by
    show(w.heap.push _)[r]? =_;rw[Ex,if_neg (by omega)]
   have hsize:(w.alloc (.deferred (some []))).heap.size=w.heap.size+1:=by show(w.heap.push _).size=_;simp
   exact⟨⟨fun b bl hb=>by
    obtain⟨L,q1,q2,q3⟩:=hR.blk b bl hb;exact⟨L,q1,by omega,q3.frame (fun _ _ x=>x) (hpush _ q2)⟩,hR.lt,hR.fresh,hR.glob,hR.inj⟩,fun _ _=>rfl,Ah _,fun r hr _=>hpush r hr,fun _ ho=>.inl ho,by omega,rfl,rfl,rfl,fun _ _ hb=>hb⟩
  have hsize1:(w.alloc (.deferred (some []))).heap.size=w.heap.size+1:=by show(w.heap.push _).size=_;simp
  have hmk:Mark lo σ S (w.alloc (.deferred (some []))) w.heap.size:=by
   refine⟨hlo,by omega,?_,fun b bl L hb hL he=>?_⟩
   ·show(w.heap.push _)[w.heap.size]? =_;simp
   ·obtain⟨L',q1,q2,_⟩:=hR.blk b bl hb;rw[hL] at q1;cases q1;omega
  let lp:Loop:={state:=.ready,pending:=none,fn:=fnid,tmps:=a.tmps,params:=ps,assign:=x,body:=y,defers:=w.heap.size}
  have ea:fL P σ S (w.alloc (.deferred (some []))) (upd σ S.nx ⟨w.heap.size+1,0,0⟩) ⟨S.h.set S.nx (some (.loop .ready none A.F ps.toList cx cy)),Nat.succ S.nx⟩ ((w.alloc (.deferred (some []))).alloc (.loop lp)):=by
   have:=fL.alloc (P:=P) (bl:=.loop .ready none A.F ps.toList cx cy) (e:=0) (ob:=.loop lp) ep.rep (w':=(w.alloc (.deferred (some []))).alloc (.loop lp)) rfl rfl rfl rfl;rw[hsize1] at this;refine this ?_ trivial;refine⟨lp,?_,rfl,rfl,hF.mono (eT (hR.fresh _ (Ah _))),rfl,by rw[←hsz] at hx;exact hx,by rw[←hsz] at hy;exact hy,fun p hp=>?_⟩
   ·show((w.alloc (.deferred (some []))).heap.push (.loop lp))[w.heap.size+1]? =some (.loop lp);rw[←hsize1,Array.getElem?_push_size]
   ·have:=Dk.1 hps p hp;have:=Aw (show Nat.ble (p+1) nt=true from this);show p<a.tmps.size;omega
  have hsl:upd σ S.nx ⟨w.heap.size+1,0,0⟩ S.nx=some ⟨w.heap.size+1,0,0⟩:=upd_same _ _;have e2:=ep.trans ea;have hnext:=hcall (.fn id first cap) [.yld S.nx] _ v1 S1 h1 _ _ (.func (.func id) ⟨FA⟩ ⟨FB⟩) [.func (.yield (w.heap.size+1)) #[] #[]]
   (by rw[hev] at hfv';exact hfv'.mono (e2.mono hR)) (cF.2 ⟨_,_,rfl,by simp only[Rv];exact⟨_,hsl,rfl⟩,cG.2 rfl⟩) e2.rep
  rw[jY hFn hbody hname] at hnext;have hnext:CallsIn Fence.wide 0 P id _ _ _:=hnext;refine⟨w.heap.size+1,[aAk w.heap.size],(w.alloc (.deferred (some []))).alloc (.loop lp),{target:=.fn (.func id) ⟨FB⟩,args:=⟨FA⟩++ #[.func (.yield (w.heap.size+1)) #[] #[]]},(w.alloc (.deferred (some []))).alloc (.loop lp),id,
   ⟨FA++([.func (.yield (w.heap.size+1)) #[] #[]]++FB)⟩,(w.alloc (.deferred (some []))).alloc (.loop lp),?_,?_,fun _ _=>trivial,?_,fun hd=>by simp [Fence.wide] at hd,?_⟩
  ·have n1:∀ (o:Obj) (w:World),(newObj o).run P w= .ok w.heap.size (w.alloc o):=fun _ _=>rfl;simp only[Instr.enterLoop,Fence.wide,Sem.run_bind,n1,Result.andThen_ok,Sem.run_pure,hsize1];rfl
  ·show(Deferred.ofValue (a.eval f) _).run P _=_;rw[hev];simp [Deferred.ofValue,rangeCall,Act.eval]
  ·have:=jY (P:=P) (A:=FA) (B:=FB) (Args:=[.func (.yield (w.heap.size+1)) #[] #[]]) (w:=(w.alloc (.deferred (some []))).alloc (.loop lp)) hFn hbody hname;simpa [Deferred.ofValue] using this
  ·refine aAP (ro:=none) (CallsIn.mono hnext fun e w3 he=>?_);cases e with
   | returned V=>
    obtain⟨σ3,_,e3⟩:=he;have e13:=e2.trans e3;unfold aD3 at h;split at h
    ·rename_i st pend fr ps' as bd;obtain⟨L,hL,hlt,lp3,hlp3,hst,hpend,hfr,hps3,has,hbd,hpb⟩:=e3.rep.blk S.nx _ hbl;have hL':=e3.mono e2.rep _ _ hsl;rw[hL'] at hL;cases hL;have hnb:(lp3.state== .busy)=false:=by
      rw[hst];cases st<;>first | (simp at h;done) | rfl
     have hpost:∃c,aNC pend=some c∧(ev fns n).code c A ⟨S1.h.set S.nx (some (.loop .exhausted pend fr ps' as bd)),S1.nx⟩=some (o,A',S'):=by
      cases st<;>first | (simp at h;done) | exact aL h
     obtain⟨c,hc,hcode⟩:=hpost;obtain⟨w4,hw4⟩:∃w4:World,w4= {w3 with heap:=w3.heap.setIfInBounds (w.heap.size+1) (.loop {lp3 with state:=.exhausted})}:=⟨_,rfl⟩;refine⟨lp3.pending,w4,?_,?_⟩
     ·rw[hw4];simp only[Instr.endLoop,Sem.run_bind,run_getLoop hlp3,Result.andThen_ok,hnb,Ar,De,lM hlp3 (fun _ _ _ e=>by cases e),Sem.run_pure]
     ·have e4:fL P σ3 S1 w3 σ3 ⟨S1.h.set S.nx (some (.loop .exhausted pend fr ps' as bd)),S1.nx⟩ {w3 with heap:=w3.heap.setIfInBounds (w.heap.size+1) (.loop {lp3 with state:=.exhausted})}:=
       fL.write e3.rep hbl trivial trivial hL' (fun r hr=>iZ _ hr) (by simp) rfl rfl rfl ⟨_,oV _ hlp3,rfl,hpend,hfr,hps3,has,hbd,hpb⟩
      rw[←hw4] at e4;have e14:=e13.trans e4;have hd4:Df lo A.inr σ3 ⟨S1.h.set S.nx (some (.loop .exhausted pend fr ps' as bd)),S1.nx⟩ w4 ([aAk w.heap.size]++a.defers):=by
       obtain⟨_,rs,d1,d2,d3⟩:=hdef;refine⟨fun hh=>(by rw[hinr] at hh;cases hh),w.heap.size::rs,(by rw[d1];rfl),List.nodup_cons.2 ⟨fun hm=>?_,d2⟩,fun r hr=>?_⟩
       ·exact absurd (d3 _ hm).lt (by omega)
       ·rcases Bg.1 hr with rfl | hr
        ·exact(hmk.ext ep.rep (ea.trans (e3.trans e4)))
        ·exact(d3 r hr).ext hR e14
      have hfin:=ih none m nt;have hA4:mK P σ3 A.F a.tmps:=hF.mono (e14.mono hR);have hlo4:=Ay hlo e14.size;rw[hpend];cases pend with
      | none=>
       cases hc;cases n with
       | zero=>cases hcode
       | succ k=>
        cases hcode;exact hQ σ3 _ _ rfl hsz hd4 hA4 e14
      | some out=>
       cases out with
       | normal=>cases hc
       | ret=>
        cases hc;exact hfin .ret .ret rfl A _ o A' S' (fun _=>rfl) hcode lo σ3 {a with defers:=[aAk w.heap.size]++a.defers} _ Q hsz hd4 hlo4 hA4 e4.rep (fun σ' a' w' q1 q2 q3 q4 q5=>hQ σ' a' w' q1 q2 q3 q4 (e14.trans q5))
       | exit i=>
        cases hc;exact hfin (.exit i) (.exit i) rfl A _ o A' S' (fun _=>rfl) hcode lo σ3 {a with defers:=[aAk w.heap.size]++a.defers} _ Q hsz hd4 hlo4 hA4 e4.rep (fun σ' a' w' q1 q2 q3 q4 q5=>hQ σ' a' w' q1 q2 q3 q4 (e14.trans q5))
    ·cases h
   | _=>exact he.elim
theorem aBR{fns:T dE}(hK:sH P fns):∀n,pR P (ev fns n).code:=by
 intro n
 induction n using Nat.strongRecOn with
 | _ n ihn=>
  cases n with
  | zero=>intro ro m nt C c hC A S o A' S' hds h;cases h
  | succ n=>
   have ih:=ihn n (Dy n);have hcall:jB P (ev fns n).call:=by
    cases n with
    | zero=>intro f args S v S' h;cases h
    | succ k=>exact aBb hK (ihn k (by omega))
   intro ro m nt C c hC A S o A' S' hds h lo σ a w Q hsz hdef hlo hF hR hQ;cases C with
   | skip=>
    cases hC;cases h;exact wpIn_skip (hQ σ a w rfl hsz hdef hF (fL.refl hR))
   | seq x y=>
    simp only[iX] at hC;split at hC
    ·rename_i cx cy hx hy;cases hC;obtain⟨⟨o1,A1,S1⟩,h1,h2⟩:=aL (show(aZ ((ev fns n).code cx A S) (pN cy (ev fns n)))=some (o,A',S') from h);refine wpIn_seq (ih ro m nt x cx hx A S o1 A1 S1 hds h1 lo σ a w _ hsz hdef hlo hF hR ?_);intro σ1 a1 w1 i1 s1 d1 f1 e1;obtain⟨F1,q1⟩:=A1;simp only at i1;subst i1;have l1:=Ay hlo e1.size;unfold pN at h2;cases o1 with
     | normal=>exact ih ro m nt y cy hy ⟨F1,A.inr⟩ S1 o A' S' hds h2 lo σ1 a1 w1 Q s1 d1 l1 f1 e1.rep (fun σ' a' w' q1 q2 q3 q4 q5=>hQ σ' a' w' q1 q2 q3 q4 (e1.trans q5))
     | exit i=>cases h2;exact hQ σ1 a1 w1 rfl s1 d1 f1 e1
     | ret=>cases h2;exact hQ σ1 a1 w1 rfl s1 d1 f1 e1
    ·cases hC
   | cond x y z=>
    simp only[iX] at hC;split at hC
    ·rename_i cc cy cz hx hy hz;cases hC;have h:aAm (cc.val A.F) cy cz (ev fns n) A S=some (o,A',S'):=h;have hv:=bD (a:=a) hF hR hx;unfold aAm at h;split at h
     ·rename_i t ht;rw[ht] at hv;simp only[Rv] at hv;refine wpIn_cond hv ?_;cases t
      ·exact ih ro m nt z cz hz A S o A' S' hds h lo σ a w Q hsz hdef hlo hF hR hQ
      ·exact ih ro m nt y cy hy A S o A' S' hds h lo σ a w Q hsz hdef hlo hF hR hQ
     ·cases h
    ·cases hC
   | block id x=>
    simp only[iX,Ap] at hC;obtain⟨cx,hx,rfl⟩:=hC;obtain⟨⟨o1,A1,S1⟩,h1,h2⟩:=aL (show(aZ ((ev fns n).code cx A S) (pE id))=some (o,A',S') from h);refine wpIn_block (ih ro m nt x cx hx A S o1 A1 S1 hds h1 lo σ a w _ hsz hdef hlo hF hR ?_);intro σ1 a1 w1 i1 s1 d1 f1 e1;obtain⟨F1,q1⟩:=A1;simp only at i1;subst i1;have l1:=Ay hlo e1.size;unfold pE at h2;cases o1 with
    | normal=>cases h2;exact hQ σ1 a1 w1 rfl s1 d1 f1 e1
    | ret=>cases h2;exact hQ σ1 a1 w1 rfl s1 d1 f1 e1
    | exit i=>
     simp only at h2;rw[bS] at h2;show(if i=id then Q .normal a1 w1 else Q (.exit i) a1 w1);split at h2
     ·rename_i he;rw[Bd] at he;rw[if_pos he];cases h2;exact hQ σ1 a1 w1 rfl s1 d1 f1 e1
     ·rename_i he;rw[Bd] at he;rw[if_neg he];cases h2;exact hQ σ1 a1 w1 rfl s1 d1 f1 e1
   | loop x=>
    simp only[iX,Ap] at hC;obtain⟨cx,hx,rfl⟩:=hC;exact wpIn_loop_rounds (n+1) (aBC hx (n+1) ihn A S o A' S' hds h lo σ a w Q hsz hdef hlo hF hR hQ)
   | exit id=>
    cases hC;cases h;exact wpIn_exit (hQ σ a w rfl hsz hdef hF (fL.refl hR))
   | ret=>
    cases hC;cases h;exact wpIn_ret (hQ σ a w rfl hsz hdef hF (fL.refl hR))
   | region id ops d=>
    simp only[iX,Bb] at hC;split at hC
    ·rename_i hd;subst hd;obtain⟨aos,rfl⟩:∃aos,c= .drw aos:=by
      unfold aDw at hC;split at hC
      ·rw[Bb] at hC;split at hC
       ·cases hC;exact⟨_,rfl⟩
       ·cases hC
      ·cases hC
     obtain⟨⟨F1,S1⟩,h1,h2⟩:=aL (show(aZ (uJ aos (ev fns n).call A.F S) fun r=>some (Out.normal,(⟨r.1,A.inr⟩:bH),r.2))=some (o,A',S') from h);cases h2;exact hK.drawn _ hcall ro m nt id ops aos hC σ A.F F1 S S1 a w Q hsz hF hR h1 (fun σ' a' w' q1 q2 q3 q4=>hQ σ' a' w' rfl q2 (by rw[q3];exact hdef.ext hR q4) q1 q4)
    ·rename_i hd;have hd:d=false:=by simpa using hd
     subst hd;obtain⟨aos,haos,rfl⟩:=Ap.1 hC;obtain⟨⟨F1,S1⟩,h1,h2⟩:=aL (show(aZ (sE aos (ev fns n).call A.F S) fun r=>some (Out.normal,(⟨r.1,A.inr⟩:bH),r.2))=some (o,A',S') from h);cases h2;refine wpIn_region ?_;rw[List.range_eq_range',←Bw];exact tH hK.asked hK.bits hcall ops.toList 0 [] aos σ A.F F1 S S1 a w (fun j=>by simp) haos hsz hF hR h1 (fun σ' a' w' q1 q2 q3 q4=>hQ σ' a' w' rfl q2 (by rw[q3];exact hdef.ext hR q4) q1 q4)
   | rangeFunc f ps x y=>
    simp only[iX,Bb] at hC;split at hC
    ·rename_i hps;split at hC
     ·rename_i cf cx cy hf hx hy;cases hC;exact aH6 hK ih hcall (fun k hk=>by subst hk;exact ihn k (by omega)) hf hx hy hps hds h hsz hdef hlo hF hR hQ
     ·cases hC
    ·cases hC
   | scope x=>cases hC
   | label l=>cases hC
   | goto l=>cases hC
   | refuse s=>cases hC
theorem aJh{fns:T dE}(hK:sH P fns)(n:Nat):jB P (ev fns n).call:=by
 cases n with
 | zero=>intro f args S v S' h;cases h
 | succ k=>exact aBb hK (aBR hK k)
end Go.Ev
namespace Go.Ev
def Agree(l:List Nat)(F F':Fr):Prop:=∀t∈l,aD t F=aD t F'
theorem Agree.left{l m:List Nat}{F F':Fr}(h:Agree (l++m) F F'):Agree l F F':=fun t ht=>h t (Ed _ ht)
theorem Agree.right{l m:List Nat}{F F':Fr}(h:Agree (l++m) F F'):Agree m F F':=fun t ht=>h t (Di _ ht)
theorem bM{x:cJ}{F F':Fr}(h:Agree x.rd F F'):x.val F=x.val F':=by
 cases x with
 | t i=>exact h i (by simp [cJ.rd])
 | c v=>rfl
theorem kK{F F':Fr}:∀ {xs:List cJ},Agree (rds xs) F F'→cO xs F=cO xs F'
 | [],_=>rfl
 | x::xs,h=>by
  show x.val F::cO xs F=x.val F'::cO xs F';rw[bM h.left,kK h.right]
theorem kW{x:Option cJ}{F F':Fr}(d:Nat)(h:Agree (rdo x) F F'):iA F d x=iA F' d x:=by
 cases x with
 | none=>rfl
 | some x=>simp only[iA];rw[bM (show Agree x.rd F F' from h)]
theorem yE{F F':Fr}:∀ {ps:List (Nat×Nat×cJ)},Agree (rdp ps) F F'→fF F ps=fF F' ps
 | [],_=>rfl
 | (a,b,x)::ps,h=>by
  simp only[fF];rw[bM h.left,yE h.right]
theorem vI{F F':Fr}(s:Nat):∀ {ps:List (Nat×cJ)},Agree (aM5 ps) F F'→iR s F ps=iR s F' ps
 | [],_=>rfl
 | (a,x)::ps,h=>by
  simp only[iR];rw[bM h.left,vI s h.right]
theorem mN{F F':Fr}{lo hi mx:Option cJ}(a b:Nat)(h1:Agree (rdo lo) F F')(h2:Agree (rdo hi) F F')(h3:Agree (rdo mx) F F'):kH a b lo hi mx F=kH a b lo hi mx F':=by
 simp only[kH,kW _ h1,kW _ h2,kW _ h3]
theorem aGG{F F':Fr}{lo hi mx:Option cJ}(k:SlK)(v:AV)(h1:Agree (rdo lo) F F')(h2:Agree (rdo hi) F F')(h3:Agree (rdo mx) F F'):qN k v lo hi mx F=qN k v lo hi mx F':=by
 unfold qN;split
 ·simp only[aET,kW _ h1,kW _ h2]
 ·simp only[aJ4,mN _ _ h1 h2 h3]
 ·simp only[aJL,mN _ _ h1 h2 h3]
 ·simp only[aKk,mN _ _ h1 h2 h3]
 ·simp only[aHd,mN _ _ h1 h2 h3]
 ·rfl
theorem aIJ{q:wJ}{F F':Fr}(h:Agree q.rd F F')(hp:T AB):gS q F hp=gS q F' hp:=by
 cases q with
 | mv x=>show some (x.val F)=_;rw[bM (x:=x) h];rfl
 | pick c a b=>show uB (c.val F) a b F=uB (c.val F') a b F';simp only[uB,bM h.left,bM h.right.left,bM h.right.right]
 | build z ps=>show aZ (gH z (fF F ps)) _=_;rw[yE h];rfl
 | ld a n x=>show dT (x.val F) a n hp=dT (x.val F') a n hp;rw[bM h]
 | nilchk x=>show rZ (x.val F)=rZ (x.val F');rw[bM h]
 | bin op e x y=>show gO op e (x.val F) (y.val F)=gO op e (x.val F') (y.val F');rw[bM h.left,bM h.right]
 | un op x=>show unV op (x.val F)=unV op (x.val F');rw[bM h]
 | conv k x=>show vK k (x.val F) hp=vK k (x.val F') hp;rw[bM h]
 | mkIface t x=>show some (AV.iface t (x.val F))=some (AV.iface t (x.val F'));rw[bM h]
 | mkFunc f a b=>show some (AV.fn f (cO a F) (cO b F))=some (AV.fn f (cO a F') (cO b F'));rw[kK h.left,kK h.right]
 | slc k x lo hi mx=>show qN k (x.val F) lo hi mx F=qN k (x.val F') lo hi mx F';rw[bM h.left,aGG k _ h.right.left h.right.right.left h.right.right.right]
 | faddr off x=>show wF (x.val F) off=wF (x.val F') off;rw[bM h]
 | fld a off n x=>show aH2 (x.val F) a off n=aH2 (x.val F') a off n;rw[bM h]
 | iaddr k x ix=>show(aZ (eR (ix.val F)) fun i=>eU k (x.val F) i)=aZ (eR (ix.val F')) fun i=>eU k (x.val F') i;rw[bM h.left,bM h.right]
 | idxArr a n s x ix=>show(aZ (eR (ix.val F)) fun i=>uL (x.val F) a n s i)=aZ (eR (ix.val F')) fun i=>uL (x.val F') a n s i;rw[bM h.left,bM h.right]
 | idxStr x ix=>show(aZ (eR (ix.val F)) fun i=>mP (x.val F) i)=aZ (eR (ix.val F')) fun i=>mP (x.val F') i;rw[bM h.left,bM h.right]
 | lookup e z ok m k=>show(aZ (oN hp (m.val F)) fun es=>aZ (mJ e (k.val F) es) fun r=>mT r z ok)=aZ (oN hp (m.val F')) fun es=>aZ (mJ e (k.val F') es) fun r=>mT r z ok;rw[bM h.left,bM h.right]
 | tassert t z ok x=>show tQ (x.val F) t z ok=tQ (x.val F') t z ok;rw[bM h]
 | extract x i=>show gL (x.val F) i=gL (x.val F') i;rw[bM h]
 | lenArr n=>rfl
 | lenStr x=>show xP (x.val F)=xP (x.val F');rw[bM h]
 | lenSl x=>show gW (x.val F)=gW (x.val F');rw[bM h]
 | lenMap x=>show(aZ (oN hp (x.val F)) fun es=>some (AV.int .i64 (.ofNat (jN es))))=aZ (oN hp (x.val F')) fun es=>some (AV.int .i64 (.ofNat (jN es)));rw[bM h]
 | capSl x=>show aBB (x.val F)=aBB (x.val F');rw[bM h]
 | minmax m xs=>show kB m (cO xs F)=kB m (cO xs F');rw[kK h]
 | mkMeth n tbl x=>show some (AV.mth n tbl (x.val F))=some (AV.mth n tbl (x.val F'));rw[bM h]
theorem aHV{q:wJ}(hq:dL q=false)(F:Fr)(h h':T AB):gS q F h=gS q F h':=by
 cases q with
 | ld a n x=>cases hq
 | lookup e z ok m k=>cases hq
 | lenMap x=>cases hq
 | conv k x=>
  show vK k (x.val F) h=vK k (x.val F) h';cases k with
  | bytesToStr=>cases hq
  | int k=>cases x.val F<;>rfl
  | same=>cases x.val F<;>rfl
  | intToStr=>
   cases x.val F with
   | int k n=>cases n<;>rfl
   | _=>rfl
 | _=>rfl
theorem aIc{a:uD}{F F':Fr}(h:Agree a.rd F F')(id:Nat):vG a F id=vG a F' id:=by
 cases a with
 | alloc t cs=>rfl
 | box t x=>show(aZ (x.val F).cells fun cs=>some (AV.ptr id 0,AB.cells cs false 0))=aZ (x.val F').cells fun cs=>some (AV.ptr id 0,AB.cells cs false 0);rw[bM h]
 | bslice t s len z ps=>show(aZ (gH (repeatL z len) (iR s F ps)) fun cs=>some (AV.sl id 0 len len false,AB.cells cs false 0))=aZ (gH (repeatL z len) (iR s F' ps)) fun cs=>some (AV.sl id 0 len len false,AB.cells cs false 0);rw[vI s h]
 | mkSlice t s by_ z l c=>
  show uH t s by_ z l c F id=uH t s by_ z l c F' id;unfold uH;rw[bM h.left,bM h.right]
 | mkMap=>rfl
 | strBytes t x=>show pI (x.val F) id=pI (x.val F') id;rw[bM h]
theorem aIQ{x:XOp}{F F':Fr}(h:Agree x.rd F F')(call:dZ)(S:St):evX x call F S=evX x call F' S:=by
 cases x with
 | st n x v=>show(aZ (v.val F).cells fun cs=>lK (x.val F) n cs S)=aZ (v.val F').cells fun cs=>lK (x.val F') n cs S;rw[bM h.left,bM h.right]
 | call f args=>show call (f.val F) (cO args F) S=call (f.val F') (cO args F') S;rw[bM h.left,kK h.right]
 | inv tbl f args=>show aD2 (f.val F) tbl (cO args F) call S=aD2 (f.val F') tbl (cO args F') call S;rw[bM h.left,kK h.right]
 | app t s b x y=>show iN b s (x.val F) (y.val F) S=iN b s (x.val F') (y.val F') S;rw[bM h.left,bM h.right]
 | copy s d x=>show(aZ (aAb (x.val F)) fun m=>copyV (d.val F) s m (x.val F) S)=aZ (aAb (x.val F')) fun m=>copyV (d.val F') s m (x.val F') S;rw[bM h.left,bM h.right]
 | mapUpd e m k v=>show rO (m.val F) e (k.val F) (v.val F) S=rO (m.val F') e (k.val F') (v.val F') S;rw[bM h.left,bM h.right.left,bM h.right.right]
 | mapDel e m k=>show aEp (m.val F) e (k.val F) S=aEp (m.val F') e (k.val F') S;rw[bM h.left,bM h.right]
 | clr z x=>show aJr (x.val F) z S=aJr (x.val F') z S;rw[bM h]
 | ext k args=>show(aZ (aGk k (cO args F)) fun v=>some (v,S))=aZ (aGk k (cO args F')) fun v=>some (v,S);rw[kK h]
 | bad=>rfl
theorem aFq{g:Option (Nat×Bool)}{F F':Fr}(h:Agree (g.map (·.1)).toList F F'):dS g F=dS g F':=by
 cases g with
 | none=>rfl
 | some p=>show isB (aD p.1 F) p.2=isB (aD p.1 F') p.2;rw[h p.1 (by simp)]
theorem aHc{t:Nat}:∀ {l:List Nat},inL t l=true↔t∈l
 | []=>by simp [inL]
 | u::l=>by
  simp only[inL,Bb,Bg];split
  ·rename_i h;rw[Bd] at h;simp [h]
  ·rename_i h;rw[Bd] at h;simp [h,aHc]
theorem aFT{d:Option Nat}{t:Nat}{l:List Nat}(h:d=some t)(ht:t∈l):meets d l=true:=by subst h;exact aHc.2 ht
theorem aBd{i:Nat}{d:Option Nat}{tch:List Nat}:∀ {l:List AO},aDX i d tch l=true→∀ {j:Nat} {b:AO},l[j]? =some b→(meets d b.touch || meets b.dst tch)=true→Nat.testBit b.mask i=true
 | [],_,j,b,hb=>by simp at hb
 | a::l,h,j,b,hb=>by
  intro hm;simp only[aDX,Cb] at h;cases j with
  | zero=>
   simp at hb;subst hb;have h1:=h.1;rw[hm] at h1;exact h1
  | succ j=>exact aBd h.2 (by simpa using hb) hm
theorem aCY:∀ {l:List AO} {k:Nat},aG9 k l=true→∀ {i j:Nat} {a b:AO},i<j→l[i]? =some a→l[j]? =some b→(meets a.dst b.touch || meets b.dst a.touch)=true→Nat.testBit b.mask (k+i)=true
 | [],k,_,i,j,a,b,_,ha=>by simp at ha
 | c::l,k,h,i,j,a,b,hij,ha=>by
  intro hb hm;simp only[aG9,Cb] at h;cases j with
  | zero=>omega
  | succ j=>
   cases i with
   | zero=>
    simp at ha;subst ha;exact aBd h.1 (by simpa using hb) hm
   | succ i=>
    have:=aCY h.2 (i:=i) (j:=j) (by omega) (by simpa using ha) (by simpa using hb) hm
    rwa [show k+1+i=k+(i+1) by omega] at this
theorem aAF:∀ {l:List Oper} {k:Nat},aAX k l=true→∀ {i:Nat} {o:Oper},l[i]? =some o→∀e∈o.after,Region.binds .any e=true→e.on<k+i
 | [],k,_,i,o,ho=>by simp at ho
 | c::l,k,h,i,o,ho=>by
  intro e he hb;simp only[aAX,Cb] at h;cases i with
  | zero=>
   simp at ho;subst ho;have h1:=Array.all_eq_true'.1 h.1 e he;simp only[hb,Bl,Bool.false_or] at h1;exact Aw h1
  | succ i=>
   have:=aAF h.2 (by simpa using ho) e he hb;omega
end Go.Ev
namespace Go.Ev
structure Tr(aos:List AO)(base:Nat)(call:dZ)(Ds:Nat→DS):Prop where
 step:∀i o,aos[i]? =some o→sJ o i base call (Ds i)=some (Ds (i+1))
theorem aBo{base:Nat}{call:dZ}:∀ {l:List AO} {k:Nat} {D D':DS},zN l k base call D=some D'→
  ∃Ds:Nat→DS,Ds k=D∧(∀i o,l[i]? =some o→sJ o (k+i) base call (Ds (k+i))=some (Ds (k+i+1)))∧Ds (k+l.length)=D'
 | [],k,D,D',h=>by
  simp only[zN,Aj] at h;exact⟨fun _=>D,rfl,fun i o ho=>by simp at ho,h⟩
 | o::l,k,D,D',h=>by
  simp only[zN] at h;obtain⟨D1,h1,h2⟩:=aL h;obtain⟨Ds,e1,e2,e3⟩:=aBo h2;refine⟨fun i=>if i=k then D else Ds i,by simp,?_,?_⟩
  ·intro i o' ho;cases i with
   | zero=>
    simp at ho;subst ho;simp only[Bj,Dw];rw[if_neg (by omega),e1];exact h1
   | succ i=>
    have:=e2 i o' (by simpa using ho);rw[show k+(i+1)=k+1+i by omega];simp only[];rw[if_neg (by omega),if_neg (by omega)];exact this
  ·simp only[Au];rw[if_neg (by omega),show k+(l.length+1)=k+1+l.length by omega];exact e3
section
variable {aos:List AO}{base:Nat}{call:dZ}{Ds:Nat→DS}
inductive Kind(base:Nat)(call:dZ)(D D':DS)(i:Nat)(o:AO):Prop where
 | no (hw:dS o.grd D.F=false) (e:D'=⟨cD o.dst D.F .undef,D.S,D.ps,D.hs,D.ls⟩)
 | q (q:wJ) (v:AV) (hw:dS o.grd D.F=true) (ho:o.op= .q q) (hv:gS q D.F D.S.h=some v)
   (e:D'=⟨cD o.dst D.F v,D.S,D.ps,D.hs,bL (dL q) (⟨q,D.F,v,i,o.mask⟩::D.ls) D.ls⟩)
 | a (a:uD) (v:AV) (b:AB) (hw:dS o.grd D.F=true) (ho:o.op= .a a) (hv:vG a D.F (base+i)=some (v,b))
   (e:D'=⟨cD o.dst D.F v,D.S,⟨i,base+i,b⟩::D.ps,D.hs,D.ls⟩)
 | x (x:XOp) (v:AV) (S:St) (hw:dS o.grd D.F=true) (ho:o.op= .x x) (hl:lJ D.hs o.mask=true)
   (hv:evX x call D.F ⟨(cH o.mask D.ps D.S.h).2,D.S.nx⟩=some (v,S))
   (e:D'=⟨cD o.dst D.F v,S,(cH o.mask D.ps D.S.h).1,(i,o.mask,S.h)::D.hs,D.ls⟩)
theorem Tr.kind(h:Tr aos base call Ds){i:Nat}{o:AO}(ho:aos[i]? =some o):Kind base call (Ds i) (Ds (i+1)) i o:=by
 have h1:=h.step i o ho;unfold sJ at h1;rw[bS] at h1;split at h1
 ·rename_i hw;cases hop:o.op with
  | q q=>
   rw[hop] at h1;obtain⟨v,h2,h3⟩:=aL (show(aZ (gS q (Ds i).F (Ds i).S.h) fun v=>some (⟨cD o.dst (Ds i).F v,(Ds i).S,(Ds i).ps,(Ds i).hs,bL (dL q) (⟨q,(Ds i).F,v,i,o.mask⟩::(Ds i).ls) (Ds i).ls⟩:DS))=some (Ds (i+1)) from h1);exact .q q v hw hop h2 (Bk h3).symm
  | a a=>
   rw[hop] at h1;obtain⟨⟨v,b⟩,h2,h3⟩:=aL (show(aZ (vG a (Ds i).F (base+i)) fun r=>some (⟨cD o.dst (Ds i).F r.1,(Ds i).S,⟨i,base+i,r.2⟩::(Ds i).ps,(Ds i).hs,(Ds i).ls⟩:DS))=some (Ds (i+1)) from h1);exact .a a v b hw hop h2 (Bk h3).symm
  | x x=>
   rw[hop] at h1;obtain⟨h4,h1⟩:=bK (show bL (lJ (Ds i).hs o.mask) (aZ (evX x call (Ds i).F ⟨(cH o.mask (Ds i).ps (Ds i).S.h).2,(Ds i).S.nx⟩) fun r=>
    some (⟨cD o.dst (Ds i).F r.1,r.2,(cH o.mask (Ds i).ps (Ds i).S.h).1,(i,o.mask,r.2.h)::(Ds i).hs,(Ds i).ls⟩:DS)) none=some (Ds (i+1)) from h1)
   obtain⟨⟨v,S⟩,h2,h3⟩:=aL h1;exact .x x v S hw hop h4 h2 (Bk h3).symm
 ·rename_i hw;exact .no (by simpa using hw) (Bk h1).symm
def gM(aos:List AO)(Ds:Nat→DS)(c:Nat):Prop:=∃o x,aos[c]? =some o∧o.op= .x x∧dS o.grd (Ds c).F=true
theorem nL{d:Option Nat}{F:Fr}{v:AV}{t:Nat}(h:d≠some t):aD t (cD d F v)=aD t F:=by
 cases d with
 | none=>rfl
 | some d=>show aD t (F.set d (some v))=_;rw[uA,if_neg (fun e=>h (by rw[e]))]
theorem pJ{d:Nat}{F:Fr}{v:AV}:aD d (cD (some d) F v)=v:=by
 show aD d (F.set d (some v))=_;rw[uA,if_pos rfl]
theorem Tr.slot_step(h:Tr aos base call Ds){i t:Nat}{o:AO}(ho:aos[i]? =some o)(hd:o.dst≠some t):aD t (Ds (i+1)).F=aD t (Ds i).F:=by
 cases h.kind ho with
 | no hw e=>rw[e];exact nL hd
 | q q v hw ho' hv e=>rw[e];exact nL hd
 | a a v b hw ho' hv e=>rw[e];exact nL hd
 | x x v S hw ho' hl hv e=>rw[e];exact nL hd
theorem Tr.slot_keep(h:Tr aos base call Ds){t i:Nat}:∀ {k:Nat},i≤k→k≤aos.length→(∀j o,i≤j→j<k→aos[j]? =some o→o.dst≠some t)→aD t (Ds k).F=aD t (Ds i).F:=by
 intro k
 induction k with
 | zero=>intro h1 _ _;rw[Nat.le_zero.1 h1]
 | succ k ih=>
  intro h1 h2 h3;rcases Bx k i with h4 | h4
  ·rw[show i=k+1 by omega]
  ·rw[←ih h4 (by omega) (fun j o a b c=>h3 j o a (by omega) c)];have ho:aos[k]? =some aos[k]:=Ac (by omega);exact h.slot_step ho (h3 k _ h4 (by omega) ho)
theorem Tr.heap_step(h:Tr aos base call Ds){i:Nat}(hi:i<aos.length)(hc:¬gM aos Ds i):(Ds (i+1)).S=(Ds i).S∧(Ds (i+1)).hs=(Ds i).hs:=by
 have ho:aos[i]? =some aos[i]:=Ac hi;cases h.kind ho with
 | no hw e=>rw[e];exact⟨rfl,rfl⟩
 | q q v hw ho' hv e=>rw[e];exact⟨rfl,rfl⟩
 | a a v b hw ho' hv e=>rw[e];exact⟨rfl,rfl⟩
 | x x v S hw ho' hl hv e=>exact absurd ⟨_,x,ho,ho',hw⟩ hc
theorem Tr.heap_keep(h:Tr aos base call Ds){i:Nat}:∀ {k:Nat},i≤k→k≤aos.length→(∀j,i≤j→j<k→¬gM aos Ds j)→(Ds k).S=(Ds i).S∧(Ds k).hs=(Ds i).hs:=by
 intro k
 induction k with
 | zero=>intro h1 _ _;rw[Nat.le_zero.1 h1];exact⟨rfl,rfl⟩
 | succ k ih=>
  intro h1 h2 h3;rcases Bx k i with h4 | h4
  ·rw[show i=k+1 by omega];exact⟨rfl,rfl⟩
  ·obtain⟨a1,a2⟩:=ih h4 (by omega) (fun j a b=>h3 j a (by omega));obtain⟨b1,b2⟩:=h.heap_step (show k<aos.length by omega) (h3 k h4 (by omega));exact⟨b1.trans a1,b2.trans a2⟩
theorem Tr.chain_hs(h:Tr aos base call Ds){c:Nat}{o:AO}(ho:aos[c]? =some o)(hc:gM aos Ds c):(Ds (c+1)).hs=(c,o.mask,(Ds (c+1)).S.h)::(Ds c).hs∧lJ (Ds c).hs o.mask=true:=by
 obtain⟨o',x,h1,h2,h3⟩:=hc;rw[ho] at h1;cases h1;cases h.kind ho with
 | no hw e=>rw[h3] at hw;cases hw
 | q q v hw ho' hv e=>rw[h2] at ho';cases ho'
 | a a v b hw ho' hv e=>rw[h2] at ho';cases ho'
 | x x v S hw ho' hl hv e=>rw[e];exact⟨rfl,hl⟩
theorem Tr.head(h:Tr aos base call Ds)(h0:(Ds 0).hs= []):∀k,k≤aos.length→(∀c,c<k→¬gM aos Ds c)∨∃p m hp r,p<k∧gM aos Ds p∧(Ds k).hs=(p,m,hp)::r∧∀c,p<c→c<k→¬gM aos Ds c:=by
 intro k
 induction k with
 | zero=>intro _;exact .inl (fun c hc=>by omega)
 | succ k ih=>
  intro hk;by_cases hc:gM aos Ds k
  ·have ho:aos[k]? =some aos[k]:=Ac (by omega);exact .inr ⟨k,_,_,_,Dy k,hc,(h.chain_hs ho hc).1,fun c h1 h2=>by omega⟩
  ·obtain⟨_,e2⟩:=h.heap_step (show k<aos.length by omega) hc;rcases ih (by omega) with h1 | ⟨p,m,hp,r,h1,h2,h3,h4⟩
   ·refine .inl (fun c hlt=>?_);rcases Bx c k with h5 | h5
    ·exact h1 c h5
    ·rw[show c=k by omega];exact hc
   ·refine .inr ⟨p,m,hp,r,by omega,h2,e2.trans h3,fun c h5 h6=>?_⟩;rcases Bx c k with h7 | h7
    ·exact h4 c h5 h7
    ·rw[show c=k by omega];exact hc
theorem Tr.before(h:Tr aos base call Ds)(h0:(Ds 0).hs= []){D:Nat→Prop}(hD:∀j o,D j→aos[j]? =some o→∀i,Nat.testBit o.mask i=true→D i):
  ∀k,k<aos.length→∀o,aos[k]? =some o→gM aos Ds k→(∀i,Nat.testBit o.mask i=true→D i)→∀c,c<k→gM aos Ds c→D c:=by
 intro k
 induction k using Nat.strongRecOn with
 | _ k ih=>
  intro hk o ho hc hm c hlt hcc;obtain⟨_,hl⟩:=h.chain_hs ho hc;rcases h.head h0 k (by omega) with h1 | ⟨p,m,hp,r,h1,h2,h3,h4⟩
  ·exact absurd hcc (h1 c hlt)
  ·rw[h3] at hl;have hp':D p:=hm p hl;rcases Eu c p with h5 | h5 | h5
   ·have hop:aos[p]? =some aos[p]:=Ac (by omega);exact ih p h1 (by omega) _ hop h2 (hD p _ hp' hop) c h5 hcc
   ·rw[h5];exact hp'
   ·exact absurd hcc (h4 c h5 hlt)
theorem Tr.loads_mono(h:Tr aos base call Ds){i:Nat}:∀ {k:Nat},i≤k→k≤aos.length→∀l∈(Ds i).ls,l∈(Ds k).ls:=by
 intro k
 induction k with
 | zero=>intro h1 _ l hl;rw[Nat.le_zero.1 h1] at hl;exact hl
 | succ k ih=>
  intro h1 h2 l hl;rcases Bx k i with h4 | h4
  ·rw[show k+1=i by omega];exact hl
  ·have:=ih h4 (by omega) l hl;have ho:aos[k]? =some aos[k]:=Ac (by omega);cases h.kind ho with
   | no hw e=>rw[e];exact this
   | q q v hw ho' hv e=>rw[e,bS];simp only;split<;>simp [this]
   | a a v b hw ho' hv e=>rw[e];exact this
   | x x v S hw ho' hl hv e=>rw[e];exact this
theorem aAH{h0:T AB}{hs:List (Nat×Nat×T AB)}:∀ {ls:List kL},gI h0 hs ls=true→∀l∈ls,eY l hs h0=true
 | [],_,l,hl=>by simp at hl
 | m::ls,h,l,hl=>by
  simp only[gI,bS] at h;split at h
  ·rename_i h1;rcases Bg.1 hl with rfl | h2
   ·exact h1
   ·exact aAH h l h2
  ·cases h
theorem Tr.hs_split(h:Tr aos base call Ds):∀d k,k+d=aos.length→∃r,(Ds aos.length).hs.reverse=(Ds k).hs.reverse++r∧∀e∈r,k≤e.1∧gM aos Ds e.1:=by
 intro d
 induction d with
 | zero=>intro k hk;exact⟨[],by rw[show aos.length=k by omega];simp,by simp⟩
 | succ d ih=>
  intro k hk;obtain⟨r,h1,h2⟩:=ih (k+1) (by omega);by_cases hc:gM aos Ds k
  ·have ho:aos[k]? =some aos[k]:=Ac (by omega);refine⟨(k,aos[k].mask,(Ds (k+1)).S.h)::r,?_,?_⟩
   ·rw[h1,(h.chain_hs ho hc).1];simp
   ·intro e he;rcases Bg.1 he with rfl | he
    ·exact⟨Ah _,hc⟩
    ·exact⟨by have:=(h2 e he).1;omega,(h2 e he).2⟩
  ·refine⟨r,by rw[h1,(h.heap_step (by omega) hc).2],fun e he=>⟨by have:=(h2 e he).1;omega,(h2 e he).2⟩⟩
theorem Tr.load(h:Tr aos base call Ds)(h0:(Ds 0).hs= [])(hok:gI (Ds 0).S.h (Ds aos.length).hs.reverse (Ds aos.length).ls=true){l:kL}(hl:l∈(Ds aos.length).ls){D:Nat→Prop}
  (hD:∀j o,D j→aos[j]? =some o→∀i,Nat.testBit o.mask i=true→D i) (hm:∀i,Nat.testBit l.mask i=true→D i) (hi:¬D l.i) {s:Nat} (hs:s≤aos.length) (hc:∀c,gM aos Ds c→(D c↔c<s)):
  oK l.v (gS l.q l.F (Ds s).S.h)=true:=by
 have hgo:=aAH hok l hl;have key:∀k,k≤s→∀r,(Ds aos.length).hs.reverse=(Ds k).hs.reverse++r→eY l r (Ds k).S.h=true:=by
  intro k
  induction k with
  | zero=>
   intro _ r hr;rw[h0] at hr;simp at hr;rw[←hr];exact hgo
  | succ k ih=>
   intro hk r hr;by_cases hck:gM aos Ds k
   ·have ho:aos[k]? =some aos[k]:=Ac (by omega);have h1:=(h.chain_hs ho hck).1;have h2:=ih (by omega) ((k,aos[k].mask,(Ds (k+1)).S.h)::r) (by rw[hr,h1];simp);have hDk:D k:=(hc k hck).2 (by omega);have hbit:Nat.testBit aos[k].mask l.i=false:=by
     cases hb:Nat.testBit aos[k].mask l.i with
     | false=>rfl
     | true=>exact absurd (hD k _ hDk ho _ hb) hi
    simp only[eY,bS,hbit] at h2;split at h2
    ·exact h2
    ·split at h2
     ·simpa using h2
     ·cases h2
   ·obtain⟨e1,e2⟩:=h.heap_step (show k<aos.length by omega) hck;rw[e1];exact ih (by omega) r (by rw[hr,e2])
 obtain⟨r,h1,h2⟩:=h.hs_split (aos.length - s) s (by omega);have h3:=key s (Ah _) r h1;cases r with
 | nil=>exact h3
 | cons e r=>
  obtain⟨c,m,hp⟩:=e;obtain⟨h4,h5⟩:=h2 (c,m,hp) (by simp);have hbit:Nat.testBit l.mask c=false:=by
   cases hb:Nat.testBit l.mask c with
   | false=>rfl
   | true=>have:=(hc c h5).1 (hm c hb);simp only at h4;omega
  simp only[eY,bS,hbit] at h3;by_cases h6:oK l.v (gS l.q l.F (Ds s).S.h)=true
  ·exact h6
  ·rw[if_neg (by simp),if_neg h6] at h3;cases h3
end
theorem aFP:∀ {a b:List Nat},jT a b=true→a=b
 | [],[],_=>rfl
 | [],_::_,h=>by simp [jT] at h
 | _::_,[],h=>by simp [jT] at h
 | a::x,b::y,h=>by
  simp only[jT,bS] at h;split at h
  ·rename_i h1;rw[Ci h1,aFP h]
  ·cases h
mutual
theorem aBi:∀ (a b:AV),cB a b=true→a=b
 | .bool a,v,h=>by cases v<;>simp only[cB,rS,Ar] at h;rw[eq_of_beq h]
 | .int k a,v,h=>by
  cases v<;>simp only[cB,bS,Ar] at h;split at h
  ·rename_i h1;rw[vY h1];rw[iK] at h;rw[eq_of_beq h]
  ·cases h
 | .str a,v,h=>by cases v<;>simp only[cB,Ar] at h;rw[aFP h]
 | .ptr a b,v,h=>by
  cases v<;>simp only[cB,bS,Ar] at h;split at h
  ·rename_i h1;rw[Ci h1,Ci h]
  ·cases h
 | .nilp,v,h=>by cases v<;>first | rfl | simp only[cB,Ar] at h
 | .sl a b c d e,v,h=>by
  cases v<;>simp only[cB,Ar,Cb,rS] at h;obtain⟨⟨⟨⟨h1,h2⟩,h3⟩,h4⟩,h5⟩:=h;rw[Ci h1,Ci h2,Ci h3,Ci h4,eq_of_beq h5]
 | .nilsl,v,h=>by cases v<;>first | rfl | simp only[cB,Ar] at h
 | .emp,v,h=>by cases v<;>first | rfl | simp only[cB,Ar] at h
 | .map a,v,h=>by cases v<;>simp only[cB,Ar] at h;rw[Ci h]
 | .nilmap,v,h=>by cases v<;>first | rfl | simp only[cB,Ar] at h
 | .fn f a b,v,h=>by
  cases v<;>simp only[cB,Ar,Cb] at h;obtain⟨⟨h1,h2⟩,h3⟩:=h;rw[Ci h1,pL _ _ h2,pL _ _ h3]
 | .nilfn,v,h=>by cases v<;>first | rfl | simp only[cB,Ar] at h
 | .yld a,v,h=>by cases v<;>simp only[cB,Ar] at h;rw[Ci h]
 | .iface t w,v,h=>by
  cases v<;>simp only[cB,Ar,Cb] at h;rw[Ci h.1,aBi _ _ h.2]
 | .niliface,v,h=>by cases v<;>first | rfl | simp only[cB,Ar] at h
 | .mth n t w,v,h=>by cases v<;>simp only[cB,Ar] at h
 | .agg a,v,h=>by cases v<;>simp only[cB,Ar] at h;rw[pL _ _ h]
 | .tup a,v,h=>by cases v<;>simp only[cB,Ar] at h;rw[pL _ _ h]
theorem pL:∀ (a b:List AV),jP a b=true→a=b
 | [],[],_=>rfl
 | [],_::_,h=>by simp [jP] at h
 | _::_,[],h=>by simp [jP] at h
 | a::x,b::y,h=>by
  simp only[jP,bS] at h;split at h
  ·rename_i h1;rw[aBi _ _ h1,pL _ _ h]
  ·cases h
end
theorem aJF{v:AV}{r:Option AV}(h:oK v r=true):r=some v:=by
 cases r with
 | none=>cases h
 | some w=>rw[aBi _ _ h]
end Go.Ev
namespace Go.Ev
section
variable {D:Nat→Prop}
theorem aKB{look:Nat→Nat}{o:Oper}(h:∀e∈o.after,Region.binds .any e=true→D e.on∧∀b,Nat.testBit (look e.on) b=true→D b):∀b,Nat.testBit (CheckFast.one look o) b=true→D b:=by
 unfold CheckFast.one;rw[←Array.foldl_toList];have key:∀ (l:List Edge) (s:Nat),(∀e∈l,Region.binds .any e=true→D e.on∧∀b,Nat.testBit (look e.on) b=true→D b)→(∀b,Nat.testBit s b=true→D b)→
   ∀b,Nat.testBit (l.foldl (fun s e=>if Region.binds .any e then s ||| 2 ^ e.on ||| look e.on else s) s) b=true→D b:=by
  intro l
  induction l with
  | nil=>intro s _ hs b hb;exact hs b hb
  | cons e l ih=>
   intro s hl hs b hb;rw[List.foldl_cons] at hb;refine ih _ (fun e' he'=>hl e' (Bn _ he')) ?_ b hb;intro c hc;split at hc
   ·rename_i hbi;obtain⟨h1,h2⟩:=hl e (by simp) hbi;rw[Nat.testBit_or,Nat.testBit_or,Ek,Ek] at hc;rcases hc with(hc | hc) | hc
    ·exact hs c hc
    ·rw[Nat.testBit_two_pow] at hc;have:e.on=c:=by simpa using hc
     rw[←this];exact h1
    ·exact h2 c hc
   ·exact hs c hc
 exact key o.after.toList 0 (fun e he=>h e (by simpa using he)) (fun b hb=>by simp at hb)
theorem xW:∀ (l:List Oper) (j:Nat) (acc:List Nat),acc.length=j→(∀i,i<j→D i→∀b,Nat.testBit (acc.getD (j - 1 - i) 0) b=true→D b)→
  (∀k o,l[k]? =some o→D (j+k)→∀e∈o.after,Region.binds .any e=true→D e.on)→
  (∀i,i<j→(CheckFast.beforeL l j acc).getD i 0=acc.getD (j - 1 - i) 0)∧
  ∀k o,l[k]? =some o→(∀e∈o.after,Region.binds .any e=true→D e.on)→∀b,Nat.testBit ((CheckFast.beforeL l j acc).getD (j+k) 0) b=true→D b
 | [],j,acc,hl,_,_=>by
  refine⟨fun i hi=>?_,fun k o ho=>by simp at ho⟩;simp only[CheckFast.beforeL];rw[Ad,Ad,List.getElem?_reverse (by omega),hl]
 | o::l,j,acc,hl,hacc,hcl=>by
  simp only[CheckFast.beforeL,CheckFast.force_eq];have hv:(∀e∈o.after,Region.binds .any e=true→D e.on)→∀b,Nat.testBit (CheckFast.one (fun i=>if i<j then acc.getD (j - 1 - i) 0 else 0) o) b=true→D b:=by
   intro hp;refine aKB fun e he hb=>⟨hp e he hb,fun b hbit=>?_⟩;split at hbit
   ·exact hacc _ ‹_› (hp e he hb) b hbit
   ·simp at hbit
  have:=xW l (j+1) (CheckFast.one (fun i=>if i<j then acc.getD (j - 1 - i) 0 else 0) o::acc) (by simp [hl]) ?_ ?_
  ·obtain⟨h1,h2⟩:=this;refine⟨fun i hi=>?_,fun k o' ho hp b hb=>?_⟩
   ·rw[h1 i (by omega),show j+1 - 1 - i=(j - 1 - i)+1 by omega];simp
   ·cases k with
    | zero=>
     simp at ho;subst ho;have h3:=h1 j (by omega);rw[show j+1 - 1 - j=0 by omega] at h3;refine hv hp b ?_;rw[show j+0=j from rfl,h3] at hb;exact hb
    | succ k=>
     refine h2 k o' (by simpa using ho) hp b ?_
     rwa [show j+1+k=j+(k+1) by omega]
  ·intro i hi hDi b hb;rcases Bx i j with h3 | h3
   ·rw[show j+1 - 1 - i=(j - 1 - i)+1 by omega] at hb;exact hacc i h3 hDi b (by simpa using hb)
   ·have:i=j:=by omega
    subst this;rw[show i+1 - 1 - i=0 by omega] at hb;exact hv (hcl 0 o (by simp) (by simpa using hDi)) b (by simpa using hb)
  ·intro k o' ho hDk;exact hcl (k+1) o' (by simpa using ho) (by rwa [show j+(k+1)=j+1+k by omega])
end
theorem aBn{P:Program}{nt:Nat}{ops:Array Oper}:∀ {l:List Oper} {ms:List Nat} {aos:List AO},rN P nt ops l ms=some aos→
  aos.length=l.length∧∀j o,l[j]? =some o→∃ao,aos[j]? =some ao∧aHr P nt ops o (ms.getD j 0)=some ao
 | [],ms,aos,h=>by
  simp only[rN,Aj] at h;subst h;exact⟨rfl,fun j o ho=>by simp at ho⟩
 | o::l,ms,aos,h=>by
  simp only[rN] at h;split at h
  ·rename_i a as ha has;cases h;obtain⟨h1,h2⟩:=aBn has;refine⟨by simp [h1],fun j o' ho=>?_⟩;cases j with
   | zero=>
    simp at ho;subst ho;refine⟨a,by simp,?_⟩;cases ms<;>simpa using ha
   | succ j=>
    obtain⟨ao,h3,h4⟩:=h2 j o' (by simpa using ho);refine⟨ao,by simpa using h3,?_⟩;cases ms<;>simpa using h4
  ·cases h
theorem jL{m:Nat}:∀ {ps:List iV} {h:T AB} {b:Nat} {bl:AB},(cH m ps h).2.get b=some bl→(∃p∈ps,Nat.testBit m p.i=true∧p.id=b∧p.b=bl)∨h.get b=some bl
 | [],h,b,bl,e=>.inr e
 | p::ps,h,b,bl,e=>by
  simp only[cH,bS] at e;split at e
  ·rename_i hb;rcases jL e with⟨q,h1,h2⟩ | h1
   ·exact .inl ⟨q,by simp [h1],h2⟩
   ·rw[T.get_set] at h1;split at h1
    ·rename_i e';cases h1;exact .inl ⟨p,by simp,hb,e'.symm,rfl⟩
    ·exact .inr h1
  ·rcases jL e with⟨q,h1,h2⟩ | h1
   ·exact .inl ⟨q,by simp [h1],h2⟩
   ·exact .inr h1
theorem yW{m:Nat}:∀ {ps:List iV} {h:T AB} {p:iV},p∈(cH m ps h).1→p∈ps∧Nat.testBit m p.i=false
 | [],h,p,e=>by simp [cH] at e
 | q::ps,h,p,e=>by
  simp only[cH,bS] at e;split at e
  ·obtain⟨h1,h2⟩:=yW e;exact⟨by simp [h1],h2⟩
  ·rename_i hb;rcases Bg.1 e with rfl | e
   ·exact⟨by simp,by simpa using hb⟩
   ·obtain⟨h1,h2⟩:=yW e;exact⟨by simp [h1],h2⟩
section
variable {aos:List AO}{base:Nat}{call:dZ}{Ds:Nat→DS}
def Made(aos:List AO)(base:Nat)(Ds:Nat→DS)(i:Nat)(b:AB):Prop:=∃o a v,aos[i]? =some o∧o.op= .a a∧dS o.grd (Ds i).F=true∧vG a (Ds i).F (base+i)=some (v,b)
def Laid(aos:List AO)(Ds:Nat→DS)(i s:Nat):Prop:=∃c o,c<s∧gM aos Ds c∧aos[c]? =some o∧Nat.testBit o.mask i=true
theorem Tr.pend(h:Tr aos base call Ds)(h0:(Ds 0).ps= [])(hb:∀k o i,aos[k]? =some o→Nat.testBit o.mask i=true→i<k):∀k,k≤aos.length→∀p∈(Ds k).ps,p.i<k∧p.id=base+p.i∧Made aos base Ds p.i p.b∧¬Laid aos Ds p.i k:=by
 intro k
 induction k with
 | zero=>intro _ p hp;rw[h0] at hp;cases hp
 | succ k ih=>
  intro hk p hp;have ho:aos[k]? =some aos[k]:=Ac (by omega);have old:¬gM aos Ds k→p∈(Ds k).ps→p.i<k+1∧p.id=base+p.i∧Made aos base Ds p.i p.b∧¬Laid aos Ds p.i (k+1):=by
   intro hc hp;obtain⟨a1,a2,a3,a4⟩:=ih (by omega) p hp;refine⟨by omega,a2,a3,?_⟩;rintro⟨c,o,h1,h2,h3⟩;rcases Bx c k with h4 | h4
   ·exact a4 ⟨c,o,h4,h2,h3⟩
   ·rw[show c=k by omega] at h2;exact hc h2
  cases h.kind ho with
  | no hw e=>rw[e] at hp;exact old (fun⟨o,x,h1,h2,h3⟩=>by rw[ho] at h1;cases h1;rw[hw] at h3;cases h3) hp
  | q q v hw ho' hv e=>rw[e] at hp;exact old (fun⟨o,x,h1,h2,h3⟩=>by rw[ho] at h1;cases h1;rw[ho'] at h2;cases h2) hp
  | a a v b hw ho' hv e=>
   have hnc:¬gM aos Ds k:=fun⟨o,x,h1,h2,h3⟩=>by rw[ho] at h1;cases h1;rw[ho'] at h2;cases h2
   rw[e] at hp;rcases Bg.1 hp with rfl | hp
   ·refine⟨Dy _,rfl,⟨_,a,v,ho,ho',hw,hv⟩,?_⟩;rintro⟨c,o,h1,h2,h3,h4⟩;have:=hb c o _ h3 h4;simp only at this;omega
   ·exact old hnc hp
  | x x v S hw ho' hl hv e=>
   rw[e] at hp;obtain⟨h1,h2⟩:=yW hp;obtain⟨a1,a2,a3,a4⟩:=ih (by omega) p h1;refine⟨by omega,a2,a3,?_⟩;rintro⟨c,o,h3,h4,h5,h6⟩;rcases Bx c k with h7 | h7
   ·exact a4 ⟨c,o,h7,h4,h5,h6⟩
   ·rw[show c=k by omega,ho] at h5;cases h5;rw[h2] at h6;cases h6
end
section
variable {P:Program}{σ σ' σ0:Env}{S S' S0:St}{w w' w0:World}
structure oZ(P:Program)(n0:Nat)(σ:Env)(S:St)(w:World)(id:Nat)(b:AB)(L:Loc):Prop where
 at_:σ id=some L
 ge:n0≤L.r
 lt:L.r<w.heap.size
 rep:nM P σ w L b
 own:sA b
 sep:∀c bl M,S.h.get c=some bl→σ c=some M→M.r≠L.r
theorem fL.grow(h:fL P σ0 S0 w0 σ S w){ob:Obj}{id e:Nat}(hid:σ id=none)(hlo:S0.nx≤id)(hhi:id<S.nx)(hw:w'.heap=w.heap.push ob)(ho:w'.os=w.os)(ht:w'.tape=w.tape)(hu:w'.output=w.output):
  fL P σ0 S0 w0 (upd σ id ⟨w.heap.size,0,e⟩) S w':=by
 have hold:∀r,r<w.heap.size→w'.heap[r]? =w.heap[r]? :=fun r hr=>by rw[hw,Ex,if_neg (by omega)]
 have hsz:w'.heap.size=w.heap.size+1:=by rw[hw];simp
 have hne:∀b bl,S.h.get b=some bl→b≠id:=fun b bl hb e=>by
  obtain⟨L,h1,_⟩:=h.rep.blk b bl hb;rw[e,hid] at h1;cases h1
 refine⟨⟨fun b bl hb=>?_,h.rep.lt,fun b hb=>?_,fun g hg=>eT hid _ _ (h.rep.glob g hg),?_⟩,fun b hb=>?_,h.nx,fun r hr hn=>?_,fun r hr=>?_,by have:=h.size;omega,ho.trans h.os,ht.trans h.tape,hu.trans h.output,h.ro⟩
 ·obtain⟨L,h1,h2,h3⟩:=h.rep.blk b bl hb;exact⟨L,eT hid _ _ h1,by omega,h3.frame (eT hid) (hold _ h2)⟩
 ·rw[dN _ (by omega)];exact h.rep.fresh b hb
 ·intro b b' bl bl' L L' h1 h2 h3 h4 h5 h6;rw[dN _ (hne _ _ h1)] at h5;rw[dN _ (hne _ _ h2)] at h6;exact h.rep.inj b b' bl bl' L L' h1 h2 h3 h4 h5 h6
 ·rw[dN _ (by omega)];exact h.low b hb
 ·rw[hold r (Ae hr h.size)];exact h.keep r hr hn
 ·obtain⟨b,bl,L,h1,h2,h3,rfl⟩:=hr;rw[dN _ (hne _ _ h1)] at h3;exact h.own _ ⟨b,bl,L,h1,h2,h3,rfl⟩
theorem oZ.grow{n0:Nat}{id:Nat}{b:AB}{L:Loc}(h:oZ P n0 σ S w id b L)(hR:iI P σ S w){ob:Obj}{i e:Nat}(hi:σ i=none)(hw:w'.heap=w.heap.push ob):
  oZ P n0 (upd σ i ⟨w.heap.size,0,e⟩) S w' id b L where
 at_:=eT hi _ _ h.at_
 ge:=h.ge
 lt:=by rw[hw];simp;have:=h.lt;omega
 rep:=h.rep.frame (eT hi) (by rw[hw,Ex,if_neg (by have:=h.lt;omega)])
 own:=h.own
 sep:=fun c bl M h1 h2=>by
  refine h.sep c bl M h1 ?_;rw[dN] at h2
  ·exact h2
  ·intro e;obtain⟨L',h3,_⟩:=hR.blk c bl h1;rw[e,hi] at h3;cases h3
theorem fL.lay(h:fL P σ0 S0 w0 σ S w){n0:Nat}(hn0:w0.heap.size≤n0){m:Nat}{ps:List iV}(hst:∀p∈ps,Nat.testBit m p.i=true→p.id<S.nx∧∃L,oZ P n0 σ S w p.id p.b L)
  (hd:∀p∈ps,∀q∈ps,Nat.testBit m p.i=true→Nat.testBit m q.i=true→p.id≠q.id→∀L L',σ p.id=some L→σ q.id=some L'→L.r≠L'.r):
  fL P σ0 S0 w0 σ ⟨(cH m ps S.h).2,S.nx⟩ w:=by
 refine⟨⟨fun b bl hb=>?_,fun b bl hb=>?_,h.rep.fresh,h.rep.glob,?_⟩,h.low,h.nx,h.keep,fun r hr=>?_,h.size,h.os,h.tape,h.output,fun b cs hb=>?_⟩
 ·rcases jL hb with⟨p,h1,h2,rfl,rfl⟩ | h1
  ·obtain⟨_,L,h3⟩:=hst p h1 h2;exact⟨L,h3.at_,h3.lt,h3.rep⟩
  ·exact h.rep.blk b bl h1
 ·rcases jL hb with⟨p,h1,h2,rfl,rfl⟩ | h1
  ·exact(hst p h1 h2).1
  ·exact h.rep.lt b bl h1
 ·intro b b' bl bl' L L' hb hb' ho hne hL hL';rcases jL hb with⟨p,h1,h2,rfl,rfl⟩ | h1<;>rcases jL hb' with⟨q,h1',h2',rfl,rfl⟩ | h1'
  ·exact hd p h1 q h1' h2 h2' hne L L' hL hL'
  ·obtain⟨_,M,h3⟩:=hst p h1 h2;have:=h3.at_;rw[hL] at this;cases this;exact(h3.sep b' bl' L' h1' hL').symm
  ·obtain⟨_,M,h3⟩:=hst q h1' h2';have:=h3.at_;rw[hL'] at this;cases this;exact h3.sep b bl L h1 hL
  ·exact h.rep.inj b b' bl bl' L L' h1 h1' ho hne hL hL'
 ·obtain⟨b,bl,L,hb,ho,hL,rfl⟩:=hr;rcases jL hb with⟨p,h1,h2,rfl,rfl⟩ | h1
  ·obtain⟨_,M,h3⟩:=hst p h1 h2;have:=h3.at_;rw[hL] at this;cases this;exact .inr (Ay hn0 h3.ge)
  ·exact h.own _ ⟨b,bl,L,h1,ho,hL,rfl⟩
 ·rcases jL hb with⟨p,h1,h2,rfl,h3⟩ | h1
  ·obtain⟨_,M,h4⟩:=hst p h1 h2;have:=h4.own;rw[h3] at this;exact this.elim
  ·exact h.ro b cs h1
theorem oZ.act{n0:Nat}{id:Nat}{b:AB}{L:Loc}(h:oZ P n0 σ S w id b L)(hR:iI P σ S w)(hE:fL P σ S w σ' S' w')(hid:id<S.nx):oZ P n0 σ' S' w' id b L:=by
 have hno:¬Own σ S L.r:=fun⟨c,bl,M,h1,h2,h3,h4⟩=>h.sep c bl M h1 h3 h4;refine⟨by rw[hE.low id hid];exact h.at_,h.ge,Ae h.lt hE.size,h.rep.frame (hE.mono hR) (hE.keep _ h.lt hno),h.own,?_⟩;intro c bl M h1 h2;by_cases ho:sA bl
 ·rcases hE.own M.r ⟨c,bl,M,h1,ho,h2,rfl⟩ with⟨c',bl',M',a1,a2,a3,a4⟩ | h3
  ·rw[←a4];exact h.sep c' bl' M' a1 a3
  ·have:=h.lt;omega
 ·cases bl with
  | ro cs=>
   have h3:=hE.ro c cs h1;rw[hE.low c (hR.lt c _ h3)] at h2;exact h.sep c _ M h3 h2
  | _=>exact absurd trivial ho
end
end Go.Ev
