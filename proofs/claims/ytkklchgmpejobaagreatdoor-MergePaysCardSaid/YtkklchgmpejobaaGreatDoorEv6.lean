import Derived.Test.YtkklchgmpejobaaGreatDoorEv5
import Derived.RangeFuncLeaves
import Derived.OrdersIn
namespace Go.Ev
variable {P:Program}
def aFw:Out→Exit
 | .normal=>.normal
 | .exit id=>.exit id
 | .ret=>.ret
structure Mark(lo:Nat)(σ:Env)(S:St)(w:World)(r:Nat):Prop where
 low:lo≤r
 lt:r<w.heap.size
 cell:w.heap[r]? =some (.deferred (some []))
 off:∀b bl L,S.h.get b=some bl→σ b=some L→L.r≠r
def aA0(r:Nat):Deferred:={target:=.collected r,args:= #[]}
def Df(lo:Nat)(inr:Bool)(σ:Env)(S:St)(w:World)(ds:List Deferred):Prop:=
 (inr=true→ds= [])∧∃rs:List Nat,ds=rs.map aA0∧rs.Nodup∧∀r∈rs,Mark lo σ S w r
theorem Mark.notOwn{lo r:Nat}{σ:Env}{S:St}{w:World}(h:Mark lo σ S w r):¬Own σ S r:=fun⟨b,bl,L,h1,_,h2,h3⟩=>h.off b bl L h1 h2 h3
theorem Mark.ext{lo r:Nat}{σ σ':Env}{S S':St}{w w':World}(h:Mark lo σ S w r)(hR:jM P σ S w)(e:gN P σ S w σ' S' w'):Mark lo σ' S' w' r where
 low:=h.low
 lt:=Ah h.lt e.size
 cell:=by rw[e.keep r h.lt h.notOwn];exact h.cell
 off:=fun b bl L hb hL hr=>by
  have own:vE bl→False:=fun ho=>by
   rcases e.own r ⟨b,bl,L,hb,ho,hL,hr⟩ with h1 | h1
   ·exact h.notOwn h1
   ·exact absurd h.lt (by omega)
  cases bl with
  | ro cs=>
   have h1:=e.ro b cs hb;exact h.off b _ L h1 (by rw[←e.low b (hR.lt b _ h1)];exact hL) hr
  | _=>exact own trivial
theorem Df.ext{lo:Nat}{inr:Bool}{σ σ':Env}{S S':St}{w w':World}{ds:List Deferred}(h:Df lo inr σ S w ds)(hR:jM P σ S w)(e:gN P σ S w σ' S' w'):Df lo inr σ' S' w' ds:=by
 obtain⟨h0,rs,h1,h2,h3⟩:=h;exact⟨h0,rs,h1,h2,fun r hr=>(h3 r hr).ext hR e⟩
theorem Df.nil{lo:Nat}{inr:Bool}{σ:Env}{S:St}{w:World}:Df lo inr σ S w []:=⟨fun _=>rfl,[],rfl,by simp,fun r hr=>by cases hr⟩
def sM(P:Program)(code:AC→bQ→St→Option (Out×bQ×St)):Prop:=
 ∀ (ro:Option Nat) (n nt:Nat) (C:Code) (c:AC),jZ P nt C=some c→∀ (A:bQ) (S:St) (o:Out) (A':bQ) (S':St),(A.inr=false→ro=none)→code c A S=some (o,A',S')→
  ∀ (lo:Nat) (σ:Env) (a:Act) (w:World) (Q:Exit→Act→World→Prop),a.tmps.size=nt→Df lo A.inr σ S w a.defers→lo≤w.heap.size→oU P σ A.F a.tmps→jM P σ S w→
   (∀σ' a' w',A'.inr=A.inr→a'.tmps.size=nt→Df lo A.inr σ' S' w' a'.defers→oU P σ' A'.F a'.tmps→gN P σ S w σ' S' w'→Q (aFw o) a' w')→C.wpIn (Fw ro) n P Q a w
def aEB(P:Program)(call:eU):Prop:=
 ∀ (ro:Option Nat) (n nt id:Nat) (ops:Array Oper) (aos:List AO),aEX P nt ops=some (.drw aos)→∀ (σ:Env) (F F':Fr) (S S':St) (a:Act) (w:World) (Q:Exit→Act→World→Prop),
  a.tmps.size=nt→oU P σ F a.tmps→jM P σ S w→xC aos call F S=some (F',S')→
  (∀σ' a' w',oU P σ' F' a'.tmps→a'.tmps.size=nt→a'.defers=a.defers→gN P σ S w σ' S' w'→Q .normal a' w')→(Code.region id ops true).wpIn (Fw ro) n P Q a w
structure aIQ(P:Program)(fns:T cV)(id:Nat)(fn:cV):Prop where
 none:fn.ntmps=0
 has:∃Fn C,P.funcs[id]? =some Fn∧Fn.body=some C∧¬ (Fn.name== "runtime.NumGoroutine")=true
 ok:∀ (n:Nat) (S S':St) (v:AV),vS fn [] (ev fns n) S=some (v,S')→∀ (σ:Env) (w:World) (fv:Value),Rv P σ (.fn id [] []) fv→jM P σ S w→
  oF P (fun V w'=>∃σ',Rv P σ' v V∧gN P σ S w σ' S' w') ((do let d ←Deferred.ofValue fv ⟨[]⟩;invoke d.target d.args:Sem Next).run P w)
structure vI(P:Program)(fns:T cV):Prop where
 asked:yF P
 bits:mH P
 fn:∀id fn,fns.get id=some fn→(∃Fn,P.funcs[id]? =some Fn∧cFn P Fn=some fn)∨aIQ P fns id fn
 drawn:∀call,kC P call→aEB P call
def aEW(tmps:Array Value)(r:ResultVar):Sem Value:=
 match r with
 | .tmp t=>pure (tmps.getD t undef)
 | .cell a t=>do loadVar t (←asAddr (tmps.getD a undef))
theorem oH{σ:Env}{S:St}{w:World}(hR:jM P σ S w){F:Fr}{tmps:Array Value}(hF:oU P σ F tmps):∀ {rs:List ResultVar} {rvs:List RV} {vs:List AV},aF9 P rs=some rvs→results rvs F S.h=some vs→
  ∃Vs,(rs.mapM (aEW tmps)).run P w= .ok Vs w∧gO P σ vs Vs
 | [],rvs,vs,hc,h=>by
  simp only[aF9,Al] at hc;subst hc;simp only[results,Al] at h;subst h;exact⟨[],rfl,cO.2 rfl⟩
 | .tmp t::rs,rvs,vs,hc,h=>by
  simp only[aF9,Au] at hc;obtain⟨rvs',hc,rfl⟩:=hc;simp only[results] at h;obtain⟨vs',h1,h2⟩:=aJ h;cases h2;obtain⟨Vs,h3,h4⟩:=oH hR hF hc h1;refine⟨tmps.getD t undef::Vs,?_,cJ.2 ⟨_,_,rfl,hF.get t,h4⟩⟩;have hst:(aEW tmps (.tmp t)).run P w= .ok (tmps.getD t undef) w:=rfl;rw[List.mapM_cons];simp only[Sem.run_bind,hst,Sem.run_pure,Result.andThen_ok,h3]
 | .cell a t::rs,rvs,vs,hc,h=>by
  simp only[aF9] at hc;split at hc
  ·rename_i agg n rvs' hag hc';cases hc;simp only[results] at h;obtain⟨v,h0,h⟩:=aJ h;obtain⟨vs',h1,h2⟩:=aJ h;cases h2;obtain⟨Vs,h3,h4⟩:=oH hR hF hc' h1;have ha:=hF.get a;unfold aQt at h0;split at h0
   ·rename_i b off hb;rw[hb] at ha;simp only[Rv] at ha;obtain⟨L,hL,ha⟩:=ha;obtain⟨L',V,hL',h5,h6⟩:=wS hag hR h0;rw[hL] at hL';cases hL';refine⟨V::Vs,?_,cJ.2 ⟨_,_,rfl,h6,h4⟩⟩;have hst:(aEW tmps (.cell a t)).run P w= .ok V w:=by simp [aEW,ha,asAddr,h5]
    rw[List.mapM_cons];simp only[Sem.run_bind,hst,Sem.run_pure,Result.andThen_ok,h3]
   ·cases h0
  ·cases hc
theorem aBC{σ:Env}{vs:List AV}{Vs:List Value}(h:gO P σ vs Vs):Rv P σ (oneOf vs) (if h:Vs.toArray.size=1 then Vs.toArray[0] else .tuple Vs.toArray):=by
 cases vs with
 | nil=>
  rw[cO] at h;subst h;simp only[oneOf,Rv];exact⟨[],rfl,cO.2 rfl⟩
 | cons v vs=>
  cases vs with
  | nil=>
   rw[cJ] at h;obtain⟨V,Ws,rfl,h1,h2⟩:=h;rw[cO] at h2;subst h2;simpa [oneOf] using h1
  | cons u us=>
   have hl:=h.length;rw[dif_neg (by simp;simp at hl;omega)];simp only[oneOf,Rv];exact⟨Vs,rfl,h⟩
theorem aDg:∀ (vs:List AV) (i:Nat) (F:Fr) (t:Nat),aD t (sL vs i F)=if i≤t∧t<i+vs.length then(vs[t - i]?).getD .undef else aD t F
 | [],i,F,t=>by rw[if_neg (by simp)];rfl
 | v::vs,i,F,t=>by
  simp only[sL];rw[aDg vs (i+1) _ t,vQ];by_cases h1:t=i
  ·subst h1;rw[if_neg (by omega),if_pos rfl,if_pos (by simp)];simp
  ·by_cases h2:i+1≤t∧t<i+1+vs.length
   ·rw[if_pos h2,if_pos (by simp;omega),show t - i=(t - (i+1))+1 by omega];simp
   ·rw[if_neg h2,if_neg h1,if_neg (by simp;omega)]
theorem aCC{σ:Env}{args:List AV}{Args:List Value}(h:gO P σ args Args){nt:Nat}(hn:args.length≤nt):
  oU P σ (sL args 0 .e) ((⟨Args⟩:Array Value)++Array.replicate (nt - Args.length) undef)∧((⟨Args⟩:Array Value)++Array.replicate (nt - Args.length) undef).size=nt:=by
 have hl:=h.length;have hund:Rv P σ .undef undef:=by simp only[AV.undef,undef,Rv];exact⟨[],rfl,cO.2 rfl⟩
 refine⟨⟨fun t=>?_⟩,by simp;omega⟩;rw[aDg];by_cases ht:t<args.length
 ·rw[if_pos ⟨Bt _,by omega⟩,Nat.sub_zero,Ab ht];obtain⟨V,h1,h2⟩:=h.get (Ab ht);rw[Bd,Array.getElem?_append_left (by simp;omega)];simp only[List.getElem?_toArray,h1,Fk];exact h2
 ·rw[if_neg (by omega)];have:((⟨Args⟩:Array Value)++Array.replicate (nt - Args.length) undef).getD t undef=undef:=by
   rw[Bd,Array.getElem?_append_right (by simp;omega)];simp only[Array.getElem?_replicate];split<;>rfl
  rw[this];exact hund
theorem aFV:Fw none=Fence.wide:=rfl
theorem aNI(l:Nat):Fw (some l)=Fence.wide.inRound l:=rfl
theorem rQ{w:World}{r:Nat}{o:Obj}(o':Obj)(h:w.heap[r]? =some o):({w with heap:=w.heap.setIfInBounds r o'}:World).heap[r]? =some o':=by
 have:=(Ee.1 h).1;simp [this]
theorem kD{w:World}{r r':Nat}(o':Obj)(h:r'≠r):({w with heap:=w.heap.setIfInBounds r o'}:World).heap[r']? =w.heap[r']? :=by
 simp [Da h]
theorem run_getLoop{w:World}{r:Nat}{lp:Loop}(h:w.heap[r]? =some (.loop lp)):(Instr.getLoop r).run P w= .ok lp w:=by
 simp [Instr.getLoop,yJ h (fun _ _ _ e=>by cases e)]
theorem gN.poke{σ0 σ:Env}{S0 S:St}{w0 w w':World}(h:gN P σ0 S0 w0 σ S w){r:Nat}(hr:w0.heap.size≤r)(off:∀b bl L,S.h.get b=some bl→σ b=some L→L.r≠r)
  (hh:∀r',r'≠r→w'.heap[r']? =w.heap[r']?) (hsz:w'.heap.size=w.heap.size) (ho:w'.os=w.os) (ht:w'.tape=w.tape) (hu:w'.output=w.output):gN P σ0 S0 w0 σ S w' where
 rep:=⟨fun b bl hb=>by
  obtain⟨L,h1,h2,h3⟩:=h.rep.blk b bl hb;exact⟨L,h1,by omega,h3.frame (fun _ _ x=>x) (hh _ (off b bl L hb h1))⟩,h.rep.lt,h.rep.fresh,h.rep.glob,h.rep.inj⟩
 low:=h.low
 nx:=h.nx
 keep:=fun r' h1 h2=>by rw[hh r' (by omega)];exact h.keep r' h1 h2
 own:=h.own
 size:=by rw[hsz];exact h.size
 os:=ho.trans h.os
 tape:=ht.trans h.tape
 output:=hu.trans h.output
 ro:=h.ro
theorem leaves{fn:Func}{n:Nat}{tmps:Array Value}{R:Ending→World→Prop}{σ0 σ:Env}{S0 S:St}{w0:World}:∀ (rs:List Nat) (w:World),rs.Nodup→(∀r∈rs,Mark w0.heap.size σ S w r)→gN P σ0 S0 w0 σ S w→
  (∀w',gN P σ0 S0 w0 σ S w'→∃v,(Go.results fn tmps).run P w'= .ok v w'∧R (.returned v) w')→LeavesInM Fence.wide n P fn tmps R (rs.map aA0) .returning w
 | [],w,_,_,he,hQ=>hQ w he
 | r::rs,w,hn,hm,he,hQ=>by
  have hr:=hm r (by simp);rw[List.nodup_cons] at hn;refine⟨by simp,.inl ⟨r,{w with heap:=w.heap.setIfInBounds r (.deferred none)},rfl,?_,?_⟩⟩
  ·simp only[Instr.takeDeferred,Sem.run_bind,yJ hr.cell (fun _ _ _ e=>by cases e),Result.andThen_ok,oG hr.cell (fun _ _ _ e=>by cases e),Sem.run_pure]
  ·refine leaves rs _ hn.2 (fun r' hr'=>?_) (he.poke hr.low hr.off (fun r' h=>kD _ h) (by simp) rfl rfl rfl) hQ;have h1:=hm r' (by simp [hr']);have hne:r'≠r:=fun e=>hn.1 (e ▸ hr');exact⟨h1.low,by simpa using h1.lt,by rw[kD _ hne];exact h1.cell,h1.off⟩
theorem lT{id:Nat}{Fn:Func}{C:Code}{A B Args:List Value}{w:World}(hFn:P.funcs[id]? =some Fn)(hbody:Fn.body=some C)(hname:¬ (Fn.name== "runtime.NumGoroutine")=true):
  ((do let d ←Deferred.ofValue (.func (.func id) ⟨A⟩ ⟨B⟩) ⟨Args⟩;invoke d.target d.args:Sem Next)).run P w= .ok (.enter id ⟨A++(Args++B)⟩) w:=by
 simp only[Deferred.ofValue,Sem.run_bind,Sem.run_pure,Result.andThen_ok,invoke,callFunc,run_program,hFn];rw[if_neg hname];simp [hbody]
theorem aDO{Fn:Func}{fn:cV}(hc:cFn P Fn=some fn):∃C c rs,Fn.body=some C∧¬ (Fn.name== "runtime.NumGoroutine")=true∧jZ P Fn.ntmps C=some c∧aF9 P Fn.results.toList=some rs∧fn=⟨Fn.ntmps,rs,c⟩:=by
 unfold cFn at hc;rw[Bc] at hc;split at hc
 ·cases hc
 ·rename_i hname;split at hc
  ·rename_i C hbody;split at hc
   ·rename_i c rs hC hrs;cases hc;exact⟨C,c,rs,hbody,hname,hC,hrs,rfl⟩
   ·cases hc
  ·cases hc
theorem wK{σ:Env}:∀ {ps:List Nat} {args:List AV} {Args:List Value} {F F':Fr} {tmps:Array Value},mN ps args F=some F'→gO P σ args Args→oU P σ F tmps→(∀p∈ps,p<tmps.size)→
  args.length=ps.length∧oU P σ F' ((ps.zip Args).foldl (fun tmps (t,a)=>tmps.setIfInBounds t a) tmps)∧((ps.zip Args).foldl (fun tmps (t,a)=>tmps.setIfInBounds t a) tmps).size=tmps.size
 | [],[],Args,F,F',tmps,h,ha,hF,_=>by
  simp only[mN,Al] at h;subst h;exact⟨rfl,by simpa using hF,by simp⟩
 | [],_::_,Args,F,F',tmps,h,ha,hF,_=>by simp [mN] at h
 | _::_,[],Args,F,F',tmps,h,ha,hF,_=>by simp [mN] at h
 | p::ps,v::vs,Args,F,F',tmps,h,ha,hF,hp=>by
  rw[cJ] at ha;obtain⟨V,Ws,rfl,hv,ha⟩:=ha;simp only[mN] at h;have hlt:=hp p (by simp);have hF1:oU P σ (F.set p (some v)) (tmps.setIfInBounds p V):=⟨fun t=>by
   rw[vQ];by_cases ht:t=p
   ·subst ht;rw[if_pos rfl,Bd,Array.getElem?_setIfInBounds_self_of_lt hlt];exact hv
   ·rw[if_neg ht,Bd,Array.getElem?_setIfInBounds_ne (Da ht),←Bd];exact hF.get t⟩
  obtain⟨h1,h2,h3⟩:=wK h ha hF1 (fun q hq=>by simpa using hp q (by simp [hq]));exact⟨by simp [h1],by simpa using h2,by simpa using h3⟩
theorem aGq{ih:Evs}(hcode:sM P ih.code){bl:AB}{b:Nat}{args:List AV}{S S':St}{v:AV}(hb:S.h.get b=some bl)(h:yH bl b args ih S=some (v,S')){σ:Env}{w:World}{L:Loc}{Args:List Value}
  (hL:σ b=some L) (hargs:gO P σ args Args) (hR:jM P σ S w):
  oF P (fun V w'=>∃σ',Rv P σ' v V∧gN P σ S w σ' S' w') ((Instr.yield L.r ⟨Args⟩).run P w):=by
 cases bl<;>simp only[yH,reduceCtorEq] at h;rename_i st pend fr ps as bd;cases st<;>simp only[reduceCtorEq] at h;obtain⟨F,hF,h⟩:=aJ h;obtain⟨⟨o1,A1,S1⟩,h1,h⟩:=aJ h;obtain⟨L',hL',hlt,lp,hlp,hst,hpend,hfr,hps,has,hbd,hpb⟩:=hR.blk b _ hb;rw[hL] at hL';cases hL';obtain⟨hlen,hfr',hsz⟩:=wK hF hargs hfr hpb;have hAl:=hargs.length;have hpl:lp.params.size=ps.length:=by rw[←hps];simp
 have hrun:(Instr.yield L.r ⟨Args⟩).run P w= .ok (.round L.r lp.fn ((ps.zip Args).foldl (fun tmps (t,a)=>tmps.setIfInBounds t a) lp.tmps) lp.assign lp.body) w:=by
  have hsz':(⟨Args⟩:Array Value).size=lp.params.size:=by simp;omega
  have hfold:(lp.params.zip ⟨Args⟩).foldl (fun tmps (t,a)=>tmps.setIfInBounds t a) lp.tmps=(ps.zip Args).foldl (fun tmps (t,a)=>tmps.setIfInBounds t a) lp.tmps:=by
   rw[←Array.foldl_toList,Array.toList_zip,hps]
  simp only[Instr.yield,Sem.run_bind,run_getLoop hlp,Result.andThen_ok,hsz',ne_eq,Cg,Cr,Sem.run_pure,hfold]
 rw[hrun];show RoundIn Fence.wide 0 P L.r lp.fn _ lp.assign lp.body w _;refine roundIn_of_wpIn trivial ?_;rw[←aNI];refine hcode (some L.r) 0 lp.tmps.size lp.assign as has ⟨F,true⟩ S o1 A1 S1 (fun h=>by cases h) h1 w.heap.size σ {tmps:=(ps.zip Args).foldl (fun tmps (t,a)=>tmps.setIfInBounds t a) lp.tmps,defers:=[]} w _ hsz Df.nil (Ag _) hfr' hR ?_;intro σ1 a1 w1 i1 s1 d1 f1 e1;cases o1<;>simp only[aCo,reduceCtorEq] at h;obtain⟨bl1,hb1,h⟩:=aJ h;cases bl1<;>simp only[rJ,reduceCtorEq] at h;rename_i st1 pend1 fr1 ps1 as1 bd1;cases st1<;>simp only[reduceCtorEq] at h;obtain⟨⟨o2,A2,S2⟩,h2,h⟩:=aJ h;obtain⟨bl2,hb2,h⟩:=aJ h;obtain⟨L1,hL1,hlt1,lp1,hlp1,hst1,hpend1,hfr1,hps1,has1,hbd1,hpb1⟩:=e1.rep.blk b _ hb1;have:=e1.mono hR b L hL;rw[this] at hL1;cases hL1;have hbeg:(Instr.beginRound L.r).run P w1= .ok () {w1 with heap:=w1.heap.setIfInBounds L.r (.loop {lp1 with state:=.busy})}:=by
  simp only[Instr.beginRound,Sem.run_bind,run_getLoop hlp1,Result.andThen_ok,oG hlp1 (fun _ _ _ e=>by cases e),hst1,aMa,Sem.run_pure]
 refine⟨_,hbeg,?_⟩;have e2:gN P σ1 S1 w1 σ1 ⟨S1.h.set b (some (.loop .busy pend1 fr1 ps1 as1 bd1)),S1.nx⟩ {w1 with heap:=w1.heap.setIfInBounds L.r (.loop {lp1 with state:=.busy})}:=
  gN.write e1.rep hb1 trivial trivial this (fun r hr=>kD _ hr) (by simp) rfl rfl rfl ⟨_,rQ _ hlp1,rfl,hpend1,hfr1,hps1,has1,hbd1,hpb1⟩
 have i1':A1.inr=true:=i1;have h2':ih.code bd A1 ⟨S1.h.set b (some (.loop .busy pend1 fr1 ps1 as1 bd1)),S1.nx⟩=some (o2,A2,S2):=h2;have d1':Df w.heap.size A1.inr σ1 S1 w1 a1.defers:=by rw[i1];exact d1
 refine hcode (some L.r) 0 lp.tmps.size lp.body bd hbd A1 _ o2 A2 S2 (fun h=>by rw[i1'] at h;cases h) h2' w.heap.size σ1 a1 _ _ s1 (d1'.ext e1.rep e2) (by have:=e1.size;simpa using this) f1 e2.rep ?_;intro σ2 a2 w2 i2 s2 d2 f2 e3;cases bl2<;>simp only[sT,reduceCtorEq] at h;rename_i st2 pend2 fr2 ps2 as2 bd2;cases st2<;>simp only[reduceCtorEq] at h;obtain⟨L2,hL2,hlt2,lp2,hlp2,hst2,hpend2,hfr2,hps2,has2,hbd2,hpb2⟩:=e3.rep.blk b _ hb2;have hL2':=e3.mono e2.rep b L this;rw[hL2'] at hL2;cases hL2;have fin:∀ (p:Option Out) (st:LSt) (j:Option Code) (bb:Bool),aMa st=(if j.isNone then .ready else .done)→p.bind codeOf=j→bb=j.isNone→v= .bool bb→
   S'=⟨S2.h.set b (some (.loop st p fr2 ps2 as2 bd2)),S2.nx⟩→∃V w',(Instr.endRound L.r j).run P w2= .ok V w'∧∃σ',Rv P σ' v V∧gN P σ S w σ' S' w':=by
  intro p st j bb e1' e2' e3' e4' e5';have hend:(Instr.endRound L.r j).run P w2= .ok (.bool j.isNone) {w2 with heap:=w2.heap.setIfInBounds L.r (.loop {lp2 with state:=if j.isNone then .ready else .done,pending:=j})}:=by
   simp only[Instr.endRound,Sem.run_bind,run_getLoop hlp2,Result.andThen_ok,oG hlp2 (fun _ _ _ e=>by cases e),Sem.run_pure]
  refine⟨_,_,hend,σ2,by rw[e4',e3'];simp only[Rv],?_⟩;rw[e5'];exact e1.trans (e2.trans (e3.trans (gN.write e3.rep hb2 trivial trivial hL2' (fun r hr=>kD _ hr) (by simp) rfl rfl rfl ⟨_,rQ _ hlp2,e1'.symm,e2'.symm,hfr2,hps2,has2,hbd2,hpb2⟩)))
 cases o2 with
 | normal=>cases h;exact fin none .ready none true rfl rfl rfl rfl rfl
 | ret=>cases h;exact fin (some .ret) .done (some .ret) false rfl rfl rfl rfl rfl
 | exit id=>cases h;exact fin (some (.exit id)) .done (some (.exit id)) false rfl rfl rfl rfl rfl
theorem aDB{fns:T cV}(hK:vI P fns){n:Nat}(hcode:sM P (ev fns n).code):kC P (vM fns (ev fns n)):=by
 intro f args S v S' h σ w fv Args hf hargs hR;cases f<;>simp only[vM,reduceCtorEq] at h
 ·rename_i id first cap;obtain⟨fn,hfn,h⟩:=aJ h;rcases hK.fn id fn hfn with⟨Fn,hFn,hc⟩ | hfk
  case inr=>
   obtain⟨hle,_⟩:=bR (show bN (Nat.ble (jK (wY first (wY args cap))) fn.ntmps) _ _=_ from h);rw[hfk.none,dO,gD,gD] at hle;have hz:=Ar hle;simp only[Ai] at hz;have h1:first= []:=Cf.1 (by omega);have h2:args= []:=Cf.1 (by omega);have h3:cap= []:=Cf.1 (by omega);subst h1;subst h2;subst h3;have hA:=cO.1 hargs;subst hA;exact hfk.ok n S S' v h σ w fv hf hR
  simp only[Rv] at hf;obtain⟨A,B,rfl,hA,hB⟩:=hf;obtain⟨C,c,rs,hbody,hname,hC,hrs,rfl⟩:=aDO hc;unfold vS at h;obtain⟨hle,h⟩:=bR h;obtain⟨⟨o,A',S1⟩,h1,h2⟩:=aJ h;rw[dO,gD,gD] at hle;have hle:=Ar hle;rw[gD,gD] at h1;have hall:gO P σ (first++(args++cap)) (A++(Args++B)):=hA.append (hargs.append hB);rw[lT hFn hbody hname];show CallsIn Fence.wide 0 P id ⟨A++(Args++B)⟩ w _;obtain⟨hfr,hsz⟩:=aCC hall (nt:=Fn.ntmps) hle;refine callsIn_of_wp_marks hFn hbody trivial ?_;have hsz0:(⟨A++(Args++B)⟩:Array Value).size=(A++(Args++B)).length:=rfl;rw[←aFV,hsz0];refine hcode none 0 Fn.ntmps C c hC ⟨sL (first++(args++cap)) 0 .e,false⟩ S o A' S1 (fun _=>rfl) h1 w.heap.size σ _ w _ hsz Df.nil (Ag _) hfr hR ?_;intro σ' a' w' hinr hsz' hdf hfr' hext;obtain⟨_,rks,hd,hnd,hmk⟩:=hdf;unfold aE1 at h2;obtain⟨vs,h6,h7⟩:∃vs,results rs A'.F S1.h=some vs∧some (oneOf vs,S1)=some (v,S'):=by
   cases o with
   | normal=>exact aJ h2
   | ret=>exact aJ h2
   | exit i=>cases h2
  cases h7;have fin:∀w'',gN P σ S w σ' S' w''→∃V,(Go.results Fn a'.tmps).run P w''= .ok V w''∧∃σ',Rv P σ' (oneOf vs) V∧gN P σ S w σ' S' w'':=fun w'' hx=>by
   obtain⟨Vs,h8,h9⟩:=oH hx.rep hfr' hrs h6;refine⟨_,?_,σ',aBC h9,hx⟩;show((do let vs ←Fn.results.mapM (aEW a'.tmps);pure (if h:vs.size=1 then vs[0] else .tuple vs):Sem Value)).run P w''=_;rw[Array.mapM_eq_mapM_toList];simp only[Sem.run_bind,Sem.run_map,h8,Result.andThen_ok,Sem.run_pure]
  cases o with
  | normal=>
   show LeavesInM Fence.wide 0 P Fn a'.tmps _ a'.defers .returning w';rw[hd];exact leaves rks w' hnd hmk hext fin
  | ret=>
   show LeavesInM Fence.wide 0 P Fn a'.tmps _ a'.defers .returning w';rw[hd];exact leaves rks w' hnd hmk hext fin
  | exit i=>cases h2
 ·rename_i b;obtain⟨bl,hb,h⟩:=aJ h;simp only[Rv] at hf;obtain⟨L,hL,rfl⟩:=hf;have hrun:((do let d ←Deferred.ofValue (.func (.yield L.r) #[] #[]) ⟨Args⟩;invoke d.target d.args:Sem Next)).run P w=(Instr.yield L.r ⟨Args⟩).run P w:=by
   simp [Deferred.ofValue,invoke]
  rw[hrun];exact aGq hcode hb h hL hargs hR
theorem aDm{fns:T cV}{ro:Option Nat}{m nt:Nat}{C:Code}{c:AC}(hC:jZ P nt C=some c):∀ (n:Nat),(∀k,k<n→sM P (ev fns k).code)→
  ∀ (A:bQ) (S:St) (o:Out) (A':bQ) (S':St),(A.inr=false→ro=none)→(ev fns n).code (.loop c) A S=some (o,A',S')→
  ∀ (lo:Nat) (σ:Env) (a:Act) (w:World) (Q:Exit→Act→World→Prop),a.tmps.size=nt→Df lo A.inr σ S w a.defers→lo≤w.heap.size→oU P σ A.F a.tmps→jM P σ S w→
   (∀σ' a' w',A'.inr=A.inr→a'.tmps.size=nt→Df lo A.inr σ' S' w' a'.defers→oU P σ' A'.F a'.tmps→gN P σ S w σ' S' w'→Q (aFw o) a' w')→Code.roundsIn (Fw ro) m P C Q n a w
 | 0,_,A,S,o,A',S',_,h=>by cases h
 | n+1,hk,A,S,o,A',S',hds,h=>by
  intro lo σ a w Q hsz hdef hlo hF hR hQ;obtain⟨⟨o1,A1,S1⟩,h1,h2⟩:=aJ (show(aX ((ev fns n).code c A S) (tE (.loop c) (ev fns n)))=some (o,A',S') from h);show C.wpIn (Fw ro) m P (Exit.then (Code.roundsIn (Fw ro) m P C Q n) Q) a w;refine hk n (Fb n) ro m nt C c hC A S o1 A1 S1 hds h1 lo σ a w _ hsz hdef hlo hF hR ?_;intro σ1 a1 w1 i1 s1 d1 f1 e1;obtain⟨F1,q1⟩:=A1;simp only at i1;subst i1;have l1:=Ap hlo e1.size;unfold tE at h2;cases o1 with
  | normal=>exact aDm hC n (fun k hlt=>hk k (by omega)) ⟨F1,A.inr⟩ S1 o A' S' hds h2 lo σ1 a1 w1 Q s1 d1 l1 f1 e1.rep (fun σ' a' w' q1 q2 q3 q4 q5=>hQ σ' a' w' q1 q2 q3 q4 (e1.trans q5))
  | exit i=>cases h2;exact hQ σ1 a1 w1 rfl s1 d1 f1 e1
  | ret=>cases h2;exact hQ σ1 a1 w1 rfl s1 d1 f1 e1
theorem aJR{fns:T cV}(hK:vI P fns){n:Nat}(ih:sM P (ev fns n).code)(hcall:kC P (ev fns n).call)(_:∀k,n=k+1→sM P (ev fns k).code){ro:Option Nat}{m nt:Nat}
  {f:Operand} {ps:Array Tmp} {x y:Code} {cf:cK} {cx cy:AC} (hf:eX P f=some cf) (hx:jZ P nt x=some cx) (hy:jZ P nt y=some cy) (hps:ps.toList.all (fun p=>Nat.blt p nt)=true)
  {A A':bQ} {S S':St} {o:Out} (hro:A.inr=false→ro=none) (h:(ev fns (n+1)).code (.rng cf ps.toList cx cy) A S=some (o,A',S'))
  {lo:Nat} {σ:Env} {a:Act} {w:World} {Q:Exit→Act→World→Prop} (hsz:a.tmps.size=nt) (hdef:Df lo A.inr σ S w a.defers) (hlo:lo≤w.heap.size) (hF:oU P σ A.F a.tmps) (hR:jM P σ S w)
  (hQ:∀σ' a' w',A'.inr=A.inr→a'.tmps.size=nt→Df lo A.inr σ' S' w' a'.defers→oU P σ' A'.F a'.tmps→gN P σ S w σ' S' w'→Q (aFw o) a' w'):(Code.rangeFunc f ps x y).wpIn (Fw ro) m P Q a w:=by
 have h:bN A.inr none (bN (aMq (cf.val A.F))
  (aX ((ev fns n).call (cf.val A.F) [.yld S.nx] ⟨S.h.set S.nx (some (.loop .ready none A.F ps.toList cx cy)),Nat.succ S.nx⟩) fun r=>
   aX (r.2.h.get S.nx) fun bl=>aBv bl S.nx A r.2 (ev fns n)) none)=some (o,A',S'):=h
 cases hinr:A.inr with
 | true=>rw[hinr,aL] at h;cases h
 | false=>
  rw[hinr,aQ] at h;have:=hro hinr;subst this;obtain⟨hfn,h⟩:=bR h;obtain⟨⟨v1,S1⟩,h1,h⟩:=aJ h;obtain⟨bl,hbl,h⟩:=aJ h;simp only at hbl h;have hfv:=bL (a:=a) hF hR hf;cases hcf:cf.val A.F<;>rw[hcf] at hfn<;>simp only[aMq,Ax] at hfn;rename_i id first cap;rw[hcf] at hfv h1;have hfv':=hfv;simp only[Rv] at hfv;obtain⟨FA,FB,hev,hA,hB⟩:=hfv;have hent:∃Fn C,P.funcs[id]? =some Fn∧Fn.body=some C∧¬ (Fn.name== "runtime.NumGoroutine")=true:=by
   cases n with
   | zero=>cases h1
   | succ k=>
    have h1':vM fns (ev fns k) (.fn id first cap) [.yld S.nx] _=some (v1,S1):=h1;simp only[vM] at h1';obtain⟨fn,hfn',_⟩:=aJ h1';rcases hK.fn id fn hfn' with⟨Fn,hFn,hc⟩ | hfk
    ·obtain⟨C,c,rs,hbody,hname,_⟩:=aDO hc;exact⟨Fn,C,hFn,hbody,hname⟩
    ·exact hfk.has
  obtain⟨Fn,C,hFn,hbody,hname⟩:=hent;rw[aFV];refine wpIn_rangeFunc fun fnid _=>?_;have ep:gN P σ S w σ S (w.alloc (.deferred (some []))):=by
   have hpush:∀r,r<w.heap.size→(w.alloc (.deferred (some []))).heap[r]? =w.heap[r]? :=fun r hr=>by
    show(w.heap.push _)[r]? =_;rw[Fi,if_neg (by omega)]
   have hsize:(w.alloc (.deferred (some []))).heap.size=w.heap.size+1:=by show(w.heap.push _).size=_;simp
   exact⟨⟨fun b bl hb=>by
    obtain⟨L,q1,q2,q3⟩:=hR.blk b bl hb;exact⟨L,q1,by omega,q3.frame (fun _ _ x=>x) (hpush _ q2)⟩,hR.lt,hR.fresh,hR.glob,hR.inj⟩,fun _ _=>rfl,Ag _,fun r hr _=>hpush r hr,fun _ ho=>.inl ho,by omega,rfl,rfl,rfl,fun _ _ hb=>hb⟩
  have hsize1:(w.alloc (.deferred (some []))).heap.size=w.heap.size+1:=by show(w.heap.push _).size=_;simp
  have hmk:Mark lo σ S (w.alloc (.deferred (some []))) w.heap.size:=by
   refine⟨hlo,by omega,?_,fun b bl L hb hL he=>?_⟩
   ·show(w.heap.push _)[w.heap.size]? =_;simp
   ·obtain⟨L',q1,q2,_⟩:=hR.blk b bl hb;rw[hL] at q1;cases q1;omega
  let lp:Loop:={state:=.ready,pending:=none,fn:=fnid,tmps:=a.tmps,params:=ps,assign:=x,body:=y,defers:=w.heap.size}
  have ea:gN P σ S (w.alloc (.deferred (some []))) (upd σ S.nx ⟨w.heap.size+1,0,0⟩) ⟨S.h.set S.nx (some (.loop .ready none A.F ps.toList cx cy)),Nat.succ S.nx⟩ ((w.alloc (.deferred (some []))).alloc (.loop lp)):=by
   have:=gN.alloc (P:=P) (bl:=.loop .ready none A.F ps.toList cx cy) (e:=0) (ob:=.loop lp) ep.rep (w':=(w.alloc (.deferred (some []))).alloc (.loop lp)) rfl rfl rfl rfl;rw[hsize1] at this;refine this ?_ trivial;refine⟨lp,?_,rfl,rfl,hF.mono (fU (hR.fresh _ (Ag _))),rfl,by rw[←hsz] at hx;exact hx,by rw[←hsz] at hy;exact hy,fun p hp=>?_⟩
   ·show((w.alloc (.deferred (some []))).heap.push (.loop lp))[w.heap.size+1]? =some (.loop lp);rw[←hsize1,Array.getElem?_push_size]
   ·have:=Dt.1 hps p hp;have:=Ar (show Nat.ble (p+1) nt=true from this);show p<a.tmps.size;omega
  have hsl:upd σ S.nx ⟨w.heap.size+1,0,0⟩ S.nx=some ⟨w.heap.size+1,0,0⟩:=upd_same _ _;have e2:=ep.trans ea;have hnext:=hcall (.fn id first cap) [.yld S.nx] _ v1 S1 h1 _ _ (.func (.func id) ⟨FA⟩ ⟨FB⟩) [.func (.yield (w.heap.size+1)) #[] #[]]
   (by rw[hev] at hfv';exact hfv'.mono (e2.mono hR)) (cJ.2 ⟨_,_,rfl,by simp only[Rv];exact⟨_,hsl,rfl⟩,cO.2 rfl⟩) e2.rep
  rw[lT hFn hbody hname] at hnext;have hnext:CallsIn Fence.wide 0 P id _ _ _:=hnext;refine⟨w.heap.size+1,[aA0 w.heap.size],(w.alloc (.deferred (some []))).alloc (.loop lp),{target:=.fn (.func id) ⟨FB⟩,args:=⟨FA⟩++ #[.func (.yield (w.heap.size+1)) #[] #[]]},(w.alloc (.deferred (some []))).alloc (.loop lp),id,
   ⟨FA++([.func (.yield (w.heap.size+1)) #[] #[]]++FB)⟩,(w.alloc (.deferred (some []))).alloc (.loop lp),?_,?_,fun _ _=>trivial,?_,fun hd=>by simp [Fence.wide] at hd,?_⟩
  ·have n1:∀ (o:Obj) (w:World),(newObj o).run P w= .ok w.heap.size (w.alloc o):=fun _ _=>rfl;simp only[Instr.enterLoop,Fence.wide,Sem.run_bind,n1,Result.andThen_ok,Sem.run_pure,hsize1];rfl
  ·show(Deferred.ofValue (a.eval f) _).run P _=_;rw[hev];simp [Deferred.ofValue,rangeCall,Act.eval]
  ·have:=lT (P:=P) (A:=FA) (B:=FB) (Args:=[.func (.yield (w.heap.size+1)) #[] #[]]) (w:=(w.alloc (.deferred (some []))).alloc (.loop lp)) hFn hbody hname;simpa [Deferred.ofValue] using this
  ·refine aBO (ro:=none) (CallsIn.mono hnext fun e w3 he=>?_);cases e with
   | returned V=>
    obtain⟨σ3,_,e3⟩:=he;have e13:=e2.trans e3;unfold aBv at h;split at h
    ·rename_i st pend fr ps' as bd;obtain⟨L,hL,hlt,lp3,hlp3,hst,hpend,hfr,hps3,has,hbd,hpb⟩:=e3.rep.blk S.nx _ hbl;have hL':=e3.mono e2.rep _ _ hsl;rw[hL'] at hL;cases hL;have hnb:(lp3.state== .busy)=false:=by
      rw[hst];cases st<;>first | (simp at h;done) | rfl
     have hpost:∃c,aOg pend=some c∧(ev fns n).code c A ⟨S1.h.set S.nx (some (.loop .exhausted pend fr ps' as bd)),S1.nx⟩=some (o,A',S'):=by
      cases st<;>first | (simp at h;done) | exact aJ h
     obtain⟨c,hc,hcode⟩:=hpost;obtain⟨w4,hw4⟩:∃w4:World,w4= {w3 with heap:=w3.heap.setIfInBounds (w.heap.size+1) (.loop {lp3 with state:=.exhausted})}:=⟨_,rfl⟩;refine⟨lp3.pending,w4,?_,?_⟩
     ·rw[hw4];simp only[Instr.endLoop,Sem.run_bind,run_getLoop hlp3,Result.andThen_ok,hnb,Ax,Cr,oG hlp3 (fun _ _ _ e=>by cases e),Sem.run_pure]
     ·have e4:gN P σ3 S1 w3 σ3 ⟨S1.h.set S.nx (some (.loop .exhausted pend fr ps' as bd)),S1.nx⟩ {w3 with heap:=w3.heap.setIfInBounds (w.heap.size+1) (.loop {lp3 with state:=.exhausted})}:=
       gN.write e3.rep hbl trivial trivial hL' (fun r hr=>kD _ hr) (by simp) rfl rfl rfl ⟨_,rQ _ hlp3,rfl,hpend,hfr,hps3,has,hbd,hpb⟩
      rw[←hw4] at e4;have e14:=e13.trans e4;have hd4:Df lo A.inr σ3 ⟨S1.h.set S.nx (some (.loop .exhausted pend fr ps' as bd)),S1.nx⟩ w4 ([aA0 w.heap.size]++a.defers):=by
       obtain⟨_,rs,d1,d2,d3⟩:=hdef;refine⟨fun hh=>(by rw[hinr] at hh;cases hh),w.heap.size::rs,(by rw[d1];rfl),List.nodup_cons.2 ⟨fun hm=>?_,d2⟩,fun r hr=>?_⟩
       ·exact absurd (d3 _ hm).lt (by omega)
       ·rcases Bi.1 hr with rfl | hr
        ·exact(hmk.ext ep.rep (ea.trans (e3.trans e4)))
        ·exact(d3 r hr).ext hR e14
      have hfin:=ih none m nt;have hA4:oU P σ3 A.F a.tmps:=hF.mono (e14.mono hR);have hlo4:=Ap hlo e14.size;rw[hpend];cases pend with
      | none=>
       cases hc;cases n with
       | zero=>cases hcode
       | succ k=>
        cases hcode;exact hQ σ3 _ _ rfl hsz hd4 hA4 e14
      | some out=>
       cases out with
       | normal=>cases hc
       | ret=>
        cases hc;exact hfin .ret .ret rfl A _ o A' S' (fun _=>rfl) hcode lo σ3 {a with defers:=[aA0 w.heap.size]++a.defers} _ Q hsz hd4 hlo4 hA4 e4.rep (fun σ' a' w' q1 q2 q3 q4 q5=>hQ σ' a' w' q1 q2 q3 q4 (e14.trans q5))
       | exit i=>
        cases hc;exact hfin (.exit i) (.exit i) rfl A _ o A' S' (fun _=>rfl) hcode lo σ3 {a with defers:=[aA0 w.heap.size]++a.defers} _ Q hsz hd4 hlo4 hA4 e4.rep (fun σ' a' w' q1 q2 q3 q4 q5=>hQ σ' a' w' q1 q2 q3 q4 (e14.trans q5))
    ·cases h
   | _=>exact he.elim
theorem aDr{fns:T cV}(hK:vI P fns):∀n,sM P (ev fns n).code:=by
 intro n
 induction n using Nat.strongRecOn with
 | _ n ihn=>
  cases n with
  | zero=>intro ro m nt C c hC A S o A' S' hds h;cases h
  | succ n=>
   have ih:=ihn n (Fb n);have hcall:kC P (ev fns n).call:=by
    cases n with
    | zero=>intro f args S v S' h;cases h
    | succ k=>exact aDB hK (ihn k (by omega))
   intro ro m nt C c hC A S o A' S' hds h lo σ a w Q hsz hdef hlo hF hR hQ;cases C with
   | skip=>
    cases hC;cases h;exact wpIn_skip (hQ σ a w rfl hsz hdef hF (gN.refl hR))
   | seq x y=>
    simp only[jZ] at hC;split at hC
    ·rename_i cx cy hx hy;cases hC;obtain⟨⟨o1,A1,S1⟩,h1,h2⟩:=aJ (show(aX ((ev fns n).code cx A S) (tE cy (ev fns n)))=some (o,A',S') from h);refine wpIn_seq (ih ro m nt x cx hx A S o1 A1 S1 hds h1 lo σ a w _ hsz hdef hlo hF hR ?_);intro σ1 a1 w1 i1 s1 d1 f1 e1;obtain⟨F1,q1⟩:=A1;simp only at i1;subst i1;have l1:=Ap hlo e1.size;unfold tE at h2;cases o1 with
     | normal=>exact ih ro m nt y cy hy ⟨F1,A.inr⟩ S1 o A' S' hds h2 lo σ1 a1 w1 Q s1 d1 l1 f1 e1.rep (fun σ' a' w' q1 q2 q3 q4 q5=>hQ σ' a' w' q1 q2 q3 q4 (e1.trans q5))
     | exit i=>cases h2;exact hQ σ1 a1 w1 rfl s1 d1 f1 e1
     | ret=>cases h2;exact hQ σ1 a1 w1 rfl s1 d1 f1 e1
    ·cases hC
   | cond x y z=>
    simp only[jZ] at hC;split at hC
    ·rename_i cc cy cz hx hy hz;cases hC;have h:aB0 (cc.val A.F) cy cz (ev fns n) A S=some (o,A',S'):=h;have hv:=bL (a:=a) hF hR hx;unfold aB0 at h;split at h
     ·rename_i t ht;rw[ht] at hv;simp only[Rv] at hv;refine wpIn_cond hv ?_;cases t
      ·exact ih ro m nt z cz hz A S o A' S' hds h lo σ a w Q hsz hdef hlo hF hR hQ
      ·exact ih ro m nt y cy hy A S o A' S' hds h lo σ a w Q hsz hdef hlo hF hR hQ
     ·cases h
    ·cases hC
   | block id x=>
    simp only[jZ,Au] at hC;obtain⟨cx,hx,rfl⟩:=hC;obtain⟨⟨o1,A1,S1⟩,h1,h2⟩:=aJ (show(aX ((ev fns n).code cx A S) (rO id))=some (o,A',S') from h);refine wpIn_block (ih ro m nt x cx hx A S o1 A1 S1 hds h1 lo σ a w _ hsz hdef hlo hF hR ?_);intro σ1 a1 w1 i1 s1 d1 f1 e1;obtain⟨F1,q1⟩:=A1;simp only at i1;subst i1;have l1:=Ap hlo e1.size;unfold rO at h2;cases o1 with
    | normal=>cases h2;exact hQ σ1 a1 w1 rfl s1 d1 f1 e1
    | ret=>cases h2;exact hQ σ1 a1 w1 rfl s1 d1 f1 e1
    | exit i=>
     simp only at h2;rw[cF] at h2;show(if i=id then Q .normal a1 w1 else Q (.exit i) a1 w1);split at h2
     ·rename_i he;rw[Bb] at he;rw[if_pos he];cases h2;exact hQ σ1 a1 w1 rfl s1 d1 f1 e1
     ·rename_i he;rw[Bb] at he;rw[if_neg he];cases h2;exact hQ σ1 a1 w1 rfl s1 d1 f1 e1
   | loop x=>
    simp only[jZ,Au] at hC;obtain⟨cx,hx,rfl⟩:=hC;exact wpIn_loop_rounds (n+1) (aDm hx (n+1) ihn A S o A' S' hds h lo σ a w Q hsz hdef hlo hF hR hQ)
   | exit id=>
    cases hC;cases h;exact wpIn_exit (hQ σ a w rfl hsz hdef hF (gN.refl hR))
   | ret=>
    cases hC;cases h;exact wpIn_ret (hQ σ a w rfl hsz hdef hF (gN.refl hR))
   | region id ops d=>
    simp only[jZ,Bc] at hC;split at hC
    ·rename_i hd;subst hd;obtain⟨aos,rfl⟩:∃aos,c= .drw aos:=by
      unfold aEX at hC;split at hC
      ·rw[Bc] at hC;split at hC
       ·cases hC;exact⟨_,rfl⟩
       ·cases hC
      ·cases hC
     obtain⟨⟨F1,S1⟩,h1,h2⟩:=aJ (show(aX (xC aos (ev fns n).call A.F S) fun r=>some (Out.normal,(⟨r.1,A.inr⟩:bQ),r.2))=some (o,A',S') from h);cases h2;exact hK.drawn _ hcall ro m nt id ops aos hC σ A.F F1 S S1 a w Q hsz hF hR h1 (fun σ' a' w' q1 q2 q3 q4=>hQ σ' a' w' rfl q2 (by rw[q3];exact hdef.ext hR q4) q1 q4)
    ·rename_i hd;have hd:d=false:=by simpa using hd
     subst hd;obtain⟨aos,haos,rfl⟩:=Au.1 hC;obtain⟨⟨F1,S1⟩,h1,h2⟩:=aJ (show(aX (vD aos (ev fns n).call A.F S) fun r=>some (Out.normal,(⟨r.1,A.inr⟩:bQ),r.2))=some (o,A',S') from h);cases h2;refine wpIn_region ?_;rw[List.range_eq_range',←Db];exact vO hK.asked hK.bits hcall ops.toList 0 [] aos σ A.F F1 S S1 a w (fun j=>by simp) haos hsz hF hR h1 (fun σ' a' w' q1 q2 q3 q4=>hQ σ' a' w' rfl q2 (by rw[q3];exact hdef.ext hR q4) q1 q4)
   | rangeFunc f ps x y=>
    simp only[jZ,Bc] at hC;split at hC
    ·rename_i hps;split at hC
     ·rename_i cf cx cy hf hx hy;cases hC;exact aJR hK ih hcall (fun k hk=>by subst hk;exact ihn k (by omega)) hf hx hy hps hds h hsz hdef hlo hF hR hQ
     ·cases hC
    ·cases hC
   | scope x=>cases hC
   | label l=>cases hC
   | goto l=>cases hC
   | refuse s=>cases hC
theorem aLN{fns:T cV}(hK:vI P fns)(n:Nat):kC P (ev fns n).call:=by
 cases n with
 | zero=>intro f args S v S' h;cases h
 | succ k=>exact aDB hK (aDr hK k)
end Go.Ev
namespace Go.Ev
def Agree(l:List Nat)(F F':Fr):Prop:=∀t∈l,aD t F=aD t F'
theorem Agree.left{l m:List Nat}{F F':Fr}(h:Agree (l++m) F F'):Agree l F F':=fun t ht=>h t (Dp _ ht)
theorem Agree.right{l m:List Nat}{F F':Fr}(h:Agree (l++m) F F'):Agree m F F':=fun t ht=>h t (Cz _ ht)
theorem cA{x:cK}{F F':Fr}(h:Agree x.rd F F'):x.val F=x.val F':=by
 cases x with
 | t i=>exact h i (by simp [cK.rd])
 | c v=>rfl
theorem mB{F F':Fr}:∀ {xs:List cK},Agree (rds xs) F F'→cW xs F=cW xs F'
 | [],_=>rfl
 | x::xs,h=>by
  show x.val F::cW xs F=x.val F'::cW xs F';rw[cA h.left,mB h.right]
theorem mS{x:Option cK}{F F':Fr}(d:Nat)(h:Agree (rdo x) F F'):iR F d x=iR F' d x:=by
 cases x with
 | none=>rfl
 | some x=>simp only[iR];rw[cA (show Agree x.rd F F' from h)]
theorem aAy{F F':Fr}:∀ {ps:List (Nat×Nat×cK)},Agree (rdp ps) F F'→eT F ps=eT F' ps
 | [],_=>rfl
 | (a,b,x)::ps,h=>by
  simp only[eT];rw[cA h.left,aAy h.right]
theorem yG{F F':Fr}(s:Nat):∀ {ps:List (Nat×cK)},Agree (aPK ps) F F'→jP s F ps=jP s F' ps
 | [],_=>rfl
 | (a,x)::ps,h=>by
  simp only[jP];rw[cA h.left,yG s h.right]
theorem pG{F F':Fr}{lo hi mx:Option cK}(a b:Nat)(h1:Agree (rdo lo) F F')(h2:Agree (rdo hi) F F')(h3:Agree (rdo mx) F F'):jS a b lo hi mx F=jS a b lo hi mx F':=by
 simp only[jS,mS _ h1,mS _ h2,mS _ h3]
theorem aIm{F F':Fr}{lo hi mx:Option cK}(k:SlK)(v:AV)(h1:Agree (rdo lo) F F')(h2:Agree (rdo hi) F F')(h3:Agree (rdo mx) F F'):qX k v lo hi mx F=qX k v lo hi mx F':=by
 unfold qX;split
 ·simp only[aDV,mS _ h1,mS _ h2]
 ·simp only[aIg,pG _ _ h1 h2 h3]
 ·simp only[aM4,pG _ _ h1 h2 h3]
 ·simp only[aMY,pG _ _ h1 h2 h3]
 ·simp only[aJw,pG _ _ h1 h2 h3]
 ·rfl
theorem aJL{q:zW}{F F':Fr}(h:Agree q.rd F F')(hp:T AB):iI q F hp=iI q F' hp:=by
 cases q with
 | mv x=>show some (x.val F)=_;rw[cA (x:=x) h];rfl
 | pick c a b=>show wR (c.val F) a b F=wR (c.val F') a b F';simp only[wR,cA h.left,cA h.right.left,cA h.right.right]
 | build z ps=>show aX (fG z (eT F ps)) _=_;rw[aAy h];rfl
 | ld a n x=>show dB (x.val F) a n hp=dB (x.val F') a n hp;rw[cA h]
 | nilchk x=>show uY (x.val F)=uY (x.val F');rw[cA h]
 | bin op e x y=>show eJ op e (x.val F) (y.val F)=eJ op e (x.val F') (y.val F');rw[cA h.left,cA h.right]
 | un op x=>show unV op (x.val F)=unV op (x.val F');rw[cA h]
 | conv k x=>show wM k (x.val F) hp=wM k (x.val F') hp;rw[cA h]
 | mkIface t x=>show some (AV.iface t (x.val F))=some (AV.iface t (x.val F'));rw[cA h]
 | mkFunc f a b=>show some (AV.fn f (cW a F) (cW b F))=some (AV.fn f (cW a F') (cW b F'));rw[mB h.left,mB h.right]
 | slc k x lo hi mx=>show qX k (x.val F) lo hi mx F=qX k (x.val F') lo hi mx F';rw[cA h.left,aIm k _ h.right.left h.right.right.left h.right.right.right]
 | faddr off x=>show yV (x.val F) off=yV (x.val F') off;rw[cA h]
 | fld a off n x=>show aHW (x.val F) a off n=aHW (x.val F') a off n;rw[cA h]
 | iaddr k x ix=>show(aX (fB (ix.val F)) fun i=>eS k (x.val F) i)=aX (fB (ix.val F')) fun i=>eS k (x.val F') i;rw[cA h.left,cA h.right]
 | idxArr a n s x ix=>show(aX (fB (ix.val F)) fun i=>xH (x.val F) a n s i)=aX (fB (ix.val F')) fun i=>xH (x.val F') a n s i;rw[cA h.left,cA h.right]
 | idxStr x ix=>show(aX (fB (ix.val F)) fun i=>mM (x.val F) i)=aX (fB (ix.val F')) fun i=>mM (x.val F') i;rw[cA h.left,cA h.right]
 | lookup e z ok m k=>show(aX (pT hp (m.val F)) fun es=>aX (oS e (k.val F) es) fun r=>pD r z ok)=aX (pT hp (m.val F')) fun es=>aX (oS e (k.val F') es) fun r=>pD r z ok;rw[cA h.left,cA h.right]
 | tassert t z ok x=>show vN (x.val F) t z ok=vN (x.val F') t z ok;rw[cA h]
 | extract x i=>show lO (x.val F) i=lO (x.val F') i;rw[cA h]
 | lenArr n=>rfl
 | lenStr x=>show aAe (x.val F)=aAe (x.val F');rw[cA h]
 | lenSl x=>show lH (x.val F)=lH (x.val F');rw[cA h]
 | lenMap x=>show(aX (pT hp (x.val F)) fun es=>some (AV.int .i64 (.ofNat (jK es))))=aX (pT hp (x.val F')) fun es=>some (AV.int .i64 (.ofNat (jK es)));rw[cA h]
 | capSl x=>show aC1 (x.val F)=aC1 (x.val F');rw[cA h]
 | minmax m xs=>show kR m (cW xs F)=kR m (cW xs F');rw[mB h]
 | mkMeth n tbl x=>show some (AV.mth n tbl (x.val F))=some (AV.mth n tbl (x.val F'));rw[cA h]
theorem aK2{q:zW}(hq:dC q=false)(F:Fr)(h h':T AB):iI q F h=iI q F h':=by
 cases q with
 | ld a n x=>cases hq
 | lookup e z ok m k=>cases hq
 | lenMap x=>cases hq
 | conv k x=>
  show wM k (x.val F) h=wM k (x.val F) h';cases k with
  | bytesToStr=>cases hq
  | int k=>cases x.val F<;>rfl
  | same=>cases x.val F<;>rfl
  | intToStr=>
   cases x.val F with
   | int k n=>cases n<;>rfl
   | _=>rfl
 | _=>rfl
theorem aKm{a:wU}{F F':Fr}(h:Agree a.rd F F')(id:Nat):tQ a F id=tQ a F' id:=by
 cases a with
 | alloc t cs=>rfl
 | box t x=>show(aX (x.val F).cells fun cs=>some (AV.ptr id 0,AB.cells cs false 0))=aX (x.val F').cells fun cs=>some (AV.ptr id 0,AB.cells cs false 0);rw[cA h]
 | bslice t s len z ps=>show(aX (fG (repeatL z len) (jP s F ps)) fun cs=>some (AV.sl id 0 len len false,AB.cells cs false 0))=aX (fG (repeatL z len) (jP s F' ps)) fun cs=>some (AV.sl id 0 len len false,AB.cells cs false 0);rw[yG s h]
 | mkSlice t s by_ z l c=>
  show wJ t s by_ z l c F id=wJ t s by_ z l c F' id;unfold wJ;rw[cA h.left,cA h.right]
 | mkMap=>rfl
 | strBytes t x=>show tC (x.val F) id=tC (x.val F') id;rw[cA h]
theorem aJS{x:XOp}{F F':Fr}(h:Agree x.rd F F')(call:eU)(S:St):zX x call F S=zX x call F' S:=by
 cases x with
 | st n x v=>show(aX (v.val F).cells fun cs=>lI (x.val F) n cs S)=aX (v.val F').cells fun cs=>lI (x.val F') n cs S;rw[cA h.left,cA h.right]
 | call f args=>show call (f.val F) (cW args F) S=call (f.val F') (cW args F') S;rw[cA h.left,mB h.right]
 | inv tbl f args=>show aFt (f.val F) tbl (cW args F) call S=aFt (f.val F') tbl (cW args F') call S;rw[cA h.left,mB h.right]
 | app t s b x y=>show iA b s (x.val F) (y.val F) S=iA b s (x.val F') (y.val F') S;rw[cA h.left,cA h.right]
 | copy s d x=>show(aX (aBz (x.val F)) fun m=>copyV (d.val F) s m (x.val F) S)=aX (aBz (x.val F')) fun m=>copyV (d.val F') s m (x.val F') S;rw[cA h.left,cA h.right]
 | mapUpd e m k v=>show uM (m.val F) e (k.val F) (v.val F) S=uM (m.val F') e (k.val F') (v.val F') S;rw[cA h.left,cA h.right.left,cA h.right.right]
 | mapDel e m k=>show aFR (m.val F) e (k.val F) S=aFR (m.val F') e (k.val F') S;rw[cA h.left,cA h.right]
 | clr z x=>show aMv (x.val F) z S=aMv (x.val F') z S;rw[cA h]
 | ext k args=>show(aX (aIH k (cW args F)) fun v=>some (v,S))=aX (aIH k (cW args F')) fun v=>some (v,S);rw[mB h]
 | bad=>rfl
theorem aGJ{g:Option (Nat×Bool)}{F F':Fr}(h:Agree (g.map (·.1)).toList F F'):eI g F=eI g F':=by
 cases g with
 | none=>rfl
 | some p=>show isB (aD p.1 F) p.2=isB (aD p.1 F') p.2;rw[h p.1 (by simp)]
theorem aIY{t:Nat}:∀ {l:List Nat},inL t l=true↔t∈l
 | []=>by simp [inL]
 | u::l=>by
  simp only[inL,Bc,Bi];split
  ·rename_i h;rw[Bb] at h;simp [h]
  ·rename_i h;rw[Bb] at h;simp [h,aIY]
theorem aGA{d:Option Nat}{t:Nat}{l:List Nat}(h:d=some t)(ht:t∈l):meets d l=true:=by subst h;exact aIY.2 ht
theorem aDx{i:Nat}{d:Option Nat}{tch:List Nat}:∀ {l:List AO},aF1 i d tch l=true→∀ {j:Nat} {b:AO},l[j]? =some b→(meets d b.touch || meets b.dst tch)=true→Nat.testBit b.mask i=true
 | [],_,j,b,hb=>by simp at hb
 | a::l,h,j,b,hb=>by
  intro hm;simp only[aF1,Ce] at h;cases j with
  | zero=>
   simp at hb;subst hb;have h1:=h.1;rw[hm] at h1;exact h1
  | succ j=>exact aDx h.2 (by simpa using hb) hm
theorem aEp:∀ {l:List AO} {k:Nat},aJy k l=true→∀ {i j:Nat} {a b:AO},i<j→l[i]? =some a→l[j]? =some b→(meets a.dst b.touch || meets b.dst a.touch)=true→Nat.testBit b.mask (k+i)=true
 | [],k,_,i,j,a,b,_,ha=>by simp at ha
 | c::l,k,h,i,j,a,b,hij,ha=>by
  intro hb hm;simp only[aJy,Ce] at h;cases j with
  | zero=>omega
  | succ j=>
   cases i with
   | zero=>
    simp at ha;subst ha;exact aDx h.1 (by simpa using hb) hm
   | succ i=>
    have:=aEp h.2 (i:=i) (j:=j) (by omega) (by simpa using ha) (by simpa using hb) hm
    rwa [show k+1+i=k+(i+1) by omega] at this
theorem aBF:∀ {l:List Oper} {k:Nat},aCn k l=true→∀ {i:Nat} {o:Oper},l[i]? =some o→∀e∈o.after,Region.binds .any e=true→e.on<k+i
 | [],k,_,i,o,ho=>by simp at ho
 | c::l,k,h,i,o,ho=>by
  intro e he hb;simp only[aCn,Ce] at h;cases i with
  | zero=>
   simp at ho;subst ho;have h1:=Array.all_eq_true'.1 h.1 e he;simp only[hb,Bp,Bool.false_or] at h1;exact Ar h1
  | succ i=>
   have:=aBF h.2 (by simpa using ho) e he hb;omega
end Go.Ev
namespace Go.Ev
structure Tr(aos:List AO)(base:Nat)(call:eU)(Ds:Nat→DS):Prop where
 step:∀i o,aos[i]? =some o→rC o i base call (Ds i)=some (Ds (i+1))
theorem aCy{base:Nat}{call:eU}:∀ {l:List AO} {k:Nat} {D D':DS},vJ l k base call D=some D'→
  ∃Ds:Nat→DS,Ds k=D∧(∀i o,l[i]? =some o→rC o (k+i) base call (Ds (k+i))=some (Ds (k+i+1)))∧Ds (k+l.length)=D'
 | [],k,D,D',h=>by
  simp only[vJ,Al] at h;exact⟨fun _=>D,rfl,fun i o ho=>by simp at ho,h⟩
 | o::l,k,D,D',h=>by
  simp only[vJ] at h;obtain⟨D1,h1,h2⟩:=aJ h;obtain⟨Ds,e1,e2,e3⟩:=aCy h2;refine⟨fun i=>if i=k then D else Ds i,by simp,?_,?_⟩
  ·intro i o' ho;cases i with
   | zero=>
    simp at ho;subst ho;simp only[Bs,Ed];rw[if_neg (by omega),e1];exact h1
   | succ i=>
    have:=e2 i o' (by simpa using ho);rw[show k+(i+1)=k+1+i by omega];simp only[];rw[if_neg (by omega),if_neg (by omega)];exact this
  ·simp only[Am];rw[if_neg (by omega),show k+(l.length+1)=k+1+l.length by omega];exact e3
section
variable {aos:List AO}{base:Nat}{call:eU}{Ds:Nat→DS}
inductive Kind(base:Nat)(call:eU)(D D':DS)(i:Nat)(o:AO):Prop where
 | no (hw:eI o.grd D.F=false) (e:D'=⟨cI o.dst D.F .undef,D.S,D.ps,D.hs,D.ls⟩)
 | q (q:zW) (v:AV) (hw:eI o.grd D.F=true) (ho:o.op= .q q) (hv:iI q D.F D.S.h=some v)
   (e:D'=⟨cI o.dst D.F v,D.S,D.ps,D.hs,bN (dC q) (⟨q,D.F,v,i,o.mask⟩::D.ls) D.ls⟩)
 | a (a:wU) (v:AV) (b:AB) (hw:eI o.grd D.F=true) (ho:o.op= .a a) (hv:tQ a D.F (base+i)=some (v,b))
   (e:D'=⟨cI o.dst D.F v,D.S,⟨i,base+i,b⟩::D.ps,D.hs,D.ls⟩)
 | x (x:XOp) (v:AV) (S:St) (hw:eI o.grd D.F=true) (ho:o.op= .x x) (hl:iS D.hs o.mask=true)
   (hv:zX x call D.F ⟨(cG o.mask D.ps D.S.h).2,D.S.nx⟩=some (v,S))
   (e:D'=⟨cI o.dst D.F v,S,(cG o.mask D.ps D.S.h).1,(i,o.mask,S.h)::D.hs,D.ls⟩)
theorem Tr.kind(h:Tr aos base call Ds){i:Nat}{o:AO}(ho:aos[i]? =some o):Kind base call (Ds i) (Ds (i+1)) i o:=by
 have h1:=h.step i o ho;unfold rC at h1;rw[cF] at h1;split at h1
 ·rename_i hw;cases hop:o.op with
  | q q=>
   rw[hop] at h1;obtain⟨v,h2,h3⟩:=aJ (show(aX (iI q (Ds i).F (Ds i).S.h) fun v=>some (⟨cI o.dst (Ds i).F v,(Ds i).S,(Ds i).ps,(Ds i).hs,bN (dC q) (⟨q,(Ds i).F,v,i,o.mask⟩::(Ds i).ls) (Ds i).ls⟩:DS))=some (Ds (i+1)) from h1);exact .q q v hw hop h2 (Cl h3).symm
  | a a=>
   rw[hop] at h1;obtain⟨⟨v,b⟩,h2,h3⟩:=aJ (show(aX (tQ a (Ds i).F (base+i)) fun r=>some (⟨cI o.dst (Ds i).F r.1,(Ds i).S,⟨i,base+i,r.2⟩::(Ds i).ps,(Ds i).hs,(Ds i).ls⟩:DS))=some (Ds (i+1)) from h1);exact .a a v b hw hop h2 (Cl h3).symm
  | x x=>
   rw[hop] at h1;obtain⟨h4,h1⟩:=bR (show bN (iS (Ds i).hs o.mask) (aX (zX x call (Ds i).F ⟨(cG o.mask (Ds i).ps (Ds i).S.h).2,(Ds i).S.nx⟩) fun r=>
    some (⟨cI o.dst (Ds i).F r.1,r.2,(cG o.mask (Ds i).ps (Ds i).S.h).1,(i,o.mask,r.2.h)::(Ds i).hs,(Ds i).ls⟩:DS)) none=some (Ds (i+1)) from h1)
   obtain⟨⟨v,S⟩,h2,h3⟩:=aJ h1;exact .x x v S hw hop h4 h2 (Cl h3).symm
 ·rename_i hw;exact .no (by simpa using hw) (Cl h1).symm
def iY(aos:List AO)(Ds:Nat→DS)(c:Nat):Prop:=∃o x,aos[c]? =some o∧o.op= .x x∧eI o.grd (Ds c).F=true
theorem pR{d:Option Nat}{F:Fr}{v:AV}{t:Nat}(h:d≠some t):aD t (cI d F v)=aD t F:=by
 cases d with
 | none=>rfl
 | some d=>show aD t (F.set d (some v))=_;rw[vQ,if_neg (fun e=>h (by rw[e]))]
theorem tG{d:Nat}{F:Fr}{v:AV}:aD d (cI (some d) F v)=v:=by
 show aD d (F.set d (some v))=_;rw[vQ,if_pos rfl]
theorem Tr.slot_step(h:Tr aos base call Ds){i t:Nat}{o:AO}(ho:aos[i]? =some o)(hd:o.dst≠some t):aD t (Ds (i+1)).F=aD t (Ds i).F:=by
 cases h.kind ho with
 | no hw e=>rw[e];exact pR hd
 | q q v hw ho' hv e=>rw[e];exact pR hd
 | a a v b hw ho' hv e=>rw[e];exact pR hd
 | x x v S hw ho' hl hv e=>rw[e];exact pR hd
theorem Tr.slot_keep(h:Tr aos base call Ds){t i:Nat}:∀ {k:Nat},i≤k→k≤aos.length→(∀j o,i≤j→j<k→aos[j]? =some o→o.dst≠some t)→aD t (Ds k).F=aD t (Ds i).F:=by
 intro k
 induction k with
 | zero=>intro h1 _ _;rw[Nat.le_zero.1 h1]
 | succ k ih=>
  intro h1 h2 h3;rcases Cw k i with h4 | h4
  ·rw[show i=k+1 by omega]
  ·rw[←ih h4 (by omega) (fun j o a b c=>h3 j o a (by omega) c)];have ho:aos[k]? =some aos[k]:=Ab (by omega);exact h.slot_step ho (h3 k _ h4 (by omega) ho)
theorem Tr.heap_step(h:Tr aos base call Ds){i:Nat}(hi:i<aos.length)(hc:¬iY aos Ds i):(Ds (i+1)).S=(Ds i).S∧(Ds (i+1)).hs=(Ds i).hs:=by
 have ho:aos[i]? =some aos[i]:=Ab hi;cases h.kind ho with
 | no hw e=>rw[e];exact⟨rfl,rfl⟩
 | q q v hw ho' hv e=>rw[e];exact⟨rfl,rfl⟩
 | a a v b hw ho' hv e=>rw[e];exact⟨rfl,rfl⟩
 | x x v S hw ho' hl hv e=>exact absurd ⟨_,x,ho,ho',hw⟩ hc
theorem Tr.heap_keep(h:Tr aos base call Ds){i:Nat}:∀ {k:Nat},i≤k→k≤aos.length→(∀j,i≤j→j<k→¬iY aos Ds j)→(Ds k).S=(Ds i).S∧(Ds k).hs=(Ds i).hs:=by
 intro k
 induction k with
 | zero=>intro h1 _ _;rw[Nat.le_zero.1 h1];exact⟨rfl,rfl⟩
 | succ k ih=>
  intro h1 h2 h3;rcases Cw k i with h4 | h4
  ·rw[show i=k+1 by omega];exact⟨rfl,rfl⟩
  ·obtain⟨a1,a2⟩:=ih h4 (by omega) (fun j a b=>h3 j a (by omega));obtain⟨b1,b2⟩:=h.heap_step (show k<aos.length by omega) (h3 k h4 (by omega));exact⟨b1.trans a1,b2.trans a2⟩
theorem Tr.chain_hs(h:Tr aos base call Ds){c:Nat}{o:AO}(ho:aos[c]? =some o)(hc:iY aos Ds c):(Ds (c+1)).hs=(c,o.mask,(Ds (c+1)).S.h)::(Ds c).hs∧iS (Ds c).hs o.mask=true:=by
 obtain⟨o',x,h1,h2,h3⟩:=hc;rw[ho] at h1;cases h1;cases h.kind ho with
 | no hw e=>rw[h3] at hw;cases hw
 | q q v hw ho' hv e=>rw[h2] at ho';cases ho'
 | a a v b hw ho' hv e=>rw[h2] at ho';cases ho'
 | x x v S hw ho' hl hv e=>rw[e];exact⟨rfl,hl⟩
theorem Tr.head(h:Tr aos base call Ds)(h0:(Ds 0).hs= []):∀k,k≤aos.length→(∀c,c<k→¬iY aos Ds c)∨∃p m hp r,p<k∧iY aos Ds p∧(Ds k).hs=(p,m,hp)::r∧∀c,p<c→c<k→¬iY aos Ds c:=by
 intro k
 induction k with
 | zero=>intro _;exact .inl (fun c hc=>by omega)
 | succ k ih=>
  intro hk;by_cases hc:iY aos Ds k
  ·have ho:aos[k]? =some aos[k]:=Ab (by omega);exact .inr ⟨k,_,_,_,Fb k,hc,(h.chain_hs ho hc).1,fun c h1 h2=>by omega⟩
  ·obtain⟨_,e2⟩:=h.heap_step (show k<aos.length by omega) hc;rcases ih (by omega) with h1 | ⟨p,m,hp,r,h1,h2,h3,h4⟩
   ·refine .inl (fun c hlt=>?_);rcases Cw c k with h5 | h5
    ·exact h1 c h5
    ·rw[show c=k by omega];exact hc
   ·refine .inr ⟨p,m,hp,r,by omega,h2,e2.trans h3,fun c h5 h6=>?_⟩;rcases Cw c k with h7 | h7
    ·exact h4 c h5 h7
    ·rw[show c=k by omega];exact hc
theorem Tr.before(h:Tr aos base call Ds)(h0:(Ds 0).hs= []){D:Nat→Prop}(hD:∀j o,D j→aos[j]? =some o→∀i,Nat.testBit o.mask i=true→D i):
  ∀k,k<aos.length→∀o,aos[k]? =some o→iY aos Ds k→(∀i,Nat.testBit o.mask i=true→D i)→∀c,c<k→iY aos Ds c→D c:=by
 intro k
 induction k using Nat.strongRecOn with
 | _ k ih=>
  intro hk o ho hc hm c hlt hcc;obtain⟨_,hl⟩:=h.chain_hs ho hc;rcases h.head h0 k (by omega) with h1 | ⟨p,m,hp,r,h1,h2,h3,h4⟩
  ·exact absurd hcc (h1 c hlt)
  ·rw[h3] at hl;have hp':D p:=hm p hl;rcases Nat.lt_trichotomy c p with h5 | h5 | h5
   ·have hop:aos[p]? =some aos[p]:=Ab (by omega);exact ih p h1 (by omega) _ hop h2 (hD p _ hp' hop) c h5 hcc
   ·rw[h5];exact hp'
   ·exact absurd hcc (h4 c h5 hlt)
theorem Tr.loads_mono(h:Tr aos base call Ds){i:Nat}:∀ {k:Nat},i≤k→k≤aos.length→∀l∈(Ds i).ls,l∈(Ds k).ls:=by
 intro k
 induction k with
 | zero=>intro h1 _ l hl;rw[Nat.le_zero.1 h1] at hl;exact hl
 | succ k ih=>
  intro h1 h2 l hl;rcases Cw k i with h4 | h4
  ·rw[show k+1=i by omega];exact hl
  ·have:=ih h4 (by omega) l hl;have ho:aos[k]? =some aos[k]:=Ab (by omega);cases h.kind ho with
   | no hw e=>rw[e];exact this
   | q q v hw ho' hv e=>rw[e,cF];simp only;split<;>simp [this]
   | a a v b hw ho' hv e=>rw[e];exact this
   | x x v S hw ho' hl hv e=>rw[e];exact this
theorem aBN{h0:T AB}{hs:List (Nat×Nat×T AB)}:∀ {ls:List jW},fK h0 hs ls=true→∀l∈ls,fY l hs h0=true
 | [],_,l,hl=>by simp at hl
 | m::ls,h,l,hl=>by
  simp only[fK,cF] at h;split at h
  ·rename_i h1;rcases Bi.1 hl with rfl | h2
   ·exact h1
   ·exact aBN h l h2
  ·cases h
theorem Tr.hs_split(h:Tr aos base call Ds):∀d k,k+d=aos.length→∃r,(Ds aos.length).hs.reverse=(Ds k).hs.reverse++r∧∀e∈r,k≤e.1∧iY aos Ds e.1:=by
 intro d
 induction d with
 | zero=>intro k hk;exact⟨[],by rw[show aos.length=k by omega];simp,by simp⟩
 | succ d ih=>
  intro k hk;obtain⟨r,h1,h2⟩:=ih (k+1) (by omega);by_cases hc:iY aos Ds k
  ·have ho:aos[k]? =some aos[k]:=Ab (by omega);refine⟨(k,aos[k].mask,(Ds (k+1)).S.h)::r,?_,?_⟩
   ·rw[h1,(h.chain_hs ho hc).1];simp
   ·intro e he;rcases Bi.1 he with rfl | he
    ·exact⟨Ag _,hc⟩
    ·exact⟨by have:=(h2 e he).1;omega,(h2 e he).2⟩
  ·refine⟨r,by rw[h1,(h.heap_step (by omega) hc).2],fun e he=>⟨by have:=(h2 e he).1;omega,(h2 e he).2⟩⟩
theorem Tr.load(h:Tr aos base call Ds)(h0:(Ds 0).hs= [])(hok:fK (Ds 0).S.h (Ds aos.length).hs.reverse (Ds aos.length).ls=true){l:jW}(hl:l∈(Ds aos.length).ls){D:Nat→Prop}
  (hD:∀j o,D j→aos[j]? =some o→∀i,Nat.testBit o.mask i=true→D i) (hm:∀i,Nat.testBit l.mask i=true→D i) (hi:¬D l.i) {s:Nat} (hs:s≤aos.length) (hc:∀c,iY aos Ds c→(D c↔c<s)):
  nN l.v (iI l.q l.F (Ds s).S.h)=true:=by
 have hgo:=aBN hok l hl;have key:∀k,k≤s→∀r,(Ds aos.length).hs.reverse=(Ds k).hs.reverse++r→fY l r (Ds k).S.h=true:=by
  intro k
  induction k with
  | zero=>
   intro _ r hr;rw[h0] at hr;simp at hr;rw[←hr];exact hgo
  | succ k ih=>
   intro hk r hr;by_cases hck:iY aos Ds k
   ·have ho:aos[k]? =some aos[k]:=Ab (by omega);have h1:=(h.chain_hs ho hck).1;have h2:=ih (by omega) ((k,aos[k].mask,(Ds (k+1)).S.h)::r) (by rw[hr,h1];simp);have hDk:D k:=(hc k hck).2 (by omega);have hbit:Nat.testBit aos[k].mask l.i=false:=by
     cases hb:Nat.testBit aos[k].mask l.i with
     | false=>rfl
     | true=>exact absurd (hD k _ hDk ho _ hb) hi
    simp only[fY,cF,hbit] at h2;split at h2
    ·exact h2
    ·split at h2
     ·simpa using h2
     ·cases h2
   ·obtain⟨e1,e2⟩:=h.heap_step (show k<aos.length by omega) hck;rw[e1];exact ih (by omega) r (by rw[hr,e2])
 obtain⟨r,h1,h2⟩:=h.hs_split (aos.length - s) s (by omega);have h3:=key s (Ag _) r h1;cases r with
 | nil=>exact h3
 | cons e r=>
  obtain⟨c,m,hp⟩:=e;obtain⟨h4,h5⟩:=h2 (c,m,hp) (by simp);have hbit:Nat.testBit l.mask c=false:=by
   cases hb:Nat.testBit l.mask c with
   | false=>rfl
   | true=>have:=(hc c h5).1 (hm c hb);simp only at h4;omega
  simp only[fY,cF,hbit] at h3;by_cases h6:nN l.v (iI l.q l.F (Ds s).S.h)=true
  ·exact h6
  ·rw[if_neg (by simp),if_neg h6] at h3;cases h3
end
theorem aGv:∀ {a b:List Nat},lD a b=true→a=b
 | [],[],_=>rfl
 | [],_::_,h=>by simp [lD] at h
 | _::_,[],h=>by simp [lD] at h
 | a::x,b::y,h=>by
  simp only[lD,cF] at h;split at h
  ·rename_i h1;rw[Ci h1,aGv h]
  ·cases h
mutual
theorem aDW:∀ (a b:AV),cM a b=true→a=b
 | .bool a,v,h=>by cases v<;>simp only[cM,tY,Ax] at h;rw[eq_of_beq h]
 | .int k a,v,h=>by
  cases v<;>simp only[cM,cF,Ax] at h;split at h
  ·rename_i h1;rw[yI h1];rw[lG] at h;rw[eq_of_beq h]
  ·cases h
 | .str a,v,h=>by cases v<;>simp only[cM,Ax] at h;rw[aGv h]
 | .ptr a b,v,h=>by
  cases v<;>simp only[cM,cF,Ax] at h;split at h
  ·rename_i h1;rw[Ci h1,Ci h]
  ·cases h
 | .nilp,v,h=>by cases v<;>first | rfl | simp only[cM,Ax] at h
 | .sl a b c d e,v,h=>by
  cases v<;>simp only[cM,Ax,Ce,tY] at h;obtain⟨⟨⟨⟨h1,h2⟩,h3⟩,h4⟩,h5⟩:=h;rw[Ci h1,Ci h2,Ci h3,Ci h4,eq_of_beq h5]
 | .nilsl,v,h=>by cases v<;>first | rfl | simp only[cM,Ax] at h
 | .emp,v,h=>by cases v<;>first | rfl | simp only[cM,Ax] at h
 | .map a,v,h=>by cases v<;>simp only[cM,Ax] at h;rw[Ci h]
 | .nilmap,v,h=>by cases v<;>first | rfl | simp only[cM,Ax] at h
 | .fn f a b,v,h=>by
  cases v<;>simp only[cM,Ax,Ce] at h;obtain⟨⟨h1,h2⟩,h3⟩:=h;rw[Ci h1,tD _ _ h2,tD _ _ h3]
 | .nilfn,v,h=>by cases v<;>first | rfl | simp only[cM,Ax] at h
 | .yld a,v,h=>by cases v<;>simp only[cM,Ax] at h;rw[Ci h]
 | .iface t w,v,h=>by
  cases v<;>simp only[cM,Ax,Ce] at h;rw[Ci h.1,aDW _ _ h.2]
 | .niliface,v,h=>by cases v<;>first | rfl | simp only[cM,Ax] at h
 | .mth n t w,v,h=>by cases v<;>simp only[cM,Ax] at h
 | .agg a,v,h=>by cases v<;>simp only[cM,Ax] at h;rw[tD _ _ h]
 | .tup a,v,h=>by cases v<;>simp only[cM,Ax] at h;rw[tD _ _ h]
theorem tD:∀ (a b:List AV),oN a b=true→a=b
 | [],[],_=>rfl
 | [],_::_,h=>by simp [oN] at h
 | _::_,[],h=>by simp [oN] at h
 | a::x,b::y,h=>by
  simp only[oN,cF] at h;split at h
  ·rename_i h1;rw[aDW _ _ h1,tD _ _ h]
  ·cases h
end
theorem aLP{v:AV}{r:Option AV}(h:nN v r=true):r=some v:=by
 cases r with
 | none=>cases h
 | some w=>rw[aDW _ _ h]
end Go.Ev
namespace Go.Ev
section
variable {D:Nat→Prop}
theorem aNi{look:Nat→Nat}{o:Oper}(h:∀e∈o.after,Region.binds .any e=true→D e.on∧∀b,Nat.testBit (look e.on) b=true→D b):∀b,Nat.testBit (CheckFast.one look o) b=true→D b:=by
 unfold CheckFast.one;rw[←Array.foldl_toList];have key:∀ (l:List Edge) (s:Nat),(∀e∈l,Region.binds .any e=true→D e.on∧∀b,Nat.testBit (look e.on) b=true→D b)→(∀b,Nat.testBit s b=true→D b)→
   ∀b,Nat.testBit (l.foldl (fun s e=>if Region.binds .any e then s ||| 2 ^ e.on ||| look e.on else s) s) b=true→D b:=by
  intro l
  induction l with
  | nil=>intro s _ hs b hb;exact hs b hb
  | cons e l ih=>
   intro s hl hs b hb;rw[Ea] at hb;refine ih _ (fun e' he'=>hl e' (Bq _ he')) ?_ b hb;intro c hc;split at hc
   ·rename_i hbi;obtain⟨h1,h2⟩:=hl e (by simp) hbi;rw[Nat.testBit_or,Nat.testBit_or,Ew,Ew] at hc;rcases hc with(hc | hc) | hc
    ·exact hs c hc
    ·rw[Nat.testBit_two_pow] at hc;have:e.on=c:=by simpa using hc
     rw[←this];exact h1
    ·exact h2 c hc
   ·exact hs c hc
 exact key o.after.toList 0 (fun e he=>h e (by simpa using he)) (fun b hb=>by simp at hb)
theorem zY:∀ (l:List Oper) (j:Nat) (acc:List Nat),acc.length=j→(∀i,i<j→D i→∀b,Nat.testBit (acc.getD (j - 1 - i) 0) b=true→D b)→
  (∀k o,l[k]? =some o→D (j+k)→∀e∈o.after,Region.binds .any e=true→D e.on)→
  (∀i,i<j→(CheckFast.beforeL l j acc).getD i 0=acc.getD (j - 1 - i) 0)∧
  ∀k o,l[k]? =some o→(∀e∈o.after,Region.binds .any e=true→D e.on)→∀b,Nat.testBit ((CheckFast.beforeL l j acc).getD (j+k) 0) b=true→D b
 | [],j,acc,hl,_,_=>by
  refine⟨fun i hi=>?_,fun k o ho=>by simp at ho⟩;simp only[CheckFast.beforeL];rw[Ae,Ae,List.getElem?_reverse (by omega),hl]
 | o::l,j,acc,hl,hacc,hcl=>by
  simp only[CheckFast.beforeL,CheckFast.force_eq];have hv:(∀e∈o.after,Region.binds .any e=true→D e.on)→∀b,Nat.testBit (CheckFast.one (fun i=>if i<j then acc.getD (j - 1 - i) 0 else 0) o) b=true→D b:=by
   intro hp;refine aNi fun e he hb=>⟨hp e he hb,fun b hbit=>?_⟩;split at hbit
   ·exact hacc _ ‹_› (hp e he hb) b hbit
   ·simp at hbit
  have:=zY l (j+1) (CheckFast.one (fun i=>if i<j then acc.getD (j - 1 - i) 0 else 0) o::acc) (by simp [hl]) ?_ ?_
  ·obtain⟨h1,h2⟩:=this;refine⟨fun i hi=>?_,fun k o' ho hp b hb=>?_⟩
   ·rw[h1 i (by omega),show j+1 - 1 - i=(j - 1 - i)+1 by omega];simp
   ·cases k with
    | zero=>
     simp at ho;subst ho;have h3:=h1 j (by omega);rw[show j+1 - 1 - j=0 by omega] at h3;refine hv hp b ?_;rw[show j+0=j from rfl,h3] at hb;exact hb
    | succ k=>
     refine h2 k o' (by simpa using ho) hp b ?_
     rwa [show j+1+k=j+(k+1) by omega]
  ·intro i hi hDi b hb;rcases Cw i j with h3 | h3
   ·rw[show j+1 - 1 - i=(j - 1 - i)+1 by omega] at hb;exact hacc i h3 hDi b (by simpa using hb)
   ·have:i=j:=by omega
    subst this;rw[show i+1 - 1 - i=0 by omega] at hb;exact hv (hcl 0 o (by simp) (by simpa using hDi)) b (by simpa using hb)
  ·intro k o' ho hDk;exact hcl (k+1) o' (by simpa using ho) (by rwa [show j+(k+1)=j+1+k by omega])
end
theorem aCx{P:Program}{nt:Nat}{ops:Array Oper}:∀ {l:List Oper} {ms:List Nat} {aos:List AO},vA P nt ops l ms=some aos→
  aos.length=l.length∧∀j o,l[j]? =some o→∃ao,aos[j]? =some ao∧aI0 P nt ops o (ms.getD j 0)=some ao
 | [],ms,aos,h=>by
  simp only[vA,Al] at h;subst h;exact⟨rfl,fun j o ho=>by simp at ho⟩
 | o::l,ms,aos,h=>by
  simp only[vA] at h;split at h
  ·rename_i a as ha has;cases h;obtain⟨h1,h2⟩:=aCx has;refine⟨by simp [h1],fun j o' ho=>?_⟩;cases j with
   | zero=>
    simp at ho;subst ho;refine⟨a,by simp,?_⟩;cases ms<;>simpa using ha
   | succ j=>
    obtain⟨ao,h3,h4⟩:=h2 j o' (by simpa using ho);refine⟨ao,by simpa using h3,?_⟩;cases ms<;>simpa using h4
  ·cases h
theorem kI{m:Nat}:∀ {ps:List iM} {h:T AB} {b:Nat} {bl:AB},(cG m ps h).2.get b=some bl→(∃p∈ps,Nat.testBit m p.i=true∧p.id=b∧p.b=bl)∨h.get b=some bl
 | [],h,b,bl,e=>.inr e
 | p::ps,h,b,bl,e=>by
  simp only[cG,cF] at e;split at e
  ·rename_i hb;rcases kI e with⟨q,h1,h2⟩ | h1
   ·exact .inl ⟨q,by simp [h1],h2⟩
   ·rw[T.get_set] at h1;split at h1
    ·rename_i e';cases h1;exact .inl ⟨p,by simp,hb,e'.symm,rfl⟩
    ·exact .inr h1
  ·rcases kI e with⟨q,h1,h2⟩ | h1
   ·exact .inl ⟨q,by simp [h1],h2⟩
   ·exact .inr h1
theorem aAT{m:Nat}:∀ {ps:List iM} {h:T AB} {p:iM},p∈(cG m ps h).1→p∈ps∧Nat.testBit m p.i=false
 | [],h,p,e=>by simp [cG] at e
 | q::ps,h,p,e=>by
  simp only[cG,cF] at e;split at e
  ·obtain⟨h1,h2⟩:=aAT e;exact⟨by simp [h1],h2⟩
  ·rename_i hb;rcases Bi.1 e with rfl | e
   ·exact⟨by simp,by simpa using hb⟩
   ·obtain⟨h1,h2⟩:=aAT e;exact⟨by simp [h1],h2⟩
section
variable {aos:List AO}{base:Nat}{call:eU}{Ds:Nat→DS}
def Made(aos:List AO)(base:Nat)(Ds:Nat→DS)(i:Nat)(b:AB):Prop:=∃o a v,aos[i]? =some o∧o.op= .a a∧eI o.grd (Ds i).F=true∧tQ a (Ds i).F (base+i)=some (v,b)
def Laid(aos:List AO)(Ds:Nat→DS)(i s:Nat):Prop:=∃c o,c<s∧iY aos Ds c∧aos[c]? =some o∧Nat.testBit o.mask i=true
theorem Tr.pend(h:Tr aos base call Ds)(h0:(Ds 0).ps= [])(hb:∀k o i,aos[k]? =some o→Nat.testBit o.mask i=true→i<k):∀k,k≤aos.length→∀p∈(Ds k).ps,p.i<k∧p.id=base+p.i∧Made aos base Ds p.i p.b∧¬Laid aos Ds p.i k:=by
 intro k
 induction k with
 | zero=>intro _ p hp;rw[h0] at hp;cases hp
 | succ k ih=>
  intro hk p hp;have ho:aos[k]? =some aos[k]:=Ab (by omega);have old:¬iY aos Ds k→p∈(Ds k).ps→p.i<k+1∧p.id=base+p.i∧Made aos base Ds p.i p.b∧¬Laid aos Ds p.i (k+1):=by
   intro hc hp;obtain⟨a1,a2,a3,a4⟩:=ih (by omega) p hp;refine⟨by omega,a2,a3,?_⟩;rintro⟨c,o,h1,h2,h3⟩;rcases Cw c k with h4 | h4
   ·exact a4 ⟨c,o,h4,h2,h3⟩
   ·rw[show c=k by omega] at h2;exact hc h2
  cases h.kind ho with
  | no hw e=>rw[e] at hp;exact old (fun⟨o,x,h1,h2,h3⟩=>by rw[ho] at h1;cases h1;rw[hw] at h3;cases h3) hp
  | q q v hw ho' hv e=>rw[e] at hp;exact old (fun⟨o,x,h1,h2,h3⟩=>by rw[ho] at h1;cases h1;rw[ho'] at h2;cases h2) hp
  | a a v b hw ho' hv e=>
   have hnc:¬iY aos Ds k:=fun⟨o,x,h1,h2,h3⟩=>by rw[ho] at h1;cases h1;rw[ho'] at h2;cases h2
   rw[e] at hp;rcases Bi.1 hp with rfl | hp
   ·refine⟨Fb _,rfl,⟨_,a,v,ho,ho',hw,hv⟩,?_⟩;rintro⟨c,o,h1,h2,h3,h4⟩;have:=hb c o _ h3 h4;simp only at this;omega
   ·exact old hnc hp
  | x x v S hw ho' hl hv e=>
   rw[e] at hp;obtain⟨h1,h2⟩:=aAT hp;obtain⟨a1,a2,a3,a4⟩:=ih (by omega) p h1;refine⟨by omega,a2,a3,?_⟩;rintro⟨c,o,h3,h4,h5,h6⟩;rcases Cw c k with h7 | h7
   ·exact a4 ⟨c,o,h7,h4,h5,h6⟩
   ·rw[show c=k by omega,ho] at h5;cases h5;rw[h2] at h6;cases h6
end
section
variable {P:Program}{σ σ' σ0:Env}{S S' S0:St}{w w' w0:World}
structure sB(P:Program)(n0:Nat)(σ:Env)(S:St)(w:World)(id:Nat)(b:AB)(L:Loc):Prop where
 at_:σ id=some L
 ge:n0≤L.r
 lt:L.r<w.heap.size
 rep:qO P σ w L b
 own:vE b
 sep:∀c bl M,S.h.get c=some bl→σ c=some M→M.r≠L.r
theorem gN.grow(h:gN P σ0 S0 w0 σ S w){ob:Obj}{id e:Nat}(hid:σ id=none)(hlo:S0.nx≤id)(hhi:id<S.nx)(hw:w'.heap=w.heap.push ob)(ho:w'.os=w.os)(ht:w'.tape=w.tape)(hu:w'.output=w.output):
  gN P σ0 S0 w0 (upd σ id ⟨w.heap.size,0,e⟩) S w':=by
 have hold:∀r,r<w.heap.size→w'.heap[r]? =w.heap[r]? :=fun r hr=>by rw[hw,Fi,if_neg (by omega)]
 have hsz:w'.heap.size=w.heap.size+1:=by rw[hw];simp
 have hne:∀b bl,S.h.get b=some bl→b≠id:=fun b bl hb e=>by
  obtain⟨L,h1,_⟩:=h.rep.blk b bl hb;rw[e,hid] at h1;cases h1
 refine⟨⟨fun b bl hb=>?_,h.rep.lt,fun b hb=>?_,fun g hg=>fU hid _ _ (h.rep.glob g hg),?_⟩,fun b hb=>?_,h.nx,fun r hr hn=>?_,fun r hr=>?_,by have:=h.size;omega,ho.trans h.os,ht.trans h.tape,hu.trans h.output,h.ro⟩
 ·obtain⟨L,h1,h2,h3⟩:=h.rep.blk b bl hb;exact⟨L,fU hid _ _ h1,by omega,h3.frame (fU hid) (hold _ h2)⟩
 ·rw[dM _ (by omega)];exact h.rep.fresh b hb
 ·intro b b' bl bl' L L' h1 h2 h3 h4 h5 h6;rw[dM _ (hne _ _ h1)] at h5;rw[dM _ (hne _ _ h2)] at h6;exact h.rep.inj b b' bl bl' L L' h1 h2 h3 h4 h5 h6
 ·rw[dM _ (by omega)];exact h.low b hb
 ·rw[hold r (Ah hr h.size)];exact h.keep r hr hn
 ·obtain⟨b,bl,L,h1,h2,h3,rfl⟩:=hr;rw[dM _ (hne _ _ h1)] at h3;exact h.own _ ⟨b,bl,L,h1,h2,h3,rfl⟩
theorem sB.grow{n0:Nat}{id:Nat}{b:AB}{L:Loc}(h:sB P n0 σ S w id b L)(hR:jM P σ S w){ob:Obj}{i e:Nat}(hi:σ i=none)(hw:w'.heap=w.heap.push ob):
  sB P n0 (upd σ i ⟨w.heap.size,0,e⟩) S w' id b L where
 at_:=fU hi _ _ h.at_
 ge:=h.ge
 lt:=by rw[hw];simp;have:=h.lt;omega
 rep:=h.rep.frame (fU hi) (by rw[hw,Fi,if_neg (by have:=h.lt;omega)])
 own:=h.own
 sep:=fun c bl M h1 h2=>by
  refine h.sep c bl M h1 ?_;rw[dM] at h2
  ·exact h2
  ·intro e;obtain⟨L',h3,_⟩:=hR.blk c bl h1;rw[e,hi] at h3;cases h3
theorem gN.lay(h:gN P σ0 S0 w0 σ S w){n0:Nat}(hn0:w0.heap.size≤n0){m:Nat}{ps:List iM}(hst:∀p∈ps,Nat.testBit m p.i=true→p.id<S.nx∧∃L,sB P n0 σ S w p.id p.b L)
  (hd:∀p∈ps,∀q∈ps,Nat.testBit m p.i=true→Nat.testBit m q.i=true→p.id≠q.id→∀L L',σ p.id=some L→σ q.id=some L'→L.r≠L'.r):
  gN P σ0 S0 w0 σ ⟨(cG m ps S.h).2,S.nx⟩ w:=by
 refine⟨⟨fun b bl hb=>?_,fun b bl hb=>?_,h.rep.fresh,h.rep.glob,?_⟩,h.low,h.nx,h.keep,fun r hr=>?_,h.size,h.os,h.tape,h.output,fun b cs hb=>?_⟩
 ·rcases kI hb with⟨p,h1,h2,rfl,rfl⟩ | h1
  ·obtain⟨_,L,h3⟩:=hst p h1 h2;exact⟨L,h3.at_,h3.lt,h3.rep⟩
  ·exact h.rep.blk b bl h1
 ·rcases kI hb with⟨p,h1,h2,rfl,rfl⟩ | h1
  ·exact(hst p h1 h2).1
  ·exact h.rep.lt b bl h1
 ·intro b b' bl bl' L L' hb hb' ho hne hL hL';rcases kI hb with⟨p,h1,h2,rfl,rfl⟩ | h1<;>rcases kI hb' with⟨q,h1',h2',rfl,rfl⟩ | h1'
  ·exact hd p h1 q h1' h2 h2' hne L L' hL hL'
  ·obtain⟨_,M,h3⟩:=hst p h1 h2;have:=h3.at_;rw[hL] at this;cases this;exact(h3.sep b' bl' L' h1' hL').symm
  ·obtain⟨_,M,h3⟩:=hst q h1' h2';have:=h3.at_;rw[hL'] at this;cases this;exact h3.sep b bl L h1 hL
  ·exact h.rep.inj b b' bl bl' L L' h1 h1' ho hne hL hL'
 ·obtain⟨b,bl,L,hb,ho,hL,rfl⟩:=hr;rcases kI hb with⟨p,h1,h2,rfl,rfl⟩ | h1
  ·obtain⟨_,M,h3⟩:=hst p h1 h2;have:=h3.at_;rw[hL] at this;cases this;exact .inr (Ap hn0 h3.ge)
  ·exact h.own _ ⟨b,bl,L,h1,ho,hL,rfl⟩
 ·rcases kI hb with⟨p,h1,h2,rfl,h3⟩ | h1
  ·obtain⟨_,M,h4⟩:=hst p h1 h2;have:=h4.own;rw[h3] at this;exact this.elim
  ·exact h.ro b cs h1
theorem sB.act{n0:Nat}{id:Nat}{b:AB}{L:Loc}(h:sB P n0 σ S w id b L)(hR:jM P σ S w)(hE:gN P σ S w σ' S' w')(hid:id<S.nx):sB P n0 σ' S' w' id b L:=by
 have hno:¬Own σ S L.r:=fun⟨c,bl,M,h1,h2,h3,h4⟩=>h.sep c bl M h1 h3 h4;refine⟨by rw[hE.low id hid];exact h.at_,h.ge,Ah h.lt hE.size,h.rep.frame (hE.mono hR) (hE.keep _ h.lt hno),h.own,?_⟩;intro c bl M h1 h2;by_cases ho:vE bl
 ·rcases hE.own M.r ⟨c,bl,M,h1,ho,h2,rfl⟩ with⟨c',bl',M',a1,a2,a3,a4⟩ | h3
  ·rw[←a4];exact h.sep c' bl' M' a1 a3
  ·have:=h.lt;omega
 ·cases bl with
  | ro cs=>
   have h3:=hE.ro c cs h1;rw[hE.low c (hR.lt c _ h3)] at h2;exact h.sep c _ M h3 h2
  | _=>exact absurd trivial ho
end
end Go.Ev
