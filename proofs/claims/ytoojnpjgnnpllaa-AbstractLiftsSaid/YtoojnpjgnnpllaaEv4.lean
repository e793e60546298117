import Derived.Test.YtoojnpjgnnpllaaEv3
namespace Go.Ev
variable {P:Program}{σ:Env}{S:St}{w:World}
theorem addr_add(r o n:Nat):(⟨r,o,none⟩:Addr).add n=⟨r,o+n,none⟩:=Addr.add_mid r o n
theorem aIQ{t e:TypeId}{i:TypeInfo}(ht:P.underlying t=some (.slice e))(hi:P.info? e=some i){F:Fr}{a:Act}(hF:qO P σ F a.tmps)(hR:kT P σ S w)
  {b off len cap:Nat} {o:Bool} {lo hh mx:Option Operand} {Lo Hi Mx:Option cO} (hlo:oE P lo=some Lo) (hhi:oE P hh=some Hi) (hmx:oE P mx=some Mx)
  (hhm:mx.isSome=true->hh.isSome=true) {X:Value} (hx:Rv P σ (.sl b off len cap o) X) {v:AV} (h:aM1 i.size b off len cap o Lo Hi Mx F=some v):
  ∃V,(Instr.slice t X (lo.map a.eval) (hh.map a.eval) (mx.map a.eval)).run P w= .ok V w/\Rv P σ v V:=by
 simp only[Rv] at hx;obtain⟨L,hL,rfl⟩:=hx;have⟨x,hb,h⟩:=aO h;have hnone:=aHI hmx;have h6:=(sT hb).2.2.2;cases o with
 | false=>
  have hrun:=nN (e:=0) (isSlice:=true) hF hR hlo hhi hmx hhm hb;simp only[Br,ite_self,bB] at hrun h;simp only[Eg,Bc];rw[cN] at h;split at h
  ·rename_i he;rw[Bj] at he;cases h;refine⟨_,by simp [Instr.slice,run_underlying ht,hrun,sizeOf,typeInfo,hi,he];rfl,?_⟩;simp only[Rv];exact⟨L,hL,by simp [he]⟩
  ·rename_i he;rw[Bj] at he;cases h;refine⟨.slice (some ⟨L.r,L.d+off+x.1 * i.size,none⟩) (x.2.1 - x.1) (x.2.2 - x.1),by simp [Instr.slice,run_underlying ht,hrun,sizeOf,typeInfo,hi,he,addr_add],?_⟩;simp only[Rv];exact⟨L,hL,by simp [Cq]⟩
 | true=>
  have hrun:=nN (e:=L.e) (isSlice:=true) hF hR hlo hhi hmx hhm hb;simp only[aR,hnone] at h;simp only[Eo];cases hm:mx.isNone
  ·rw[hm] at h hrun;simp only[Eg,Bc,bB] at hrun h;rw[cN] at h;split at h
   ·rename_i he;rw[Bj] at he;cases h;refine⟨_,by simp [Instr.slice,run_underlying ht,hrun,sizeOf,typeInfo,hi,he];rfl,?_⟩;simp only[Rv];exact⟨L,hL,by simp [he]⟩
   ·rename_i he;rw[Bj] at he;cases h;refine⟨.slice (some ⟨L.r,L.d+off+x.1 * i.size,none⟩) (x.2.1 - x.1) (x.2.2 - x.1),by simp [Instr.slice,run_underlying ht,hrun,sizeOf,typeInfo,hi,he,addr_add],?_⟩;simp only[Rv];exact⟨L,hL,by simp [Cq]⟩
  ·rw[hm] at h hrun;simp only[Eo,aR] at hrun h;rw[cN] at h;split at h
   ·rename_i he;rw[Bj] at he;cases h;have hlen:x.2.1 - x.1=0:=by omega
    simp only[Instr.slice,Sem.run_bind,run_underlying ht,Result.andThen_ok,hrun,sizeOf,typeInfo,run_program,hi,Sem.run_pure,hlen];by_cases h0:x.2.2+L.e=x.1
    ·exact⟨_,by rw[if_pos h0],by simp only[Rv];exact⟨_,_,rfl⟩⟩
    ·exact⟨_,by rw[if_neg h0],by simp only[Rv];exact⟨_,_,rfl⟩⟩
   ·rename_i he;rw[Bj] at he;cases h;have h0:¬ (x.2.2+L.e=x.1):=by omega
    refine⟨.slice (some ⟨L.r,L.d+off+x.1 * i.size,none⟩) (x.2.1 - x.1) (x.2.2+L.e - x.1),by simp [Instr.slice,run_underlying ht,hrun,sizeOf,typeInfo,hi,h0,addr_add],?_⟩;simp only[Rv];refine⟨L,hL,?_⟩;simp only[Eo,Cq];congr 1;omega
theorem aGQ{t e:TypeId}{i:TypeInfo}(ht:P.underlying t=some (.slice e))(hi:P.info? e=some i){F:Fr}{a:Act}(hF:qO P σ F a.tmps)(hR:kT P σ S w)
  {lo hh mx:Option Operand} {Lo Hi Mx:Option cO} (hlo:oE P lo=some Lo) (hhi:oE P hh=some Hi) (hmx:oE P mx=some Mx)
  (hhm:mx.isSome=true->hh.isSome=true) {X:Value} (hx:Rv P σ .emp X) {v:AV} (h:aLb Lo Hi Mx F=some v):
  ∃V,(Instr.slice t X (lo.map a.eval) (hh.map a.eval) (mx.map a.eval)).run P w= .ok V w/\Rv P σ v V:=by
 simp only[Rv] at hx;obtain⟨A,c,rfl⟩:=hx;have⟨x,hb,h⟩:=aO h;cases h;have h6:=(sT hb).2.2.2;have hrun:=nN (e:=c) (isSlice:=true) hF hR hlo hhi hmx hhm hb;simp only[An] at hrun;have h1:x.1=0:=by omega
 have h2:x.2.1=0:=by omega
 simp only[Instr.slice,Sem.run_bind,run_underlying ht,Result.andThen_ok,hrun,sizeOf,typeInfo,run_program,hi,Sem.run_pure,h1,h2,Ep,Eh];refine⟨_,rfl,?_⟩;simp only[Rv,Dy,Addr.add_zero',ite_self];exact⟨A,_,rfl⟩
theorem aHg{t e:TypeId}{i:TypeInfo}(ht:P.underlying t=some (.slice e))(hi:P.info? e=some i){F:Fr}{a:Act}(hF:qO P σ F a.tmps)(hR:kT P σ S w)
  {lo hh mx:Option Operand} {Lo Hi Mx:Option cO} (hlo:oE P lo=some Lo) (hhi:oE P hh=some Hi) (hmx:oE P mx=some Mx)
  (hhm:mx.isSome=true->hh.isSome=true) {X:Value} (hx:Rv P σ .bw X) {v:AV} (h:aMJ Lo Hi Mx F=some v):
  ∃V,(Instr.slice t X (lo.map a.eval) (hh.map a.eval) (mx.map a.eval)).run P w= .ok V w/\Rv P σ v V:=by
 simp only[Rv] at hx;subst hx;have⟨x,hb,h⟩:=aO h;cases h;have h6:=(sT hb).2.2.2;have hrun:=nN (e:=0) (isSlice:=true) hF hR hlo hhi hmx hhm hb;simp only[Br,ite_self] at hrun;have h1:x.1=0:=by omega
 have h2:x.2.1=0:=by omega
 have h3:x.2.2=0:=by omega
 simp only[Instr.slice,Sem.run_bind,run_underlying ht,Result.andThen_ok,hrun,sizeOf,typeInfo,run_program,hi,Sem.run_pure,h1,h2,h3,Eo,Eh];exact⟨_,rfl,by simp only[Rv]⟩
theorem aHj{t e:TypeId}{n:Nat}{i:TypeInfo}(ht:P.underlying t=some (.array n e))(hi:P.info? e=some i){F:Fr}{a:Act}(hF:qO P σ F a.tmps)(hR:kT P σ S w)
  {b off:Nat} {lo hh mx:Option Operand} {Lo Hi Mx:Option cO} (hlo:oE P lo=some Lo) (hhi:oE P hh=some Hi) (hmx:oE P mx=some Mx)
  (hhm:mx.isSome=true->hh.isSome=true) {X:Value} (hx:Rv P σ (.ptr b off) X) {v:AV} (h:aMW n i.size b off Lo Hi Mx F=some v):
  ∃V,(Instr.sliceAt t X (lo.map a.eval) (hh.map a.eval) (mx.map a.eval)).run P w= .ok V w/\Rv P σ v V:=by
 simp only[Rv] at hx;obtain⟨L,hL,rfl⟩:=hx;have⟨x,hb,h⟩:=aO h;have hrun:=nN (e:=0) (isSlice:=false) hF hR hlo hhi hmx hhm hb;simp only[Br,ite_self] at hrun;rw[cN] at h;split at h
 ·rename_i he;rw[Bj] at he;cases h;refine⟨_,by simp [Instr.sliceAt,run_underlying ht,Instr.sureAddr,hrun,sizeOf,typeInfo,hi,he];rfl,?_⟩;simp only[Rv];exact⟨L,hL,by simp [he]⟩
 ·rename_i he;rw[Bj] at he;cases h;refine⟨.slice (some ⟨L.r,L.d+off+x.1 * i.size,none⟩) (x.2.1 - x.1) (x.2.2 - x.1),by simp [Instr.sliceAt,run_underlying ht,Instr.sureAddr,hrun,sizeOf,typeInfo,hi,he,addr_add],?_⟩;simp only[Rv];exact⟨L,hL,by simp [Cq]⟩
theorem uC(hE:vQ P){kt:TypeId}{k:AV}{K:Value}(hk:Rv P σ k K):∀ {m:List (AV×AV)} {es:List MapEntry} {i:Nat} {r:Option (Nat×AV)},uO P σ m es->sF (eqT P kt) k m i=some r->
  ∃R,(Instr.findAsking kt K es i).run P w= .ok R w/\(match r,R with
   | none,none=>True
   | some (j,v),some (j',V)=>j=j'/\Rv P σ v V
   | _,_=>False)
 | [],es,i,r,hm,h=>by
  simp only[sF,Ap] at h;subst h;have hm:es= []:=hm;subst hm;exact⟨none,rfl,trivial⟩
 | (k',v)::m,es,i,r,hm,h=>by
  obtain⟨e,es',rfl,h1,h2,h3⟩:=hm;simp only[sF] at h;have⟨b,h4,h⟩:=aO h;have heq:(Op.equal kt K e.key).run P w= .ok b w:=(yG (w:=w) hE hk h1 h4).2 9998;cases b
  ·rw[bB] at h;have⟨R,h5,h6⟩:=uC hE hk h3 h;exact⟨R,by simp only[Instr.findAsking,Sem.run_bind,heq,Result.andThen_ok];exact h5,h6⟩
  ·rw[aR] at h;cases h;exact⟨some (i,e.val),by simp [Instr.findAsking,heq],rfl,h2⟩
end Go.Ev
namespace Go.Ev
variable {P:Program}{σ:Env}{S:St}{w:World}
def aFK(P:Program)(σ:Env):Option (Nat×AV)->Option (Nat×Value)->Prop
 | none,none=>True
 | some (j,v),some (j',V)=>j=j'/\Rv P σ v V
 | _,_=>False
theorem tU{d:TypeDesc}{e:EqP}(hd:(d= .string/\e= .str)\/((∃k,d= .int k)/\e= .int)){k:AV}{K:Value}(hk:Rv P σ k K):
  ∀ {m:List (AV×AV)} {es:List MapEntry} {i:Nat} {r:Option (Nat×AV)},uO P σ m es->sF (.p e) k m i=some r->∃R,Instr.findNow d K es i=some R/\aFK P σ r R
 | [],es,i,r,hm,h=>by
  simp only[sF,Ap] at h;subst h;have hm:es= []:=hm;subst hm;exact⟨none,rfl,trivial⟩
 | (k',v)::m,es,i,r,hm,h=>by
  obtain⟨x,es',rfl,h1,h2,h3⟩:=hm;simp only[sF] at h;have⟨b,h4,h⟩:=aO h;have h4:yP e k k'=some b:=h4;have hs:Instr.sameNow d K x.key=some b:=by
   rcases hd with⟨rfl,rfl⟩ | ⟨⟨kk,rfl⟩,rfl⟩
   ·cases k<;>simp only[yP,reduceCtorEq] at h4;cases k'<;>simp only[reduceCtorEq] at h4;simp only[Rv] at hk h1;obtain⟨rfl,ha⟩:=hk;have⟨hx,hc⟩:=h1;cases h4;rw[hx];simp only[Instr.sameNow];rw[beq_toListBytes,aCN ha hc]
   ·cases k<;>simp only[yP,reduceCtorEq] at h4;cases k'<;>simp only[reduceCtorEq] at h4;simp only[Rv] at hk h1;subst hk;have⟨h5,h6⟩:=cH h4;have:=aAt h5;subst this;cases h6;rw[h1];simp [Instr.sameNow,jP]
  cases b
  ·rw[bB] at h;have⟨R,h5,h6⟩:=tU hd hk h3 h;exact⟨R,by simp only[Instr.findNow,hs];exact h5,h6⟩
  ·rw[aR] at h;cases h;exact⟨some (i,x.val),by simp only[Instr.findNow,hs],rfl,h2⟩
theorem zY{kt:TypeId}{e:tZ}(h:aBS P kt=some e):(P.underlying kt=some .string/\e= .p .str)\/((∃k,P.underlying kt=some (.int k))/\e= .p .int)\/
  (e=eqT P kt/\((∃fs,P.underlying kt=some (.struct fs)/\fs.all (fun f=>plainKey (eqP P f.type))=true)\/(∃n el,P.underlying kt=some (.array n el)/\plainKey (eqP P el)=true))):=by
 unfold aBS at h;split at h
 ·cases h;exact .inl ⟨‹_›,rfl⟩
 ·cases h;exact .inr (.inl ⟨⟨_, ‹_›⟩,rfl⟩)
 ·rename_i fs hu;split at h
  ·rename_i l hl;rw[Bi] at h;split at h
   ·rename_i hb;cases h;rw[Co] at hb;exact .inr (.inr ⟨hl.symm,.inl ⟨fs,hu,hb.1⟩⟩)
   ·cases h
  ·cases h
 ·rename_i n el hu;split at h
  ·rename_i l hl;rw[Bi] at h;split at h
   ·rename_i hb;cases h;rw[Co] at hb;exact .inr (.inr ⟨hl.symm,.inr ⟨n,el,hu,hb.1⟩⟩)
   ·cases h
  ·cases h
 ·cases h
theorem aCk{kt:TypeId}{l:List (Nat×EqP)}(h:aBS P kt=some (.struct l)):aB2 0 l=true:=by
 unfold aBS at h;split at h
 ·cases h
 ·cases h
 ·split at h
  ·rw[Bi] at h;split at h
   ·rename_i hb;cases h;rw[Co] at hb;exact hb.2
   ·cases h
  ·cases h
 ·split at h
  ·rw[Bi] at h;split at h
   ·rename_i hb;cases h;rw[Co] at hb;exact hb.2
   ·cases h
  ·cases h
 ·cases h
def aC9(P:Program):Prop:=∀ (σ:Env) (w:World) (kt:TypeId) (e:tZ) (k:AV) (K:Value) (empty:Bool),aBS P kt=some e->Rv P σ k K->
 (eqv e k k).isSome=true->(Instr.checkKey empty 10000 kt K).run P w= .ok () w
theorem zD(hE:vQ P){kt:TypeId}{e:tZ}(hkt:aBS P kt=some e){k:AV}{K:Value}(hk:Rv P σ k K){m:List (AV×AV)}{es:List MapEntry}{r:Option (Nat×AV)}(hm:uO P σ m es)
  (h:sF e k m 0=some r):∃R,(Instr.findKey kt K es).run P w= .ok R w/\aFK P σ r R:=by
 rcases zY hkt with⟨hu,rfl⟩ | ⟨⟨j,hu⟩,rfl⟩ | ⟨rfl,hu⟩
 ·have⟨R,h1,h2⟩:=tU (d:=.string) (.inl ⟨rfl,rfl⟩) hk hm h;exact⟨R,by simp [Instr.findKey,run_underlying hu,h1],h2⟩
 ·have⟨R,h1,h2⟩:=tU (d:=.int j) (.inr ⟨⟨j,rfl⟩,rfl⟩) hk hm h;exact⟨R,by simp [Instr.findKey,run_underlying hu,h1],h2⟩
 ·have⟨R,h1,h2⟩:=uC (w:=w) hE hk hm h;have h2':aFK P σ r R:=by
   cases r<;>cases R<;>first | exact h2 | trivial
  have hd:∃d,P.underlying kt=some d/\∀X Y,Instr.sameNow d X Y=none:=by
   rcases hu with⟨fs,hu,_⟩ | ⟨n,el,hu,_⟩
   ·exact⟨_,hu,fun X Y=>rfl⟩
   ·exact⟨_,hu,fun X Y=>rfl⟩
  have⟨d,hd,hs⟩:=hd;cases es with
  | nil=>
   refine⟨none,by simp [Instr.findKey,run_underlying hd,Instr.findNow],?_⟩;simp [Instr.findAsking] at h1;subst h1;exact h2'
  | cons x es=>
   refine⟨R,?_,h2'⟩;simp only[Instr.findKey,Sem.run_bind,run_underlying hd,Result.andThen_ok,Instr.findNow,hs];exact h1
theorem wQ{kt:TypeId}(h:P.underlying kt=some .string\/∃j,P.underlying kt=some (.int j))(K:Value)(empty:Bool):(Instr.checkKey empty 10000 kt K).run P w= .ok () w:=by
 show(Instr.checkKey empty (9999+1) kt K).run P w= .ok () w;generalize 9999=n;rcases h with h | ⟨j,h⟩<;>simp [Instr.checkKey,run_underlying h]
theorem aIP{m:AV}{M:Value}{es:List (AV×AV)}(hR:kT P σ S w)(hm:Rv P σ m M)(h:uE S.h m=some es):
  ∃ms:Array MapEntry,uO P σ es ms.toList/\((M= .map none/\ms= #[])\/∃r c,M= .map (some r)/\w.heap[r]? =some (.map ms c)):=by
 cases m<;>simp only[uE,reduceCtorEq] at h<;>simp only[Rv] at hm
 ·obtain⟨L,hL,rfl⟩:=hm;have⟨bl,h1,h2⟩:=aO h;cases bl<;>simp only[tQ,reduceCtorEq,Ap] at h2;subst h2;have⟨L',hL',_,ms,c,h3,h4⟩:=hR.blk _ _ h1;rw[hL] at hL';cases hL';exact⟨ms,h4,.inr ⟨L.r,c,rfl,h3⟩⟩
 ·cases h;subst hm;exact⟨#[],rfl,.inl ⟨rfl,rfl⟩⟩
theorem aA1{ok:Bool}{v:AV}{V:Value}{b:Bool}(h:Rv P σ v V):Rv P σ (aEq ok v b) (if ok=true then .tuple #[V,.bool b] else V):=by
 unfold aEq;cases ok
 ·exact h
 ·rw[aR,if_pos rfl];simp only[Rv];exact⟨_,rfl,dB.2 ⟨_,_,rfl,h,dB.2 ⟨_,_,rfl,by simp only[Rv],cS.2 rfl⟩⟩⟩
theorem aCb{e:tZ}{k:AV}{es:List (AV×AV)}{r:Option (Nat×AV)}(h:nK e k es=some r):(eqv e k k).isSome=true/\sF e k es 0=some r:=by
 have⟨b,h1,h2⟩:=aO h;exact⟨by rw[h1];rfl,h2⟩
theorem aCv{r:Option (Nat×AV)}{R:Option (Nat×Value)}{z v:AV}{ok:Bool}{Z:Value}(hzr:Rv P σ z Z)(hR:aFK P σ r R)(h:nM r z ok=some v):
  (R=none/\Rv P σ v (if ok=true then .tuple #[Z,.bool false] else Z))\/∃j V,R=some (j,V)/\Rv P σ v (if ok=true then .tuple #[V,.bool true] else V):=by
 cases r with
 | none=>
  cases R with
  | none=>
   simp only[nM,Ap] at h;subst h;exact .inl ⟨rfl,aA1 hzr⟩
  | some x=>exact hR.elim
 | some x=>
  cases R with
  | none=>exact hR.elim
  | some y=>
   simp only[nM,Ap] at h;subst h;exact .inr ⟨y.1,y.2,rfl,aA1 hR.2⟩
theorem aGv(hE:vQ P)(hK:aC9 P){t kt et:TypeId}{e:tZ}{z:AV}{ok:Bool}(ht:P.underlying t=some (.map kt et))(hkt:aBS P kt=some e)(hz:aHY P et=some z)
  {m k:AV} {M K:Value} (hR:kT P σ S w) (hm:Rv P σ m M) (hk:Rv P σ k K) {v:AV} (h:(bC (uE S.h m) fun es=>bC (nK e k es) fun r=>nM r z ok)=some v):
  ∃V,(Instr.lookup t M K ok).run P w= .ok V w/\Rv P σ v V:=by
 have⟨es,h1,h⟩:=aO h;have⟨r,h2,h⟩:=aO h;have⟨hself,h2⟩:=aCb h2;have⟨ms,h3,h4⟩:=aIP hR hm h1;have⟨R,h5,h6⟩:=zD (w:=w) hE hkt hk h3 h2;have⟨i,Z,hi,hZ,hzr⟩:=aEF (σ:=σ) hz;have hck:∀empty,(Instr.checkKey empty 10000 kt K).run P w= .ok () w:=fun empty=>hK σ w kt e k K empty hkt hk hself;have hz0:(zeroValue et).run P w= .ok Z w:=xD hi hZ;rcases h4 with⟨rfl,rfl⟩ | ⟨r',c,rfl,hc⟩
 ·have h5:(Instr.findKey kt K []).run P w= .ok R w:=h5;rcases aCv hzr h6 h with⟨rfl,h8⟩ | ⟨j,V,rfl,h8⟩
  ·refine⟨_,?_,h8⟩;simp only[Instr.lookup,Sem.run_bind,run_underlying ht,Result.andThen_ok,Sem.run_pure,hck,h5,hz0]
  ·refine⟨_,?_,h8⟩;simp only[Instr.lookup,Sem.run_bind,run_underlying ht,Result.andThen_ok,Sem.run_pure,hck,h5]
 ·have hg:(getObj r').run P w= .ok (.map ms c) w:=by simp [getObj,Sem.run,hc]
  rcases aCv hzr h6 h with⟨rfl,h8⟩ | ⟨j,V,rfl,h8⟩
  ·refine⟨_,?_,h8⟩;simp only[Instr.lookup,Sem.run_bind,run_underlying ht,Result.andThen_ok,hg,Sem.run_pure,hck,h5,hz0]
  ·refine⟨_,?_,h8⟩;simp only[Instr.lookup,Sem.run_bind,run_underlying ht,Result.andThen_ok,hg,Sem.run_pure,hck,h5]
end Go.Ev
namespace Go.Ev
variable {P:Program}{σ:Env}{S:St}{w:World}
def aG8(_:Program):Prop:=True
structure zH(P:Program):Prop where
 eq:vQ P
 key:aC9 P
 mth:aG8 P
theorem aF5(hA:zH P){x v:AV}{X:Value}{o:Oper}{a:Act}{xo:Operand}(ho:o.op= .nilCheck xo)(he:a.eval xo=X)(hx:Rv P σ x X)(h:vI x=some v):
  ∃V,(execOp a.eval o).run P w= .ok (.value V) w/\Rv P σ v V:=by
 cases x<;>simp only[vI,reduceCtorEq,Ap] at h
 case ptr=>
  subst h;have hx':=hx;simp only[Rv] at hx';obtain⟨L,hL,rfl⟩:=hx';exact⟨_,by simp only[execOp,ho,he];rfl,hx⟩
 case fn=>
  subst h;have hx':=hx;simp only[Rv] at hx';obtain⟨A,B,rfl,_⟩:=hx';exact⟨_,by simp only[execOp,ho,he];rfl,hx⟩
 case yld=>
  subst h;have hx':=hx;simp only[Rv] at hx';obtain⟨L,hL,rfl⟩:=hx';exact⟨_,by simp only[execOp,ho,he];rfl,hx⟩
 case iface=>
  subst h;have hx':=hx;simp only[Rv] at hx';obtain⟨W,rfl,_⟩:=hx';exact⟨_,by simp only[execOp,ho,he];rfl,hx⟩
theorem aE5:∀ {xs:bf} {Xs:List Value} {x v:AV} {X:Value},iH P σ xs Xs->Rv P σ x X->kI true xs x=some v->∃V,(Xs.foldlM Builtin.max2 X).run P w= .ok V w/\Rv P σ v V
 | [],Xs,x,v,X,hxs,hx,h=>by
  rw[cS] at hxs;subst hxs;simp only[kI,Ap] at h;subst h;exact⟨X,rfl,hx⟩
 | y::xs,Xs,x,v,X,hxs,hx,h=>by
  rw[dB] at hxs;obtain⟨Y,Ys,rfl,hY,hYs⟩:=hxs;unfold kI at h;split at h
  ·rename_i e;cases e
  ·rename_i k' b vs k a e;cases e;have⟨h1,h2⟩:=cH h;simp only[Rv] at hY hx;subst hY;subst hx;have:=aAt h1;subst this;have⟨V,h3,h4⟩:=aE5 (X:=.int k (if b>a then b else a)) hYs (by
    simp only[Rv,aR];rw[cN,pX];simp only[decide_eq_true_eq];congr 1;split<;>split<;>omega) h2
   exact⟨V,by rw[List.foldlM_cons];simp only[Sem.run_bind,Builtin.max2,Sem.run_pure,Result.andThen_ok];exact h3,h4⟩
  ·cases h
theorem aE1:∀ {xs:bf} {Xs:List Value} {x v:AV} {X:Value},iH P σ xs Xs->Rv P σ x X->kI false xs x=some v->∃V,(Xs.foldlM Builtin.min2 X).run P w= .ok V w/\Rv P σ v V
 | [],Xs,x,v,X,hxs,hx,h=>by
  rw[cS] at hxs;subst hxs;simp only[kI,Ap] at h;subst h;exact⟨X,rfl,hx⟩
 | y::xs,Xs,x,v,X,hxs,hx,h=>by
  rw[dB] at hxs;obtain⟨Y,Ys,rfl,hY,hYs⟩:=hxs;unfold kI at h;split at h
  ·rename_i e;cases e
  ·rename_i k' b vs k a e;cases e;have⟨h1,h2⟩:=cH h;simp only[Rv] at hY hx;subst hY;subst hx;have:=aAt h1;subst this;have⟨V,h3,h4⟩:=aE1 (X:=.int k (if b<a then b else a)) hYs (by
    simp only[Rv,bB];rw[cN,pX];simp only[decide_eq_true_eq];congr 1;split<;>split<;>omega) h2
   exact⟨V,by rw[List.foldlM_cons];simp only[Sem.run_bind,Builtin.min2,Sem.run_pure,Result.andThen_ok];exact h3,h4⟩
  ·cases h
theorem aHa{t ty:TypeId}{e:TypeId}(ht:P.underlying t=some (.slice e)){x v:AV}{X:Value}(hx:Rv P σ x X)(h:jJ x=some v):∃V,(Builtin.len_ #[t] ty #[X]).run P w= .ok V w/\Rv P σ v V:=by
 cases x<;>simp only[jJ,reduceCtorEq,Ap] at h<;>subst h<;>simp only[Rv] at hx
 ·obtain⟨L,_,rfl⟩:=hx;exact⟨_,by simp [Builtin.len_,run_underlying ht];rfl,by simp only[Rv];rfl⟩
 ·subst hx;exact⟨_,by simp [Builtin.len_,run_underlying ht];rfl,by simp only[Rv];rfl⟩
 ·obtain⟨A,c,rfl⟩:=hx;exact⟨_,by simp [Builtin.len_,run_underlying ht];rfl,by simp only[Rv];rfl⟩
end Go.Ev
namespace Go.Ev
variable {P:Program}{σ:Env}{S:St}{w:World}
theorem dV{o:Option QOp}{r:AOp}(h:q o=some r):∃x,o=some x/\r= .q x:=by
 cases o with
 | none=>cases h
 | some x=>cases h;exact⟨x,rfl,rfl⟩
theorem lJ{o:Option wN}{r:AOp}(h:al o=some r):∃x,o=some x/\r= .a x:=by
 cases o with
 | none=>cases h
 | some x=>cases h;exact⟨x,rfl,rfl⟩
theorem jS{o:Option XOp}{r:AOp}(h:xx o=some r):∃x,o=some x/\r= .x x:=by
 cases o with
 | none=>cases h
 | some x=>cases h;exact⟨x,rfl,rfl⟩
theorem bE{α β:Type}{o:Option α}{f:α->Option β}{r:β}(h:(o >>=f)=some r):∃a,o=some a/\f a=some r:=by
 cases o with
 | none=>cases h
 | some a=>exact⟨a,rfl,h⟩
theorem aFt(hA:zH P){o:Oper}{qo:QOp}(hc:uX P o.op=some (.q qo)){F:Fr}{a:Act}(hF:qO P σ F a.tmps)(hR:kT P σ S w){v:AV}(hv:gM qo F S.h=some v):
  ∃V,(execOp a.eval o).run P w= .ok (.value V) w/\Rv P σ v V:=by
 have lift:∀ {s:Sem Value},execOp a.eval o=(do pure (.value (<-s)))->(∃V,s.run P w= .ok V w/\Rv P σ v V)->∃V,(execOp a.eval o).run P w= .ok (.value V) w/\Rv P σ v V:=by
  rintro s he ⟨V,h1,h2⟩;exact⟨V,by rw[he];simp [h1],h2⟩
 have⟨dst,op,type,pos,after,guard⟩:=o;simp only at hc;cases op with
 | move x=>
  have⟨y,h1,h2⟩:=dV hc;cases h2;have⟨X,hX,h1⟩:=bE h1;cases h1;cases hv;exact⟨_,rfl,cL hF hR hX⟩
 | assign x=>
  have⟨y,h1,h2⟩:=dV hc;cases h2;have⟨X,hX,h1⟩:=bE h1;cases h1;cases hv;exact⟨_,rfl,cL hF hR hX⟩
 | pick c x y=>
  have⟨z,h1,h2⟩:=dV hc;cases h2;have⟨C,hC,h1⟩:=bE h1;have⟨X,hX,h1⟩:=bE h1;have⟨Y,hY,h1⟩:=bE h1;cases h1;exact aIF (cL hF hR hC) (cL hF hR hX) (cL hF hR hY) hv
 | alloc t=>have⟨y,_,h2⟩:=lJ hc;cases h2
 | box t x=>have⟨y,_,h2⟩:=lJ hc;cases h2
 | build t ps=>
  simp only[uX] at hc;split at hc
  ·rename_i fs hu;rw[Bi] at hc;split at hc
   ·rename_i hk;have⟨y,h1,h2⟩:=dV hc;cases h2;have⟨z,hz,h1⟩:=bE h1;have⟨qs,hq,h1⟩:=bE h1;cases h1;have⟨cs,h3,h4⟩:=aO (show(bC (eQ z (eH F qs)) fun cs=>some (.agg cs))=some v from hv);cases h4;exact lift rfl (zZ hF hR hu hk hz hq h3)
   ·cases hc
  ·rename_i n e hu;have⟨y,h1,h2⟩:=dV hc;cases h2;have⟨i,hi,h1⟩:=bE h1;have⟨z,hz,h1⟩:=bE h1;have⟨qs,hq,h1⟩:=bE h1;cases h1;have⟨cs,h3,h4⟩:=aO (show(bC (eQ z (eH F qs)) fun cs=>some (.agg cs))=some v from hv);cases h4;exact lift rfl (aAL hF hR hu hi hz hq h3)
  ·cases hc
 | buildSlice t n ps=>have⟨y,_,h2⟩:=lJ hc;cases h2
 | insert t m k x=>
  simp only[uX] at hc;split at hc
  ·have⟨y,_,h2⟩:=jS hc;cases h2
  ·cases hc
 | load t x=>
  have⟨y,h1,h2⟩:=dV hc;cases h2;have⟨⟨agg,n⟩,hag,h1⟩:=bE h1;have⟨X,hX,h1⟩:=bE h1;cases h1;exact lift rfl (aJ8 hag hR (cL hF hR hX) hv)
 | store t x y=>
  have⟨y,_,h2⟩:=jS hc;cases h2
 | ready g=>cases hc
 | waits g=>cases hc
 | nilCheck x=>
  have⟨y,h1,h2⟩:=dV hc;cases h2;have⟨X,hX,h1⟩:=bE h1;cases h1;exact aF5 hA rfl rfl (cL hF hR hX) hv
 | binOp op t x y t'=>
  have⟨z,h1,h2⟩:=dV hc;cases h2;have⟨X,hX,h1⟩:=bE h1;have⟨Y,hY,h1⟩:=bE h1;cases h1;exact lift rfl (aJ5 hA.eq (cL hF hR hX) (cL hF hR hY) hv)
 | unOp op t x=>
  have⟨z,h1,h2⟩:=dV hc;cases h2;have⟨X,hX,h1⟩:=bE h1;cases h1;exact lift rfl (aLP (cL hF hR hX) hv)
 | convert src dst x=>cases hc
 | sliceToArrayPointer t x=>cases hc
 | makeInterface t x=>
  simp only[uX] at hc;split at hc
  ·cases hc
  ·rename_i d hni hu;have⟨z,h1,h2⟩:=dV hc;cases h2;have⟨X,hX,h1⟩:=bE h1;cases h1;cases hv;refine lift rfl ⟨.iface t (a.eval x),?_,by simp only[Rv];exact⟨_,rfl,cL hF hR hX⟩⟩;simp only[Instr.makeInterface,Sem.run_bind,run_underlying hu,Result.andThen_ok];cases d<;>first | rfl | (exact absurd hu (by simpa using hni _))
  ·cases hc
 | makeFunc fn first cap=>
  cases fn with
  | func f=>
   have⟨z,h1,h2⟩:=dV hc;cases h2;have⟨X,hX,h1⟩:=bE h1;have⟨Y,hY,h1⟩:=bE h1;cases h1;cases hv;refine lift rfl ⟨_,rfl,?_⟩;simp only[Rv];refine⟨(first.map a.eval).toList,(cap.map a.eval).toList,rfl,?_,?_⟩
   ·rw[Fa];exact oN hF hR hX
   ·rw[Fa];exact oN hF hR hY
  | method name=>cases hc
  | methodOf t name=>cases hc
  | via t path f p=>cases hc
  | yield l=>cases hc
 | makeMap t r=>cases r<;>simp only[uX,reduceCtorEq] at hc;have⟨y,_,h2⟩:=lJ hc;cases h2
 | makeChan t x=>cases hc
 | makeSlice t l c=>have⟨y,_,h2⟩:=lJ hc;cases h2
 | slice t x lo hh mx=>
  simp only[uX,Bi] at hc;split at hc
  ·cases hc
  ·rename_i hguard;have hhm:mx.isSome=true->hh.isSome=true:=fun hm=>by
    cases hh with
    | none=>simp [hm] at hguard
    | some _=>rfl
   split at hc
   ·rename_i e hu;have⟨z,h1,h2⟩:=dV hc;cases h2;have⟨i,hi,h1⟩:=bE h1;have⟨X,hX,h1⟩:=bE h1;have⟨Lo,hLo,h1⟩:=bE h1;have⟨Hi,hHi,h1⟩:=bE h1;have⟨Mx,hMx,h1⟩:=bE h1;cases h1;have hv:aAx (.slice i.size) (X.val F) Lo Hi Mx F=some v:=hv;have hx:=cL hF hR hX;generalize X.val F=xv at hv hx;cases xv<;>simp only[aAx,reduceCtorEq] at hv
    ·refine lift rfl ?_;have⟨V,h3,h4⟩:=aIQ hu hi hF hR hLo hHi hMx hhm hx hv;exact⟨V,by simp only[Instr.sliceAt,Sem.run_bind,run_underlying hu,Result.andThen_ok];exact h3,h4⟩
    ·refine lift rfl ?_;have⟨V,h3,h4⟩:=aHg hu hi hF hR hLo hHi hMx hhm hx hv;exact⟨V,by simp only[Instr.sliceAt,Sem.run_bind,run_underlying hu,Result.andThen_ok];exact h3,h4⟩
    ·refine lift rfl ?_;have⟨V,h3,h4⟩:=aGQ hu hi hF hR hLo hHi hMx hhm hx hv;exact⟨V,by simp only[Instr.sliceAt,Sem.run_bind,run_underlying hu,Result.andThen_ok];exact h3,h4⟩
   ·rename_i n e hu;have⟨z,h1,h2⟩:=dV hc;cases h2;have⟨i,hi,h1⟩:=bE h1;have⟨X,hX,h1⟩:=bE h1;have⟨Lo,hLo,h1⟩:=bE h1;have⟨Hi,hHi,h1⟩:=bE h1;have⟨Mx,hMx,h1⟩:=bE h1;cases h1;have hv:aAx (.arr n i.size) (X.val F) Lo Hi Mx F=some v:=hv;have hx:=cL hF hR hX;generalize X.val F=xv at hv hx;cases xv<;>simp only[aAx,reduceCtorEq] at hv;exact lift rfl (aHj hu hi hF hR hLo hHi hMx hhm hx hv)
   ·cases hc
 | fieldAddr t x f=>
  simp only[uX] at hc;split at hc
  ·rename_i fs hu;have⟨z,h1,h2⟩:=dV hc;cases h2;have⟨fd,hf,h1⟩:=bE h1;have⟨i,hi,h1⟩:=bE h1;split at h1
   ·cases h1
   ·rename_i h0;have⟨X,hX,h1⟩:=bE h1;cases h1;exact lift rfl (aGJ hu hf hi h0 (cL hF hR hX) hv)
  ·cases hc
 | field t x f=>
  simp only[uX] at hc;split at hc
  ·rename_i fs hu;have⟨z,h1,h2⟩:=dV hc;cases h2;have⟨fd,hf,h1⟩:=bE h1;have⟨⟨agg,n⟩,hag,h1⟩:=bE h1;have⟨X,hX,h1⟩:=bE h1;cases h1;exact lift rfl (aKi hu hf hag (cL hF hR hX) hv)
  ·cases hc
 | indexAddr t x ix=>
  simp only[uX] at hc;split at hc
  ·rename_i e hu;have⟨z,h1,h2⟩:=dV hc;cases h2;have⟨i,hi,h1⟩:=bE h1;have⟨X,hX,h1⟩:=bE h1;have⟨I,hI,h1⟩:=bE h1;cases h1;have⟨j,h3,h4⟩:=aO (show(bC (fP (I.val F)) fun j=>dO (.slice i.size) (X.val F) j)=some v from hv);have⟨k,hk⟩:=rR h3;have hi':=cL hF hR hI;rw[hk] at hi';simp only[Rv] at hi';exact lift rfl (aDY hu hi (cL hF hR hX) hi' h4)
  ·rename_i n e hu;have⟨z,h1,h2⟩:=dV hc;cases h2;have⟨i,hi,h1⟩:=bE h1;have⟨X,hX,h1⟩:=bE h1;have⟨I,hI,h1⟩:=bE h1;cases h1;have⟨j,h3,h4⟩:=aO (show(bC (fP (I.val F)) fun j=>dO (.arr n i.size) (X.val F) j)=some v from hv);have⟨k,hk⟩:=rR h3;have hi':=cL hF hR hI;rw[hk] at hi';simp only[Rv] at hi';exact lift rfl (aCL hu hi (cL hF hR hX) hi' h4)
  ·cases hc
 | index t x ix=>cases hc
 | lookup t m k ok=>
  simp only[uX] at hc;split at hc
  ·rename_i kt et hu;have⟨z,h1,h2⟩:=dV hc;cases h2;have⟨e,he,h1⟩:=bE h1;have⟨zv,hz,h1⟩:=bE h1;have⟨M,hM,h1⟩:=bE h1;have⟨K,hK,h1⟩:=bE h1;cases h1;exact lift rfl (aGv hA.eq hA.key hu he hz hR (cL hF hR hM) (cL hF hR hK) hv)
  ·cases hc
 | mapUpdate t m k x=>
  simp only[uX] at hc;split at hc
  ·have⟨y,_,h2⟩:=jS hc;cases h2
  ·cases hc
 | mapEntry t m k=>cases hc
 | entryStore t m s x=>cases hc
 | range t x=>cases hc
 | next x b=>cases hc
 | entry x=>cases hc
 | typeAssert x xt t ok=>cases hc
 | extract x i=>
  have⟨z,h1,h2⟩:=dV hc;cases h2;have⟨X,hX,h1⟩:=bE h1;cases h1;exact lift rfl (aER (cL hF hR hX) hv)
 | call c=>
  have⟨callee,args,argTypes⟩:=c;cases callee with
  | value f=>
   simp only[uX] at hc;split at hc
   ·cases hc
   ·have⟨y,_,h2⟩:=jS hc;cases h2
  | invoke r m=>cases hc
  | builtin b=>
   have arr:∀ {α:Type} {x:Array α} {l:List α},x.toList=l->x=l.toArray:=fun h=>by apply Array.ext';rw[h]
   simp only[uX] at hc;split at hc
   ·rename_i x t hx ht;have:=arr hx;subst this;have:=arr ht;subst this;split at hc
    ·rename_i e hu;have⟨z,h1,h2⟩:=dV hc;cases h2;have⟨X,hX,h1⟩:=bE h1;cases h1;exact lift (s:=Builtin.len_ #[t] type #[a.eval x]) (by simp [execOp,resolve,invoke,builtin]) (aHa hu (cL hF hR hX) hv)
    ·cases hc
   ·have⟨z,h1,h2⟩:=dV hc;cases h2;have⟨Xs,hXs,h1⟩:=bE h1;cases h1;have hxs:=oN hF hR hXs;have hv:mH true (dG Xs F)=some v:=hv;refine lift (s:=Builtin.max_ argTypes type (args.map a.eval)) rfl ?_;unfold Builtin.max_;rw[Fa];cases hvl:dG Xs F with
    | nil=>rw[hvl] at hv;simp [mH] at hv
    | cons u us=>
     rw[hvl] at hv hxs;rw[dB] at hxs;have⟨U,Us,he,hU,hUs⟩:=hxs;rw[he];exact aE5 hUs hU hv
   ·have⟨z,h1,h2⟩:=dV hc;cases h2;have⟨Xs,hXs,h1⟩:=bE h1;cases h1;have hxs:=oN hF hR hXs;have hv:mH false (dG Xs F)=some v:=hv;refine lift (s:=Builtin.min_ argTypes type (args.map a.eval)) rfl ?_;unfold Builtin.min_;rw[Fa];cases hvl:dG Xs F with
    | nil=>rw[hvl] at hv;simp [mH] at hv
    | cons u us=>
     rw[hvl] at hv hxs;rw[dB] at hxs;have⟨U,Us,he,hU,hUs⟩:=hxs;rw[he];exact aE1 hUs hU hv
   ·split at hc
    ·rw[Bi] at hc;split at hc
     ·have⟨y,_,h2⟩:=jS hc;cases h2
     ·cases hc
    ·cases hc
   ·cases hc
 | go c=>cases hc
 | defer c=>cases hc
 | panic x=>cases hc
 | send x y=>cases hc
 | recv t x b=>cases hc
 | select cs b=>cases hc
end Go.Ev
