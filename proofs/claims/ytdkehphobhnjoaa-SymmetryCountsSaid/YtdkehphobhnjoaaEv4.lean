import Derived.Test.YtdkehphobhnjoaaEv3
namespace Go.Ev
variable {P:Program}{σ:Env}{S:St}{w:World}
theorem addr_add(r o n:Nat):(⟨r,o,none⟩:Addr).add n=⟨r,o+n,none⟩:=Addr.add_mid r o n
theorem aIH{t e:TypeId}{i:TypeInfo}(ht:P.underlying t=some (.slice e))(hi:P.info? e=some i){F:Fr}{a:Act}(hF:rV P σ F a.tmps)(hR:mF P σ S w)
  {b off len cap:Nat} {o:Bool} {lo hh mx:Option Operand} {Lo Hi Mx:Option cU} (hlo:oC P lo=some Lo) (hhi:oC P hh=some Hi) (hmx:oC P mx=some Mx)
  (hhm:mx.isSome=true->hh.isSome=true) {X:Value} (hx:Rv P σ (.sl b off len cap o) X) {v:AV} (h:aHp i.size b off len cap o Lo Hi Mx F=some v):
  ∃V,(Instr.slice t X (lo.map a.eval) (hh.map a.eval) (mx.map a.eval)).run P w= .ok V w/\Rv P σ v V:=by
 simp only[Rv] at hx;obtain⟨L,hL,rfl⟩:=hx;have⟨x,hb,h⟩:=aS h;have hnone:=aGX hmx;have h6:=(qX hb).2.2.2;cases o with
 | false=>
  have hrun:=nO (e:=0) (isSlice:=true) hF hR hlo hhi hmx hhm hb;simp only[Bh,ite_self,aT] at hrun h;simp only[Eh,Be];rw[cN] at h;split at h
  ·rename_i he;rw[Bg] at he;cases h;refine⟨_,by simp [Instr.slice,run_underlying ht,hrun,sizeOf,typeInfo,hi,he];rfl,?_⟩;simp only[Rv];exact⟨L,hL,by simp [he]⟩
  ·rename_i he;rw[Bg] at he;cases h;refine⟨.slice (some ⟨L.r,L.d+off+x.1 * i.size,none⟩) (x.2.1 - x.1) (x.2.2 - x.1),by simp [Instr.slice,run_underlying ht,hrun,sizeOf,typeInfo,hi,he,addr_add],?_⟩;simp only[Rv];exact⟨L,hL,by simp [Db]⟩
 | true=>
  have hrun:=nO (e:=L.e) (isSlice:=true) hF hR hlo hhi hmx hhm hb;simp only[aO,hnone] at h;simp only[Ej];cases hm:mx.isNone
  ·rw[hm] at h hrun;simp only[Eh,Be,aT] at hrun h;rw[cN] at h;split at h
   ·rename_i he;rw[Bg] at he;cases h;refine⟨_,by simp [Instr.slice,run_underlying ht,hrun,sizeOf,typeInfo,hi,he];rfl,?_⟩;simp only[Rv];exact⟨L,hL,by simp [he]⟩
   ·rename_i he;rw[Bg] at he;cases h;refine⟨.slice (some ⟨L.r,L.d+off+x.1 * i.size,none⟩) (x.2.1 - x.1) (x.2.2 - x.1),by simp [Instr.slice,run_underlying ht,hrun,sizeOf,typeInfo,hi,he,addr_add],?_⟩;simp only[Rv];exact⟨L,hL,by simp [Db]⟩
  ·rw[hm] at h hrun;simp only[Ej,aO] at hrun h;rw[cN] at h;split at h
   ·rename_i he;rw[Bg] at he;cases h;have hlen:x.2.1 - x.1=0:=by omega
    simp only[Instr.slice,Sem.run_bind,run_underlying ht,Result.andThen_ok,hrun,sizeOf,typeInfo,run_program,hi,Sem.run_pure,hlen];by_cases h0:x.2.2+L.e=x.1
    ·exact⟨_,by rw[if_pos h0],by simp only[Rv];exact⟨_,_,rfl⟩⟩
    ·exact⟨_,by rw[if_neg h0],by simp only[Rv];exact⟨_,_,rfl⟩⟩
   ·rename_i he;rw[Bg] at he;cases h;have h0:¬ (x.2.2+L.e=x.1):=by omega
    refine⟨.slice (some ⟨L.r,L.d+off+x.1 * i.size,none⟩) (x.2.1 - x.1) (x.2.2+L.e - x.1),by simp [Instr.slice,run_underlying ht,hrun,sizeOf,typeInfo,hi,h0,addr_add],?_⟩;simp only[Rv];refine⟨L,hL,?_⟩;simp only[Ej,Db];congr 1;omega
theorem aGy{t e:TypeId}{i:TypeInfo}(ht:P.underlying t=some (.slice e))(hi:P.info? e=some i){F:Fr}{a:Act}(hF:rV P σ F a.tmps)(hR:mF P σ S w)
  {lo hh mx:Option Operand} {Lo Hi Mx:Option cU} (hlo:oC P lo=some Lo) (hhi:oC P hh=some Hi) (hmx:oC P mx=some Mx)
  (hhm:mx.isSome=true->hh.isSome=true) {X:Value} (hx:Rv P σ .emp X) {v:AV} (h:aNb Lo Hi Mx F=some v):
  ∃V,(Instr.slice t X (lo.map a.eval) (hh.map a.eval) (mx.map a.eval)).run P w= .ok V w/\Rv P σ v V:=by
 simp only[Rv] at hx;obtain⟨A,c,rfl⟩:=hx;have⟨x,hb,h⟩:=aS h;cases h;have h6:=(qX hb).2.2.2;have hrun:=nO (e:=c) (isSlice:=true) hF hR hlo hhi hmx hhm hb;simp only[An] at hrun;have h1:x.1=0:=by omega
 have h2:x.2.1=0:=by omega
 simp only[Instr.slice,Sem.run_bind,run_underlying ht,Result.andThen_ok,hrun,sizeOf,typeInfo,run_program,hi,Sem.run_pure,h1,h2,Cy,Dn];refine⟨_,rfl,?_⟩;simp only[Rv,Fd,Addr.add_zero',ite_self];exact⟨A,_,rfl⟩
theorem aG0{t e:TypeId}{i:TypeInfo}(ht:P.underlying t=some (.slice e))(hi:P.info? e=some i){F:Fr}{a:Act}(hF:rV P σ F a.tmps)(hR:mF P σ S w)
  {lo hh mx:Option Operand} {Lo Hi Mx:Option cU} (hlo:oC P lo=some Lo) (hhi:oC P hh=some Hi) (hmx:oC P mx=some Mx)
  (hhm:mx.isSome=true->hh.isSome=true) {X:Value} (hx:Rv P σ .cb X) {v:AV} (h:aMn Lo Hi Mx F=some v):
  ∃V,(Instr.slice t X (lo.map a.eval) (hh.map a.eval) (mx.map a.eval)).run P w= .ok V w/\Rv P σ v V:=by
 simp only[Rv] at hx;subst hx;have⟨x,hb,h⟩:=aS h;cases h;have h6:=(qX hb).2.2.2;have hrun:=nO (e:=0) (isSlice:=true) hF hR hlo hhi hmx hhm hb;simp only[Bh,ite_self] at hrun;have h1:x.1=0:=by omega
 have h2:x.2.1=0:=by omega
 have h3:x.2.2=0:=by omega
 simp only[Instr.slice,Sem.run_bind,run_underlying ht,Result.andThen_ok,hrun,sizeOf,typeInfo,run_program,hi,Sem.run_pure,h1,h2,h3,Ej,Dn];exact⟨_,rfl,by simp only[Rv]⟩
theorem aGn{t e:TypeId}{n:Nat}{i:TypeInfo}(ht:P.underlying t=some (.array n e))(hi:P.info? e=some i){F:Fr}{a:Act}(hF:rV P σ F a.tmps)(hR:mF P σ S w)
  {b off:Nat} {lo hh mx:Option Operand} {Lo Hi Mx:Option cU} (hlo:oC P lo=some Lo) (hhi:oC P hh=some Hi) (hmx:oC P mx=some Mx)
  (hhm:mx.isSome=true->hh.isSome=true) {X:Value} (hx:Rv P σ (.ptr b off) X) {v:AV} (h:aJt n i.size b off Lo Hi Mx F=some v):
  ∃V,(Instr.sliceAt t X (lo.map a.eval) (hh.map a.eval) (mx.map a.eval)).run P w= .ok V w/\Rv P σ v V:=by
 simp only[Rv] at hx;obtain⟨L,hL,rfl⟩:=hx;have⟨x,hb,h⟩:=aS h;have hrun:=nO (e:=0) (isSlice:=false) hF hR hlo hhi hmx hhm hb;simp only[Bh,ite_self] at hrun;rw[cN] at h;split at h
 ·rename_i he;rw[Bg] at he;cases h;refine⟨_,by simp [Instr.sliceAt,run_underlying ht,Instr.sureAddr,hrun,sizeOf,typeInfo,hi,he];rfl,?_⟩;simp only[Rv];exact⟨L,hL,by simp [he]⟩
 ·rename_i he;rw[Bg] at he;cases h;refine⟨.slice (some ⟨L.r,L.d+off+x.1 * i.size,none⟩) (x.2.1 - x.1) (x.2.2 - x.1),by simp [Instr.sliceAt,run_underlying ht,Instr.sureAddr,hrun,sizeOf,typeInfo,hi,he,addr_add],?_⟩;simp only[Rv];exact⟨L,hL,by simp [Db]⟩
theorem tD(hE:uD P){kt:TypeId}{k:AV}{K:Value}(hk:Rv P σ k K):∀ {m:List (AV×AV)} {es:List MapEntry} {i:Nat} {r:Option (Nat×AV)},sM P σ m es->qN (eqT P kt) k m i=some r->
  ∃R,(Instr.findAsking kt K es i).run P w= .ok R w/\(match r,R with
   | none,none=>True
   | some (j,v),some (j',V)=>j=j'/\Rv P σ v V
   | _,_=>False)
 | [],es,i,r,hm,h=>by
  simp only[qN,Ao] at h;subst h;have hm:es= []:=hm;subst hm;exact⟨none,rfl,trivial⟩
 | (k',v)::m,es,i,r,hm,h=>by
  obtain⟨e,es',rfl,h1,h2,h3⟩:=hm;simp only[qN] at h;have⟨b,h4,h⟩:=aS h;have heq:(Op.equal kt K e.key).run P w= .ok b w:=(xJ (w:=w) hE hk h1 h4).2 9998;cases b
  ·rw[aT] at h;have⟨R,h5,h6⟩:=tD hE hk h3 h;exact⟨R,by simp only[Instr.findAsking,Sem.run_bind,heq,Result.andThen_ok];exact h5,h6⟩
  ·rw[aO] at h;cases h;exact⟨some (i,e.val),by simp [Instr.findAsking,heq],rfl,h2⟩
end Go.Ev
namespace Go.Ev
variable {P:Program}{σ:Env}{S:St}{w:World}
def aFl(P:Program)(σ:Env):Option (Nat×AV)->Option (Nat×Value)->Prop
 | none,none=>True
 | some (j,v),some (j',V)=>j=j'/\Rv P σ v V
 | _,_=>False
theorem rT{d:TypeDesc}{e:EqP}(hd:(d= .string/\e= .str)\/((∃k,d= .int k)/\e= .int)){k:AV}{K:Value}(hk:Rv P σ k K):
  ∀ {m:List (AV×AV)} {es:List MapEntry} {i:Nat} {r:Option (Nat×AV)},sM P σ m es->qN (.p e) k m i=some r->∃R,Instr.findNow d K es i=some R/\aFl P σ r R
 | [],es,i,r,hm,h=>by
  simp only[qN,Ao] at h;subst h;have hm:es= []:=hm;subst hm;exact⟨none,rfl,trivial⟩
 | (k',v)::m,es,i,r,hm,h=>by
  obtain⟨x,es',rfl,h1,h2,h3⟩:=hm;simp only[qN] at h;have⟨b,h4,h⟩:=aS h;have h4:eqp e k k'=some b:=h4;have hs:Instr.sameNow d K x.key=some b:=by
   rcases hd with⟨rfl,rfl⟩ | ⟨⟨kk,rfl⟩,rfl⟩
   ·cases k<;>simp only[eqp,reduceCtorEq] at h4;cases k'<;>simp only[reduceCtorEq] at h4;simp only[Rv] at hk h1;obtain⟨rfl,ha⟩:=hk;have⟨hx,hc⟩:=h1;cases h4;rw[hx];simp only[Instr.sameNow];rw[beq_toListBytes,aCF ha hc]
   ·cases k<;>simp only[eqp,reduceCtorEq] at h4;cases k'<;>simp only[reduceCtorEq] at h4;simp only[Rv] at hk h1;subst hk;have⟨h5,h6⟩:=cG h4;have:=yW h5;subst this;cases h6;rw[h1];simp [Instr.sameNow,lJ]
  cases b
  ·rw[aT] at h;have⟨R,h5,h6⟩:=rT hd hk h3 h;exact⟨R,by simp only[Instr.findNow,hs];exact h5,h6⟩
  ·rw[aO] at h;cases h;exact⟨some (i,x.val),by simp only[Instr.findNow,hs],rfl,h2⟩
theorem yQ{kt:TypeId}{e:qF}(h:aBF P kt=some e):(P.underlying kt=some .string/\e= .p .str)\/((∃k,P.underlying kt=some (.int k))/\e= .p .int)\/
  (e=eqT P kt/\((∃fs,P.underlying kt=some (.struct fs)/\fs.all (fun f=>plainKey (eqP P f.type))=true)\/(∃n el,P.underlying kt=some (.array n el)/\plainKey (eqP P el)=true))):=by
 unfold aBF at h;split at h
 ·cases h;exact .inl ⟨‹_›,rfl⟩
 ·cases h;exact .inr (.inl ⟨⟨_, ‹_›⟩,rfl⟩)
 ·rename_i fs hu;split at h
  ·rename_i l hl;rw[Bn] at h;split at h
   ·rename_i hb;cases h;rw[Cn] at hb;exact .inr (.inr ⟨hl.symm,.inl ⟨fs,hu,hb.1⟩⟩)
   ·cases h
  ·cases h
 ·rename_i n el hu;split at h
  ·rename_i l hl;rw[Bn] at h;split at h
   ·rename_i hb;cases h;rw[Cn] at hb;exact .inr (.inr ⟨hl.symm,.inr ⟨n,el,hu,hb.1⟩⟩)
   ·cases h
  ·cases h
 ·cases h
theorem aB7{kt:TypeId}{l:List (Nat×EqP)}(h:aBF P kt=some (.struct l)):aBR 0 l=true:=by
 unfold aBF at h;split at h
 ·cases h
 ·cases h
 ·split at h
  ·rw[Bn] at h;split at h
   ·rename_i hb;cases h;rw[Cn] at hb;exact hb.2
   ·cases h
  ·cases h
 ·split at h
  ·rw[Bn] at h;split at h
   ·rename_i hb;cases h;rw[Cn] at hb;exact hb.2
   ·cases h
  ·cases h
 ·cases h
def aDV(P:Program):Prop:=∀ (σ:Env) (w:World) (kt:TypeId) (e:qF) (k:AV) (K:Value) (empty:Bool),aBF P kt=some e->Rv P σ k K->
 (eqv e k k).isSome=true->(Instr.checkKey empty 10000 kt K).run P w= .ok () w
theorem yM(hE:uD P){kt:TypeId}{e:qF}(hkt:aBF P kt=some e){k:AV}{K:Value}(hk:Rv P σ k K){m:List (AV×AV)}{es:List MapEntry}{r:Option (Nat×AV)}(hm:sM P σ m es)
  (h:qN e k m 0=some r):∃R,(Instr.findKey kt K es).run P w= .ok R w/\aFl P σ r R:=by
 rcases yQ hkt with⟨hu,rfl⟩ | ⟨⟨j,hu⟩,rfl⟩ | ⟨rfl,hu⟩
 ·have⟨R,h1,h2⟩:=rT (d:=.string) (.inl ⟨rfl,rfl⟩) hk hm h;exact⟨R,by simp [Instr.findKey,run_underlying hu,h1],h2⟩
 ·have⟨R,h1,h2⟩:=rT (d:=.int j) (.inr ⟨⟨j,rfl⟩,rfl⟩) hk hm h;exact⟨R,by simp [Instr.findKey,run_underlying hu,h1],h2⟩
 ·have⟨R,h1,h2⟩:=tD (w:=w) hE hk hm h;have h2':aFl P σ r R:=by
   cases r<;>cases R<;>first | exact h2 | trivial
  have hd:∃d,P.underlying kt=some d/\∀X Y,Instr.sameNow d X Y=none:=by
   rcases hu with⟨fs,hu,_⟩ | ⟨n,el,hu,_⟩
   ·exact⟨_,hu,fun X Y=>rfl⟩
   ·exact⟨_,hu,fun X Y=>rfl⟩
  have⟨d,hd,hs⟩:=hd;cases es with
  | nil=>
   refine⟨none,by simp [Instr.findKey,run_underlying hd,Instr.findNow],?_⟩;simp [Instr.findAsking] at h1;subst h1;exact h2'
  | cons x es=>
   refine⟨R,?_,h2'⟩;simp only[Instr.findKey,Sem.run_bind,run_underlying hd,Result.andThen_ok,Instr.findNow,hs];exact h1
theorem vQ{kt:TypeId}(h:P.underlying kt=some .string\/∃j,P.underlying kt=some (.int j))(K:Value)(empty:Bool):(Instr.checkKey empty 10000 kt K).run P w= .ok () w:=by
 show(Instr.checkKey empty (9999+1) kt K).run P w= .ok () w;generalize 9999=n;rcases h with h | ⟨j,h⟩<;>simp [Instr.checkKey,run_underlying h]
theorem aIQ{m:AV}{M:Value}{es:List (AV×AV)}(hR:mF P σ S w)(hm:Rv P σ m M)(h:vC S.h m=some es):
  ∃ms:Array MapEntry,sM P σ es ms.toList/\((M= .map none/\ms= #[])\/∃r c,M= .map (some r)/\w.heap[r]? =some (.map ms c)):=by
 cases m<;>simp only[vC,reduceCtorEq] at h<;>simp only[Rv] at hm
 ·obtain⟨L,hL,rfl⟩:=hm;have⟨bl,h1,h2⟩:=aS h;cases bl<;>simp only[tT,reduceCtorEq,Ao] at h2;subst h2;have⟨L',hL',_,ms,c,h3,h4⟩:=hR.blk _ _ h1;rw[hL] at hL';cases hL';exact⟨ms,h4,.inr ⟨L.r,c,rfl,h3⟩⟩
 ·cases h;subst hm;exact⟨#[],rfl,.inl ⟨rfl,rfl⟩⟩
theorem aAk{ok:Bool}{v:AV}{V:Value}{b:Bool}(h:Rv P σ v V):Rv P σ (aEi ok v b) (if ok=true then .tuple #[V,.bool b] else V):=by
 unfold aEi;cases ok
 ·exact h
 ·rw[aO,if_pos rfl];simp only[Rv];exact⟨_,rfl,dF.2 ⟨_,_,rfl,h,dF.2 ⟨_,_,rfl,by simp only[Rv],dH.2 rfl⟩⟩⟩
theorem aB0{e:qF}{k:AV}{es:List (AV×AV)}{r:Option (Nat×AV)}(h:pH e k es=some r):(eqv e k k).isSome=true/\qN e k es 0=some r:=by
 have⟨b,h1,h2⟩:=aS h;exact⟨by rw[h1];rfl,h2⟩
theorem aB4{r:Option (Nat×AV)}{R:Option (Nat×Value)}{z v:AV}{ok:Bool}{Z:Value}(hzr:Rv P σ z Z)(hR:aFl P σ r R)(h:pS r z ok=some v):
  (R=none/\Rv P σ v (if ok=true then .tuple #[Z,.bool false] else Z))\/∃j V,R=some (j,V)/\Rv P σ v (if ok=true then .tuple #[V,.bool true] else V):=by
 cases r with
 | none=>
  cases R with
  | none=>
   simp only[pS,Ao] at h;subst h;exact .inl ⟨rfl,aAk hzr⟩
  | some x=>exact hR.elim
 | some x=>
  cases R with
  | none=>exact hR.elim
  | some y=>
   simp only[pS,Ao] at h;subst h;exact .inr ⟨y.1,y.2,rfl,aAk hR.2⟩
theorem aGd(hE:uD P)(hK:aDV P){t kt et:TypeId}{e:qF}{z:AV}{ok:Bool}(ht:P.underlying t=some (.map kt et))(hkt:aBF P kt=some e)(hz:aHA P et=some z)
  {m k:AV} {M K:Value} (hR:mF P σ S w) (hm:Rv P σ m M) (hk:Rv P σ k K) {v:AV} (h:(bH (vC S.h m) fun es=>bH (pH e k es) fun r=>pS r z ok)=some v):
  ∃V,(Instr.lookup t M K ok).run P w= .ok V w/\Rv P σ v V:=by
 have⟨es,h1,h⟩:=aS h;have⟨r,h2,h⟩:=aS h;have⟨hself,h2⟩:=aB0 h2;have⟨ms,h3,h4⟩:=aIQ hR hm h1;have⟨R,h5,h6⟩:=yM (w:=w) hE hkt hk h3 h2;have⟨i,Z,hi,hZ,hzr⟩:=aDC (σ:=σ) hz;have hck:∀empty,(Instr.checkKey empty 10000 kt K).run P w= .ok () w:=fun empty=>hK σ w kt e k K empty hkt hk hself;have hz0:(zeroValue et).run P w= .ok Z w:=xA hi hZ;rcases h4 with⟨rfl,rfl⟩ | ⟨r',c,rfl,hc⟩
 ·have h5:(Instr.findKey kt K []).run P w= .ok R w:=h5;rcases aB4 hzr h6 h with⟨rfl,h8⟩ | ⟨j,V,rfl,h8⟩
  ·refine⟨_,?_,h8⟩;simp only[Instr.lookup,Sem.run_bind,run_underlying ht,Result.andThen_ok,Sem.run_pure,hck,h5,hz0]
  ·refine⟨_,?_,h8⟩;simp only[Instr.lookup,Sem.run_bind,run_underlying ht,Result.andThen_ok,Sem.run_pure,hck,h5]
 ·have hg:(getObj r').run P w= .ok (.map ms c) w:=by simp [getObj,Sem.run,hc]
  rcases aB4 hzr h6 h with⟨rfl,h8⟩ | ⟨j,V,rfl,h8⟩
  ·refine⟨_,?_,h8⟩;simp only[Instr.lookup,Sem.run_bind,run_underlying ht,Result.andThen_ok,hg,Sem.run_pure,hck,h5,hz0]
  ·refine⟨_,?_,h8⟩;simp only[Instr.lookup,Sem.run_bind,run_underlying ht,Result.andThen_ok,hg,Sem.run_pure,hck,h5]
end Go.Ev
namespace Go.Ev
variable {P:Program}{σ:Env}{S:St}{w:World}
def aGv(_:Program):Prop:=True
structure yL(P:Program):Prop where
 eq:uD P
 key:aDV P
 mth:aGv P
theorem aFZ(hA:yL P){x v:AV}{X:Value}{o:Oper}{a:Act}{xo:Operand}(ho:o.op= .nilCheck xo)(he:a.eval xo=X)(hx:Rv P σ x X)(h:uT x=some v):
  ∃V,(execOp a.eval o).run P w= .ok (.value V) w/\Rv P σ v V:=by
 cases x<;>simp only[uT,reduceCtorEq,Ao] at h
 case ptr=>
  subst h;have hx':=hx;simp only[Rv] at hx';obtain⟨L,hL,rfl⟩:=hx';exact⟨_,by simp only[execOp,ho,he];rfl,hx⟩
 case fn=>
  subst h;have hx':=hx;simp only[Rv] at hx';obtain⟨A,B,rfl,_⟩:=hx';exact⟨_,by simp only[execOp,ho,he];rfl,hx⟩
 case yld=>
  subst h;have hx':=hx;simp only[Rv] at hx';obtain⟨L,hL,rfl⟩:=hx';exact⟨_,by simp only[execOp,ho,he];rfl,hx⟩
 case iface=>
  subst h;have hx':=hx;simp only[Rv] at hx';obtain⟨W,rfl,_⟩:=hx';exact⟨_,by simp only[execOp,ho,he];rfl,hx⟩
theorem aE6:∀ {xs:b6} {Xs:List Value} {x v:AV} {X:Value},iK P σ xs Xs->Rv P σ x X->kO true xs x=some v->∃V,(Xs.foldlM Builtin.max2 X).run P w= .ok V w/\Rv P σ v V
 | [],Xs,x,v,X,hxs,hx,h=>by
  rw[dH] at hxs;subst hxs;simp only[kO,Ao] at h;subst h;exact⟨X,rfl,hx⟩
 | y::xs,Xs,x,v,X,hxs,hx,h=>by
  rw[dF] at hxs;obtain⟨Y,Ys,rfl,hY,hYs⟩:=hxs;unfold kO at h;split at h
  ·rename_i e;cases e
  ·rename_i k' b vs k a e;cases e;have⟨h1,h2⟩:=cG h;simp only[Rv] at hY hx;subst hY;subst hx;have:=yW h1;subst this;have⟨V,h3,h4⟩:=aE6 (X:=.int k (if b>a then b else a)) hYs (by
    simp only[Rv,aO];rw[cN,pE];simp only[decide_eq_true_eq];congr 1;split<;>split<;>omega) h2
   exact⟨V,by rw[List.foldlM_cons];simp only[Sem.run_bind,Builtin.max2,Sem.run_pure,Result.andThen_ok];exact h3,h4⟩
  ·cases h
theorem aEQ:∀ {xs:b6} {Xs:List Value} {x v:AV} {X:Value},iK P σ xs Xs->Rv P σ x X->kO false xs x=some v->∃V,(Xs.foldlM Builtin.min2 X).run P w= .ok V w/\Rv P σ v V
 | [],Xs,x,v,X,hxs,hx,h=>by
  rw[dH] at hxs;subst hxs;simp only[kO,Ao] at h;subst h;exact⟨X,rfl,hx⟩
 | y::xs,Xs,x,v,X,hxs,hx,h=>by
  rw[dF] at hxs;obtain⟨Y,Ys,rfl,hY,hYs⟩:=hxs;unfold kO at h;split at h
  ·rename_i e;cases e
  ·rename_i k' b vs k a e;cases e;have⟨h1,h2⟩:=cG h;simp only[Rv] at hY hx;subst hY;subst hx;have:=yW h1;subst this;have⟨V,h3,h4⟩:=aEQ (X:=.int k (if b<a then b else a)) hYs (by
    simp only[Rv,aT];rw[cN,pE];simp only[decide_eq_true_eq];congr 1;split<;>split<;>omega) h2
   exact⟨V,by rw[List.foldlM_cons];simp only[Sem.run_bind,Builtin.min2,Sem.run_pure,Result.andThen_ok];exact h3,h4⟩
  ·cases h
theorem aHP{t ty:TypeId}{e:TypeId}(ht:P.underlying t=some (.slice e)){x v:AV}{X:Value}(hx:Rv P σ x X)(h:jD x=some v):∃V,(Builtin.len_ #[t] ty #[X]).run P w= .ok V w/\Rv P σ v V:=by
 cases x<;>simp only[jD,reduceCtorEq,Ao] at h<;>subst h<;>simp only[Rv] at hx
 ·obtain⟨L,_,rfl⟩:=hx;exact⟨_,by simp [Builtin.len_,run_underlying ht];rfl,by simp only[Rv];rfl⟩
 ·subst hx;exact⟨_,by simp [Builtin.len_,run_underlying ht];rfl,by simp only[Rv];rfl⟩
 ·obtain⟨A,c,rfl⟩:=hx;exact⟨_,by simp [Builtin.len_,run_underlying ht];rfl,by simp only[Rv];rfl⟩
end Go.Ev
namespace Go.Ev
variable {P:Program}{σ:Env}{S:St}{w:World}
theorem dD{o:Option zH}{r:AOp}(h:q o=some r):∃x,o=some x/\r= .q x:=by
 cases o with
 | none=>cases h
 | some x=>cases h;exact⟨x,rfl,rfl⟩
theorem jM{o:Option wY}{r:AOp}(h:al o=some r):∃x,o=some x/\r= .a x:=by
 cases o with
 | none=>cases h
 | some x=>cases h;exact⟨x,rfl,rfl⟩
theorem jR{o:Option XOp}{r:AOp}(h:xx o=some r):∃x,o=some x/\r= .x x:=by
 cases o with
 | none=>cases h
 | some x=>cases h;exact⟨x,rfl,rfl⟩
theorem bF{α β:Type}{o:Option α}{f:α->Option β}{r:β}(h:(o >>=f)=some r):∃a,o=some a/\f a=some r:=by
 cases o with
 | none=>cases h
 | some a=>exact⟨a,rfl,h⟩
theorem aFd(hA:yL P){o:Oper}{qo:zH}(hc:rJ P o.op=some (.q qo)){F:Fr}{a:Act}(hF:rV P σ F a.tmps)(hR:mF P σ S w){v:AV}(hv:gT qo F S.h=some v):
  ∃V,(execOp a.eval o).run P w= .ok (.value V) w/\Rv P σ v V:=by
 have lift:∀ {s:Sem Value},execOp a.eval o=(do pure (.value (<-s)))->(∃V,s.run P w= .ok V w/\Rv P σ v V)->∃V,(execOp a.eval o).run P w= .ok (.value V) w/\Rv P σ v V:=by
  rintro s he ⟨V,h1,h2⟩;exact⟨V,by rw[he];simp [h1],h2⟩
 have⟨dst,op,type,pos,after,guard⟩:=o;simp only at hc;cases op with
 | move x=>
  have⟨y,h1,h2⟩:=dD hc;cases h2;have⟨X,hX,h1⟩:=bF h1;cases h1;cases hv;exact⟨_,rfl,cD hF hR hX⟩
 | assign x=>
  have⟨y,h1,h2⟩:=dD hc;cases h2;have⟨X,hX,h1⟩:=bF h1;cases h1;cases hv;exact⟨_,rfl,cD hF hR hX⟩
 | pick c x y=>
  have⟨z,h1,h2⟩:=dD hc;cases h2;have⟨C,hC,h1⟩:=bF h1;have⟨X,hX,h1⟩:=bF h1;have⟨Y,hY,h1⟩:=bF h1;cases h1;exact aIi (cD hF hR hC) (cD hF hR hX) (cD hF hR hY) hv
 | alloc t=>have⟨y,_,h2⟩:=jM hc;cases h2
 | box t x=>have⟨y,_,h2⟩:=jM hc;cases h2
 | build t ps=>
  simp only[rJ] at hc;split at hc
  ·rename_i fs hu;rw[Bn] at hc;split at hc
   ·rename_i hk;have⟨y,h1,h2⟩:=dD hc;cases h2;have⟨z,hz,h1⟩:=bF h1;have⟨qs,hq,h1⟩:=bF h1;cases h1;have⟨cs,h3,h4⟩:=aS (show(bH (eZ z (eH F qs)) fun cs=>some (.agg cs))=some v from hv);cases h4;exact lift rfl (zY hF hR hu hk hz hq h3)
   ·cases hc
  ·rename_i n e hu;have⟨y,h1,h2⟩:=dD hc;cases h2;have⟨i,hi,h1⟩:=bF h1;have⟨z,hz,h1⟩:=bF h1;have⟨qs,hq,h1⟩:=bF h1;cases h1;have⟨cs,h3,h4⟩:=aS (show(bH (eZ z (eH F qs)) fun cs=>some (.agg cs))=some v from hv);cases h4;exact lift rfl (aAq hF hR hu hi hz hq h3)
  ·cases hc
 | buildSlice t n ps=>have⟨y,_,h2⟩:=jM hc;cases h2
 | insert t m k x=>
  simp only[rJ] at hc;split at hc
  ·have⟨y,_,h2⟩:=jR hc;cases h2
  ·cases hc
 | load t x=>
  have⟨y,h1,h2⟩:=dD hc;cases h2;have⟨⟨agg,n⟩,hag,h1⟩:=bF h1;have⟨X,hX,h1⟩:=bF h1;cases h1;exact lift rfl (aLf hag hR (cD hF hR hX) hv)
 | store t x y=>
  have⟨y,_,h2⟩:=jR hc;cases h2
 | ready g=>cases hc
 | waits g=>cases hc
 | nilCheck x=>
  have⟨y,h1,h2⟩:=dD hc;cases h2;have⟨X,hX,h1⟩:=bF h1;cases h1;exact aFZ hA rfl rfl (cD hF hR hX) hv
 | binOp op t x y t'=>
  have⟨z,h1,h2⟩:=dD hc;cases h2;have⟨X,hX,h1⟩:=bF h1;have⟨Y,hY,h1⟩:=bF h1;cases h1;exact lift rfl (aLc hA.eq (cD hF hR hX) (cD hF hR hY) hv)
 | unOp op t x=>
  have⟨z,h1,h2⟩:=dD hc;cases h2;have⟨X,hX,h1⟩:=bF h1;cases h1;exact lift rfl (aLy (cD hF hR hX) hv)
 | convert src dst x=>
  simp only[rJ] at hc;split at hc
  ·rename_i k j hs hd;have⟨z,h1,h2⟩:=dD hc;cases h2;have⟨X,hX,h1⟩:=bF h1;cases h1;exact lift rfl (uH hR (cD hF hR hX) hv ⟨⟨_,hs⟩,hd⟩)
  ·rename_i hs hd;have⟨z,h1,h2⟩:=dD hc;cases h2;have⟨X,hX,h1⟩:=bF h1;cases h1;exact lift rfl (uH hR (cD hF hR hX) hv ⟨hs,hd⟩)
  ·rename_i k hs hd;have⟨z,h1,h2⟩:=dD hc;cases h2;have⟨X,hX,h1⟩:=bF h1;cases h1;exact lift rfl (uH hR (cD hF hR hX) hv ⟨⟨_,hs⟩,hd⟩)
  ·rename_i e hs hd;split at hc
   ·rename_i he;have⟨z,h1,h2⟩:=dD hc;cases h2;have⟨X,hX,h1⟩:=bF h1;cases h1;exact lift rfl (uH hR (cD hF hR hX) hv ⟨e,hs,he,hd⟩)
   ·cases hc
  ·split at hc
   ·have⟨y,_,h2⟩:=jM hc;cases h2
   ·cases hc
  ·cases hc
 | sliceToArrayPointer t x=>cases hc
 | makeInterface t x=>
  simp only[rJ] at hc;split at hc
  ·cases hc
  ·rename_i d hni hu;have⟨z,h1,h2⟩:=dD hc;cases h2;have⟨X,hX,h1⟩:=bF h1;cases h1;cases hv;refine lift rfl ⟨.iface t (a.eval x),?_,by simp only[Rv];exact⟨_,rfl,cD hF hR hX⟩⟩;simp only[Instr.makeInterface,Sem.run_bind,run_underlying hu,Result.andThen_ok];cases d<;>first | rfl | (exact absurd hu (by simpa using hni _))
  ·cases hc
 | makeFunc fn first cap=>
  cases fn with
  | func f=>
   have⟨z,h1,h2⟩:=dD hc;cases h2;have⟨X,hX,h1⟩:=bF h1;have⟨Y,hY,h1⟩:=bF h1;cases h1;cases hv;refine lift rfl ⟨_,rfl,?_⟩;simp only[Rv];refine⟨(first.map a.eval).toList,(cap.map a.eval).toList,rfl,?_,?_⟩
   ·rw[Ex];exact oH hF hR hX
   ·rw[Ex];exact oH hF hR hY
  | method name=>cases hc
  | methodOf t name=>cases hc
  | via t path f p=>cases hc
  | yield l=>cases hc
 | makeMap t r=>cases r<;>simp only[rJ,reduceCtorEq] at hc;have⟨y,_,h2⟩:=jM hc;cases h2
 | makeChan t x=>cases hc
 | makeSlice t l c=>have⟨y,_,h2⟩:=jM hc;cases h2
 | slice t x lo hh mx=>
  simp only[rJ,Bn] at hc;split at hc
  ·cases hc
  ·rename_i hguard;have hhm:mx.isSome=true->hh.isSome=true:=fun hm=>by
    cases hh with
    | none=>simp [hm] at hguard
    | some _=>rfl
   split at hc
   ·rename_i e hu;have⟨z,h1,h2⟩:=dD hc;cases h2;have⟨i,hi,h1⟩:=bF h1;have⟨X,hX,h1⟩:=bF h1;have⟨Lo,hLo,h1⟩:=bF h1;have⟨Hi,hHi,h1⟩:=bF h1;have⟨Mx,hMx,h1⟩:=bF h1;cases h1;have hv:rQ (.slice i.size) (X.val F) Lo Hi Mx F=some v:=hv;have hx:=cD hF hR hX;generalize X.val F=xv at hv hx;cases xv<;>simp only[rQ,reduceCtorEq] at hv
    ·refine lift rfl ?_;have⟨V,h3,h4⟩:=aIH hu hi hF hR hLo hHi hMx hhm hx hv;exact⟨V,by simp only[Instr.sliceAt,Sem.run_bind,run_underlying hu,Result.andThen_ok];exact h3,h4⟩
    ·refine lift rfl ?_;have⟨V,h3,h4⟩:=aG0 hu hi hF hR hLo hHi hMx hhm hx hv;exact⟨V,by simp only[Instr.sliceAt,Sem.run_bind,run_underlying hu,Result.andThen_ok];exact h3,h4⟩
    ·refine lift rfl ?_;have⟨V,h3,h4⟩:=aGy hu hi hF hR hLo hHi hMx hhm hx hv;exact⟨V,by simp only[Instr.sliceAt,Sem.run_bind,run_underlying hu,Result.andThen_ok];exact h3,h4⟩
   ·rename_i n e hu;have⟨z,h1,h2⟩:=dD hc;cases h2;have⟨i,hi,h1⟩:=bF h1;have⟨X,hX,h1⟩:=bF h1;have⟨Lo,hLo,h1⟩:=bF h1;have⟨Hi,hHi,h1⟩:=bF h1;have⟨Mx,hMx,h1⟩:=bF h1;cases h1;have hv:rQ (.arr n i.size) (X.val F) Lo Hi Mx F=some v:=hv;have hx:=cD hF hR hX;generalize X.val F=xv at hv hx;cases xv<;>simp only[rQ,reduceCtorEq] at hv;exact lift rfl (aGn hu hi hF hR hLo hHi hMx hhm hx hv)
   ·cases hc
 | fieldAddr t x f=>
  simp only[rJ] at hc;split at hc
  ·rename_i fs hu;have⟨z,h1,h2⟩:=dD hc;cases h2;have⟨fd,hf,h1⟩:=bF h1;have⟨i,hi,h1⟩:=bF h1;split at h1
   ·cases h1
   ·rename_i h0;have⟨X,hX,h1⟩:=bF h1;cases h1;exact lift rfl (aG3 hu hf hi h0 (cD hF hR hX) hv)
  ·cases hc
 | field t x f=>
  simp only[rJ] at hc;split at hc
  ·rename_i fs hu;have⟨z,h1,h2⟩:=dD hc;cases h2;have⟨fd,hf,h1⟩:=bF h1;have⟨⟨agg,n⟩,hag,h1⟩:=bF h1;have⟨X,hX,h1⟩:=bF h1;cases h1;exact lift rfl (aKG hu hf hag (cD hF hR hX) hv)
  ·cases hc
 | indexAddr t x ix=>
  simp only[rJ] at hc;split at hc
  ·rename_i e hu;have⟨z,h1,h2⟩:=dD hc;cases h2;have⟨i,hi,h1⟩:=bF h1;have⟨X,hX,h1⟩:=bF h1;have⟨I,hI,h1⟩:=bF h1;cases h1;have⟨j,h3,h4⟩:=aS (show(bH (fG (I.val F)) fun j=>fC (.slice i.size) (X.val F) j)=some v from hv);have⟨k,hk⟩:=nC h3;have hi':=cD hF hR hI;rw[hk] at hi';simp only[Rv] at hi';exact lift rfl (aDn hu hi (cD hF hR hX) hi' h4)
  ·rename_i n e hu;have⟨z,h1,h2⟩:=dD hc;cases h2;have⟨i,hi,h1⟩:=bF h1;have⟨X,hX,h1⟩:=bF h1;have⟨I,hI,h1⟩:=bF h1;cases h1;have⟨j,h3,h4⟩:=aS (show(bH (fG (I.val F)) fun j=>fC (.arr n i.size) (X.val F) j)=some v from hv);have⟨k,hk⟩:=nC h3;have hi':=cD hF hR hI;rw[hk] at hi';simp only[Rv] at hi';exact lift rfl (aCt hu hi (cD hF hR hX) hi' h4)
  ·cases hc
 | index t x ix=>
  simp only[rJ] at hc;split at hc
  ·rename_i hu;have⟨z,h1,h2⟩:=dD hc;cases h2;have⟨X,hX,h1⟩:=bF h1;have⟨I,hI,h1⟩:=bF h1;cases h1;have⟨j,h3,h4⟩:=aS (show(bH (fG (I.val F)) fun j=>pQ (X.val F) j)=some v from hv);have⟨k,hk⟩:=nC h3;have hi':=cD hF hR hI;rw[hk] at hi';simp only[Rv] at hi';exact lift rfl (aFi hu (cD hF hR hX) hi' h4)
  ·rename_i n e hu;have⟨z,h1,h2⟩:=dD hc;cases h2;have⟨⟨agg,s⟩,hag,h1⟩:=bF h1;have⟨X,hX,h1⟩:=bF h1;have⟨I,hI,h1⟩:=bF h1;cases h1;have⟨j,h3,h4⟩:=aS (show(bH (fG (I.val F)) fun j=>xF (X.val F) agg n s j)=some v from hv);have⟨k,hk⟩:=nC h3;have hi':=cD hF hR hI;rw[hk] at hi';simp only[Rv] at hi';exact lift rfl (aFN hu hag (cD hF hR hX) hi' h4)
  ·cases hc
 | lookup t m k ok=>
  simp only[rJ] at hc;split at hc
  ·rename_i kt et hu;have⟨z,h1,h2⟩:=dD hc;cases h2;have⟨e,he,h1⟩:=bF h1;have⟨zv,hz,h1⟩:=bF h1;have⟨M,hM,h1⟩:=bF h1;have⟨K,hK,h1⟩:=bF h1;cases h1;exact lift rfl (aGd hA.eq hA.key hu he hz hR (cD hF hR hM) (cD hF hR hK) hv)
  ·cases hc
 | mapUpdate t m k x=>
  simp only[rJ] at hc;split at hc
  ·have⟨y,_,h2⟩:=jR hc;cases h2
  ·cases hc
 | mapEntry t m k=>cases hc
 | entryStore t m s x=>cases hc
 | range t x=>cases hc
 | next x b=>cases hc
 | entry x=>cases hc
 | typeAssert x xt t ok=>cases hc
 | extract x i=>
  have⟨z,h1,h2⟩:=dD hc;cases h2;have⟨X,hX,h1⟩:=bF h1;cases h1;exact lift rfl (aEt (cD hF hR hX) hv)
 | call c=>
  have⟨callee,args,argTypes⟩:=c;cases callee with
  | value f=>
   simp only[rJ] at hc;split at hc
   ·cases hc
   ·have⟨y,_,h2⟩:=jR hc;cases h2
  | invoke r m=>cases hc
  | builtin b=>
   have arr:∀ {α:Type} {x:Array α} {l:List α},x.toList=l->x=l.toArray:=fun h=>by apply Ft;rw[h]
   simp only[rJ] at hc;split at hc
   ·rename_i x t hx ht;have:=arr hx;subst this;have:=arr ht;subst this;split at hc
    ·rename_i e hu;have⟨z,h1,h2⟩:=dD hc;cases h2;have⟨X,hX,h1⟩:=bF h1;cases h1;exact lift (s:=Builtin.len_ #[t] type #[a.eval x]) (by simp [execOp,resolve,invoke,builtin]) (aHP hu (cD hF hR hX) hv)
    ·cases hc
   ·have⟨z,h1,h2⟩:=dD hc;cases h2;have⟨Xs,hXs,h1⟩:=bF h1;cases h1;have hxs:=oH hF hR hXs;have hv:mT true (dG Xs F)=some v:=hv;refine lift (s:=Builtin.max_ argTypes type (args.map a.eval)) rfl ?_;unfold Builtin.max_;rw[Ex];cases hvl:dG Xs F with
    | nil=>rw[hvl] at hv;simp [mT] at hv
    | cons u us=>
     rw[hvl] at hv hxs;rw[dF] at hxs;have⟨U,Us,he,hU,hUs⟩:=hxs;rw[he];exact aE6 hUs hU hv
   ·have⟨z,h1,h2⟩:=dD hc;cases h2;have⟨Xs,hXs,h1⟩:=bF h1;cases h1;have hxs:=oH hF hR hXs;have hv:mT false (dG Xs F)=some v:=hv;refine lift (s:=Builtin.min_ argTypes type (args.map a.eval)) rfl ?_;unfold Builtin.min_;rw[Ex];cases hvl:dG Xs F with
    | nil=>rw[hvl] at hv;simp [mT] at hv
    | cons u us=>
     rw[hvl] at hv hxs;rw[dF] at hxs;have⟨U,Us,he,hU,hUs⟩:=hxs;rw[he];exact aEQ hUs hU hv
   ·split at hc
    ·rw[Bn] at hc;split at hc
     ·have⟨y,_,h2⟩:=jR hc;cases h2
     ·cases hc
    ·cases hc
   ·cases hc
 | go c=>cases hc
 | defer c=>cases hc
 | panic x=>cases hc
 | send x y=>cases hc
 | recv t x b=>cases hc
 | select cs b=>cases hc
end Go.Ev
