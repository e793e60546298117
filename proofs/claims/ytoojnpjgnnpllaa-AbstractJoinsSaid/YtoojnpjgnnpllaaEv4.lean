import Derived.Test.YtoojnpjgnnpllaaEv3
namespace Go.Ev
variable {P:Program}{σ:Env}{S:St}{w:World}
theorem addr_add(r o n:Nat):(⟨r,o,none⟩:Addr).add n=⟨r,o+n,none⟩:=Addr.add_mid r o n
theorem aHz{t e:TypeId}{i:TypeInfo}(ht:P.underlying t=some (.slice e))(hi:P.info? e=some i){F:Fr}{a:Act}(hF:pF P σ F a.tmps)(hR:kC P σ S w)
  {b off len cap:Nat} {o:Bool} {lo hh mx:Option Operand} {Lo Hi Mx:Option cL} (hlo:mU P lo=some Lo) (hhi:mU P hh=some Hi) (hmx:mU P mx=some Mx)
  (hhm:mx.isSome=true→hh.isSome=true) {X:Value} (hx:Rv P σ (.sl b off len cap o) X) {v:AV} (h:aKF i.size b off len cap o Lo Hi Mx F=some v):
  ∃V,(Instr.slice t X (lo.map a.eval) (hh.map a.eval) (mx.map a.eval)).run P w= .ok V w∧Rv P σ v V:=by
 simp only[Rv] at hx;obtain⟨L,hL,rfl⟩:=hx;obtain⟨x,hb,h⟩:=aM h;have hnone:=aFx hmx;have h6:=(rC hb).2.2.2;cases o with
 | false=>
  have hrun:=mP (e:=0) (isSlice:=true) hF hR hlo hhi hmx hhm hb;simp only[Br,ite_self,aW] at hrun h;simp only[Dv,Ax];rw[cJ] at h;split at h
  ·rename_i he;rw[Bh] at he;cases h;refine⟨_,by simp [Instr.slice,run_underlying ht,hrun,sizeOf,typeInfo,hi,he];rfl,?_⟩;simp only[Rv];exact⟨L,hL,by simp [he]⟩
  ·rename_i he;rw[Bh] at he;cases h;refine⟨.slice (some ⟨L.r,L.d+off+x.1 * i.size,none⟩) (x.2.1 - x.1) (x.2.2 - x.1),by simp [Instr.slice,run_underlying ht,hrun,sizeOf,typeInfo,hi,he,addr_add],?_⟩;simp only[Rv];exact⟨L,hL,by simp [Co]⟩
 | true=>
  have hrun:=mP (e:=L.e) (isSlice:=true) hF hR hlo hhi hmx hhm hb;simp only[aQ,hnone] at h;simp only[Ej];cases hm:mx.isNone
  ·rw[hm] at h hrun;simp only[Dv,Ax,aW] at hrun h;rw[cJ] at h;split at h
   ·rename_i he;rw[Bh] at he;cases h;refine⟨_,by simp [Instr.slice,run_underlying ht,hrun,sizeOf,typeInfo,hi,he];rfl,?_⟩;simp only[Rv];exact⟨L,hL,by simp [he]⟩
   ·rename_i he;rw[Bh] at he;cases h;refine⟨.slice (some ⟨L.r,L.d+off+x.1 * i.size,none⟩) (x.2.1 - x.1) (x.2.2 - x.1),by simp [Instr.slice,run_underlying ht,hrun,sizeOf,typeInfo,hi,he,addr_add],?_⟩;simp only[Rv];exact⟨L,hL,by simp [Co]⟩
  ·rw[hm] at h hrun;simp only[Ej,aQ] at hrun h;rw[cJ] at h;split at h
   ·rename_i he;rw[Bh] at he;cases h;have hlen:x.2.1 - x.1=0:=by omega
    simp only[Instr.slice,Sem.run_bind,run_underlying ht,Result.andThen_ok,hrun,sizeOf,typeInfo,run_program,hi,Sem.run_pure,hlen];by_cases h0:x.2.2+L.e=x.1
    ·exact⟨_,by rw[if_pos h0],by simp only[Rv];exact⟨_,_,rfl⟩⟩
    ·exact⟨_,by rw[if_neg h0],by simp only[Rv];exact⟨_,_,rfl⟩⟩
   ·rename_i he;rw[Bh] at he;cases h;have h0:¬ (x.2.2+L.e=x.1):=by omega
    refine⟨.slice (some ⟨L.r,L.d+off+x.1 * i.size,none⟩) (x.2.1 - x.1) (x.2.2+L.e - x.1),by simp [Instr.slice,run_underlying ht,hrun,sizeOf,typeInfo,hi,h0,addr_add],?_⟩;simp only[Rv];refine⟨L,hL,?_⟩;simp only[Ej,Co];congr 1;omega
theorem aGw{t e:TypeId}{i:TypeInfo}(ht:P.underlying t=some (.slice e))(hi:P.info? e=some i){F:Fr}{a:Act}(hF:pF P σ F a.tmps)(hR:kC P σ S w)
  {lo hh mx:Option Operand} {Lo Hi Mx:Option cL} (hlo:mU P lo=some Lo) (hhi:mU P hh=some Hi) (hmx:mU P mx=some Mx)
  (hhm:mx.isSome=true→hh.isSome=true) {X:Value} (hx:Rv P σ .emp X) {v:AV} (h:aJG Lo Hi Mx F=some v):
  ∃V,(Instr.slice t X (lo.map a.eval) (hh.map a.eval) (mx.map a.eval)).run P w= .ok V w∧Rv P σ v V:=by
 simp only[Rv] at hx;obtain⟨A,c,rfl⟩:=hx;obtain⟨x,hb,h⟩:=aM h;cases h;have h6:=(rC hb).2.2.2;have hrun:=mP (e:=c) (isSlice:=true) hF hR hlo hhi hmx hhm hb;simp only[Ao] at hrun;have h1:x.1=0:=by omega
 have h2:x.2.1=0:=by omega
 simp only[Instr.slice,Sem.run_bind,run_underlying ht,Result.andThen_ok,hrun,sizeOf,typeInfo,run_program,hi,Sem.run_pure,h1,h2,Nat.zero_mul,Dw];refine⟨_,rfl,?_⟩;simp only[Rv,Dl,Addr.add_zero',ite_self];exact⟨A,_,rfl⟩
theorem aGn{t e:TypeId}{i:TypeInfo}(ht:P.underlying t=some (.slice e))(hi:P.info? e=some i){F:Fr}{a:Act}(hF:pF P σ F a.tmps)(hR:kC P σ S w)
  {lo hh mx:Option Operand} {Lo Hi Mx:Option cL} (hlo:mU P lo=some Lo) (hhi:mU P hh=some Hi) (hmx:mU P mx=some Mx)
  (hhm:mx.isSome=true→hh.isSome=true) {X:Value} (hx:Rv P σ .nilsl X) {v:AV} (h:aKl Lo Hi Mx F=some v):
  ∃V,(Instr.slice t X (lo.map a.eval) (hh.map a.eval) (mx.map a.eval)).run P w= .ok V w∧Rv P σ v V:=by
 simp only[Rv] at hx;subst hx;obtain⟨x,hb,h⟩:=aM h;cases h;have h6:=(rC hb).2.2.2;have hrun:=mP (e:=0) (isSlice:=true) hF hR hlo hhi hmx hhm hb;simp only[Br,ite_self] at hrun;have h1:x.1=0:=by omega
 have h2:x.2.1=0:=by omega
 have h3:x.2.2=0:=by omega
 simp only[Instr.slice,Sem.run_bind,run_underlying ht,Result.andThen_ok,hrun,sizeOf,typeInfo,run_program,hi,Sem.run_pure,h1,h2,h3,Ej,Dw];exact⟨_,rfl,by simp only[Rv]⟩
theorem aGd{t e:TypeId}{n:Nat}{i:TypeInfo}(ht:P.underlying t=some (.array n e))(hi:P.info? e=some i){F:Fr}{a:Act}(hF:pF P σ F a.tmps)(hR:kC P σ S w)
  {b off:Nat} {lo hh mx:Option Operand} {Lo Hi Mx:Option cL} (hlo:mU P lo=some Lo) (hhi:mU P hh=some Hi) (hmx:mU P mx=some Mx)
  (hhm:mx.isSome=true→hh.isSome=true) {X:Value} (hx:Rv P σ (.ptr b off) X) {v:AV} (h:aJT n i.size b off Lo Hi Mx F=some v):
  ∃V,(Instr.sliceAt t X (lo.map a.eval) (hh.map a.eval) (mx.map a.eval)).run P w= .ok V w∧Rv P σ v V:=by
 simp only[Rv] at hx;obtain⟨L,hL,rfl⟩:=hx;obtain⟨x,hb,h⟩:=aM h;have hrun:=mP (e:=0) (isSlice:=false) hF hR hlo hhi hmx hhm hb;simp only[Br,ite_self] at hrun;rw[cJ] at h;split at h
 ·rename_i he;rw[Bh] at he;cases h;refine⟨_,by simp [Instr.sliceAt,run_underlying ht,Instr.sureAddr,hrun,sizeOf,typeInfo,hi,he];rfl,?_⟩;simp only[Rv];exact⟨L,hL,by simp [he]⟩
 ·rename_i he;rw[Bh] at he;cases h;refine⟨.slice (some ⟨L.r,L.d+off+x.1 * i.size,none⟩) (x.2.1 - x.1) (x.2.2 - x.1),by simp [Instr.sliceAt,run_underlying ht,Instr.sureAddr,hrun,sizeOf,typeInfo,hi,he,addr_add],?_⟩;simp only[Rv];exact⟨L,hL,by simp [Co]⟩
theorem sI(hE:tV P){kt:TypeId}{k:AV}{K:Value}(hk:Rv P σ k K):∀ {m:List (AV×AV)} {es:List MapEntry} {i:Nat} {r:Option (Nat×AV)},tB P σ m es→qC (eqT P kt) k m i=some r→
  ∃R,(Instr.findAsking kt K es i).run P w= .ok R w∧(match r,R with
   | none,none=>True
   | some (j,v),some (j',V)=>j=j'∧Rv P σ v V
   | _,_=>False)
 | [],es,i,r,hm,h=>by
  simp only[qC,An] at h;subst h;have hm:es= []:=hm;subst hm;exact⟨none,rfl,trivial⟩
 | (k',v)::m,es,i,r,hm,h=>by
  obtain⟨e,es',rfl,h1,h2,h3⟩:=hm;simp only[qC] at h;obtain⟨b,h4,h⟩:=aM h;have heq:(Op.equal kt K e.key).run P w= .ok b w:=(wS (w:=w) hE hk h1 h4).2 9998;cases b
  ·rw[aW] at h;obtain⟨R,h5,h6⟩:=sI hE hk h3 h;exact⟨R,by simp only[Instr.findAsking,Sem.run_bind,heq,Result.andThen_ok];exact h5,h6⟩
  ·rw[aQ] at h;cases h;exact⟨some (i,e.val),by simp [Instr.findAsking,heq],rfl,h2⟩
end Go.Ev
namespace Go.Ev
variable {P:Program}{σ:Env}{S:St}{w:World}
def aE7(P:Program)(σ:Env):Option (Nat×AV)→Option (Nat×Value)→Prop
 | none,none=>True
 | some (j,v),some (j',V)=>j=j'∧Rv P σ v V
 | _,_=>False
theorem sA{d:TypeDesc}{e:EqP}(hd:(d= .string∧e= .str)∨((∃k,d= .int k)∧e= .int)){k:AV}{K:Value}(hk:Rv P σ k K):
  ∀ {m:List (AV×AV)} {es:List MapEntry} {i:Nat} {r:Option (Nat×AV)},tB P σ m es→qC (.p e) k m i=some r→∃R,Instr.findNow d K es i=some R∧aE7 P σ r R
 | [],es,i,r,hm,h=>by
  simp only[qC,An] at h;subst h;have hm:es= []:=hm;subst hm;exact⟨none,rfl,trivial⟩
 | (k',v)::m,es,i,r,hm,h=>by
  obtain⟨x,es',rfl,h1,h2,h3⟩:=hm;simp only[qC] at h;obtain⟨b,h4,h⟩:=aM h;have h4:vZ e k k'=some b:=h4;have hs:Instr.sameNow d K x.key=some b:=by
   rcases hd with⟨rfl,rfl⟩ | ⟨⟨kk,rfl⟩,rfl⟩
   ·cases k<;>simp only[vZ,reduceCtorEq] at h4;cases k'<;>simp only[reduceCtorEq] at h4;simp only[Rv] at hk h1;obtain⟨rfl,ha⟩:=hk;obtain⟨hx,hc⟩:=h1;cases h4;rw[hx];simp only[Instr.sameNow];rw[beq_toListBytes,aB1 ha hc]
   ·cases k<;>simp only[vZ,reduceCtorEq] at h4;cases k'<;>simp only[reduceCtorEq] at h4;simp only[Rv] at hk h1;subst hk;obtain⟨h5,h6⟩:=cD h4;have:=xT h5;subst this;cases h6;rw[h1];simp [Instr.sameNow,iL]
  cases b
  ·rw[aW] at h;obtain⟨R,h5,h6⟩:=sA hd hk h3 h;exact⟨R,by simp only[Instr.findNow,hs];exact h5,h6⟩
  ·rw[aQ] at h;cases h;exact⟨some (i,x.val),by simp only[Instr.findNow,hs],rfl,h2⟩
theorem yI{kt:TypeId}{e:sC}(h:aAL P kt=some e):(P.underlying kt=some .string∧e= .p .str)∨((∃k,P.underlying kt=some (.int k))∧e= .p .int)∨
  (e=eqT P kt∧((∃fs,P.underlying kt=some (.struct fs)∧fs.all (fun f=>plainKey (eqP P f.type))=true)∨(∃n el,P.underlying kt=some (.array n el)∧plainKey (eqP P el)=true))):=by
 unfold aAL at h;split at h
 ·cases h;exact .inl ⟨‹_›,rfl⟩
 ·cases h;exact .inr (.inl ⟨⟨_, ‹_›⟩,rfl⟩)
 ·rename_i fs hu;split at h
  ·rename_i l hl;rw[Bf] at h;split at h
   ·rename_i hb;cases h;rw[Ci] at hb;exact .inr (.inr ⟨hl.symm,.inl ⟨fs,hu,hb.1⟩⟩)
   ·cases h
  ·cases h
 ·rename_i n el hu;split at h
  ·rename_i l hl;rw[Bf] at h;split at h
   ·rename_i hb;cases h;rw[Ci] at hb;exact .inr (.inr ⟨hl.symm,.inr ⟨n,el,hu,hb.1⟩⟩)
   ·cases h
  ·cases h
 ·cases h
theorem aBE{kt:TypeId}{l:List (Nat×EqP)}(h:aAL P kt=some (.struct l)):aAv 0 l=true:=by
 unfold aAL at h;split at h
 ·cases h
 ·cases h
 ·split at h
  ·rw[Bf] at h;split at h
   ·rename_i hb;cases h;rw[Ci] at hb;exact hb.2
   ·cases h
  ·cases h
 ·split at h
  ·rw[Bf] at h;split at h
   ·rename_i hb;cases h;rw[Ci] at hb;exact hb.2
   ·cases h
  ·cases h
 ·cases h
def aCB(P:Program):Prop:=∀ (σ:Env) (w:World) (kt:TypeId) (e:sC) (k:AV) (K:Value) (empty:Bool),aAL P kt=some e→Rv P σ k K→
 (eqv e k k).isSome=true→(Instr.checkKey empty 10000 kt K).run P w= .ok () w
theorem xC(hE:tV P){kt:TypeId}{e:sC}(hkt:aAL P kt=some e){k:AV}{K:Value}(hk:Rv P σ k K){m:List (AV×AV)}{es:List MapEntry}{r:Option (Nat×AV)}(hm:tB P σ m es)
  (h:qC e k m 0=some r):∃R,(Instr.findKey kt K es).run P w= .ok R w∧aE7 P σ r R:=by
 rcases yI hkt with⟨hu,rfl⟩ | ⟨⟨j,hu⟩,rfl⟩ | ⟨rfl,hu⟩
 ·obtain⟨R,h1,h2⟩:=sA (d:=.string) (.inl ⟨rfl,rfl⟩) hk hm h;exact⟨R,by simp [Instr.findKey,run_underlying hu,h1],h2⟩
 ·obtain⟨R,h1,h2⟩:=sA (d:=.int j) (.inr ⟨⟨j,rfl⟩,rfl⟩) hk hm h;exact⟨R,by simp [Instr.findKey,run_underlying hu,h1],h2⟩
 ·obtain⟨R,h1,h2⟩:=sI (w:=w) hE hk hm h;have h2':aE7 P σ r R:=by
   cases r<;>cases R<;>first | exact h2 | trivial
  have hd:∃d,P.underlying kt=some d∧∀X Y,Instr.sameNow d X Y=none:=by
   rcases hu with⟨fs,hu,_⟩ | ⟨n,el,hu,_⟩
   ·exact⟨_,hu,fun X Y=>rfl⟩
   ·exact⟨_,hu,fun X Y=>rfl⟩
  obtain⟨d,hd,hs⟩:=hd;cases es with
  | nil=>
   refine⟨none,by simp [Instr.findKey,run_underlying hd,Instr.findNow],?_⟩;simp [Instr.findAsking] at h1;subst h1;exact h2'
  | cons x es=>
   refine⟨R,?_,h2'⟩;simp only[Instr.findKey,Sem.run_bind,run_underlying hd,Result.andThen_ok,Instr.findNow,hs];exact h1
theorem wE{kt:TypeId}(h:P.underlying kt=some .string∨∃j,P.underlying kt=some (.int j))(K:Value)(empty:Bool):(Instr.checkKey empty 10000 kt K).run P w= .ok () w:=by
 show(Instr.checkKey empty (9999+1) kt K).run P w= .ok () w;generalize 9999=n;rcases h with h | ⟨j,h⟩<;>simp [Instr.checkKey,run_underlying h]
theorem aHs{m:AV}{M:Value}{es:List (AV×AV)}(hR:kC P σ S w)(hm:Rv P σ m M)(h:sO S.h m=some es):
  ∃ms:Array MapEntry,tB P σ es ms.toList∧((M= .map none∧ms= #[])∨∃r c,M= .map (some r)∧w.heap[r]? =some (.map ms c)):=by
 cases m<;>simp only[sO,reduceCtorEq] at h<;>simp only[Rv] at hm
 ·obtain⟨L,hL,rfl⟩:=hm;obtain⟨bl,h1,h2⟩:=aM h;cases bl<;>simp only[rH,reduceCtorEq,An] at h2;subst h2;obtain⟨L',hL',_,ms,c,h3,h4⟩:=hR.blk _ _ h1;rw[hL] at hL';cases hL';exact⟨ms,h4,.inr ⟨L.r,c,rfl,h3⟩⟩
 ·cases h;subst hm;exact⟨#[],rfl,.inl ⟨rfl,rfl⟩⟩
theorem aAe{ok:Bool}{v:AV}{V:Value}{b:Bool}(h:Rv P σ v V):Rv P σ (aCG ok v b) (if ok=true then .tuple #[V,.bool b] else V):=by
 unfold aCG;cases ok
 ·exact h
 ·rw[aQ,if_pos rfl];simp only[Rv];exact⟨_,rfl,dJ.2 ⟨_,_,rfl,h,dJ.2 ⟨_,_,rfl,by simp only[Rv],cU.2 rfl⟩⟩⟩
theorem aBu{e:sC}{k:AV}{es:List (AV×AV)}{r:Option (Nat×AV)}(h:mQ e k es=some r):(eqv e k k).isSome=true∧qC e k es 0=some r:=by
 obtain⟨b,h1,h2⟩:=aM h;exact⟨by rw[h1];rfl,h2⟩
theorem aBt{r:Option (Nat×AV)}{R:Option (Nat×Value)}{z v:AV}{ok:Bool}{Z:Value}(hzr:Rv P σ z Z)(hR:aE7 P σ r R)(h:mG r z ok=some v):
  (R=none∧Rv P σ v (if ok=true then .tuple #[Z,.bool false] else Z))∨∃j V,R=some (j,V)∧Rv P σ v (if ok=true then .tuple #[V,.bool true] else V):=by
 cases r with
 | none=>
  cases R with
  | none=>
   simp only[mG,An] at h;subst h;exact .inl ⟨rfl,aAe hzr⟩
  | some x=>exact hR.elim
 | some x=>
  cases R with
  | none=>exact hR.elim
  | some y=>
   simp only[mG,An] at h;subst h;exact .inr ⟨y.1,y.2,rfl,aAe hR.2⟩
theorem aEP(hE:tV P)(hK:aCB P){t kt et:TypeId}{e:sC}{z:AV}{ok:Bool}(ht:P.underlying t=some (.map kt et))(hkt:aAL P kt=some e)(hz:aF1 P et=some z)
  {m k:AV} {M K:Value} (hR:kC P σ S w) (hm:Rv P σ m M) (hk:Rv P σ k K) {v:AV} (h:(aZ (sO S.h m) fun es=>aZ (mQ e k es) fun r=>mG r z ok)=some v):
  ∃V,(Instr.lookup t M K ok).run P w= .ok V w∧Rv P σ v V:=by
 obtain⟨es,h1,h⟩:=aM h;obtain⟨r,h2,h⟩:=aM h;obtain⟨hself,h2⟩:=aBu h2;obtain⟨ms,h3,h4⟩:=aHs hR hm h1;obtain⟨R,h5,h6⟩:=xC (w:=w) hE hkt hk h3 h2;obtain⟨i,Z,hi,hZ,hzr⟩:=aDh (σ:=σ) hz;have hck:∀empty,(Instr.checkKey empty 10000 kt K).run P w= .ok () w:=fun empty=>hK σ w kt e k K empty hkt hk hself;have hz0:(zeroValue et).run P w= .ok Z w:=vB hi hZ;rcases h4 with⟨rfl,rfl⟩ | ⟨r',c,rfl,hc⟩
 ·have h5:(Instr.findKey kt K []).run P w= .ok R w:=h5;rcases aBt hzr h6 h with⟨rfl,h8⟩ | ⟨j,V,rfl,h8⟩
  ·refine⟨_,?_,h8⟩;simp only[Instr.lookup,Sem.run_bind,run_underlying ht,Result.andThen_ok,Sem.run_pure,hck,h5,hz0]
  ·refine⟨_,?_,h8⟩;simp only[Instr.lookup,Sem.run_bind,run_underlying ht,Result.andThen_ok,Sem.run_pure,hck,h5]
 ·have hg:(getObj r').run P w= .ok (.map ms c) w:=by simp [getObj,Sem.run,hc]
  rcases aBt hzr h6 h with⟨rfl,h8⟩ | ⟨j,V,rfl,h8⟩
  ·refine⟨_,?_,h8⟩;simp only[Instr.lookup,Sem.run_bind,run_underlying ht,Result.andThen_ok,hg,Sem.run_pure,hck,h5,hz0]
  ·refine⟨_,?_,h8⟩;simp only[Instr.lookup,Sem.run_bind,run_underlying ht,Result.andThen_ok,hg,Sem.run_pure,hck,h5]
end Go.Ev
namespace Go.Ev
variable {P:Program}{σ:Env}{S:St}{w:World}
def aGT(_:Program):Prop:=True
structure xA(P:Program):Prop where
 eq:tV P
 key:aCB P
 mth:aGT P
theorem aEI(hA:xA P){x v:AV}{X:Value}{o:Oper}{a:Act}{xo:Operand}(ho:o.op= .nilCheck xo)(he:a.eval xo=X)(hx:Rv P σ x X)(h:uH x=some v):
  ∃V,(execOp a.eval o).run P w= .ok (.value V) w∧Rv P σ v V:=by
 cases x<;>simp only[uH,reduceCtorEq,An] at h
 case ptr=>
  subst h;have hx':=hx;simp only[Rv] at hx';obtain⟨L,hL,rfl⟩:=hx';exact⟨_,by simp only[execOp,ho,he];rfl,hx⟩
 case fn=>
  subst h;have hx':=hx;simp only[Rv] at hx';obtain⟨A,B,rfl,_⟩:=hx';exact⟨_,by simp only[execOp,ho,he];rfl,hx⟩
 case yld=>
  subst h;have hx':=hx;simp only[Rv] at hx';obtain⟨L,hL,rfl⟩:=hx';exact⟨_,by simp only[execOp,ho,he];rfl,hx⟩
 case iface=>
  subst h;have hx':=hx;simp only[Rv] at hx';obtain⟨W,rfl,_⟩:=hx';exact⟨_,by simp only[execOp,ho,he];rfl,hx⟩
theorem aEk:∀ {xs:List AV} {Xs:List Value} {x v:AV} {X:Value},gO P σ xs Xs→Rv P σ x X→jL true xs x=some v→∃V,(Xs.foldlM Builtin.max2 X).run P w= .ok V w∧Rv P σ v V
 | [],Xs,x,v,X,hxs,hx,h=>by
  rw[cU] at hxs;subst hxs;simp only[jL,An] at h;subst h;exact⟨X,rfl,hx⟩
 | y::xs,Xs,x,v,X,hxs,hx,h=>by
  rw[dJ] at hxs;obtain⟨Y,Ys,rfl,hY,hYs⟩:=hxs;unfold jL at h;split at h
  ·rename_i e;cases e
  ·rename_i k' b vs k a e;cases e;obtain⟨h1,h2⟩:=cD h;simp only[Rv] at hY hx;subst hY;subst hx;have:=xT h1;subst this;obtain⟨V,h3,h4⟩:=aEk (X:=.int k (if b>a then b else a)) hYs (by
    simp only[Rv,aQ];rw[cJ,oT];simp only[decide_eq_true_eq];congr 1;split<;>split<;>omega) h2
   exact⟨V,by rw[List.foldlM_cons];simp only[Sem.run_bind,Builtin.max2,Sem.run_pure,Result.andThen_ok];exact h3,h4⟩
  ·cases h
theorem aEp:∀ {xs:List AV} {Xs:List Value} {x v:AV} {X:Value},gO P σ xs Xs→Rv P σ x X→jL false xs x=some v→∃V,(Xs.foldlM Builtin.min2 X).run P w= .ok V w∧Rv P σ v V
 | [],Xs,x,v,X,hxs,hx,h=>by
  rw[cU] at hxs;subst hxs;simp only[jL,An] at h;subst h;exact⟨X,rfl,hx⟩
 | y::xs,Xs,x,v,X,hxs,hx,h=>by
  rw[dJ] at hxs;obtain⟨Y,Ys,rfl,hY,hYs⟩:=hxs;unfold jL at h;split at h
  ·rename_i e;cases e
  ·rename_i k' b vs k a e;cases e;obtain⟨h1,h2⟩:=cD h;simp only[Rv] at hY hx;subst hY;subst hx;have:=xT h1;subst this;obtain⟨V,h3,h4⟩:=aEp (X:=.int k (if b<a then b else a)) hYs (by
    simp only[Rv,aW];rw[cJ,oT];simp only[decide_eq_true_eq];congr 1;split<;>split<;>omega) h2
   exact⟨V,by rw[List.foldlM_cons];simp only[Sem.run_bind,Builtin.min2,Sem.run_pure,Result.andThen_ok];exact h3,h4⟩
  ·cases h
theorem aGb{t ty:TypeId}{e:TypeId}(ht:P.underlying t=some (.slice e)){x v:AV}{X:Value}(hx:Rv P σ x X)(h:kO x=some v):∃V,(Builtin.len_ #[t] ty #[X]).run P w= .ok V w∧Rv P σ v V:=by
 cases x<;>simp only[kO,reduceCtorEq,An] at h<;>subst h<;>simp only[Rv] at hx
 ·obtain⟨L,_,rfl⟩:=hx;exact⟨_,by simp [Builtin.len_,run_underlying ht];rfl,by simp only[Rv];rfl⟩
 ·subst hx;exact⟨_,by simp [Builtin.len_,run_underlying ht];rfl,by simp only[Rv];rfl⟩
 ·obtain⟨A,c,rfl⟩:=hx;exact⟨_,by simp [Builtin.len_,run_underlying ht];rfl,by simp only[Rv];rfl⟩
end Go.Ev
namespace Go.Ev
variable {P:Program}{σ:Env}{S:St}{w:World}
theorem dR{o:Option xL}{r:AOp}(h:q o=some r):∃x,o=some x∧r= .q x:=by
 cases o with
 | none=>cases h
 | some x=>cases h;exact⟨x,rfl,rfl⟩
theorem kG{o:Option uS}{r:AOp}(h:al o=some r):∃x,o=some x∧r= .a x:=by
 cases o with
 | none=>cases h
 | some x=>cases h;exact⟨x,rfl,rfl⟩
theorem jC{o:Option XOp}{r:AOp}(h:xx o=some r):∃x,o=some x∧r= .x x:=by
 cases o with
 | none=>cases h
 | some x=>cases h;exact⟨x,rfl,rfl⟩
theorem bC{α β:Type}{o:Option α}{f:α→Option β}{r:β}(h:(o >>=f)=some r):∃a,o=some a∧f a=some r:=by
 cases o with
 | none=>cases h
 | some a=>exact⟨a,rfl,h⟩
theorem aEl(hA:xA P){o:Oper}{qo:xL}(hc:tH P o.op=some (.q qo)){F:Fr}{a:Act}(hF:pF P σ F a.tmps)(hR:kC P σ S w){v:AV}(hv:fV qo F S.h=some v):
  ∃V,(execOp a.eval o).run P w= .ok (.value V) w∧Rv P σ v V:=by
 have lift:∀ {s:Sem Value},execOp a.eval o=(do pure (.value (←s)))→(∃V,s.run P w= .ok V w∧Rv P σ v V)→∃V,(execOp a.eval o).run P w= .ok (.value V) w∧Rv P σ v V:=by
  rintro s he ⟨V,h1,h2⟩;exact⟨V,by rw[he];simp [h1],h2⟩
 obtain⟨dst,op,type,pos,after,guard⟩:=o;simp only at hc;cases op with
 | move x=>
  obtain⟨y,h1,h2⟩:=dR hc;cases h2;obtain⟨X,hX,h1⟩:=bC h1;cases h1;cases hv;exact⟨_,rfl,cG hF hR hX⟩
 | assign x=>
  obtain⟨y,h1,h2⟩:=dR hc;cases h2;obtain⟨X,hX,h1⟩:=bC h1;cases h1;cases hv;exact⟨_,rfl,cG hF hR hX⟩
 | pick c x y=>
  obtain⟨z,h1,h2⟩:=dR hc;cases h2;obtain⟨C,hC,h1⟩:=bC h1;obtain⟨X,hX,h1⟩:=bC h1;obtain⟨Y,hY,h1⟩:=bC h1;cases h1;exact aGW (cG hF hR hC) (cG hF hR hX) (cG hF hR hY) hv
 | alloc t=>obtain⟨y,_,h2⟩:=kG hc;cases h2
 | box t x=>obtain⟨y,_,h2⟩:=kG hc;cases h2
 | build t ps=>
  simp only[tH] at hc;split at hc
  ·rename_i fs hu;rw[Bf] at hc;split at hc
   ·rename_i hk;obtain⟨y,h1,h2⟩:=dR hc;cases h2;obtain⟨z,hz,h1⟩:=bC h1;obtain⟨qs,hq,h1⟩:=bC h1;cases h1;obtain⟨cs,h3,h4⟩:=aM (show(aZ (eS z (eB F qs)) fun cs=>some (.agg cs))=some v from hv);cases h4;exact lift rfl (xN hF hR hu hk hz hq h3)
   ·cases hc
  ·rename_i n e hu;obtain⟨y,h1,h2⟩:=dR hc;cases h2;obtain⟨i,hi,h1⟩:=bC h1;obtain⟨z,hz,h1⟩:=bC h1;obtain⟨qs,hq,h1⟩:=bC h1;cases h1;obtain⟨cs,h3,h4⟩:=aM (show(aZ (eS z (eB F qs)) fun cs=>some (.agg cs))=some v from hv);cases h4;exact lift rfl (zO hF hR hu hi hz hq h3)
  ·cases hc
 | buildSlice t n ps=>obtain⟨y,_,h2⟩:=kG hc;cases h2
 | insert t m k x=>
  simp only[tH] at hc;split at hc
  ·obtain⟨y,_,h2⟩:=jC hc;cases h2
  ·cases hc
 | load t x=>
  obtain⟨y,h1,h2⟩:=dR hc;cases h2;obtain⟨⟨agg,n⟩,hag,h1⟩:=bC h1;obtain⟨X,hX,h1⟩:=bC h1;cases h1;exact lift rfl (aJn hag hR (cG hF hR hX) hv)
 | store t x y=>
  obtain⟨y,_,h2⟩:=jC hc;cases h2
 | ready g=>cases hc
 | waits g=>cases hc
 | nilCheck x=>
  obtain⟨y,h1,h2⟩:=dR hc;cases h2;obtain⟨X,hX,h1⟩:=bC h1;cases h1;exact aEI hA rfl rfl (cG hF hR hX) hv
 | binOp op t x y t'=>
  obtain⟨z,h1,h2⟩:=dR hc;cases h2;obtain⟨X,hX,h1⟩:=bC h1;obtain⟨Y,hY,h1⟩:=bC h1;cases h1;exact lift rfl (aJx hA.eq (cG hF hR hX) (cG hF hR hY) hv)
 | unOp op t x=>
  obtain⟨z,h1,h2⟩:=dR hc;cases h2;obtain⟨X,hX,h1⟩:=bC h1;cases h1;exact lift rfl (aKT (cG hF hR hX) hv)
 | convert src dst x=>cases hc
 | sliceToArrayPointer t x=>cases hc
 | makeInterface t x=>
  simp only[tH] at hc;split at hc
  ·cases hc
  ·rename_i d hni hu;obtain⟨z,h1,h2⟩:=dR hc;cases h2;obtain⟨X,hX,h1⟩:=bC h1;cases h1;cases hv;refine lift rfl ⟨.iface t (a.eval x),?_,by simp only[Rv];exact⟨_,rfl,cG hF hR hX⟩⟩;simp only[Instr.makeInterface,Sem.run_bind,run_underlying hu,Result.andThen_ok];cases d<;>first | rfl | (exact absurd hu (by simpa using hni _))
  ·cases hc
 | makeFunc fn first cap=>
  cases fn with
  | func f=>
   obtain⟨z,h1,h2⟩:=dR hc;cases h2;obtain⟨X,hX,h1⟩:=bC h1;obtain⟨Y,hY,h1⟩:=bC h1;cases h1;cases hv;refine lift rfl ⟨_,rfl,?_⟩;simp only[Rv];refine⟨(first.map a.eval).toList,(cap.map a.eval).toList,rfl,?_,?_⟩
   ·rw[Eq];exact nB hF hR hX
   ·rw[Eq];exact nB hF hR hY
  | method name=>cases hc
  | methodOf t name=>cases hc
  | via t path f p=>cases hc
  | yield l=>cases hc
 | makeMap t r=>cases r<;>simp only[tH,reduceCtorEq] at hc;obtain⟨y,_,h2⟩:=kG hc;cases h2
 | makeChan t x=>cases hc
 | makeSlice t l c=>obtain⟨y,_,h2⟩:=kG hc;cases h2
 | slice t x lo hh mx=>
  simp only[tH,Bf] at hc;split at hc
  ·cases hc
  ·rename_i hguard;have hhm:mx.isSome=true→hh.isSome=true:=fun hm=>by
    cases hh with
    | none=>simp [hm] at hguard
    | some _=>rfl
   split at hc
   ·rename_i e hu;obtain⟨z,h1,h2⟩:=dR hc;cases h2;obtain⟨i,hi,h1⟩:=bC h1;obtain⟨X,hX,h1⟩:=bC h1;obtain⟨Lo,hLo,h1⟩:=bC h1;obtain⟨Hi,hHi,h1⟩:=bC h1;obtain⟨Mx,hMx,h1⟩:=bC h1;cases h1;have hv:xX (.slice i.size) (X.val F) Lo Hi Mx F=some v:=hv;have hx:=cG hF hR hX;generalize X.val F=xv at hv hx;cases xv<;>simp only[xX,reduceCtorEq] at hv
    ·refine lift rfl ?_;obtain⟨V,h3,h4⟩:=aHz hu hi hF hR hLo hHi hMx hhm hx hv;exact⟨V,by simp only[Instr.sliceAt,Sem.run_bind,run_underlying hu,Result.andThen_ok];exact h3,h4⟩
    ·refine lift rfl ?_;obtain⟨V,h3,h4⟩:=aGn hu hi hF hR hLo hHi hMx hhm hx hv;exact⟨V,by simp only[Instr.sliceAt,Sem.run_bind,run_underlying hu,Result.andThen_ok];exact h3,h4⟩
    ·refine lift rfl ?_;obtain⟨V,h3,h4⟩:=aGw hu hi hF hR hLo hHi hMx hhm hx hv;exact⟨V,by simp only[Instr.sliceAt,Sem.run_bind,run_underlying hu,Result.andThen_ok];exact h3,h4⟩
   ·rename_i n e hu;obtain⟨z,h1,h2⟩:=dR hc;cases h2;obtain⟨i,hi,h1⟩:=bC h1;obtain⟨X,hX,h1⟩:=bC h1;obtain⟨Lo,hLo,h1⟩:=bC h1;obtain⟨Hi,hHi,h1⟩:=bC h1;obtain⟨Mx,hMx,h1⟩:=bC h1;cases h1;have hv:xX (.arr n i.size) (X.val F) Lo Hi Mx F=some v:=hv;have hx:=cG hF hR hX;generalize X.val F=xv at hv hx;cases xv<;>simp only[xX,reduceCtorEq] at hv;exact lift rfl (aGd hu hi hF hR hLo hHi hMx hhm hx hv)
   ·cases hc
 | fieldAddr t x f=>
  simp only[tH] at hc;split at hc
  ·rename_i fs hu;obtain⟨z,h1,h2⟩:=dR hc;cases h2;obtain⟨fd,hf,h1⟩:=bC h1;obtain⟨i,hi,h1⟩:=bC h1;split at h1
   ·cases h1
   ·rename_i h0;obtain⟨X,hX,h1⟩:=bC h1;cases h1;exact lift rfl (aFC hu hf hi h0 (cG hF hR hX) hv)
  ·cases hc
 | field t x f=>
  simp only[tH] at hc;split at hc
  ·rename_i fs hu;obtain⟨z,h1,h2⟩:=dR hc;cases h2;obtain⟨fd,hf,h1⟩:=bC h1;obtain⟨⟨agg,n⟩,hag,h1⟩:=bC h1;obtain⟨X,hX,h1⟩:=bC h1;cases h1;exact lift rfl (aJD hu hf hag (cG hF hR hX) hv)
  ·cases hc
 | indexAddr t x ix=>
  simp only[tH] at hc;split at hc
  ·rename_i e hu;obtain⟨z,h1,h2⟩:=dR hc;cases h2;obtain⟨i,hi,h1⟩:=bC h1;obtain⟨X,hX,h1⟩:=bC h1;obtain⟨I,hI,h1⟩:=bC h1;cases h1;obtain⟨j,h3,h4⟩:=aM (show(aZ (fI (I.val F)) fun j=>eU (.slice i.size) (X.val F) j)=some v from hv);obtain⟨k,hk⟩:=pM h3;have hi':=cG hF hR hI;rw[hk] at hi';simp only[Rv] at hi';exact lift rfl (aDn hu hi (cG hF hR hX) hi' h4)
  ·rename_i n e hu;obtain⟨z,h1,h2⟩:=dR hc;cases h2;obtain⟨i,hi,h1⟩:=bC h1;obtain⟨X,hX,h1⟩:=bC h1;obtain⟨I,hI,h1⟩:=bC h1;cases h1;obtain⟨j,h3,h4⟩:=aM (show(aZ (fI (I.val F)) fun j=>eU (.arr n i.size) (X.val F) j)=some v from hv);obtain⟨k,hk⟩:=pM h3;have hi':=cG hF hR hI;rw[hk] at hi';simp only[Rv] at hi';exact lift rfl (aBQ hu hi (cG hF hR hX) hi' h4)
  ·cases hc
 | index t x ix=>cases hc
 | lookup t m k ok=>
  simp only[tH] at hc;split at hc
  ·rename_i kt et hu;obtain⟨z,h1,h2⟩:=dR hc;cases h2;obtain⟨e,he,h1⟩:=bC h1;obtain⟨zv,hz,h1⟩:=bC h1;obtain⟨M,hM,h1⟩:=bC h1;obtain⟨K,hK,h1⟩:=bC h1;cases h1;exact lift rfl (aEP hA.eq hA.key hu he hz hR (cG hF hR hM) (cG hF hR hK) hv)
  ·cases hc
 | mapUpdate t m k x=>
  simp only[tH] at hc;split at hc
  ·obtain⟨y,_,h2⟩:=jC hc;cases h2
  ·cases hc
 | mapEntry t m k=>cases hc
 | entryStore t m s x=>cases hc
 | range t x=>cases hc
 | next x b=>cases hc
 | entry x=>cases hc
 | typeAssert x xt t ok=>cases hc
 | extract x i=>
  obtain⟨z,h1,h2⟩:=dR hc;cases h2;obtain⟨X,hX,h1⟩:=bC h1;cases h1;exact lift rfl (aDW (cG hF hR hX) hv)
 | call c=>
  obtain⟨callee,args,argTypes⟩:=c;cases callee with
  | value f=>
   simp only[tH] at hc;split at hc
   ·cases hc
   ·obtain⟨y,_,h2⟩:=jC hc;cases h2
  | invoke r m=>cases hc
  | builtin b=>
   have arr:∀ {α:Type} {x:Array α} {l:List α},x.toList=l→x=l.toArray:=fun h=>by apply Array.ext';rw[h]
   simp only[tH] at hc;split at hc
   ·rename_i x t hx ht;have:=arr hx;subst this;have:=arr ht;subst this;split at hc
    ·rename_i e hu;obtain⟨z,h1,h2⟩:=dR hc;cases h2;obtain⟨X,hX,h1⟩:=bC h1;cases h1;exact lift (s:=Builtin.len_ #[t] type #[a.eval x]) (by simp [execOp,resolve,invoke,builtin]) (aGb hu (cG hF hR hX) hv)
    ·cases hc
   ·obtain⟨z,h1,h2⟩:=dR hc;cases h2;obtain⟨Xs,hXs,h1⟩:=bC h1;cases h1;have hxs:=nB hF hR hXs;have hv:lK true (dD Xs F)=some v:=hv;refine lift (s:=Builtin.max_ argTypes type (args.map a.eval)) rfl ?_;unfold Builtin.max_;rw[Eq];cases hvl:dD Xs F with
    | nil=>rw[hvl] at hv;simp [lK] at hv
    | cons u us=>
     rw[hvl] at hv hxs;rw[dJ] at hxs;obtain⟨U,Us,he,hU,hUs⟩:=hxs;rw[he];exact aEk hUs hU hv
   ·obtain⟨z,h1,h2⟩:=dR hc;cases h2;obtain⟨Xs,hXs,h1⟩:=bC h1;cases h1;have hxs:=nB hF hR hXs;have hv:lK false (dD Xs F)=some v:=hv;refine lift (s:=Builtin.min_ argTypes type (args.map a.eval)) rfl ?_;unfold Builtin.min_;rw[Eq];cases hvl:dD Xs F with
    | nil=>rw[hvl] at hv;simp [lK] at hv
    | cons u us=>
     rw[hvl] at hv hxs;rw[dJ] at hxs;obtain⟨U,Us,he,hU,hUs⟩:=hxs;rw[he];exact aEp hUs hU hv
   ·split at hc
    ·rw[Bf] at hc;split at hc
     ·obtain⟨y,_,h2⟩:=jC hc;cases h2
     ·cases hc
    ·cases hc
   ·cases hc
 | go c=>cases hc
 | defer c=>cases hc
 | panic x=>cases hc
 | send x y=>cases hc
 | recv t x b=>cases hc
 | select cs b=>cases hc
end Go.Ev
