import Derived.Test.YtiiplmagnlcpbaaGreatDoorEv3
set_option linter.unusedSimpArgs false
set_option linter.unusedVariables false
namespace Go.Ev
variable {P:Program}{σ:Env}{S:St}{w:World}
theorem addr_add(r o n:Nat):(⟨r,o,none⟩:Addr).add n=⟨r,o+n,none⟩:=Addr.add_mid r o n
theorem aIC{t e:TypeId}{i:TypeInfo}(ht:P.underlying t=some (.slice e))(hi:P.info? e=some i){F:Fr}{a:Act}(hF:oP P σ F a.tmps)(hR:jX P σ S w)
  {b off len cap:Nat} {o:Bool} {lo hh mx:Option Operand} {Lo Hi Mx:Option cL} (hlo:lH P lo=some Lo) (hhi:lH P hh=some Hi) (hmx:lH P mx=some Mx)
  (hhm:mx.isSome=true->hh.isSome=true) {X:Value} (hx:Rv P σ (.sl b off len cap o) X) {v:AV} (h:aDm i.size b off len cap o Lo Hi Mx F=some v):
  ∃V,(Instr.slice t X (lo.map a.eval) (hh.map a.eval) (mx.map a.eval)).run P w= .ok V w/\Rv P σ v V:=by
 simp only[Rv] at hx;obtain⟨L,hL,rfl⟩:=hx;have⟨x,hb,h⟩:=aA h;have hnone:=aBT hmx;have h6:=(qR hb).2.2.2;cases o with
 | false=>
  have hrun:=lG (e:=0) (isSlice:=true) hF hR hlo hhi hmx hhm hb;simp only[Bi,ite_self,aS] at hrun h;simp only[Bm,Ao];rw[bO] at h;split at h
  ·rename_i he;rw[Av] at he;cases h;refine⟨_,by simp [Instr.slice,run_underlying ht,hrun,sizeOf,typeInfo,hi,he];rfl,?_⟩;simp only[Rv];exact⟨L,hL,by simp [he]⟩
  ·rename_i he;rw[Av] at he;cases h;refine⟨.slice (some ⟨L.r,L.d+off+x.1 * i.size,none⟩) (x.2.1 - x.1) (x.2.2 - x.1),by simp [Instr.slice,run_underlying ht,hrun,sizeOf,typeInfo,hi,he,addr_add],?_⟩;simp only[Rv];exact⟨L,hL,by simp [Co]⟩
 | true=>
  have hrun:=lG (e:=L.e) (isSlice:=true) hF hR hlo hhi hmx hhm hb;simp only[aP,hnone] at h;simp only[Ck];cases hm:mx.isNone
  ·rw[hm] at h hrun;simp only[Bm,Ao,aS] at hrun h;rw[bO] at h;split at h
   ·rename_i he;rw[Av] at he;cases h;refine⟨_,by simp [Instr.slice,run_underlying ht,hrun,sizeOf,typeInfo,hi,he];rfl,?_⟩;simp only[Rv];exact⟨L,hL,by simp [he]⟩
   ·rename_i he;rw[Av] at he;cases h;refine⟨.slice (some ⟨L.r,L.d+off+x.1 * i.size,none⟩) (x.2.1 - x.1) (x.2.2 - x.1),by simp [Instr.slice,run_underlying ht,hrun,sizeOf,typeInfo,hi,he,addr_add],?_⟩;simp only[Rv];exact⟨L,hL,by simp [Co]⟩
  ·rw[hm] at h hrun;simp only[Ck,aP] at hrun h;rw[bO] at h;split at h
   ·rename_i he;rw[Av] at he;cases h;have hlen:x.2.1 - x.1=0:=by omega
    simp only[Instr.slice,Sem.run_bind,run_underlying ht,Result.andThen_ok,hrun,sizeOf,typeInfo,run_program,hi,Sem.run_pure,hlen];by_cases h0:x.2.2+L.e=x.1
    ·exact⟨_,by rw[if_pos h0],by simp only[Rv];exact⟨_,_,rfl⟩⟩
    ·exact⟨_,by rw[if_neg h0],by simp only[Rv];exact⟨_,_,rfl⟩⟩
   ·rename_i he;rw[Av] at he;cases h;have h0:¬ (x.2.2+L.e=x.1):=by omega
    refine⟨.slice (some ⟨L.r,L.d+off+x.1 * i.size,none⟩) (x.2.1 - x.1) (x.2.2+L.e - x.1),by simp [Instr.slice,run_underlying ht,hrun,sizeOf,typeInfo,hi,h0,addr_add],?_⟩;simp only[Rv];refine⟨L,hL,?_⟩;simp only[Ck,Co];congr 1;omega
theorem aGA{t e:TypeId}{i:TypeInfo}(ht:P.underlying t=some (.slice e))(hi:P.info? e=some i){F:Fr}{a:Act}(hF:oP P σ F a.tmps)(hR:jX P σ S w)
  {lo hh mx:Option Operand} {Lo Hi Mx:Option cL} (hlo:lH P lo=some Lo) (hhi:lH P hh=some Hi) (hmx:lH P mx=some Mx)
  (hhm:mx.isSome=true->hh.isSome=true) {X:Value} (hx:Rv P σ .emp X) {v:AV} (h:aHy Lo Hi Mx F=some v):
  ∃V,(Instr.slice t X (lo.map a.eval) (hh.map a.eval) (mx.map a.eval)).run P w= .ok V w/\Rv P σ v V:=by
 simp only[Rv] at hx;obtain⟨A,c,rfl⟩:=hx;have⟨x,hb,h⟩:=aA h;cases h;have h6:=(qR hb).2.2.2;have hrun:=lG (e:=c) (isSlice:=true) hF hR hlo hhi hmx hhm hb;simp only[Au] at hrun;have h1:x.1=0:=by omega
 have h2:x.2.1=0:=by omega
 simp only[Instr.slice,Sem.run_bind,run_underlying ht,Result.andThen_ok,hrun,sizeOf,typeInfo,run_program,hi,Sem.run_pure,h1,h2,Hf,Fk];refine⟨_,rfl,?_⟩;simp only[Rv,Fx,Addr.add_zero',ite_self];exact⟨A,_,rfl⟩
theorem aGR{t e:TypeId}{i:TypeInfo}(ht:P.underlying t=some (.slice e))(hi:P.info? e=some i){F:Fr}{a:Act}(hF:oP P σ F a.tmps)(hR:jX P σ S w)
  {lo hh mx:Option Operand} {Lo Hi Mx:Option cL} (hlo:lH P lo=some Lo) (hhi:lH P hh=some Hi) (hmx:lH P mx=some Mx)
  (hhm:mx.isSome=true->hh.isSome=true) {X:Value} (hx:Rv P σ .cd X) {v:AV} (h:aGS Lo Hi Mx F=some v):
  ∃V,(Instr.slice t X (lo.map a.eval) (hh.map a.eval) (mx.map a.eval)).run P w= .ok V w/\Rv P σ v V:=by
 simp only[Rv] at hx;subst hx;have⟨x,hb,h⟩:=aA h;cases h;have h6:=(qR hb).2.2.2;have hrun:=lG (e:=0) (isSlice:=true) hF hR hlo hhi hmx hhm hb;simp only[Bi,ite_self] at hrun;have h1:x.1=0:=by omega
 have h2:x.2.1=0:=by omega
 have h3:x.2.2=0:=by omega
 simp only[Instr.slice,Sem.run_bind,run_underlying ht,Result.andThen_ok,hrun,sizeOf,typeInfo,run_program,hi,Sem.run_pure,h1,h2,h3,Ck,Fk];exact⟨_,rfl,by simp only[Rv]⟩
theorem aGn{t e:TypeId}{n:Nat}{i:TypeInfo}(ht:P.underlying t=some (.array n e))(hi:P.info? e=some i){F:Fr}{a:Act}(hF:oP P σ F a.tmps)(hR:jX P σ S w)
  {b off:Nat} {lo hh mx:Option Operand} {Lo Hi Mx:Option cL} (hlo:lH P lo=some Lo) (hhi:lH P hh=some Hi) (hmx:lH P mx=some Mx)
  (hhm:mx.isSome=true->hh.isSome=true) {X:Value} (hx:Rv P σ (.ptr b off) X) {v:AV} (h:aLz n i.size b off Lo Hi Mx F=some v):
  ∃V,(Instr.sliceAt t X (lo.map a.eval) (hh.map a.eval) (mx.map a.eval)).run P w= .ok V w/\Rv P σ v V:=by
 simp only[Rv] at hx;obtain⟨L,hL,rfl⟩:=hx;have⟨x,hb,h⟩:=aA h;have hrun:=lG (e:=0) (isSlice:=false) hF hR hlo hhi hmx hhm hb;simp only[Bi,ite_self] at hrun;rw[bO] at h;split at h
 ·rename_i he;rw[Av] at he;cases h;refine⟨_,by simp [Instr.sliceAt,run_underlying ht,Instr.sureAddr,hrun,sizeOf,typeInfo,hi,he];rfl,?_⟩;simp only[Rv];exact⟨L,hL,by simp [he]⟩
 ·rename_i he;rw[Av] at he;cases h;refine⟨.slice (some ⟨L.r,L.d+off+x.1 * i.size,none⟩) (x.2.1 - x.1) (x.2.2 - x.1),by simp [Instr.sliceAt,run_underlying ht,Instr.sureAddr,hrun,sizeOf,typeInfo,hi,he,addr_add],?_⟩;simp only[Rv];exact⟨L,hL,by simp [Co]⟩
theorem aEp(s:bt)(l h:Nat):(dF s).extract l h=dF ((s.drop l).take (h - l)):=by
 apply ByteArray.ext;rw[ByteArray.data_extract];simp [dF,List.extract_eq_take_drop]
theorem aHG{t:TypeId}(ht:P.underlying t=some .string){F:Fr}{a:Act}(hF:oP P σ F a.tmps)(hR:jX P σ S w)
  {s:bt} {lo hh mx:Option Operand} {Lo Hi Mx:Option cL} (hlo:lH P lo=some Lo) (hhi:lH P hh=some Hi) (hmx:lH P mx=some Mx)
  {X:Value} (hx:Rv P σ (.str s) X) {v:AV} (h:aGK s Lo Hi Mx F=some v):
  ∃V,(Instr.slice t X (lo.map a.eval) (hh.map a.eval) (mx.map a.eval)).run P w= .ok V w/\Rv P σ v V:=by
 simp only[Rv] at hx;obtain⟨rfl,hb⟩:=hx;cases Mx with
 | some _=>simp [aGK] at h
 | none=>
  have hmn:mx=none:=by cases mx with | none=>rfl | some m=>have:=aBT hmx;simp at this
  subst hmn;simp only[aGK] at h;have⟨h',h1,h⟩:=aA h;have⟨l,h2,h⟩:=aA h;have⟨h3,h⟩:=bB h;have⟨h4,h⟩:=bB h;have⟨r,h5,h⟩:=aA h;cases h;rw[eQ] at h1 h3;have hbd:iA s.length s.length Lo Hi none F=some (l,h',s.length):=by
   unfold iA;rw[show gC F s.length none=some s.length from rfl,aL,h1,aL,h2,aL,h3,h4,Nat.ble_self_eq_true];rfl
  have hrun:=lG (e:=0) (isSlice:=false) hF hR hlo hhi hmx (by simp) hbd;simp only[Bi,ite_self] at hrun;obtain⟨rfl,_⟩:=aGu h5;refine⟨.string (dF ((s.drop l).take (h' - l))),?_,by simp only[Rv];exact⟨trivial,fun x hx=>hb x (Dh (Ej hx))⟩⟩;simp only[Instr.slice,Sem.run_bind,run_underlying ht,Result.andThen_ok,Option.map_none,Option.isSome_none,Ao,Bm,gQ,Sem.run_pure];have hrun':(Instr.sliceBounds false s.length s.length (lo.map a.eval) (hh.map a.eval) none).run P w= .ok (l,h',s.length) w:=hrun;simp [hrun',aEp]
theorem tD(hE:uF P){kt:TypeId}{k:AV}{K:Value}(hk:Rv P σ k K):∀ {m:List (AV×AV)} {es:List MapEntry} {i:Nat} {r:Option (Nat×AV)},qN P σ m es->tA (eqT P kt) k m i=some r->
  ∃R,(Instr.findAsking kt K es i).run P w= .ok R w/\(match r,R with
   | none,none=>True
   | some (j,v),some (j',V)=>j=j'/\Rv P σ v V
   | _,_=>False)
 | [],es,i,r,hm,h=>by
  simp only[tA,Al] at h;subst h;have hm:es= []:=hm;subst hm;exact⟨none,rfl,trivial⟩
 | (k',v)::m,es,i,r,hm,h=>by
  obtain⟨e,es',rfl,h1,h2,h3⟩:=hm;simp only[tA] at h;have⟨b,h4,h⟩:=aA h;have heq:(Op.equal kt K e.key).run P w= .ok b w:=(xM (w:=w) hE hk h1 h4).2 9998;cases b
  ·rw[aS] at h;have⟨R,h5,h6⟩:=tD hE hk h3 h;exact⟨R,by simp only[Instr.findAsking,Sem.run_bind,heq,Result.andThen_ok];exact h5,h6⟩
  ·rw[aP] at h;cases h;exact⟨some (i,e.val),by simp [Instr.findAsking,heq],rfl,h2⟩
end Go.Ev
namespace Go.Ev
variable {P:Program}{σ:Env}{S:St}{w:World}
def aFg(P:Program)(σ:Env):Option (Nat×AV)->Option (Nat×Value)->Prop
 | none,none=>True
 | some (j,v),some (j',V)=>j=j'/\Rv P σ v V
 | _,_=>False
theorem rV{d:TypeDesc}{e:EqP}(hd:(d= .string/\e= .str)\/((∃k,d= .int k)/\e= .int)){k:AV}{K:Value}(hk:Rv P σ k K):
  ∀ {m:List (AV×AV)} {es:List MapEntry} {i:Nat} {r:Option (Nat×AV)},qN P σ m es->tA (.p e) k m i=some r->∃R,Instr.findNow d K es i=some R/\aFg P σ r R
 | [],es,i,r,hm,h=>by
  simp only[tA,Al] at h;subst h;have hm:es= []:=hm;subst hm;exact⟨none,rfl,trivial⟩
 | (k',v)::m,es,i,r,hm,h=>by
  obtain⟨x,es',rfl,h1,h2,h3⟩:=hm;simp only[tA] at h;have⟨b,h4,h⟩:=aA h;have h4:eqp e k k'=some b:=h4;have hs:Instr.sameNow d K x.key=some b:=by
   rcases hd with⟨rfl,rfl⟩ | ⟨⟨kk,rfl⟩,rfl⟩
   ·cases k<;>simp only[eqp,reduceCtorEq] at h4;cases k'<;>simp only[reduceCtorEq] at h4;simp only[Rv] at hk h1;obtain⟨rfl,ha⟩:=hk;have⟨hx,hc⟩:=h1;cases h4;rw[hx];simp only[Instr.sameNow];rw[beq_toListBytes,aCt ha hc]
   ·cases k<;>simp only[eqp,reduceCtorEq] at h4;cases k'<;>simp only[reduceCtorEq] at h4;simp only[Rv] at hk h1;subst hk;have⟨h5,h6⟩:=bB h4;have:=yS h5;subst this;cases h6;rw[h1];simp [Instr.sameNow,mD]
  cases b
  ·rw[aS] at h;have⟨R,h5,h6⟩:=rV hd hk h3 h;exact⟨R,by simp only[Instr.findNow,hs];exact h5,h6⟩
  ·rw[aP] at h;cases h;exact⟨some (i,x.val),by simp only[Instr.findNow,hs],rfl,h2⟩
theorem yO{kt:TypeId}{e:oZ}(h:aBl P kt=some e):(P.underlying kt=some .string/\e= .p .str)\/((∃k,P.underlying kt=some (.int k))/\e= .p .int)\/
  (e=eqT P kt/\((∃fs,P.underlying kt=some (.struct fs)/\fs.all (fun f=>plainKey (eqP P f.type))=true)\/(∃n el,P.underlying kt=some (.array n el)/\plainKey (eqP P el)=true))):=by
 unfold aBl at h;split at h
 ·cases h;exact .inl ⟨‹_›,rfl⟩
 ·cases h;exact .inr (.inl ⟨⟨_, ‹_›⟩,rfl⟩)
 ·rename_i fs hu;split at h
  ·rename_i l hl;rw[Aw] at h;split at h
   ·rename_i hb;cases h;rw[Cr] at hb;exact .inr (.inr ⟨hl.symm,.inl ⟨fs,hu,hb.1⟩⟩)
   ·cases h
  ·cases h
 ·rename_i n el hu;split at h
  ·rename_i l hl;rw[Aw] at h;split at h
   ·rename_i hb;cases h;rw[Cr] at hb;exact .inr (.inr ⟨hl.symm,.inr ⟨n,el,hu,hb.1⟩⟩)
   ·cases h
  ·cases h
 ·cases h
theorem aBP{kt:TypeId}{l:List (Nat×EqP)}(h:aBl P kt=some (.struct l)):aBz 0 l=true:=by
 unfold aBl at h;split at h
 ·cases h
 ·cases h
 ·split at h
  ·rw[Aw] at h;split at h
   ·rename_i hb;cases h;rw[Cr] at hb;exact hb.2
   ·cases h
  ·cases h
 ·split at h
  ·rw[Aw] at h;split at h
   ·rename_i hb;cases h;rw[Cr] at hb;exact hb.2
   ·cases h
  ·cases h
 ·cases h
def aDT(P:Program):Prop:=∀ (σ:Env) (w:World) (kt:TypeId) (e:oZ) (k:AV) (K:Value) (empty:Bool),aBl P kt=some e->Rv P σ k K->
 (eqv e k k).isSome=true->(Instr.checkKey empty 10000 kt K).run P w= .ok () w
theorem yI(hE:uF P){kt:TypeId}{e:oZ}(hkt:aBl P kt=some e){k:AV}{K:Value}(hk:Rv P σ k K){m:List (AV×AV)}{es:List MapEntry}{r:Option (Nat×AV)}(hm:qN P σ m es)
  (h:tA e k m 0=some r):∃R,(Instr.findKey kt K es).run P w= .ok R w/\aFg P σ r R:=by
 rcases yO hkt with⟨hu,rfl⟩ | ⟨⟨j,hu⟩,rfl⟩ | ⟨rfl,hu⟩
 ·have⟨R,h1,h2⟩:=rV (d:=.string) (.inl ⟨rfl,rfl⟩) hk hm h;exact⟨R,by simp [Instr.findKey,run_underlying hu,h1],h2⟩
 ·have⟨R,h1,h2⟩:=rV (d:=.int j) (.inr ⟨⟨j,rfl⟩,rfl⟩) hk hm h;exact⟨R,by simp [Instr.findKey,run_underlying hu,h1],h2⟩
 ·have⟨R,h1,h2⟩:=tD (w:=w) hE hk hm h;have h2':aFg P σ r R:=by
   cases r<;>cases R<;>first | exact h2 | trivial
  have hd:∃d,P.underlying kt=some d/\∀X Y,Instr.sameNow d X Y=none:=by
   rcases hu with⟨fs,hu,_⟩ | ⟨n,el,hu,_⟩
   ·exact⟨_,hu,fun X Y=>rfl⟩
   ·exact⟨_,hu,fun X Y=>rfl⟩
  have⟨d,hd,hs⟩:=hd;cases es with
  | nil=>
   refine⟨none,by simp [Instr.findKey,run_underlying hd,Instr.findNow],?_⟩;simp [Instr.findAsking] at h1;subst h1;exact h2'
  | cons x es=>
   refine⟨R,?_,h2'⟩;simp only[Instr.findKey,Sem.run_bind,run_underlying hd,Result.andThen_ok,Instr.findNow,hs];exact h1
theorem vR{kt:TypeId}(h:P.underlying kt=some .string\/∃j,P.underlying kt=some (.int j))(K:Value)(empty:Bool):(Instr.checkKey empty 10000 kt K).run P w= .ok () w:=by
 show(Instr.checkKey empty (9999+1) kt K).run P w= .ok () w;generalize 9999=n;rcases h with h | ⟨j,h⟩<;>simp [Instr.checkKey,run_underlying h]
theorem aDo{m:AV}{M:Value}{es:List (AV×AV)}(hR:jX P σ S w)(hm:Rv P σ m M)(h:tC S.h m=some es):
  ∃ms:Array MapEntry,qN P σ es ms.toList/\((M= .map none/\ms= #[])\/∃r c,M= .map (some r)/\w.heap[r]? =some (.map ms c)):=by
 cases m<;>simp only[tC,reduceCtorEq] at h<;>simp only[Rv] at hm
 ·obtain⟨L,hL,rfl⟩:=hm;have⟨bl,h1,h2⟩:=aA h;cases bl<;>simp only[yN,reduceCtorEq,Al] at h2;subst h2;have⟨L',hL',_,ms,c,h3,h4⟩:=hR.blk _ _ h1;rw[hL] at hL';cases hL';exact⟨ms,h4,.inr ⟨L.r,c,rfl,h3⟩⟩
 ·cases h;subst hm;exact⟨#[],rfl,.inl ⟨rfl,rfl⟩⟩
theorem tY{ok:Bool}{v:AV}{V:Value}{b:Bool}(h:Rv P σ v V):Rv P σ (aEc ok v b) (if ok=true then .tuple #[V,.bool b] else V):=by
 unfold aEc;cases ok
 ·exact h
 ·rw[aP,if_pos rfl];simp only[Rv];exact⟨_,rfl,cG.2 ⟨_,_,rfl,h,cG.2 ⟨_,_,rfl,by simp only[Rv],cJ.2 rfl⟩⟩⟩
theorem aBH{e:oZ}{k:AV}{es:List (AV×AV)}{r:Option (Nat×AV)}(h:zU e k es=some r):(eqv e k k).isSome=true/\tA e k es 0=some r:=by
 have⟨b,h1,h2⟩:=aA h;exact⟨by rw[h1];rfl,h2⟩
theorem aBM{r:Option (Nat×AV)}{R:Option (Nat×Value)}{z v:AV}{ok:Bool}{Z:Value}(hzr:Rv P σ z Z)(hR:aFg P σ r R)(h:uZ r z ok=some v):
  (R=none/\Rv P σ v (if ok=true then .tuple #[Z,.bool false] else Z))\/∃j V,R=some (j,V)/\Rv P σ v (if ok=true then .tuple #[V,.bool true] else V):=by
 cases r with
 | none=>
  cases R with
  | none=>
   simp only[uZ,Al] at h;subst h;exact .inl ⟨rfl,tY hzr⟩
  | some x=>exact hR.elim
 | some x=>
  cases R with
  | none=>exact hR.elim
  | some y=>
   simp only[uZ,Al] at h;subst h;exact .inr ⟨y.1,y.2,rfl,tY hR.2⟩
theorem aGh(hE:uF P)(hK:aDT P){t kt et:TypeId}{e:oZ}{z:AV}{ok:Bool}(ht:P.underlying t=some (.map kt et))(hkt:aBl P kt=some e)(hz:aDw P et=some z)
  {m k:AV} {M K:Value} (hR:jX P σ S w) (hm:Rv P σ m M) (hk:Rv P σ k K) {v:AV} (h:(aU (tC S.h m) fun es=>aU (zU e k es) fun r=>uZ r z ok)=some v):
  ∃V,(Instr.lookup t M K ok).run P w= .ok V w/\Rv P σ v V:=by
 have⟨es,h1,h⟩:=aA h;have⟨r,h2,h⟩:=aA h;have⟨hself,h2⟩:=aBH h2;have⟨ms,h3,h4⟩:=aDo hR hm h1;have⟨R,h5,h6⟩:=yI (w:=w) hE hkt hk h3 h2;have⟨i,Z,hi,hZ,hzr⟩:=zH (σ:=σ) hz;have hck:∀empty,(Instr.checkKey empty 10000 kt K).run P w= .ok () w:=fun empty=>hK σ w kt e k K empty hkt hk hself;have hz0:(zeroValue et).run P w= .ok Z w:=tO hi hZ;rcases h4 with⟨rfl,rfl⟩ | ⟨r',c,rfl,hc⟩
 ·have h5:(Instr.findKey kt K []).run P w= .ok R w:=h5;rcases aBM hzr h6 h with⟨rfl,h8⟩ | ⟨j,V,rfl,h8⟩
  ·refine⟨_,?_,h8⟩;simp only[Instr.lookup,Sem.run_bind,run_underlying ht,Result.andThen_ok,Sem.run_pure,hck,h5,hz0]
  ·refine⟨_,?_,h8⟩;simp only[Instr.lookup,Sem.run_bind,run_underlying ht,Result.andThen_ok,Sem.run_pure,hck,h5]
 ·have hg:(getObj r').run P w= .ok (.map ms c) w:=by simp [getObj,Sem.run,hc]
  rcases aBM hzr h6 h with⟨rfl,h8⟩ | ⟨j,V,rfl,h8⟩
  ·refine⟨_,?_,h8⟩;simp only[Instr.lookup,Sem.run_bind,run_underlying ht,Result.andThen_ok,hg,Sem.run_pure,hck,h5,hz0]
  ·refine⟨_,?_,h8⟩;simp only[Instr.lookup,Sem.run_bind,run_underlying ht,Result.andThen_ok,hg,Sem.run_pure,hck,h5]
end Go.Ev
namespace Go.Ev
variable {P:Program}{σ:Env}{S:St}{w:World}
def aGx(P:Program):Prop:=∀ (σ:Env) (w:World) (n:String) (tbl:List (Nat×Nat×Option (Bool×Nat))) (v v':AV) (t:TypeId) (V:Value),tbl=gK P n P.types.toList 0->Rv P σ v (.iface t V)->
 aGV n tbl v=some v'->(nilAhead (P.types.size+Made.depth) t V n).run P w= .ok (some false) w
structure tE(P:Program):Prop where
 eq:uF P
 key:aDT P
 mth:aGx P
theorem aFU(hA:tE P){x v:AV}{X:Value}{o:Oper}{a:Act}{xo:Operand}(ho:o.op= .nilCheck xo)(he:a.eval xo=X)(hx:Rv P σ x X)(h:uY x=some v):
  ∃V,(execOp a.eval o).run P w= .ok (.value V) w/\Rv P σ v V:=by
 cases x<;>simp only[uY,reduceCtorEq,Al] at h
 case ptr=>
  subst h;have hx':=hx;simp only[Rv] at hx';obtain⟨L,hL,rfl⟩:=hx';exact⟨_,by simp only[execOp,ho,he];rfl,hx⟩
 case fn=>
  subst h;have hx':=hx;simp only[Rv] at hx';obtain⟨A,B,rfl,_⟩:=hx';exact⟨_,by simp only[execOp,ho,he];rfl,hx⟩
 case yld=>
  subst h;have hx':=hx;simp only[Rv] at hx';obtain⟨L,hL,rfl⟩:=hx';exact⟨_,by simp only[execOp,ho,he];rfl,hx⟩
 case iface=>
  subst h;have hx':=hx;simp only[Rv] at hx';obtain⟨W,rfl,_⟩:=hx';exact⟨_,by simp only[execOp,ho,he];rfl,hx⟩
 case mth n tbl u=>
  have hx':=hx;simp only[Rv] at hx';obtain⟨W,rfl,htbl,hu⟩:=hx';have hv:v= .mth n tbl u:=by
   unfold aGV at h;split at h
   ·have⟨r,_,h⟩:=aA h;split at h
    ·cases h;rfl
    ·cases h;rfl
    ·cases h
   ·cases h
  have hW:∃t V,W= .iface t V:=by
   unfold aGV at h;split at h
   ·simp only[Rv] at hu;obtain⟨V,rfl,_⟩:=hu;exact⟨_,V,rfl⟩
   ·cases h
  obtain⟨t,V,rfl⟩:=hW;have hn:=hA.mth σ w n tbl u v t V htbl hu h;refine⟨.func (.method n) #[.iface t V] #[],?_,by rw[hv];exact hx⟩;simp only[execOp,ho,he];simp [hn]
theorem aEq{x v z:AV}{X:Value}{xt t:TypeId}{ok:Bool}{d:TypeDesc}(ht:P.underlying t=some d)(hd:∀m,d≠ .interface m)(hz:aDw P t=some z)(hx:Rv P σ x X)(h:wK x t z ok=some v):
  ∃V,(Instr.typeAssert X xt t ok).run P w= .ok V w/\Rv P σ v V:=by
 have⟨i,Z,hi,hZ,hzr⟩:=zH (σ:=σ) hz;have hz0:(zeroValue t).run P w= .ok Z w:=tO hi hZ;have hfail:∀v',(.tup [z,.bool false]:AV)=v'->Rv P σ v' (.tuple #[Z,.bool false]):=fun v' hv=>by
  subst hv;simp only[Rv];exact⟨_,rfl,cG.2 ⟨_,_,rfl,hzr,cG.2 ⟨_,_,rfl,by simp only[Rv],cJ.2 rfl⟩⟩⟩
 cases x<;>simp only[wK,reduceCtorEq] at h<;>simp only[Rv] at hx
 ·obtain⟨W,rfl,hW⟩:=hx;rename_i t' u;rw[bO] at h;split at h
  ·rename_i he;rw[Av] at he;subst he;cases h;refine⟨if ok=true then .tuple #[W,.bool true] else W,?_,tY hW⟩;cases d<;>first | (exact absurd rfl (hd _)) | simp [Instr.typeAssert,run_underlying ht]
  ·rename_i he;rw[Av] at he;have⟨h1,h2⟩:=bB h;subst h1;cases h2;refine⟨.tuple #[Z,.bool false],?_,hfail _ rfl⟩;have hne:¬ (t'=t):=fun e=>he e.symm;cases d<;>first | (exact absurd rfl (hd _)) | simp [Instr.typeAssert,run_underlying ht,hne,hz0]
 ·subst hx;have⟨h1,h2⟩:=bB h;subst h1;cases h2;refine⟨.tuple #[Z,.bool false],?_,hfail _ rfl⟩;cases d<;>first | (exact absurd rfl (hd _)) | simp [Instr.typeAssert,run_underlying ht,hz0]
theorem aEV:∀ {xs:bo} {Xs:List Value} {x v:AV} {X:Value},gP P σ xs Xs->Rv P σ x X->jQ true xs x=some v->∃V,(Xs.foldlM Builtin.max2 X).run P w= .ok V w/\Rv P σ v V
 | [],Xs,x,v,X,hxs,hx,h=>by
  rw[cJ] at hxs;subst hxs;simp only[jQ,Al] at h;subst h;exact⟨X,rfl,hx⟩
 | y::xs,Xs,x,v,X,hxs,hx,h=>by
  rw[cG] at hxs;obtain⟨Y,Ys,rfl,hY,hYs⟩:=hxs;unfold jQ at h;split at h
  ·rename_i e;cases e
  ·rename_i k' b vs k a e;cases e;have⟨h1,h2⟩:=bB h;simp only[Rv] at hY hx;subst hY;subst hx;have:=yS h1;subst this;have⟨V,h3,h4⟩:=aEV (X:=.int k (if b>a then b else a)) hYs (by
    simp only[Rv,aP];rw[bO,qB];simp only[decide_eq_true_eq];congr 1;split<;>split<;>omega) h2
   exact⟨V,by rw[List.foldlM_cons];simp only[Sem.run_bind,Builtin.max2,Sem.run_pure,Result.andThen_ok];exact h3,h4⟩
  ·cases h
theorem aEH:∀ {xs:bo} {Xs:List Value} {x v:AV} {X:Value},gP P σ xs Xs->Rv P σ x X->jQ false xs x=some v->∃V,(Xs.foldlM Builtin.min2 X).run P w= .ok V w/\Rv P σ v V
 | [],Xs,x,v,X,hxs,hx,h=>by
  rw[cJ] at hxs;subst hxs;simp only[jQ,Al] at h;subst h;exact⟨X,rfl,hx⟩
 | y::xs,Xs,x,v,X,hxs,hx,h=>by
  rw[cG] at hxs;obtain⟨Y,Ys,rfl,hY,hYs⟩:=hxs;unfold jQ at h;split at h
  ·rename_i e;cases e
  ·rename_i k' b vs k a e;cases e;have⟨h1,h2⟩:=bB h;simp only[Rv] at hY hx;subst hY;subst hx;have:=yS h1;subst this;have⟨V,h3,h4⟩:=aEH (X:=.int k (if b<a then b else a)) hYs (by
    simp only[Rv,aS];rw[bO,qB];simp only[decide_eq_true_eq];congr 1;split<;>split<;>omega) h2
   exact⟨V,by rw[List.foldlM_cons];simp only[Sem.run_bind,Builtin.min2,Sem.run_pure,Result.andThen_ok];exact h3,h4⟩
  ·cases h
theorem aHF{t ty:TypeId}{e:TypeId}(ht:P.underlying t=some (.slice e)){x v:AV}{X:Value}(hx:Rv P σ x X)(h:kT x=some v):∃V,(Builtin.len_ #[t] ty #[X]).run P w= .ok V w/\Rv P σ v V:=by
 cases x<;>simp only[kT,reduceCtorEq,Al] at h<;>subst h<;>simp only[Rv] at hx
 ·obtain⟨L,_,rfl⟩:=hx;exact⟨_,by simp [Builtin.len_,run_underlying ht];rfl,by simp only[Rv];rfl⟩
 ·subst hx;exact⟨_,by simp [Builtin.len_,run_underlying ht];rfl,by simp only[Rv];rfl⟩
 ·obtain⟨A,c,rfl⟩:=hx;exact⟨_,by simp [Builtin.len_,run_underlying ht];rfl,by simp only[Rv];rfl⟩
theorem aFx{t ty:TypeId}(ht:P.underlying t=some .string){x v:AV}{X:Value}(hx:Rv P σ x X)(h:aAs x=some v):∃V,(Builtin.len_ #[t] ty #[X]).run P w= .ok V w/\Rv P σ v V:=by
 cases x<;>simp only[aAs,reduceCtorEq,Al] at h<;>subst h<;>simp only[Rv] at hx;obtain⟨rfl,_⟩:=hx;refine⟨_,by simp [Builtin.len_,run_underlying ht];rfl,?_⟩;simp only[Rv,eQ,gQ];rfl
theorem aHB{t ty:TypeId}{e:TypeId}(ht:P.underlying t=some (.slice e)){x v:AV}{X:Value}(hx:Rv P σ x X)(h:aC5 x=some v):∃V,(Builtin.cap_ #[t] ty #[X]).run P w= .ok V w/\Rv P σ v V:=by
 unfold aC5 at h;split at h
 ·cases h;simp only[Rv] at hx;subst hx;exact⟨_,by simp [Builtin.cap_,run_underlying ht];rfl,by simp only[Rv];rfl⟩
 ·cases h;simp only[Rv] at hx;obtain⟨L,_,rfl⟩:=hx;exact⟨_,by simp [Builtin.cap_,run_underlying ht];rfl,by simp only[Rv];rfl⟩
 ·cases h
theorem qN.length:∀ {m:List (AV×AV)} {es:List MapEntry},qN P σ m es->es.length=m.length
 | [],es,h=>by have h:es= []:=h;subst h;rfl
 | _::m,es,h=>by obtain⟨e,es',rfl,_,_,h⟩:=h;simp [h.length]
theorem aFc{t ty kt et:TypeId}(ht:P.underlying t=some (.map kt et))(hR:jX P σ S w){x:AV}{X:Value}{es:List (AV×AV)}(hx:Rv P σ x X)(h:tC S.h x=some es):
  ∃V,(Builtin.len_ #[t] ty #[X]).run P w= .ok V w/\Rv P σ (.int .i64 (.ofNat (kG es))) V:=by
 have⟨ms,h3,h4⟩:=aDo hR hx h;have hl:=h3.length;rcases h4 with⟨rfl,rfl⟩ | ⟨r,c,rfl,hc⟩
 ·refine⟨_,by simp [Builtin.len_,run_underlying ht];rfl,?_⟩;simp only[Rv,eQ,<-hl];rfl
 ·have hg:(getObj r).run P w= .ok (.map ms c) w:=by simp [getObj,Sem.run,hc]
  refine⟨_,by simp [Builtin.len_,run_underlying ht,hg];rfl,?_⟩;simp only[Rv,eQ,<-hl];simp [goInt]
end Go.Ev
namespace Go.Ev
variable {P:Program}{σ:Env}{S:St}{w:World}
theorem cD{o:Option QOp}{r:AOp}(h:q o=some r):∃x,o=some x/\r= .q x:=by
 cases o with
 | none=>cases h
 | some x=>cases h;exact⟨x,rfl,rfl⟩
theorem jO{o:Option vH}{r:AOp}(h:al o=some r):∃x,o=some x/\r= .a x:=by
 cases o with
 | none=>cases h
 | some x=>cases h;exact⟨x,rfl,rfl⟩
theorem fH{o:Option XOp}{r:AOp}(h:xx o=some r):∃x,o=some x/\r= .x x:=by
 cases o with
 | none=>cases h
 | some x=>cases h;exact⟨x,rfl,rfl⟩
theorem aT{α β:Type}{o:Option α}{f:α->Option β}{r:β}(h:(o >>=f)=some r):∃a,o=some a/\f a=some r:=by
 cases o with
 | none=>cases h
 | some a=>exact⟨a,rfl,h⟩
theorem zS{P:Program}{b:Builtin}{as:List Operand}{ts:List TypeId}{op:AOp}(h:aLB P b as ts=some op):b= .copy/\∃d s t u e i D So,as= [d,s]/\ts= [t,u]/\lE P t=some (e,i)/\eU P d=some D/\eU P s=some So/\op= .x (.copy i.size D So):=by
 cases b<;>simp only[aLB,reduceCtorEq] at h;split at h
 ·rename_i d s t u;split at h
  ·rename_i e i he;have⟨y,h1,h2⟩:=fH h;have⟨D,hD,h1⟩:=aT h1;have⟨So,hS,h1⟩:=aT h1;cases h1;exact⟨rfl,d,s,t,u,e,i,D,So,rfl,rfl,he,hD,hS,h2⟩
  ·cases h
 ·cases h
theorem aE3(hA:tE P){o:Oper}{qo:QOp}(hc:pI P o.op=some (.q qo)){F:Fr}{a:Act}(hF:oP P σ F a.tmps)(hR:jX P σ S w){v:AV}(hv:jK qo F S.h=some v):
  ∃V,(execOp a.eval o).run P w= .ok (.value V) w/\Rv P σ v V:=by
 have lift:∀ {s:Sem Value},execOp a.eval o=(do pure (.value (<-s)))->(∃V,s.run P w= .ok V w/\Rv P σ v V)->∃V,(execOp a.eval o).run P w= .ok (.value V) w/\Rv P σ v V:=by
  rintro s he ⟨V,h1,h2⟩;exact⟨V,by rw[he];simp [h1],h2⟩
 have⟨dst,op,type,pos,after,guard⟩:=o;simp only at hc;cases op with
 | move x=>
  have⟨y,h1,h2⟩:=cD hc;cases h2;have⟨X,hX,h1⟩:=aT h1;cases h1;cases hv;exact⟨_,rfl,bI hF hR hX⟩
 | assign x=>
  have⟨y,h1,h2⟩:=cD hc;cases h2;have⟨X,hX,h1⟩:=aT h1;cases h1;cases hv;exact⟨_,rfl,bI hF hR hX⟩
 | pick c x y=>
  have⟨z,h1,h2⟩:=cD hc;cases h2;have⟨C,hC,h1⟩:=aT h1;have⟨X,hX,h1⟩:=aT h1;have⟨Y,hY,h1⟩:=aT h1;cases h1;exact aH7 (bI hF hR hC) (bI hF hR hX) (bI hF hR hY) hv
 | alloc t=>have⟨y,_,h2⟩:=jO hc;cases h2
 | box t x=>have⟨y,_,h2⟩:=jO hc;cases h2
 | build t ps=>
  simp only[pI] at hc;split at hc
  ·rename_i fs hu;rw[Aw] at hc;split at hc
   ·rename_i hk;have⟨y,h1,h2⟩:=cD hc;cases h2;have⟨z,hz,h1⟩:=aT h1;have⟨qs,hq,h1⟩:=aT h1;cases h1;have⟨cs,h3,h4⟩:=aA (show(aU (iJ z (iI F qs)) fun cs=>some (.agg cs))=some v from hv);cases h4;exact lift rfl (zV hF hR hu hk hz hq h3)
   ·cases hc
  ·rename_i n e hu;have⟨y,h1,h2⟩:=cD hc;cases h2;have⟨i,hi,h1⟩:=aT h1;have⟨z,hz,h1⟩:=aT h1;have⟨qs,hq,h1⟩:=aT h1;cases h1;have⟨cs,h3,h4⟩:=aA (show(aU (iJ z (iI F qs)) fun cs=>some (.agg cs))=some v from hv);cases h4;exact lift rfl (aAr hF hR hu hi hz hq h3)
  ·cases hc
 | buildSlice t n ps=>have⟨y,_,h2⟩:=jO hc;cases h2
 | insert t m k x=>
  simp only[pI] at hc;split at hc
  ·have⟨y,_,h2⟩:=fH hc;cases h2
  ·cases hc
 | load t x=>
  have⟨y,h1,h2⟩:=cD hc;cases h2;have⟨⟨agg,n⟩,hag,h1⟩:=aT h1;have⟨X,hX,h1⟩:=aT h1;cases h1;exact lift rfl (aK2 hag hR (bI hF hR hX) hv)
 | store t x y=>
  have⟨y,_,h2⟩:=fH hc;cases h2
 | ready g=>cases hc
 | waits g=>cases hc
 | nilCheck x=>
  have⟨y,h1,h2⟩:=cD hc;cases h2;have⟨X,hX,h1⟩:=aT h1;cases h1;exact aFU hA rfl rfl (bI hF hR hX) hv
 | binOp op t x y t'=>
  have⟨z,h1,h2⟩:=cD hc;cases h2;have⟨X,hX,h1⟩:=aT h1;have⟨Y,hY,h1⟩:=aT h1;cases h1;exact lift rfl (aKW hA.eq (bI hF hR hX) (bI hF hR hY) hv)
 | unOp op t x=>
  have⟨z,h1,h2⟩:=cD hc;cases h2;have⟨X,hX,h1⟩:=aT h1;cases h1;exact lift rfl (aLp (bI hF hR hX) hv)
 | convert src dst x=>
  simp only[pI] at hc;split at hc
  ·rename_i k j hs hd;have⟨z,h1,h2⟩:=cD hc;cases h2;have⟨X,hX,h1⟩:=aT h1;cases h1;exact lift rfl (uL hR (bI hF hR hX) hv ⟨⟨_,hs⟩,hd⟩)
  ·rename_i hs hd;have⟨z,h1,h2⟩:=cD hc;cases h2;have⟨X,hX,h1⟩:=aT h1;cases h1;exact lift rfl (uL hR (bI hF hR hX) hv ⟨hs,hd⟩)
  ·rename_i k hs hd;have⟨z,h1,h2⟩:=cD hc;cases h2;have⟨X,hX,h1⟩:=aT h1;cases h1;exact lift rfl (uL hR (bI hF hR hX) hv ⟨⟨_,hs⟩,hd⟩)
  ·rename_i e hs hd;split at hc
   ·rename_i he;have⟨z,h1,h2⟩:=cD hc;cases h2;have⟨X,hX,h1⟩:=aT h1;cases h1;exact lift rfl (uL hR (bI hF hR hX) hv ⟨e,hs,he,hd⟩)
   ·cases hc
  ·split at hc
   ·have⟨y,_,h2⟩:=jO hc;cases h2
   ·cases hc
  ·cases hc
 | sliceToArrayPointer t x=>cases hc
 | makeInterface t x=>
  simp only[pI] at hc;split at hc
  ·cases hc
  ·rename_i d hni hu;have⟨z,h1,h2⟩:=cD hc;cases h2;have⟨X,hX,h1⟩:=aT h1;cases h1;cases hv;refine lift rfl ⟨.iface t (a.eval x),?_,by simp only[Rv];exact⟨_,rfl,bI hF hR hX⟩⟩;simp only[Instr.makeInterface,Sem.run_bind,run_underlying hu,Result.andThen_ok];cases d<;>first | rfl | (exact absurd hu (by simpa using hni _))
  ·cases hc
 | makeFunc fn first cap=>
  cases fn with
  | func f=>
   have⟨z,h1,h2⟩:=cD hc;cases h2;have⟨X,hX,h1⟩:=aT h1;have⟨Y,hY,h1⟩:=aT h1;cases h1;cases hv;refine lift rfl ⟨_,rfl,?_⟩;simp only[Rv];refine⟨(first.map a.eval).toList,(cap.map a.eval).toList,rfl,?_,?_⟩
   ·rw[El];exact kS hF hR hX
   ·rw[El];exact kS hF hR hY
  | method name=>
   simp only[pI] at hc;split at hc
   ·rename_i x hx hy;have⟨z,h1,h2⟩:=cD hc;cases h2;have⟨X,hX,h1⟩:=aT h1;cases h1;cases hv;refine lift rfl ⟨_,rfl,?_⟩;simp only[Rv];refine⟨a.eval x,?_,trivial,bI hF hR hX⟩;congr 1
    ·apply Fv;rw[El,hx];rfl
    ·apply Fv;rw[El,hy];rfl
   ·cases hc
  | methodOf t name=>cases hc
  | via t path f p=>cases hc
  | yield l=>cases hc
 | makeMap t r=>cases r<;>simp only[pI,reduceCtorEq] at hc;have⟨y,_,h2⟩:=jO hc;cases h2
 | makeChan t x=>cases hc
 | makeSlice t l c=>have⟨y,_,h2⟩:=jO hc;cases h2
 | slice t x lo hh mx=>
  simp only[pI,Aw] at hc;split at hc
  ·cases hc
  ·rename_i hguard;have hhm:mx.isSome=true->hh.isSome=true:=fun hm=>by
    cases hh with
    | none=>simp [hm] at hguard
    | some _=>rfl
   split at hc
   ·rename_i hu;have⟨z,h1,h2⟩:=cD hc;cases h2;have⟨X,hX,h1⟩:=aT h1;have⟨Lo,hLo,h1⟩:=aT h1;have⟨Hi,hHi,h1⟩:=aT h1;have⟨Mx,hMx,h1⟩:=aT h1;cases h1;have hv:lA .str (X.val F) Lo Hi Mx F=some v:=hv;have hx:=bI hF hR hX;generalize X.val F=xv at hv hx;cases xv<;>simp only[lA,reduceCtorEq] at hv;refine lift rfl ?_;have:=aHG hu hF hR hLo hHi hMx hx hv;have⟨V,h3,h4⟩:=this;exact⟨V,by simp only[Instr.sliceAt,Sem.run_bind,run_underlying hu,Result.andThen_ok];exact h3,h4⟩
   ·rename_i e hu;have⟨z,h1,h2⟩:=cD hc;cases h2;have⟨i,hi,h1⟩:=aT h1;have⟨X,hX,h1⟩:=aT h1;have⟨Lo,hLo,h1⟩:=aT h1;have⟨Hi,hHi,h1⟩:=aT h1;have⟨Mx,hMx,h1⟩:=aT h1;cases h1;have hv:lA (.slice i.size) (X.val F) Lo Hi Mx F=some v:=hv;have hx:=bI hF hR hX;generalize X.val F=xv at hv hx;cases xv<;>simp only[lA,reduceCtorEq] at hv
    ·refine lift rfl ?_;have⟨V,h3,h4⟩:=aIC hu hi hF hR hLo hHi hMx hhm hx hv;exact⟨V,by simp only[Instr.sliceAt,Sem.run_bind,run_underlying hu,Result.andThen_ok];exact h3,h4⟩
    ·refine lift rfl ?_;have⟨V,h3,h4⟩:=aGR hu hi hF hR hLo hHi hMx hhm hx hv;exact⟨V,by simp only[Instr.sliceAt,Sem.run_bind,run_underlying hu,Result.andThen_ok];exact h3,h4⟩
    ·refine lift rfl ?_;have⟨V,h3,h4⟩:=aGA hu hi hF hR hLo hHi hMx hhm hx hv;exact⟨V,by simp only[Instr.sliceAt,Sem.run_bind,run_underlying hu,Result.andThen_ok];exact h3,h4⟩
   ·rename_i n e hu;have⟨z,h1,h2⟩:=cD hc;cases h2;have⟨i,hi,h1⟩:=aT h1;have⟨X,hX,h1⟩:=aT h1;have⟨Lo,hLo,h1⟩:=aT h1;have⟨Hi,hHi,h1⟩:=aT h1;have⟨Mx,hMx,h1⟩:=aT h1;cases h1;have hv:lA (.arr n i.size) (X.val F) Lo Hi Mx F=some v:=hv;have hx:=bI hF hR hX;generalize X.val F=xv at hv hx;cases xv<;>simp only[lA,reduceCtorEq] at hv;exact lift rfl (aGn hu hi hF hR hLo hHi hMx hhm hx hv)
   ·cases hc
 | fieldAddr t x f=>
  simp only[pI] at hc;split at hc
  ·rename_i fs hu;have⟨z,h1,h2⟩:=cD hc;cases h2;have⟨fd,hf,h1⟩:=aT h1;have⟨i,hi,h1⟩:=aT h1;split at h1
   ·cases h1
   ·rename_i h0;have⟨X,hX,h1⟩:=aT h1;cases h1;exact lift rfl (aGU hu hf hi h0 (bI hF hR hX) hv)
  ·cases hc
 | field t x f=>
  simp only[pI] at hc;split at hc
  ·rename_i fs hu;have⟨z,h1,h2⟩:=cD hc;cases h2;have⟨fd,hf,h1⟩:=aT h1;have⟨⟨agg,n⟩,hag,h1⟩:=aT h1;have⟨X,hX,h1⟩:=aT h1;cases h1;exact lift rfl (aKv hu hf hag (bI hF hR hX) hv)
  ·cases hc
 | indexAddr t x ix=>
  simp only[pI] at hc;split at hc
  ·rename_i e hu;have⟨z,h1,h2⟩:=cD hc;cases h2;have⟨i,hi,h1⟩:=aT h1;have⟨X,hX,h1⟩:=aT h1;have⟨I,hI,h1⟩:=aT h1;cases h1;have⟨j,h3,h4⟩:=aA (show(aU (dY (I.val F)) fun j=>dN (.slice i.size) (X.val F) j)=some v from hv);have⟨k,hk⟩:=mF h3;have hi':=bI hF hR hI;rw[hk] at hi';simp only[Rv] at hi';exact lift rfl (aDa hu hi (bI hF hR hX) hi' h4)
  ·rename_i n e hu;have⟨z,h1,h2⟩:=cD hc;cases h2;have⟨i,hi,h1⟩:=aT h1;have⟨X,hX,h1⟩:=aT h1;have⟨I,hI,h1⟩:=aT h1;cases h1;have⟨j,h3,h4⟩:=aA (show(aU (dY (I.val F)) fun j=>dN (.arr n i.size) (X.val F) j)=some v from hv);have⟨k,hk⟩:=mF h3;have hi':=bI hF hR hI;rw[hk] at hi';simp only[Rv] at hi';exact lift rfl (aCg hu hi (bI hF hR hX) hi' h4)
  ·cases hc
 | index t x ix=>
  simp only[pI] at hc;split at hc
  ·rename_i hu;have⟨z,h1,h2⟩:=cD hc;cases h2;have⟨X,hX,h1⟩:=aT h1;have⟨I,hI,h1⟩:=aT h1;cases h1;have⟨j,h3,h4⟩:=aA (show(aU (dY (I.val F)) fun j=>xQ (X.val F) j)=some v from hv);have⟨k,hk⟩:=mF h3;have hi':=bI hF hR hI;rw[hk] at hi';simp only[Rv] at hi';exact lift rfl (aFa hu (bI hF hR hX) hi' h4)
  ·rename_i n e hu;have⟨z,h1,h2⟩:=cD hc;cases h2;have⟨⟨agg,s⟩,hag,h1⟩:=aT h1;have⟨X,hX,h1⟩:=aT h1;have⟨I,hI,h1⟩:=aT h1;cases h1;have⟨j,h3,h4⟩:=aA (show(aU (dY (I.val F)) fun j=>xI (X.val F) agg n s j)=some v from hv);have⟨k,hk⟩:=mF h3;have hi':=bI hF hR hI;rw[hk] at hi';simp only[Rv] at hi';exact lift rfl (aFI hu hag (bI hF hR hX) hi' h4)
  ·cases hc
 | lookup t m k ok=>
  simp only[pI] at hc;split at hc
  ·rename_i kt et hu;have⟨z,h1,h2⟩:=cD hc;cases h2;have⟨e,he,h1⟩:=aT h1;have⟨zv,hz,h1⟩:=aT h1;have⟨M,hM,h1⟩:=aT h1;have⟨K,hK,h1⟩:=aT h1;cases h1;exact lift rfl (aGh hA.eq hA.key hu he hz hR (bI hF hR hM) (bI hF hR hK) hv)
  ·cases hc
 | mapUpdate t m k x=>
  simp only[pI] at hc;split at hc
  ·have⟨y,_,h2⟩:=fH hc;cases h2
  ·cases hc
 | mapEntry t m k=>cases hc
 | entryStore t m s x=>cases hc
 | range t x=>cases hc
 | next x b=>cases hc
 | entry x=>cases hc
 | typeAssert x xt t ok=>
  simp only[pI] at hc;split at hc
  ·cases hc
  ·rename_i d hni hu;have⟨z,h1,h2⟩:=cD hc;cases h2;have⟨zv,hz,h1⟩:=aT h1;have⟨X,hX,h1⟩:=aT h1;cases h1;exact lift rfl (aEq hu (fun m e=>by subst e;exact hni m rfl) hz (bI hF hR hX) hv)
  ·cases hc
 | extract x i=>
  have⟨z,h1,h2⟩:=cD hc;cases h2;have⟨X,hX,h1⟩:=aT h1;cases h1;exact lift rfl (aEk (bI hF hR hX) hv)
 | call c=>
  have⟨callee,args,argTypes⟩:=c;cases callee with
  | value f=>
   simp only[pI] at hc;split at hc
   ·have⟨y,_,h2⟩:=fH hc;cases h2
   ·have⟨y,_,h2⟩:=fH hc;cases h2
  | invoke r m=>have⟨y,_,h2⟩:=fH hc;cases h2
  | builtin b=>
   have arr:∀ {α:Type} {x:Array α} {l:List α},x.toList=l->x=l.toArray:=fun h=>by apply Fv;rw[h]
   simp only[pI] at hc;split at hc
   ·rename_i x t hx ht;have:=arr hx;subst this;have:=arr ht;subst this;split at hc
    ·rename_i hu;have⟨z,h1,h2⟩:=cD hc;cases h2;have⟨X,hX,h1⟩:=aT h1;cases h1;exact lift (s:=Builtin.len_ #[t] type #[a.eval x]) (by simp [execOp,resolve,invoke,builtin]) (aFx hu (bI hF hR hX) hv)
    ·rename_i e hu;have⟨z,h1,h2⟩:=cD hc;cases h2;have⟨X,hX,h1⟩:=aT h1;cases h1;exact lift (s:=Builtin.len_ #[t] type #[a.eval x]) (by simp [execOp,resolve,invoke,builtin]) (aHF hu (bI hF hR hX) hv)
    ·rename_i n e hu;have⟨z,h1,h2⟩:=cD hc;cases h2;cases h1;cases hv;refine lift (s:=Builtin.len_ #[t] type #[a.eval x]) (by simp [execOp,resolve,invoke,builtin]) ⟨goInt n,?_,by simp only[Rv];rfl⟩;simp [Builtin.len_,run_underlying hu]
    ·rename_i kt et hu;have⟨z,h1,h2⟩:=cD hc;cases h2;have⟨X,hX,h1⟩:=aT h1;cases h1;have⟨es,h3,h4⟩:=aA (show(aU (tC S.h (X.val F)) fun es=>some (.int .i64 (.ofNat (kG es))))=some v from hv);cases h4;exact lift (s:=Builtin.len_ #[t] type #[a.eval x]) (by simp [execOp,resolve,invoke,builtin]) (aFc hu hR (bI hF hR hX) h3)
    ·cases hc
   ·rename_i x t hx ht;have:=arr hx;subst this;have:=arr ht;subst this;split at hc
    ·rename_i e hu;have⟨z,h1,h2⟩:=cD hc;cases h2;have⟨X,hX,h1⟩:=aT h1;cases h1;exact lift (s:=Builtin.cap_ #[t] type #[a.eval x]) (by simp [execOp,resolve,invoke,builtin]) (aHB hu (bI hF hR hX) hv)
    ·cases hc
   ·have⟨z,h1,h2⟩:=cD hc;cases h2;have⟨Xs,hXs,h1⟩:=aT h1;cases h1;have hxs:=kS hF hR hXs;have hv:lF true (cO Xs F)=some v:=hv;refine lift (s:=Builtin.max_ argTypes type (args.map a.eval)) rfl ?_;unfold Builtin.max_;rw[El];cases hvl:cO Xs F with
    | nil=>rw[hvl] at hv;simp [lF] at hv
    | cons u us=>
     rw[hvl] at hv hxs;rw[cG] at hxs;have⟨U,Us,he,hU,hUs⟩:=hxs;rw[he];exact aEV hUs hU hv
   ·have⟨z,h1,h2⟩:=cD hc;cases h2;have⟨Xs,hXs,h1⟩:=aT h1;cases h1;have hxs:=kS hF hR hXs;have hv:lF false (cO Xs F)=some v:=hv;refine lift (s:=Builtin.min_ argTypes type (args.map a.eval)) rfl ?_;unfold Builtin.min_;rw[El];cases hvl:cO Xs F with
    | nil=>rw[hvl] at hv;simp [lF] at hv
    | cons u us=>
     rw[hvl] at hv hxs;rw[cG] at hxs;have⟨U,Us,he,hU,hUs⟩:=hxs;rw[he];exact aEH hUs hU hv
   ·split at hc
    ·rw[Aw] at hc;split at hc
     ·have⟨y,_,h2⟩:=fH hc;cases h2
     ·cases hc
    ·cases hc
   ·split at hc
    ·have⟨y,_,h2⟩:=fH hc;cases h2
    ·cases hc
   ·have⟨_,_,_,_,_,_,_,_,_,_,_,_,_,_,h2⟩:=zS hc;cases h2
 | go c=>cases hc
 | defer c=>cases hc
 | panic x=>cases hc
 | send x y=>cases hc
 | recv t x b=>cases hc
 | select cs b=>cases hc
end Go.Ev
