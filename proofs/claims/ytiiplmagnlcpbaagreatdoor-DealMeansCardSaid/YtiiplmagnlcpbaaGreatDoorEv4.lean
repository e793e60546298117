import Derived.Test.YtiiplmagnlcpbaaGreatDoorEv3
set_option linter.unusedSimpArgs false
set_option linter.unusedVariables false
namespace Go.Ev
variable {P:Program}{σ:Env}{S:St}{w:World}
theorem addr_add(r o n:Nat):(⟨r,o,none⟩:Addr).add n=⟨r,o+n,none⟩:=Addr.add_mid r o n
theorem aJA{t e:TypeId}{i:TypeInfo}(ht:P.underlying t=some (.slice e))(hi:P.info? e=some i){F:Fr}{a:Act}(hF:pV P σ F a.tmps)(hR:kT P σ S w)
  {b off len cap:Nat} {o:Bool} {lo hh mx:Option Operand} {Lo Hi Mx:Option cP} (hlo:mK P lo=some Lo) (hhi:mK P hh=some Hi) (hmx:mK P mx=some Mx)
  (hhm:mx.isSome=true->hh.isSome=true) {X:Value} (hx:Rv P σ (.sl b off len cap o) X) {v:AV} (h:aDR i.size b off len cap o Lo Hi Mx F=some v):
  ∃V,(Instr.slice t X (lo.map a.eval) (hh.map a.eval) (mx.map a.eval)).run P w= .ok V w/\Rv P σ v V:=by
 simp only[Rv] at hx;obtain⟨L,hL,rfl⟩:=hx;have⟨x,hb,h⟩:=aA h;have hnone:=aCq hmx;have h6:=(rZ hb).2.2.2;cases o with
 | false=>
  have hrun:=mH (e:=0) (isSlice:=true) hF hR hlo hhi hmx hhm hb;simp only[Bm,ite_self,aR] at hrun h;simp only[Bx,Aw];rw[bQ] at h;split at h
  ·rename_i he;rw[Az] at he;cases h;refine⟨_,by simp [Instr.slice,run_underlying ht,hrun,sizeOf,typeInfo,hi,he];rfl,?_⟩;simp only[Rv];exact⟨L,hL,by simp [he]⟩
  ·rename_i he;rw[Az] at he;cases h;refine⟨.slice (some ⟨L.r,L.d+off+x.1 * i.size,none⟩) (x.2.1 - x.1) (x.2.2 - x.1),by simp [Instr.slice,run_underlying ht,hrun,sizeOf,typeInfo,hi,he,addr_add],?_⟩;simp only[Rv];exact⟨L,hL,by simp [Cx]⟩
 | true=>
  have hrun:=mH (e:=L.e) (isSlice:=true) hF hR hlo hhi hmx hhm hb;simp only[aN,hnone] at h;simp only[Cq];cases hm:mx.isNone
  ·rw[hm] at h hrun;simp only[Bx,Aw,aR] at hrun h;rw[bQ] at h;split at h
   ·rename_i he;rw[Az] at he;cases h;refine⟨_,by simp [Instr.slice,run_underlying ht,hrun,sizeOf,typeInfo,hi,he];rfl,?_⟩;simp only[Rv];exact⟨L,hL,by simp [he]⟩
   ·rename_i he;rw[Az] at he;cases h;refine⟨.slice (some ⟨L.r,L.d+off+x.1 * i.size,none⟩) (x.2.1 - x.1) (x.2.2 - x.1),by simp [Instr.slice,run_underlying ht,hrun,sizeOf,typeInfo,hi,he,addr_add],?_⟩;simp only[Rv];exact⟨L,hL,by simp [Cx]⟩
  ·rw[hm] at h hrun;simp only[Cq,aN] at hrun h;rw[bQ] at h;split at h
   ·rename_i he;rw[Az] at he;cases h;have hlen:x.2.1 - x.1=0:=by omega
    simp only[Instr.slice,Sem.run_bind,run_underlying ht,Result.andThen_ok,hrun,sizeOf,typeInfo,run_program,hi,Sem.run_pure,hlen];by_cases h0:x.2.2+L.e=x.1
    ·exact⟨_,by rw[if_pos h0],by simp only[Rv];exact⟨_,_,rfl⟩⟩
    ·exact⟨_,by rw[if_neg h0],by simp only[Rv];exact⟨_,_,rfl⟩⟩
   ·rename_i he;rw[Az] at he;cases h;have h0:¬ (x.2.2+L.e=x.1):=by omega
    refine⟨.slice (some ⟨L.r,L.d+off+x.1 * i.size,none⟩) (x.2.1 - x.1) (x.2.2+L.e - x.1),by simp [Instr.slice,run_underlying ht,hrun,sizeOf,typeInfo,hi,h0,addr_add],?_⟩;simp only[Rv];refine⟨L,hL,?_⟩;simp only[Cq,Cx];congr 1;omega
theorem aHu{t e:TypeId}{i:TypeInfo}(ht:P.underlying t=some (.slice e))(hi:P.info? e=some i){F:Fr}{a:Act}(hF:pV P σ F a.tmps)(hR:kT P σ S w)
  {lo hh mx:Option Operand} {Lo Hi Mx:Option cP} (hlo:mK P lo=some Lo) (hhi:mK P hh=some Hi) (hmx:mK P mx=some Mx)
  (hhm:mx.isSome=true->hh.isSome=true) {X:Value} (hx:Rv P σ .emp X) {v:AV} (h:aOJ Lo Hi Mx F=some v):
  ∃V,(Instr.slice t X (lo.map a.eval) (hh.map a.eval) (mx.map a.eval)).run P w= .ok V w/\Rv P σ v V:=by
 simp only[Rv] at hx;obtain⟨A,c,rfl⟩:=hx;have⟨x,hb,h⟩:=aA h;cases h;have h6:=(rZ hb).2.2.2;have hrun:=mH (e:=c) (isSlice:=true) hF hR hlo hhi hmx hhm hb;simp only[Ao] at hrun;have h1:x.1=0:=by omega
 have h2:x.2.1=0:=by omega
 simp only[Instr.slice,Sem.run_bind,run_underlying ht,Result.andThen_ok,hrun,sizeOf,typeInfo,run_program,hi,Sem.run_pure,h1,h2,Fu,Ef];refine⟨_,rfl,?_⟩;simp only[Rv,Gq,Addr.add_zero',ite_self];exact⟨A,_,rfl⟩
theorem aHL{t e:TypeId}{i:TypeInfo}(ht:P.underlying t=some (.slice e))(hi:P.info? e=some i){F:Fr}{a:Act}(hF:pV P σ F a.tmps)(hR:kT P σ S w)
  {lo hh mx:Option Operand} {Lo Hi Mx:Option cP} (hlo:mK P lo=some Lo) (hhi:mK P hh=some Hi) (hmx:mK P mx=some Mx)
  (hhm:mx.isSome=true->hh.isSome=true) {X:Value} (hx:Rv P σ .ce X) {v:AV} (h:aNO Lo Hi Mx F=some v):
  ∃V,(Instr.slice t X (lo.map a.eval) (hh.map a.eval) (mx.map a.eval)).run P w= .ok V w/\Rv P σ v V:=by
 simp only[Rv] at hx;subst hx;have⟨x,hb,h⟩:=aA h;cases h;have h6:=(rZ hb).2.2.2;have hrun:=mH (e:=0) (isSlice:=true) hF hR hlo hhi hmx hhm hb;simp only[Bm,ite_self] at hrun;have h1:x.1=0:=by omega
 have h2:x.2.1=0:=by omega
 have h3:x.2.2=0:=by omega
 simp only[Instr.slice,Sem.run_bind,run_underlying ht,Result.andThen_ok,hrun,sizeOf,typeInfo,run_program,hi,Sem.run_pure,h1,h2,h3,Cq,Ef];exact⟨_,rfl,by simp only[Rv]⟩
theorem aHg{t e:TypeId}{n:Nat}{i:TypeInfo}(ht:P.underlying t=some (.array n e))(hi:P.info? e=some i){F:Fr}{a:Act}(hF:pV P σ F a.tmps)(hR:kT P σ S w)
  {b off:Nat} {lo hh mx:Option Operand} {Lo Hi Mx:Option cP} (hlo:mK P lo=some Lo) (hhi:mK P hh=some Hi) (hmx:mK P mx=some Mx)
  (hhm:mx.isSome=true->hh.isSome=true) {X:Value} (hx:Rv P σ (.ptr b off) X) {v:AV} (h:aNi n i.size b off Lo Hi Mx F=some v):
  ∃V,(Instr.sliceAt t X (lo.map a.eval) (hh.map a.eval) (mx.map a.eval)).run P w= .ok V w/\Rv P σ v V:=by
 simp only[Rv] at hx;obtain⟨L,hL,rfl⟩:=hx;have⟨x,hb,h⟩:=aA h;have hrun:=mH (e:=0) (isSlice:=false) hF hR hlo hhi hmx hhm hb;simp only[Bm,ite_self] at hrun;rw[bQ] at h;split at h
 ·rename_i he;rw[Az] at he;cases h;refine⟨_,by simp [Instr.sliceAt,run_underlying ht,Instr.sureAddr,hrun,sizeOf,typeInfo,hi,he];rfl,?_⟩;simp only[Rv];exact⟨L,hL,by simp [he]⟩
 ·rename_i he;rw[Az] at he;cases h;refine⟨.slice (some ⟨L.r,L.d+off+x.1 * i.size,none⟩) (x.2.1 - x.1) (x.2.2 - x.1),by simp [Instr.sliceAt,run_underlying ht,Instr.sureAddr,hrun,sizeOf,typeInfo,hi,he,addr_add],?_⟩;simp only[Rv];exact⟨L,hL,by simp [Cx]⟩
theorem aEZ(s:bt)(l h:Nat):(dM s).extract l h=dM ((s.drop l).take (h - l)):=by
 apply ByteArray.ext;rw[ByteArray.data_extract];simp [dM,List.extract_eq_take_drop]
theorem aIy{t:TypeId}(ht:P.underlying t=some .string){F:Fr}{a:Act}(hF:pV P σ F a.tmps)(hR:kT P σ S w)
  {s:bt} {lo hh mx:Option Operand} {Lo Hi Mx:Option cP} (hlo:mK P lo=some Lo) (hhi:mK P hh=some Hi) (hmx:mK P mx=some Mx)
  {X:Value} (hx:Rv P σ (.str s) X) {v:AV} (h:aHG s Lo Hi Mx F=some v):
  ∃V,(Instr.slice t X (lo.map a.eval) (hh.map a.eval) (mx.map a.eval)).run P w= .ok V w/\Rv P σ v V:=by
 simp only[Rv] at hx;obtain⟨rfl,hb⟩:=hx;cases Mx with
 | some _=>simp [aHG] at h
 | none=>
  have hmn:mx=none:=by cases mx with | none=>rfl | some m=>have:=aCq hmx;simp at this
  subst hmn;simp only[aHG] at h;have⟨h',h1,h⟩:=aA h;have⟨l,h2,h⟩:=aA h;have⟨h3,h⟩:=bJ h;have⟨h4,h⟩:=bJ h;have⟨r,h5,h⟩:=aA h;cases h;rw[eR] at h1 h3;have hbd:jP s.length s.length Lo Hi none F=some (l,h',s.length):=by
   unfold jP;rw[show iU F s.length none=some s.length from rfl,aH,h1,aH,h2,aH,h3,h4,Nat.ble_self_eq_true];rfl
  have hrun:=mH (e:=0) (isSlice:=false) hF hR hlo hhi hmx (by simp) hbd;simp only[Bm,ite_self] at hrun;obtain⟨rfl,_⟩:=aHq h5;refine⟨.string (dM ((s.drop l).take (h' - l))),?_,by simp only[Rv];exact⟨trivial,fun x hx=>hb x (Ej (Ek hx))⟩⟩;simp only[Instr.slice,Sem.run_bind,run_underlying ht,Result.andThen_ok,Option.map_none,Option.isSome_none,Aw,Bx,iC,Sem.run_pure];have hrun':(Instr.sliceBounds false s.length s.length (lo.map a.eval) (hh.map a.eval) none).run P w= .ok (l,h',s.length) w:=hrun;simp [hrun',aEZ]
theorem tY(hE:vD P){kt:TypeId}{k:AV}{K:Value}(hk:Rv P σ k K):∀ {m:List (AV×AV)} {es:List MapEntry} {i:Nat} {r:Option (Nat×AV)},rW P σ m es->tV (eqT P kt) k m i=some r->
  ∃R,(Instr.findAsking kt K es i).run P w= .ok R w/\(match r,R with
   | none,none=>True
   | some (j,v),some (j',V)=>j=j'/\Rv P σ v V
   | _,_=>False)
 | [],es,i,r,hm,h=>by
  simp only[tV,Al] at h;subst h;have hm:es= []:=hm;subst hm;exact⟨none,rfl,trivial⟩
 | (k',v)::m,es,i,r,hm,h=>by
  obtain⟨e,es',rfl,h1,h2,h3⟩:=hm;simp only[tV] at h;have⟨b,h4,h⟩:=aA h;have heq:(Op.equal kt K e.key).run P w= .ok b w:=(yW (w:=w) hE hk h1 h4).2 9998;cases b
  ·rw[aR] at h;have⟨R,h5,h6⟩:=tY hE hk h3 h;exact⟨R,by simp only[Instr.findAsking,Sem.run_bind,heq,Result.andThen_ok];exact h5,h6⟩
  ·rw[aN] at h;cases h;exact⟨some (i,e.val),by simp [Instr.findAsking,heq],rfl,h2⟩
end Go.Ev
namespace Go.Ev
variable {P:Program}{σ:Env}{S:St}{w:World}
def aF1(P:Program)(σ:Env):Option (Nat×AV)->Option (Nat×Value)->Prop
 | none,none=>True
 | some (j,v),some (j',V)=>j=j'/\Rv P σ v V
 | _,_=>False
theorem tC{d:TypeDesc}{e:EqP}(hd:(d= .string/\e= .str)\/((∃k,d= .int k)/\e= .int)){k:AV}{K:Value}(hk:Rv P σ k K):
  ∀ {m:List (AV×AV)} {es:List MapEntry} {i:Nat} {r:Option (Nat×AV)},rW P σ m es->tV (.p e) k m i=some r->∃R,Instr.findNow d K es i=some R/\aF1 P σ r R
 | [],es,i,r,hm,h=>by
  simp only[tV,Al] at h;subst h;have hm:es= []:=hm;subst hm;exact⟨none,rfl,trivial⟩
 | (k',v)::m,es,i,r,hm,h=>by
  obtain⟨x,es',rfl,h1,h2,h3⟩:=hm;simp only[tV] at h;have⟨b,h4,h⟩:=aA h;have h4:eqp e k k'=some b:=h4;have hs:Instr.sameNow d K x.key=some b:=by
   rcases hd with⟨rfl,rfl⟩ | ⟨⟨kk,rfl⟩,rfl⟩
   ·cases k<;>simp only[eqp,reduceCtorEq] at h4;cases k'<;>simp only[reduceCtorEq] at h4;simp only[Rv] at hk h1;obtain⟨rfl,ha⟩:=hk;have⟨hx,hc⟩:=h1;cases h4;rw[hx];simp only[Instr.sameNow];rw[beq_toListBytes,aCQ ha hc]
   ·cases k<;>simp only[eqp,reduceCtorEq] at h4;cases k'<;>simp only[reduceCtorEq] at h4;simp only[Rv] at hk h1;subst hk;have⟨h5,h6⟩:=bJ h4;have:=zZ h5;subst this;cases h6;rw[h1];simp [Instr.sameNow,nJ]
  cases b
  ·rw[aR] at h;have⟨R,h5,h6⟩:=tC hd hk h3 h;exact⟨R,by simp only[Instr.findNow,hs];exact h5,h6⟩
  ·rw[aN] at h;cases h;exact⟨some (i,x.val),by simp only[Instr.findNow,hs],rfl,h2⟩
theorem zV{kt:TypeId}{e:qM}(h:aBZ P kt=some e):(P.underlying kt=some .string/\e= .p .str)\/((∃k,P.underlying kt=some (.int k))/\e= .p .int)\/
  (e=eqT P kt/\((∃fs,P.underlying kt=some (.struct fs)/\fs.all (fun f=>plainKey (eqP P f.type))=true)\/(∃n el,P.underlying kt=some (.array n el)/\plainKey (eqP P el)=true))):=by
 unfold aBZ at h;split at h
 ·cases h;exact .inl ⟨‹_›,rfl⟩
 ·cases h;exact .inr (.inl ⟨⟨_, ‹_›⟩,rfl⟩)
 ·rename_i fs hu;split at h
  ·rename_i l hl;rw[Ba] at h;split at h
   ·rename_i hb;cases h;rw[Ct] at hb;exact .inr (.inr ⟨hl.symm,.inl ⟨fs,hu,hb.1⟩⟩)
   ·cases h
  ·cases h
 ·rename_i n el hu;split at h
  ·rename_i l hl;rw[Ba] at h;split at h
   ·rename_i hb;cases h;rw[Ct] at hb;exact .inr (.inr ⟨hl.symm,.inr ⟨n,el,hu,hb.1⟩⟩)
   ·cases h
  ·cases h
 ·cases h
theorem aCo{kt:TypeId}{l:List (Nat×EqP)}(h:aBZ P kt=some (.struct l)):aCb 0 l=true:=by
 unfold aBZ at h;split at h
 ·cases h
 ·cases h
 ·split at h
  ·rw[Ba] at h;split at h
   ·rename_i hb;cases h;rw[Ct] at hb;exact hb.2
   ·cases h
  ·cases h
 ·split at h
  ·rw[Ba] at h;split at h
   ·rename_i hb;cases h;rw[Ct] at hb;exact hb.2
   ·cases h
  ·cases h
 ·cases h
def aEm(P:Program):Prop:=∀ (σ:Env) (w:World) (kt:TypeId) (e:qM) (k:AV) (K:Value) (empty:Bool),aBZ P kt=some e->Rv P σ k K->
 (eqv e k k).isSome=true->(Instr.checkKey empty 10000 kt K).run P w= .ok () w
theorem zQ(hE:vD P){kt:TypeId}{e:qM}(hkt:aBZ P kt=some e){k:AV}{K:Value}(hk:Rv P σ k K){m:List (AV×AV)}{es:List MapEntry}{r:Option (Nat×AV)}(hm:rW P σ m es)
  (h:tV e k m 0=some r):∃R,(Instr.findKey kt K es).run P w= .ok R w/\aF1 P σ r R:=by
 rcases zV hkt with⟨hu,rfl⟩ | ⟨⟨j,hu⟩,rfl⟩ | ⟨rfl,hu⟩
 ·have⟨R,h1,h2⟩:=tC (d:=.string) (.inl ⟨rfl,rfl⟩) hk hm h;exact⟨R,by simp [Instr.findKey,run_underlying hu,h1],h2⟩
 ·have⟨R,h1,h2⟩:=tC (d:=.int j) (.inr ⟨⟨j,rfl⟩,rfl⟩) hk hm h;exact⟨R,by simp [Instr.findKey,run_underlying hu,h1],h2⟩
 ·have⟨R,h1,h2⟩:=tY (w:=w) hE hk hm h;have h2':aF1 P σ r R:=by
   cases r<;>cases R<;>first | exact h2 | trivial
  have hd:∃d,P.underlying kt=some d/\∀X Y,Instr.sameNow d X Y=none:=by
   rcases hu with⟨fs,hu,_⟩ | ⟨n,el,hu,_⟩
   ·exact⟨_,hu,fun X Y=>rfl⟩
   ·exact⟨_,hu,fun X Y=>rfl⟩
  have⟨d,hd,hs⟩:=hd;cases es with
  | nil=>
   refine⟨none,by simp [Instr.findKey,run_underlying hd,Instr.findNow],?_⟩;simp [Instr.findAsking] at h1;subst h1;exact h2'
  | cons x es=>
   refine⟨R,?_,h2'⟩;simp only[Instr.findKey,Sem.run_bind,run_underlying hd,Result.andThen_ok,Instr.findNow,hs];exact h1
theorem xD{kt:TypeId}(h:P.underlying kt=some .string\/∃j,P.underlying kt=some (.int j))(K:Value)(empty:Bool):(Instr.checkKey empty 10000 kt K).run P w= .ok () w:=by
 show(Instr.checkKey empty (9999+1) kt K).run P w= .ok () w;generalize 9999=n;rcases h with h | ⟨j,h⟩<;>simp [Instr.checkKey,run_underlying h]
theorem aDT{m:AV}{M:Value}{es:List (AV×AV)}(hR:kT P σ S w)(hm:Rv P σ m M)(h:tX S.h m=some es):
  ∃ms:Array MapEntry,rW P σ es ms.toList/\((M= .map none/\ms= #[])\/∃r c,M= .map (some r)/\w.heap[r]? =some (.map ms c)):=by
 cases m<;>simp only[tX,reduceCtorEq] at h<;>simp only[Rv] at hm
 ·obtain⟨L,hL,rfl⟩:=hm;have⟨bl,h1,h2⟩:=aA h;cases bl<;>simp only[zU,reduceCtorEq,Al] at h2;subst h2;have⟨L',hL',_,ms,c,h3,h4⟩:=hR.blk _ _ h1;rw[hL] at hL';cases hL';exact⟨ms,h4,.inr ⟨L.r,c,rfl,h3⟩⟩
 ·cases h;subst hm;exact⟨#[],rfl,.inl ⟨rfl,rfl⟩⟩
theorem uV{ok:Bool}{v:AV}{V:Value}{b:Bool}(h:Rv P σ v V):Rv P σ (aEH ok v b) (if ok=true then .tuple #[V,.bool b] else V):=by
 unfold aEH;cases ok
 ·exact h
 ·rw[aN,if_pos rfl];simp only[Rv];exact⟨_,rfl,cS.2 ⟨_,_,rfl,h,cS.2 ⟨_,_,rfl,by simp only[Rv],cT.2 rfl⟩⟩⟩
theorem aCh{e:qM}{k:AV}{es:List (AV×AV)}{r:Option (Nat×AV)}(h:aAC e k es=some r):(eqv e k k).isSome=true/\tV e k es 0=some r:=by
 have⟨b,h1,h2⟩:=aA h;exact⟨by rw[h1];rfl,h2⟩
theorem aCl{r:Option (Nat×AV)}{R:Option (Nat×Value)}{z v:AV}{ok:Bool}{Z:Value}(hzr:Rv P σ z Z)(hR:aF1 P σ r R)(h:wF r z ok=some v):
  (R=none/\Rv P σ v (if ok=true then .tuple #[Z,.bool false] else Z))\/∃j V,R=some (j,V)/\Rv P σ v (if ok=true then .tuple #[V,.bool true] else V):=by
 cases r with
 | none=>
  cases R with
  | none=>
   simp only[wF,Al] at h;subst h;exact .inl ⟨rfl,uV hzr⟩
  | some x=>exact hR.elim
 | some x=>
  cases R with
  | none=>exact hR.elim
  | some y=>
   simp only[wF,Al] at h;subst h;exact .inr ⟨y.1,y.2,rfl,uV hR.2⟩
theorem aG4(hE:vD P)(hK:aEm P){t kt et:TypeId}{e:qM}{z:AV}{ok:Bool}(ht:P.underlying t=some (.map kt et))(hkt:aBZ P kt=some e)(hz:aD1 P et=some z)
  {m k:AV} {M K:Value} (hR:kT P σ S w) (hm:Rv P σ m M) (hk:Rv P σ k K) {v:AV} (h:(aU (tX S.h m) fun es=>aU (aAC e k es) fun r=>wF r z ok)=some v):
  ∃V,(Instr.lookup t M K ok).run P w= .ok V w/\Rv P σ v V:=by
 have⟨es,h1,h⟩:=aA h;have⟨r,h2,h⟩:=aA h;have⟨hself,h2⟩:=aCh h2;have⟨ms,h3,h4⟩:=aDT hR hm h1;have⟨R,h5,h6⟩:=zQ (w:=w) hE hkt hk h3 h2;have⟨i,Z,hi,hZ,hzr⟩:=aAo (σ:=σ) hz;have hck:∀empty,(Instr.checkKey empty 10000 kt K).run P w= .ok () w:=fun empty=>hK σ w kt e k K empty hkt hk hself;have hz0:(zeroValue et).run P w= .ok Z w:=uM hi hZ;rcases h4 with⟨rfl,rfl⟩ | ⟨r',c,rfl,hc⟩
 ·have h5:(Instr.findKey kt K []).run P w= .ok R w:=h5;rcases aCl hzr h6 h with⟨rfl,h8⟩ | ⟨j,V,rfl,h8⟩
  ·refine⟨_,?_,h8⟩;simp only[Instr.lookup,Sem.run_bind,run_underlying ht,Result.andThen_ok,Sem.run_pure,hck,h5,hz0]
  ·refine⟨_,?_,h8⟩;simp only[Instr.lookup,Sem.run_bind,run_underlying ht,Result.andThen_ok,Sem.run_pure,hck,h5]
 ·have hg:(getObj r').run P w= .ok (.map ms c) w:=by simp [getObj,Sem.run,hc]
  rcases aCl hzr h6 h with⟨rfl,h8⟩ | ⟨j,V,rfl,h8⟩
  ·refine⟨_,?_,h8⟩;simp only[Instr.lookup,Sem.run_bind,run_underlying ht,Result.andThen_ok,hg,Sem.run_pure,hck,h5,hz0]
  ·refine⟨_,?_,h8⟩;simp only[Instr.lookup,Sem.run_bind,run_underlying ht,Result.andThen_ok,hg,Sem.run_pure,hck,h5]
end Go.Ev
namespace Go.Ev
variable {P:Program}{σ:Env}{S:St}{w:World}
def aHr(P:Program):Prop:=∀ (σ:Env) (w:World) (n:String) (tbl:List (Nat×Nat×Option (Bool×Nat))) (v v':AV) (t:TypeId) (V:Value),tbl=gO P n P.types.toList 0->Rv P σ v (.iface t V)->
 aHR n tbl v=some v'->(nilAhead (P.types.size+Made.depth) t V n).run P w= .ok (some false) w
structure tZ(P:Program):Prop where
 eq:vD P
 key:aEm P
 mth:aHr P
theorem aGH(hA:tZ P){x v:AV}{X:Value}{o:Oper}{a:Act}{xo:Operand}(ho:o.op= .nilCheck xo)(he:a.eval xo=X)(hx:Rv P σ x X)(h:sP x=some v):
  ∃V,(execOp a.eval o).run P w= .ok (.value V) w/\Rv P σ v V:=by
 cases x<;>simp only[sP,reduceCtorEq,Al] at h
 case ptr=>
  subst h;have hx':=hx;simp only[Rv] at hx';obtain⟨L,hL,rfl⟩:=hx';exact⟨_,by simp only[execOp,ho,he];rfl,hx⟩
 case fn=>
  subst h;have hx':=hx;simp only[Rv] at hx';obtain⟨A,B,rfl,_⟩:=hx';exact⟨_,by simp only[execOp,ho,he];rfl,hx⟩
 case yld=>
  subst h;have hx':=hx;simp only[Rv] at hx';obtain⟨L,hL,rfl⟩:=hx';exact⟨_,by simp only[execOp,ho,he];rfl,hx⟩
 case iface=>
  subst h;have hx':=hx;simp only[Rv] at hx';obtain⟨W,rfl,_⟩:=hx';exact⟨_,by simp only[execOp,ho,he];rfl,hx⟩
 case mth n tbl u=>
  have hx':=hx;simp only[Rv] at hx';obtain⟨W,rfl,htbl,hu⟩:=hx';have hv:v= .mth n tbl u:=by
   unfold aHR at h;split at h
   ·have⟨r,_,h⟩:=aA h;split at h
    ·cases h;rfl
    ·cases h;rfl
    ·cases h
   ·cases h
  have hW:∃t V,W= .iface t V:=by
   unfold aHR at h;split at h
   ·simp only[Rv] at hu;obtain⟨V,rfl,_⟩:=hu;exact⟨_,V,rfl⟩
   ·cases h
  obtain⟨t,V,rfl⟩:=hW;have hn:=hA.mth σ w n tbl u v t V htbl hu h;refine⟨.func (.method n) #[.iface t V] #[],?_,by rw[hv];exact hx⟩;simp only[execOp,ho,he];simp [hn]
theorem aE1{x v z:AV}{X:Value}{xt t:TypeId}{ok:Bool}{d:TypeDesc}(ht:P.underlying t=some d)(hd:∀m,d≠ .interface m)(hz:aD1 P t=some z)(hx:Rv P σ x X)(h:xZ x t z ok=some v):
  ∃V,(Instr.typeAssert X xt t ok).run P w= .ok V w/\Rv P σ v V:=by
 have⟨i,Z,hi,hZ,hzr⟩:=aAo (σ:=σ) hz;have hz0:(zeroValue t).run P w= .ok Z w:=uM hi hZ;have hfail:∀v',(.tup [z,.bool false]:AV)=v'->Rv P σ v' (.tuple #[Z,.bool false]):=fun v' hv=>by
  subst hv;simp only[Rv];exact⟨_,rfl,cS.2 ⟨_,_,rfl,hzr,cS.2 ⟨_,_,rfl,by simp only[Rv],cT.2 rfl⟩⟩⟩
 cases x<;>simp only[xZ,reduceCtorEq] at h<;>simp only[Rv] at hx
 ·obtain⟨W,rfl,hW⟩:=hx;rename_i t' u;rw[bQ] at h;split at h
  ·rename_i he;rw[Az] at he;subst he;cases h;refine⟨if ok=true then .tuple #[W,.bool true] else W,?_,uV hW⟩;cases d<;>first | (exact absurd rfl (hd _)) | simp [Instr.typeAssert,run_underlying ht]
  ·rename_i he;rw[Az] at he;have⟨h1,h2⟩:=bJ h;subst h1;cases h2;refine⟨.tuple #[Z,.bool false],?_,hfail _ rfl⟩;have hne:¬ (t'=t):=fun e=>he e.symm;cases d<;>first | (exact absurd rfl (hd _)) | simp [Instr.typeAssert,run_underlying ht,hne,hz0]
 ·subst hx;have⟨h1,h2⟩:=bJ h;subst h1;cases h2;refine⟨.tuple #[Z,.bool false],?_,hfail _ rfl⟩;cases d<;>first | (exact absurd rfl (hd _)) | simp [Instr.typeAssert,run_underlying ht,hz0]
theorem aFz:∀ {xs:bo} {Xs:List Value} {x v:AV} {X:Value},iD P σ xs Xs->Rv P σ x X->mA true xs x=some v->∃V,(Xs.foldlM Builtin.max2 X).run P w= .ok V w/\Rv P σ v V
 | [],Xs,x,v,X,hxs,hx,h=>by
  rw[cT] at hxs;subst hxs;simp only[mA,Al] at h;subst h;exact⟨X,rfl,hx⟩
 | y::xs,Xs,x,v,X,hxs,hx,h=>by
  rw[cS] at hxs;obtain⟨Y,Ys,rfl,hY,hYs⟩:=hxs;unfold mA at h;split at h
  ·rename_i e;cases e
  ·rename_i k' b vs k a e;cases e;have⟨h1,h2⟩:=bJ h;simp only[Rv] at hY hx;subst hY;subst hx;have:=zZ h1;subst this;have⟨V,h3,h4⟩:=aFz (X:=.int k (if b>a then b else a)) hYs (by
    simp only[Rv,aN];rw[bQ,rK];simp only[decide_eq_true_eq];congr 1;split<;>split<;>omega) h2
   exact⟨V,by rw[List.foldlM_cons];simp only[Sem.run_bind,Builtin.max2,Sem.run_pure,Result.andThen_ok];exact h3,h4⟩
  ·cases h
theorem aFj:∀ {xs:bo} {Xs:List Value} {x v:AV} {X:Value},iD P σ xs Xs->Rv P σ x X->mA false xs x=some v->∃V,(Xs.foldlM Builtin.min2 X).run P w= .ok V w/\Rv P σ v V
 | [],Xs,x,v,X,hxs,hx,h=>by
  rw[cT] at hxs;subst hxs;simp only[mA,Al] at h;subst h;exact⟨X,rfl,hx⟩
 | y::xs,Xs,x,v,X,hxs,hx,h=>by
  rw[cS] at hxs;obtain⟨Y,Ys,rfl,hY,hYs⟩:=hxs;unfold mA at h;split at h
  ·rename_i e;cases e
  ·rename_i k' b vs k a e;cases e;have⟨h1,h2⟩:=bJ h;simp only[Rv] at hY hx;subst hY;subst hx;have:=zZ h1;subst this;have⟨V,h3,h4⟩:=aFj (X:=.int k (if b<a then b else a)) hYs (by
    simp only[Rv,aR];rw[bQ,rK];simp only[decide_eq_true_eq];congr 1;split<;>split<;>omega) h2
   exact⟨V,by rw[List.foldlM_cons];simp only[Sem.run_bind,Builtin.min2,Sem.run_pure,Result.andThen_ok];exact h3,h4⟩
  ·cases h
theorem aIx{t ty:TypeId}{e:TypeId}(ht:P.underlying t=some (.slice e)){x v:AV}{X:Value}(hx:Rv P σ x X)(h:lB x=some v):∃V,(Builtin.len_ #[t] ty #[X]).run P w= .ok V w/\Rv P σ v V:=by
 cases x<;>simp only[lB,reduceCtorEq,Al] at h<;>subst h<;>simp only[Rv] at hx
 ·obtain⟨L,_,rfl⟩:=hx;exact⟨_,by simp [Builtin.len_,run_underlying ht];rfl,by simp only[Rv];rfl⟩
 ·subst hx;exact⟨_,by simp [Builtin.len_,run_underlying ht];rfl,by simp only[Rv];rfl⟩
 ·obtain⟨A,c,rfl⟩:=hx;exact⟨_,by simp [Builtin.len_,run_underlying ht];rfl,by simp only[Rv];rfl⟩
theorem aGd{t ty:TypeId}(ht:P.underlying t=some .string){x v:AV}{X:Value}(hx:Rv P σ x X)(h:aA1 x=some v):∃V,(Builtin.len_ #[t] ty #[X]).run P w= .ok V w/\Rv P σ v V:=by
 cases x<;>simp only[aA1,reduceCtorEq,Al] at h<;>subst h<;>simp only[Rv] at hx;obtain⟨rfl,_⟩:=hx;refine⟨_,by simp [Builtin.len_,run_underlying ht];rfl,?_⟩;simp only[Rv,eR,iC];rfl
theorem aIu{t ty:TypeId}{e:TypeId}(ht:P.underlying t=some (.slice e)){x v:AV}{X:Value}(hx:Rv P σ x X)(h:aDv x=some v):∃V,(Builtin.cap_ #[t] ty #[X]).run P w= .ok V w/\Rv P σ v V:=by
 unfold aDv at h;split at h
 ·cases h;simp only[Rv] at hx;subst hx;exact⟨_,by simp [Builtin.cap_,run_underlying ht];rfl,by simp only[Rv];rfl⟩
 ·cases h;simp only[Rv] at hx;obtain⟨L,_,rfl⟩:=hx;exact⟨_,by simp [Builtin.cap_,run_underlying ht];rfl,by simp only[Rv];rfl⟩
 ·cases h
theorem rW.length:∀ {m:List (AV×AV)} {es:List MapEntry},rW P σ m es->es.length=m.length
 | [],es,h=>by have h:es= []:=h;subst h;rfl
 | _::m,es,h=>by obtain⟨e,es',rfl,_,_,h⟩:=h;simp [h.length]
theorem aFX{t ty kt et:TypeId}(ht:P.underlying t=some (.map kt et))(hR:kT P σ S w){x:AV}{X:Value}{es:List (AV×AV)}(hx:Rv P σ x X)(h:tX S.h x=some es):
  ∃V,(Builtin.len_ #[t] ty #[X]).run P w= .ok V w/\Rv P σ (.int .i64 (.ofNat (kL es))) V:=by
 have⟨ms,h3,h4⟩:=aDT hR hx h;have hl:=h3.length;rcases h4 with⟨rfl,rfl⟩ | ⟨r,c,rfl,hc⟩
 ·refine⟨_,by simp [Builtin.len_,run_underlying ht];rfl,?_⟩;simp only[Rv,eR,<-hl];rfl
 ·have hg:(getObj r).run P w= .ok (.map ms c) w:=by simp [getObj,Sem.run,hc]
  refine⟨_,by simp [Builtin.len_,run_underlying ht,hg];rfl,?_⟩;simp only[Rv,eR,<-hl];simp [goInt]
end Go.Ev
namespace Go.Ev
variable {P:Program}{σ:Env}{S:St}{w:World}
theorem cL{o:Option QOp}{r:AOp}(h:q o=some r):∃x,o=some x/\r= .q x:=by
 cases o with
 | none=>cases h
 | some x=>cases h;exact⟨x,rfl,rfl⟩
theorem kG{o:Option wS}{r:AOp}(h:al o=some r):∃x,o=some x/\r= .a x:=by
 cases o with
 | none=>cases h
 | some x=>cases h;exact⟨x,rfl,rfl⟩
theorem fM{o:Option XOp}{r:AOp}(h:xx o=some r):∃x,o=some x/\r= .x x:=by
 cases o with
 | none=>cases h
 | some x=>cases h;exact⟨x,rfl,rfl⟩
theorem aT{α β:Type}{o:Option α}{f:α->Option β}{r:β}(h:(o >>=f)=some r):∃a,o=some a/\f a=some r:=by
 cases o with
 | none=>cases h
 | some a=>exact⟨a,rfl,h⟩
theorem aAA{P:Program}{b:Builtin}{as:List Operand}{ts:List TypeId}{op:AOp}(h:aNl P b as ts=some op):b= .copy/\∃d s t u e i D So,as= [d,s]/\ts= [t,u]/\mG P t=some (e,i)/\fD P d=some D/\fD P s=some So/\op= .x (.copy i.size D So):=by
 cases b<;>simp only[aNl,reduceCtorEq] at h;split at h
 ·rename_i d s t u;split at h
  ·rename_i e i he;have⟨y,h1,h2⟩:=fM h;have⟨D,hD,h1⟩:=aT h1;have⟨So,hS,h1⟩:=aT h1;cases h1;exact⟨rfl,d,s,t,u,e,i,D,So,rfl,rfl,he,hD,hS,h2⟩
  ·cases h
 ·cases h
theorem aFO(hA:tZ P){o:Oper}{qo:QOp}(hc:qK P o.op=some (.q qo)){F:Fr}{a:Act}(hF:pV P σ F a.tmps)(hR:kT P σ S w){v:AV}(hv:iT qo F S.h=some v):
  ∃V,(execOp a.eval o).run P w= .ok (.value V) w/\Rv P σ v V:=by
 have lift:∀ {s:Sem Value},execOp a.eval o=(do pure (.value (<-s)))->(∃V,s.run P w= .ok V w/\Rv P σ v V)->∃V,(execOp a.eval o).run P w= .ok (.value V) w/\Rv P σ v V:=by
  rintro s he ⟨V,h1,h2⟩;exact⟨V,by rw[he];simp [h1],h2⟩
 have⟨dst,op,type,pos,after,guard⟩:=o;simp only at hc;cases op with
 | move x=>
  have⟨y,h1,h2⟩:=cL hc;cases h2;have⟨X,hX,h1⟩:=aT h1;cases h1;cases hv;exact⟨_,rfl,bM hF hR hX⟩
 | assign x=>
  have⟨y,h1,h2⟩:=cL hc;cases h2;have⟨X,hX,h1⟩:=aT h1;cases h1;cases hv;exact⟨_,rfl,bM hF hR hX⟩
 | pick c x y=>
  have⟨z,h1,h2⟩:=cL hc;cases h2;have⟨C,hC,h1⟩:=aT h1;have⟨X,hX,h1⟩:=aT h1;have⟨Y,hY,h1⟩:=aT h1;cases h1;exact aI4 (bM hF hR hC) (bM hF hR hX) (bM hF hR hY) hv
 | alloc t=>have⟨y,_,h2⟩:=kG hc;cases h2
 | box t x=>have⟨y,_,h2⟩:=kG hc;cases h2
 | build t ps=>
  simp only[qK] at hc;split at hc
  ·rename_i fs hu;rw[Ba] at hc;split at hc
   ·rename_i hk;have⟨y,h1,h2⟩:=cL hc;cases h2;have⟨z,hz,h1⟩:=aT h1;have⟨qs,hq,h1⟩:=aT h1;cases h1;have⟨cs,h3,h4⟩:=aA (show(aU (eQ z (fG F qs)) fun cs=>some (.agg cs))=some v from hv);cases h4;exact lift rfl (aAD hF hR hu hk hz hq h3)
   ·cases hc
  ·rename_i n e hu;have⟨y,h1,h2⟩:=cL hc;cases h2;have⟨i,hi,h1⟩:=aT h1;have⟨z,hz,h1⟩:=aT h1;have⟨qs,hq,h1⟩:=aT h1;cases h1;have⟨cs,h3,h4⟩:=aA (show(aU (eQ z (fG F qs)) fun cs=>some (.agg cs))=some v from hv);cases h4;exact lift rfl (aA0 hF hR hu hi hz hq h3)
  ·cases hc
 | buildSlice t n ps=>have⟨y,_,h2⟩:=kG hc;cases h2
 | insert t m k x=>
  simp only[qK] at hc;split at hc
  ·have⟨y,_,h2⟩:=fM hc;cases h2
  ·cases hc
 | load t x=>
  have⟨y,h1,h2⟩:=cL hc;cases h2;have⟨⟨agg,n⟩,hag,h1⟩:=aT h1;have⟨X,hX,h1⟩:=aT h1;cases h1;exact lift rfl (aMw hag hR (bM hF hR hX) hv)
 | store t x y=>
  have⟨y,_,h2⟩:=fM hc;cases h2
 | ready g=>cases hc
 | waits g=>cases hc
 | nilCheck x=>
  have⟨y,h1,h2⟩:=cL hc;cases h2;have⟨X,hX,h1⟩:=aT h1;cases h1;exact aGH hA rfl rfl (bM hF hR hX) hv
 | binOp op t x y t'=>
  have⟨z,h1,h2⟩:=cL hc;cases h2;have⟨X,hX,h1⟩:=aT h1;have⟨Y,hY,h1⟩:=aT h1;cases h1;exact lift rfl (aMs hA.eq (bM hF hR hX) (bM hF hR hY) hv)
 | unOp op t x=>
  have⟨z,h1,h2⟩:=cL hc;cases h2;have⟨X,hX,h1⟩:=aT h1;cases h1;exact lift rfl (aMV (bM hF hR hX) hv)
 | convert src dst x=>
  simp only[qK] at hc;split at hc
  ·rename_i k j hs hd;have⟨z,h1,h2⟩:=cL hc;cases h2;have⟨X,hX,h1⟩:=aT h1;cases h1;exact lift rfl (vM hR (bM hF hR hX) hv ⟨⟨_,hs⟩,hd⟩)
  ·rename_i hs hd;have⟨z,h1,h2⟩:=cL hc;cases h2;have⟨X,hX,h1⟩:=aT h1;cases h1;exact lift rfl (vM hR (bM hF hR hX) hv ⟨hs,hd⟩)
  ·rename_i k hs hd;have⟨z,h1,h2⟩:=cL hc;cases h2;have⟨X,hX,h1⟩:=aT h1;cases h1;exact lift rfl (vM hR (bM hF hR hX) hv ⟨⟨_,hs⟩,hd⟩)
  ·rename_i e hs hd;split at hc
   ·rename_i he;have⟨z,h1,h2⟩:=cL hc;cases h2;have⟨X,hX,h1⟩:=aT h1;cases h1;exact lift rfl (vM hR (bM hF hR hX) hv ⟨e,hs,he,hd⟩)
   ·cases hc
  ·split at hc
   ·have⟨y,_,h2⟩:=kG hc;cases h2
   ·cases hc
  ·cases hc
 | sliceToArrayPointer t x=>cases hc
 | makeInterface t x=>
  simp only[qK] at hc;split at hc
  ·cases hc
  ·rename_i d hni hu;have⟨z,h1,h2⟩:=cL hc;cases h2;have⟨X,hX,h1⟩:=aT h1;cases h1;cases hv;refine lift rfl ⟨.iface t (a.eval x),?_,by simp only[Rv];exact⟨_,rfl,bM hF hR hX⟩⟩;simp only[Instr.makeInterface,Sem.run_bind,run_underlying hu,Result.andThen_ok];cases d<;>first | rfl | (exact absurd hu (by simpa using hni _))
  ·cases hc
 | makeFunc fn first cap=>
  cases fn with
  | func f=>
   have⟨z,h1,h2⟩:=cL hc;cases h2;have⟨X,hX,h1⟩:=aT h1;have⟨Y,hY,h1⟩:=aT h1;cases h1;cases hv;refine lift rfl ⟨_,rfl,?_⟩;simp only[Rv];refine⟨(first.map a.eval).toList,(cap.map a.eval).toList,rfl,?_,?_⟩
   ·rw[Em];exact lL hF hR hX
   ·rw[Em];exact lL hF hR hY
  | method name=>
   simp only[qK] at hc;split at hc
   ·rename_i x hx hy;have⟨z,h1,h2⟩:=cL hc;cases h2;have⟨X,hX,h1⟩:=aT h1;cases h1;cases hv;refine lift rfl ⟨_,rfl,?_⟩;simp only[Rv];refine⟨a.eval x,?_,trivial,bM hF hR hX⟩;congr 1
    ·apply Ga;rw[Em,hx];rfl
    ·apply Ga;rw[Em,hy];rfl
   ·cases hc
  | methodOf t name=>cases hc
  | via t path f p=>cases hc
  | yield l=>cases hc
 | makeMap t r=>cases r<;>simp only[qK,reduceCtorEq] at hc;have⟨y,_,h2⟩:=kG hc;cases h2
 | makeChan t x=>cases hc
 | makeSlice t l c=>have⟨y,_,h2⟩:=kG hc;cases h2
 | slice t x lo hh mx=>
  simp only[qK,Ba] at hc;split at hc
  ·cases hc
  ·rename_i hguard;have hhm:mx.isSome=true->hh.isSome=true:=fun hm=>by
    cases hh with
    | none=>simp [hm] at hguard
    | some _=>rfl
   split at hc
   ·rename_i hu;have⟨z,h1,h2⟩:=cL hc;cases h2;have⟨X,hX,h1⟩:=aT h1;have⟨Lo,hLo,h1⟩:=aT h1;have⟨Hi,hHi,h1⟩:=aT h1;have⟨Mx,hMx,h1⟩:=aT h1;cases h1;have hv:oS .str (X.val F) Lo Hi Mx F=some v:=hv;have hx:=bM hF hR hX;generalize X.val F=xv at hv hx;cases xv<;>simp only[oS,reduceCtorEq] at hv;refine lift rfl ?_;have:=aIy hu hF hR hLo hHi hMx hx hv;have⟨V,h3,h4⟩:=this;exact⟨V,by simp only[Instr.sliceAt,Sem.run_bind,run_underlying hu,Result.andThen_ok];exact h3,h4⟩
   ·rename_i e hu;have⟨z,h1,h2⟩:=cL hc;cases h2;have⟨i,hi,h1⟩:=aT h1;have⟨X,hX,h1⟩:=aT h1;have⟨Lo,hLo,h1⟩:=aT h1;have⟨Hi,hHi,h1⟩:=aT h1;have⟨Mx,hMx,h1⟩:=aT h1;cases h1;have hv:oS (.slice i.size) (X.val F) Lo Hi Mx F=some v:=hv;have hx:=bM hF hR hX;generalize X.val F=xv at hv hx;cases xv<;>simp only[oS,reduceCtorEq] at hv
    ·refine lift rfl ?_;have⟨V,h3,h4⟩:=aJA hu hi hF hR hLo hHi hMx hhm hx hv;exact⟨V,by simp only[Instr.sliceAt,Sem.run_bind,run_underlying hu,Result.andThen_ok];exact h3,h4⟩
    ·refine lift rfl ?_;have⟨V,h3,h4⟩:=aHL hu hi hF hR hLo hHi hMx hhm hx hv;exact⟨V,by simp only[Instr.sliceAt,Sem.run_bind,run_underlying hu,Result.andThen_ok];exact h3,h4⟩
    ·refine lift rfl ?_;have⟨V,h3,h4⟩:=aHu hu hi hF hR hLo hHi hMx hhm hx hv;exact⟨V,by simp only[Instr.sliceAt,Sem.run_bind,run_underlying hu,Result.andThen_ok];exact h3,h4⟩
   ·rename_i n e hu;have⟨z,h1,h2⟩:=cL hc;cases h2;have⟨i,hi,h1⟩:=aT h1;have⟨X,hX,h1⟩:=aT h1;have⟨Lo,hLo,h1⟩:=aT h1;have⟨Hi,hHi,h1⟩:=aT h1;have⟨Mx,hMx,h1⟩:=aT h1;cases h1;have hv:oS (.arr n i.size) (X.val F) Lo Hi Mx F=some v:=hv;have hx:=bM hF hR hX;generalize X.val F=xv at hv hx;cases xv<;>simp only[oS,reduceCtorEq] at hv;exact lift rfl (aHg hu hi hF hR hLo hHi hMx hhm hx hv)
   ·cases hc
 | fieldAddr t x f=>
  simp only[qK] at hc;split at hc
  ·rename_i fs hu;have⟨z,h1,h2⟩:=cL hc;cases h2;have⟨fd,hf,h1⟩:=aT h1;have⟨i,hi,h1⟩:=aT h1;split at h1
   ·cases h1
   ·rename_i h0;have⟨X,hX,h1⟩:=aT h1;cases h1;exact lift rfl (aHP hu hf hi h0 (bM hF hR hX) hv)
  ·cases hc
 | field t x f=>
  simp only[qK] at hc;split at hc
  ·rename_i fs hu;have⟨z,h1,h2⟩:=cL hc;cases h2;have⟨fd,hf,h1⟩:=aT h1;have⟨⟨agg,n⟩,hag,h1⟩:=aT h1;have⟨X,hX,h1⟩:=aT h1;cases h1;exact lift rfl (aL1 hu hf hag (bM hF hR hX) hv)
  ·cases hc
 | indexAddr t x ix=>
  simp only[qK] at hc;split at hc
  ·rename_i e hu;have⟨z,h1,h2⟩:=cL hc;cases h2;have⟨i,hi,h1⟩:=aT h1;have⟨X,hX,h1⟩:=aT h1;have⟨I,hI,h1⟩:=aT h1;cases h1;have⟨j,h3,h4⟩:=aA (show(aU (dS (I.val F)) fun j=>dT (.slice i.size) (X.val F) j)=some v from hv);have⟨k,hk⟩:=nM h3;have hi':=bM hF hR hI;rw[hk] at hi';simp only[Rv] at hi';exact lift rfl (aDE hu hi (bM hF hR hX) hi' h4)
  ·rename_i n e hu;have⟨z,h1,h2⟩:=cL hc;cases h2;have⟨i,hi,h1⟩:=aT h1;have⟨X,hX,h1⟩:=aT h1;have⟨I,hI,h1⟩:=aT h1;cases h1;have⟨j,h3,h4⟩:=aA (show(aU (dS (I.val F)) fun j=>dT (.arr n i.size) (X.val F) j)=some v from hv);have⟨k,hk⟩:=nM h3;have hi':=bM hF hR hI;rw[hk] at hi';simp only[Rv] at hi';exact lift rfl (aCI hu hi (bM hF hR hX) hi' h4)
  ·cases hc
 | index t x ix=>
  simp only[qK] at hc;split at hc
  ·rename_i hu;have⟨z,h1,h2⟩:=cL hc;cases h2;have⟨X,hX,h1⟩:=aT h1;have⟨I,hI,h1⟩:=aT h1;cases h1;have⟨j,h3,h4⟩:=aA (show(aU (dS (I.val F)) fun j=>yZ (X.val F) j)=some v from hv);have⟨k,hk⟩:=nM h3;have hi':=bM hF hR hI;rw[hk] at hi';simp only[Rv] at hi';exact lift rfl (aFV hu (bM hF hR hX) hi' h4)
  ·rename_i n e hu;have⟨z,h1,h2⟩:=cL hc;cases h2;have⟨⟨agg,s⟩,hag,h1⟩:=aT h1;have⟨X,hX,h1⟩:=aT h1;have⟨I,hI,h1⟩:=aT h1;cases h1;have⟨j,h3,h4⟩:=aA (show(aU (dS (I.val F)) fun j=>yS (X.val F) agg n s j)=some v from hv);have⟨k,hk⟩:=nM h3;have hi':=bM hF hR hI;rw[hk] at hi';simp only[Rv] at hi';exact lift rfl (aGt hu hag (bM hF hR hX) hi' h4)
  ·cases hc
 | lookup t m k ok=>
  simp only[qK] at hc;split at hc
  ·rename_i kt et hu;have⟨z,h1,h2⟩:=cL hc;cases h2;have⟨e,he,h1⟩:=aT h1;have⟨zv,hz,h1⟩:=aT h1;have⟨M,hM,h1⟩:=aT h1;have⟨K,hK,h1⟩:=aT h1;cases h1;exact lift rfl (aG4 hA.eq hA.key hu he hz hR (bM hF hR hM) (bM hF hR hK) hv)
  ·cases hc
 | mapUpdate t m k x=>
  simp only[qK] at hc;split at hc
  ·have⟨y,_,h2⟩:=fM hc;cases h2
  ·cases hc
 | mapEntry t m k=>cases hc
 | entryStore t m s x=>cases hc
 | range t x=>cases hc
 | next x b=>cases hc
 | entry x=>cases hc
 | typeAssert x xt t ok=>
  simp only[qK] at hc;split at hc
  ·cases hc
  ·rename_i d hni hu;have⟨z,h1,h2⟩:=cL hc;cases h2;have⟨zv,hz,h1⟩:=aT h1;have⟨X,hX,h1⟩:=aT h1;cases h1;exact lift rfl (aE1 hu (fun m e=>by subst e;exact hni m rfl) hz (bM hF hR hX) hv)
  ·cases hc
 | extract x i=>
  have⟨z,h1,h2⟩:=cL hc;cases h2;have⟨X,hX,h1⟩:=aT h1;cases h1;exact lift rfl (aEV (bM hF hR hX) hv)
 | call c=>
  have⟨callee,args,argTypes⟩:=c;cases callee with
  | value f=>
   simp only[qK] at hc;split at hc
   ·have⟨y,_,h2⟩:=fM hc;cases h2
   ·have⟨y,_,h2⟩:=fM hc;cases h2
  | invoke r m=>have⟨y,_,h2⟩:=fM hc;cases h2
  | builtin b=>
   have arr:∀ {α:Type} {x:Array α} {l:List α},x.toList=l->x=l.toArray:=fun h=>by apply Ga;rw[h]
   simp only[qK] at hc;split at hc
   ·rename_i x t hx ht;have:=arr hx;subst this;have:=arr ht;subst this;split at hc
    ·rename_i hu;have⟨z,h1,h2⟩:=cL hc;cases h2;have⟨X,hX,h1⟩:=aT h1;cases h1;exact lift (s:=Builtin.len_ #[t] type #[a.eval x]) (by simp [execOp,resolve,invoke,builtin]) (aGd hu (bM hF hR hX) hv)
    ·rename_i e hu;have⟨z,h1,h2⟩:=cL hc;cases h2;have⟨X,hX,h1⟩:=aT h1;cases h1;exact lift (s:=Builtin.len_ #[t] type #[a.eval x]) (by simp [execOp,resolve,invoke,builtin]) (aIx hu (bM hF hR hX) hv)
    ·rename_i n e hu;have⟨z,h1,h2⟩:=cL hc;cases h2;cases h1;cases hv;refine lift (s:=Builtin.len_ #[t] type #[a.eval x]) (by simp [execOp,resolve,invoke,builtin]) ⟨goInt n,?_,by simp only[Rv];rfl⟩;simp [Builtin.len_,run_underlying hu]
    ·rename_i kt et hu;have⟨z,h1,h2⟩:=cL hc;cases h2;have⟨X,hX,h1⟩:=aT h1;cases h1;have⟨es,h3,h4⟩:=aA (show(aU (tX S.h (X.val F)) fun es=>some (.int .i64 (.ofNat (kL es))))=some v from hv);cases h4;exact lift (s:=Builtin.len_ #[t] type #[a.eval x]) (by simp [execOp,resolve,invoke,builtin]) (aFX hu hR (bM hF hR hX) h3)
    ·cases hc
   ·rename_i x t hx ht;have:=arr hx;subst this;have:=arr ht;subst this;split at hc
    ·rename_i e hu;have⟨z,h1,h2⟩:=cL hc;cases h2;have⟨X,hX,h1⟩:=aT h1;cases h1;exact lift (s:=Builtin.cap_ #[t] type #[a.eval x]) (by simp [execOp,resolve,invoke,builtin]) (aIu hu (bM hF hR hX) hv)
    ·cases hc
   ·have⟨z,h1,h2⟩:=cL hc;cases h2;have⟨Xs,hXs,h1⟩:=aT h1;cases h1;have hxs:=lL hF hR hXs;have hv:pI true (dE Xs F)=some v:=hv;refine lift (s:=Builtin.max_ argTypes type (args.map a.eval)) rfl ?_;unfold Builtin.max_;rw[Em];cases hvl:dE Xs F with
    | nil=>rw[hvl] at hv;simp [pI] at hv
    | cons u us=>
     rw[hvl] at hv hxs;rw[cS] at hxs;have⟨U,Us,he,hU,hUs⟩:=hxs;rw[he];exact aFz hUs hU hv
   ·have⟨z,h1,h2⟩:=cL hc;cases h2;have⟨Xs,hXs,h1⟩:=aT h1;cases h1;have hxs:=lL hF hR hXs;have hv:pI false (dE Xs F)=some v:=hv;refine lift (s:=Builtin.min_ argTypes type (args.map a.eval)) rfl ?_;unfold Builtin.min_;rw[Em];cases hvl:dE Xs F with
    | nil=>rw[hvl] at hv;simp [pI] at hv
    | cons u us=>
     rw[hvl] at hv hxs;rw[cS] at hxs;have⟨U,Us,he,hU,hUs⟩:=hxs;rw[he];exact aFj hUs hU hv
   ·split at hc
    ·rw[Ba] at hc;split at hc
     ·have⟨y,_,h2⟩:=fM hc;cases h2
     ·cases hc
    ·cases hc
   ·split at hc
    ·have⟨y,_,h2⟩:=fM hc;cases h2
    ·cases hc
   ·have⟨_,_,_,_,_,_,_,_,_,_,_,_,_,_,h2⟩:=aAA hc;cases h2
 | go c=>cases hc
 | defer c=>cases hc
 | panic x=>cases hc
 | send x y=>cases hc
 | recv t x b=>cases hc
 | select cs b=>cases hc
end Go.Ev
