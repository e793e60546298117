import Derived.Test.YtkklchgmpejobaaGreatDoorEv3
namespace Go.Ev
variable {P:Program}{σ:Env}{S:St}{w:World}
theorem addr_add(r o n:Nat):(⟨r,o,none⟩:Addr).add n=⟨r,o+n,none⟩:=Addr.add_mid r o n
theorem aHQ{t e:TypeId}{i:TypeInfo}(ht:P.underlying t=some (.slice e))(hi:P.info? e=some i){F:Fr}{a:Act}(hF:oU P σ F a.tmps)(hR:jM P σ S w)
  {b off len cap:Nat} {o:Bool} {lo hh mx:Option Operand} {Lo Hi Mx:Option cK} (hlo:lC P lo=some Lo) (hhi:lC P hh=some Hi) (hmx:lC P mx=some Mx)
  (hhm:mx.isSome=true→hh.isSome=true) {X:Value} (hx:Rv P σ (.sl b off len cap o) X) {v:AV} (h:aIg i.size b off len cap o Lo Hi Mx F=some v):
  ∃V,(Instr.slice t X (lo.map a.eval) (hh.map a.eval) (mx.map a.eval)).run P w= .ok V w∧Rv P σ v V:=by
 simp only[Rv] at hx;obtain⟨L,hL,rfl⟩:=hx;obtain⟨x,hb,h⟩:=aJ h;have hnone:=aBU hmx;have h6:=(qZ hb).2.2.2;cases o with
 | false=>
  have hrun:=kS (e:=0) (isSlice:=true) hF hR hlo hhi hmx hhm hb;simp only[Bs,ite_self,aQ] at hrun h;simp only[Cr,Ax];rw[cF] at h;split at h
  ·rename_i he;rw[Bb] at he;cases h;refine⟨_,by simp [Instr.slice,run_underlying ht,hrun,sizeOf,typeInfo,hi,he];rfl,?_⟩;simp only[Rv];exact⟨L,hL,by simp [he]⟩
  ·rename_i he;rw[Bb] at he;cases h;refine⟨.slice (some ⟨L.r,L.d+off+x.1 * i.size,none⟩) (x.2.1 - x.1) (x.2.2 - x.1),by simp [Instr.slice,run_underlying ht,hrun,sizeOf,typeInfo,hi,he,addr_add],?_⟩;simp only[Rv];exact⟨L,hL,by simp [Cv]⟩
 | true=>
  have hrun:=kS (e:=L.e) (isSlice:=true) hF hR hlo hhi hmx hhm hb;simp only[aL,hnone] at h;simp only[Ed];cases hm:mx.isNone
  ·rw[hm] at h hrun;simp only[Cr,Ax,aQ] at hrun h;rw[cF] at h;split at h
   ·rename_i he;rw[Bb] at he;cases h;refine⟨_,by simp [Instr.slice,run_underlying ht,hrun,sizeOf,typeInfo,hi,he];rfl,?_⟩;simp only[Rv];exact⟨L,hL,by simp [he]⟩
   ·rename_i he;rw[Bb] at he;cases h;refine⟨.slice (some ⟨L.r,L.d+off+x.1 * i.size,none⟩) (x.2.1 - x.1) (x.2.2 - x.1),by simp [Instr.slice,run_underlying ht,hrun,sizeOf,typeInfo,hi,he,addr_add],?_⟩;simp only[Rv];exact⟨L,hL,by simp [Cv]⟩
  ·rw[hm] at h hrun;simp only[Ed,aL] at hrun h;rw[cF] at h;split at h
   ·rename_i he;rw[Bb] at he;cases h;have hlen:x.2.1 - x.1=0:=by omega
    simp only[Instr.slice,Sem.run_bind,run_underlying ht,Result.andThen_ok,hrun,sizeOf,typeInfo,run_program,hi,Sem.run_pure,hlen];by_cases h0:x.2.2+L.e=x.1
    ·exact⟨_,by rw[if_pos h0],by simp only[Rv];exact⟨_,_,rfl⟩⟩
    ·exact⟨_,by rw[if_neg h0],by simp only[Rv];exact⟨_,_,rfl⟩⟩
   ·rename_i he;rw[Bb] at he;cases h;have h0:¬ (x.2.2+L.e=x.1):=by omega
    refine⟨.slice (some ⟨L.r,L.d+off+x.1 * i.size,none⟩) (x.2.1 - x.1) (x.2.2+L.e - x.1),by simp [Instr.slice,run_underlying ht,hrun,sizeOf,typeInfo,hi,h0,addr_add],?_⟩;simp only[Rv];refine⟨L,hL,?_⟩;simp only[Ed,Cv];congr 1;omega
theorem aGE{t e:TypeId}{i:TypeInfo}(ht:P.underlying t=some (.slice e))(hi:P.info? e=some i){F:Fr}{a:Act}(hF:oU P σ F a.tmps)(hR:jM P σ S w)
  {lo hh mx:Option Operand} {Lo Hi Mx:Option cK} (hlo:lC P lo=some Lo) (hhi:lC P hh=some Hi) (hmx:lC P mx=some Mx)
  (hhm:mx.isSome=true→hh.isSome=true) {X:Value} (hx:Rv P σ .emp X) {v:AV} (h:aMY Lo Hi Mx F=some v):
  ∃V,(Instr.slice t X (lo.map a.eval) (hh.map a.eval) (mx.map a.eval)).run P w= .ok V w∧Rv P σ v V:=by
 simp only[Rv] at hx;obtain⟨A,c,rfl⟩:=hx;obtain⟨x,hb,h⟩:=aJ h;cases h;have h6:=(qZ hb).2.2.2;have hrun:=kS (e:=c) (isSlice:=true) hF hR hlo hhi hmx hhm hb;simp only[Ao] at hrun;have h1:x.1=0:=by omega
 have h2:x.2.1=0:=by omega
 simp only[Instr.slice,Sem.run_bind,run_underlying ht,Result.andThen_ok,hrun,sizeOf,typeInfo,run_program,hi,Sem.run_pure,h1,h2,Ey,Cu];refine⟨_,rfl,?_⟩;simp only[Rv,Fu,Addr.add_zero',ite_self];exact⟨A,_,rfl⟩
theorem aG9{t e:TypeId}{i:TypeInfo}(ht:P.underlying t=some (.slice e))(hi:P.info? e=some i){F:Fr}{a:Act}(hF:oU P σ F a.tmps)(hR:jM P σ S w)
  {lo hh mx:Option Operand} {Lo Hi Mx:Option cK} (hlo:lC P lo=some Lo) (hhi:lC P hh=some Hi) (hmx:lC P mx=some Mx)
  (hhm:mx.isSome=true→hh.isSome=true) {X:Value} (hx:Rv P σ .nilsl X) {v:AV} (h:aM4 Lo Hi Mx F=some v):
  ∃V,(Instr.slice t X (lo.map a.eval) (hh.map a.eval) (mx.map a.eval)).run P w= .ok V w∧Rv P σ v V:=by
 simp only[Rv] at hx;subst hx;obtain⟨x,hb,h⟩:=aJ h;cases h;have h6:=(qZ hb).2.2.2;have hrun:=kS (e:=0) (isSlice:=true) hF hR hlo hhi hmx hhm hb;simp only[Bs,ite_self] at hrun;have h1:x.1=0:=by omega
 have h2:x.2.1=0:=by omega
 have h3:x.2.2=0:=by omega
 simp only[Instr.slice,Sem.run_bind,run_underlying ht,Result.andThen_ok,hrun,sizeOf,typeInfo,run_program,hi,Sem.run_pure,h1,h2,h3,Ed,Cu];exact⟨_,rfl,by simp only[Rv]⟩
theorem aHD{t e:TypeId}{n:Nat}{i:TypeInfo}(ht:P.underlying t=some (.array n e))(hi:P.info? e=some i){F:Fr}{a:Act}(hF:oU P σ F a.tmps)(hR:jM P σ S w)
  {b off:Nat} {lo hh mx:Option Operand} {Lo Hi Mx:Option cK} (hlo:lC P lo=some Lo) (hhi:lC P hh=some Hi) (hmx:lC P mx=some Mx)
  (hhm:mx.isSome=true→hh.isSome=true) {X:Value} (hx:Rv P σ (.ptr b off) X) {v:AV} (h:aJw n i.size b off Lo Hi Mx F=some v):
  ∃V,(Instr.sliceAt t X (lo.map a.eval) (hh.map a.eval) (mx.map a.eval)).run P w= .ok V w∧Rv P σ v V:=by
 simp only[Rv] at hx;obtain⟨L,hL,rfl⟩:=hx;obtain⟨x,hb,h⟩:=aJ h;have hrun:=kS (e:=0) (isSlice:=false) hF hR hlo hhi hmx hhm hb;simp only[Bs,ite_self] at hrun;rw[cF] at h;split at h
 ·rename_i he;rw[Bb] at he;cases h;refine⟨_,by simp [Instr.sliceAt,run_underlying ht,Instr.sureAddr,hrun,sizeOf,typeInfo,hi,he];rfl,?_⟩;simp only[Rv];exact⟨L,hL,by simp [he]⟩
 ·rename_i he;rw[Bb] at he;cases h;refine⟨.slice (some ⟨L.r,L.d+off+x.1 * i.size,none⟩) (x.2.1 - x.1) (x.2.2 - x.1),by simp [Instr.sliceAt,run_underlying ht,Instr.sureAddr,hrun,sizeOf,typeInfo,hi,he,addr_add],?_⟩;simp only[Rv];exact⟨L,hL,by simp [Cv]⟩
theorem aEa(s:List Nat)(l h:Nat):(dE s).extract l h=dE ((s.drop l).take (h - l)):=by
 apply ByteArray.ext;rw[ByteArray.data_extract];simp [dE,List.extract_eq_take_drop]
theorem aGQ{t:TypeId}(ht:P.underlying t=some .string){F:Fr}{a:Act}(hF:oU P σ F a.tmps)(hR:jM P σ S w)
  {s:List Nat} {lo hh mx:Option Operand} {Lo Hi Mx:Option cK} (hlo:lC P lo=some Lo) (hhi:lC P hh=some Hi) (hmx:lC P mx=some Mx)
  {X:Value} (hx:Rv P σ (.str s) X) {v:AV} (h:aDV s Lo Hi Mx F=some v):
  ∃V,(Instr.slice t X (lo.map a.eval) (hh.map a.eval) (mx.map a.eval)).run P w= .ok V w∧Rv P σ v V:=by
 simp only[Rv] at hx;obtain⟨rfl,hb⟩:=hx;cases Mx with
 | some _=>simp [aDV] at h
 | none=>
  have hmn:mx=none:=by cases mx with | none=>rfl | some m=>have:=aBU hmx;simp at this
  subst hmn;simp only[aDV] at h;obtain⟨h',h1,h⟩:=aJ h;obtain⟨l,h2,h⟩:=aJ h;obtain⟨h3,h⟩:=bR h;obtain⟨h4,h⟩:=bR h;obtain⟨r,h5,h⟩:=aJ h;cases h;rw[dO] at h1 h3;have hbd:jS s.length s.length Lo Hi none F=some (l,h',s.length):=by
   unfold jS;rw[show iR F s.length none=some s.length from rfl,aK,h1,aK,h2,aK,h3,h4,Nat.ble_self_eq_true];rfl
  have hrun:=kS (e:=0) (isSlice:=false) hF hR hlo hhi hmx (by simp) hbd;simp only[Bs,ite_self] at hrun;obtain⟨rfl,_⟩:=aGO h5;refine⟨.string (dE ((s.drop l).take (h' - l))),?_,by simp only[Rv];exact⟨trivial,fun x hx=>hb x (Ep (Dm hx))⟩⟩;simp only[Instr.slice,Sem.run_bind,run_underlying ht,Result.andThen_ok,Option.map_none,Fq,Ax,Cr,gH,Sem.run_pure];have hrun':(Instr.sliceBounds false s.length s.length (lo.map a.eval) (hh.map a.eval) none).run P w= .ok (l,h',s.length) w:=hrun;simp [hrun',aEa]
theorem sR(hE:uP P){kt:TypeId}{k:AV}{K:Value}(hk:Rv P σ k K):∀ {m:List (AV×AV)} {es:List MapEntry} {i:Nat} {r:Option (Nat×AV)},qW P σ m es→qS (eqT P kt) k m i=some r→
  ∃R,(Instr.findAsking kt K es i).run P w= .ok R w∧(match r,R with
   | none,none=>True
   | some (j,v),some (j',V)=>j=j'∧Rv P σ v V
   | _,_=>False)
 | [],es,i,r,hm,h=>by
  simp only[qS,Al] at h;subst h;have hm:es= []:=hm;subst hm;exact⟨none,rfl,trivial⟩
 | (k',v)::m,es,i,r,hm,h=>by
  obtain⟨e,es',rfl,h1,h2,h3⟩:=hm;simp only[qS] at h;obtain⟨b,h4,h⟩:=aJ h;have heq:(Op.equal kt K e.key).run P w= .ok b w:=(xK (w:=w) hE hk h1 h4).2 9998;cases b
  ·rw[aQ] at h;obtain⟨R,h5,h6⟩:=sR hE hk h3 h;exact⟨R,by simp only[Instr.findAsking,Sem.run_bind,heq,Result.andThen_ok];exact h5,h6⟩
  ·rw[aL] at h;cases h;exact⟨some (i,e.val),by simp [Instr.findAsking,heq],rfl,h2⟩
end Go.Ev
namespace Go.Ev
variable {P:Program}{σ:Env}{S:St}{w:World}
def aFs(P:Program)(σ:Env):Option (Nat×AV)→Option (Nat×Value)→Prop
 | none,none=>True
 | some (j,v),some (j',V)=>j=j'∧Rv P σ v V
 | _,_=>False
theorem rN{d:TypeDesc}{e:EqP}(hd:(d= .string∧e= .str)∨((∃k,d= .int k)∧e= .int)){k:AV}{K:Value}(hk:Rv P σ k K):
  ∀ {m:List (AV×AV)} {es:List MapEntry} {i:Nat} {r:Option (Nat×AV)},qW P σ m es→qS (.p e) k m i=some r→∃R,Instr.findNow d K es i=some R∧aFs P σ r R
 | [],es,i,r,hm,h=>by
  simp only[qS,Al] at h;subst h;have hm:es= []:=hm;subst hm;exact⟨none,rfl,trivial⟩
 | (k',v)::m,es,i,r,hm,h=>by
  obtain⟨x,es',rfl,h1,h2,h3⟩:=hm;simp only[qS] at h;obtain⟨b,h4,h⟩:=aJ h;have h4:zU e k k'=some b:=h4;have hs:Instr.sameNow d K x.key=some b:=by
   rcases hd with⟨rfl,rfl⟩ | ⟨⟨kk,rfl⟩,rfl⟩
   ·cases k<;>simp only[zU,reduceCtorEq] at h4;cases k'<;>simp only[reduceCtorEq] at h4;simp only[Rv] at hk h1;obtain⟨rfl,ha⟩:=hk;obtain⟨hx,hc⟩:=h1;cases h4;rw[hx];simp only[Instr.sameNow];rw[beq_toListBytes,aCl ha hc]
   ·cases k<;>simp only[zU,reduceCtorEq] at h4;cases k'<;>simp only[reduceCtorEq] at h4;simp only[Rv] at hk h1;subst hk;obtain⟨h5,h6⟩:=bR h4;have:=yI h5;subst this;cases h6;rw[h1];simp [Instr.sameNow,lG]
  cases b
  ·rw[aQ] at h;obtain⟨R,h5,h6⟩:=rN hd hk h3 h;exact⟨R,by simp only[Instr.findNow,hs];exact h5,h6⟩
  ·rw[aL] at h;cases h;exact⟨some (i,x.val),by simp only[Instr.findNow,hs],rfl,h2⟩
theorem zK{kt:TypeId}{e:oO}(h:aBq P kt=some e):(P.underlying kt=some .string∧e= .p .str)∨((∃k,P.underlying kt=some (.int k))∧e= .p .int)∨
  (e=eqT P kt∧((∃fs,P.underlying kt=some (.struct fs)∧fs.all (fun f=>plainKey (eqP P f.type))=true)∨(∃n el,P.underlying kt=some (.array n el)∧plainKey (eqP P el)=true))):=by
 unfold aBq at h;split at h
 ·cases h;exact .inl ⟨‹_›,rfl⟩
 ·cases h;exact .inr (.inl ⟨⟨_, ‹_›⟩,rfl⟩)
 ·rename_i fs hu;split at h
  ·rename_i l hl;rw[Bc] at h;split at h
   ·rename_i hb;cases h;rw[Ce] at hb;exact .inr (.inr ⟨hl.symm,.inl ⟨fs,hu,hb.1⟩⟩)
   ·cases h
  ·cases h
 ·rename_i n el hu;split at h
  ·rename_i l hl;rw[Bc] at h;split at h
   ·rename_i hb;cases h;rw[Ce] at hb;exact .inr (.inr ⟨hl.symm,.inr ⟨n,el,hu,hb.1⟩⟩)
   ·cases h
  ·cases h
 ·cases h
theorem aB5{kt:TypeId}{l:List (Nat×EqP)}(h:aBq P kt=some (.struct l)):aAW 0 l=true:=by
 unfold aBq at h;split at h
 ·cases h
 ·cases h
 ·split at h
  ·rw[Bc] at h;split at h
   ·rename_i hb;cases h;rw[Ce] at hb;exact hb.2
   ·cases h
  ·cases h
 ·split at h
  ·rw[Bc] at h;split at h
   ·rename_i hb;cases h;rw[Ce] at hb;exact hb.2
   ·cases h
  ·cases h
 ·cases h
def aDR(P:Program):Prop:=∀ (σ:Env) (w:World) (kt:TypeId) (e:oO) (k:AV) (K:Value) (empty:Bool),aBq P kt=some e→Rv P σ k K→
 (eqv e k k).isSome=true→(Instr.checkKey empty 10000 kt K).run P w= .ok () w
theorem xZ(hE:uP P){kt:TypeId}{e:oO}(hkt:aBq P kt=some e){k:AV}{K:Value}(hk:Rv P σ k K){m:List (AV×AV)}{es:List MapEntry}{r:Option (Nat×AV)}(hm:qW P σ m es)
  (h:qS e k m 0=some r):∃R,(Instr.findKey kt K es).run P w= .ok R w∧aFs P σ r R:=by
 rcases zK hkt with⟨hu,rfl⟩ | ⟨⟨j,hu⟩,rfl⟩ | ⟨rfl,hu⟩
 ·obtain⟨R,h1,h2⟩:=rN (d:=.string) (.inl ⟨rfl,rfl⟩) hk hm h;exact⟨R,by simp [Instr.findKey,run_underlying hu,h1],h2⟩
 ·obtain⟨R,h1,h2⟩:=rN (d:=.int j) (.inr ⟨⟨j,rfl⟩,rfl⟩) hk hm h;exact⟨R,by simp [Instr.findKey,run_underlying hu,h1],h2⟩
 ·obtain⟨R,h1,h2⟩:=sR (w:=w) hE hk hm h;have h2':aFs P σ r R:=by
   cases r<;>cases R<;>first | exact h2 | trivial
  have hd:∃d,P.underlying kt=some d∧∀X Y,Instr.sameNow d X Y=none:=by
   rcases hu with⟨fs,hu,_⟩ | ⟨n,el,hu,_⟩
   ·exact⟨_,hu,fun X Y=>rfl⟩
   ·exact⟨_,hu,fun X Y=>rfl⟩
  obtain⟨d,hd,hs⟩:=hd;cases es with
  | nil=>
   refine⟨none,by simp [Instr.findKey,run_underlying hd,Instr.findNow],?_⟩;simp [Instr.findAsking] at h1;subst h1;exact h2'
  | cons x es=>
   refine⟨R,?_,h2'⟩;simp only[Instr.findKey,Sem.run_bind,run_underlying hd,Result.andThen_ok,Instr.findNow,hs];exact h1
theorem vW{kt:TypeId}(h:P.underlying kt=some .string∨∃j,P.underlying kt=some (.int j))(K:Value)(empty:Bool):(Instr.checkKey empty 10000 kt K).run P w= .ok () w:=by
 show(Instr.checkKey empty (9999+1) kt K).run P w= .ok () w;generalize 9999=n;rcases h with h | ⟨j,h⟩<;>simp [Instr.checkKey,run_underlying h]
theorem aCA{m:AV}{M:Value}{es:List (AV×AV)}(hR:jM P σ S w)(hm:Rv P σ m M)(h:pT S.h m=some es):
  ∃ms:Array MapEntry,qW P σ es ms.toList∧((M= .map none∧ms= #[])∨∃r c,M= .map (some r)∧w.heap[r]? =some (.map ms c)):=by
 cases m<;>simp only[pT,reduceCtorEq] at h<;>simp only[Rv] at hm
 ·obtain⟨L,hL,rfl⟩:=hm;obtain⟨bl,h1,h2⟩:=aJ h;cases bl<;>simp only[rT,reduceCtorEq,Al] at h2;subst h2;obtain⟨L',hL',_,ms,c,h3,h4⟩:=hR.blk _ _ h1;rw[hL] at hL';cases hL';exact⟨ms,h4,.inr ⟨L.r,c,rfl,h3⟩⟩
 ·cases h;subst hm;exact⟨#[],rfl,.inl ⟨rfl,rfl⟩⟩
theorem vB{ok:Bool}{v:AV}{V:Value}{b:Bool}(h:Rv P σ v V):Rv P σ (aDj ok v b) (if ok=true then .tuple #[V,.bool b] else V):=by
 unfold aDj;cases ok
 ·exact h
 ·rw[aL,if_pos rfl];simp only[Rv];exact⟨_,rfl,cJ.2 ⟨_,_,rfl,h,cJ.2 ⟨_,_,rfl,by simp only[Rv],cO.2 rfl⟩⟩⟩
theorem aBG{e:oO}{k:AV}{es:List (AV×AV)}{r:Option (Nat×AV)}(h:oS e k es=some r):(eqv e k k).isSome=true∧qS e k es 0=some r:=by
 obtain⟨b,h1,h2⟩:=aJ h;exact⟨by rw[h1];rfl,h2⟩
theorem aB4{r:Option (Nat×AV)}{R:Option (Nat×Value)}{z v:AV}{ok:Bool}{Z:Value}(hzr:Rv P σ z Z)(hR:aFs P σ r R)(h:pD r z ok=some v):
  (R=none∧Rv P σ v (if ok=true then .tuple #[Z,.bool false] else Z))∨∃j V,R=some (j,V)∧Rv P σ v (if ok=true then .tuple #[V,.bool true] else V):=by
 cases r with
 | none=>
  cases R with
  | none=>
   simp only[pD,Al] at h;subst h;exact .inl ⟨rfl,vB hzr⟩
  | some x=>exact hR.elim
 | some x=>
  cases R with
  | none=>exact hR.elim
  | some y=>
   simp only[pD,Al] at h;subst h;exact .inr ⟨y.1,y.2,rfl,vB hR.2⟩
theorem aFE(hE:uP P)(hK:aDR P){t kt et:TypeId}{e:oO}{z:AV}{ok:Bool}(ht:P.underlying t=some (.map kt et))(hkt:aBq P kt=some e)(hz:aCI P et=some z)
  {m k:AV} {M K:Value} (hR:jM P σ S w) (hm:Rv P σ m M) (hk:Rv P σ k K) {v:AV} (h:(aX (pT S.h m) fun es=>aX (oS e k es) fun r=>pD r z ok)=some v):
  ∃V,(Instr.lookup t M K ok).run P w= .ok V w∧Rv P σ v V:=by
 obtain⟨es,h1,h⟩:=aJ h;obtain⟨r,h2,h⟩:=aJ h;obtain⟨hself,h2⟩:=aBG h2;obtain⟨ms,h3,h4⟩:=aCA hR hm h1;obtain⟨R,h5,h6⟩:=xZ (w:=w) hE hkt hk h3 h2;obtain⟨i,Z,hi,hZ,hzr⟩:=yM (σ:=σ) hz;have hck:∀empty,(Instr.checkKey empty 10000 kt K).run P w= .ok () w:=fun empty=>hK σ w kt e k K empty hkt hk hself;have hz0:(zeroValue et).run P w= .ok Z w:=sO hi hZ;rcases h4 with⟨rfl,rfl⟩ | ⟨r',c,rfl,hc⟩
 ·have h5:(Instr.findKey kt K []).run P w= .ok R w:=h5;rcases aB4 hzr h6 h with⟨rfl,h8⟩ | ⟨j,V,rfl,h8⟩
  ·refine⟨_,?_,h8⟩;simp only[Instr.lookup,Sem.run_bind,run_underlying ht,Result.andThen_ok,Sem.run_pure,hck,h5,hz0]
  ·refine⟨_,?_,h8⟩;simp only[Instr.lookup,Sem.run_bind,run_underlying ht,Result.andThen_ok,Sem.run_pure,hck,h5]
 ·have hg:(getObj r').run P w= .ok (.map ms c) w:=by simp [getObj,Sem.run,hc]
  rcases aB4 hzr h6 h with⟨rfl,h8⟩ | ⟨j,V,rfl,h8⟩
  ·refine⟨_,?_,h8⟩;simp only[Instr.lookup,Sem.run_bind,run_underlying ht,Result.andThen_ok,hg,Sem.run_pure,hck,h5,hz0]
  ·refine⟨_,?_,h8⟩;simp only[Instr.lookup,Sem.run_bind,run_underlying ht,Result.andThen_ok,hg,Sem.run_pure,hck,h5]
end Go.Ev
namespace Go.Ev
variable {P:Program}{σ:Env}{S:St}{w:World}
def aGK(P:Program):Prop:=∀ (σ:Env) (w:World) (n:String) (tbl:List (Nat×Nat×Option (Bool×Nat))) (v v':AV) (t:TypeId) (V:Value),tbl=gF P n P.types.toList 0→Rv P σ v (.iface t V)→
 aGm n tbl v=some v'→(nilAhead (P.types.size+Made.depth) t V n).run P w= .ok (some false) w
structure yF(P:Program):Prop where
 eq:uP P
 key:aDR P
 mth:aGK P
theorem aFK(hA:yF P){x v:AV}{X:Value}{o:Oper}{a:Act}{xo:Operand}(ho:o.op= .nilCheck xo)(he:a.eval xo=X)(hx:Rv P σ x X)(h:uY x=some v):
  ∃V,(execOp a.eval o).run P w= .ok (.value V) w∧Rv P σ v V:=by
 cases x<;>simp only[uY,reduceCtorEq,Al] at h
 case ptr=>
  subst h;have hx':=hx;simp only[Rv] at hx';obtain⟨L,hL,rfl⟩:=hx';exact⟨_,by simp only[execOp,ho,he];rfl,hx⟩
 case fn=>
  subst h;have hx':=hx;simp only[Rv] at hx';obtain⟨A,B,rfl,_⟩:=hx';exact⟨_,by simp only[execOp,ho,he];rfl,hx⟩
 case yld=>
  subst h;have hx':=hx;simp only[Rv] at hx';obtain⟨L,hL,rfl⟩:=hx';exact⟨_,by simp only[execOp,ho,he];rfl,hx⟩
 case iface=>
  subst h;have hx':=hx;simp only[Rv] at hx';obtain⟨W,rfl,_⟩:=hx';exact⟨_,by simp only[execOp,ho,he];rfl,hx⟩
 case mth n tbl u=>
  have hx':=hx;simp only[Rv] at hx';obtain⟨W,rfl,htbl,hu⟩:=hx';have hv:v= .mth n tbl u:=by
   unfold aGm at h;split at h
   ·obtain⟨r,_,h⟩:=aJ h;split at h
    ·cases h;rfl
    ·cases h;rfl
    ·cases h
   ·cases h
  have hW:∃t V,W= .iface t V:=by
   unfold aGm at h;split at h
   ·simp only[Rv] at hu;obtain⟨V,rfl,_⟩:=hu;exact⟨_,V,rfl⟩
   ·cases h
  obtain⟨t,V,rfl⟩:=hW;have hn:=hA.mth σ w n tbl u v t V htbl hu h;refine⟨.func (.method n) #[.iface t V] #[],?_,by rw[hv];exact hx⟩;simp only[execOp,ho,he];simp [hn]
theorem aD1{x v z:AV}{X:Value}{xt t:TypeId}{ok:Bool}{d:TypeDesc}(ht:P.underlying t=some d)(hd:∀m,d≠ .interface m)(hz:aCI P t=some z)(hx:Rv P σ x X)(h:vN x t z ok=some v):
  ∃V,(Instr.typeAssert X xt t ok).run P w= .ok V w∧Rv P σ v V:=by
 obtain⟨i,Z,hi,hZ,hzr⟩:=yM (σ:=σ) hz;have hz0:(zeroValue t).run P w= .ok Z w:=sO hi hZ;have hfail:∀v',(.tup [z,.bool false]:AV)=v'→Rv P σ v' (.tuple #[Z,.bool false]):=fun v' hv=>by
  subst hv;simp only[Rv];exact⟨_,rfl,cJ.2 ⟨_,_,rfl,hzr,cJ.2 ⟨_,_,rfl,by simp only[Rv],cO.2 rfl⟩⟩⟩
 cases x<;>simp only[vN,reduceCtorEq] at h<;>simp only[Rv] at hx
 ·obtain⟨W,rfl,hW⟩:=hx;rename_i t' u;rw[cF] at h;split at h
  ·rename_i he;rw[Bb] at he;subst he;cases h;refine⟨if ok=true then .tuple #[W,.bool true] else W,?_,vB hW⟩;cases d<;>first | (exact absurd rfl (hd _)) | simp [Instr.typeAssert,run_underlying ht]
  ·rename_i he;rw[Bb] at he;obtain⟨h1,h2⟩:=bR h;subst h1;cases h2;refine⟨.tuple #[Z,.bool false],?_,hfail _ rfl⟩;have hne:¬ (t'=t):=fun e=>he e.symm;cases d<;>first | (exact absurd rfl (hd _)) | simp [Instr.typeAssert,run_underlying ht,hne,hz0]
 ·subst hx;obtain⟨h1,h2⟩:=bR h;subst h1;cases h2;refine⟨.tuple #[Z,.bool false],?_,hfail _ rfl⟩;cases d<;>first | (exact absurd rfl (hd _)) | simp [Instr.typeAssert,run_underlying ht,hz0]
theorem aEh:∀ {xs:List AV} {Xs:List Value} {x v:AV} {X:Value},gO P σ xs Xs→Rv P σ x X→jO true xs x=some v→∃V,(Xs.foldlM Builtin.max2 X).run P w= .ok V w∧Rv P σ v V
 | [],Xs,x,v,X,hxs,hx,h=>by
  rw[cO] at hxs;subst hxs;simp only[jO,Al] at h;subst h;exact⟨X,rfl,hx⟩
 | y::xs,Xs,x,v,X,hxs,hx,h=>by
  rw[cJ] at hxs;obtain⟨Y,Ys,rfl,hY,hYs⟩:=hxs;unfold jO at h;split at h
  ·rename_i e;cases e
  ·rename_i k' b vs k a e;cases e;obtain⟨h1,h2⟩:=bR h;simp only[Rv] at hY hx;subst hY;subst hx;have:=yI h1;subst this;obtain⟨V,h3,h4⟩:=aEh (X:=.int k (if b>a then b else a)) hYs (by
    simp only[Rv,aL];rw[cF,oR];simp only[Fx];congr 1;split<;>split<;>omega) h2
   exact⟨V,by rw[List.foldlM_cons];simp only[Sem.run_bind,Builtin.max2,Sem.run_pure,Result.andThen_ok];exact h3,h4⟩
  ·cases h
theorem aET:∀ {xs:List AV} {Xs:List Value} {x v:AV} {X:Value},gO P σ xs Xs→Rv P σ x X→jO false xs x=some v→∃V,(Xs.foldlM Builtin.min2 X).run P w= .ok V w∧Rv P σ v V
 | [],Xs,x,v,X,hxs,hx,h=>by
  rw[cO] at hxs;subst hxs;simp only[jO,Al] at h;subst h;exact⟨X,rfl,hx⟩
 | y::xs,Xs,x,v,X,hxs,hx,h=>by
  rw[cJ] at hxs;obtain⟨Y,Ys,rfl,hY,hYs⟩:=hxs;unfold jO at h;split at h
  ·rename_i e;cases e
  ·rename_i k' b vs k a e;cases e;obtain⟨h1,h2⟩:=bR h;simp only[Rv] at hY hx;subst hY;subst hx;have:=yI h1;subst this;obtain⟨V,h3,h4⟩:=aET (X:=.int k (if b<a then b else a)) hYs (by
    simp only[Rv,aQ];rw[cF,oR];simp only[Fx];congr 1;split<;>split<;>omega) h2
   exact⟨V,by rw[List.foldlM_cons];simp only[Sem.run_bind,Builtin.min2,Sem.run_pure,Result.andThen_ok];exact h3,h4⟩
  ·cases h
theorem aHm{t ty:TypeId}{e:TypeId}(ht:P.underlying t=some (.slice e)){x v:AV}{X:Value}(hx:Rv P σ x X)(h:lH x=some v):∃V,(Builtin.len_ #[t] ty #[X]).run P w= .ok V w∧Rv P σ v V:=by
 cases x<;>simp only[lH,reduceCtorEq,Al] at h<;>subst h<;>simp only[Rv] at hx
 ·obtain⟨L,_,rfl⟩:=hx;exact⟨_,by simp [Builtin.len_,run_underlying ht];rfl,by simp only[Rv];rfl⟩
 ·subst hx;exact⟨_,by simp [Builtin.len_,run_underlying ht];rfl,by simp only[Rv];rfl⟩
 ·obtain⟨A,c,rfl⟩:=hx;exact⟨_,by simp [Builtin.len_,run_underlying ht];rfl,by simp only[Rv];rfl⟩
theorem aFJ{t ty:TypeId}(ht:P.underlying t=some .string){x v:AV}{X:Value}(hx:Rv P σ x X)(h:aAe x=some v):∃V,(Builtin.len_ #[t] ty #[X]).run P w= .ok V w∧Rv P σ v V:=by
 cases x<;>simp only[aAe,reduceCtorEq,Al] at h<;>subst h<;>simp only[Rv] at hx;obtain⟨rfl,_⟩:=hx;refine⟨_,by simp [Builtin.len_,run_underlying ht];rfl,?_⟩;simp only[Rv,dO,gH];rfl
theorem aGV{t ty:TypeId}{e:TypeId}(ht:P.underlying t=some (.slice e)){x v:AV}{X:Value}(hx:Rv P σ x X)(h:aC1 x=some v):∃V,(Builtin.cap_ #[t] ty #[X]).run P w= .ok V w∧Rv P σ v V:=by
 unfold aC1 at h;split at h
 ·cases h;simp only[Rv] at hx;subst hx;exact⟨_,by simp [Builtin.cap_,run_underlying ht];rfl,by simp only[Rv];rfl⟩
 ·cases h;simp only[Rv] at hx;obtain⟨L,_,rfl⟩:=hx;exact⟨_,by simp [Builtin.cap_,run_underlying ht];rfl,by simp only[Rv];rfl⟩
 ·cases h
theorem qW.length:∀ {m:List (AV×AV)} {es:List MapEntry},qW P σ m es→es.length=m.length
 | [],es,h=>by have h:es= []:=h;subst h;rfl
 | _::m,es,h=>by obtain⟨e,es',rfl,_,_,h⟩:=h;simp [h.length]
theorem aFr{t ty kt et:TypeId}(ht:P.underlying t=some (.map kt et))(hR:jM P σ S w){x:AV}{X:Value}{es:List (AV×AV)}(hx:Rv P σ x X)(h:pT S.h x=some es):
  ∃V,(Builtin.len_ #[t] ty #[X]).run P w= .ok V w∧Rv P σ (.int .i64 (.ofNat (jK es))) V:=by
 obtain⟨ms,h3,h4⟩:=aCA hR hx h;have hl:=h3.length;rcases h4 with⟨rfl,rfl⟩ | ⟨r,c,rfl,hc⟩
 ·refine⟨_,by simp [Builtin.len_,run_underlying ht];rfl,?_⟩;simp only[Rv,dO,←hl];rfl
 ·have hg:(getObj r).run P w= .ok (.map ms c) w:=by simp [getObj,Sem.run,hc]
  refine⟨_,by simp [Builtin.len_,run_underlying ht,hg];rfl,?_⟩;simp only[Rv,dO,←hl];simp [goInt]
end Go.Ev
namespace Go.Ev
variable {P:Program}{σ:Env}{S:St}{w:World}
theorem cH{o:Option zW}{r:AOp}(h:q o=some r):∃x,o=some x∧r= .q x:=by
 cases o with
 | none=>cases h
 | some x=>cases h;exact⟨x,rfl,rfl⟩
theorem jH{o:Option wU}{r:AOp}(h:al o=some r):∃x,o=some x∧r= .a x:=by
 cases o with
 | none=>cases h
 | some x=>cases h;exact⟨x,rfl,rfl⟩
theorem fF{o:Option XOp}{r:AOp}(h:xx o=some r):∃x,o=some x∧r= .x x:=by
 cases o with
 | none=>cases h
 | some x=>cases h;exact⟨x,rfl,rfl⟩
theorem aS{α β:Type}{o:Option α}{f:α→Option β}{r:β}(h:(o >>=f)=some r):∃a,o=some a∧f a=some r:=by
 cases o with
 | none=>cases h
 | some a=>exact⟨a,rfl,h⟩
theorem zR{P:Program}{b:Builtin}{as:List Operand}{ts:List TypeId}{op:AOp}(h:aMh P b as ts=some op):b= .copy∧∃d s t u e i D So,as= [d,s]∧ts= [t,u]∧kT P t=some (e,i)∧eX P d=some D∧eX P s=some So∧op= .x (.copy i.size D So):=by
 cases b<;>simp only[aMh,reduceCtorEq] at h;split at h
 ·rename_i d s t u;split at h
  ·rename_i e i he;obtain⟨y,h1,h2⟩:=fF h;obtain⟨D,hD,h1⟩:=aS h1;obtain⟨So,hS,h1⟩:=aS h1;cases h1;exact⟨rfl,d,s,t,u,e,i,D,So,rfl,rfl,he,hD,hS,h2⟩
  ·cases h
 ·cases h
theorem aEt(hA:yF P){o:Oper}{qo:zW}(hc:pH P o.op=some (.q qo)){F:Fr}{a:Act}(hF:oU P σ F a.tmps)(hR:jM P σ S w){v:AV}(hv:iI qo F S.h=some v):
  ∃V,(execOp a.eval o).run P w= .ok (.value V) w∧Rv P σ v V:=by
 have lift:∀ {s:Sem Value},execOp a.eval o=(do pure (.value (←s)))→(∃V,s.run P w= .ok V w∧Rv P σ v V)→∃V,(execOp a.eval o).run P w= .ok (.value V) w∧Rv P σ v V:=by
  rintro s he ⟨V,h1,h2⟩;exact⟨V,by rw[he];simp [h1],h2⟩
 obtain⟨dst,op,type,pos,after,guard⟩:=o;simp only at hc;cases op with
 | move x=>
  obtain⟨y,h1,h2⟩:=cH hc;cases h2;obtain⟨X,hX,h1⟩:=aS h1;cases h1;cases hv;exact⟨_,rfl,bL hF hR hX⟩
 | assign x=>
  obtain⟨y,h1,h2⟩:=cH hc;cases h2;obtain⟨X,hX,h1⟩:=aS h1;cases h1;cases hv;exact⟨_,rfl,bL hF hR hX⟩
 | pick c x y=>
  obtain⟨z,h1,h2⟩:=cH hc;cases h2;obtain⟨C,hC,h1⟩:=aS h1;obtain⟨X,hX,h1⟩:=aS h1;obtain⟨Y,hY,h1⟩:=aS h1;cases h1;exact aIA (bL hF hR hC) (bL hF hR hX) (bL hF hR hY) hv
 | alloc t=>obtain⟨y,_,h2⟩:=jH hc;cases h2
 | box t x=>obtain⟨y,_,h2⟩:=jH hc;cases h2
 | build t ps=>
  simp only[pH] at hc;split at hc
  ·rename_i fs hu;rw[Bc] at hc;split at hc
   ·rename_i hk;obtain⟨y,h1,h2⟩:=cH hc;cases h2;obtain⟨z,hz,h1⟩:=aS h1;obtain⟨qs,hq,h1⟩:=aS h1;cases h1;obtain⟨cs,h3,h4⟩:=aJ (show(aX (fG z (eT F qs)) fun cs=>some (.agg cs))=some v from hv);cases h4;exact lift rfl (zE hF hR hu hk hz hq h3)
   ·cases hc
  ·rename_i n e hu;obtain⟨y,h1,h2⟩:=cH hc;cases h2;obtain⟨i,hi,h1⟩:=aS h1;obtain⟨z,hz,h1⟩:=aS h1;obtain⟨qs,hq,h1⟩:=aS h1;cases h1;obtain⟨cs,h3,h4⟩:=aJ (show(aX (fG z (eT F qs)) fun cs=>some (.agg cs))=some v from hv);cases h4;exact lift rfl (aAr hF hR hu hi hz hq h3)
  ·cases hc
 | buildSlice t n ps=>obtain⟨y,_,h2⟩:=jH hc;cases h2
 | insert t m k x=>
  simp only[pH] at hc;split at hc
  ·obtain⟨y,_,h2⟩:=fF hc;cases h2
  ·cases hc
 | load t x=>
  obtain⟨y,h1,h2⟩:=cH hc;cases h2;obtain⟨⟨agg,n⟩,hag,h1⟩:=aS h1;obtain⟨X,hX,h1⟩:=aS h1;cases h1;exact lift rfl (aKr hag hR (bL hF hR hX) hv)
 | store t x y=>
  obtain⟨y,_,h2⟩:=fF hc;cases h2
 | ready g=>cases hc
 | waits g=>cases hc
 | nilCheck x=>
  obtain⟨y,h1,h2⟩:=cH hc;cases h2;obtain⟨X,hX,h1⟩:=aS h1;cases h1;exact aFK hA rfl rfl (bL hF hR hX) hv
 | binOp op t x y t'=>
  obtain⟨z,h1,h2⟩:=cH hc;cases h2;obtain⟨X,hX,h1⟩:=aS h1;obtain⟨Y,hY,h1⟩:=aS h1;cases h1;exact lift rfl (aJ6 hA.eq (bL hF hR hX) (bL hF hR hY) hv)
 | unOp op t x=>
  obtain⟨z,h1,h2⟩:=cH hc;cases h2;obtain⟨X,hX,h1⟩:=aS h1;cases h1;exact lift rfl (aL4 (bL hF hR hX) hv)
 | convert src dst x=>
  simp only[pH] at hc;split at hc
  ·rename_i k j hs hd;obtain⟨z,h1,h2⟩:=cH hc;cases h2;obtain⟨X,hX,h1⟩:=aS h1;cases h1;exact lift rfl (uC hR (bL hF hR hX) hv ⟨⟨_,hs⟩,hd⟩)
  ·rename_i hs hd;obtain⟨z,h1,h2⟩:=cH hc;cases h2;obtain⟨X,hX,h1⟩:=aS h1;cases h1;exact lift rfl (uC hR (bL hF hR hX) hv ⟨hs,hd⟩)
  ·rename_i k hs hd;obtain⟨z,h1,h2⟩:=cH hc;cases h2;obtain⟨X,hX,h1⟩:=aS h1;cases h1;exact lift rfl (uC hR (bL hF hR hX) hv ⟨⟨_,hs⟩,hd⟩)
  ·rename_i e hs hd;split at hc
   ·rename_i he;obtain⟨z,h1,h2⟩:=cH hc;cases h2;obtain⟨X,hX,h1⟩:=aS h1;cases h1;exact lift rfl (uC hR (bL hF hR hX) hv ⟨e,hs,he,hd⟩)
   ·cases hc
  ·split at hc
   ·obtain⟨y,_,h2⟩:=jH hc;cases h2
   ·cases hc
  ·cases hc
 | sliceToArrayPointer t x=>cases hc
 | makeInterface t x=>
  simp only[pH] at hc;split at hc
  ·cases hc
  ·rename_i d hni hu;obtain⟨z,h1,h2⟩:=cH hc;cases h2;obtain⟨X,hX,h1⟩:=aS h1;cases h1;cases hv;refine lift rfl ⟨.iface t (a.eval x),?_,by simp only[Rv];exact⟨_,rfl,bL hF hR hX⟩⟩;simp only[Instr.makeInterface,Sem.run_bind,run_underlying hu,Result.andThen_ok];cases d<;>first | rfl | (exact absurd hu (by simpa using hni _))
  ·cases hc
 | makeFunc fn first cap=>
  cases fn with
  | func f=>
   obtain⟨z,h1,h2⟩:=cH hc;cases h2;obtain⟨X,hX,h1⟩:=aS h1;obtain⟨Y,hY,h1⟩:=aS h1;cases h1;cases hv;refine lift rfl ⟨_,rfl,?_⟩;simp only[Rv];refine⟨(first.map a.eval).toList,(cap.map a.eval).toList,rfl,?_,?_⟩
   ·rw[Du];exact jT hF hR hX
   ·rw[Du];exact jT hF hR hY
  | method name=>
   simp only[pH] at hc;split at hc
   ·rename_i x hx hy;obtain⟨z,h1,h2⟩:=cH hc;cases h2;obtain⟨X,hX,h1⟩:=aS h1;cases h1;cases hv;refine lift rfl ⟨_,rfl,?_⟩;simp only[Rv];refine⟨a.eval x,?_,trivial,bL hF hR hX⟩;congr 1
    ·apply Eu;rw[Du,hx];rfl
    ·apply Eu;rw[Du,hy];rfl
   ·cases hc
  | methodOf t name=>cases hc
  | via t path f p=>cases hc
  | yield l=>cases hc
 | makeMap t r=>cases r<;>simp only[pH,reduceCtorEq] at hc;obtain⟨y,_,h2⟩:=jH hc;cases h2
 | makeChan t x=>cases hc
 | makeSlice t l c=>obtain⟨y,_,h2⟩:=jH hc;cases h2
 | slice t x lo hh mx=>
  simp only[pH,Bc] at hc;split at hc
  ·cases hc
  ·rename_i hguard;have hhm:mx.isSome=true→hh.isSome=true:=fun hm=>by
    cases hh with
    | none=>simp [hm] at hguard
    | some _=>rfl
   split at hc
   ·rename_i hu;obtain⟨z,h1,h2⟩:=cH hc;cases h2;obtain⟨X,hX,h1⟩:=aS h1;obtain⟨Lo,hLo,h1⟩:=aS h1;obtain⟨Hi,hHi,h1⟩:=aS h1;obtain⟨Mx,hMx,h1⟩:=aS h1;cases h1;have hv:qX .str (X.val F) Lo Hi Mx F=some v:=hv;have hx:=bL hF hR hX;generalize X.val F=xv at hv hx;cases xv<;>simp only[qX,reduceCtorEq] at hv;refine lift rfl ?_;have:=aGQ hu hF hR hLo hHi hMx hx hv;obtain⟨V,h3,h4⟩:=this;exact⟨V,by simp only[Instr.sliceAt,Sem.run_bind,run_underlying hu,Result.andThen_ok];exact h3,h4⟩
   ·rename_i e hu;obtain⟨z,h1,h2⟩:=cH hc;cases h2;obtain⟨i,hi,h1⟩:=aS h1;obtain⟨X,hX,h1⟩:=aS h1;obtain⟨Lo,hLo,h1⟩:=aS h1;obtain⟨Hi,hHi,h1⟩:=aS h1;obtain⟨Mx,hMx,h1⟩:=aS h1;cases h1;have hv:qX (.slice i.size) (X.val F) Lo Hi Mx F=some v:=hv;have hx:=bL hF hR hX;generalize X.val F=xv at hv hx;cases xv<;>simp only[qX,reduceCtorEq] at hv
    ·refine lift rfl ?_;obtain⟨V,h3,h4⟩:=aHQ hu hi hF hR hLo hHi hMx hhm hx hv;exact⟨V,by simp only[Instr.sliceAt,Sem.run_bind,run_underlying hu,Result.andThen_ok];exact h3,h4⟩
    ·refine lift rfl ?_;obtain⟨V,h3,h4⟩:=aG9 hu hi hF hR hLo hHi hMx hhm hx hv;exact⟨V,by simp only[Instr.sliceAt,Sem.run_bind,run_underlying hu,Result.andThen_ok];exact h3,h4⟩
    ·refine lift rfl ?_;obtain⟨V,h3,h4⟩:=aGE hu hi hF hR hLo hHi hMx hhm hx hv;exact⟨V,by simp only[Instr.sliceAt,Sem.run_bind,run_underlying hu,Result.andThen_ok];exact h3,h4⟩
   ·rename_i n e hu;obtain⟨z,h1,h2⟩:=cH hc;cases h2;obtain⟨i,hi,h1⟩:=aS h1;obtain⟨X,hX,h1⟩:=aS h1;obtain⟨Lo,hLo,h1⟩:=aS h1;obtain⟨Hi,hHi,h1⟩:=aS h1;obtain⟨Mx,hMx,h1⟩:=aS h1;cases h1;have hv:qX (.arr n i.size) (X.val F) Lo Hi Mx F=some v:=hv;have hx:=bL hF hR hX;generalize X.val F=xv at hv hx;cases xv<;>simp only[qX,reduceCtorEq] at hv;exact lift rfl (aHD hu hi hF hR hLo hHi hMx hhm hx hv)
   ·cases hc
 | fieldAddr t x f=>
  simp only[pH] at hc;split at hc
  ·rename_i fs hu;obtain⟨z,h1,h2⟩:=cH hc;cases h2;obtain⟨fd,hf,h1⟩:=aS h1;obtain⟨i,hi,h1⟩:=aS h1;split at h1
   ·cases h1
   ·rename_i h0;obtain⟨X,hX,h1⟩:=aS h1;cases h1;exact lift rfl (aG1 hu hf hi h0 (bL hF hR hX) hv)
  ·cases hc
 | field t x f=>
  simp only[pH] at hc;split at hc
  ·rename_i fs hu;obtain⟨z,h1,h2⟩:=cH hc;cases h2;obtain⟨fd,hf,h1⟩:=aS h1;obtain⟨⟨agg,n⟩,hag,h1⟩:=aS h1;obtain⟨X,hX,h1⟩:=aS h1;cases h1;exact lift rfl (aJQ hu hf hag (bL hF hR hX) hv)
  ·cases hc
 | indexAddr t x ix=>
  simp only[pH] at hc;split at hc
  ·rename_i e hu;obtain⟨z,h1,h2⟩:=cH hc;cases h2;obtain⟨i,hi,h1⟩:=aS h1;obtain⟨X,hX,h1⟩:=aS h1;obtain⟨I,hI,h1⟩:=aS h1;cases h1;obtain⟨j,h3,h4⟩:=aJ (show(aX (fB (I.val F)) fun j=>eS (.slice i.size) (X.val F) j)=some v from hv);obtain⟨k,hk⟩:=mA h3;have hi':=bL hF hR hI;rw[hk] at hi';simp only[Rv] at hi';exact lift rfl (aDa hu hi (bL hF hR hX) hi' h4)
  ·rename_i n e hu;obtain⟨z,h1,h2⟩:=cH hc;cases h2;obtain⟨i,hi,h1⟩:=aS h1;obtain⟨X,hX,h1⟩:=aS h1;obtain⟨I,hI,h1⟩:=aS h1;cases h1;obtain⟨j,h3,h4⟩:=aJ (show(aX (fB (I.val F)) fun j=>eS (.arr n i.size) (X.val F) j)=some v from hv);obtain⟨k,hk⟩:=mA h3;have hi':=bL hF hR hI;rw[hk] at hi';simp only[Rv] at hi';exact lift rfl (aCf hu hi (bL hF hR hX) hi' h4)
  ·cases hc
 | index t x ix=>
  simp only[pH] at hc;split at hc
  ·rename_i hu;obtain⟨z,h1,h2⟩:=cH hc;cases h2;obtain⟨X,hX,h1⟩:=aS h1;obtain⟨I,hI,h1⟩:=aS h1;cases h1;obtain⟨j,h3,h4⟩:=aJ (show(aX (fB (I.val F)) fun j=>mM (X.val F) j)=some v from hv);obtain⟨k,hk⟩:=mA h3;have hi':=bL hF hR hI;rw[hk] at hi';simp only[Rv] at hi';exact lift rfl (aFu hu (bL hF hR hX) hi' h4)
  ·rename_i n e hu;obtain⟨z,h1,h2⟩:=cH hc;cases h2;obtain⟨⟨agg,s⟩,hag,h1⟩:=aS h1;obtain⟨X,hX,h1⟩:=aS h1;obtain⟨I,hI,h1⟩:=aS h1;cases h1;obtain⟨j,h3,h4⟩:=aJ (show(aX (fB (I.val F)) fun j=>xH (X.val F) agg n s j)=some v from hv);obtain⟨k,hk⟩:=mA h3;have hi':=bL hF hR hI;rw[hk] at hi';simp only[Rv] at hi';exact lift rfl (aFF hu hag (bL hF hR hX) hi' h4)
  ·cases hc
 | lookup t m k ok=>
  simp only[pH] at hc;split at hc
  ·rename_i kt et hu;obtain⟨z,h1,h2⟩:=cH hc;cases h2;obtain⟨e,he,h1⟩:=aS h1;obtain⟨zv,hz,h1⟩:=aS h1;obtain⟨M,hM,h1⟩:=aS h1;obtain⟨K,hK,h1⟩:=aS h1;cases h1;exact lift rfl (aFE hA.eq hA.key hu he hz hR (bL hF hR hM) (bL hF hR hK) hv)
  ·cases hc
 | mapUpdate t m k x=>
  simp only[pH] at hc;split at hc
  ·obtain⟨y,_,h2⟩:=fF hc;cases h2
  ·cases hc
 | mapEntry t m k=>cases hc
 | entryStore t m s x=>cases hc
 | range t x=>cases hc
 | next x b=>cases hc
 | entry x=>cases hc
 | typeAssert x xt t ok=>
  simp only[pH] at hc;split at hc
  ·cases hc
  ·rename_i d hni hu;obtain⟨z,h1,h2⟩:=cH hc;cases h2;obtain⟨zv,hz,h1⟩:=aS h1;obtain⟨X,hX,h1⟩:=aS h1;cases h1;exact lift rfl (aD1 hu (fun m e=>by subst e;exact hni m rfl) hz (bL hF hR hX) hv)
  ·cases hc
 | extract x i=>
  obtain⟨z,h1,h2⟩:=cH hc;cases h2;obtain⟨X,hX,h1⟩:=aS h1;cases h1;exact lift rfl (aD5 (bL hF hR hX) hv)
 | call c=>
  obtain⟨callee,args,argTypes⟩:=c;cases callee with
  | value f=>
   simp only[pH] at hc;split at hc
   ·obtain⟨y,_,h2⟩:=fF hc;cases h2
   ·obtain⟨y,_,h2⟩:=fF hc;cases h2
  | invoke r m=>obtain⟨y,_,h2⟩:=fF hc;cases h2
  | builtin b=>
   have arr:∀ {α:Type} {x:Array α} {l:List α},x.toList=l→x=l.toArray:=fun h=>by apply Eu;rw[h]
   simp only[pH] at hc;split at hc
   ·rename_i x t hx ht;have:=arr hx;subst this;have:=arr ht;subst this;split at hc
    ·rename_i hu;obtain⟨z,h1,h2⟩:=cH hc;cases h2;obtain⟨X,hX,h1⟩:=aS h1;cases h1;exact lift (s:=Builtin.len_ #[t] type #[a.eval x]) (by simp [execOp,resolve,invoke,builtin]) (aFJ hu (bL hF hR hX) hv)
    ·rename_i e hu;obtain⟨z,h1,h2⟩:=cH hc;cases h2;obtain⟨X,hX,h1⟩:=aS h1;cases h1;exact lift (s:=Builtin.len_ #[t] type #[a.eval x]) (by simp [execOp,resolve,invoke,builtin]) (aHm hu (bL hF hR hX) hv)
    ·rename_i n e hu;obtain⟨z,h1,h2⟩:=cH hc;cases h2;cases h1;cases hv;refine lift (s:=Builtin.len_ #[t] type #[a.eval x]) (by simp [execOp,resolve,invoke,builtin]) ⟨goInt n,?_,by simp only[Rv];rfl⟩;simp [Builtin.len_,run_underlying hu]
    ·rename_i kt et hu;obtain⟨z,h1,h2⟩:=cH hc;cases h2;obtain⟨X,hX,h1⟩:=aS h1;cases h1;obtain⟨es,h3,h4⟩:=aJ (show(aX (pT S.h (X.val F)) fun es=>some (.int .i64 (.ofNat (jK es))))=some v from hv);cases h4;exact lift (s:=Builtin.len_ #[t] type #[a.eval x]) (by simp [execOp,resolve,invoke,builtin]) (aFr hu hR (bL hF hR hX) h3)
    ·cases hc
   ·rename_i x t hx ht;have:=arr hx;subst this;have:=arr ht;subst this;split at hc
    ·rename_i e hu;obtain⟨z,h1,h2⟩:=cH hc;cases h2;obtain⟨X,hX,h1⟩:=aS h1;cases h1;exact lift (s:=Builtin.cap_ #[t] type #[a.eval x]) (by simp [execOp,resolve,invoke,builtin]) (aGV hu (bL hF hR hX) hv)
    ·cases hc
   ·obtain⟨z,h1,h2⟩:=cH hc;cases h2;obtain⟨Xs,hXs,h1⟩:=aS h1;cases h1;have hxs:=jT hF hR hXs;have hv:kR true (cW Xs F)=some v:=hv;refine lift (s:=Builtin.max_ argTypes type (args.map a.eval)) rfl ?_;unfold Builtin.max_;rw[Du];cases hvl:cW Xs F with
    | nil=>rw[hvl] at hv;simp [kR] at hv
    | cons u us=>
     rw[hvl] at hv hxs;rw[cJ] at hxs;obtain⟨U,Us,he,hU,hUs⟩:=hxs;rw[he];exact aEh hUs hU hv
   ·obtain⟨z,h1,h2⟩:=cH hc;cases h2;obtain⟨Xs,hXs,h1⟩:=aS h1;cases h1;have hxs:=jT hF hR hXs;have hv:kR false (cW Xs F)=some v:=hv;refine lift (s:=Builtin.min_ argTypes type (args.map a.eval)) rfl ?_;unfold Builtin.min_;rw[Du];cases hvl:cW Xs F with
    | nil=>rw[hvl] at hv;simp [kR] at hv
    | cons u us=>
     rw[hvl] at hv hxs;rw[cJ] at hxs;obtain⟨U,Us,he,hU,hUs⟩:=hxs;rw[he];exact aET hUs hU hv
   ·split at hc
    ·rw[Bc] at hc;split at hc
     ·obtain⟨y,_,h2⟩:=fF hc;cases h2
     ·cases hc
    ·cases hc
   ·split at hc
    ·obtain⟨y,_,h2⟩:=fF hc;cases h2
    ·cases hc
   ·obtain⟨_,_,_,_,_,_,_,_,_,_,_,_,_,_,h2⟩:=zR hc;cases h2
 | go c=>cases hc
 | defer c=>cases hc
 | panic x=>cases hc
 | send x y=>cases hc
 | recv t x b=>cases hc
 | select cs b=>cases hc
end Go.Ev
