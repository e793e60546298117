import Derived.Test.YtbmodoaceepfoaaEv3
set_option linter.all false
namespace Go.Ev
variable {P:Program}{σ:Env}{S:St}{w:World}
variable {t:TypeId}{i:TypeInfo}{F:Fr}
def addr_add(r o n:Nat):(⟨r,o,none⟩:Addr).add n=⟨r,o+n,none⟩:=Addr.add_mid r o n
theorem aJq{e:TypeId}(j:P.underlying t=some (.slice e))(hi:P.info? e=some i){a:Act}(u:qN P σ F a.tmps)(y:mD P σ S w)
  {b off len cap:Nat} {o:Bool} {lo r mx:Option Operand} {z A Mx:Option cT} (k:pI P lo=some z) (l:pI P r=some A) (f:pI P mx=some Mx)
  (m:mx.isSome=true->r.isSome=true) {X:Value} (B:Rv P σ (.sl b off len cap o) X) {v:AV} (h:aFA i.size b off len cap o z A Mx F=some v):
  ∃V,(Instr.slice t X (lo.map a.eval) (r.map a.eval) (mx.map a.eval)).run P w= .ok V w/\Rv P σ v V:=by
 simp only[Rv] at B;obtain⟨L,n,rfl⟩:=B;have⟨x,s,h⟩:=aR h;have g:=aHU f;have D:=(tD s).2.2.2;cases o with
 | false=>
  have c:=oZ (e:=0) (isSlice:=true) u y k l f m s;simp only[Bs,ite_self,aU] at c h;simp only[Ed,Be];rw[dB] at h;split at h
  .rename_i d;rw[Bl] at d;cases h;refine⟨_,by simp [Instr.slice,run_underlying j,c,sizeOf,typeInfo,hi,d];rfl,?_⟩;simp only[Rv];exact⟨L,n,by simp [d]⟩
  .rename_i d;rw[Bl] at d;cases h;refine⟨.slice (some ⟨L.r,L.d+off+x.1 * i.size,none⟩) (x.2.1 - x.1) (x.2.2 - x.1),by simp [Instr.slice,run_underlying j,c,sizeOf,typeInfo,hi,d,addr_add],?_⟩;simp only[Rv];exact⟨L,n,by simp [Cy]⟩
 | true=>
  have c:=oZ (e:=L.e) (isSlice:=true) u y k l f m s;simp only[aN,g] at h;simp only[El];cases C:mx.isNone
  .rw[C] at h c;simp only[Ed,Be,aU] at c h;rw[dB] at h;split at h
   .rename_i d;rw[Bl] at d;cases h;refine⟨_,by simp [Instr.slice,run_underlying j,c,sizeOf,typeInfo,hi,d];rfl,?_⟩;simp only[Rv];exact⟨L,n,by simp [d]⟩
   .rename_i d;rw[Bl] at d;cases h;refine⟨.slice (some ⟨L.r,L.d+off+x.1 * i.size,none⟩) (x.2.1 - x.1) (x.2.2 - x.1),by simp [Instr.slice,run_underlying j,c,sizeOf,typeInfo,hi,d,addr_add],?_⟩;simp only[Rv];exact⟨L,n,by simp [Cy]⟩
  .rw[C] at h c;simp only[El,aN] at c h;rw[dB] at h;split at h
   .rename_i d;rw[Bl] at d;cases h;have p:x.2.1 - x.1=0:=by omega
    simp only[Instr.slice,Sem.run_bind,run_underlying j,Result.andThen_ok,c,sizeOf,typeInfo,run_program,hi,Sem.run_pure,p];by_cases q:x.2.2+L.e=x.1
    .exact⟨_,by rw[if_pos q],by simp only[Rv];exact⟨_,_,rfl⟩⟩
    .exact⟨_,by rw[if_neg q],by simp only[Rv];exact⟨_,_,rfl⟩⟩
   .rename_i d;rw[Bl] at d;cases h;have q:¬ (x.2.2+L.e=x.1):=by omega
    refine⟨.slice (some ⟨L.r,L.d+off+x.1 * i.size,none⟩) (x.2.1 - x.1) (x.2.2+L.e - x.1),by simp [Instr.slice,run_underlying j,c,sizeOf,typeInfo,hi,q,addr_add],?_⟩;simp only[Rv];refine⟨L,n,?_⟩;simp only[El,Cy];congr 1;omega
def aHB{e:TypeId}(p:P.underlying t=some (.slice e))(hi:P.info? e=some i){a:Act}(q:qN P σ F a.tmps)(r:mD P σ S w)
  {lo d mx:Option Operand} {l m Mx:Option cT} (f:pI P lo=some l) (g:pI P d=some m) (j:pI P mx=some Mx)
  (k:mx.isSome=true->d.isSome=true) {X:Value} (n:Rv P σ .emp X) {v:AV} (h:aKR l m Mx F=some v):
  ∃V,(Instr.slice t X (lo.map a.eval) (d.map a.eval) (mx.map a.eval)).run P w= .ok V w/\Rv P σ v V:=by
 simp only[Rv] at n;obtain⟨A,c,rfl⟩:=n;have⟨x,o,h⟩:=aR h;cases h;have y:=(tD o).2.2.2;have b:=oZ (e:=c) (isSlice:=true) q r f g j k o;simp only[Am] at b;have s:x.1=0:=by omega
 have u:x.2.1=0:=by omega
 simp only[Instr.slice,Sem.run_bind,run_underlying p,Result.andThen_ok,b,sizeOf,typeInfo,run_program,hi,Sem.run_pure,s,u,Dy,Dt];refine⟨_,rfl,?_⟩;simp only[Rv,Ep,Addr.add_zero',ite_self];exact⟨A,_,rfl⟩
def aHW{e:TypeId}(o:P.underlying t=some (.slice e))(hi:P.info? e=some i){a:Act}(p:qN P σ F a.tmps)(q:mD P σ S w)
  {lo c mx:Option Operand} {k l Mx:Option cT} (d:pI P lo=some k) (f:pI P c=some l) (g:pI P mx=some Mx)
  (j:mx.isSome=true->c.isSome=true) {X:Value} (m:Rv P σ .ct X) {v:AV} (h:aKy k l Mx F=some v):
  ∃V,(Instr.slice t X (lo.map a.eval) (c.map a.eval) (mx.map a.eval)).run P w= .ok V w/\Rv P σ v V:=by
 simp only[Rv] at m;subst m;have⟨x,n,h⟩:=aR h;cases h;have y:=(tD n).2.2.2;have b:=oZ (e:=0) (isSlice:=true) p q d f g j n;simp only[Bs,ite_self] at b;have r:x.1=0:=by omega
 have s:x.2.1=0:=by omega
 have u:x.2.2=0:=by omega
 simp only[Instr.slice,Sem.run_bind,run_underlying o,Result.andThen_ok,b,sizeOf,typeInfo,run_program,hi,Sem.run_pure,r,s,u,El,Dt];exact⟨_,rfl,by simp only[Rv]⟩
def aHo{e:TypeId}{n:Nat}(m:P.underlying t=some (.array n e))(hi:P.info? e=some i){a:Act}(s:qN P σ F a.tmps)(u:mD P σ S w)
  {b off:Nat} {lo f mx:Option Operand} {o p Mx:Option cT} (g:pI P lo=some o) (j:pI P f=some p) (k:pI P mx=some Mx)
  (l:mx.isSome=true->f.isSome=true) {X:Value} (q:Rv P σ (.ptr b off) X) {v:AV} (h:aMW n i.size b off o p Mx F=some v):
  ∃V,(Instr.sliceAt t X (lo.map a.eval) (f.map a.eval) (mx.map a.eval)).run P w= .ok V w/\Rv P σ v V:=by
 simp only[Rv] at q;obtain⟨L,r,rfl⟩:=q;have⟨x,y,h⟩:=aR h;have c:=oZ (e:=0) (isSlice:=false) s u g j k l y;simp only[Bs,ite_self] at c;rw[dB] at h;split at h
 .rename_i d;rw[Bl] at d;cases h;refine⟨_,by simp [Instr.sliceAt,run_underlying m,Instr.sureAddr,c,sizeOf,typeInfo,hi,d];rfl,?_⟩;simp only[Rv];exact⟨L,r,by simp [d]⟩
 .rename_i d;rw[Bl] at d;cases h;refine⟨.slice (some ⟨L.r,L.d+off+x.1 * i.size,none⟩) (x.2.1 - x.1) (x.2.2 - x.1),by simp [Instr.sliceAt,run_underlying m,Instr.sureAddr,c,sizeOf,typeInfo,hi,d,addr_add],?_⟩;simp only[Rv];exact⟨L,r,by simp [Cy]⟩
theorem vH(f:wG P){d:TypeId}{k:AV}{K:Value}(g:Rv P σ k K):∀ {m:List (AV×AV)} {a:List MapEntry} {i:Nat} {r:Option (Nat×AV)},uR P σ m a->sF (eqT P d) k m i=some r->
  ∃R,(Instr.findAsking d K a i).run P w= .ok R w/\(match r,R with
   | none,none=>True
   | some (j,v),some (l,V)=>j=l/\Rv P σ v V
   | _,_=>False)
 | [],a,i,r,c,h=>by
  simp only[sF,Au] at h;subst h;have c:a= []:=c;subst c;exact⟨none,rfl,trivial⟩
 | (k',v)::m,a,i,r,c,h=>by
  obtain⟨e,n,rfl,o,p,q⟩:=c;simp only[sF] at h;have⟨b,s,h⟩:=aR h;have heq:(Op.equal d K e.key).run P w= .ok b w:=(zN (w:=w) f g o s).2 9998;cases b
  .rw[aU] at h;have⟨R,t,u⟩:=vH f g q h;exact⟨R,by simp only[Instr.findAsking,Sem.run_bind,heq,Result.andThen_ok];exact t,u⟩
  .rw[aN] at h;cases h;exact⟨some (i,e.val),by simp [Instr.findAsking,heq],rfl,p⟩
end Go.Ev
namespace Go.Ev
variable {P:Program}{σ:Env}{S:St}{w:World}
variable {r:Option (Nat×AV)}{ok:Bool}{v z:AV}
def aGo(P:Program)(σ:Env):Option (Nat×AV)->Option (Nat×Value)->Prop
 | none,none=>True
 | some (j,v),some (a,V)=>j=a/\Rv P σ v V
 | _,_=>False
theorem tW{d:TypeDesc}{e:EqP}(o:(d= .string/\e= .str)\/((∃k,d= .int k)/\e= .int)){k:AV}{K:Value}(c:Rv P σ k K):
  ∀ {m:List (AV×AV)} {f:List MapEntry} {i:Nat} {r:Option (Nat×AV)},uR P σ m f->sF (.p e) k m i=some r->∃R,Instr.findNow d K f i=some R/\aGo P σ r R
 | [],f,i,r,g,h=>by
  simp only[sF,Au] at h;subst h;have g:f= []:=g;subst g;exact⟨none,rfl,trivial⟩
 | (k',v)::m,f,i,r,g,h=>by
  obtain⟨x,q,rfl,j,s,t⟩:=g;simp only[sF] at h;have⟨b,a,h⟩:=aR h;have a:yL e k k'=some b:=a;have p:Instr.sameNow d K x.key=some b:=by
   rcases o with⟨rfl,rfl⟩|⟨⟨A,rfl⟩,rfl⟩
   .cases k<;>simp only[yL,reduceCtorEq] at a;cases k'<;>simp only[reduceCtorEq] at a;simp only[Rv] at c j;obtain⟨rfl,u⟩:=c;have⟨y,z⟩:=j;cases a;rw[y];simp only[Instr.sameNow];rw[beq_toListBytes,aDz u z]
   .cases k<;>simp only[yL,reduceCtorEq] at a;cases k'<;>simp only[reduceCtorEq] at a;simp only[Rv] at c j;subst c;have⟨l,n⟩:=cN a;have:=aAw l;subst this;cases n;rw[j];simp [Instr.sameNow,jG]
  cases b
  .rw[aU] at h;have⟨R,l,n⟩:=tW o c t h;exact⟨R,by simp only[Instr.findNow,p];exact l,n⟩
  .rw[aN] at h;cases h;exact⟨some (i,x.val),by simp only[Instr.findNow,p],rfl,s⟩
def aAq{a:TypeId}{e:sR}(h:aCh P a=some e):(P.underlying a=some .string/\e= .p .str)\/((∃k,P.underlying a=some (.int k))/\e= .p .int)\/
  (e=eqT P a/\((∃c,P.underlying a=some (.struct c)/\c.all (fun f=>plainKey (eqP P f.type))=true)\/(∃n el,P.underlying a=some (.array n el)/\plainKey (eqP P el)=true))):=by
 unfold aCh at h;split at h
 .cases h;exact .inl ⟨‹_›,rfl⟩
 .cases h;exact .inr (.inl ⟨⟨_, ‹_›⟩,rfl⟩)
 .rename_i c d;split at h
  .rename_i l g;rw[Bn] at h;split at h
   .rename_i b;cases h;rw[Cv] at b;exact .inr (.inr ⟨g.symm,.inl ⟨c,d,b.1⟩⟩)
   .cases h
  .cases h
 .rename_i n el d;split at h
  .rename_i l g;rw[Bn] at h;split at h
   .rename_i b;cases h;rw[Cv] at b;exact .inr (.inr ⟨g.symm,.inr ⟨n,el,d,b.1⟩⟩)
   .cases h
  .cases h
 .cases h
def aCQ{b:TypeId}{l:List (Nat×EqP)}(h:aCh P b=some (.struct l)):aCy 0 l=true:=by
 unfold aCh at h;split at h
 .cases h
 .cases h
 .split at h
  .rw[Bn] at h;split at h
   .rename_i a;cases h;rw[Cv] at a;exact a.2
   .cases h
  .cases h
 .split at h
  .rw[Bn] at h;split at h
   .rename_i a;cases h;rw[Cv] at a;exact a.2
   .cases h
  .cases h
 .cases h
def aET(P:Program):Prop:=∀ (σ:Env) (w:World) (a:TypeId) (e:sR) (k:AV) (K:Value) (empty:Bool),aCh P a=some e->Rv P σ k K->
 (eqv e k k).isSome=true->(Instr.checkKey empty 10000 a K).run P w= .ok () w
def aAn(s:wG P){l:TypeId}{e:sR}(o:aCh P l=some e){k:AV}{K:Value}(p:Rv P σ k K){m:List (AV×AV)}{g:List MapEntry}(q:uR P σ m g)
  (h:sF e k m 0=some r):∃R,(Instr.findKey l K g).run P w= .ok R w/\aGo P σ r R:=by
 rcases aAq o with⟨a,rfl⟩|⟨⟨j,a⟩,rfl⟩|⟨rfl,a⟩
 .have⟨R,b,c⟩:=tW (d:=.string) (.inl ⟨rfl,rfl⟩) p q h;exact⟨R,by simp [Instr.findKey,run_underlying a,b],c⟩
 .have⟨R,b,c⟩:=tW (d:=.int j) (.inr ⟨⟨j,rfl⟩,rfl⟩) p q h;exact⟨R,by simp [Instr.findKey,run_underlying a,b],c⟩
 .have⟨R,b,c⟩:=vH (w:=w) s p q h;have f:aGo P σ r R:=by
   cases r<;>cases R<;>first | exact c | trivial
  have i:∃d,P.underlying l=some d/\∀X Y,Instr.sameNow d X Y=none:=by
   rcases a with⟨u,a,_⟩|⟨n,el,a,_⟩
   .exact⟨_,a,fun X Y=>rfl⟩
   .exact⟨_,a,fun X Y=>rfl⟩
  have⟨d,i,t⟩:=i;cases g with
  | nil=>
   refine⟨none,by simp [Instr.findKey,run_underlying i,Instr.findNow],?_⟩;simp [Instr.findAsking] at b;subst b;exact f
  | cons x g=>
   refine⟨R,?_,f⟩;simp only[Instr.findKey,Sem.run_bind,run_underlying i,Result.andThen_ok,Instr.findNow,t];exact b
def yD{a:TypeId}(h:P.underlying a=some .string\/∃j,P.underlying a=some (.int j))(K:Value)(empty:Bool):(Instr.checkKey empty 10000 a K).run P w= .ok () w:=by
 show(Instr.checkKey empty (9999+1) a K).run P w= .ok () w;generalize 9999=n;rcases h with h|⟨j,h⟩<;>simp [Instr.checkKey,run_underlying h]
def aJD{m:AV}{M:Value}{e:List (AV×AV)}(g:mD P σ S w)(d:Rv P σ m M)(h:vF S.h m=some e):
  ∃a:Array MapEntry,uR P σ e a.toList/\((M= .map none/\a= #[])\/∃r c,M= .map (some r)/\w.heap[r]? =some (.map a c)):=by
 cases m<;>simp only[vF,reduceCtorEq] at h<;>simp only[Rv] at d
 .obtain⟨L,i,rfl⟩:=d;have⟨bl,j,f⟩:=aR h;cases bl<;>simp only[tQ,reduceCtorEq,Au] at f;subst f;have⟨n,b,_,a,c,k,l⟩:=g.blk _ _ j;rw[i] at b;cases b;exact⟨a,l,.inr ⟨L.r,c,rfl,k⟩⟩
 .cases h;subst d;exact⟨#[],rfl,.inl ⟨rfl,rfl⟩⟩
def aBd{V:Value}{b:Bool}(h:Rv P σ v V):Rv P σ (aFk ok v b) (if ok=true then .tuple #[V,.bool b] else V):=by
 unfold aFk;cases ok
 .exact h
 .rw[aN,if_pos rfl];simp only[Rv];exact⟨_,rfl,dK.2 ⟨_,_,rfl,h,dK.2 ⟨_,_,rfl,by simp only[Rv],dO.2 rfl⟩⟩⟩
def aCI{e:sR}{k:AV}{a:List (AV×AV)}(h:pF e k a=some r):(eqv e k k).isSome=true/\sF e k a 0=some r:=by
 have⟨b,c,d⟩:=aR h;exact⟨by rw[c];rfl,d⟩
theorem aCO{R:Option (Nat×Value)}{Z:Value}(a:Rv P σ z Z)(b:aGo P σ r R)(h:pG r z ok=some v):
  (R=none/\Rv P σ v (if ok=true then .tuple #[Z,.bool false] else Z))\/∃j V,R=some (j,V)/\Rv P σ v (if ok=true then .tuple #[V,.bool true] else V):=by
 cases r with
 | none=>
  cases R with
  | none=>
   simp only[pG,Au] at h;subst h;exact .inl ⟨rfl,aBd a⟩
  | some x=>exact b.elim
 | some x=>
  cases R with
  | none=>exact b.elim
  | some y=>
   simp only[pG,Au] at h;subst h;exact .inr ⟨y.1,y.2,rfl,aBd b.2⟩
def aHc(B:wG P)(C:aET P){t g q:TypeId}{e:sR}(p:P.underlying t=some (.map g q))(l:aCh P g=some e)(D:aIu P q=some z)
  {m k:AV} {M K:Value} (E:mD P σ S w) (F:Rv P σ m M) (u:Rv P σ k K) {v:AV} (h:(bG (vF S.h m) fun x=>bG (pF e k x) fun r=>pG r z ok)=some v):
  ∃V,(Instr.lookup t M K ok).run P w= .ok V w/\Rv P σ v V:=by
 have⟨x,G,h⟩:=aR h;have⟨r,s,h⟩:=aR h;have⟨b,s⟩:=aCI s;have⟨H,I,J⟩:=aJD E F G;have⟨R,f,y⟩:=aAn (w:=w) B l u I s;have⟨i,Z,hi,L,n⟩:=aEx (σ:=σ) D;have a:∀empty,(Instr.checkKey empty 10000 g K).run P w= .ok () w:=fun empty=>C σ w g e k K empty l u b;have o:(zeroValue q).run P w= .ok Z w:=zE hi L;rcases J with⟨rfl,rfl⟩|⟨N,c,rfl,O⟩
 .have f:(Instr.findKey g K []).run P w= .ok R w:=f;rcases aCO n y h with⟨rfl,d⟩|⟨j,V,rfl,d⟩
  .refine⟨_,?_,d⟩;simp only[Instr.lookup,Sem.run_bind,run_underlying p,Result.andThen_ok,Sem.run_pure,a,f,o]
  .refine⟨_,?_,d⟩;simp only[Instr.lookup,Sem.run_bind,run_underlying p,Result.andThen_ok,Sem.run_pure,a,f]
 .have A:(getObj N).run P w= .ok (.map H c) w:=by simp [getObj,Sem.run,O]
  rcases aCO n y h with⟨rfl,d⟩|⟨j,V,rfl,d⟩
  .refine⟨_,?_,d⟩;simp only[Instr.lookup,Sem.run_bind,run_underlying p,Result.andThen_ok,A,Sem.run_pure,a,f,o]
  .refine⟨_,?_,d⟩;simp only[Instr.lookup,Sem.run_bind,run_underlying p,Result.andThen_ok,A,Sem.run_pure,a,f]
end Go.Ev
namespace Go.Ev
variable {P:Program}{σ:Env}{S:St}{w:World}
variable {x v:AV}{X:Value}
def aHy(_:Program):Prop:=True
structure aAm(P:Program):Prop where
 eq:wG P
 key:aET P
 mth:aHy P
def aGX(i:aAm P){o:Oper}{a:Act}{f:Operand}(d:o.op= .nilCheck f)(e:a.eval f=X)(c:Rv P σ x X)(h:xF x=some v):
  ∃V,(execOp a.eval o).run P w= .ok (.value V) w/\Rv P σ v V:=by
 cases x<;>simp only[xF,reduceCtorEq,Au] at h
 case ptr=>
  subst h;have b:=c;simp only[Rv] at b;obtain⟨L,g,rfl⟩:=b;exact⟨_,by simp only[execOp,d,e];rfl,c⟩
 case fn=>
  subst h;have b:=c;simp only[Rv] at b;obtain⟨A,B,rfl,_⟩:=b;exact⟨_,by simp only[execOp,d,e];rfl,c⟩
 case yld=>
  subst h;have b:=c;simp only[Rv] at b;obtain⟨L,g,rfl⟩:=b;exact⟨_,by simp only[execOp,d,e];rfl,c⟩
 case iface=>
  subst h;have b:=c;simp only[Rv] at b;obtain⟨W,rfl,_⟩:=b;exact⟨_,by simp only[execOp,d,e];rfl,c⟩
theorem aF8:∀ {g:cd} {d:List Value} {x v:AV} {X:Value},jE P σ g d->Rv P σ x X->lO true g x=some v->∃V,(d.foldlM Builtin.max2 X).run P w= .ok V w/\Rv P σ v V
 | [],d,x,v,X,c,f,h=>by
  rw[dO] at c;subst c;simp only[lO,Au] at h;subst h;exact⟨X,rfl,f⟩
 | y::g,d,x,v,X,c,f,h=>by
  rw[dK] at c;obtain⟨Y,p,rfl,j,i⟩:=c;unfold lO at h;split at h
  .rename_i e;cases e
  .rename_i k' b vs k a e;cases e;have⟨l,m⟩:=cN h;simp only[Rv] at j f;subst j;subst f;have:=aAw l;subst this;have⟨V,n,o⟩:=aF8 (X:=.int k (if b>a then b else a)) i (by
    simp only[Rv,aN];rw[dB,qO];simp only[decide_eq_true_eq];congr 1;split<;>split<;>omega) m
   exact⟨V,by rw[List.foldlM_cons];simp only[Sem.run_bind,Builtin.max2,Sem.run_pure,Result.andThen_ok];exact n,o⟩
  .cases h
theorem aFV:∀ {g:cd} {d:List Value} {x v:AV} {X:Value},jE P σ g d->Rv P σ x X->lO false g x=some v->∃V,(d.foldlM Builtin.min2 X).run P w= .ok V w/\Rv P σ v V
 | [],d,x,v,X,c,f,h=>by
  rw[dO] at c;subst c;simp only[lO,Au] at h;subst h;exact⟨X,rfl,f⟩
 | y::g,d,x,v,X,c,f,h=>by
  rw[dK] at c;obtain⟨Y,p,rfl,j,i⟩:=c;unfold lO at h;split at h
  .rename_i e;cases e
  .rename_i k' b vs k a e;cases e;have⟨l,m⟩:=cN h;simp only[Rv] at j f;subst j;subst f;have:=aAw l;subst this;have⟨V,n,o⟩:=aFV (X:=.int k (if b<a then b else a)) i (by
    simp only[Rv,aU];rw[dB,qO];simp only[decide_eq_true_eq];congr 1;split<;>split<;>omega) m
   exact⟨V,by rw[List.foldlM_cons];simp only[Sem.run_bind,Builtin.min2,Sem.run_pure,Result.andThen_ok];exact n,o⟩
  .cases h
def aII{t ty:TypeId}{e:TypeId}(b:P.underlying t=some (.slice e))(a:Rv P σ x X)(h:kR x=some v):∃V,(Builtin.len_ #[t] ty #[X]).run P w= .ok V w/\Rv P σ v V:=by
 cases x<;>simp only[kR,reduceCtorEq,Au] at h<;>subst h<;>simp only[Rv] at a
 .obtain⟨L,_,rfl⟩:=a;exact⟨_,by simp [Builtin.len_,run_underlying b];rfl,by simp only[Rv];rfl⟩
 .subst a;exact⟨_,by simp [Builtin.len_,run_underlying b];rfl,by simp only[Rv];rfl⟩
 .obtain⟨A,c,rfl⟩:=a;exact⟨_,by simp [Builtin.len_,run_underlying b];rfl,by simp only[Rv];rfl⟩
end Go.Ev
namespace Go.Ev
variable {P:Program}{σ:Env}{S:St}{w:World}
variable {r:AOp}
theorem dS{o:Option QOp}(h:q o=some r):∃x,o=some x/\r= .q x:=by
 cases o with
 | none=>cases h
 | some x=>cases h;exact⟨x,rfl,rfl⟩
theorem kQ{o:Option zD}(h:al o=some r):∃x,o=some x/\r= .a x:=by
 cases o with
 | none=>cases h
 | some x=>cases h;exact⟨x,rfl,rfl⟩
theorem lC{o:Option XOp}(h:xx o=some r):∃x,o=some x/\r= .x x:=by
 cases o with
 | none=>cases h
 | some x=>cases h;exact⟨x,rfl,rfl⟩
theorem bJ{b c:Type}{o:Option b}{f:b->Option c}{r:c}(h:(o >>=f)=some r):∃a,o=some a/\f a=some r:=by
 cases o with
 | none=>cases h
 | some a=>exact⟨a,rfl,h⟩
theorem aGe(hA:aAm P){o:Oper}{qo:QOp}(A:uI P o.op=some (.q qo)){F:Fr}{a:Act}(H:qN P σ F a.tmps)(E:mD P σ S w){v:AV}(D:gO qo F S.h=some v):
  ∃V,(execOp a.eval o).run P w= .ok (.value V) w/\Rv P σ v V:=by
 have lift:∀ {s:Sem Value},execOp a.eval o=(do pure (.value (<-s)))->(∃V,s.run P w= .ok V w/\Rv P σ v V)->∃V,(execOp a.eval o).run P w= .ok (.value V) w/\Rv P σ v V:=by
  rintro s he ⟨V,q,B⟩;exact⟨V,by rw[he];simp [q],B⟩
 have⟨aI,op,type,pos,after,guard⟩:=o;simp only at A;cases op with
 | move x=>
  have⟨y,q,B⟩:=dS A;cases B;have⟨X,G,q⟩:=bJ q;cases q;cases D;exact⟨_,rfl,cM H E G⟩
 | assign x=>
  have⟨y,q,B⟩:=dS A;cases B;have⟨X,G,q⟩:=bJ q;cases q;cases D;exact⟨_,rfl,cM H E G⟩
 | pick c x y=>
  have⟨z,q,B⟩:=dS A;cases B;have⟨C,hC,q⟩:=bJ q;have⟨X,G,q⟩:=bJ q;have⟨Y,hY,q⟩:=bJ q;cases q;exact aI1 (cM H E hC) (cM H E G) (cM H E hY) D
 | alloc t=>have⟨y,_,B⟩:=kQ A;cases B
 | box t x=>have⟨y,_,B⟩:=kQ A;cases B
 | build t ps=>
  simp only[uI] at A;split at A
  .rename_i fs J;rw[Bn] at A;split at A
   .rename_i hk;have⟨y,q,B⟩:=dS A;cases B;have⟨z,hz,q⟩:=bJ q;have⟨qs,hq,q⟩:=bJ q;cases q;have⟨cs,Q,R⟩:=aR (show(bG (eI z (dJ F qs)) fun cs=>some (.agg cs))=some v from D);cases R;exact lift rfl (aA3 H E J hk hz hq Q)
   .cases A
  .rename_i n e J;have⟨y,q,B⟩:=dS A;cases B;have⟨i,hi,q⟩:=bJ q;have⟨z,hz,q⟩:=bJ q;have⟨qs,hq,q⟩:=bJ q;cases q;have⟨cs,Q,R⟩:=aR (show(bG (eI z (dJ F qs)) fun cs=>some (.agg cs))=some v from D);cases R;exact lift rfl (aBj H E J hi hz hq Q)
  .cases A
 | buildSlice t n ps=>have⟨y,_,B⟩:=kQ A;cases B
 | insert t m k x=>
  simp only[uI] at A;split at A
  .have⟨y,_,B⟩:=lC A;cases B
  .cases A
 | load t x=>
  have⟨y,q,B⟩:=dS A;cases B;have⟨⟨agg,n⟩,an,q⟩:=bJ q;have⟨X,G,q⟩:=bJ q;cases q;exact lift rfl (aMg an E (cM H E G) D)
 | store t x y=>
  have⟨y,_,B⟩:=lC A;cases B
 | ready g=>cases A
 | waits g=>cases A
 | nilCheck x=>
  have⟨y,q,B⟩:=dS A;cases B;have⟨X,G,q⟩:=bJ q;cases q;exact aGX hA rfl rfl (cM H E G) D
 | binOp op t x y t'=>
  have⟨z,q,B⟩:=dS A;cases B;have⟨X,G,q⟩:=bJ q;have⟨Y,hY,q⟩:=bJ q;cases q;exact lift rfl (aMe hA.eq (cM H E G) (cM H E hY) D)
 | unOp op t x=>
  have⟨z,q,B⟩:=dS A;cases B;have⟨X,G,q⟩:=bJ q;cases q;exact lift rfl (aMz (cM H E G) D)
 | convert src aI x=>
  simp only[uI] at A;split at A
  .rename_i k j hs hd;have⟨z,q,B⟩:=dS A;cases B;have⟨X,G,q⟩:=bJ q;cases q;exact lift rfl (wN E (cM H E G) D ⟨⟨_,hs⟩,hd⟩)
  .rename_i hs hd;have⟨z,q,B⟩:=dS A;cases B;have⟨X,G,q⟩:=bJ q;cases q;exact lift rfl (wN E (cM H E G) D ⟨hs,hd⟩)
  .rename_i k hs hd;have⟨z,q,B⟩:=dS A;cases B;have⟨X,G,q⟩:=bJ q;cases q;exact lift rfl (wN E (cM H E G) D ⟨⟨_,hs⟩,hd⟩)
  .rename_i e hs hd;split at A
   .rename_i he;have⟨z,q,B⟩:=dS A;cases B;have⟨X,G,q⟩:=bJ q;cases q;exact lift rfl (wN E (cM H E G) D ⟨e,hs,he,hd⟩)
   .cases A
  .split at A
   .have⟨y,_,B⟩:=kQ A;cases B
   .cases A
  .cases A
 | sliceToArrayPointer t x=>cases A
 | makeInterface t x=>
  simp only[uI] at A;split at A
  .cases A
  .rename_i d aV J;have⟨z,q,B⟩:=dS A;cases B;have⟨X,G,q⟩:=bJ q;cases q;cases D;refine lift rfl ⟨.iface t (a.eval x),?_,by simp only[Rv];exact⟨_,rfl,cM H E G⟩⟩;simp only[Instr.makeInterface,Sem.run_bind,run_underlying J,Result.andThen_ok];cases d<;>first | rfl | (exact absurd J (by simpa using aV _))
  .cases A
 | makeFunc fn first cap=>
  cases fn with
  | func f=>
   have⟨z,q,B⟩:=dS A;cases B;have⟨X,G,q⟩:=bJ q;have⟨Y,hY,q⟩:=bJ q;cases q;cases D;refine lift rfl ⟨_,rfl,?_⟩;simp only[Rv];refine⟨(first.map a.eval).toList,(cap.map a.eval).toList,rfl,?_,?_⟩
   .rw[Et];exact pL H E G
   .rw[Et];exact pL H E hY
  | method name=>cases A
  | methodOf t name=>cases A
  | via t aZ f p=>cases A
  | yield l=>cases A
 | makeMap t r=>cases r<;>simp only[uI,reduceCtorEq] at A;have⟨y,_,B⟩:=kQ A;cases B
 | makeChan t x=>cases A
 | makeSlice t l c=>have⟨y,_,B⟩:=kQ A;cases B
 | slice t x lo hh mx=>
  simp only[uI,Bn] at A;split at A
  .cases A
  .rename_i ab;have ac:mx.isSome=true->hh.isSome=true:=fun hm=>by
    cases hh with
    | none=>simp [hm] at ab
    | some _=>rfl
   split at A
   .rename_i e J;have⟨z,q,B⟩:=dS A;cases B;have⟨i,hi,q⟩:=bJ q;have⟨X,G,q⟩:=bJ q;have⟨Lo,T,q⟩:=bJ q;have⟨Hi,W,q⟩:=bJ q;have⟨Mx,Z,q⟩:=bJ q;cases q;have D:rO (.slice i.size) (X.val F) Lo Hi Mx F=some v:=D;have hx:=cM H E G;generalize X.val F=xv at D hx;cases xv<;>simp only[rO,reduceCtorEq] at D
    .refine lift rfl ?_;have⟨V,Q,R⟩:=aJq J hi H E T W Z ac hx D;exact⟨V,by simp only[Instr.sliceAt,Sem.run_bind,run_underlying J,Result.andThen_ok];exact Q,R⟩
    .refine lift rfl ?_;have⟨V,Q,R⟩:=aHW J hi H E T W Z ac hx D;exact⟨V,by simp only[Instr.sliceAt,Sem.run_bind,run_underlying J,Result.andThen_ok];exact Q,R⟩
    .refine lift rfl ?_;have⟨V,Q,R⟩:=aHB J hi H E T W Z ac hx D;exact⟨V,by simp only[Instr.sliceAt,Sem.run_bind,run_underlying J,Result.andThen_ok];exact Q,R⟩
   .rename_i n e J;have⟨z,q,B⟩:=dS A;cases B;have⟨i,hi,q⟩:=bJ q;have⟨X,G,q⟩:=bJ q;have⟨Lo,T,q⟩:=bJ q;have⟨Hi,W,q⟩:=bJ q;have⟨Mx,Z,q⟩:=bJ q;cases q;have D:rO (.arr n i.size) (X.val F) Lo Hi Mx F=some v:=D;have hx:=cM H E G;generalize X.val F=xv at D hx;cases xv<;>simp only[rO,reduceCtorEq] at D;exact lift rfl (aHo J hi H E T W Z ac hx D)
   .cases A
 | fieldAddr t x f=>
  simp only[uI] at A;split at A
  .rename_i fs J;have⟨z,q,B⟩:=dS A;cases B;have⟨fd,hf,q⟩:=bJ q;have⟨i,hi,q⟩:=bJ q;split at q
   .cases q
   .rename_i h0;have⟨X,G,q⟩:=bJ q;cases q;exact lift rfl (aHY J hf hi h0 (cM H E G) D)
  .cases A
 | field t x f=>
  simp only[uI] at A;split at A
  .rename_i fs J;have⟨z,q,B⟩:=dS A;cases B;have⟨fd,hf,q⟩:=bJ q;have⟨⟨agg,n⟩,an,q⟩:=bJ q;have⟨X,G,q⟩:=bJ q;cases q;exact lift rfl (aLN J hf an (cM H E G) D)
  .cases A
 | indexAddr t x ix=>
  simp only[uI] at A;split at A
  .rename_i e J;have⟨z,q,B⟩:=dS A;cases B;have⟨i,hi,q⟩:=bJ q;have⟨X,G,q⟩:=bJ q;have⟨I,hI,q⟩:=bJ q;cases q;have⟨j,Q,R⟩:=aR (show(bG (gN (I.val F)) fun j=>eQ (.slice i.size) (X.val F) j)=some v from D);have⟨k,hk⟩:=sM Q;have N:=cM H E hI;rw[hk] at N;simp only[Rv] at N;exact lift rfl (aEh J hi (cM H E G) N R)
  .rename_i n e J;have⟨z,q,B⟩:=dS A;cases B;have⟨i,hi,q⟩:=bJ q;have⟨X,G,q⟩:=bJ q;have⟨I,hI,q⟩:=bJ q;cases q;have⟨j,Q,R⟩:=aR (show(bG (gN (I.val F)) fun j=>eQ (.arr n i.size) (X.val F) j)=some v from D);have⟨k,hk⟩:=sM Q;have N:=cM H E hI;rw[hk] at N;simp only[Rv] at N;exact lift rfl (aDl J hi (cM H E G) N R)
  .cases A
 | index t x ix=>cases A
 | lookup t m k ok=>
  simp only[uI] at A;split at A
  .rename_i kt et J;have⟨z,q,B⟩:=dS A;cases B;have⟨e,he,q⟩:=bJ q;have⟨zv,hz,q⟩:=bJ q;have⟨M,hM,q⟩:=bJ q;have⟨K,hK,q⟩:=bJ q;cases q;exact lift rfl (aHc hA.eq hA.key J he hz E (cM H E hM) (cM H E hK) D)
  .cases A
 | mapUpdate t m k x=>
  simp only[uI] at A;split at A
  .have⟨y,_,B⟩:=lC A;cases B
  .cases A
 | mapEntry t m k=>cases A
 | entryStore t m s x=>cases A
 | range t x=>cases A
 | next x b=>cases A
 | entry x=>cases A
 | typeAssert x xt t ok=>cases A
 | extract x i=>
  have⟨z,q,B⟩:=dS A;cases B;have⟨X,G,q⟩:=bJ q;cases q;exact lift rfl (aFx (cM H E G) D)
 | call c=>
  have⟨callee,args,L⟩:=c;cases callee with
  | value f=>
   simp only[uI] at A;split at A
   .cases A
   .have⟨y,_,B⟩:=lC A;cases B
  | invoke r m=>cases A
  | builtin b=>
   have arr:∀ {α:Type} {x:Array α} {l:List α},x.toList=l->x=l.toArray:=fun h=>by apply Ft;rw[h]
   simp only[uI] at A;split at A
   .rename_i x t hx ht;have:=arr hx;subst this;have:=arr ht;subst this;split at A
    .rename_i e J;have⟨z,q,B⟩:=dS A;cases B;have⟨X,G,q⟩:=bJ q;cases q;exact lift (s:=Builtin.len_ #[t] type #[a.eval x]) (by simp [execOp,resolve,invoke,builtin]) (aII J (cM H E G) D)
    .cases A
   .have⟨z,q,B⟩:=dS A;cases B;have⟨Xs,ao,q⟩:=bJ q;cases q;have O:=pL H E ao;have D:nP true (eF Xs F)=some v:=D;refine lift (s:=Builtin.max_ L type (args.map a.eval)) rfl ?_;unfold Builtin.max_;rw[Et];cases aa:eF Xs F with
    | nil=>rw[aa] at D;simp [nP] at D
    | cons u us=>
     rw[aa] at D O;rw[dK] at O;have⟨U,Us,he,hU,aw⟩:=O;rw[he];exact aF8 aw hU D
   .have⟨z,q,B⟩:=dS A;cases B;have⟨Xs,ao,q⟩:=bJ q;cases q;have O:=pL H E ao;have D:nP false (eF Xs F)=some v:=D;refine lift (s:=Builtin.min_ L type (args.map a.eval)) rfl ?_;unfold Builtin.min_;rw[Et];cases aa:eF Xs F with
    | nil=>rw[aa] at D;simp [nP] at D
    | cons u us=>
     rw[aa] at D O;rw[dK] at O;have⟨U,Us,he,hU,aw⟩:=O;rw[he];exact aFV aw hU D
   .split at A
    .rw[Bn] at A;split at A
     .have⟨y,_,B⟩:=lC A;cases B
     .cases A
    .cases A
   .cases A
 | go c=>cases A
 | defer c=>cases A
 | panic x=>cases A
 | send x y=>cases A
 | recv t x b=>cases A
 | select cs b=>cases A
end Go.Ev
