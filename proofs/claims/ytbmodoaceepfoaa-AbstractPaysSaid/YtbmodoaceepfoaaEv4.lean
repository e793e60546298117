import Derived.Test.YtbmodoaceepfoaaEv3
set_option linter.all false
namespace Go.Ev
variable {P:Program}{σ:Env}{S:St}{w:World}
variable {t:TypeId}{i:TypeInfo}{F:Fr}
def addr_add(r o n:Nat):(⟨r,o,none⟩:Addr).add n=⟨r,o+n,none⟩:=Addr.add_mid r o n
def aJQ{e:TypeId}(j:P.underlying t=some (.slice e))(hi:P.info? e=some i){a:Act}(u:qR P σ F a.tmps)(y:mR P σ S w)
  {b off len cap:Nat} {o:Bool} {lo r mx:Option Operand} {z A B:Option cQ} (k:pO P lo=some z) (l:pO P r=some A) (f:pO P mx=some B)
  (m:mx.isSome=true->r.isSome=true) {X:Value} (C:Rv P σ (.sl b off len cap o) X) {v:AV} (h:aFE i.size b off len cap o z A B F=some v):
  ∃V,(Instr.slice t X (lo.map a.eval) (r.map a.eval) (mx.map a.eval)).run P w= .ok V w/\Rv P σ v V:=by
 simp only[Rv] at C;obtain⟨L,n,rfl⟩:=C;have⟨x,s,h⟩:=aO h;have g:=aIe f;have E:=(tI s).2.2.2;cases o with
 | false=>
  have c:=pF (e:=0) (isSlice:=true) u y k l f m s;simp only[Bw,ite_self,aR] at c h;simp only[Eh,Bf];rw[cS] at h;split at h
  .rename_i d;rw[Bn] at d;cases h;refine⟨_,by simp [Instr.slice,run_underlying j,c,sizeOf,typeInfo,hi,d];rfl,?_⟩;simp only[Rv];exact⟨L,n,by simp [d]⟩
  .rename_i d;rw[Bn] at d;cases h;refine⟨.slice (some ⟨L.r,L.d+off+x.1 * i.size,none⟩) (x.2.1 - x.1) (x.2.2 - x.1),by simp [Instr.slice,run_underlying j,c,sizeOf,typeInfo,hi,d,addr_add],?_⟩;simp only[Rv];exact⟨L,n,by simp [Da]⟩
 | true=>
  have c:=pF (e:=L.e) (isSlice:=true) u y k l f m s;simp only[aL,g] at h;simp only[Fc];cases D:mx.isNone
  .rw[D] at h c;simp only[Eh,Bf,aR] at c h;rw[cS] at h;split at h
   .rename_i d;rw[Bn] at d;cases h;refine⟨_,by simp [Instr.slice,run_underlying j,c,sizeOf,typeInfo,hi,d];rfl,?_⟩;simp only[Rv];exact⟨L,n,by simp [d]⟩
   .rename_i d;rw[Bn] at d;cases h;refine⟨.slice (some ⟨L.r,L.d+off+x.1 * i.size,none⟩) (x.2.1 - x.1) (x.2.2 - x.1),by simp [Instr.slice,run_underlying j,c,sizeOf,typeInfo,hi,d,addr_add],?_⟩;simp only[Rv];exact⟨L,n,by simp [Da]⟩
  .rw[D] at h c;simp only[Fc,aL] at c h;rw[cS] at h;split at h
   .rename_i d;rw[Bn] at d;cases h;have p:x.2.1 - x.1=0:=by omega
    simp only[Instr.slice,Sem.run_bind,run_underlying j,Result.andThen_ok,c,sizeOf,typeInfo,run_program,hi,Sem.run_pure,p];by_cases q:x.2.2+L.e=x.1
    .exact⟨_,by rw[if_pos q],by simp only[Rv];exact⟨_,_,rfl⟩⟩
    .exact⟨_,by rw[if_neg q],by simp only[Rv];exact⟨_,_,rfl⟩⟩
   .rename_i d;rw[Bn] at d;cases h;have q:¬ (x.2.2+L.e=x.1):=by omega
    refine⟨.slice (some ⟨L.r,L.d+off+x.1 * i.size,none⟩) (x.2.1 - x.1) (x.2.2+L.e - x.1),by simp [Instr.slice,run_underlying j,c,sizeOf,typeInfo,hi,q,addr_add],?_⟩;simp only[Rv];refine⟨L,n,?_⟩;simp only[Fc,Da];congr 1;omega
def aHX{e:TypeId}(q:P.underlying t=some (.slice e))(hi:P.info? e=some i){a:Act}(r:qR P σ F a.tmps)(s:mR P σ S w)
  {lo d mx:Option Operand} {l m n:Option cQ} (f:pO P lo=some l) (g:pO P d=some m) (j:pO P mx=some n)
  (k:mx.isSome=true->d.isSome=true) {X:Value} (o:Rv P σ .emp X) {v:AV} (h:aLa l m n F=some v):
  ∃V,(Instr.slice t X (lo.map a.eval) (d.map a.eval) (mx.map a.eval)).run P w= .ok V w/\Rv P σ v V:=by
 simp only[Rv] at o;obtain⟨A,c,rfl⟩:=o;have⟨x,p,h⟩:=aO h;cases h;have z:=(tI p).2.2.2;have b:=pF (e:=c) (isSlice:=true) r s f g j k p;simp only[An] at b;have u:x.1=0:=by omega
 have y:x.2.1=0:=by omega
 simp only[Instr.slice,Sem.run_bind,run_underlying q,Result.andThen_ok,b,sizeOf,typeInfo,run_program,hi,Sem.run_pure,u,y,Dz,Dv];refine⟨_,rfl,?_⟩;simp only[Rv,Es,Addr.add_zero',ite_self];exact⟨A,_,rfl⟩
def aIf{e:TypeId}(p:P.underlying t=some (.slice e))(hi:P.info? e=some i){a:Act}(q:qR P σ F a.tmps)(r:mR P σ S w)
  {lo c mx:Option Operand} {k l m:Option cQ} (d:pO P lo=some k) (f:pO P c=some l) (g:pO P mx=some m)
  (j:mx.isSome=true->c.isSome=true) {X:Value} (n:Rv P σ .cr X) {v:AV} (h:aKQ k l m F=some v):
  ∃V,(Instr.slice t X (lo.map a.eval) (c.map a.eval) (mx.map a.eval)).run P w= .ok V w/\Rv P σ v V:=by
 simp only[Rv] at n;subst n;have⟨x,o,h⟩:=aO h;cases h;have z:=(tI o).2.2.2;have b:=pF (e:=0) (isSlice:=true) q r d f g j o;simp only[Bw,ite_self] at b;have s:x.1=0:=by omega
 have u:x.2.1=0:=by omega
 have y:x.2.2=0:=by omega
 simp only[Instr.slice,Sem.run_bind,run_underlying p,Result.andThen_ok,b,sizeOf,typeInfo,run_program,hi,Sem.run_pure,s,u,y,Fc,Dv];exact⟨_,rfl,by simp only[Rv]⟩
def aHG{e:TypeId}{n:Nat}(m:P.underlying t=some (.array n e))(hi:P.info? e=some i){a:Act}(u:qR P σ F a.tmps)(y:mR P σ S w)
  {b off:Nat} {lo f mx:Option Operand} {o p q:Option cQ} (g:pO P lo=some o) (j:pO P f=some p) (k:pO P mx=some q)
  (l:mx.isSome=true->f.isSome=true) {X:Value} (r:Rv P σ (.ptr b off) X) {v:AV} (h:aNh n i.size b off o p q F=some v):
  ∃V,(Instr.sliceAt t X (lo.map a.eval) (f.map a.eval) (mx.map a.eval)).run P w= .ok V w/\Rv P σ v V:=by
 simp only[Rv] at r;obtain⟨L,s,rfl⟩:=r;have⟨x,z,h⟩:=aO h;have c:=pF (e:=0) (isSlice:=false) u y g j k l z;simp only[Bw,ite_self] at c;rw[cS] at h;split at h
 .rename_i d;rw[Bn] at d;cases h;refine⟨_,by simp [Instr.sliceAt,run_underlying m,Instr.sureAddr,c,sizeOf,typeInfo,hi,d];rfl,?_⟩;simp only[Rv];exact⟨L,s,by simp [d]⟩
 .rename_i d;rw[Bn] at d;cases h;refine⟨.slice (some ⟨L.r,L.d+off+x.1 * i.size,none⟩) (x.2.1 - x.1) (x.2.2 - x.1),by simp [Instr.sliceAt,run_underlying m,Instr.sureAddr,c,sizeOf,typeInfo,hi,d,addr_add],?_⟩;simp only[Rv];exact⟨L,s,by simp [Da]⟩
def uY(f:vP P){d:TypeId}{k:AV}{K:Value}(g:Rv P σ k K):∀ {m:List (AV×AV)} {a:List MapEntry} {i:Nat} {r:Option (Nat×AV)},uM P σ m a->sM (eqT P d) k m i=some r->
  ∃R,(Instr.findAsking d K a i).run P w= .ok R w/\(match r,R with
   | none,none=>True
   | some (j,v),some (l,V)=>j=l/\Rv P σ v V
   | _,_=>False)
 | [],a,i,r,c,h=>by
  simp only[sM,Ay] at h;subst h;have c:a= []:=c;subst c;exact⟨none,rfl,trivial⟩
 | (k',v)::m,a,i,r,c,h=>by
  obtain⟨e,n,rfl,o,p,q⟩:=c;simp only[sM] at h;have⟨b,s,h⟩:=aO h;have heq:(Op.equal d K e.key).run P w= .ok b w:=(zJ (w:=w) f g o s).2 9998;cases b
  .rw[aR] at h;have⟨R,t,u⟩:=uY f g q h;exact⟨R,by simp only[Instr.findAsking,Sem.run_bind,heq,Result.andThen_ok];exact t,u⟩
  .rw[aL] at h;cases h;exact⟨some (i,e.val),by simp [Instr.findAsking,heq],rfl,p⟩
end Go.Ev
namespace Go.Ev
variable {P:Program}{σ:Env}{S:St}{w:World}
variable {r:Option (Nat×AV)}{ok:Bool}{v:AV}
def aGx(P:Program)(σ:Env):Option (Nat×AV)->Option (Nat×Value)->Prop
 | none,none=>True
 | some (j,v),some (a,V)=>j=a/\Rv P σ v V
 | _,_=>False
def tX{d:TypeDesc}{e:EqP}(o:(d= .string/\e= .str)\/((∃k,d= .int k)/\e= .int)){k:AV}{K:Value}(c:Rv P σ k K):
  ∀ {m:List (AV×AV)} {f:List MapEntry} {i:Nat} {r:Option (Nat×AV)},uM P σ m f->sM (.p e) k m i=some r->∃R,Instr.findNow d K f i=some R/\aGx P σ r R
 | [],f,i,r,g,h=>by
  simp only[sM,Ay] at h;subst h;have g:f= []:=g;subst g;exact⟨none,rfl,trivial⟩
 | (k',v)::m,f,i,r,g,h=>by
  obtain⟨x,q,rfl,j,s,t⟩:=g;simp only[sM] at h;have⟨b,a,h⟩:=aO h;have a:xZ e k k'=some b:=a;have p:Instr.sameNow d K x.key=some b:=by
   rcases o with⟨rfl,rfl⟩|⟨⟨A,rfl⟩,rfl⟩
   .cases k<;>simp only[xZ,reduceCtorEq] at a;cases k'<;>simp only[reduceCtorEq] at a;simp only[Rv] at c j;obtain⟨rfl,u⟩:=c;have⟨y,z⟩:=j;cases a;rw[y];simp only[Instr.sameNow];rw[beq_toListBytes,aDw u z]
   .cases k<;>simp only[xZ,reduceCtorEq] at a;cases k'<;>simp only[reduceCtorEq] at a;simp only[Rv] at c j;subst c;have⟨l,n⟩:=cH a;have:=aAx l;subst this;cases n;rw[j];simp [Instr.sameNow,jA]
  cases b
  .rw[aR] at h;have⟨R,l,n⟩:=tX o c t h;exact⟨R,by simp only[Instr.findNow,p];exact l,n⟩
  .rw[aL] at h;cases h;exact⟨some (i,x.val),by simp only[Instr.findNow,p],rfl,s⟩
def aAr{a:TypeId}{e:tC}(h:aCh P a=some e):(P.underlying a=some .string/\e= .p .str)\/((∃k,P.underlying a=some (.int k))/\e= .p .int)\/
  (e=eqT P a/\((∃c,P.underlying a=some (.struct c)/\c.all (fun f=>plainKey (eqP P f.type))=true)\/(∃n el,P.underlying a=some (.array n el)/\plainKey (eqP P el)=true))):=by
 unfold aCh at h;split at h
 .cases h;exact .inl ⟨‹_›,rfl⟩
 .cases h;exact .inr (.inl ⟨⟨_, ‹_›⟩,rfl⟩)
 .rename_i c d;split at h
  .rename_i l g;rw[Bq] at h;split at h
   .rename_i b;cases h;rw[Cy] at b;exact .inr (.inr ⟨g.symm,.inl ⟨c,d,b.1⟩⟩)
   .cases h
  .cases h
 .rename_i n el d;split at h
  .rename_i l g;rw[Bq] at h;split at h
   .rename_i b;cases h;rw[Cy] at b;exact .inr (.inr ⟨g.symm,.inr ⟨n,el,d,b.1⟩⟩)
   .cases h
  .cases h
 .cases h
def aCO{b:TypeId}{l:List (Nat×EqP)}(h:aCh P b=some (.struct l)):aCy 0 l=true:=by
 unfold aCh at h;split at h
 .cases h
 .cases h
 .split at h
  .rw[Bq] at h;split at h
   .rename_i a;cases h;rw[Cy] at a;exact a.2
   .cases h
  .cases h
 .split at h
  .rw[Bq] at h;split at h
   .rename_i a;cases h;rw[Cy] at a;exact a.2
   .cases h
  .cases h
 .cases h
def aEU(P:Program):Prop:=∀ (σ:Env) (w:World) (a:TypeId) (e:tC) (k:AV) (K:Value) (empty:Bool),aCh P a=some e->Rv P σ k K->
 (eqv e k k).isSome=true->(Instr.checkKey empty 10000 a K).run P w= .ok () w
def aAo(s:vP P){l:TypeId}{e:tC}(o:aCh P l=some e){k:AV}{K:Value}(p:Rv P σ k K){m:List (AV×AV)}{g:List MapEntry}(q:uM P σ m g)
  (h:sM e k m 0=some r):∃R,(Instr.findKey l K g).run P w= .ok R w/\aGx P σ r R:=by
 rcases aAr o with⟨a,rfl⟩|⟨⟨j,a⟩,rfl⟩|⟨rfl,a⟩
 .have⟨R,b,c⟩:=tX (d:=.string) (.inl ⟨rfl,rfl⟩) p q h;exact⟨R,by simp [Instr.findKey,run_underlying a,b],c⟩
 .have⟨R,b,c⟩:=tX (d:=.int j) (.inr ⟨⟨j,rfl⟩,rfl⟩) p q h;exact⟨R,by simp [Instr.findKey,run_underlying a,b],c⟩
 .have⟨R,b,c⟩:=uY (w:=w) s p q h;have f:aGx P σ r R:=by
   cases r<;>cases R<;>first | exact c | trivial
  have i:∃d,P.underlying l=some d/\∀X Y,Instr.sameNow d X Y=none:=by
   rcases a with⟨u,a,_⟩|⟨n,el,a,_⟩
   .exact⟨_,a,fun X Y=>rfl⟩
   .exact⟨_,a,fun X Y=>rfl⟩
  have⟨d,i,t⟩:=i;cases g with
  | nil=>
   refine⟨none,by simp [Instr.findKey,run_underlying i,Instr.findNow],?_⟩;simp [Instr.findAsking] at b;subst b;exact f
  | cons x g=>
   refine⟨R,?_,f⟩;simp only[Instr.findKey,Sem.run_bind,run_underlying i,Result.andThen_ok,Instr.findNow,t];exact b
def xR{a:TypeId}(h:P.underlying a=some .string\/∃j,P.underlying a=some (.int j))(K:Value)(empty:Bool):(Instr.checkKey empty 10000 a K).run P w= .ok () w:=by
 show(Instr.checkKey empty (9999+1) a K).run P w= .ok () w;generalize 9999=n;rcases h with h|⟨j,h⟩<;>simp [Instr.checkKey,run_underlying h]
def aJY{m:AV}{M:Value}{e:List (AV×AV)}(g:mR P σ S w)(d:Rv P σ m M)(h:uW S.h m=some e):
  ∃a:Array MapEntry,uM P σ e a.toList/\((M= .map none/\a= #[])\/∃r c,M= .map (some r)/\w.heap[r]? =some (.map a c)):=by
 cases m<;>simp only[uW,reduceCtorEq] at h<;>simp only[Rv] at d
 .obtain⟨L,i,rfl⟩:=d;have⟨bl,j,f⟩:=aO h;cases bl<;>simp only[tS,reduceCtorEq,Ay] at f;subst f;have⟨n,b,_,a,c,k,l⟩:=g.blk _ _ j;rw[i] at b;cases b;exact⟨a,l,.inr ⟨L.r,c,rfl,k⟩⟩
 .cases h;subst d;exact⟨#[],rfl,.inl ⟨rfl,rfl⟩⟩
def aBf{V:Value}{b:Bool}(h:Rv P σ v V):Rv P σ (aFi ok v b) (if ok=true then .tuple #[V,.bool b] else V):=by
 unfold aFi;cases ok
 .exact h
 .rw[aL,if_pos rfl];simp only[Rv];exact⟨_,rfl,dL.2 ⟨_,_,rfl,h,dL.2 ⟨_,_,rfl,by simp only[Rv],dS.2 rfl⟩⟩⟩
def aCG{e:tC}{k:AV}{a:List (AV×AV)}(h:pL e k a=some r):(eqv e k k).isSome=true/\sM e k a 0=some r:=by
 have⟨b,c,d⟩:=aO h;exact⟨by rw[c];rfl,d⟩
def aCM{R:Option (Nat×Value)}{z:AV}{Z:Value}(a:Rv P σ z Z)(b:aGx P σ r R)(h:pM r z ok=some v):
  (R=none/\Rv P σ v (if ok=true then .tuple #[Z,.bool false] else Z))\/∃j V,R=some (j,V)/\Rv P σ v (if ok=true then .tuple #[V,.bool true] else V):=by
 cases r with
 | none=>
  cases R with
  | none=>
   simp only[pM,Ay] at h;subst h;exact .inl ⟨rfl,aBf a⟩
  | some x=>exact b.elim
 | some x=>
  cases R with
  | none=>exact b.elim
  | some y=>
   simp only[pM,Ay] at h;subst h;exact .inr ⟨y.1,y.2,rfl,aBf b.2⟩
def aHr(B:vP P)(C:aEU P){t g q:TypeId}{e:tC}{z:AV}(p:P.underlying t=some (.map g q))(l:aCh P g=some e)(D:aIR P q=some z)
  {m k:AV} {M K:Value} (E:mR P σ S w) (F:Rv P σ m M) (u:Rv P σ k K) {v:AV} (h:(bD (uW S.h m) fun x=>bD (pL e k x) fun r=>pM r z ok)=some v):
  ∃V,(Instr.lookup t M K ok).run P w= .ok V w/\Rv P σ v V:=by
 have⟨x,G,h⟩:=aO h;have⟨r,s,h⟩:=aO h;have⟨b,s⟩:=aCG s;have⟨H,I,J⟩:=aJY E F G;have⟨R,f,y⟩:=aAo (w:=w) B l u I s;have⟨i,Z,hi,L,n⟩:=aEw (σ:=σ) D;have a:∀empty,(Instr.checkKey empty 10000 g K).run P w= .ok () w:=fun empty=>C σ w g e k K empty l u b;have o:(zeroValue q).run P w= .ok Z w:=yZ hi L;rcases J with⟨rfl,rfl⟩|⟨N,c,rfl,O⟩
 .have f:(Instr.findKey g K []).run P w= .ok R w:=f;rcases aCM n y h with⟨rfl,d⟩|⟨j,V,rfl,d⟩
  .refine⟨_,?_,d⟩;simp only[Instr.lookup,Sem.run_bind,run_underlying p,Result.andThen_ok,Sem.run_pure,a,f,o]
  .refine⟨_,?_,d⟩;simp only[Instr.lookup,Sem.run_bind,run_underlying p,Result.andThen_ok,Sem.run_pure,a,f]
 .have A:(getObj N).run P w= .ok (.map H c) w:=by simp [getObj,Sem.run,O]
  rcases aCM n y h with⟨rfl,d⟩|⟨j,V,rfl,d⟩
  .refine⟨_,?_,d⟩;simp only[Instr.lookup,Sem.run_bind,run_underlying p,Result.andThen_ok,A,Sem.run_pure,a,f,o]
  .refine⟨_,?_,d⟩;simp only[Instr.lookup,Sem.run_bind,run_underlying p,Result.andThen_ok,A,Sem.run_pure,a,f]
end Go.Ev
namespace Go.Ev
variable {P:Program}{σ:Env}{S:St}{w:World}
variable {x v:AV}{X:Value}
def aHU(_:Program):Prop:=True
structure aAn(P:Program):Prop where
 eq:vP P
 key:aEU P
 mth:aHU P
def aHc(i:aAn P){o:Oper}{a:Act}{f:Operand}(d:o.op= .nilCheck f)(e:a.eval f=X)(c:Rv P σ x X)(h:wN x=some v):
  ∃V,(execOp a.eval o).run P w= .ok (.value V) w/\Rv P σ v V:=by
 cases x<;>simp only[wN,reduceCtorEq,Ay] at h
 case ptr=>
  subst h;have b:=c;simp only[Rv] at b;obtain⟨L,g,rfl⟩:=b;exact⟨_,by simp only[execOp,d,e];rfl,c⟩
 case fn=>
  subst h;have b:=c;simp only[Rv] at b;obtain⟨A,B,rfl,_⟩:=b;exact⟨_,by simp only[execOp,d,e];rfl,c⟩
 case yld=>
  subst h;have b:=c;simp only[Rv] at b;obtain⟨L,g,rfl⟩:=b;exact⟨_,by simp only[execOp,d,e];rfl,c⟩
 case iface=>
  subst h;have b:=c;simp only[Rv] at b;obtain⟨W,rfl,_⟩:=b;exact⟨_,by simp only[execOp,d,e];rfl,c⟩
def aGf:∀ {g:bu} {d:List Value} {x v:AV} {X:Value},jG P σ g d->Rv P σ x X->lM true g x=some v->∃V,(d.foldlM Builtin.max2 X).run P w= .ok V w/\Rv P σ v V
 | [],d,x,v,X,c,f,h=>by
  rw[dS] at c;subst c;simp only[lM,Ay] at h;subst h;exact⟨X,rfl,f⟩
 | y::g,d,x,v,X,c,f,h=>by
  rw[dL] at c;obtain⟨Y,Ys,rfl,j,i⟩:=c;unfold lM at h;split at h
  .rename_i e;cases e
  .rename_i k' b vs k a e;cases e;have⟨l,m⟩:=cH h;simp only[Rv] at j f;subst j;subst f;have:=aAx l;subst this;have⟨V,n,o⟩:=aGf (X:=.int k (if b>a then b else a)) i (by
    simp only[Rv,aL];rw[cS,qT];simp only[decide_eq_true_eq];congr 1;split<;>split<;>omega) m
   exact⟨V,by rw[List.foldlM_cons];simp only[Sem.run_bind,Builtin.max2,Sem.run_pure,Result.andThen_ok];exact n,o⟩
  .cases h
def aFY:∀ {g:bu} {d:List Value} {x v:AV} {X:Value},jG P σ g d->Rv P σ x X->lM false g x=some v->∃V,(d.foldlM Builtin.min2 X).run P w= .ok V w/\Rv P σ v V
 | [],d,x,v,X,c,f,h=>by
  rw[dS] at c;subst c;simp only[lM,Ay] at h;subst h;exact⟨X,rfl,f⟩
 | y::g,d,x,v,X,c,f,h=>by
  rw[dL] at c;obtain⟨Y,Ys,rfl,j,i⟩:=c;unfold lM at h;split at h
  .rename_i e;cases e
  .rename_i k' b vs k a e;cases e;have⟨l,m⟩:=cH h;simp only[Rv] at j f;subst j;subst f;have:=aAx l;subst this;have⟨V,n,o⟩:=aFY (X:=.int k (if b<a then b else a)) i (by
    simp only[Rv,aR];rw[cS,qT];simp only[decide_eq_true_eq];congr 1;split<;>split<;>omega) m
   exact⟨V,by rw[List.foldlM_cons];simp only[Sem.run_bind,Builtin.min2,Sem.run_pure,Result.andThen_ok];exact n,o⟩
  .cases h
def aI9{t ty:TypeId}{e:TypeId}(b:P.underlying t=some (.slice e))(a:Rv P σ x X)(h:lW x=some v):∃V,(Builtin.len_ #[t] ty #[X]).run P w= .ok V w/\Rv P σ v V:=by
 cases x<;>simp only[lW,reduceCtorEq,Ay] at h<;>subst h<;>simp only[Rv] at a
 .obtain⟨L,_,rfl⟩:=a;exact⟨_,by simp [Builtin.len_,run_underlying b];rfl,by simp only[Rv];rfl⟩
 .subst a;exact⟨_,by simp [Builtin.len_,run_underlying b];rfl,by simp only[Rv];rfl⟩
 .obtain⟨A,c,rfl⟩:=a;exact⟨_,by simp [Builtin.len_,run_underlying b];rfl,by simp only[Rv];rfl⟩
end Go.Ev
namespace Go.Ev
variable {P:Program}{σ:Env}{S:St}{w:World}
variable {r:AOp}
def eR{o:Option QOp}(h:q o=some r):∃x,o=some x/\r= .q x:=by
 cases o with
 | none=>cases h
 | some x=>cases h;exact⟨x,rfl,rfl⟩
def mG{o:Option yX}(h:al o=some r):∃x,o=some x/\r= .a x:=by
 cases o with
 | none=>cases h
 | some x=>cases h;exact⟨x,rfl,rfl⟩
def lA{o:Option XOp}(h:xx o=some r):∃x,o=some x/\r= .x x:=by
 cases o with
 | none=>cases h
 | some x=>cases h;exact⟨x,rfl,rfl⟩
def bG{b c:Type}{o:Option b}{f:b->Option c}{r:c}(h:(o >>=f)=some r):∃a,o=some a/\f a=some r:=by
 cases o with
 | none=>cases h
 | some a=>exact⟨a,rfl,h⟩
def aGo(hA:aAn P){o:Oper}{qo:QOp}(A:vF P o.op=some (.q qo)){F:Fr}{a:Act}(G:qR P σ F a.tmps)(E:mR P σ S w){v:AV}(D:iC qo F S.h=some v):
  ∃V,(execOp a.eval o).run P w= .ok (.value V) w/\Rv P σ v V:=by
 have lift:∀ {s:Sem Value},execOp a.eval o=(do pure (.value (<-s)))->(∃V,s.run P w= .ok V w/\Rv P σ v V)->∃V,(execOp a.eval o).run P w= .ok (.value V) w/\Rv P σ v V:=by
  rintro s he ⟨V,q,B⟩;exact⟨V,by rw[he];simp [q],B⟩
 have⟨aI,op,type,pos,after,guard⟩:=o;simp only at A;cases op with
 | move x=>
  have⟨y,q,B⟩:=eR A;cases B;have⟨X,H,q⟩:=bG q;cases q;cases D;exact⟨_,rfl,cO G E H⟩
 | assign x=>
  have⟨y,q,B⟩:=eR A;cases B;have⟨X,H,q⟩:=bG q;cases q;cases D;exact⟨_,rfl,cO G E H⟩
 | pick c x y=>
  have⟨z,q,B⟩:=eR A;cases B;have⟨C,hC,q⟩:=bG q;have⟨X,H,q⟩:=bG q;have⟨Y,hY,q⟩:=bG q;cases q;exact aJs (cO G E hC) (cO G E H) (cO G E hY) D
 | alloc t=>have⟨y,_,B⟩:=mG A;cases B
 | box t x=>have⟨y,_,B⟩:=mG A;cases B
 | build t ps=>
  simp only[vF] at A;split at A
  .rename_i fs J;rw[Bq] at A;split at A
   .rename_i hk;have⟨y,q,B⟩:=eR A;cases B;have⟨z,hz,q⟩:=bG q;have⟨qs,hq,q⟩:=bG q;cases q;have⟨cs,Q,R⟩:=aO (show(bD (eO z (dN F qs)) fun cs=>some (.agg cs))=some v from D);cases R;exact lift rfl (aA0 G E J hk hz hq Q)
   .cases A
  .rename_i n e J;have⟨y,q,B⟩:=eR A;cases B;have⟨i,hi,q⟩:=bG q;have⟨z,hz,q⟩:=bG q;have⟨qs,hq,q⟩:=bG q;cases q;have⟨cs,Q,R⟩:=aO (show(bD (eO z (dN F qs)) fun cs=>some (.agg cs))=some v from D);cases R;exact lift rfl (aBk G E J hi hz hq Q)
  .cases A
 | buildSlice t n ps=>have⟨y,_,B⟩:=mG A;cases B
 | insert t m k x=>
  simp only[vF] at A;split at A
  .have⟨y,_,B⟩:=lA A;cases B
  .cases A
 | load t x=>
  have⟨y,q,B⟩:=eR A;cases B;have⟨⟨agg,n⟩,an,q⟩:=bG q;have⟨X,H,q⟩:=bG q;cases q;exact lift rfl (aMB an E (cO G E H) D)
 | store t x y=>
  have⟨y,_,B⟩:=lA A;cases B
 | ready g=>cases A
 | waits g=>cases A
 | nilCheck x=>
  have⟨y,q,B⟩:=eR A;cases B;have⟨X,H,q⟩:=bG q;cases q;exact aHc hA rfl rfl (cO G E H) D
 | binOp op t x y t'=>
  have⟨z,q,B⟩:=eR A;cases B;have⟨X,H,q⟩:=bG q;have⟨Y,hY,q⟩:=bG q;cases q;exact lift rfl (aMz hA.eq (cO G E H) (cO G E hY) D)
 | unOp op t x=>
  have⟨z,q,B⟩:=eR A;cases B;have⟨X,H,q⟩:=bG q;cases q;exact lift rfl (aMT (cO G E H) D)
 | convert src aI x=>cases A
 | sliceToArrayPointer t x=>cases A
 | makeInterface t x=>
  simp only[vF] at A;split at A
  .cases A
  .rename_i d aV J;have⟨z,q,B⟩:=eR A;cases B;have⟨X,H,q⟩:=bG q;cases q;cases D;refine lift rfl ⟨.iface t (a.eval x),?_,by simp only[Rv];exact⟨_,rfl,cO G E H⟩⟩;simp only[Instr.makeInterface,Sem.run_bind,run_underlying J,Result.andThen_ok];cases d<;>first | rfl | (exact absurd J (by simpa using aV _))
  .cases A
 | makeFunc fn first cap=>
  cases fn with
  | func f=>
   have⟨z,q,B⟩:=eR A;cases B;have⟨X,H,q⟩:=bG q;have⟨Y,hY,q⟩:=bG q;cases q;cases D;refine lift rfl ⟨_,rfl,?_⟩;simp only[Rv];refine⟨(first.map a.eval).toList,(cap.map a.eval).toList,rfl,?_,?_⟩
   .rw[Fk];exact pS G E H
   .rw[Fk];exact pS G E hY
  | method name=>cases A
  | methodOf t name=>cases A
  | via t aZ f p=>cases A
  | yield l=>cases A
 | makeMap t r=>cases r<;>simp only[vF,reduceCtorEq] at A;have⟨y,_,B⟩:=mG A;cases B
 | makeChan t x=>cases A
 | makeSlice t l c=>have⟨y,_,B⟩:=mG A;cases B
 | slice t x lo hh mx=>
  simp only[vF,Bq] at A;split at A
  .cases A
  .rename_i ab;have ac:mx.isSome=true->hh.isSome=true:=fun hm=>by
    cases hh with
    | none=>simp [hm] at ab
    | some _=>rfl
   split at A
   .rename_i e J;have⟨z,q,B⟩:=eR A;cases B;have⟨i,hi,q⟩:=bG q;have⟨X,H,q⟩:=bG q;have⟨Lo,T,q⟩:=bG q;have⟨Hi,W,q⟩:=bG q;have⟨Mx,Z,q⟩:=bG q;cases q;have D:rS (.slice i.size) (X.val F) Lo Hi Mx F=some v:=D;have hx:=cO G E H;generalize X.val F=xv at D hx;cases xv<;>simp only[rS,reduceCtorEq] at D
    .refine lift rfl ?_;have⟨V,Q,R⟩:=aJQ J hi G E T W Z ac hx D;exact⟨V,by simp only[Instr.sliceAt,Sem.run_bind,run_underlying J,Result.andThen_ok];exact Q,R⟩
    .refine lift rfl ?_;have⟨V,Q,R⟩:=aIf J hi G E T W Z ac hx D;exact⟨V,by simp only[Instr.sliceAt,Sem.run_bind,run_underlying J,Result.andThen_ok];exact Q,R⟩
    .refine lift rfl ?_;have⟨V,Q,R⟩:=aHX J hi G E T W Z ac hx D;exact⟨V,by simp only[Instr.sliceAt,Sem.run_bind,run_underlying J,Result.andThen_ok];exact Q,R⟩
   .rename_i n e J;have⟨z,q,B⟩:=eR A;cases B;have⟨i,hi,q⟩:=bG q;have⟨X,H,q⟩:=bG q;have⟨Lo,T,q⟩:=bG q;have⟨Hi,W,q⟩:=bG q;have⟨Mx,Z,q⟩:=bG q;cases q;have D:rS (.arr n i.size) (X.val F) Lo Hi Mx F=some v:=D;have hx:=cO G E H;generalize X.val F=xv at D hx;cases xv<;>simp only[rS,reduceCtorEq] at D;exact lift rfl (aHG J hi G E T W Z ac hx D)
   .cases A
 | fieldAddr t x f=>
  simp only[vF] at A;split at A
  .rename_i fs J;have⟨z,q,B⟩:=eR A;cases B;have⟨fd,hf,q⟩:=bG q;have⟨i,hi,q⟩:=bG q;split at q
   .cases q
   .rename_i h0;have⟨X,H,q⟩:=bG q;cases q;exact lift rfl (aIi J hf hi h0 (cO G E H) D)
  .cases A
 | field t x f=>
  simp only[vF] at A;split at A
  .rename_i fs J;have⟨z,q,B⟩:=eR A;cases B;have⟨fd,hf,q⟩:=bG q;have⟨⟨agg,n⟩,an,q⟩:=bG q;have⟨X,H,q⟩:=bG q;cases q;exact lift rfl (aL8 J hf an (cO G E H) D)
  .cases A
 | indexAddr t x ix=>
  simp only[vF] at A;split at A
  .rename_i e J;have⟨z,q,B⟩:=eR A;cases B;have⟨i,hi,q⟩:=bG q;have⟨X,H,q⟩:=bG q;have⟨I,hI,q⟩:=bG q;cases q;have⟨j,Q,R⟩:=aO (show(bD (gL (I.val F)) fun j=>eY (.slice i.size) (X.val F) j)=some v from D);have⟨k,hk⟩:=sQ Q;have N:=cO G E hI;rw[hk] at N;simp only[Rv] at N;exact lift rfl (aEe J hi (cO G E H) N R)
  .rename_i n e J;have⟨z,q,B⟩:=eR A;cases B;have⟨i,hi,q⟩:=bG q;have⟨X,H,q⟩:=bG q;have⟨I,hI,q⟩:=bG q;cases q;have⟨j,Q,R⟩:=aO (show(bD (gL (I.val F)) fun j=>eY (.arr n i.size) (X.val F) j)=some v from D);have⟨k,hk⟩:=sQ Q;have N:=cO G E hI;rw[hk] at N;simp only[Rv] at N;exact lift rfl (aDj J hi (cO G E H) N R)
  .cases A
 | index t x ix=>cases A
 | lookup t m k ok=>
  simp only[vF] at A;split at A
  .rename_i kt et J;have⟨z,q,B⟩:=eR A;cases B;have⟨e,he,q⟩:=bG q;have⟨zv,hz,q⟩:=bG q;have⟨M,hM,q⟩:=bG q;have⟨K,hK,q⟩:=bG q;cases q;exact lift rfl (aHr hA.eq hA.key J he hz E (cO G E hM) (cO G E hK) D)
  .cases A
 | mapUpdate t m k x=>
  simp only[vF] at A;split at A
  .have⟨y,_,B⟩:=lA A;cases B
  .cases A
 | mapEntry t m k=>cases A
 | entryStore t m s x=>cases A
 | range t x=>cases A
 | next x b=>cases A
 | entry x=>cases A
 | typeAssert x xt t ok=>cases A
 | extract x i=>
  have⟨z,q,B⟩:=eR A;cases B;have⟨X,H,q⟩:=bG q;cases q;exact lift rfl (aFA (cO G E H) D)
 | call c=>
  have⟨callee,args,L⟩:=c;cases callee with
  | value f=>
   simp only[vF] at A;split at A
   .cases A
   .have⟨y,_,B⟩:=lA A;cases B
  | invoke r m=>cases A
  | builtin b=>
   have arr:∀ {α:Type} {x:Array α} {l:List α},x.toList=l->x=l.toArray:=fun h=>by apply Array.ext';rw[h]
   simp only[vF] at A;split at A
   .rename_i x t hx ht;have:=arr hx;subst this;have:=arr ht;subst this;split at A
    .rename_i e J;have⟨z,q,B⟩:=eR A;cases B;have⟨X,H,q⟩:=bG q;cases q;exact lift (s:=Builtin.len_ #[t] type #[a.eval x]) (by simp [execOp,resolve,invoke,builtin]) (aI9 J (cO G E H) D)
    .cases A
   .have⟨z,q,B⟩:=eR A;cases B;have⟨Xs,ao,q⟩:=bG q;cases q;have O:=pS G E ao;have D:oB true (dV Xs F)=some v:=D;refine lift (s:=Builtin.max_ L type (args.map a.eval)) rfl ?_;unfold Builtin.max_;rw[Fk];cases aa:dV Xs F with
    | nil=>rw[aa] at D;simp [oB] at D
    | cons u us=>
     rw[aa] at D O;rw[dL] at O;have⟨U,Us,he,hU,aw⟩:=O;rw[he];exact aGf aw hU D
   .have⟨z,q,B⟩:=eR A;cases B;have⟨Xs,ao,q⟩:=bG q;cases q;have O:=pS G E ao;have D:oB false (dV Xs F)=some v:=D;refine lift (s:=Builtin.min_ L type (args.map a.eval)) rfl ?_;unfold Builtin.min_;rw[Fk];cases aa:dV Xs F with
    | nil=>rw[aa] at D;simp [oB] at D
    | cons u us=>
     rw[aa] at D O;rw[dL] at O;have⟨U,Us,he,hU,aw⟩:=O;rw[he];exact aFY aw hU D
   .split at A
    .rw[Bq] at A;split at A
     .have⟨y,_,B⟩:=lA A;cases B
     .cases A
    .cases A
   .cases A
 | go c=>cases A
 | defer c=>cases A
 | panic x=>cases A
 | send x y=>cases A
 | recv t x b=>cases A
 | select cs b=>cases A
end Go.Ev
