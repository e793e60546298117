import Derived.Test.YtbmodoaceepfoaaEv2
import Derived.Laws.StructEq
import Derived.Laws.BytesString
import Derived.Laws.Slices
set_option linter.all false
abbrev Go.Ev.dx:=@Go.Ev.T.get_set
def Go.Ev.jh{p:Prop}(h:p:=by simp only;rw[dx,if_pos rfl]):p:=h
namespace Go.Ev
variable {P:Program}{σ:Env}{S:St}{w:World}
variable {b:cd}{op:BinOp}{t:TypeId}{x y:AV}{X Y:Value}
def aD8:∀ {a b:cd},Bytes a->Bytes b->rB a b=Op.bytesLess (a.map UInt8.ofNat) (b.map UInt8.ofNat)
 | a,[],_,_=>by cases a<;>simp [rB,Op.bytesLess]
 | [],_::_,_,_=>by simp [rB,Op.bytesLess]
 | x::a,y::b,d,e=>by
  have f:(UInt8.ofNat x).toNat=x:=aDq (d x (by simp));have g:(UInt8.ofNat y).toNat=y:=aDq (e y (by simp));have i:=aD8 (a:=a) (b:=b) (fun z c=>d z (by simp [c])) (fun z c=>e z (by simp [c]));simp only[rB,Dh,Op.bytesLess,i];have j:(decide (UInt8.ofNat x<UInt8.ofNat y))=Nat.blt x y:=by
   rw[Cv,decide_eq_true_eq,UInt8.lt_iff_toNat_lt,f,g];exact⟨fun h=>Al h,fun h=>Bd h⟩
  have k:(UInt8.ofNat x==UInt8.ofNat y)=Nat.beq x y:=by
   rw[Cv,beq_iff_eq,Bn,<-UInt8.toNat_inj,f,g]
  rw[j,k,cS,cS];cases Nat.blt x y<;>cases Nat.beq x y<;>simp
def Bytes.append{a:cd}(c:Bytes a)(d:Bytes b):Bytes (a++b):=fun x e=>by
 rcases Bi.1 e with h|h
 .exact c x h
 .exact d x h
def aDw{a:cd}(c:Bytes a)(d:Bytes b):((iP a).toList==(iP b).toList)=pQ a b:=by
 rw[Cv,aHF c d,beq_iff_eq,rT,rT];constructor
 .intro h;unfold iP;rw[h]
 .intro h;have:=congrArg (fun s:ByteArray=>s.data.toList) h;simpa [iP] using this
def aLW{a:cd}{v:AV}(d:Bytes a)(e:Bytes b)(h:aJM op a b=some v):
  ∃V,(binOp op t (.string (iP a)) (.string (iP b))).run P w= .ok V w/\Rv P σ v V:=by
 have c:∀op,binOp op t (.string (iP a)) (.string (iP b))=Op.stringOp op (iP a) (iP b):=fun op=>by cases op<;>rfl
 rw[c];have g:=aDw d e;rw[rT,rT] at g;have i:=aD8 d e;unfold aJM at h;cases op<;>simp only[reduceCtorEq,Ay] at h<;>simp only[Op.stringOp,rT,g,<-i]
 case add=>
  have⟨f,j⟩:=cH h;cases j;rw[gJ,gJ] at f;have f:=Bd f;have k:¬ (((iP a).size+(iP b).size:Nat):Int)>IntKind.i64.max:=by
   rw[tA,tA];simp [IntKind.max,IntKind.signed,IntKind.bits];omega
  refine⟨_,by rw[if_neg k];rfl,?_⟩;simp only[Rv,fT];exact⟨by rw[aHq],d.append e⟩
 all_goals (subst h;exact⟨_,rfl,by simp only[Rv]⟩)
def aHJ(t:TypeId):(∃d,P.underlying t=some d/\match eqP P t with
  | .bool=>d= .bool | .int=>∃k,d= .int k | .str=>d= .string | .ptr=>∃e,d= .pointer e | .slice=>∃e,d= .slice e
  | .map=>∃k e,d= .map k e | .func=>∃a b c,d= .func a b c | .iface=>∃m,d= .interface m | .no=>True)\/eqP P t= .no:=by
 unfold eqP;cases h:P.underlying t with
 | none=>exact .inr rfl
 | some d=>left;exact⟨d,rfl,by cases d<;>simp⟩
def aCk{b:Bool}(e:Rv P σ x X)(f:Rv P σ y Y)(h:xZ (eqP P t) x y=some b)(n:Nat):
  (Op.equalIn (n+1) t X Y).run P w= .ok b w:=by
 rcases aHJ (P:=P) t with⟨d,g,i⟩|j
 .cases l:eqP P t<;>rw[l] at h i<;>simp only at i
  case bool=>
   subst i;cases x<;>simp only[xZ,reduceCtorEq] at h<;>cases y<;>simp only[reduceCtorEq] at h;simp only[Rv] at e f;subst e;subst f;cases h;simp [Op.equalIn,run_underlying g,vZ]
  case int=>
   obtain⟨k,rfl⟩:=i;cases x<;>simp only[xZ,reduceCtorEq] at h<;>cases y<;>simp only[reduceCtorEq] at h;simp only[Rv] at e f;subst e;subst f;have⟨m,o⟩:=cH h;have:=aAx m;subst this;cases o;simp [Op.equalIn,run_underlying g,jA]
  case str=>
   subst i;cases x<;>simp only[xZ,reduceCtorEq] at h<;>cases y<;>simp only[reduceCtorEq] at h;simp only[Rv] at e f;obtain⟨rfl,p⟩:=e;obtain⟨rfl,q⟩:=f;cases h;rename_i a c;have:(iP a==iP c)=pQ a c:=by rw[beq_toListBytes,aDw p q]
   simp [Op.equalIn,run_underlying g,this]
  case ptr=>
   obtain⟨k,rfl⟩:=i;cases x<;>simp only[xZ,reduceCtorEq] at h<;>cases y<;>simp only[reduceCtorEq] at h<;>simp only[Rv] at e f<;>cases h
   .obtain⟨L,_,rfl⟩:=e;subst f;simp [Op.equalIn,run_underlying g]
   .obtain⟨L,_,rfl⟩:=f;subst e;simp [Op.equalIn,run_underlying g]
   .subst e;subst f;simp [Op.equalIn,run_underlying g]
  case slice=>
   obtain⟨k,rfl⟩:=i;cases x<;>simp only[xZ,reduceCtorEq] at h<;>cases y<;>simp only[reduceCtorEq] at h<;>simp only[Rv] at e f<;>cases h
   .obtain⟨L,_,rfl⟩:=e;subst f;simp [Op.equalIn,run_underlying g]
   .obtain⟨L,_,rfl⟩:=f;subst e;simp [Op.equalIn,run_underlying g]
   .subst e;subst f;simp [Op.equalIn,run_underlying g]
   .obtain⟨L,_,rfl⟩:=f;subst e;simp [Op.equalIn,run_underlying g]
   .obtain⟨L,_,rfl⟩:=e;subst f;simp [Op.equalIn,run_underlying g]
  case map=>
   obtain⟨k,r,rfl⟩:=i;cases x<;>simp only[xZ,reduceCtorEq] at h<;>cases y<;>simp only[reduceCtorEq] at h<;>simp only[Rv] at e f<;>cases h
   .obtain⟨L,_,rfl⟩:=e;subst f;simp [Op.equalIn,run_underlying g]
   .obtain⟨L,_,rfl⟩:=f;subst e;simp [Op.equalIn,run_underlying g]
   .subst e;subst f;simp [Op.equalIn,run_underlying g]
  case func=>
   obtain⟨s,u,v,rfl⟩:=i;cases x<;>simp only[xZ,reduceCtorEq] at h<;>cases y<;>simp only[reduceCtorEq] at h<;>simp only[Rv] at e f<;>cases h
   .obtain⟨A,B,rfl,_⟩:=e;subst f;simp [Op.equalIn,run_underlying g]
   .obtain⟨A,B,rfl,_⟩:=f;subst e;simp [Op.equalIn,run_underlying g]
   .subst e;subst f;simp [Op.equalIn,run_underlying g]
  case iface=>
   obtain⟨z,rfl⟩:=i;cases x<;>simp only[xZ,reduceCtorEq] at h<;>cases y<;>simp only[reduceCtorEq] at h<;>simp only[Rv] at e f<;>cases h
   .obtain⟨W,rfl,_⟩:=e;subst f;simp [Op.equalIn,run_underlying g]
   .obtain⟨W,rfl,_⟩:=f;subst e;simp [Op.equalIn,run_underlying g]
  case no=>simp [xZ] at h
 .rw[j] at h;simp [xZ] at h
def aMi{d f:Operand}{e:EqP}{b:Bool}(a:Rv P σ x X)(c:Rv P σ y Y)(h:xZ e x y=some b):
  eqGuard op t d f X Y=pure ():=by
 cases x<;>cases e<;>simp only[xZ,reduceCtorEq] at h<;>simp only[Rv] at a
 all_goals first
  | (subst a;cases op<;>rfl)
  | (obtain⟨rfl,_⟩:=a;cases op<;>rfl)
  | (obtain⟨L,_,rfl⟩:=a;cases op<;>rfl)
  | (obtain⟨L,_,rfl⟩:=a;cases op<;>rfl)
  | (obtain⟨A,B,rfl,_⟩:=a;cases op<;>rfl)
  | (obtain⟨A,rfl,_⟩:=a;cases op<;>rfl)
  | (cases y<;>simp only[reduceCtorEq] at h;simp only[Rv] at c;obtain⟨A,rfl,_⟩:=c;subst a;cases op<;>rfl)
end Go.Ev
namespace Go.Ev
variable {P:Program}{σ:Env}{S:St}{w:World}
variable {v x y:AV}{t:TypeId}{X Y:Value}
def aCU{a:IntKind×Int}(h:aHl v=some a):v= .int a.1 a.2:=by
 cases v<;>simp only[aHl,reduceCtorEq,Ay] at h;subst h;rfl
def aCR{a:cd}(h:aGT v=some a):v= .str a:=by
 cases v<;>simp only[aGT,reduceCtorEq,Ay] at h;subst h;rfl
def vP(P:Program):Prop:=∀ (σ:Env) (w:World) (t:TypeId) (a:List (Nat×EqP)) (c d:bu) (X Y:Value) (b:Bool),eqT P t= .struct a->Rv P σ (.agg c) X->Rv P σ (.agg d) Y->
 eqs a c d=some b->(∀op e f,(eqGuard op t e f X Y).run P w= .ok () w)/\∀n,(Op.equalIn (n+2) t X Y).run P w= .ok b w
def aS7{e:EqP}(h:eqT P t= .p e):e=eqP P t\/e= .no:=by
 unfold eqT at h;split at h
 .rw[Bq] at h;split at h
  .cases h;exact .inr rfl
  .cases h
 .rw[Bq] at h;split at h
  .cases h;exact .inr rfl
  .cases h
 .cases h;exact .inl rfl
def zJ(i:vP P){b:Bool}(c:Rv P σ x X)(d:Rv P σ y Y)(h:eqv (eqT P t) x y=some b):
  (∀op f g,(eqGuard op t f g X Y).run P w= .ok () w)/\∀n,(Op.equalIn (n+2) t X Y).run P w= .ok b w:=by
 cases a:eqT P t with
 | p e=>
  rw[a] at h;have h:xZ e x y=some b:=h;rcases aS7 a with rfl|rfl
  .exact⟨fun op f g=>by rw[aMi c d h];rfl,fun n=>aCk c d h (n+1)⟩
  .simp [xZ] at h
 | struct j=>
  rw[a] at h;cases x<;>simp only[eqv,reduceCtorEq] at h;cases y<;>simp only[reduceCtorEq] at h;have⟨_,h⟩:=cH h;have⟨_,h⟩:=cH h;exact i σ w t j _ _ X Y b a c d h
def aMz(o:vP P){op:BinOp}{s u:Operand}(c:Rv P σ x X)(d:Rv P σ y Y)(h:mL op (eqT P t) x y=some v):
  ∃V,(do eqGuard op t s u X Y;binOp op t X Y:Sem Value).run P w= .ok V w/\Rv P σ v V:=by
 unfold mL at h;split at h
 .rename_i a b p f;have:=aCU p;subst this;have:=aCU f;subst this;simp only[Rv] at c d;subst c;subst d;have⟨V,e,g⟩:=aJJ (P:=P) (σ:=σ) (w:=w) (t:=t) h;exact⟨V,by simp [eqGuard_at_int,e],g⟩
 .rename_i q;split at h
  .rename_i a b p f;have:=aCR p;subst this;have:=aCR f;subst this;simp only[Rv] at c d;obtain⟨rfl,c⟩:=c;obtain⟨rfl,d⟩:=d;have⟨V,e,g⟩:=aLW (P:=P) (σ:=σ) (w:=w) (t:=t) c d h;exact⟨V,by simp [eqGuard_at_string,e],g⟩
  .rename_i r;unfold aQK at h;have key:∀b,eqv (eqT P t) x y=some b->(binOp .eql t X Y).run P w= .ok (.bool b) w/\(binOp .neq t X Y).run P w= .ok (.bool !b) w:=by
    intro b f;have z:=(zJ (w:=w) o c d f).2 9998;have e:(Op.equal t X Y).run P w= .ok b w:=z;have i:∀k a k' j,¬ (X= .int k a/\Y= .int k' j):=by
     rintro k a k' j ⟨rfl,rfl⟩;cases x<;>simp only[Rv] at c<;>(try (simp at c;done))<;>(try (have⟨_,c⟩:=c;simp at c;done))<;>(try (have⟨_,_,c⟩:=c;simp at c;done));cases y<;>simp only[Rv] at d<;>(try (simp at d;done))<;>(try (have⟨_,d⟩:=d;simp at d;done))<;>(try (have⟨_,_,d⟩:=d;simp at d;done));exact q _ _ rfl rfl
    have l:∀a j,¬ (X= .string a/\Y= .string j):=by
     rintro a j ⟨rfl,rfl⟩;cases x<;>simp only[Rv] at c<;>(try (simp at c;done))<;>(try (have⟨_,c⟩:=c;simp at c;done))<;>(try (have⟨_,_,c⟩:=c;simp at c;done));cases y<;>simp only[Rv] at d<;>(try (simp at d;done))<;>(try (have⟨_,d⟩:=d;simp at d;done))<;>(try (have⟨_,_,d⟩:=d;simp at d;done));exact r _ _ rfl rfl
    have m:∀k a,X≠ .float k a:=by
     rintro k a rfl;cases x<;>simp only[Rv] at c<;>(try (simp at c;done))<;>(try (have⟨_,c⟩:=c;simp at c;done))<;>(try (have⟨_,_,c⟩:=c;simp at c;done))
    have n:∀k a b,X≠ .complex k a b:=by
     rintro k a b rfl;cases x<;>simp only[Rv] at c<;>(try (simp at c;done))<;>(try (have⟨_,c⟩:=c;simp at c;done))<;>(try (have⟨_,_,c⟩:=c;simp at c;done))
    have f:∀ (op:BinOp),(op= .eql->binOp op t X Y=(do pure (.bool (<-Op.equal t X Y))))/\(op= .neq->binOp op t X Y=(do pure (.bool (!(<-Op.equal t X Y))))):=by
     intro op;constructor
     .rintro rfl;unfold binOp;split<;>first
       | rfl
       | (rename_i h;exact absurd ⟨rfl,rfl⟩ (i _ _ _ _))
       | (exact absurd rfl (m _ _))
       | (exact absurd rfl (n _ _ _))
       | (exact absurd ⟨rfl,rfl⟩ (l _ _))
       | (exact absurd ⟨rfl,rfl⟩ (i _ _ _ _))
       | simp_all
     .rintro rfl;unfold binOp;split<;>first
       | rfl
       | (exact absurd rfl (m _ _))
       | (exact absurd rfl (n _ _ _))
       | (exact absurd ⟨rfl,rfl⟩ (l _ _))
       | (exact absurd ⟨rfl,rfl⟩ (i _ _ _ _))
       | simp_all
    rw[(f .eql).1 rfl,(f .neq).2 rfl];simp [e]
   cases op<;>simp only[reduceCtorEq] at h
   .have⟨b,e,g⟩:=aO h;cases g;refine⟨.bool b,?_,by simp only[Rv]⟩;simp [(zJ (w:=w) o c d e).1,(key b e).1]
   .have⟨b,e,g⟩:=aO h;cases g;refine⟨.bool !b,?_,by simp only[Rv,tO]⟩;simp [(zJ (w:=w) o c d e).1,(key b e).2]
def aMT{op:UnOp}(a:Rv P σ x X)(h:unV op x=some v):∃V,(Op.unary op X).run P w= .ok V w/\Rv P σ v V:=by
 unfold unV at h;split at h
 .simp only[Rv] at a;subst a;cases h;exact⟨_,rfl,by simp only[Rv,aBn];rfl⟩
 .simp only[Rv] at a;subst a;cases h;exact⟨_,rfl,by simp only[Rv,tO]⟩
 .cases h
end Go.Ev
namespace Go.Ev
variable {P:Program}{σ:Env}{S:St}{w:World}
variable {t:TypeId}{agg:Bool}{n j:Nat}{v x:AV}{i:TypeInfo}{X I:Value}
def aHd{off:Nat}(g:aDb P t=some (agg,n)){cs:bu}{C:List Value}(f:jG P σ cs C)(j:∀u∈C,u.oneCell'=true)
  (h:partOf agg cs off n=some v):∃V,(part t ⟨C⟩ off).run P w= .ok V w/\Rv P σ v V:=by
 have⟨d,i,b,hi,k,m⟩:=aB7 g;have a:(isAgg t).run P w= .ok agg w:=by
  simp only[isAgg,Sem.run_bind,run_underlying b,Result.andThen_ok];cases d<;>simp_all [TypeDesc.isRow]
 unfold partOf at h;cases agg with
 | true=>
  rw[aL] at h;have⟨r,c,e⟩:=aO h;cases e;have l:=f.cut c;refine⟨.agg ⟨(C.drop off).take n⟩,?_,by simp only[Rv];exact⟨_,rfl,l.1,fun u b=>j u (Fj (Ee b))⟩⟩;simp [part,a,sizeOf,typeInfo,hi,k,List.extract_eq_take_drop]
 | false=>
  rw[aR,qU] at h;have⟨V,c,e⟩:=f.get h;refine⟨V,?_,e⟩;simp [part,a,c]
def aL8{a:Array Field}{k:Nat}{f:Field}(c:P.underlying t=some (.struct a))(d:a[k]? =some f)(e:aDb P f.type=some (agg,n))
  {x v:AV} {X:Value} (b:Rv P σ x X) (h:aJD x agg f.offset n=some v):∃V,(Instr.field t X k).run P w= .ok V w/\Rv P σ v V:=by
 cases x<;>simp only[aJD,reduceCtorEq] at h;simp only[Rv] at b;obtain⟨C,rfl,g,i⟩:=b;have⟨V,j,l⟩:=aHd (w:=w) e g i h;exact⟨V,by simp [Instr.field,run_underlying c,d,asAgg,j],l⟩
def aIi{a:Array Field}{k:Nat}{f:Field}(c:P.underlying t=some (.struct a))(d:a[k]? =some f)(hi:P.info? f.type=some i)(e:i.size≠0)
  {x v:AV} {X:Value} (b:Rv P σ x X) (h:aAE x f.offset=some v):∃V,(Instr.fieldAt t X k).run P w= .ok V w/\Rv P σ v V:=by
 cases x<;>simp only[aAE,reduceCtorEq] at h;cases h;simp only[Rv] at b;obtain⟨L,g,rfl⟩:=b;refine⟨.pointer (some ⟨L.r,L.d+_+f.offset,none⟩),?_,by simp only[Rv];exact⟨L,g,by rw[Da]⟩⟩;simp [Instr.fieldAt,run_underlying c,d,Instr.sureAddr,fieldPlace,sizeOf,typeInfo,hi,e,Addr.add_lit]
def sQ(h:gL v=some n):∃k,v= .int k (.ofNat n):=by
 unfold gL at h;split at h
 .cases h;exact⟨_,rfl⟩
 .cases h
def aO3{a b:Nat}(h:Nat.blt a b=true):a<b:=Bd h
def aDj{e:TypeId}(c:P.underlying t=some (.array n e))(hi:P.info? e=some i){k:IntKind}(b:Rv P σ x X)(d:I= .int k (.ofNat j))
  (h:eY (.arr n i.size) x j=some v):∃V,(Instr.indexAt t X I).run P w= .ok V w/\Rv P σ v V:=by
 subst d;cases x<;>simp only[eY,reduceCtorEq] at h;have⟨a,h⟩:=cH h;cases h;have a:=aO3 a;simp only[Rv] at b;obtain⟨L,f,rfl⟩:=b;refine⟨.pointer (some ⟨L.r,L.d+_+j * i.size,none⟩),?_,by simp only[Rv];exact⟨L,f,by rw[Da]⟩⟩;have g:(0:Int)<=Int.ofNat j/\Int.ofNat j<(n:Int):=⟨by simp,by simpa using a⟩;simp [Instr.indexAt,asIntOf,run_underlying c,Instr.sureAddr,sizeOf,typeInfo,hi,Addr.add_lit,a]
def aEe{e:TypeId}(c:P.underlying t=some (.slice e))(hi:P.info? e=some i){k:IntKind}(b:Rv P σ x X)(d:I= .int k (.ofNat j))
  (h:eY (.slice i.size) x j=some v):∃V,(Instr.indexAt t X I).run P w= .ok V w/\Rv P σ v V:=by
 subst d;cases x<;>simp only[eY,reduceCtorEq] at h;have⟨a,h⟩:=cH h;cases h;have a:=aO3 a;simp only[Rv] at b;obtain⟨L,f,rfl⟩:=b;refine⟨.pointer (some ⟨L.r,L.d+_+j * i.size,none⟩),?_,by simp only[Rv];exact⟨L,f,by rw[Da]⟩⟩;simp [Instr.indexAt,asIntOf,run_underlying c,sizeOf,typeInfo,hi,Addr.add_lit,a]
def aFA{i:Nat}(a:Rv P σ x X)(h:nG x i=some v):∃V,(Instr.extract X i).run P w= .ok V w/\Rv P σ v V:=by
 cases x<;>simp only[nG,reduceCtorEq] at h;rw[qU] at h;simp only[Rv] at a;obtain⟨C,rfl,b⟩:=a;have⟨V,c,d⟩:=b.get h;exact⟨V,by simp [Instr.extract,c],d⟩
def aJs{c:AV}{C:Value}{a b:cQ}{F:Fr}{A B:Value}(d:Rv P σ c C)(e:Rv P σ (a.val F) A)(f:Rv P σ (b.val F) B)(h:yV c a b F=some v):
  ∃V,(do pure (Next.value (if <-asBool C then A else B)):Sem Next).run P w= .ok (.value V) w/\Rv P σ v V:=by
 cases c<;>simp only[yV,reduceCtorEq] at h;cases h;simp only[Rv] at d;subst d;rename_i t;cases t
 .exact⟨B,by simp [asBool],f⟩
 .exact⟨A,by simp [asBool],e⟩
def vE:∀ (l pre old post:List Value) (off i:Nat),pre.length=off+i->old.length=l.length->
  (l.zipIdx i).foldl (fun(a:Array Value) (p:Value×Nat)=>a.setIfInBounds (off+p.2) p.1) ⟨pre++old++post⟩=⟨pre++l++post⟩
 | [],pre,old,post,off,i,_,h=>by
  have:old= []:=List.eq_nil_of_length_eq_zero h;subst this;rfl
 | x::l,pre,[],post,off,i,_,h=>by simp at h
 | x::l,pre,o::old,post,off,i,b,h=>by
  rw[List.zipIdx_cons,List.foldl_cons];have:(Array.mk (pre++o::old++post)).setIfInBounds (off+i) x=⟨(pre++ [x])++old++post⟩:=by
   apply Array.ext';rw[Array.toList_setIfInBounds,<-b];simp
  rw[this,vE l (pre++ [x]) old post off (i+1) (by simp;omega) (by simpa using h)];simp
def aBZ(cs:List Value)(l:List Value)(off:Nat)(h:off+l.length<=cs.length):
  (l.zipIdx).foldl (fun(a:Array Value) (p:Value×Nat)=>a.setIfInBounds (off+p.2) p.1) ⟨cs⟩=⟨cs.take off++l++cs.drop (off+l.length)⟩:=by
 have:=vE l (cs.take off) ((cs.drop off).take l.length) (cs.drop (off+l.length)) off 0 (by simp;omega) (by simp;omega);rw[<-this];congr 2;rw[Bg,<-List.drop_drop,Em,Em]
def vO{place:Nat->Option (Nat×Nat)}:∀ {ps:List (Nat×Value)} {qs:List (Nat×Nat×AV)} {z r:bu} {Z:List Value},
  ps.length=qs.length->(∀ (j i:Nat) (V:Value) (off n:Nat) (v:AV),ps[j]? =some (i,V)->qs[j]? =some (off,n,v)->place i=some (off,n)/\Rv P σ v V)->
  jG P σ z Z->(∀u∈Z,u.oneCell'=true)->eO z qs=some r->∃R,Instr.fill place ⟨Z⟩ ps=some ⟨R⟩/\jG P σ r R/\(∀u∈R,u.oneCell'=true)
 | [],[],z,r,Z,_,_,k,d,h=>by
  simp only[eO,Ay] at h;subst h;exact⟨Z,rfl,k,d⟩
 | [],_::_,_,_,_,e,_,_,_,_=>by simp at e
 | _::_,[],_,_,_,e,_,_,_,_=>by simp at e
 | (i,V)::ps,(off,n,v)::qs,z,r,Z,e,y,k,d,h=>by
  simp only[eO] at h;have⟨cs,l,h⟩:=aO h;have⟨A,h⟩:=cH h;have⟨G,a,h⟩:=aO h;rw[gJ,Bn] at A;have B:=y 0 i V off n v rfl rfl;have⟨f,m⟩:=aBb B.2 l;have C:=(aBq a).1;have g:V.cells.toList.length=n:=by rw[f.length,A]
  have D:=k.length;have o:=k.put f a;have c:∀u∈Z.take off++V.cells.toList++Z.drop (off+V.cells.toList.length),u.oneCell'=true:=fun u b=>by
   simp only[Bi] at b;rcases b with(b|b)|b
   .exact d u (Ee b)
   .exact m u b
   .exact d u (Fj b)
  have⟨R,p,q,s⟩:=vO (place:=place) (ps:=ps) (qs:=qs) (by simpa using e) (fun j i V off n v d E=>y (j+1) i V off n v d E) o c h;refine⟨R,?_,q,s⟩;simp only[Instr.fill,B.1];have t:V.cells.size=n:=by rw[<-g];simp
  rw[if_neg (by simp [t];omega)];have F:=aBZ Z V.cells.toList off (by rw[g];omega);have H:V.cells.zipIdx.foldl (fun(cs:Array Value) (x:Value×Nat)=>cs.setIfInBounds (off+x.2) x.1) ⟨Z⟩=⟨Z.take off++V.cells.toList++Z.drop (off+V.cells.toList.length)⟩:=by
   rw[<-F,<-Array.foldl_toList,Array.toList_zipIdx]
  rw[<-p];congr 1
end Go.Ev
namespace Go.Ev
variable {P:Program}{σ:Env}{S:St}{w:World}
variable {t:TypeId}{i:TypeInfo}{ps:Array (Nat×Operand)}{qs:List (Nat×Nat×cQ)}{F:Fr}
def aAS{place:Nat->Option (Nat×Nat)}{F:Fr}{a:Act}(g:qR P σ F a.tmps)(k:mR P σ S w):∀ {ps:List (Nat×Operand)} {qs:List (Nat×Nat×cQ)},yH P place ps=some qs->
  (ps.map fun p=>(p.1,a.eval p.2)).length=(dN F qs).length/\
  ∀ (j i:Nat) (V:Value) (off n:Nat) (v:AV),(ps.map fun p=>(p.1,a.eval p.2))[j]? =some (i,V)->(dN F qs)[j]? =some (off,n,v)->place i=some (off,n)/\Rv P σ v V
 | [],qs,h=>by
  simp only[yH,Ay] at h;subst h;exact⟨rfl,fun j i V off n v e=>by simp at e⟩
 | (i,x)::ps,qs,h=>by
  simp only[yH] at h;split at h
  .rename_i off n X l m o f;cases h;have⟨e,q⟩:=aAS g k f;refine⟨by simp [dN] at e ⊢;exact e,fun j r V d s v b c=>?_⟩;cases j with
   | zero=>
    simp only[Dh,Ef,dN,Ay,Prod.mk.injEq] at b c;obtain⟨rfl,rfl⟩:=b;obtain⟨rfl,rfl,rfl⟩:=c;exact⟨m,cO g k o⟩
   | succ j=>
    simp only[Dh,Cd,dN] at b c;exact q j r V d s v b c
  .cases h
def aEw{z:AV}(h:aIR P t=some z):∃i Z,P.info? t=some i/\i.zero=some Z/\Rv P σ z Z:=by
 unfold aIR at h;split at h
 .rename_i i hi;split at h
  .rename_i Z a;exact⟨i,Z,hi,a,aEM h⟩
  .cases h
 .cases h
def oC{z:bu}(h:lC P t=some z):∃i Z,P.info? t=some i/\i.zero=some Z/\jG P σ z Z.cells.toList/\∀u∈Z.cells.toList,u.oneCell'=true:=by
 unfold lC at h;rw[Dg] at h;have⟨v,a,b⟩:=h;have⟨i,Z,c,d,e⟩:=aEw (σ:=σ) a;exact⟨i,Z,c,d,aBb e b⟩
def yZ{Z:Value}(hi:P.info? t=some i)(a:i.zero=some Z):(zeroValue t).run P w= .ok Z w:=by
 simp [zeroValue,typeInfo,hi,a]
def aJf{a b:Type}{g:a->Sem b}(w:World):∀ (l:List a) (r:List b),(∀ (j:Nat) (f:a) (p:b),l[j]? =some f->r[j]? =some p->(g f).run P w= .ok p w)->l.length=r.length->
  (l.mapM g).run P w= .ok r w
 | [],[],_,_=>rfl
 | [],_::_,_,h=>by simp at h
 | _::_,[],_,h=>by simp at h
 | f::l,p::r,h,c=>by
  have d:=h 0 f p rfl rfl;have e:=aJf w l r (fun j f p i k=>h (j+1) f p i k) (by simpa using c);rw[List.mapM_cons];simp only[Sem.run_bind,d,e,Result.andThen_ok,Sem.run_pure]
def wT:∀ (c:List Field),qG P c=true->∃r:List (Nat×Nat),r.length=c.length/\∀ (j:Nat) (f:Field) (p:Nat×Nat),c[j]? =some f->r[j]? =some p->∃i,P.info? f.type=some i/\p=(f.offset,i.size)
 | [],_=>⟨[],rfl,fun j f p h=>by simp at h⟩
 | f::c,h=>by
  simp only[qG,Cy] at h;have⟨r,d,e⟩:=wT c h.2;have⟨i,hi⟩:=Option.isSome_iff_exists.1 h.1;refine⟨(f.offset,i.size)::r,by simp [d],fun j g p a b=>?_⟩;cases j with
  | zero=>simp at a b;subst a;subst b;exact⟨i,hi,rfl⟩
  | succ j=>exact e j g p (by simpa using a) (by simpa using b)
def aA0{c:Array Field}{z:bu}{a:Act}(C:qR P σ F a.tmps)(D:mR P σ S w)
  (E:P.underlying t=some (.struct c)) (G:qG P c.toList=true) (H:lC P t=some z)
  (I:yH P (placeOf P c) ps.toList=some qs) {cs:bu} (h:eO z (dN F qs)=some cs):
  ∃V,(Instr.build t (ps.map fun(i,x)=>(i,a.eval x))).run P w= .ok V w/\Rv P σ (.agg cs) V:=by
 have⟨i,Z,hi,J,s,u⟩:=oC (σ:=σ) H;have⟨r,k,l⟩:=wT _ G;have⟨K,B⟩:=aAS C D I;have b:∀i,placeOf P c i=r[i]? :=by
  intro i;unfold placeOf;rw[<-Dk];cases d:c.toList[i]? with
  | none=>
   have:c.toList.length<=i:=List.getElem?_eq_none_iff.1 d;rw[Bv au]
  | some f=>
   have m:i<r.length:=by rw[k];exact(Aj.1 d).1
   have⟨L,n,o⟩:=l i f r[i] d (Ab m);rw[Ab m,o];simp [n]
 have q:=funext b;rw[q] at B;have⟨R,n,o,v⟩:=vO (place:=fun i=>r[i]?) K B s u h;refine⟨.agg ⟨R⟩,?_,by simp only[Rv];exact⟨R,rfl,o,v⟩⟩;have M:=aJf (P:=P) (g:=fun f:Field=>(do pure (f.offset,<-sizeOf f.type):Sem (Nat×Nat))) w c.toList r (fun j f p n o=>by
  obtain⟨L,v,rfl⟩:=l j f p n o;simp [sizeOf,typeInfo,v]) k.symm
 have y:(c.mapM fun f=>(do pure (f.offset,<-sizeOf f.type):Sem (Nat×Nat))).run P w= .ok r.toArray w:=by
  rw[Fd];simp only[Sem.run_map,M,Result.andThen_ok]
 have A:(ps.map fun(i,x)=>(i,a.eval x)).toList=ps.toList.map fun p=>(p.1,a.eval p.2):=by simp
 simp only[Instr.build,Sem.run_bind,yZ hi J,Result.andThen_ok,run_underlying E,y,A];have e:Instr.fill (fun x=>(r.toArray)[x]?) Z.cells (ps.toList.map fun p=>(p.1,a.eval p.2))=some ⟨R⟩:=by
  rw[<-n];congr 1;funext x;simp
 rw[e];rfl
def aBk{e:TypeId}{n:Nat}{z:bu}{a:Act}(k:qR P σ F a.tmps)(l:mR P σ S w)
  (m:P.underlying t=some (.array n e)) (b:P.info? e=some i) (o:lC P t=some z)
  (q:yH P (fun j=>some (j * i.size,i.size)) ps.toList=some qs) {cs:bu} (h:eO z (dN F qs)=some cs):
  ∃V,(Instr.build t (ps.map fun(i,x)=>(i,a.eval x))).run P w= .ok V w/\Rv P σ (.agg cs) V:=by
 have⟨B,Z,hi,r,c,d⟩:=oC (σ:=σ) o;have⟨s,u⟩:=aAS k l q;have⟨R,v,y,A⟩:=vO s u c d h;refine⟨.agg ⟨R⟩,?_,by simp only[Rv];exact⟨R,rfl,y,A⟩⟩;have f:(ps.map fun(i,x)=>(i,a.eval x)).toList=ps.toList.map fun p=>(p.1,a.eval p.2):=by simp
 have g:Instr.fill (fun j=>some (j * i.size,i.size)) Z.cells (ps.toList.map fun p=>(p.1,a.eval p.2))=some ⟨R⟩:=v;simp only[Instr.build,Sem.run_bind,yZ hi r,Result.andThen_ok,run_underlying m,sizeOf,typeInfo,run_program,b,Sem.run_pure,f,g]
end Go.Ev
namespace Go.Ev
variable {P:Program}{σ:Env}{S:St}{w:World}
variable {F:Fr}{X:Option cQ}{cap:Nat}
def vN{a:Act}(f:qR P σ F a.tmps)(g:mR P σ S w){d y m:Nat}{c:Option Operand}(b:pO P c=some X)(h:jO F d X=some m)(e:c.isSome=true->m<=y)(code:BoundsCode):
  (match c.map a.eval with
  | some v=>Instr.sliceBound v y code
  | none=>pure d).run P w= .ok m w:=by
 cases c with
 | none=>
  simp only[pO,Ay] at b;subst b;simp only[jO,Ay] at h;subst h;rfl
 | some x=>
  simp only[pO,Bc] at b;obtain⟨X',b,rfl⟩:=b;simp only[jO] at h;have⟨k,i⟩:=sQ h;have:=cO f g b;rw[i] at this;simp only[Rv] at this;simp only[Es,this];have e:=e rfl;have:=run_sliceBound (P:=P) w k (Int.ofNat m) y code (by simp) (by simpa using e);simpa using this
def tI{len:Nat}{lo hi mx:Option cQ}{x:Nat×Nat×Nat}(h:kT len cap lo hi mx F=some x):
  jO F cap mx=some x.2.2/\jO F len hi=some x.2.1/\jO F 0 lo=some x.1/\x.2.2<=cap/\x.2.1<=x.2.2/\x.1<=x.2.1:=by
 unfold kT at h;have⟨m,a,h⟩:=aO h;have⟨h',b,h⟩:=aO h;have⟨l,c,h⟩:=aO h;have⟨d,h⟩:=cH h;have⟨e,h⟩:=cH h;have⟨f,h⟩:=cH h;cases h;exact⟨a,b,c,Bd d,Bd e,Bd f⟩
def aIe{a:Option Operand}(h:pO P a=some X):X.isNone=a.isNone:=by
 cases a with
 | none=>simp only[pO,Ay] at h;subst h;rfl
 | some x=>simp only[pO,Bc] at h;obtain⟨_,_,rfl⟩:=h;rfl
def pF{a:Act}(j:qR P σ F a.tmps)(k:mR P σ S w){isSlice:Bool}{len e:Nat}{lo hi mx:Option Operand}{r s t:Option cQ}(l:pO P lo=some r)(n:pO P hi=some s)(f:pO P mx=some t)
  (o:mx.isSome=true->hi.isSome=true) {x:Nat×Nat×Nat} (h:kT len cap r s t F=some x):
  (Instr.sliceBounds isSlice len (cap+e) (lo.map a.eval) (hi.map a.eval) (mx.map a.eval)).run P w= .ok (x.1,x.2.1,if mx.isNone=true then x.2.2+e else x.2.2) w:=by
 have⟨p,z,A,D,E,B⟩:=tI h;have u:∀code,(match mx.map a.eval with
   | some v=>Instr.sliceBound v (cap+e) code
   | none=>pure (cap+e)).run P w= .ok (if mx.isNone=true then x.2.2+e else x.2.2) w:=by
  intro code;cases mx with
  | none=>
   simp only[pO,Ay] at f;subst f;simp only[jO,Ay] at p;rw[<-p];rfl
  | some m=>
   have:=vN (d:=cap) (y:=cap+e) j k f p (fun _=>au) code;simpa using this
 have i:∀code,(match hi.map a.eval with
   | some v=>Instr.sliceBound v (if mx.isNone=true then x.2.2+e else x.2.2) code
   | none=>pure len).run P w= .ok x.2.1 w:=fun code=>vN j k n z (fun _=>by split<;>omega) code
 have q:∀code,(match lo.map a.eval with
   | some v=>Instr.sliceBound v x.2.1 code
   | none=>pure 0).run P w= .ok x.1 w:=fun code=>vN j k l A (fun _=>B) code
 unfold Instr.sliceBounds;cases mx with
 | none=>
  have c:=u .slice3Alen;simp only[Option.map_none] at c ⊢;simp only[Option.isNone_none,Fc] at c i ⊢;cases hi with
  | none=>
   have b:=i .sliceB;have g:=q .sliceB;simp only[Option.map_none] at b ⊢;simp only[Sem.run_bind,c,b,Result.andThen_ok,Option.isSome_none,Eh,Bf];cases lo<;>simp_all
  | some C=>
   have b:=i (if isSlice=true then .sliceAcap else .sliceAlen);have g:=q .sliceB;simp only[Es] at b ⊢;simp only[Sem.run_bind,c,b,Result.andThen_ok,Option.isSome_none,Eh,Bf];cases lo<;>simp_all
 | some m=>
  cases hi with
  | none=>simp at o
  | some C=>
   have c:=u (if isSlice=true then .slice3Acap else .slice3Alen);have b:=i .slice3B;have g:=q .slice3C;simp only[Es] at c b ⊢;simp only[Option.isNone_some,Eh,Bf] at c b ⊢;simp only[Sem.run_bind,c,b,Result.andThen_ok,Option.isSome_some,Fc];cases lo<;>simp_all
end Go.Ev
