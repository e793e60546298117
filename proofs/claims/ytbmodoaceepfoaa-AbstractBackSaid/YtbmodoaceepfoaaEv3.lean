import Derived.Test.YtbmodoaceepfoaaEv2
import Derived.Laws.StructEq
import Derived.Laws.BytesString
import Derived.Laws.Slices
set_option linter.all false
abbrev Go.Ev.ef:=@Go.Ev.T.get_set
def Go.Ev.jd{p:Prop}(h:p:=by simp only;rw[ef,if_pos rfl]):p:=h
namespace Go.Ev
variable {P:Program}{σ:Env}{S:St}{w:World}
variable {b:ce}{op:BinOp}{t:TypeId}{x y:AV}{X Y:Value}
theorem aEb:∀ {a b:ce},Bytes a->Bytes b->qY a b=Op.bytesLess (a.map UInt8.ofNat) (b.map UInt8.ofNat)
 | a,[],_,_=>by cases a<;>simp [qY,Op.bytesLess]
 | [],_::_,_,_=>by simp [qY,Op.bytesLess]
 | x::a,y::b,d,e=>by
  have f:(UInt8.ofNat x).toNat=x:=aDs (d x (by simp));have g:(UInt8.ofNat y).toNat=y:=aDs (e y (by simp));have i:=aEb (a:=a) (b:=b) (fun z c=>d z (by simp [c])) (fun z c=>e z (by simp [c]));simp only[qY,Dg,Op.bytesLess,i];have j:(decide (UInt8.ofNat x<UInt8.ofNat y))=Nat.blt x y:=by
   rw[Cn,decide_eq_true_eq,UInt8.lt_iff_toNat_lt,f,g];exact⟨fun h=>Ak h,fun h=>Bc h⟩
  have k:(UInt8.ofNat x==UInt8.ofNat y)=Nat.beq x y:=by
   rw[Cn,beq_iff_eq,Bl,<-UInt8.toNat_inj,f,g]
  rw[j,k,dB,dB];cases Nat.blt x y<;>cases Nat.beq x y<;>simp
def Bytes.append{a:ce}(c:Bytes a)(d:Bytes b):Bytes (a++b):=fun x e=>by
 rcases Bi.1 e with h|h
 .exact c x h
 .exact d x h
def aDz{a:ce}(c:Bytes a)(d:Bytes b):((gL a).toList==(gL b).toList)=pJ a b:=by
 rw[Cn,aHn c d,beq_iff_eq,rQ,rQ];constructor
 .intro h;unfold gL;rw[h]
 .intro h;have:=congrArg (fun s:ByteArray=>s.data.toList) h;simpa [gL] using this
def aLE{a:ce}{v:AV}(d:Bytes a)(e:Bytes b)(h:aJo op a b=some v):
  ∃V,(binOp op t (.string (gL a)) (.string (gL b))).run P w= .ok V w/\Rv P σ v V:=by
 have c:∀op,binOp op t (.string (gL a)) (.string (gL b))=Op.stringOp op (gL a) (gL b):=fun op=>by cases op<;>rfl
 rw[c];have g:=aDz d e;rw[rQ,rQ] at g;have i:=aEb d e;unfold aJo at h;cases op<;>simp only[reduceCtorEq,Au] at h<;>simp only[Op.stringOp,rQ,g,<-i]
 case add=>
  have⟨f,j⟩:=cN h;cases j;rw[gD,gD] at f;have f:=Bc f;have k:¬ (((gL a).size+(gL b).size:Nat):Int)>IntKind.i64.max:=by
   rw[oF,oF];simp [IntKind.max,IntKind.signed,IntKind.bits];omega
  refine⟨_,by rw[if_neg k];rfl,?_⟩;simp only[Rv,fS];exact⟨by rw[aHb],d.append e⟩
 all_goals (subst h;exact⟨_,rfl,by simp only[Rv]⟩)
theorem aHr(t:TypeId):(∃d,P.underlying t=some d/\match eqP P t with
  | .bool=>d= .bool | .int=>∃k,d= .int k | .str=>d= .string | .ptr=>∃e,d= .pointer e | .slice=>∃e,d= .slice e
  | .map=>∃k e,d= .map k e | .func=>∃a b c,d= .func a b c | .iface=>∃m,d= .interface m | .no=>True)\/eqP P t= .no:=by
 unfold eqP;cases h:P.underlying t with
 | none=>exact .inr rfl
 | some d=>left;exact⟨d,rfl,by cases d<;>simp⟩
def aCl{b:Bool}(e:Rv P σ x X)(f:Rv P σ y Y)(h:yL (eqP P t) x y=some b)(n:Nat):
  (Op.equalIn (n+1) t X Y).run P w= .ok b w:=by
 rcases aHr (P:=P) t with⟨d,g,i⟩|j
 .cases l:eqP P t<;>rw[l] at h i<;>simp only at i
  case bool=>
   subst i;cases x<;>simp only[yL,reduceCtorEq] at h<;>cases y<;>simp only[reduceCtorEq] at h;simp only[Rv] at e f;subst e;subst f;cases h;simp [Op.equalIn,run_underlying g,wW]
  case int=>
   obtain⟨k,rfl⟩:=i;cases x<;>simp only[yL,reduceCtorEq] at h<;>cases y<;>simp only[reduceCtorEq] at h;simp only[Rv] at e f;subst e;subst f;have⟨m,o⟩:=cN h;have:=aAw m;subst this;cases o;simp [Op.equalIn,run_underlying g,jG]
  case str=>
   subst i;cases x<;>simp only[yL,reduceCtorEq] at h<;>cases y<;>simp only[reduceCtorEq] at h;simp only[Rv] at e f;obtain⟨rfl,p⟩:=e;obtain⟨rfl,q⟩:=f;cases h;rename_i a c;have:(gL a==gL c)=pJ a c:=by rw[beq_toListBytes,aDz p q]
   simp [Op.equalIn,run_underlying g,this]
  case ptr=>
   obtain⟨k,rfl⟩:=i;cases x<;>simp only[yL,reduceCtorEq] at h<;>cases y<;>simp only[reduceCtorEq] at h<;>simp only[Rv] at e f<;>cases h
   .obtain⟨L,_,rfl⟩:=e;subst f;simp [Op.equalIn,run_underlying g]
   .obtain⟨L,_,rfl⟩:=f;subst e;simp [Op.equalIn,run_underlying g]
   .subst e;subst f;simp [Op.equalIn,run_underlying g]
  case slice=>
   obtain⟨k,rfl⟩:=i;cases x<;>simp only[yL,reduceCtorEq] at h<;>cases y<;>simp only[reduceCtorEq] at h<;>simp only[Rv] at e f<;>cases h
   .obtain⟨L,_,rfl⟩:=e;subst f;simp [Op.equalIn,run_underlying g]
   .obtain⟨L,_,rfl⟩:=f;subst e;simp [Op.equalIn,run_underlying g]
   .subst e;subst f;simp [Op.equalIn,run_underlying g]
   .obtain⟨L,_,rfl⟩:=f;subst e;simp [Op.equalIn,run_underlying g]
   .obtain⟨L,_,rfl⟩:=e;subst f;simp [Op.equalIn,run_underlying g]
  case map=>
   obtain⟨k,r,rfl⟩:=i;cases x<;>simp only[yL,reduceCtorEq] at h<;>cases y<;>simp only[reduceCtorEq] at h<;>simp only[Rv] at e f<;>cases h
   .obtain⟨L,_,rfl⟩:=e;subst f;simp [Op.equalIn,run_underlying g]
   .obtain⟨L,_,rfl⟩:=f;subst e;simp [Op.equalIn,run_underlying g]
   .subst e;subst f;simp [Op.equalIn,run_underlying g]
  case func=>
   obtain⟨s,u,v,rfl⟩:=i;cases x<;>simp only[yL,reduceCtorEq] at h<;>cases y<;>simp only[reduceCtorEq] at h<;>simp only[Rv] at e f<;>cases h
   .obtain⟨A,B,rfl,_⟩:=e;subst f;simp [Op.equalIn,run_underlying g]
   .obtain⟨A,B,rfl,_⟩:=f;subst e;simp [Op.equalIn,run_underlying g]
   .subst e;subst f;simp [Op.equalIn,run_underlying g]
  case iface=>
   obtain⟨z,rfl⟩:=i;cases x<;>simp only[yL,reduceCtorEq] at h<;>cases y<;>simp only[reduceCtorEq] at h<;>simp only[Rv] at e f<;>cases h
   .obtain⟨W,rfl,_⟩:=e;subst f;simp [Op.equalIn,run_underlying g]
   .obtain⟨W,rfl,_⟩:=f;subst e;simp [Op.equalIn,run_underlying g]
  case no=>simp [yL] at h
 .rw[j] at h;simp [yL] at h
def aLV{d f:Operand}{e:EqP}{b:Bool}(a:Rv P σ x X)(c:Rv P σ y Y)(h:yL e x y=some b):
  eqGuard op t d f X Y=pure ():=by
 cases x<;>cases e<;>simp only[yL,reduceCtorEq] at h<;>simp only[Rv] at a
 all_goals first
  | (subst a;cases op<;>rfl)
  | (obtain⟨rfl,_⟩:=a;cases op<;>rfl)
  | (obtain⟨L,_,rfl⟩:=a;cases op<;>rfl)
  | (obtain⟨L,_,rfl⟩:=a;cases op<;>rfl)
  | (obtain⟨A,B,rfl,_⟩:=a;cases op<;>rfl)
  | (obtain⟨A,rfl,_⟩:=a;cases op<;>rfl)
  | (cases y<;>simp only[reduceCtorEq] at h;simp only[Rv] at c;obtain⟨A,rfl,_⟩:=c;subst a;cases op<;>rfl)
end Go.Ev
namespace Go.Ev
variable {P:Program}{σ:Env}{S:St}{w:World}
variable {v x y:AV}{t:TypeId}{X Y:Value}
def aCW{a:IntKind×Int}(h:aG6 v=some a):v= .int a.1 a.2:=by
 cases v<;>simp only[aG6,reduceCtorEq,Au] at h;subst h;rfl
def aCU{a:ce}(h:aGJ v=some a):v= .str a:=by
 cases v<;>simp only[aGJ,reduceCtorEq,Au] at h;subst h;rfl
def wG(P:Program):Prop:=∀ (σ:Env) (w:World) (t:TypeId) (a:List (Nat×EqP)) (c d:cd) (X Y:Value) (b:Bool),eqT P t= .struct a->Rv P σ (.agg c) X->Rv P σ (.agg d) Y->
 eqs a c d=some b->(∀op e f,(eqGuard op t e f X Y).run P w= .ok () w)/\∀n,(Op.equalIn (n+2) t X Y).run P w= .ok b w
def aSw{e:EqP}(h:eqT P t= .p e):e=eqP P t\/e= .no:=by
 unfold eqT at h;split at h
 .rw[Bn] at h;split at h
  .cases h;exact .inr rfl
  .cases h
 .rw[Bn] at h;split at h
  .cases h;exact .inr rfl
  .cases h
 .cases h;exact .inl rfl
theorem zN(i:wG P){b:Bool}(c:Rv P σ x X)(d:Rv P σ y Y)(h:eqv (eqT P t) x y=some b):
  (∀op f g,(eqGuard op t f g X Y).run P w= .ok () w)/\∀n,(Op.equalIn (n+2) t X Y).run P w= .ok b w:=by
 cases a:eqT P t with
 | p e=>
  rw[a] at h;have h:yL e x y=some b:=h;rcases aSw a with rfl|rfl
  .exact⟨fun op f g=>by rw[aLV c d h];rfl,fun n=>aCl c d h (n+1)⟩
  .simp [yL] at h
 | struct j=>
  rw[a] at h;cases x<;>simp only[eqv,reduceCtorEq] at h;cases y<;>simp only[reduceCtorEq] at h;have⟨_,h⟩:=cN h;have⟨_,h⟩:=cN h;exact i σ w t j _ _ X Y b a c d h
def aMe(o:wG P){op:BinOp}{s u:Operand}(c:Rv P σ x X)(d:Rv P σ y Y)(h:nH op (eqT P t) x y=some v):
  ∃V,(do eqGuard op t s u X Y;binOp op t X Y:Sem Value).run P w= .ok V w/\Rv P σ v V:=by
 unfold nH at h;split at h
 .rename_i a b p f;have:=aCW p;subst this;have:=aCW f;subst this;simp only[Rv] at c d;subst c;subst d;have⟨V,e,g⟩:=aJl (P:=P) (σ:=σ) (w:=w) (t:=t) h;exact⟨V,by simp [eqGuard_at_int,e],g⟩
 .rename_i q;split at h
  .rename_i a b p f;have:=aCU p;subst this;have:=aCU f;subst this;simp only[Rv] at c d;obtain⟨rfl,c⟩:=c;obtain⟨rfl,d⟩:=d;have⟨V,e,g⟩:=aLE (P:=P) (σ:=σ) (w:=w) (t:=t) c d h;exact⟨V,by simp [eqGuard_at_string,e],g⟩
  .rename_i r;unfold aQr at h;have key:∀b,eqv (eqT P t) x y=some b->(binOp .eql t X Y).run P w= .ok (.bool b) w/\(binOp .neq t X Y).run P w= .ok (.bool !b) w:=by
    intro b f;have z:=(zN (w:=w) o c d f).2 9998;have e:(Op.equal t X Y).run P w= .ok b w:=z;have i:∀k a k' j,¬ (X= .int k a/\Y= .int k' j):=by
     rintro k a k' j ⟨rfl,rfl⟩;cases x<;>simp only[Rv] at c<;>(try (simp at c;done))<;>(try (have⟨_,c⟩:=c;simp at c;done))<;>(try (have⟨_,_,c⟩:=c;simp at c;done));cases y<;>simp only[Rv] at d<;>(try (simp at d;done))<;>(try (have⟨_,d⟩:=d;simp at d;done))<;>(try (have⟨_,_,d⟩:=d;simp at d;done));exact q _ _ rfl rfl
    have l:∀a j,¬ (X= .string a/\Y= .string j):=by
     rintro a j ⟨rfl,rfl⟩;cases x<;>simp only[Rv] at c<;>(try (simp at c;done))<;>(try (have⟨_,c⟩:=c;simp at c;done))<;>(try (have⟨_,_,c⟩:=c;simp at c;done));cases y<;>simp only[Rv] at d<;>(try (simp at d;done))<;>(try (have⟨_,d⟩:=d;simp at d;done))<;>(try (have⟨_,_,d⟩:=d;simp at d;done));exact r _ _ rfl rfl
    have m:∀k a,X≠ .float k a:=by
     rintro k a rfl;cases x<;>simp only[Rv] at c<;>(try (simp at c;done))<;>(try (have⟨_,c⟩:=c;simp at c;done))<;>(try (have⟨_,_,c⟩:=c;simp at c;done))
    have n:∀k a b,X≠ .complex k a b:=by
     rintro k a b rfl;cases x<;>simp only[Rv] at c<;>(try (simp at c;done))<;>(try (have⟨_,c⟩:=c;simp at c;done))<;>(try (have⟨_,_,c⟩:=c;simp at c;done))
    have f:∀ (op:BinOp),(op= .eql->binOp op t X Y=(do pure (.bool (<-Op.equal t X Y))))/\(op= .neq->binOp op t X Y=(do pure (.bool (!(<-Op.equal t X Y))))):=by
     intro op;constructor
     .rintro rfl;unfold binOp;split<;>first
       | rfl
       | (rename_i h;exact absurd ⟨rfl,rfl⟩ (i _ _ _ _))
       | (exact absurd rfl (m _ _))
       | (exact absurd rfl (n _ _ _))
       | (exact absurd ⟨rfl,rfl⟩ (l _ _))
       | (exact absurd ⟨rfl,rfl⟩ (i _ _ _ _))
       | simp_all
     .rintro rfl;unfold binOp;split<;>first
       | rfl
       | (exact absurd rfl (m _ _))
       | (exact absurd rfl (n _ _ _))
       | (exact absurd ⟨rfl,rfl⟩ (l _ _))
       | (exact absurd ⟨rfl,rfl⟩ (i _ _ _ _))
       | simp_all
    rw[(f .eql).1 rfl,(f .neq).2 rfl];simp [e]
   cases op<;>simp only[reduceCtorEq] at h
   .have⟨b,e,g⟩:=aR h;cases g;refine⟨.bool b,?_,by simp only[Rv]⟩;simp [(zN (w:=w) o c d e).1,(key b e).1]
   .have⟨b,e,g⟩:=aR h;cases g;refine⟨.bool !b,?_,by simp only[Rv,tL]⟩;simp [(zN (w:=w) o c d e).1,(key b e).2]
def aMz{op:UnOp}(a:Rv P σ x X)(h:unV op x=some v):∃V,(Op.unary op X).run P w= .ok V w/\Rv P σ v V:=by
 unfold unV at h;split at h
 .simp only[Rv] at a;subst a;cases h;exact⟨_,rfl,by simp only[Rv,aBm];rfl⟩
 .simp only[Rv] at a;subst a;cases h;exact⟨_,rfl,by simp only[Rv,tL]⟩
 .cases h
end Go.Ev
namespace Go.Ev
variable {P:Program}{σ:Env}{S:St}{w:World}
variable {t:TypeId}{agg:Bool}{n j:Nat}{v x:AV}{i:TypeInfo}{X I:Value}
theorem aGY{off:Nat}(g:aDe P t=some (agg,n)){cs:cd}{C:List Value}(f:jE P σ cs C)(j:∀u∈C,u.oneCell'=true)
  (h:partOf agg cs off n=some v):∃V,(part t ⟨C⟩ off).run P w= .ok V w/\Rv P σ v V:=by
 have⟨d,i,b,hi,k,m⟩:=aB8 g;have a:(isAgg t).run P w= .ok agg w:=by
  simp only[isAgg,Sem.run_bind,run_underlying b,Result.andThen_ok];cases d<;>simp_all [TypeDesc.isRow]
 unfold partOf at h;cases agg with
 | true=>
  rw[aN] at h;have⟨r,c,e⟩:=aR h;cases e;have l:=f.cut c;refine⟨.agg ⟨(C.drop off).take n⟩,?_,by simp only[Rv];exact⟨_,rfl,l.1,fun u b=>j u (Fe (Dz b))⟩⟩;simp [part,a,sizeOf,typeInfo,hi,k,List.extract_eq_take_drop]
 | false=>
  rw[aU,qQ] at h;have⟨V,c,e⟩:=f.get h;refine⟨V,?_,e⟩;simp [part,a,c]
def aLN{a:Array Field}{k:Nat}{f:Field}(c:P.underlying t=some (.struct a))(d:a[k]? =some f)(e:aDe P f.type=some (agg,n))
  {x v:AV} {X:Value} (b:Rv P σ x X) (h:aJd x agg f.offset n=some v):∃V,(Instr.field t X k).run P w= .ok V w/\Rv P σ v V:=by
 cases x<;>simp only[aJd,reduceCtorEq] at h;simp only[Rv] at b;obtain⟨C,rfl,g,i⟩:=b;have⟨V,j,l⟩:=aGY (w:=w) e g i h;exact⟨V,by simp [Instr.field,run_underlying c,d,asAgg,j],l⟩
def aHY{a:Array Field}{k:Nat}{f:Field}(c:P.underlying t=some (.struct a))(d:a[k]? =some f)(hi:P.info? f.type=some i)(e:i.size≠0)
  {x v:AV} {X:Value} (b:Rv P σ x X) (h:aAF x f.offset=some v):∃V,(Instr.fieldAt t X k).run P w= .ok V w/\Rv P σ v V:=by
 cases x<;>simp only[aAF,reduceCtorEq] at h;cases h;simp only[Rv] at b;obtain⟨L,g,rfl⟩:=b;refine⟨.pointer (some ⟨L.r,L.d+_+f.offset,none⟩),?_,by simp only[Rv];exact⟨L,g,by rw[Cy]⟩⟩;simp [Instr.fieldAt,run_underlying c,d,Instr.sureAddr,fieldPlace,sizeOf,typeInfo,hi,e,Addr.add_lit]
def sM(h:gN v=some n):∃k,v= .int k (.ofNat n):=by
 unfold gN at h;split at h
 .cases h;exact⟨_,rfl⟩
 .cases h
def aOO{a b:Nat}(h:Nat.blt a b=true):a<b:=Bc h
def aDl{e:TypeId}(c:P.underlying t=some (.array n e))(hi:P.info? e=some i){k:IntKind}(b:Rv P σ x X)(d:I= .int k (.ofNat j))
  (h:eQ (.arr n i.size) x j=some v):∃V,(Instr.indexAt t X I).run P w= .ok V w/\Rv P σ v V:=by
 subst d;cases x<;>simp only[eQ,reduceCtorEq] at h;have⟨a,h⟩:=cN h;cases h;have a:=aOO a;simp only[Rv] at b;obtain⟨L,f,rfl⟩:=b;refine⟨.pointer (some ⟨L.r,L.d+_+j * i.size,none⟩),?_,by simp only[Rv];exact⟨L,f,by rw[Cy]⟩⟩;have g:(0:Int)<=Int.ofNat j/\Int.ofNat j<(n:Int):=⟨by simp,by simpa using a⟩;simp [Instr.indexAt,asIntOf,run_underlying c,Instr.sureAddr,sizeOf,typeInfo,hi,Addr.add_lit,a]
def aEh{e:TypeId}(c:P.underlying t=some (.slice e))(hi:P.info? e=some i){k:IntKind}(b:Rv P σ x X)(d:I= .int k (.ofNat j))
  (h:eQ (.slice i.size) x j=some v):∃V,(Instr.indexAt t X I).run P w= .ok V w/\Rv P σ v V:=by
 subst d;cases x<;>simp only[eQ,reduceCtorEq] at h;have⟨a,h⟩:=cN h;cases h;have a:=aOO a;simp only[Rv] at b;obtain⟨L,f,rfl⟩:=b;refine⟨.pointer (some ⟨L.r,L.d+_+j * i.size,none⟩),?_,by simp only[Rv];exact⟨L,f,by rw[Cy]⟩⟩;simp [Instr.indexAt,asIntOf,run_underlying c,sizeOf,typeInfo,hi,Addr.add_lit,a]
def aFx{i:Nat}(a:Rv P σ x X)(h:nC x i=some v):∃V,(Instr.extract X i).run P w= .ok V w/\Rv P σ v V:=by
 cases x<;>simp only[nC,reduceCtorEq] at h;rw[qQ] at h;simp only[Rv] at a;obtain⟨C,rfl,b⟩:=a;have⟨V,c,d⟩:=b.get h;exact⟨V,by simp [Instr.extract,c],d⟩
def aI1{c:AV}{C:Value}{a b:cT}{F:Fr}{A B:Value}(d:Rv P σ c C)(e:Rv P σ (a.val F) A)(f:Rv P σ (b.val F) B)(h:zC c a b F=some v):
  ∃V,(do pure (Next.value (if <-asBool C then A else B)):Sem Next).run P w= .ok (.value V) w/\Rv P σ v V:=by
 cases c<;>simp only[zC,reduceCtorEq] at h;cases h;simp only[Rv] at d;subst d;rename_i t;cases t
 .exact⟨B,by simp [asBool],f⟩
 .exact⟨A,by simp [asBool],e⟩
theorem vS:∀ (l pre old post:List Value) (off i:Nat),pre.length=off+i->old.length=l.length->
  (l.zipIdx i).foldl (fun(a:Array Value) (p:Value×Nat)=>a.setIfInBounds (off+p.2) p.1) ⟨pre++old++post⟩=⟨pre++l++post⟩
 | [],pre,old,post,off,i,_,h=>by
  have:old= []:=List.eq_nil_of_length_eq_zero h;subst this;rfl
 | x::l,pre,[],post,off,i,_,h=>by simp at h
 | x::l,pre,o::old,post,off,i,b,h=>by
  rw[List.zipIdx_cons,List.foldl_cons];have:(Array.mk (pre++o::old++post)).setIfInBounds (off+i) x=⟨(pre++ [x])++old++post⟩:=by
   apply Ft;rw[Array.toList_setIfInBounds,<-b];simp
  rw[this,vS l (pre++ [x]) old post off (i+1) (by simp;omega) (by simpa using h)];simp
def aB0(cs:List Value)(l:List Value)(off:Nat)(h:off+l.length<=cs.length):
  (l.zipIdx).foldl (fun(a:Array Value) (p:Value×Nat)=>a.setIfInBounds (off+p.2) p.1) ⟨cs⟩=⟨cs.take off++l++cs.drop (off+l.length)⟩:=by
 have:=vS l (cs.take off) ((cs.drop off).take l.length) (cs.drop (off+l.length)) off 0 (by simp;omega) (by simp;omega);rw[<-this];congr 2;rw[Bg,<-List.drop_drop,Eg,Eg]
theorem wF{place:Nat->Option (Nat×Nat)}:∀ {ps:List (Nat×Value)} {qs:List (Nat×Nat×AV)} {z r:cd} {Z:List Value},
  ps.length=qs.length->(∀ (j i:Nat) (V:Value) (off n:Nat) (v:AV),ps[j]? =some (i,V)->qs[j]? =some (off,n,v)->place i=some (off,n)/\Rv P σ v V)->
  jE P σ z Z->(∀u∈Z,u.oneCell'=true)->eI z qs=some r->∃R,Instr.fill place ⟨Z⟩ ps=some ⟨R⟩/\jE P σ r R/\(∀u∈R,u.oneCell'=true)
 | [],[],z,r,Z,_,_,k,d,h=>by
  simp only[eI,Au] at h;subst h;exact⟨Z,rfl,k,d⟩
 | [],_::_,_,_,_,e,_,_,_,_=>by simp at e
 | _::_,[],_,_,_,e,_,_,_,_=>by simp at e
 | (i,V)::ps,(off,n,v)::qs,z,r,Z,e,y,k,d,h=>by
  simp only[eI] at h;have⟨cs,l,h⟩:=aR h;have⟨A,h⟩:=cN h;have⟨G,a,h⟩:=aR h;rw[gD,Bl] at A;have B:=y 0 i V off n v rfl rfl;have⟨f,m⟩:=aBa B.2 l;have C:=(aBp a).1;have g:V.cells.toList.length=n:=by rw[f.length,A]
  have D:=k.length;have o:=k.put f a;have c:∀u∈Z.take off++V.cells.toList++Z.drop (off+V.cells.toList.length),u.oneCell'=true:=fun u b=>by
   simp only[Bi] at b;rcases b with(b|b)|b
   .exact d u (Dz b)
   .exact m u b
   .exact d u (Fe b)
  have⟨R,p,q,s⟩:=wF (place:=place) (ps:=ps) (qs:=qs) (by simpa using e) (fun j i V off n v d E=>y (j+1) i V off n v d E) o c h;refine⟨R,?_,q,s⟩;simp only[Instr.fill,B.1];have t:V.cells.size=n:=by rw[<-g];simp
  rw[if_neg (by simp [t];omega)];have F:=aB0 Z V.cells.toList off (by rw[g];omega);have H:V.cells.zipIdx.foldl (fun(cs:Array Value) (x:Value×Nat)=>cs.setIfInBounds (off+x.2) x.1) ⟨Z⟩=⟨Z.take off++V.cells.toList++Z.drop (off+V.cells.toList.length)⟩:=by
   rw[<-F,<-Array.foldl_toList,Array.toList_zipIdx]
  rw[<-p];congr 1
end Go.Ev
namespace Go.Ev
variable {P:Program}{σ:Env}{S:St}{w:World}
variable {t:TypeId}{z:cd}{i:TypeInfo}{ps:Array (Nat×Operand)}{qs:List (Nat×Nat×cT)}{F:Fr}
theorem aAW{place:Nat->Option (Nat×Nat)}{F:Fr}{a:Act}(g:qN P σ F a.tmps)(k:mD P σ S w):∀ {ps:List (Nat×Operand)} {qs:List (Nat×Nat×cT)},yQ P place ps=some qs->
  (ps.map fun p=>(p.1,a.eval p.2)).length=(dJ F qs).length/\
  ∀ (j i:Nat) (V:Value) (off n:Nat) (v:AV),(ps.map fun p=>(p.1,a.eval p.2))[j]? =some (i,V)->(dJ F qs)[j]? =some (off,n,v)->place i=some (off,n)/\Rv P σ v V
 | [],qs,h=>by
  simp only[yQ,Au] at h;subst h;exact⟨rfl,fun j i V off n v e=>by simp at e⟩
 | (i,x)::ps,qs,h=>by
  simp only[yQ] at h;split at h
  .rename_i off n X l m o f;cases h;have⟨e,q⟩:=aAW g k f;refine⟨by simp [dJ] at e ⊢;exact e,fun j r V d s v b c=>?_⟩;cases j with
   | zero=>
    simp only[Dg,Eo,dJ,Au,Prod.mk.injEq] at b c;obtain⟨rfl,rfl⟩:=b;obtain⟨rfl,rfl,rfl⟩:=c;exact⟨m,cM g k o⟩
   | succ j=>
    simp only[Dg,Ea,dJ] at b c;exact q j r V d s v b c
  .cases h
def aEx{z:AV}(h:aIu P t=some z):∃i Z,P.info? t=some i/\i.zero=some Z/\Rv P σ z Z:=by
 unfold aIu at h;split at h
 .rename_i i hi;split at h
  .rename_i Z a;exact⟨i,Z,hi,a,aEM h⟩
  .cases h
 .cases h
def nQ(h:lD P t=some z):∃i Z,P.info? t=some i/\i.zero=some Z/\jE P σ z Z.cells.toList/\∀u∈Z.cells.toList,u.oneCell'=true:=by
 unfold lD at h;rw[Cu] at h;have⟨v,a,b⟩:=h;have⟨i,Z,c,d,e⟩:=aEx (σ:=σ) a;exact⟨i,Z,c,d,aBa e b⟩
def zE{Z:Value}(hi:P.info? t=some i)(a:i.zero=some Z):(zeroValue t).run P w= .ok Z w:=by
 simp [zeroValue,typeInfo,hi,a]
theorem aIM{a b:Type}{g:a->Sem b}(w:World):∀ (l:List a) (r:List b),(∀ (j:Nat) (f:a) (p:b),l[j]? =some f->r[j]? =some p->(g f).run P w= .ok p w)->l.length=r.length->
  (l.mapM g).run P w= .ok r w
 | [],[],_,_=>rfl
 | [],_::_,_,h=>by simp at h
 | _::_,[],_,h=>by simp at h
 | f::l,p::r,h,c=>by
  have d:=h 0 f p rfl rfl;have e:=aIM w l r (fun j f p i k=>h (j+1) f p i k) (by simpa using c);rw[List.mapM_cons];simp only[Sem.run_bind,d,e,Result.andThen_ok,Sem.run_pure]
theorem xK:∀ (c:List Field),qF P c=true->∃r:List (Nat×Nat),r.length=c.length/\∀ (j:Nat) (f:Field) (p:Nat×Nat),c[j]? =some f->r[j]? =some p->∃i,P.info? f.type=some i/\p=(f.offset,i.size)
 | [],_=>⟨[],rfl,fun j f p h=>by simp at h⟩
 | f::c,h=>by
  simp only[qF,Cv] at h;have⟨r,d,e⟩:=xK c h.2;have⟨i,hi⟩:=Option.isSome_iff_exists.1 h.1;refine⟨(f.offset,i.size)::r,by simp [d],fun j g p a b=>?_⟩;cases j with
  | zero=>simp at a b;subst a;subst b;exact⟨i,hi,rfl⟩
  | succ j=>exact e j g p (by simpa using a) (by simpa using b)
def aA3{c:Array Field}{a:Act}(C:qN P σ F a.tmps)(D:mD P σ S w)
  (E:P.underlying t=some (.struct c)) (G:qF P c.toList=true) (H:lD P t=some z)
  (I:yQ P (placeOf P c) ps.toList=some qs) {cs:cd} (h:eI z (dJ F qs)=some cs):
  ∃V,(Instr.build t (ps.map fun(i,x)=>(i,a.eval x))).run P w= .ok V w/\Rv P σ (.agg cs) V:=by
 have⟨i,Z,hi,J,s,u⟩:=nQ (σ:=σ) H;have⟨r,k,l⟩:=xK _ G;have⟨K,B⟩:=aAW C D I;have b:∀i,placeOf P c i=r[i]? :=by
  intro i;unfold placeOf;rw[<-Di];cases d:c.toList[i]? with
  | none=>
   have:c.toList.length<=i:=List.getElem?_eq_none_iff.1 d;rw[Cd au]
  | some f=>
   have m:i<r.length:=by rw[k];exact(Ai.1 d).1
   have⟨L,n,o⟩:=l i f r[i] d (Ab m);rw[Ab m,o];simp [n]
 have q:=funext b;rw[q] at B;have⟨R,n,o,v⟩:=wF (place:=fun i=>r[i]?) K B s u h;refine⟨.agg ⟨R⟩,?_,by simp only[Rv];exact⟨R,rfl,o,v⟩⟩;have M:=aIM (P:=P) (g:=fun f:Field=>(do pure (f.offset,<-sizeOf f.type):Sem (Nat×Nat))) w c.toList r (fun j f p n o=>by
  obtain⟨L,v,rfl⟩:=l j f p n o;simp [sizeOf,typeInfo,v]) k.symm
 have y:(c.mapM fun f=>(do pure (f.offset,<-sizeOf f.type):Sem (Nat×Nat))).run P w= .ok r.toArray w:=by
  rw[Fa];simp only[Sem.run_map,M,Result.andThen_ok]
 have A:(ps.map fun(i,x)=>(i,a.eval x)).toList=ps.toList.map fun p=>(p.1,a.eval p.2):=by simp
 simp only[Instr.build,Sem.run_bind,zE hi J,Result.andThen_ok,run_underlying E,y,A];have e:Instr.fill (fun x=>(r.toArray)[x]?) Z.cells (ps.toList.map fun p=>(p.1,a.eval p.2))=some ⟨R⟩:=by
  rw[<-n];congr 1;funext x;simp
 rw[e];rfl
def aBj{e:TypeId}{n:Nat}{a:Act}(k:qN P σ F a.tmps)(l:mD P σ S w)
  (m:P.underlying t=some (.array n e)) (b:P.info? e=some i) (o:lD P t=some z)
  (q:yQ P (fun j=>some (j * i.size,i.size)) ps.toList=some qs) {cs:cd} (h:eI z (dJ F qs)=some cs):
  ∃V,(Instr.build t (ps.map fun(i,x)=>(i,a.eval x))).run P w= .ok V w/\Rv P σ (.agg cs) V:=by
 have⟨B,Z,hi,r,c,d⟩:=nQ (σ:=σ) o;have⟨s,u⟩:=aAW k l q;have⟨R,v,y,A⟩:=wF s u c d h;refine⟨.agg ⟨R⟩,?_,by simp only[Rv];exact⟨R,rfl,y,A⟩⟩;have f:(ps.map fun(i,x)=>(i,a.eval x)).toList=ps.toList.map fun p=>(p.1,a.eval p.2):=by simp
 have g:Instr.fill (fun j=>some (j * i.size,i.size)) Z.cells (ps.toList.map fun p=>(p.1,a.eval p.2))=some ⟨R⟩:=v;simp only[Instr.build,Sem.run_bind,zE hi r,Result.andThen_ok,run_underlying m,sizeOf,typeInfo,run_program,b,Sem.run_pure,f,g]
theorem aBE:∀ {cs:cd} {s:ce} {C:List Value},bytesOf cs=some s->jE P σ cs C->C=s.map (fun b=>Value.int .u8 (Int.ofNat b))/\Bytes s
 | [],s,C,h,a=>by
  simp only[bytesOf,Au] at h;subst h;rw[dO] at a;exact⟨a,fun x d=>by cases d⟩
 | c::cs,s,C,h,a=>by
  rw[dK] at a;obtain⟨V,m,rfl,f,g⟩:=a;unfold bytesOf at h;split at h
  .rename_i e;cases e
  .rename_i n vs e;cases e;have⟨i,h⟩:=cN h;have⟨r,j,h⟩:=aR h;cases h;simp only[Rv] at f;have⟨k,l⟩:=aBE j g;subst f;have:=Bc i;exact⟨by simp [k],fun x d=>by rcases Bp.1 d with rfl|d;omega;exact l x d⟩
  .cases h
end Go.Ev
namespace Go.Ev
variable {P:Program}{σ:Env}{S:St}{w:World}
variable {v:AV}{X:Option cT}{F:Fr}{cap:Nat}
theorem aDN:∀ (s:ce) (a:ByteArray),(s.map Int.ofNat).foldl (fun r n=>r.push (UInt8.ofNat n.toNat)) a=⟨a.data++(s.map UInt8.ofNat).toArray⟩
 | [],a=>by simp
 | b::s,a=>by
  rw[Dg,List.foldl_cons,aDN s];simp [ByteArray.push]
def aCj(c:mD P σ S w){b off len:Nat}{L:Loc}(d:σ b=some L)(h:aER S.h b off len=some v):
  ∃V,(∀cap,(Conv.bytesToString (.slice (some ⟨L.r,L.d+off,none⟩) len cap)).run P w= .ok V w)/\Rv P σ v V:=by
 have⟨cs,e,h⟩:=aR h;have⟨s,f,h⟩:=aR h;cases h;have⟨q,g,a,i,k,r,l⟩:=aAU c e;rw[d] at a;cases a;have⟨m,n⟩:=aBE f i;have o:(loadCells ⟨L.r,L.d+off,none⟩ len).run P w= .ok ((s.map Int.ofNat).map (Value.int .u8)).toArray w:=by
  have:=run_loadCells_list (P:=P) w ⟨L.r,L.d+off,none⟩ g (fun j v p=>by rw[Addr.add_mid];exact l j v p);rw[k] at this;rw[this,m];simp
 refine⟨_,fun cap=>run_bytesToString w _ len cap _ o,?_⟩;simp only[Rv];refine⟨?_,n⟩;rw[aDN];congr 2;show #[]++(s.map UInt8.ofNat).toArray=_;simp
def wN{src d:TypeId}{k:aHL}(o:mD P σ S w){x:AV}{X:Value}(b:Rv P σ x X)(h:aBi k x S.h=some v)
  (l:match k with
   | .int k=>(∃j,P.underlying src=some (.int j))/\P.underlying d=some (.int k)
   | .same=>P.underlying src=some .string/\P.underlying d=some .string
   | .bytesToStr=>∃e,P.underlying src=some (.slice e)/\P.underlying e=some (.int .u8)/\P.underlying d=some .string
   | .intToStr=>(∃j,P.underlying src=some (.int j))/\P.underlying d=some .string):
  ∃V,(convert src d X).run P w= .ok V w/\Rv P σ v V:=by
 cases k<;>cases x<;>simp only[aBi,reduceCtorEq] at h<;>simp only at l
 .have⟨⟨j,f⟩,g⟩:=l;simp only[Rv] at b;subst b;cases h;refine⟨_,?_,by simp only[Rv,vE];rfl⟩;simp [convert,run_underlying f,run_underlying g,Conv.intToInt]
 .have⟨f,g⟩:=l;simp only[Rv] at b;obtain⟨rfl,p⟩:=b;cases h;refine⟨.string (gL _),?_,by simp only[Rv];exact⟨rfl,p⟩⟩;simp [convert,run_underlying f,run_underlying g]
 .have⟨e,f,g,i⟩:=l;simp only[Rv] at b;obtain⟨L,q,rfl⟩:=b;have⟨V,r,s⟩:=aCj o q h;exact⟨V,by rw[run_convert_bytes_string w src d e _ _ _ f g i];exact r _,s⟩
 .have⟨e,f,g,i⟩:=l;simp only[Rv] at b;subst b;cases h;refine⟨.string .empty,by rw[run_convert_bytes_string w src d e _ _ _ f g i];rfl,?_⟩;simp only[Rv];exact⟨rfl,fun x b=>by cases b⟩
 .have⟨e,f,g,i⟩:=l;simp only[Rv] at b;obtain⟨a,c,rfl⟩:=b;cases h;refine⟨.string .empty,by rw[run_convert_bytes_string w src d e _ _ _ f g i,run_bytesToString w a 0 c [] rfl];rfl,?_⟩;simp only[Rv];exact⟨rfl,fun x b=>by cases b⟩
 .have⟨⟨j,f⟩,g⟩:=l;rename_i y n;cases n with
  | negSucc m=>simp at h
  | ofNat m=>
   simp only at h;have⟨i,h⟩:=cN h;cases h;have i:=Bc i;simp only[Rv] at b;subst b;refine⟨.string (gL [m]),?_,by simp only[Rv];exact⟨trivial,fun x b=>by simp at b;omega⟩⟩;have t:Utf8.valid (Int.ofNat m)=true:=by
    simp [Utf8.valid];omega
   have u:(Int.ofNat m).toNat=m:=rfl;simp only[convert,Sem.run_bind,run_underlying f,run_underlying g,Result.andThen_ok,Conv.intToString,Sem.run_pure,Utf8.encode,t,El,u];rw[if_pos au];rfl
theorem wE{a:Act}(f:qN P σ F a.tmps)(g:mD P σ S w){d y m:Nat}{c:Option Operand}(b:pI P c=some X)(h:jO F d X=some m)(e:c.isSome=true->m<=y)(code:BoundsCode):
  (match c.map a.eval with
  | some v=>Instr.sliceBound v y code
  | none=>pure d).run P w= .ok m w:=by
 cases c with
 | none=>
  simp only[pI,Au] at b;subst b;simp only[jO,Au] at h;subst h;rfl
 | some x=>
  simp only[pI,Bb] at b;obtain⟨X',b,rfl⟩:=b;simp only[jO] at h;have⟨k,i⟩:=sM h;have:=cM f g b;rw[i] at this;simp only[Rv] at this;simp only[Ep,this];have e:=e rfl;have:=run_sliceBound (P:=P) w k (Int.ofNat m) y code (by simp) (by simpa using e);simpa using this
def tD{len:Nat}{lo hi mx:Option cT}{x:Nat×Nat×Nat}(h:lA len cap lo hi mx F=some x):
  jO F cap mx=some x.2.2/\jO F len hi=some x.2.1/\jO F 0 lo=some x.1/\x.2.2<=cap/\x.2.1<=x.2.2/\x.1<=x.2.1:=by
 unfold lA at h;have⟨m,a,h⟩:=aR h;have⟨h',b,h⟩:=aR h;have⟨l,c,h⟩:=aR h;have⟨d,h⟩:=cN h;have⟨e,h⟩:=cN h;have⟨f,h⟩:=cN h;cases h;exact⟨a,b,c,Bc d,Bc e,Bc f⟩
theorem aHU{a:Option Operand}(h:pI P a=some X):X.isNone=a.isNone:=by
 cases a with
 | none=>simp only[pI,Au] at h;subst h;rfl
 | some x=>simp only[pI,Bb] at h;obtain⟨_,_,rfl⟩:=h;rfl
theorem oZ{a:Act}(j:qN P σ F a.tmps)(k:mD P σ S w){isSlice:Bool}{len e:Nat}{lo hi mx:Option Operand}{r s Mx:Option cT}(l:pI P lo=some r)(n:pI P hi=some s)(f:pI P mx=some Mx)
  (o:mx.isSome=true->hi.isSome=true) {x:Nat×Nat×Nat} (h:lA len cap r s Mx F=some x):
  (Instr.sliceBounds isSlice len (cap+e) (lo.map a.eval) (hi.map a.eval) (mx.map a.eval)).run P w= .ok (x.1,x.2.1,if mx.isNone=true then x.2.2+e else x.2.2) w:=by
 have⟨p,u,z,C,D,A⟩:=tD h;have t:∀code,(match mx.map a.eval with
   | some v=>Instr.sliceBound v (cap+e) code
   | none=>pure (cap+e)).run P w= .ok (if mx.isNone=true then x.2.2+e else x.2.2) w:=by
  intro code;cases mx with
  | none=>
   simp only[pI,Au] at f;subst f;simp only[jO,Au] at p;rw[<-p];rfl
  | some m=>
   have:=wE (d:=cap) (y:=cap+e) j k f p (fun _=>au) code;simpa using this
 have i:∀code,(match hi.map a.eval with
   | some v=>Instr.sliceBound v (if mx.isNone=true then x.2.2+e else x.2.2) code
   | none=>pure len).run P w= .ok x.2.1 w:=fun code=>wE j k n u (fun _=>by split<;>omega) code
 have q:∀code,(match lo.map a.eval with
   | some v=>Instr.sliceBound v x.2.1 code
   | none=>pure 0).run P w= .ok x.1 w:=fun code=>wE j k l z (fun _=>A) code
 unfold Instr.sliceBounds;cases mx with
 | none=>
  have c:=t .slice3Alen;simp only[Option.map_none] at c ⊢;simp only[Option.isNone_none,El] at c i ⊢;cases hi with
  | none=>
   have b:=i .sliceB;have g:=q .sliceB;simp only[Option.map_none] at b ⊢;simp only[Sem.run_bind,c,b,Result.andThen_ok,Option.isSome_none,Ed,Be];cases lo<;>simp_all
  | some B=>
   have b:=i (if isSlice=true then .sliceAcap else .sliceAlen);have g:=q .sliceB;simp only[Ep] at b ⊢;simp only[Sem.run_bind,c,b,Result.andThen_ok,Option.isSome_none,Ed,Be];cases lo<;>simp_all
 | some m=>
  cases hi with
  | none=>simp at o
  | some B=>
   have c:=t (if isSlice=true then .slice3Acap else .slice3Alen);have b:=i .slice3B;have g:=q .slice3C;simp only[Ep] at c b ⊢;simp only[Option.isNone_some,Ed,Be] at c b ⊢;simp only[Sem.run_bind,c,b,Result.andThen_ok,Option.isSome_some,El];cases lo<;>simp_all
end Go.Ev
