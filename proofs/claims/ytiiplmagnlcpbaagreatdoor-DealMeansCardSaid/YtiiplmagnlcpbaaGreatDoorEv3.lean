import Derived.Test.YtiiplmagnlcpbaaGreatDoorEv2
import Derived.Laws.StructEq
import Derived.Laws.BytesString
import Derived.Laws.Slices
set_option linter.unusedSimpArgs false
set_option linter.unusedVariables false
abbrev Go.Ev.dq:=@Go.Ev.T.get_set
theorem Go.Ev.fh{p:Prop}(h:p:=by simp only;rw[dq,if_pos rfl]):p:=h
namespace Go.Ev
variable {P:Program}{σ:Env}{S:St}{w:World}
theorem aDu:∀ {a b:bt},Bytes a->Bytes b->qI a b=Op.bytesLess (a.map UInt8.ofNat) (b.map UInt8.ofNat)
 | a,[],_,_=>by cases a<;>simp [qI,Op.bytesLess]
 | [],_::_,_,_=>by simp [qI,Op.bytesLess]
 | x::a,y::b,ha,hb=>by
  have hx:(UInt8.ofNat x).toNat=x:=vH (ha x (by simp));have hy:(UInt8.ofNat y).toNat=y:=vH (hb y (by simp));have ih:=aDu (a:=a) (b:=b) (fun z hz=>ha z (by simp [hz])) (fun z hz=>hb z (by simp [hz]));simp only[qI,Fa,Op.bytesLess,ih];have e1:(decide (UInt8.ofNat x<UInt8.ofNat y))=Nat.blt x y:=by
   rw[Dd,decide_eq_true_eq,UInt8.lt_iff_toNat_lt,hx,hy];exact⟨fun h=>Ah h,fun h=>Au h⟩
  have e2:(UInt8.ofNat x==UInt8.ofNat y)=Nat.beq x y:=by
   rw[Dd,beq_iff_eq,Az,<-UInt8.toNat_inj,hx,hy]
  rw[e1,e2,bQ,bQ];cases Nat.blt x y<;>cases Nat.beq x y<;>simp
theorem Bytes.append{a b:bt}(ha:Bytes a)(hb:Bytes b):Bytes (a++b):=fun x hx=>by
 rcases Bs.1 hx with h | h
 ·exact ha x h
 ·exact hb x h
theorem aCQ{a b:bt}(ha:Bytes a)(hb:Bytes b):((dM a).toList==(dM b).toList)=oL a b:=by
 rw[Dd,aHf ha hb,beq_iff_eq,qV,qV];constructor
 ·intro h;unfold dM;rw[h]
 ·intro h;have:=Hn (fun s:ByteArray=>s.data.toList) h;simpa [dM] using this
theorem aLI{op:BinOp}{t:TypeId}{a b:bt}{v:AV}(ha:Bytes a)(hb:Bytes b)(h:aJx op a b=some v):
  ∃V,(binOp op t (.string (dM a)) (.string (dM b))).run P w= .ok V w/\Rv P σ v V:=by
 have hbin:∀op,binOp op t (.string (dM a)) (.string (dM b))=Op.stringOp op (dM a) (dM b):=fun op=>by cases op<;>rfl
 rw[hbin];have he:=aCQ ha hb;rw[qV,qV] at he;have hl:=aDu ha hb;unfold aJx at h;cases op<;>simp only[reduceCtorEq,Al] at h<;>simp only[Op.stringOp,qV,he,<-hl]
 case add=>
  have⟨h1,h2⟩:=bJ h;cases h2;rw[eR,eR] at h1;have h1:=Au h1;have hn:¬ (((dM a).size+(dM b).size:Nat):Int)>IntKind.i64.max:=by
   rw[iC,iC];simp [IntKind.max,IntKind.signed,IntKind.bits];omega
  refine⟨_,by rw[if_neg hn];rfl,?_⟩;simp only[Rv,fE];exact⟨by rw[aG1],ha.append hb⟩
 all_goals (subst h;exact⟨_,rfl,by simp only[Rv]⟩)
theorem aHi(t:TypeId):(∃d,P.underlying t=some d/\match eqP P t with
  | .bool=>d= .bool | .int=>∃k,d= .int k | .str=>d= .string | .ptr=>∃e,d= .pointer e | .slice=>∃e,d= .slice e
  | .map=>∃k e,d= .map k e | .func=>∃a b c,d= .func a b c | .iface=>∃m,d= .interface m | .no=>True)\/eqP P t= .no:=by
 unfold eqP;cases h:P.underlying t with
 | none=>exact .inr rfl
 | some d=>left;exact⟨d,rfl,by cases d<;>simp⟩
theorem aB2{t:TypeId}{x y:AV}{X Y:Value}{b:Bool}(hx:Rv P σ x X)(hy:Rv P σ y Y)(h:eqp (eqP P t) x y=some b)(n:Nat):
  (Op.equalIn (n+1) t X Y).run P w= .ok b w:=by
 rcases aHi (P:=P) t with⟨d,hu,hd⟩ | hno
 ·cases hq:eqP P t<;>rw[hq] at h hd<;>simp only at hd
  case bool=>
   subst hd;cases x<;>simp only[eqp,reduceCtorEq] at h<;>cases y<;>simp only[reduceCtorEq] at h;simp only[Rv] at hx hy;subst hx;subst hy;cases h;simp [Op.equalIn,run_underlying hu,vS]
  case int=>
   obtain⟨kk,rfl⟩:=hd;cases x<;>simp only[eqp,reduceCtorEq] at h<;>cases y<;>simp only[reduceCtorEq] at h;simp only[Rv] at hx hy;subst hx;subst hy;have⟨h1,h2⟩:=bJ h;have:=zZ h1;subst this;cases h2;simp [Op.equalIn,run_underlying hu,nJ]
  case str=>
   subst hd;cases x<;>simp only[eqp,reduceCtorEq] at h<;>cases y<;>simp only[reduceCtorEq] at h;simp only[Rv] at hx hy;obtain⟨rfl,ha⟩:=hx;obtain⟨rfl,hc⟩:=hy;cases h;rename_i a c;have:(dM a==dM c)=oL a c:=by rw[beq_toListBytes,aCQ ha hc]
   simp [Op.equalIn,run_underlying hu,this]
  case ptr=>
   obtain⟨kk,rfl⟩:=hd;cases x<;>simp only[eqp,reduceCtorEq] at h<;>cases y<;>simp only[reduceCtorEq] at h<;>simp only[Rv] at hx hy<;>cases h
   ·obtain⟨L,_,rfl⟩:=hx;subst hy;simp [Op.equalIn,run_underlying hu]
   ·obtain⟨L,_,rfl⟩:=hy;subst hx;simp [Op.equalIn,run_underlying hu]
   ·subst hx;subst hy;simp [Op.equalIn,run_underlying hu]
  case slice=>
   obtain⟨kk,rfl⟩:=hd;cases x<;>simp only[eqp,reduceCtorEq] at h<;>cases y<;>simp only[reduceCtorEq] at h<;>simp only[Rv] at hx hy<;>cases h
   ·obtain⟨L,_,rfl⟩:=hx;subst hy;simp [Op.equalIn,run_underlying hu]
   ·obtain⟨L,_,rfl⟩:=hy;subst hx;simp [Op.equalIn,run_underlying hu]
   ·subst hx;subst hy;simp [Op.equalIn,run_underlying hu]
   ·obtain⟨L,_,rfl⟩:=hy;subst hx;simp [Op.equalIn,run_underlying hu]
   ·obtain⟨L,_,rfl⟩:=hx;subst hy;simp [Op.equalIn,run_underlying hu]
  case map=>
   obtain⟨kk,ee,rfl⟩:=hd;cases x<;>simp only[eqp,reduceCtorEq] at h<;>cases y<;>simp only[reduceCtorEq] at h<;>simp only[Rv] at hx hy<;>cases h
   ·obtain⟨L,_,rfl⟩:=hx;subst hy;simp [Op.equalIn,run_underlying hu]
   ·obtain⟨L,_,rfl⟩:=hy;subst hx;simp [Op.equalIn,run_underlying hu]
   ·subst hx;subst hy;simp [Op.equalIn,run_underlying hu]
  case func=>
   obtain⟨aa,bb,cc,rfl⟩:=hd;cases x<;>simp only[eqp,reduceCtorEq] at h<;>cases y<;>simp only[reduceCtorEq] at h<;>simp only[Rv] at hx hy<;>cases h
   ·obtain⟨A,B,rfl,_⟩:=hx;subst hy;simp [Op.equalIn,run_underlying hu]
   ·obtain⟨A,B,rfl,_⟩:=hy;subst hx;simp [Op.equalIn,run_underlying hu]
   ·subst hx;subst hy;simp [Op.equalIn,run_underlying hu]
  case iface=>
   obtain⟨mm,rfl⟩:=hd;cases x<;>simp only[eqp,reduceCtorEq] at h<;>cases y<;>simp only[reduceCtorEq] at h<;>simp only[Rv] at hx hy<;>cases h
   ·obtain⟨W,rfl,_⟩:=hx;subst hy;simp [Op.equalIn,run_underlying hu]
   ·obtain⟨W,rfl,_⟩:=hy;subst hx;simp [Op.equalIn,run_underlying hu]
  case no=>simp [eqp] at h
 ·rw[hno] at h;simp [eqp] at h
theorem aMc{op:BinOp}{t:TypeId}{xo yo:Operand}{e:EqP}{x y:AV}{X Y:Value}{b:Bool}(hx:Rv P σ x X)(hy:Rv P σ y Y)(h:eqp e x y=some b):
  eqGuard op t xo yo X Y=pure ():=by
 cases x<;>cases e<;>simp only[eqp,reduceCtorEq] at h<;>simp only[Rv] at hx
 all_goals first
  | (subst hx;cases op<;>rfl)
  | (obtain⟨rfl,_⟩:=hx;cases op<;>rfl)
  | (obtain⟨L,_,rfl⟩:=hx;cases op<;>rfl)
  | (obtain⟨L,_,rfl⟩:=hx;cases op<;>rfl)
  | (obtain⟨A,B,rfl,_⟩:=hx;cases op<;>rfl)
  | (obtain⟨A,rfl,_⟩:=hx;cases op<;>rfl)
  | (cases y<;>simp only[reduceCtorEq] at h;simp only[Rv] at hy;obtain⟨A,rfl,_⟩:=hy;subst hx;cases op<;>rfl)
end Go.Ev
namespace Go.Ev
variable {P:Program}{σ:Env}{S:St}{w:World}
theorem aCr{v:AV}{a:IntKind×Int}(h:aGS v=some a):v= .int a.1 a.2:=by
 cases v<;>simp only[aGS,reduceCtorEq,Al] at h;subst h;rfl
theorem aCp{v:AV}{a:bt}(h:aGn v=some a):v= .str a:=by
 cases v<;>simp only[aGn,reduceCtorEq,Al] at h;subst h;rfl
def vD(P:Program):Prop:=∀ (σ:Env) (w:World) (t:TypeId) (fs:List (Nat×EqP)) (xs ys:bo) (X Y:Value) (b:Bool),eqT P t= .struct fs->Rv P σ (.agg xs) X->Rv P σ (.agg ys) Y->
 eqs fs xs ys=some b->(∀op xo yo,(eqGuard op t xo yo X Y).run P w= .ok () w)/\∀n,(Op.equalIn (n+2) t X Y).run P w= .ok b w
theorem aSd{t:TypeId}{e:EqP}(h:eqT P t= .p e):e=eqP P t\/e= .no:=by
 unfold eqT at h;split at h
 ·rw[Ba] at h;split at h
  ·cases h;exact .inr rfl
  ·cases h
 ·rw[Ba] at h;split at h
  ·cases h;exact .inr rfl
  ·cases h
 ·cases h;exact .inl rfl
theorem yW(hE:vD P){t:TypeId}{x y:AV}{X Y:Value}{b:Bool}(hx:Rv P σ x X)(hy:Rv P σ y Y)(h:eqv (eqT P t) x y=some b):
  (∀op xo yo,(eqGuard op t xo yo X Y).run P w= .ok () w)/\∀n,(Op.equalIn (n+2) t X Y).run P w= .ok b w:=by
 cases he:eqT P t with
 | p e=>
  rw[he] at h;have h:eqp e x y=some b:=h;rcases aSd he with rfl | rfl
  ·exact⟨fun op xo yo=>by rw[aMc hx hy h];rfl,fun n=>aB2 hx hy h (n+1)⟩
  ·simp [eqp] at h
 | struct fs=>
  rw[he] at h;cases x<;>simp only[eqv,reduceCtorEq] at h;cases y<;>simp only[reduceCtorEq] at h;have⟨_,h⟩:=bJ h;have⟨_,h⟩:=bJ h;exact hE σ w t fs _ _ X Y b he hx hy h
theorem aMs(hE:vD P){op:BinOp}{t:TypeId}{xo yo:Operand}{x y v:AV}{X Y:Value}(hx:Rv P σ x X)(hy:Rv P σ y Y)(h:kA op (eqT P t) x y=some v):
  ∃V,(do eqGuard op t xo yo X Y;binOp op t X Y:Sem Value).run P w= .ok V w/\Rv P σ v V:=by
 unfold kA at h;split at h
 ·rename_i a b ha hb;have:=aCr ha;subst this;have:=aCr hb;subst this;simp only[Rv] at hx hy;subst hx;subst hy;have⟨V,h1,h2⟩:=aJv (P:=P) (σ:=σ) (w:=w) (t:=t) h;exact⟨V,by simp [eqGuard_at_int,h1],h2⟩
 ·rename_i hni;split at h
  ·rename_i a b ha hb;have:=aCp ha;subst this;have:=aCp hb;subst this;simp only[Rv] at hx hy;obtain⟨rfl,hx⟩:=hx;obtain⟨rfl,hy⟩:=hy;have⟨V,h1,h2⟩:=aLI (P:=P) (σ:=σ) (w:=w) (t:=t) hx hy h;exact⟨V,by simp [eqGuard_at_string,h1],h2⟩
  ·rename_i hns;unfold aQI at h;have key:∀b,eqv (eqT P t) x y=some b->(binOp .eql t X Y).run P w= .ok (.bool b) w/\(binOp .neq t X Y).run P w= .ok (.bool !b) w:=by
    intro b hb;have he:=(yW (w:=w) hE hx hy hb).2 9998;have h1:(Op.equal t X Y).run P w= .ok b w:=he;have hnn:∀k a k' b',¬ (X= .int k a/\Y= .int k' b'):=by
     rintro k a k' b' ⟨rfl,rfl⟩;cases x<;>simp only[Rv] at hx<;>(try (simp at hx;done))<;>(try (have⟨_,hx⟩:=hx;simp at hx;done))<;>(try (have⟨_,_,hx⟩:=hx;simp at hx;done));cases y<;>simp only[Rv] at hy<;>(try (simp at hy;done))<;>(try (have⟨_,hy⟩:=hy;simp at hy;done))<;>(try (have⟨_,_,hy⟩:=hy;simp at hy;done));exact hni _ _ rfl rfl
    have hsn:∀a b',¬ (X= .string a/\Y= .string b'):=by
     rintro a b' ⟨rfl,rfl⟩;cases x<;>simp only[Rv] at hx<;>(try (simp at hx;done))<;>(try (have⟨_,hx⟩:=hx;simp at hx;done))<;>(try (have⟨_,_,hx⟩:=hx;simp at hx;done));cases y<;>simp only[Rv] at hy<;>(try (simp at hy;done))<;>(try (have⟨_,hy⟩:=hy;simp at hy;done))<;>(try (have⟨_,_,hy⟩:=hy;simp at hy;done));exact hns _ _ rfl rfl
    have hff:∀k a,X≠ .float k a:=by
     rintro k a rfl;cases x<;>simp only[Rv] at hx<;>(try (simp at hx;done))<;>(try (have⟨_,hx⟩:=hx;simp at hx;done))<;>(try (have⟨_,_,hx⟩:=hx;simp at hx;done))
    have hcc:∀k a b,X≠ .complex k a b:=by
     rintro k a b rfl;cases x<;>simp only[Rv] at hx<;>(try (simp at hx;done))<;>(try (have⟨_,hx⟩:=hx;simp at hx;done))<;>(try (have⟨_,_,hx⟩:=hx;simp at hx;done))
    have hb:∀ (op:BinOp),(op= .eql->binOp op t X Y=(do pure (.bool (<-Op.equal t X Y))))/\(op= .neq->binOp op t X Y=(do pure (.bool (!(<-Op.equal t X Y))))):=by
     intro op;constructor
     ·rintro rfl;unfold binOp;split<;>first
       | rfl
       | (rename_i h;exact absurd ⟨rfl,rfl⟩ (hnn _ _ _ _))
       | (exact absurd rfl (hff _ _))
       | (exact absurd rfl (hcc _ _ _))
       | (exact absurd ⟨rfl,rfl⟩ (hsn _ _))
       | (exact absurd ⟨rfl,rfl⟩ (hnn _ _ _ _))
       | simp_all
     ·rintro rfl;unfold binOp;split<;>first
       | rfl
       | (exact absurd rfl (hff _ _))
       | (exact absurd rfl (hcc _ _ _))
       | (exact absurd ⟨rfl,rfl⟩ (hsn _ _))
       | (exact absurd ⟨rfl,rfl⟩ (hnn _ _ _ _))
       | simp_all
    rw[(hb .eql).1 rfl,(hb .neq).2 rfl];simp [h1]
   cases op<;>simp only[reduceCtorEq] at h
   ·have⟨b,h1,h2⟩:=aA h;cases h2;refine⟨.bool b,?_,by simp only[Rv]⟩;simp [(yW (w:=w) hE hx hy h1).1,(key b h1).1]
   ·have⟨b,h1,h2⟩:=aA h;cases h2;refine⟨.bool !b,?_,by simp only[Rv,sL]⟩;simp [(yW (w:=w) hE hx hy h1).1,(key b h1).2]
theorem aMV{op:UnOp}{x v:AV}{X:Value}(hx:Rv P σ x X)(h:unV op x=some v):∃V,(Op.unary op X).run P w= .ok V w/\Rv P σ v V:=by
 unfold unV at h;split at h
 ·simp only[Rv] at hx;subst hx;cases h;exact⟨_,rfl,by simp only[Rv,xM];rfl⟩
 ·simp only[Rv] at hx;subst hx;cases h;exact⟨_,rfl,by simp only[Rv,sL]⟩
 ·cases h
end Go.Ev
namespace Go.Ev
variable {P:Program}{σ:Env}{S:St}{w:World}
theorem aBm{t:TypeId}{agg:Bool}{n off:Nat}(ht:aAL P t=some (agg,n)){cs:bo}{C:List Value}(hC:iD P σ cs C)(h1:∀u∈C,u.oneCell'=true){v:AV}
  (h:partOf agg cs off n=some v):∃V,(part t ⟨C⟩ off).run P w= .ok V w/\Rv P σ v V:=by
 have⟨d,i,hu,hi,hn,hd⟩:=yV ht;have hag:(isAgg t).run P w= .ok agg w:=by
  simp only[isAgg,Sem.run_bind,run_underlying hu,Result.andThen_ok];cases d<;>simp_all [TypeDesc.isRow]
 unfold partOf at h;cases agg with
 | true=>
  rw[aN] at h;have⟨r,h2,h3⟩:=aA h;cases h3;have hc:=hC.cut h2;refine⟨.agg ⟨(C.drop off).take n⟩,?_,by simp only[Rv];exact⟨_,rfl,hc.1,fun u hu=>h1 u (Ej (Ek hu))⟩⟩;simp [part,hag,sizeOf,typeInfo,hi,hn,List.extract_eq_take_drop]
 | false=>
  rw[aR,jY] at h;have⟨V,h2,h3⟩:=hC.get h;refine⟨V,?_,h3⟩;simp [part,hag,h2]
theorem aL1{t:TypeId}{fs:Array Field}{k:Nat}{f:Field}{agg:Bool}{n:Nat}(ht:P.underlying t=some (.struct fs))(hf:fs[k]? =some f)(ha:aAL P f.type=some (agg,n))
  {x v:AV} {X:Value} (hx:Rv P σ x X) (h:aLz x agg f.offset n=some v):∃V,(Instr.field t X k).run P w= .ok V w/\Rv P σ v V:=by
 cases x<;>simp only[aLz,reduceCtorEq] at h;simp only[Rv] at hx;obtain⟨C,rfl,h2,h3⟩:=hx;have⟨V,h4,h5⟩:=aBm (w:=w) ha h2 h3 h;exact⟨V,by simp [Instr.field,run_underlying ht,hf,asAgg,h4],h5⟩
theorem aHP{t:TypeId}{fs:Array Field}{k:Nat}{f:Field}{i:TypeInfo}(ht:P.underlying t=some (.struct fs))(hf:fs[k]? =some f)(hi:P.info? f.type=some i)(h0:i.size≠0)
  {x v:AV} {X:Value} (hx:Rv P σ x X) (h:aAh x f.offset=some v):∃V,(Instr.fieldAt t X k).run P w= .ok V w/\Rv P σ v V:=by
 cases x<;>simp only[aAh,reduceCtorEq] at h;cases h;simp only[Rv] at hx;obtain⟨L,hL,rfl⟩:=hx;refine⟨.pointer (some ⟨L.r,L.d+_+f.offset,none⟩),?_,by simp only[Rv];exact⟨L,hL,by rw[Cx]⟩⟩;simp [Instr.fieldAt,run_underlying ht,hf,Instr.sureAddr,fieldPlace,sizeOf,typeInfo,hi,h0,Addr.add_lit]
theorem nM{v:AV}{n:Nat}(h:dS v=some n):∃k,v= .int k (.ofNat n):=by
 unfold dS at h;split at h
 ·cases h;exact⟨_,rfl⟩
 ·cases h
theorem aJ2{a b:Nat}(h:Nat.blt a b=true):a<b:=Au h
theorem aCI{t e:TypeId}{n:Nat}{i:TypeInfo}(ht:P.underlying t=some (.array n e))(hi:P.info? e=some i){x v:AV}{X I:Value}{j:Nat}{k:IntKind}(hx:Rv P σ x X)(hI:I= .int k (.ofNat j))
  (h:dT (.arr n i.size) x j=some v):∃V,(Instr.indexAt t X I).run P w= .ok V w/\Rv P σ v V:=by
 subst hI;cases x<;>simp only[dT,reduceCtorEq] at h;have⟨h1,h⟩:=bJ h;cases h;have h1:=aJ2 h1;simp only[Rv] at hx;obtain⟨L,hL,rfl⟩:=hx;refine⟨.pointer (some ⟨L.r,L.d+_+j * i.size,none⟩),?_,by simp only[Rv];exact⟨L,hL,by rw[Cx]⟩⟩;have hb:(0:Int)<=Int.ofNat j/\Int.ofNat j<(n:Int):=⟨by simp,by simpa using h1⟩;simp [Instr.indexAt,asIntOf,run_underlying ht,Instr.sureAddr,sizeOf,typeInfo,hi,Addr.add_lit,h1]
theorem aDE{t e:TypeId}{i:TypeInfo}(ht:P.underlying t=some (.slice e))(hi:P.info? e=some i){x v:AV}{X I:Value}{j:Nat}{k:IntKind}(hx:Rv P σ x X)(hI:I= .int k (.ofNat j))
  (h:dT (.slice i.size) x j=some v):∃V,(Instr.indexAt t X I).run P w= .ok V w/\Rv P σ v V:=by
 subst hI;cases x<;>simp only[dT,reduceCtorEq] at h;have⟨h1,h⟩:=bJ h;cases h;have h1:=aJ2 h1;simp only[Rv] at hx;obtain⟨L,hL,rfl⟩:=hx;refine⟨.pointer (some ⟨L.r,L.d+_+j * i.size,none⟩),?_,by simp only[Rv];exact⟨L,hL,by rw[Cx]⟩⟩;simp [Instr.indexAt,asIntOf,run_underlying ht,sizeOf,typeInfo,hi,Addr.add_lit,h1]
theorem aGt{t e:TypeId}{n:Nat}{agg:Bool}{s:Nat}(ht:P.underlying t=some (.array n e))(ha:aAL P e=some (agg,s)){x v:AV}{X I:Value}{j:Nat}{k:IntKind}(hx:Rv P σ x X)(hI:I= .int k (.ofNat j))
  (h:yS x agg n s j=some v):∃V,(Instr.index t X I).run P w= .ok V w/\Rv P σ v V:=by
 subst hI;cases x<;>simp only[yS,reduceCtorEq] at h;have⟨h1,h⟩:=bJ h;have h1:=aJ2 h1;simp only[Rv] at hx;obtain⟨C,rfl,h2,h3⟩:=hx;have⟨d,i,hu,hi,hn,hd⟩:=yV ha;have⟨V,h4,h5⟩:=aBm (w:=w) ha h2 h3 h;exact⟨V,by simp [Instr.index,asIntOf,run_underlying ht,sizeOf,typeInfo,hi,hn,h1,h4],h5⟩
theorem aFV{t:TypeId}(ht:P.underlying t=some .string){x v:AV}{X I:Value}{j:Nat}{k:IntKind}(hx:Rv P σ x X)(hI:I= .int k (.ofNat j))
  (h:yZ x j=some v):∃V,(Instr.index t X I).run P w= .ok V w/\Rv P σ v V:=by
 subst hI;cases x<;>simp only[yZ,reduceCtorEq] at h;rename_i s;have⟨b,h1,h2⟩:=aA h;cases h2;rw[jY] at h1;simp only[Rv] at hx;obtain⟨rfl,hb⟩:=hx;have hj:j<s.length:=by
  rcases Bj j s.length with h3 | h3
  ·exact h3
  ·rw[Bo h3] at h1;cases h1
 have hsz:j<(dM s).size:=by rw[iC];exact hj
 have hg:(dM s)[j]? =some (UInt8.ofNat b):=by
  rw[getElem?_pos (dM s) j hsz];congr 1;show(dM s).data[j]=_;simp only[dM,List.getElem_toArray,List.getElem_map];rw[Ad hj] at h1;cases h1;rfl
 have hbb:b<256:=hb b (Cm h1);refine⟨.int .u8 (.ofNat b),?_,by simp only[Rv]⟩;have h0:(0:Int)<=Int.ofNat j:=by simp
 have h9:(Int.ofNat j).toNat=j:=rfl;simp only[Instr.index,asIntOf,Sem.run_bind,Sem.run_pure,Result.andThen_ok,run_underlying ht,if_pos h0,h9,hg];show Result.ok (Value.int .u8 ((UInt8.ofNat b).toNat:Int)) w=_;rw[vH hbb];rfl
theorem aEV{x v:AV}{X:Value}{i:Nat}(hx:Rv P σ x X)(h:mW x i=some v):∃V,(Instr.extract X i).run P w= .ok V w/\Rv P σ v V:=by
 cases x<;>simp only[mW,reduceCtorEq] at h;rw[jY] at h;simp only[Rv] at hx;obtain⟨C,rfl,h2⟩:=hx;have⟨V,h3,h4⟩:=h2.get h;exact⟨V,by simp [Instr.extract,h3],h4⟩
theorem aI4{c:AV}{C:Value}{a b:cP}{F:Fr}{v:AV}{A B:Value}(hc:Rv P σ c C)(ha:Rv P σ (a.val F) A)(hb:Rv P σ (b.val F) B)(h:yI c a b F=some v):
  ∃V,(do pure (Next.value (if <-asBool C then A else B)):Sem Next).run P w= .ok (.value V) w/\Rv P σ v V:=by
 cases c<;>simp only[yI,reduceCtorEq] at h;cases h;simp only[Rv] at hc;subst hc;rename_i t;cases t
 ·exact⟨B,by simp [asBool],hb⟩
 ·exact⟨A,by simp [asBool],ha⟩
theorem uN:∀ (l pre old post:List Value) (off i:Nat),pre.length=off+i->old.length=l.length->
  (l.zipIdx i).foldl (fun(a:Array Value) (p:Value×Nat)=>a.setIfInBounds (off+p.2) p.1) ⟨pre++old++post⟩=⟨pre++l++post⟩
 | [],pre,old,post,off,i,_,h=>by
  have:old= []:=List.eq_nil_of_length_eq_zero h;subst this;rfl
 | x::l,pre,[],post,off,i,_,h=>by simp at h
 | x::l,pre,o::old,post,off,i,hp,h=>by
  rw[List.zipIdx_cons,List.foldl_cons];have:(Array.mk (pre++o::old++post)).setIfInBounds (off+i) x=⟨(pre++ [x])++old++post⟩:=by
   apply Ga;rw[Array.toList_setIfInBounds,<-hp];simp
  rw[this,uN l (pre++ [x]) old post off (i+1) (by simp;omega) (by simpa using h)];simp
theorem aBN(cs:List Value)(l:List Value)(off:Nat)(h:off+l.length<=cs.length):
  (l.zipIdx).foldl (fun(a:Array Value) (p:Value×Nat)=>a.setIfInBounds (off+p.2) p.1) ⟨cs⟩=⟨cs.take off++l++cs.drop (off+l.length)⟩:=by
 have:=uN l (cs.take off) ((cs.drop off).take l.length) (cs.drop (off+l.length)) off 0 (by simp;omega) (by simp;omega);rw[<-this];congr 2;rw[Be,<-List.drop_drop,Dl,Dl]
theorem vB{place:Nat->Option (Nat×Nat)}:∀ {ps:List (Nat×Value)} {qs:List (Nat×Nat×AV)} {z r:bo} {Z:List Value},
  ps.length=qs.length->(∀ (j i:Nat) (V:Value) (off n:Nat) (v:AV),ps[j]? =some (i,V)->qs[j]? =some (off,n,v)->place i=some (off,n)/\Rv P σ v V)->
  iD P σ z Z->(∀u∈Z,u.oneCell'=true)->eQ z qs=some r->∃R,Instr.fill place ⟨Z⟩ ps=some ⟨R⟩/\iD P σ r R/\(∀u∈R,u.oneCell'=true)
 | [],[],z,r,Z,_,_,hz,h1,h=>by
  simp only[eQ,Al] at h;subst h;exact⟨Z,rfl,hz,h1⟩
 | [],_::_,_,_,_,hl,_,_,_,_=>by simp at hl
 | _::_,[],_,_,_,hl,_,_,_,_=>by simp at hl
 | (i,V)::ps,(off,n,v)::qs,z,r,Z,hl,hp,hz,h1,h=>by
  simp only[eQ] at h;have⟨cs,hcs,h⟩:=aA h;have⟨hn,h⟩:=bJ h;have⟨z',hput,h⟩:=aA h;rw[eR,Az] at hn;have h0:=hp 0 i V off n v rfl rfl;have⟨hc1,hc2⟩:=aAQ h0.2 hcs;have hle:=(aA6 hput).1;have hVl:V.cells.toList.length=n:=by rw[hc1.length,hn]
  have hZl:=hz.length;have hz':=hz.put hc1 hput;have hflat:∀u∈Z.take off++V.cells.toList++Z.drop (off+V.cells.toList.length),u.oneCell'=true:=fun u hu=>by
   simp only[Bs] at hu;rcases hu with(hu | hu) | hu
   ·exact h1 u (Ek hu)
   ·exact hc2 u hu
   ·exact h1 u (Ej hu)
  have⟨R,hR1,hR2,hR3⟩:=vB (place:=place) (ps:=ps) (qs:=qs) (by simpa using hl) (fun j i V off n v h1 h2=>hp (j+1) i V off n v h1 h2) hz' hflat h;refine⟨R,?_,hR2,hR3⟩;simp only[Instr.fill,h0.1];have hVs:V.cells.size=n:=by rw[<-hVl];simp
  rw[if_neg (by simp [hVs];omega)];have hf:=aBN Z V.cells.toList off (by rw[hVl];omega);have he:V.cells.zipIdx.foldl (fun(cs:Array Value) (x:Value×Nat)=>cs.setIfInBounds (off+x.2) x.1) ⟨Z⟩=⟨Z.take off++V.cells.toList++Z.drop (off+V.cells.toList.length)⟩:=by
   rw[<-hf,<-Array.foldl_toList,Array.toList_zipIdx]
  rw[<-hR1];congr 1
end Go.Ev
namespace Go.Ev
variable {P:Program}{σ:Env}{S:St}{w:World}
theorem aAv{place:Nat->Option (Nat×Nat)}{F:Fr}{a:Act}(hF:pV P σ F a.tmps)(hR:kT P σ S w):∀ {ps:List (Nat×Operand)} {qs:List (Nat×Nat×cP)},xW P place ps=some qs->
  (ps.map fun p=>(p.1,a.eval p.2)).length=(fG F qs).length/\
  ∀ (j i:Nat) (V:Value) (off n:Nat) (v:AV),(ps.map fun p=>(p.1,a.eval p.2))[j]? =some (i,V)->(fG F qs)[j]? =some (off,n,v)->place i=some (off,n)/\Rv P σ v V
 | [],qs,h=>by
  simp only[xW,Al] at h;subst h;exact⟨rfl,fun j i V off n v h1=>by simp at h1⟩
 | (i,x)::ps,qs,h=>by
  simp only[xW] at h;split at h
  ·rename_i off n X qs' hp hx hqs;cases h;have⟨h1,h2⟩:=aAv hF hR hqs;refine⟨by simp [fG] at h1 ⊢;exact h1,fun j i' V off' n' v hj1 hj2=>?_⟩;cases j with
   | zero=>
    simp only[Fa,List.getElem?_cons_zero,fG,Al,Prod.mk.injEq] at hj1 hj2;obtain⟨rfl,rfl⟩:=hj1;obtain⟨rfl,rfl,rfl⟩:=hj2;exact⟨hp,bM hF hR hx⟩
   | succ j=>
    simp only[Fa,Fy,fG] at hj1 hj2;exact h2 j i' V off' n' v hj1 hj2
  ·cases h
theorem aAo{t:TypeId}{z:AV}(h:aD1 P t=some z):∃i Z,P.info? t=some i/\i.zero=some Z/\Rv P σ z Z:=by
 unfold aD1 at h;split at h
 ·rename_i i hi;split at h
  ·rename_i Z hz;exact⟨i,Z,hi,hz,aEb h⟩
  ·cases h
 ·cases h
theorem nG{t:TypeId}{z:bo}(h:kK P t=some z):∃i Z,P.info? t=some i/\i.zero=some Z/\iD P σ z Z.cells.toList/\∀u∈Z.cells.toList,u.oneCell'=true:=by
 unfold kK at h;rw[Du] at h;have⟨v,h1,h2⟩:=h;have⟨i,Z,h3,h4,h5⟩:=aAo (σ:=σ) h1;exact⟨i,Z,h3,h4,aAQ h5 h2⟩
theorem uM{t:TypeId}{i:TypeInfo}{Z:Value}(hi:P.info? t=some i)(hz:i.zero=some Z):(zeroValue t).run P w= .ok Z w:=by
 simp [zeroValue,typeInfo,hi,hz]
theorem aIE{α β:Type}{g:α->Sem β}(w:World):∀ (l:List α) (r:List β),(∀ (j:Nat) (f:α) (p:β),l[j]? =some f->r[j]? =some p->(g f).run P w= .ok p w)->l.length=r.length->
  (l.mapM g).run P w= .ok r w
 | [],[],_,_=>rfl
 | [],_::_,_,h=>by simp at h
 | _::_,[],_,h=>by simp at h
 | f::l,p::r,h,hl=>by
  have h0:=h 0 f p rfl rfl;have ih:=aIE w l r (fun j f p h1 h2=>h (j+1) f p h1 h2) (by simpa using hl);rw[List.mapM_cons];simp only[Sem.run_bind,h0,ih,Result.andThen_ok,Sem.run_pure]
theorem wL:∀ (fs:List Field),pJ P fs=true->∃r:List (Nat×Nat),r.length=fs.length/\∀ (j:Nat) (f:Field) (p:Nat×Nat),fs[j]? =some f->r[j]? =some p->∃i,P.info? f.type=some i/\p=(f.offset,i.size)
 | [],_=>⟨[],rfl,fun j f p h=>by simp at h⟩
 | f::fs,h=>by
  simp only[pJ,Ct] at h;have⟨r,h1,h2⟩:=wL fs h.2;have⟨i,hi⟩:=Option.isSome_iff_exists.1 h.1;refine⟨(f.offset,i.size)::r,by simp [h1],fun j g p hj1 hj2=>?_⟩;cases j with
  | zero=>simp at hj1 hj2;subst hj1;subst hj2;exact⟨i,hi,rfl⟩
  | succ j=>exact h2 j g p (by simpa using hj1) (by simpa using hj2)
theorem aAD{t:TypeId}{fs:Array Field}{z:bo}{ps:Array (Nat×Operand)}{qs:List (Nat×Nat×cP)}{F:Fr}{a:Act}(hF:pV P σ F a.tmps)(hR:kT P σ S w)
  (ht:P.underlying t=some (.struct fs)) (hk:pJ P fs.toList=true) (hz:kK P t=some z)
  (hq:xW P (placeOf P fs) ps.toList=some qs) {cs:bo} (h:eQ z (fG F qs)=some cs):
  ∃V,(Instr.build t (ps.map fun(i,x)=>(i,a.eval x))).run P w= .ok V w/\Rv P σ (.agg cs) V:=by
 have⟨i,Z,hi,hZ,hz1,hz2⟩:=nG (σ:=σ) hz;have⟨r,hr1,hr2⟩:=wL _ hk;have⟨hl,hp⟩:=aAv hF hR hq;have hplace:∀i,placeOf P fs i=r[i]? :=by
  intro i;unfold placeOf;rw[<-Da];cases hfi:fs.toList[i]? with
  | none=>
   have:fs.toList.length<=i:=List.getElem?_eq_none_iff.1 hfi;rw[Bo au]
  | some f=>
   have hlt:i<r.length:=by rw[hr1];exact(Ai.1 hfi).1
   have⟨i',h1,h2⟩:=hr2 i f r[i] hfi (Ad hlt);rw[Ad hlt,h2];simp [h1]
 have hfun:=funext hplace;rw[hfun] at hp;have⟨R,h1,h2,h3⟩:=vB (place:=fun i=>r[i]?) hl hp hz1 hz2 h;refine⟨.agg ⟨R⟩,?_,by simp only[Rv];exact⟨R,rfl,h2,h3⟩⟩;have hm:=aIE (P:=P) (g:=fun f:Field=>(do pure (f.offset,<-sizeOf f.type):Sem (Nat×Nat))) w fs.toList r (fun j f p h1 h2=>by
  obtain⟨i',h3,rfl⟩:=hr2 j f p h1 h2;simp [sizeOf,typeInfo,h3]) hr1.symm
 have hm':(fs.mapM fun f=>(do pure (f.offset,<-sizeOf f.type):Sem (Nat×Nat))).run P w= .ok r.toArray w:=by
  rw[Fe];simp only[Sem.run_map,hm,Result.andThen_ok]
 have hpl:(ps.map fun(i,x)=>(i,a.eval x)).toList=ps.toList.map fun p=>(p.1,a.eval p.2):=by simp
 simp only[Instr.build,Sem.run_bind,uM hi hZ,Result.andThen_ok,run_underlying ht,hm',hpl];have hfill:Instr.fill (fun x=>(r.toArray)[x]?) Z.cells (ps.toList.map fun p=>(p.1,a.eval p.2))=some ⟨R⟩:=by
  rw[<-h1];congr 1;funext x;simp
 rw[hfill];rfl
theorem aA0{t e:TypeId}{n:Nat}{i:TypeInfo}{z:bo}{ps:Array (Nat×Operand)}{qs:List (Nat×Nat×cP)}{F:Fr}{a:Act}(hF:pV P σ F a.tmps)(hR:kT P σ S w)
  (ht:P.underlying t=some (.array n e)) (hie:P.info? e=some i) (hz:kK P t=some z)
  (hq:xW P (fun j=>some (j * i.size,i.size)) ps.toList=some qs) {cs:bo} (h:eQ z (fG F qs)=some cs):
  ∃V,(Instr.build t (ps.map fun(i,x)=>(i,a.eval x))).run P w= .ok V w/\Rv P σ (.agg cs) V:=by
 have⟨i',Z,hi,hZ,hz1,hz2⟩:=nG (σ:=σ) hz;have⟨hl,hp⟩:=aAv hF hR hq;have⟨R,h1,h2,h3⟩:=vB hl hp hz1 hz2 h;refine⟨.agg ⟨R⟩,?_,by simp only[Rv];exact⟨R,rfl,h2,h3⟩⟩;have hpl:(ps.map fun(i,x)=>(i,a.eval x)).toList=ps.toList.map fun p=>(p.1,a.eval p.2):=by simp
 have h1':Instr.fill (fun j=>some (j * i.size,i.size)) Z.cells (ps.toList.map fun p=>(p.1,a.eval p.2))=some ⟨R⟩:=h1;simp only[Instr.build,Sem.run_bind,uM hi hZ,Result.andThen_ok,run_underlying ht,sizeOf,typeInfo,run_program,hie,Sem.run_pure,hpl,h1']
theorem aBn:∀ {cs:bo} {s:bt} {C:List Value},bytesOf cs=some s->iD P σ cs C->C=s.map (fun b=>Value.int .u8 (Int.ofNat b))/\Bytes s
 | [],s,C,h,hC=>by
  simp only[bytesOf,Al] at h;subst h;rw[cT] at hC;exact⟨hC,fun x hx=>by cases hx⟩
 | c::cs,s,C,h,hC=>by
  rw[cS] at hC;obtain⟨V,Ws,rfl,hV,hW⟩:=hC;unfold bytesOf at h;split at h
  ·rename_i e;cases e
  ·rename_i n vs e;cases e;have⟨h1,h⟩:=bJ h;have⟨r,h2,h⟩:=aA h;cases h;simp only[Rv] at hV;have⟨h3,h4⟩:=aBn h2 hW;subst hV;have:=Au h1;exact⟨by simp [h3],fun x hx=>by rcases Br.1 hx with rfl | hx;omega;exact h4 x hx⟩
  ·cases h
end Go.Ev
namespace Go.Ev
variable {P:Program}{σ:Env}{S:St}{w:World}
theorem aC8:∀ (s:bt) (acc:ByteArray),(s.map Int.ofNat).foldl (fun r n=>r.push (UInt8.ofNat n.toNat)) acc=⟨acc.data++(s.map UInt8.ofNat).toArray⟩
 | [],acc=>by simp
 | b::s,acc=>by
  rw[Fa,List.foldl_cons,aC8 s];simp [ByteArray.push]
theorem aB1(hR:kT P σ S w){b off len:Nat}{L:Loc}(hL:σ b=some L){v:AV}(h:aEg S.h b off len=some v):
  ∃V,(∀cap,(Conv.bytesToString (.slice (some ⟨L.r,L.d+off,none⟩) len cap)).run P w= .ok V w)/\Rv P σ v V:=by
 have⟨cs,h1,h⟩:=aA h;have⟨s,h2,h⟩:=aA h;cases h;have⟨L',Cs,hL',h3,h4,h5,h6⟩:=vR hR h1;rw[hL] at hL';cases hL';have⟨h7,h8⟩:=aBn h2 h3;have hl:(loadCells ⟨L.r,L.d+off,none⟩ len).run P w= .ok ((s.map Int.ofNat).map (Value.int .u8)).toArray w:=by
  have:=run_loadCells_list (P:=P) w ⟨L.r,L.d+off,none⟩ Cs (fun j v hv=>by rw[Addr.add_mid];exact h6 j v hv);rw[h4] at this;rw[this,h7];simp
 refine⟨_,fun cap=>run_bytesToString w _ len cap _ hl,?_⟩;simp only[Rv];refine⟨?_,h8⟩;rw[aC8];congr 2;show #[]++(s.map UInt8.ofNat).toArray=_;simp
theorem vM{src dst:TypeId}{k:aHD}(hR:kT P σ S w){x v:AV}{X:Value}(hx:Rv P σ x X)(h:aAZ k x S.h=some v)
  (hk:match k with
   | .int k=>(∃j,P.underlying src=some (.int j))/\P.underlying dst=some (.int k)
   | .same=>P.underlying src=some .string/\P.underlying dst=some .string
   | .bytesToStr=>∃e,P.underlying src=some (.slice e)/\P.underlying e=some (.int .u8)/\P.underlying dst=some .string
   | .intToStr=>(∃j,P.underlying src=some (.int j))/\P.underlying dst=some .string):
  ∃V,(convert src dst X).run P w= .ok V w/\Rv P σ v V:=by
 cases k<;>cases x<;>simp only[aAZ,reduceCtorEq] at h<;>simp only at hk
 ·have⟨⟨j,h1⟩,h2⟩:=hk;simp only[Rv] at hx;subst hx;cases h;refine⟨_,?_,by simp only[Rv,tW];rfl⟩;simp [convert,run_underlying h1,run_underlying h2,Conv.intToInt]
 ·have⟨h1,h2⟩:=hk;simp only[Rv] at hx;obtain⟨rfl,hb⟩:=hx;cases h;refine⟨.string (dM _),?_,by simp only[Rv];exact⟨rfl,hb⟩⟩;simp [convert,run_underlying h1,run_underlying h2]
 ·have⟨e,h1,h2,h3⟩:=hk;simp only[Rv] at hx;obtain⟨L,hL,rfl⟩:=hx;have⟨V,h4,h5⟩:=aB1 hR hL h;exact⟨V,by rw[run_convert_bytes_string w src dst e _ _ _ h1 h2 h3];exact h4 _,h5⟩
 ·have⟨e,h1,h2,h3⟩:=hk;simp only[Rv] at hx;subst hx;cases h;refine⟨.string .empty,by rw[run_convert_bytes_string w src dst e _ _ _ h1 h2 h3];rfl,?_⟩;simp only[Rv];exact⟨rfl,fun x hx=>by cases hx⟩
 ·have⟨e,h1,h2,h3⟩:=hk;simp only[Rv] at hx;obtain⟨a,c,rfl⟩:=hx;cases h;refine⟨.string .empty,by rw[run_convert_bytes_string w src dst e _ _ _ h1 h2 h3,run_bytesToString w a 0 c [] rfl];rfl,?_⟩;simp only[Rv];exact⟨rfl,fun x hx=>by cases hx⟩
 ·have⟨⟨j,h1⟩,h2⟩:=hk;rename_i kk n;cases n with
  | negSucc m=>simp at h
  | ofNat m=>
   simp only at h;have⟨h3,h⟩:=bJ h;cases h;have h3:=Au h3;simp only[Rv] at hx;subst hx;refine⟨.string (dM [m]),?_,by simp only[Rv];exact⟨trivial,fun x hx=>by simp at hx;omega⟩⟩;have hv:Utf8.valid (Int.ofNat m)=true:=by
    simp [Utf8.valid];omega
   have h9:(Int.ofNat m).toNat=m:=rfl;simp only[convert,Sem.run_bind,run_underlying h1,run_underlying h2,Result.andThen_ok,Conv.intToString,Sem.run_pure,Utf8.encode,hv,Cq,h9];rw[if_pos au];rfl
theorem uY{F:Fr}{a:Act}(hF:pV P σ F a.tmps)(hR:kT P σ S w){d y m:Nat}{xo:Option Operand}{X:Option cP}(hx:mK P xo=some X)(h:iU F d X=some m)(hm:xo.isSome=true->m<=y)(code:BoundsCode):
  (match xo.map a.eval with
  | some v=>Instr.sliceBound v y code
  | none=>pure d).run P w= .ok m w:=by
 cases xo with
 | none=>
  simp only[mK,Al] at hx;subst hx;simp only[iU,Al] at h;subst h;rfl
 | some x=>
  simp only[mK,Ax] at hx;obtain⟨X',hx,rfl⟩:=hx;simp only[iU] at h;have⟨k,hk⟩:=nM h;have:=bM hF hR hx;rw[hk] at this;simp only[Rv] at this;simp only[Gq,this];have hm:=hm rfl;have:=run_sliceBound (P:=P) w k (Int.ofNat m) y code (by simp) (by simpa using hm);simpa using this
theorem rZ{len cap:Nat}{lo hi mx:Option cP}{F:Fr}{x:Nat×Nat×Nat}(h:jP len cap lo hi mx F=some x):
  iU F cap mx=some x.2.2/\iU F len hi=some x.2.1/\iU F 0 lo=some x.1/\x.2.2<=cap/\x.2.1<=x.2.2/\x.1<=x.2.1:=by
 unfold jP at h;have⟨m,h1,h⟩:=aA h;have⟨h',h2,h⟩:=aA h;have⟨l,h3,h⟩:=aA h;have⟨h4,h⟩:=bJ h;have⟨h5,h⟩:=bJ h;have⟨h6,h⟩:=bJ h;cases h;exact⟨h1,h2,h3,Au h4,Au h5,Au h6⟩
theorem aCq{xo:Option Operand}{X:Option cP}(h:mK P xo=some X):X.isNone=xo.isNone:=by
 cases xo with
 | none=>simp only[mK,Al] at h;subst h;rfl
 | some x=>simp only[mK,Ax] at h;obtain⟨_,_,rfl⟩:=h;rfl
theorem mH{F:Fr}{a:Act}(hF:pV P σ F a.tmps)(hR:kT P σ S w){isSlice:Bool}{len cap e:Nat}{lo hi mx:Option Operand}{Lo Hi Mx:Option cP}(hlo:mK P lo=some Lo)(hhi:mK P hi=some Hi)(hmx:mK P mx=some Mx)
  (hhm:mx.isSome=true->hi.isSome=true) {x:Nat×Nat×Nat} (h:jP len cap Lo Hi Mx F=some x):
  (Instr.sliceBounds isSlice len (cap+e) (lo.map a.eval) (hi.map a.eval) (mx.map a.eval)).run P w= .ok (x.1,x.2.1,if mx.isNone=true then x.2.2+e else x.2.2) w:=by
 have⟨h1,h2,h3,h4,h5,h6⟩:=rZ h;have hM:∀code,(match mx.map a.eval with
   | some v=>Instr.sliceBound v (cap+e) code
   | none=>pure (cap+e)).run P w= .ok (if mx.isNone=true then x.2.2+e else x.2.2) w:=by
  intro code;cases mx with
  | none=>
   simp only[mK,Al] at hmx;subst hmx;simp only[iU,Al] at h1;rw[<-h1];rfl
  | some m=>
   have:=uY (d:=cap) (y:=cap+e) hF hR hmx h1 (fun _=>au) code;simpa using this
 have hH:∀code,(match hi.map a.eval with
   | some v=>Instr.sliceBound v (if mx.isNone=true then x.2.2+e else x.2.2) code
   | none=>pure len).run P w= .ok x.2.1 w:=fun code=>uY hF hR hhi h2 (fun _=>by split<;>omega) code
 have hL:∀code,(match lo.map a.eval with
   | some v=>Instr.sliceBound v x.2.1 code
   | none=>pure 0).run P w= .ok x.1 w:=fun code=>uY hF hR hlo h3 (fun _=>h6) code
 unfold Instr.sliceBounds;cases mx with
 | none=>
  have hM':=hM .slice3Alen;simp only[Option.map_none] at hM' ⊢;simp only[Option.isNone_none,Cq] at hM' hH ⊢;cases hi with
  | none=>
   have hH':=hH .sliceB;have hL':=hL .sliceB;simp only[Option.map_none] at hH' ⊢;simp only[Sem.run_bind,hM',hH',Result.andThen_ok,Option.isSome_none,Bx,Aw];cases lo<;>simp_all
  | some hh=>
   have hH':=hH (if isSlice=true then .sliceAcap else .sliceAlen);have hL':=hL .sliceB;simp only[Gq] at hH' ⊢;simp only[Sem.run_bind,hM',hH',Result.andThen_ok,Option.isSome_none,Bx,Aw];cases lo<;>simp_all
 | some m=>
  cases hi with
  | none=>simp at hhm
  | some hh=>
   have hM':=hM (if isSlice=true then .slice3Acap else .slice3Alen);have hH':=hH .slice3B;have hL':=hL .slice3C;simp only[Gq] at hM' hH' ⊢;simp only[Option.isNone_some,Bx,Aw] at hM' hH' ⊢;simp only[Sem.run_bind,hM',hH',Result.andThen_ok,Option.isSome_some,Cq];cases lo<;>simp_all
end Go.Ev
