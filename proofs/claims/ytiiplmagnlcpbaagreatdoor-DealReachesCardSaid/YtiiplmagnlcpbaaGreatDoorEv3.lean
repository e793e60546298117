import Derived.Test.YtiiplmagnlcpbaaGreatDoorEv2
import Derived.Laws.StructEq
import Derived.Laws.BytesString
import Derived.Laws.Slices
set_option linter.unusedSimpArgs false
set_option linter.unusedVariables false
abbrev Go.Ev.dr:=@Go.Ev.T.get_set
theorem Go.Ev.fc{p:Prop}(h:p:=by simp only;rw[dr,if_pos rfl]):p:=h
namespace Go.Ev
variable {P:Program}{σ:Env}{S:St}{w:World}
theorem aC4:∀ {a b:bt},Bytes a->Bytes b->pF a b=Op.bytesLess (a.map UInt8.ofNat) (b.map UInt8.ofNat)
 | a,[],_,_=>by cases a<;>simp [pF,Op.bytesLess]
 | [],_::_,_,_=>by simp [pF,Op.bytesLess]
 | x::a,y::b,ha,hb=>by
  have hx:(UInt8.ofNat x).toNat=x:=uG (ha x (by simp));have hy:(UInt8.ofNat y).toNat=y:=uG (hb y (by simp));have ih:=aC4 (a:=a) (b:=b) (fun z hz=>ha z (by simp [hz])) (fun z hz=>hb z (by simp [hz]));simp only[pF,Fj,Op.bytesLess,ih];have e1:(decide (UInt8.ofNat x<UInt8.ofNat y))=Nat.blt x y:=by
   rw[Cu,decide_eq_true_eq,UInt8.lt_iff_toNat_lt,hx,hy];exact⟨fun h=>Ai h,fun h=>Ar h⟩
  have e2:(UInt8.ofNat x==UInt8.ofNat y)=Nat.beq x y:=by
   rw[Cu,beq_iff_eq,Av,<-UInt8.toNat_inj,hx,hy]
  rw[e1,e2,bO,bO];cases Nat.blt x y<;>cases Nat.beq x y<;>simp
theorem Bytes.append{a b:bt}(ha:Bytes a)(hb:Bytes b):Bytes (a++b):=fun x hx=>by
 rcases Ct.1 hx with h | h
 ·exact ha x h
 ·exact hb x h
theorem aCt{a b:bt}(ha:Bytes a)(hb:Bytes b):((dF a).toList==(dF b).toList)=nD a b:=by
 rw[Cu,aGm ha hb,beq_iff_eq,pR,pR];constructor
 ·intro h;unfold dF;rw[h]
 ·intro h;have:=Hb (fun s:ByteArray=>s.data.toList) h;simpa [dF] using this
theorem aKj{op:BinOp}{t:TypeId}{a b:bt}{v:AV}(ha:Bytes a)(hb:Bytes b)(h:aIy op a b=some v):
  ∃V,(binOp op t (.string (dF a)) (.string (dF b))).run P w= .ok V w/\Rv P σ v V:=by
 have hbin:∀op,binOp op t (.string (dF a)) (.string (dF b))=Op.stringOp op (dF a) (dF b):=fun op=>by cases op<;>rfl
 rw[hbin];have he:=aCt ha hb;rw[pR,pR] at he;have hl:=aC4 ha hb;unfold aIy at h;cases op<;>simp only[reduceCtorEq,Al] at h<;>simp only[Op.stringOp,pR,he,<-hl]
 case add=>
  have⟨h1,h2⟩:=bB h;cases h2;rw[eQ,eQ] at h1;have h1:=Ar h1;have hn:¬ (((dF a).size+(dF b).size:Nat):Int)>IntKind.i64.max:=by
   rw[gQ,gQ];simp [IntKind.max,IntKind.signed,IntKind.bits];omega
  refine⟨_,by rw[if_neg hn];rfl,?_⟩;simp only[Rv,fB];exact⟨by rw[aGe],ha.append hb⟩
 all_goals (subst h;exact⟨_,rfl,by simp only[Rv]⟩)
theorem aGp(t:TypeId):(∃d,P.underlying t=some d/\match eqP P t with
  | .bool=>d= .bool | .int=>∃k,d= .int k | .str=>d= .string | .ptr=>∃e,d= .pointer e | .slice=>∃e,d= .slice e
  | .map=>∃k e,d= .map k e | .func=>∃a b c,d= .func a b c | .iface=>∃m,d= .interface m | .no=>True)\/eqP P t= .no:=by
 unfold eqP;cases h:P.underlying t with
 | none=>exact .inr rfl
 | some d=>left;exact⟨d,rfl,by cases d<;>simp⟩
theorem aBo{t:TypeId}{x y:AV}{X Y:Value}{b:Bool}(hx:Rv P σ x X)(hy:Rv P σ y Y)(h:eqp (eqP P t) x y=some b)(n:Nat):
  (Op.equalIn (n+1) t X Y).run P w= .ok b w:=by
 rcases aGp (P:=P) t with⟨d,hu,hd⟩ | hno
 ·cases hq:eqP P t<;>rw[hq] at h hd<;>simp only at hd
  case bool=>
   subst hd;cases x<;>simp only[eqp,reduceCtorEq] at h<;>cases y<;>simp only[reduceCtorEq] at h;simp only[Rv] at hx hy;subst hx;subst hy;cases h;simp [Op.equalIn,run_underlying hu,uQ]
  case int=>
   obtain⟨kk,rfl⟩:=hd;cases x<;>simp only[eqp,reduceCtorEq] at h<;>cases y<;>simp only[reduceCtorEq] at h;simp only[Rv] at hx hy;subst hx;subst hy;have⟨h1,h2⟩:=bB h;have:=yS h1;subst this;cases h2;simp [Op.equalIn,run_underlying hu,mD]
  case str=>
   subst hd;cases x<;>simp only[eqp,reduceCtorEq] at h<;>cases y<;>simp only[reduceCtorEq] at h;simp only[Rv] at hx hy;obtain⟨rfl,ha⟩:=hx;obtain⟨rfl,hc⟩:=hy;cases h;rename_i a c;have:(dF a==dF c)=nD a c:=by rw[beq_toListBytes,aCt ha hc]
   simp [Op.equalIn,run_underlying hu,this]
  case ptr=>
   obtain⟨kk,rfl⟩:=hd;cases x<;>simp only[eqp,reduceCtorEq] at h<;>cases y<;>simp only[reduceCtorEq] at h<;>simp only[Rv] at hx hy<;>cases h
   ·obtain⟨L,_,rfl⟩:=hx;subst hy;simp [Op.equalIn,run_underlying hu]
   ·obtain⟨L,_,rfl⟩:=hy;subst hx;simp [Op.equalIn,run_underlying hu]
   ·subst hx;subst hy;simp [Op.equalIn,run_underlying hu]
  case slice=>
   obtain⟨kk,rfl⟩:=hd;cases x<;>simp only[eqp,reduceCtorEq] at h<;>cases y<;>simp only[reduceCtorEq] at h<;>simp only[Rv] at hx hy<;>cases h
   ·obtain⟨L,_,rfl⟩:=hx;subst hy;simp [Op.equalIn,run_underlying hu]
   ·obtain⟨L,_,rfl⟩:=hy;subst hx;simp [Op.equalIn,run_underlying hu]
   ·subst hx;subst hy;simp [Op.equalIn,run_underlying hu]
   ·obtain⟨L,_,rfl⟩:=hy;subst hx;simp [Op.equalIn,run_underlying hu]
   ·obtain⟨L,_,rfl⟩:=hx;subst hy;simp [Op.equalIn,run_underlying hu]
  case map=>
   obtain⟨kk,ee,rfl⟩:=hd;cases x<;>simp only[eqp,reduceCtorEq] at h<;>cases y<;>simp only[reduceCtorEq] at h<;>simp only[Rv] at hx hy<;>cases h
   ·obtain⟨L,_,rfl⟩:=hx;subst hy;simp [Op.equalIn,run_underlying hu]
   ·obtain⟨L,_,rfl⟩:=hy;subst hx;simp [Op.equalIn,run_underlying hu]
   ·subst hx;subst hy;simp [Op.equalIn,run_underlying hu]
  case func=>
   obtain⟨aa,bb,cc,rfl⟩:=hd;cases x<;>simp only[eqp,reduceCtorEq] at h<;>cases y<;>simp only[reduceCtorEq] at h<;>simp only[Rv] at hx hy<;>cases h
   ·obtain⟨A,B,rfl,_⟩:=hx;subst hy;simp [Op.equalIn,run_underlying hu]
   ·obtain⟨A,B,rfl,_⟩:=hy;subst hx;simp [Op.equalIn,run_underlying hu]
   ·subst hx;subst hy;simp [Op.equalIn,run_underlying hu]
  case iface=>
   obtain⟨mm,rfl⟩:=hd;cases x<;>simp only[eqp,reduceCtorEq] at h<;>cases y<;>simp only[reduceCtorEq] at h<;>simp only[Rv] at hx hy<;>cases h
   ·obtain⟨W,rfl,_⟩:=hx;subst hy;simp [Op.equalIn,run_underlying hu]
   ·obtain⟨W,rfl,_⟩:=hy;subst hx;simp [Op.equalIn,run_underlying hu]
  case no=>simp [eqp] at h
 ·rw[hno] at h;simp [eqp] at h
theorem aKE{op:BinOp}{t:TypeId}{xo yo:Operand}{e:EqP}{x y:AV}{X Y:Value}{b:Bool}(hx:Rv P σ x X)(hy:Rv P σ y Y)(h:eqp e x y=some b):
  eqGuard op t xo yo X Y=pure ():=by
 cases x<;>cases e<;>simp only[eqp,reduceCtorEq] at h<;>simp only[Rv] at hx
 all_goals first
  | (subst hx;cases op<;>rfl)
  | (obtain⟨rfl,_⟩:=hx;cases op<;>rfl)
  | (obtain⟨L,_,rfl⟩:=hx;cases op<;>rfl)
  | (obtain⟨L,_,rfl⟩:=hx;cases op<;>rfl)
  | (obtain⟨A,B,rfl,_⟩:=hx;cases op<;>rfl)
  | (obtain⟨A,rfl,_⟩:=hx;cases op<;>rfl)
  | (cases y<;>simp only[reduceCtorEq] at h;simp only[Rv] at hy;obtain⟨A,rfl,_⟩:=hy;subst hx;cases op<;>rfl)
end Go.Ev
namespace Go.Ev
variable {P:Program}{σ:Env}{S:St}{w:World}
theorem aBU{v:AV}{a:IntKind×Int}(h:aF5 v=some a):v= .int a.1 a.2:=by
 cases v<;>simp only[aF5,reduceCtorEq,Al] at h;subst h;rfl
theorem aBS{v:AV}{a:bt}(h:aFE v=some a):v= .str a:=by
 cases v<;>simp only[aFE,reduceCtorEq,Al] at h;subst h;rfl
def uF(P:Program):Prop:=∀ (σ:Env) (w:World) (t:TypeId) (fs:List (Nat×EqP)) (xs ys:bo) (X Y:Value) (b:Bool),eqT P t= .struct fs->Rv P σ (.agg xs) X->Rv P σ (.agg ys) Y->
 eqs fs xs ys=some b->(∀op xo yo,(eqGuard op t xo yo X Y).run P w= .ok () w)/\∀n,(Op.equalIn (n+2) t X Y).run P w= .ok b w
theorem aQa{t:TypeId}{e:EqP}(h:eqT P t= .p e):e=eqP P t\/e= .no:=by
 unfold eqT at h;split at h
 ·rw[Aw] at h;split at h
  ·cases h;exact .inr rfl
  ·cases h
 ·rw[Aw] at h;split at h
  ·cases h;exact .inr rfl
  ·cases h
 ·cases h;exact .inl rfl
theorem xM(hE:uF P){t:TypeId}{x y:AV}{X Y:Value}{b:Bool}(hx:Rv P σ x X)(hy:Rv P σ y Y)(h:eqv (eqT P t) x y=some b):
  (∀op xo yo,(eqGuard op t xo yo X Y).run P w= .ok () w)/\∀n,(Op.equalIn (n+2) t X Y).run P w= .ok b w:=by
 cases he:eqT P t with
 | p e=>
  rw[he] at h;have h:eqp e x y=some b:=h;rcases aQa he with rfl | rfl
  ·exact⟨fun op xo yo=>by rw[aKE hx hy h];rfl,fun n=>aBo hx hy h (n+1)⟩
  ·simp [eqp] at h
 | struct fs=>
  rw[he] at h;cases x<;>simp only[eqv,reduceCtorEq] at h;cases y<;>simp only[reduceCtorEq] at h;have⟨_,h⟩:=bB h;have⟨_,h⟩:=bB h;exact hE σ w t fs _ _ X Y b he hx hy h
theorem aKW(hE:uF P){op:BinOp}{t:TypeId}{xo yo:Operand}{x y v:AV}{X Y:Value}(hx:Rv P σ x X)(hy:Rv P σ y Y)(h:kH op (eqT P t) x y=some v):
  ∃V,(do eqGuard op t xo yo X Y;binOp op t X Y:Sem Value).run P w= .ok V w/\Rv P σ v V:=by
 unfold kH at h;split at h
 ·rename_i a b ha hb;have:=aBU ha;subst this;have:=aBU hb;subst this;simp only[Rv] at hx hy;subst hx;subst hy;have⟨V,h1,h2⟩:=aIv (P:=P) (σ:=σ) (w:=w) (t:=t) h;exact⟨V,by simp [eqGuard_at_int,h1],h2⟩
 ·rename_i hni;split at h
  ·rename_i a b ha hb;have:=aBS ha;subst this;have:=aBS hb;subst this;simp only[Rv] at hx hy;obtain⟨rfl,hx⟩:=hx;obtain⟨rfl,hy⟩:=hy;have⟨V,h1,h2⟩:=aKj (P:=P) (σ:=σ) (w:=w) (t:=t) hx hy h;exact⟨V,by simp [eqGuard_at_string,h1],h2⟩
  ·rename_i hns;unfold aOC at h;have key:∀b,eqv (eqT P t) x y=some b->(binOp .eql t X Y).run P w= .ok (.bool b) w/\(binOp .neq t X Y).run P w= .ok (.bool !b) w:=by
    intro b hb;have he:=(xM (w:=w) hE hx hy hb).2 9998;have h1:(Op.equal t X Y).run P w= .ok b w:=he;have hnn:∀k a k' b',¬ (X= .int k a/\Y= .int k' b'):=by
     rintro k a k' b' ⟨rfl,rfl⟩;cases x<;>simp only[Rv] at hx<;>(try (simp at hx;done))<;>(try (have⟨_,hx⟩:=hx;simp at hx;done))<;>(try (have⟨_,_,hx⟩:=hx;simp at hx;done));cases y<;>simp only[Rv] at hy<;>(try (simp at hy;done))<;>(try (have⟨_,hy⟩:=hy;simp at hy;done))<;>(try (have⟨_,_,hy⟩:=hy;simp at hy;done));exact hni _ _ rfl rfl
    have hsn:∀a b',¬ (X= .string a/\Y= .string b'):=by
     rintro a b' ⟨rfl,rfl⟩;cases x<;>simp only[Rv] at hx<;>(try (simp at hx;done))<;>(try (have⟨_,hx⟩:=hx;simp at hx;done))<;>(try (have⟨_,_,hx⟩:=hx;simp at hx;done));cases y<;>simp only[Rv] at hy<;>(try (simp at hy;done))<;>(try (have⟨_,hy⟩:=hy;simp at hy;done))<;>(try (have⟨_,_,hy⟩:=hy;simp at hy;done));exact hns _ _ rfl rfl
    have hff:∀k a,X≠ .float k a:=by
     rintro k a rfl;cases x<;>simp only[Rv] at hx<;>(try (simp at hx;done))<;>(try (have⟨_,hx⟩:=hx;simp at hx;done))<;>(try (have⟨_,_,hx⟩:=hx;simp at hx;done))
    have hcc:∀k a b,X≠ .complex k a b:=by
     rintro k a b rfl;cases x<;>simp only[Rv] at hx<;>(try (simp at hx;done))<;>(try (have⟨_,hx⟩:=hx;simp at hx;done))<;>(try (have⟨_,_,hx⟩:=hx;simp at hx;done))
    have hb:∀ (op:BinOp),(op= .eql->binOp op t X Y=(do pure (.bool (<-Op.equal t X Y))))/\(op= .neq->binOp op t X Y=(do pure (.bool (!(<-Op.equal t X Y))))):=by
     intro op;constructor
     ·rintro rfl;unfold binOp;split<;>first
       | rfl
       | (rename_i h;exact absurd ⟨rfl,rfl⟩ (hnn _ _ _ _))
       | (exact absurd rfl (hff _ _))
       | (exact absurd rfl (hcc _ _ _))
       | (exact absurd ⟨rfl,rfl⟩ (hsn _ _))
       | (exact absurd ⟨rfl,rfl⟩ (hnn _ _ _ _))
       | simp_all
     ·rintro rfl;unfold binOp;split<;>first
       | rfl
       | (exact absurd rfl (hff _ _))
       | (exact absurd rfl (hcc _ _ _))
       | (exact absurd ⟨rfl,rfl⟩ (hsn _ _))
       | (exact absurd ⟨rfl,rfl⟩ (hnn _ _ _ _))
       | simp_all
    rw[(hb .eql).1 rfl,(hb .neq).2 rfl];simp [h1]
   cases op<;>simp only[reduceCtorEq] at h
   ·have⟨b,h1,h2⟩:=aA h;cases h2;refine⟨.bool b,?_,by simp only[Rv]⟩;simp [(xM (w:=w) hE hx hy h1).1,(key b h1).1]
   ·have⟨b,h1,h2⟩:=aA h;cases h2;refine⟨.bool !b,?_,by simp only[Rv,rK]⟩;simp [(xM (w:=w) hE hx hy h1).1,(key b h1).2]
theorem aLp{op:UnOp}{x v:AV}{X:Value}(hx:Rv P σ x X)(h:unV op x=some v):∃V,(Op.unary op X).run P w= .ok V w/\Rv P σ v V:=by
 unfold unV at h;split at h
 ·simp only[Rv] at hx;subst hx;cases h;exact⟨_,rfl,by simp only[Rv,wA];rfl⟩
 ·simp only[Rv] at hx;subst hx;cases h;exact⟨_,rfl,by simp only[Rv,rK]⟩
 ·cases h
end Go.Ev
namespace Go.Ev
variable {P:Program}{σ:Env}{S:St}{w:World}
theorem aAM{t:TypeId}{agg:Bool}{n off:Nat}(ht:aAe P t=some (agg,n)){cs:bo}{C:List Value}(hC:gP P σ cs C)(h1:∀u∈C,u.oneCell'=true){v:AV}
  (h:partOf agg cs off n=some v):∃V,(part t ⟨C⟩ off).run P w= .ok V w/\Rv P σ v V:=by
 have⟨d,i,hu,hi,hn,hd⟩:=xL ht;have hag:(isAgg t).run P w= .ok agg w:=by
  simp only[isAgg,Sem.run_bind,run_underlying hu,Result.andThen_ok];cases d<;>simp_all [TypeDesc.isRow]
 unfold partOf at h;cases agg with
 | true=>
  rw[aP] at h;have⟨r,h2,h3⟩:=aA h;cases h3;have hc:=hC.cut h2;refine⟨.agg ⟨(C.drop off).take n⟩,?_,by simp only[Rv];exact⟨_,rfl,hc.1,fun u hu=>h1 u (Dh (Ej hu))⟩⟩;simp [part,hag,sizeOf,typeInfo,hi,hn,List.extract_eq_take_drop]
 | false=>
  rw[aS,jI] at h;have⟨V,h2,h3⟩:=hC.get h;refine⟨V,?_,h3⟩;simp [part,hag,h2]
theorem aKv{t:TypeId}{fs:Array Field}{k:Nat}{f:Field}{agg:Bool}{n:Nat}(ht:P.underlying t=some (.struct fs))(hf:fs[k]? =some f)(ha:aAe P f.type=some (agg,n))
  {x v:AV} {X:Value} (hx:Rv P σ x X) (h:aKb x agg f.offset n=some v):∃V,(Instr.field t X k).run P w= .ok V w/\Rv P σ v V:=by
 cases x<;>simp only[aKb,reduceCtorEq] at h;simp only[Rv] at hx;obtain⟨C,rfl,h2,h3⟩:=hx;have⟨V,h4,h5⟩:=aAM (w:=w) ha h2 h3 h;exact⟨V,by simp [Instr.field,run_underlying ht,hf,asAgg,h4],h5⟩
theorem aGU{t:TypeId}{fs:Array Field}{k:Nat}{f:Field}{i:TypeInfo}(ht:P.underlying t=some (.struct fs))(hf:fs[k]? =some f)(hi:P.info? f.type=some i)(h0:i.size≠0)
  {x v:AV} {X:Value} (hx:Rv P σ x X) (h:zA x f.offset=some v):∃V,(Instr.fieldAt t X k).run P w= .ok V w/\Rv P σ v V:=by
 cases x<;>simp only[zA,reduceCtorEq] at h;cases h;simp only[Rv] at hx;obtain⟨L,hL,rfl⟩:=hx;refine⟨.pointer (some ⟨L.r,L.d+_+f.offset,none⟩),?_,by simp only[Rv];exact⟨L,hL,by rw[Co]⟩⟩;simp [Instr.fieldAt,run_underlying ht,hf,Instr.sureAddr,fieldPlace,sizeOf,typeInfo,hi,h0,Addr.add_lit]
theorem mF{v:AV}{n:Nat}(h:dY v=some n):∃k,v= .int k (.ofNat n):=by
 unfold dY at h;split at h
 ·cases h;exact⟨_,rfl⟩
 ·cases h
theorem aIY{a b:Nat}(h:Nat.blt a b=true):a<b:=Ar h
theorem aCg{t e:TypeId}{n:Nat}{i:TypeInfo}(ht:P.underlying t=some (.array n e))(hi:P.info? e=some i){x v:AV}{X I:Value}{j:Nat}{k:IntKind}(hx:Rv P σ x X)(hI:I= .int k (.ofNat j))
  (h:dN (.arr n i.size) x j=some v):∃V,(Instr.indexAt t X I).run P w= .ok V w/\Rv P σ v V:=by
 subst hI;cases x<;>simp only[dN,reduceCtorEq] at h;have⟨h1,h⟩:=bB h;cases h;have h1:=aIY h1;simp only[Rv] at hx;obtain⟨L,hL,rfl⟩:=hx;refine⟨.pointer (some ⟨L.r,L.d+_+j * i.size,none⟩),?_,by simp only[Rv];exact⟨L,hL,by rw[Co]⟩⟩;have hb:(0:Int)<=Int.ofNat j/\Int.ofNat j<(n:Int):=⟨by simp,by simpa using h1⟩;simp [Instr.indexAt,asIntOf,run_underlying ht,Instr.sureAddr,sizeOf,typeInfo,hi,Addr.add_lit,h1]
theorem aDa{t e:TypeId}{i:TypeInfo}(ht:P.underlying t=some (.slice e))(hi:P.info? e=some i){x v:AV}{X I:Value}{j:Nat}{k:IntKind}(hx:Rv P σ x X)(hI:I= .int k (.ofNat j))
  (h:dN (.slice i.size) x j=some v):∃V,(Instr.indexAt t X I).run P w= .ok V w/\Rv P σ v V:=by
 subst hI;cases x<;>simp only[dN,reduceCtorEq] at h;have⟨h1,h⟩:=bB h;cases h;have h1:=aIY h1;simp only[Rv] at hx;obtain⟨L,hL,rfl⟩:=hx;refine⟨.pointer (some ⟨L.r,L.d+_+j * i.size,none⟩),?_,by simp only[Rv];exact⟨L,hL,by rw[Co]⟩⟩;simp [Instr.indexAt,asIntOf,run_underlying ht,sizeOf,typeInfo,hi,Addr.add_lit,h1]
theorem aFI{t e:TypeId}{n:Nat}{agg:Bool}{s:Nat}(ht:P.underlying t=some (.array n e))(ha:aAe P e=some (agg,s)){x v:AV}{X I:Value}{j:Nat}{k:IntKind}(hx:Rv P σ x X)(hI:I= .int k (.ofNat j))
  (h:xI x agg n s j=some v):∃V,(Instr.index t X I).run P w= .ok V w/\Rv P σ v V:=by
 subst hI;cases x<;>simp only[xI,reduceCtorEq] at h;have⟨h1,h⟩:=bB h;have h1:=aIY h1;simp only[Rv] at hx;obtain⟨C,rfl,h2,h3⟩:=hx;have⟨d,i,hu,hi,hn,hd⟩:=xL ha;have⟨V,h4,h5⟩:=aAM (w:=w) ha h2 h3 h;exact⟨V,by simp [Instr.index,asIntOf,run_underlying ht,sizeOf,typeInfo,hi,hn,h1,h4],h5⟩
theorem aFa{t:TypeId}(ht:P.underlying t=some .string){x v:AV}{X I:Value}{j:Nat}{k:IntKind}(hx:Rv P σ x X)(hI:I= .int k (.ofNat j))
  (h:xQ x j=some v):∃V,(Instr.index t X I).run P w= .ok V w/\Rv P σ v V:=by
 subst hI;cases x<;>simp only[xQ,reduceCtorEq] at h;rename_i s;have⟨b,h1,h2⟩:=aA h;cases h2;rw[jI] at h1;simp only[Rv] at hx;obtain⟨rfl,hb⟩:=hx;have hj:j<s.length:=by
  rcases Be j s.length with h3 | h3
  ·exact h3
  ·rw[Dp h3] at h1;cases h1
 have hsz:j<(dF s).size:=by rw[gQ];exact hj
 have hg:(dF s)[j]? =some (UInt8.ofNat b):=by
  rw[getElem?_pos (dF s) j hsz];congr 1;show(dF s).data[j]=_;simp only[dF,List.getElem_toArray,List.getElem_map];rw[Ad hj] at h1;cases h1;rfl
 have hbb:b<256:=hb b (Cg h1);refine⟨.int .u8 (.ofNat b),?_,by simp only[Rv]⟩;have h0:(0:Int)<=Int.ofNat j:=by simp
 have h9:(Int.ofNat j).toNat=j:=rfl;simp only[Instr.index,asIntOf,Sem.run_bind,Sem.run_pure,Result.andThen_ok,run_underlying ht,if_pos h0,h9,hg];show Result.ok (Value.int .u8 ((UInt8.ofNat b).toNat:Int)) w=_;rw[uG hbb];rfl
theorem aEk{x v:AV}{X:Value}{i:Nat}(hx:Rv P σ x X)(h:lQ x i=some v):∃V,(Instr.extract X i).run P w= .ok V w/\Rv P σ v V:=by
 cases x<;>simp only[lQ,reduceCtorEq] at h;rw[jI] at h;simp only[Rv] at hx;obtain⟨C,rfl,h2⟩:=hx;have⟨V,h3,h4⟩:=h2.get h;exact⟨V,by simp [Instr.extract,h3],h4⟩
theorem aH7{c:AV}{C:Value}{a b:cL}{F:Fr}{v:AV}{A B:Value}(hc:Rv P σ c C)(ha:Rv P σ (a.val F) A)(hb:Rv P σ (b.val F) B)(h:wZ c a b F=some v):
  ∃V,(do pure (Next.value (if <-asBool C then A else B)):Sem Next).run P w= .ok (.value V) w/\Rv P σ v V:=by
 cases c<;>simp only[wZ,reduceCtorEq] at h;cases h;simp only[Rv] at hc;subst hc;rename_i t;cases t
 ·exact⟨B,by simp [asBool],hb⟩
 ·exact⟨A,by simp [asBool],ha⟩
theorem tQ:∀ (l pre old post:List Value) (off i:Nat),pre.length=off+i->old.length=l.length->
  (l.zipIdx i).foldl (fun(a:Array Value) (p:Value×Nat)=>a.setIfInBounds (off+p.2) p.1) ⟨pre++old++post⟩=⟨pre++l++post⟩
 | [],pre,old,post,off,i,_,h=>by
  have:old= []:=List.eq_nil_of_length_eq_zero h;subst this;rfl
 | x::l,pre,[],post,off,i,_,h=>by simp at h
 | x::l,pre,o::old,post,off,i,hp,h=>by
  rw[List.zipIdx_cons,List.foldl_cons];have:(Array.mk (pre++o::old++post)).setIfInBounds (off+i) x=⟨(pre++ [x])++old++post⟩:=by
   apply Fv;rw[Array.toList_setIfInBounds,<-hp];simp
  rw[this,tQ l (pre++ [x]) old post off (i+1) (by simp;omega) (by simpa using h)];simp
theorem aBb(cs:List Value)(l:List Value)(off:Nat)(h:off+l.length<=cs.length):
  (l.zipIdx).foldl (fun(a:Array Value) (p:Value×Nat)=>a.setIfInBounds (off+p.2) p.1) ⟨cs⟩=⟨cs.take off++l++cs.drop (off+l.length)⟩:=by
 have:=tQ l (cs.take off) ((cs.drop off).take l.length) (cs.drop (off+l.length)) off 0 (by simp;omega) (by simp;omega);rw[<-this];congr 2;rw[Bn,<-Hc,Bt,Bt]
theorem uD{place:Nat->Option (Nat×Nat)}:∀ {ps:List (Nat×Value)} {qs:List (Nat×Nat×AV)} {z r:bo} {Z:List Value},
  ps.length=qs.length->(∀ (j i:Nat) (V:Value) (off n:Nat) (v:AV),ps[j]? =some (i,V)->qs[j]? =some (off,n,v)->place i=some (off,n)/\Rv P σ v V)->
  gP P σ z Z->(∀u∈Z,u.oneCell'=true)->iJ z qs=some r->∃R,Instr.fill place ⟨Z⟩ ps=some ⟨R⟩/\gP P σ r R/\(∀u∈R,u.oneCell'=true)
 | [],[],z,r,Z,_,_,hz,h1,h=>by
  simp only[iJ,Al] at h;subst h;exact⟨Z,rfl,hz,h1⟩
 | [],_::_,_,_,_,hl,_,_,_,_=>by simp at hl
 | _::_,[],_,_,_,hl,_,_,_,_=>by simp at hl
 | (i,V)::ps,(off,n,v)::qs,z,r,Z,hl,hp,hz,h1,h=>by
  simp only[iJ] at h;have⟨cs,hcs,h⟩:=aA h;have⟨hn,h⟩:=bB h;have⟨z',hput,h⟩:=aA h;rw[eQ,Av] at hn;have h0:=hp 0 i V off n v rfl rfl;have⟨hc1,hc2⟩:=aAj h0.2 hcs;have hle:=(aAB hput).1;have hVl:V.cells.toList.length=n:=by rw[hc1.length,hn]
  have hZl:=hz.length;have hz':=hz.put hc1 hput;have hflat:∀u∈Z.take off++V.cells.toList++Z.drop (off+V.cells.toList.length),u.oneCell'=true:=fun u hu=>by
   simp only[Ct] at hu;rcases hu with(hu | hu) | hu
   ·exact h1 u (Ej hu)
   ·exact hc2 u hu
   ·exact h1 u (Dh hu)
  have⟨R,hR1,hR2,hR3⟩:=uD (place:=place) (ps:=ps) (qs:=qs) (by simpa using hl) (fun j i V off n v h1 h2=>hp (j+1) i V off n v h1 h2) hz' hflat h;refine⟨R,?_,hR2,hR3⟩;simp only[Instr.fill,h0.1];have hVs:V.cells.size=n:=by rw[<-hVl];simp
  rw[if_neg (by simp [hVs];omega)];have hf:=aBb Z V.cells.toList off (by rw[hVl];omega);have he:V.cells.zipIdx.foldl (fun(cs:Array Value) (x:Value×Nat)=>cs.setIfInBounds (off+x.2) x.1) ⟨Z⟩=⟨Z.take off++V.cells.toList++Z.drop (off+V.cells.toList.length)⟩:=by
   rw[<-hf,<-Array.foldl_toList,Array.toList_zipIdx]
  rw[<-hR1];congr 1
end Go.Ev
namespace Go.Ev
variable {P:Program}{σ:Env}{S:St}{w:World}
theorem zN{place:Nat->Option (Nat×Nat)}{F:Fr}{a:Act}(hF:oP P σ F a.tmps)(hR:jX P σ S w):∀ {ps:List (Nat×Operand)} {qs:List (Nat×Nat×cL)},wI P place ps=some qs->
  (ps.map fun p=>(p.1,a.eval p.2)).length=(iI F qs).length/\
  ∀ (j i:Nat) (V:Value) (off n:Nat) (v:AV),(ps.map fun p=>(p.1,a.eval p.2))[j]? =some (i,V)->(iI F qs)[j]? =some (off,n,v)->place i=some (off,n)/\Rv P σ v V
 | [],qs,h=>by
  simp only[wI,Al] at h;subst h;exact⟨rfl,fun j i V off n v h1=>by simp at h1⟩
 | (i,x)::ps,qs,h=>by
  simp only[wI] at h;split at h
  ·rename_i off n X qs' hp hx hqs;cases h;have⟨h1,h2⟩:=zN hF hR hqs;refine⟨by simp [iI] at h1 ⊢;exact h1,fun j i' V off' n' v hj1 hj2=>?_⟩;cases j with
   | zero=>
    simp only[Fj,List.getElem?_cons_zero,iI,Al,Prod.mk.injEq] at hj1 hj2;obtain⟨rfl,rfl⟩:=hj1;obtain⟨rfl,rfl,rfl⟩:=hj2;exact⟨hp,bI hF hR hx⟩
   | succ j=>
    simp only[Fj,Ft,iI] at hj1 hj2;exact h2 j i' V off' n' v hj1 hj2
  ·cases h
theorem zH{t:TypeId}{z:AV}(h:aDw P t=some z):∃i Z,P.info? t=some i/\i.zero=some Z/\Rv P σ z Z:=by
 unfold aDw at h;split at h
 ·rename_i i hi;split at h
  ·rename_i Z hz;exact⟨i,Z,hi,hz,aDH h⟩
  ·cases h
 ·cases h
theorem lS{t:TypeId}{z:bo}(h:jU P t=some z):∃i Z,P.info? t=some i/\i.zero=some Z/\gP P σ z Z.cells.toList/\∀u∈Z.cells.toList,u.oneCell'=true:=by
 unfold jU at h;rw[Eb] at h;have⟨v,h1,h2⟩:=h;have⟨i,Z,h3,h4,h5⟩:=zH (σ:=σ) h1;exact⟨i,Z,h3,h4,aAj h5 h2⟩
theorem tO{t:TypeId}{i:TypeInfo}{Z:Value}(hi:P.info? t=some i)(hz:i.zero=some Z):(zeroValue t).run P w= .ok Z w:=by
 simp [zeroValue,typeInfo,hi,hz]
theorem aHJ{α β:Type}{g:α->Sem β}(w:World):∀ (l:List α) (r:List β),(∀ (j:Nat) (f:α) (p:β),l[j]? =some f->r[j]? =some p->(g f).run P w= .ok p w)->l.length=r.length->
  (l.mapM g).run P w= .ok r w
 | [],[],_,_=>rfl
 | [],_::_,_,h=>by simp at h
 | _::_,[],_,h=>by simp at h
 | f::l,p::r,h,hl=>by
  have h0:=h 0 f p rfl rfl;have ih:=aHJ w l r (fun j f p h1 h2=>h (j+1) f p h1 h2) (by simpa using hl);rw[List.mapM_cons];simp only[Sem.run_bind,h0,ih,Result.andThen_ok,Sem.run_pure]
theorem vF:∀ (fs:List Field),oG P fs=true->∃r:List (Nat×Nat),r.length=fs.length/\∀ (j:Nat) (f:Field) (p:Nat×Nat),fs[j]? =some f->r[j]? =some p->∃i,P.info? f.type=some i/\p=(f.offset,i.size)
 | [],_=>⟨[],rfl,fun j f p h=>by simp at h⟩
 | f::fs,h=>by
  simp only[oG,Cr] at h;have⟨r,h1,h2⟩:=vF fs h.2;have⟨i,hi⟩:=Option.isSome_iff_exists.1 h.1;refine⟨(f.offset,i.size)::r,by simp [h1],fun j g p hj1 hj2=>?_⟩;cases j with
  | zero=>simp at hj1 hj2;subst hj1;subst hj2;exact⟨i,hi,rfl⟩
  | succ j=>exact h2 j g p (by simpa using hj1) (by simpa using hj2)
theorem zV{t:TypeId}{fs:Array Field}{z:bo}{ps:Array (Nat×Operand)}{qs:List (Nat×Nat×cL)}{F:Fr}{a:Act}(hF:oP P σ F a.tmps)(hR:jX P σ S w)
  (ht:P.underlying t=some (.struct fs)) (hk:oG P fs.toList=true) (hz:jU P t=some z)
  (hq:wI P (placeOf P fs) ps.toList=some qs) {cs:bo} (h:iJ z (iI F qs)=some cs):
  ∃V,(Instr.build t (ps.map fun(i,x)=>(i,a.eval x))).run P w= .ok V w/\Rv P σ (.agg cs) V:=by
 have⟨i,Z,hi,hZ,hz1,hz2⟩:=lS (σ:=σ) hz;have⟨r,hr1,hr2⟩:=vF _ hk;have⟨hl,hp⟩:=zN hF hR hq;have hplace:∀i,placeOf P fs i=r[i]? :=by
  intro i;unfold placeOf;rw[<-Da];cases hfi:fs.toList[i]? with
  | none=>
   have:fs.toList.length<=i:=List.getElem?_eq_none_iff.1 hfi;rw[Dp au]
  | some f=>
   have hlt:i<r.length:=by rw[hr1];exact(Aj.1 hfi).1
   have⟨i',h1,h2⟩:=hr2 i f r[i] hfi (Ad hlt);rw[Ad hlt,h2];simp [h1]
 have hfun:=funext hplace;rw[hfun] at hp;have⟨R,h1,h2,h3⟩:=uD (place:=fun i=>r[i]?) hl hp hz1 hz2 h;refine⟨.agg ⟨R⟩,?_,by simp only[Rv];exact⟨R,rfl,h2,h3⟩⟩;have hm:=aHJ (P:=P) (g:=fun f:Field=>(do pure (f.offset,<-sizeOf f.type):Sem (Nat×Nat))) w fs.toList r (fun j f p h1 h2=>by
  obtain⟨i',h3,rfl⟩:=hr2 j f p h1 h2;simp [sizeOf,typeInfo,h3]) hr1.symm
 have hm':(fs.mapM fun f=>(do pure (f.offset,<-sizeOf f.type):Sem (Nat×Nat))).run P w= .ok r.toArray w:=by
  rw[Ez];simp only[Sem.run_map,hm,Result.andThen_ok]
 have hpl:(ps.map fun(i,x)=>(i,a.eval x)).toList=ps.toList.map fun p=>(p.1,a.eval p.2):=by simp
 simp only[Instr.build,Sem.run_bind,tO hi hZ,Result.andThen_ok,run_underlying ht,hm',hpl];have hfill:Instr.fill (fun x=>(r.toArray)[x]?) Z.cells (ps.toList.map fun p=>(p.1,a.eval p.2))=some ⟨R⟩:=by
  rw[<-h1];congr 1;funext x;simp
 rw[hfill];rfl
theorem aAr{t e:TypeId}{n:Nat}{i:TypeInfo}{z:bo}{ps:Array (Nat×Operand)}{qs:List (Nat×Nat×cL)}{F:Fr}{a:Act}(hF:oP P σ F a.tmps)(hR:jX P σ S w)
  (ht:P.underlying t=some (.array n e)) (hie:P.info? e=some i) (hz:jU P t=some z)
  (hq:wI P (fun j=>some (j * i.size,i.size)) ps.toList=some qs) {cs:bo} (h:iJ z (iI F qs)=some cs):
  ∃V,(Instr.build t (ps.map fun(i,x)=>(i,a.eval x))).run P w= .ok V w/\Rv P σ (.agg cs) V:=by
 have⟨i',Z,hi,hZ,hz1,hz2⟩:=lS (σ:=σ) hz;have⟨hl,hp⟩:=zN hF hR hq;have⟨R,h1,h2,h3⟩:=uD hl hp hz1 hz2 h;refine⟨.agg ⟨R⟩,?_,by simp only[Rv];exact⟨R,rfl,h2,h3⟩⟩;have hpl:(ps.map fun(i,x)=>(i,a.eval x)).toList=ps.toList.map fun p=>(p.1,a.eval p.2):=by simp
 have h1':Instr.fill (fun j=>some (j * i.size,i.size)) Z.cells (ps.toList.map fun p=>(p.1,a.eval p.2))=some ⟨R⟩:=h1;simp only[Instr.build,Sem.run_bind,tO hi hZ,Result.andThen_ok,run_underlying ht,sizeOf,typeInfo,run_program,hie,Sem.run_pure,hpl,h1']
theorem aAN:∀ {cs:bo} {s:bt} {C:List Value},bytesOf cs=some s->gP P σ cs C->C=s.map (fun b=>Value.int .u8 (Int.ofNat b))/\Bytes s
 | [],s,C,h,hC=>by
  simp only[bytesOf,Al] at h;subst h;rw[cJ] at hC;exact⟨hC,fun x hx=>by cases hx⟩
 | c::cs,s,C,h,hC=>by
  rw[cG] at hC;obtain⟨V,Ws,rfl,hV,hW⟩:=hC;unfold bytesOf at h;split at h
  ·rename_i e;cases e
  ·rename_i n vs e;cases e;have⟨h1,h⟩:=bB h;have⟨r,h2,h⟩:=aA h;cases h;simp only[Rv] at hV;have⟨h3,h4⟩:=aAN h2 hW;subst hV;have:=Ar h1;exact⟨by simp [h3],fun x hx=>by rcases Br.1 hx with rfl | hx;omega;exact h4 x hx⟩
  ·cases h
end Go.Ev
namespace Go.Ev
variable {P:Program}{σ:Env}{S:St}{w:World}
theorem aCF:∀ (s:bt) (acc:ByteArray),(s.map Int.ofNat).foldl (fun r n=>r.push (UInt8.ofNat n.toNat)) acc=⟨acc.data++(s.map UInt8.ofNat).toArray⟩
 | [],acc=>by simp
 | b::s,acc=>by
  rw[Fj,List.foldl_cons,aCF s];simp [ByteArray.push]
theorem aBn(hR:jX P σ S w){b off len:Nat}{L:Loc}(hL:σ b=some L){v:AV}(h:aDO S.h b off len=some v):
  ∃V,(∀cap,(Conv.bytesToString (.slice (some ⟨L.r,L.d+off,none⟩) len cap)).run P w= .ok V w)/\Rv P σ v V:=by
 have⟨cs,h1,h⟩:=aA h;have⟨s,h2,h⟩:=aA h;cases h;have⟨L',Cs,hL',h3,h4,h5,h6⟩:=uP hR h1;rw[hL] at hL';cases hL';have⟨h7,h8⟩:=aAN h2 h3;have hl:(loadCells ⟨L.r,L.d+off,none⟩ len).run P w= .ok ((s.map Int.ofNat).map (Value.int .u8)).toArray w:=by
  have:=run_loadCells_list (P:=P) w ⟨L.r,L.d+off,none⟩ Cs (fun j v hv=>by rw[Addr.add_mid];exact h6 j v hv);rw[h4] at this;rw[this,h7];simp
 refine⟨_,fun cap=>run_bytesToString w _ len cap _ hl,?_⟩;simp only[Rv];refine⟨?_,h8⟩;rw[aCF];congr 2;show #[]++(s.map UInt8.ofNat).toArray=_;simp
theorem uL{src dst:TypeId}{k:aGH}(hR:jX P σ S w){x v:AV}{X:Value}(hx:Rv P σ x X)(h:aAq k x S.h=some v)
  (hk:match k with
   | .int k=>(∃j,P.underlying src=some (.int j))/\P.underlying dst=some (.int k)
   | .same=>P.underlying src=some .string/\P.underlying dst=some .string
   | .bytesToStr=>∃e,P.underlying src=some (.slice e)/\P.underlying e=some (.int .u8)/\P.underlying dst=some .string
   | .intToStr=>(∃j,P.underlying src=some (.int j))/\P.underlying dst=some .string):
  ∃V,(convert src dst X).run P w= .ok V w/\Rv P σ v V:=by
 cases k<;>cases x<;>simp only[aAq,reduceCtorEq] at h<;>simp only at hk
 ·have⟨⟨j,h1⟩,h2⟩:=hk;simp only[Rv] at hx;subst hx;cases h;refine⟨_,?_,by simp only[Rv,tB];rfl⟩;simp [convert,run_underlying h1,run_underlying h2,Conv.intToInt]
 ·have⟨h1,h2⟩:=hk;simp only[Rv] at hx;obtain⟨rfl,hb⟩:=hx;cases h;refine⟨.string (dF _),?_,by simp only[Rv];exact⟨rfl,hb⟩⟩;simp [convert,run_underlying h1,run_underlying h2]
 ·have⟨e,h1,h2,h3⟩:=hk;simp only[Rv] at hx;obtain⟨L,hL,rfl⟩:=hx;have⟨V,h4,h5⟩:=aBn hR hL h;exact⟨V,by rw[run_convert_bytes_string w src dst e _ _ _ h1 h2 h3];exact h4 _,h5⟩
 ·have⟨e,h1,h2,h3⟩:=hk;simp only[Rv] at hx;subst hx;cases h;refine⟨.string .empty,by rw[run_convert_bytes_string w src dst e _ _ _ h1 h2 h3];rfl,?_⟩;simp only[Rv];exact⟨rfl,fun x hx=>by cases hx⟩
 ·have⟨e,h1,h2,h3⟩:=hk;simp only[Rv] at hx;obtain⟨a,c,rfl⟩:=hx;cases h;refine⟨.string .empty,by rw[run_convert_bytes_string w src dst e _ _ _ h1 h2 h3,run_bytesToString w a 0 c [] rfl];rfl,?_⟩;simp only[Rv];exact⟨rfl,fun x hx=>by cases hx⟩
 ·have⟨⟨j,h1⟩,h2⟩:=hk;rename_i kk n;cases n with
  | negSucc m=>simp at h
  | ofNat m=>
   simp only at h;have⟨h3,h⟩:=bB h;cases h;have h3:=Ar h3;simp only[Rv] at hx;subst hx;refine⟨.string (dF [m]),?_,by simp only[Rv];exact⟨trivial,fun x hx=>by simp at hx;omega⟩⟩;have hv:Utf8.valid (Int.ofNat m)=true:=by
    simp [Utf8.valid];omega
   have h9:(Int.ofNat m).toNat=m:=rfl;simp only[convert,Sem.run_bind,run_underlying h1,run_underlying h2,Result.andThen_ok,Conv.intToString,Sem.run_pure,Utf8.encode,hv,Ck,h9];rw[if_pos au];rfl
theorem uA{F:Fr}{a:Act}(hF:oP P σ F a.tmps)(hR:jX P σ S w){d y m:Nat}{xo:Option Operand}{X:Option cL}(hx:lH P xo=some X)(h:gC F d X=some m)(hm:xo.isSome=true->m<=y)(code:BoundsCode):
  (match xo.map a.eval with
  | some v=>Instr.sliceBound v y code
  | none=>pure d).run P w= .ok m w:=by
 cases xo with
 | none=>
  simp only[lH,Al] at hx;subst hx;simp only[gC,Al] at h;subst h;rfl
 | some x=>
  simp only[lH,An] at hx;obtain⟨X',hx,rfl⟩:=hx;simp only[gC] at h;have⟨k,hk⟩:=mF h;have:=bI hF hR hx;rw[hk] at this;simp only[Rv] at this;simp only[Fx,this];have hm:=hm rfl;have:=run_sliceBound (P:=P) w k (Int.ofNat m) y code (by simp) (by simpa using hm);simpa using this
theorem qR{len cap:Nat}{lo hi mx:Option cL}{F:Fr}{x:Nat×Nat×Nat}(h:iA len cap lo hi mx F=some x):
  gC F cap mx=some x.2.2/\gC F len hi=some x.2.1/\gC F 0 lo=some x.1/\x.2.2<=cap/\x.2.1<=x.2.2/\x.1<=x.2.1:=by
 unfold iA at h;have⟨m,h1,h⟩:=aA h;have⟨h',h2,h⟩:=aA h;have⟨l,h3,h⟩:=aA h;have⟨h4,h⟩:=bB h;have⟨h5,h⟩:=bB h;have⟨h6,h⟩:=bB h;cases h;exact⟨h1,h2,h3,Ar h4,Ar h5,Ar h6⟩
theorem aBT{xo:Option Operand}{X:Option cL}(h:lH P xo=some X):X.isNone=xo.isNone:=by
 cases xo with
 | none=>simp only[lH,Al] at h;subst h;rfl
 | some x=>simp only[lH,An] at h;obtain⟨_,_,rfl⟩:=h;rfl
theorem lG{F:Fr}{a:Act}(hF:oP P σ F a.tmps)(hR:jX P σ S w){isSlice:Bool}{len cap e:Nat}{lo hi mx:Option Operand}{Lo Hi Mx:Option cL}(hlo:lH P lo=some Lo)(hhi:lH P hi=some Hi)(hmx:lH P mx=some Mx)
  (hhm:mx.isSome=true->hi.isSome=true) {x:Nat×Nat×Nat} (h:iA len cap Lo Hi Mx F=some x):
  (Instr.sliceBounds isSlice len (cap+e) (lo.map a.eval) (hi.map a.eval) (mx.map a.eval)).run P w= .ok (x.1,x.2.1,if mx.isNone=true then x.2.2+e else x.2.2) w:=by
 have⟨h1,h2,h3,h4,h5,h6⟩:=qR h;have hM:∀code,(match mx.map a.eval with
   | some v=>Instr.sliceBound v (cap+e) code
   | none=>pure (cap+e)).run P w= .ok (if mx.isNone=true then x.2.2+e else x.2.2) w:=by
  intro code;cases mx with
  | none=>
   simp only[lH,Al] at hmx;subst hmx;simp only[gC,Al] at h1;rw[<-h1];rfl
  | some m=>
   have:=uA (d:=cap) (y:=cap+e) hF hR hmx h1 (fun _=>au) code;simpa using this
 have hH:∀code,(match hi.map a.eval with
   | some v=>Instr.sliceBound v (if mx.isNone=true then x.2.2+e else x.2.2) code
   | none=>pure len).run P w= .ok x.2.1 w:=fun code=>uA hF hR hhi h2 (fun _=>by split<;>omega) code
 have hL:∀code,(match lo.map a.eval with
   | some v=>Instr.sliceBound v x.2.1 code
   | none=>pure 0).run P w= .ok x.1 w:=fun code=>uA hF hR hlo h3 (fun _=>h6) code
 unfold Instr.sliceBounds;cases mx with
 | none=>
  have hM':=hM .slice3Alen;simp only[Option.map_none] at hM' ⊢;simp only[Ge,Ck] at hM' hH ⊢;cases hi with
  | none=>
   have hH':=hH .sliceB;have hL':=hL .sliceB;simp only[Option.map_none] at hH' ⊢;simp only[Sem.run_bind,hM',hH',Result.andThen_ok,Option.isSome_none,Bm,Ao];cases lo<;>simp_all
  | some hh=>
   have hH':=hH (if isSlice=true then .sliceAcap else .sliceAlen);have hL':=hL .sliceB;simp only[Fx] at hH' ⊢;simp only[Sem.run_bind,hM',hH',Result.andThen_ok,Option.isSome_none,Bm,Ao];cases lo<;>simp_all
 | some m=>
  cases hi with
  | none=>simp at hhm
  | some hh=>
   have hM':=hM (if isSlice=true then .slice3Acap else .slice3Alen);have hH':=hH .slice3B;have hL':=hL .slice3C;simp only[Fx] at hM' hH' ⊢;simp only[Option.isNone_some,Bm,Ao] at hM' hH' ⊢;simp only[Sem.run_bind,hM',hH',Result.andThen_ok,Option.isSome_some,Ck];cases lo<;>simp_all
end Go.Ev
