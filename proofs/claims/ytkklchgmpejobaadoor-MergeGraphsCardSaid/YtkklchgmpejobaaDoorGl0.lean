import Derived.Test.YtkklchgmpejobaaDoorEv8
set_option maxHeartbeats 16000000
set_option linter.unusedSimpArgs false
set_option linter.unusedVariables false
namespace Go.Ev.Gl
variable {fns:T cR}
theorem uL(a b:Bool):isB (.bool a) b=(a==b):=by cases a<;>cases b<;>rfl
theorem aDW{d:Option Nat}{op:AOp}{s:Nat}{b:Bool}{m:Nat}{l:List AO}{F:Fr}{S:St}{Q:Fr→St→Prop}:qU fns (⟨d,op,some (s,b),m⟩::l) F S Q↔if isB (aH s F) b=true then qU fns (⟨d,op,none,m⟩::l) F S Q else qU fns l (bY d F .undef) S Q:=by
 have e:∀call,aB1 ⟨d,op,some (s,b),m⟩ call F S=bG (isB (aH s F) b) (aB1 ⟨d,op,none,m⟩ call F S) (some (bY d F .undef,S)):=fun call=>by
  cases op<;>rfl
 constructor
 ·rintro⟨n,F',S',h1,h2⟩;rw[fD,e] at h1;cases hb:isB (aH s F) b with
  | true=>
   rw[hb,aM] at h1;rw[if_pos rfl];exact⟨n,F',S',by rw[fD];exact h1,h2⟩
  | false=>
   rw[hb,aT,aO] at h1;rw[if_neg (by simp)];exact⟨n,F',S',h1,h2⟩
 ·intro h;cases hb:isB (aH s F) b with
  | true=>
   rw[hb,if_pos rfl] at h;obtain⟨n,F',S',h1,h2⟩:=h;refine⟨n,F',S',?_,h2⟩;rw[fD,e,hb,aM,←fD];exact h1
  | false=>
   rw[hb,if_neg (by simp)] at h;obtain⟨n,F',S',h1,h2⟩:=h;refine⟨n,F',S',?_,h2⟩;rw[fD,e,hb,aT,aO];exact h1
theorem aKw{d:Option Nat}{op:AOp}{s:Nat}{b:Bool}{m:Nat}{l:List AO}{F:Fr}{S:St}{Q:Fr→St→Prop}(hg:aH s F= .bool b):qU fns (⟨d,op,some (s,b),m⟩::l) F S Q↔qU fns (⟨d,op,none,m⟩::l) F S Q:=by
 rw[aDW,hg,uL,if_pos (by simp)]
theorem aJv{d:Option Nat}{op:AOp}{s:Nat}{b:Bool}{m:Nat}{l:List AO}{F:Fr}{S:St}{Q:Fr→St→Prop}(hg:aH s F= .bool (!b)):qU fns (⟨d,op,some (s,b),m⟩::l) F S Q↔qU fns l (bY d F .undef) S Q:=by
 rw[aDW,hg,uL,if_neg (by cases b<;>simp)]
theorem aQ{c:cC}{x y:AC}{A:bK}{S:St}{Q:Out→bK→St→Prop}(hc:c.val A.F= .bool true)(h:oL fns x A S Q):oL fns (.cond c x y) A S Q:=aGi hc (fun _=>h) (fun h=>by cases h)
theorem aL{c:cC}{x y:AC}{A:bK}{S:St}{Q:Out→bK→St→Prop}(hc:c.val A.F= .bool false)(h:oL fns y A S Q):oL fns (.cond c x y) A S Q:=aGi hc (fun h=>by cases h) (fun _=>h)
theorem bO{ops:List AO}{y:AC}{A:bK}{S:St}{Q:Out→bK→St→Prop}(h:qU fns ops A.F S fun F' S'=>aBK fns y Q .normal ⟨F',A.inr⟩ S'):oL fns (.seq (.reg ops) y) A S Q:=aC (aD h)
theorem fZ{ops:List AO}{y z:AC}{A:bK}{S:St}{Q:Out→bK→St→Prop}(h:qU fns ops A.F S fun F' S'=>aBK fns y (aBK fns z Q) .normal ⟨F',A.inr⟩ S'):oL fns (.seq (.seq (.reg ops) y) z) A S Q:=aC (aC (aD h))
theorem qS(y:AC)(Q:Out→bK→St→Prop)(A:bK)(S:St):aBK fns y Q .normal A S=oL fns y A S Q:=rfl
theorem aAm(y:AC)(Q:Out→bK→St→Prop)(A:bK)(S:St):aBK fns y Q .ret A S=Q .ret A S:=rfl
theorem wU(y:AC)(Q:Out→bK→St→Prop)(A:bK)(S:St)(i:Nat):aBK fns y Q (.exit i) A S=Q (.exit i) A S:=rfl
theorem pO(id:Nat)(Q:Out→bK→St→Prop)(A:bK)(S:St):zQ id Q .normal A S=Q .normal A S:=rfl
theorem wI(id:Nat)(Q:Out→bK→St→Prop)(A:bK)(S:St):zQ id Q .ret A S=Q .ret A S:=rfl
theorem uN(id i:Nat)(Q:Out→bK→St→Prop)(A:bK)(S:St):zQ id Q (.exit i) A S=if i=id then Q .normal A S else Q (.exit i) A S:=rfl
theorem pI(I:Nat→bK→St→Prop)(k:Nat)(Q:Out→bK→St→Prop)(A:bK)(S:St):aD2 I k Q .normal A S=∃k',k'<k∧I k' A S:=rfl
theorem wB(I:Nat→bK→St→Prop)(k:Nat)(Q:Out→bK→St→Prop)(A:bK)(S:St):aD2 I k Q .ret A S=Q .ret A S:=rfl
theorem tB(I:Nat→bK→St→Prop)(k i:Nat)(Q:Out→bK→St→Prop)(A:bK)(S:St):aD2 I k Q (.exit i) A S=Q (.exit i) A S:=rfl
theorem aBB(res:List RV)(Q:AV→St→Prop)(A:bK)(S:St):aMk res Q .ret A S=iY (results res A.F S.h) fun vs=>Q (oneOf vs) S:=rfl
theorem uS(F:Fr)(h:T AB):results [] F h=some []:=rfl
theorem aAa(i:Nat)(rs:List RV)(F:Fr)(h:T AB):results (.t i::rs) F h=aW (results rs F h) fun vs=>some (aH i F::vs):=rfl
theorem aAw(v:AV):oneOf [v]=v:=rfl
theorem aAo(v u:AV)(vs:List AV):oneOf (v::u::vs)= .tup (v::u::vs):=rfl
theorem xL(i:Nat)(F:Fr):pH [] i F=F:=rfl
theorem tH(v:AV)(vs:List AV)(i:Nat)(F:Fr):pH (v::vs) i F=pH vs (i+1) (bY (some i) F v):=rfl
theorem xA(t:Bool)(a b:cC)(F:Fr):tL (.bool t) a b F=some (bG t (a.val F) (b.val F)):=rfl
theorem uX(x:cC):dE (.mv x)=false:=rfl
theorem rU(op:BinOp)(e:mM)(x y:cC):dE (.bin op e x y)=false:=rfl
theorem gQ(k:IxK)(x y:cC):dE (.iaddr k x y)=false:=rfl
theorem nJ(g:Bool)(n:Nat)(x:cC):dE (.ld g n x)=true:=rfl
theorem eQ(x:cC):dE (.lenSl x)=false:=rfl
theorem wE(k:IntKind)(x:cC):dE (.conv (.int k) x)=false:=rfl
theorem uQ(h0:T AB)(hs:List (Nat×Nat×T AB)):eO h0 hs []=true:=rfl
theorem lJ(h0:T AB)(hs:List (Nat×Nat×T AB))(l:jN)(ls:List jN):eO h0 hs (l::ls)=bG (eC l hs h0) (eO h0 hs ls) false:=rfl
theorem aCs(l:jN)(h:T AB):eC l [] h=mO l.v (gB l.q l.F h):=rfl
theorem fV(v w:AV):mO v (some w)=bW w v:=rfl
theorem bR(m:Nat)(h:T AB):bV m [] h=([],h):=rfl
attribute [simp] dH aGJ aAl aKw aJv zC jY lM aGl uL qS aAm wU pO wI uN pI wB tB aBB uS aAa
 aAw aAo xL tH xA aO pW aM aT aDP aBn aF2 vI lV kH aCc uF aCq aDU fB aHa bN eF
 aDs aDN aDy aDK aDv aEm aDO aBl aDz aCG
 uX rU gQ nJ eQ wE uQ lJ aCs fV eE aAu aBT uY wY bR
theorem wrap_i64{n:Int}(h1: -9223372036854775808≤n)(h2:n≤9223372036854775807):IntKind.i64.wrap n=n:=rG (by simp [IntKind.min,IntKind.signed,IntKind.bits];omega) (by simp [IntKind.max,IntKind.signed,IntKind.bits];omega)
theorem wrap_u64{n:Int}(h1:0≤n)(h2:n≤18446744073709551615):IntKind.u64.wrap n=n:=rG (by simp [IntKind.min,IntKind.signed];omega) (by simp [IntKind.max,IntKind.signed,IntKind.bits];omega)
theorem wrap_u32{n:Int}(h1:0≤n)(h2:n≤4294967295):IntKind.u32.wrap n=n:=rG (by simp [IntKind.min,IntKind.signed];omega) (by simp [IntKind.max,IntKind.signed,IntKind.bits];omega)
theorem lR(F:Fr):cM [] F= []:=rfl
theorem gJ(x:cC)(l:List cC)(F:Fr):cM (x::l) F=x.val F::cM l F:=rfl
theorem dN(n:Nat)(x v:cC)(call:dY)(F:Fr)(S:St):zF (.st n x v) call F S=aW (v.val F).cells fun cs=>lO (x.val F) n cs S:=rfl
theorem cS(k:IntKind)(n:Int):(AV.int k n).cells=some [.int k n]:=rfl
attribute [simp] lR gJ dN cS
theorem aEi(k:SlK)(x:cC)(lo hi mx:Option cC)(F:Fr)(h:T AB):gB (.slc k x lo hi mx) F h=pT k (x.val F) lo hi mx F:=rfl
theorem lH(k:IntKind){z:Int}(h:0≤z):eG (.int k z)=some z.toNat:=by
 obtain⟨n,rfl⟩:=Int.eq_ofNat_of_zero_le h;rfl
attribute [simp] aEi lH
end Go.Ev.Gl
namespace Go.Ev.Gl
end Go.Ev.Gl
namespace Go.Ev.Gl
end Go.Ev.Gl
namespace Go.Ev.Gl
end Go.Ev.Gl
namespace Go.Ev.Gl
end Go.Ev.Gl
namespace Go.Ev.Gl
end Go.Ev.Gl
