import Derived.Test.YtoojnpjgnnpllaaEv8
set_option maxHeartbeats 16000000
set_option linter.unusedSimpArgs false
set_option linter.unusedVariables false
namespace Go.Ev.Gl
variable {fns:T eG}
theorem vY(a b:Bool):isB (.bool a) b=(a==b):=by cases a<;>cases b<;>rfl
theorem aEN{d:Option Nat}{op:AOp}{s:Nat}{b:Bool}{m:Nat}{l:List AO}{F:Fr}{S:St}{Q:Fr→St→Prop}:tX fns (⟨d,op,some (s,b),m⟩::l) F S Q↔if isB (aB s F) b=true then tX fns (⟨d,op,none,m⟩::l) F S Q else tX fns l (cK d F .undef) S Q:=by
 have e:∀call,aDL ⟨d,op,some (s,b),m⟩ call F S=bN (isB (aB s F) b) (aDL ⟨d,op,none,m⟩ call F S) (some (cK d F .undef,S)):=fun call=>by
  cases op<;>rfl
 constructor
 ·rintro⟨n,F',S',h1,h2⟩;rw[gF,e] at h1;cases hb:isB (aB s F) b with
  | true=>
   rw[hb,aQ] at h1;rw[if_pos rfl];exact⟨n,F',S',by rw[gF];exact h1,h2⟩
  | false=>
   rw[hb,aW,aK] at h1;rw[if_neg (by simp)];exact⟨n,F',S',h1,h2⟩
 ·intro h;cases hb:isB (aB s F) b with
  | true=>
   rw[hb,if_pos rfl] at h;obtain⟨n,F',S',h1,h2⟩:=h;refine⟨n,F',S',?_,h2⟩;rw[gF,e,hb,aQ,←gF];exact h1
  | false=>
   rw[hb,if_neg (by simp)] at h;obtain⟨n,F',S',h1,h2⟩:=h;refine⟨n,F',S',?_,h2⟩;rw[gF,e,hb,aW,aK];exact h1
theorem aLC{d:Option Nat}{op:AOp}{s:Nat}{b:Bool}{m:Nat}{l:List AO}{F:Fr}{S:St}{Q:Fr→St→Prop}(hg:aB s F= .bool b):tX fns (⟨d,op,some (s,b),m⟩::l) F S Q↔tX fns (⟨d,op,none,m⟩::l) F S Q:=by
 rw[aEN,hg,vY,if_pos (by simp)]
theorem aKb{d:Option Nat}{op:AOp}{s:Nat}{b:Bool}{m:Nat}{l:List AO}{F:Fr}{S:St}{Q:Fr→St→Prop}(hg:aB s F= .bool (!b)):tX fns (⟨d,op,some (s,b),m⟩::l) F S Q↔tX fns l (cK d F .undef) S Q:=by
 rw[aEN,hg,vY,if_neg (by cases b<;>simp)]
theorem aO{c:cL}{x y:AC}{A:bH}{S:St}{Q:Out→bH→St→Prop}(hc:c.val A.F= .bool true)(h:iH fns x A S Q):iH fns (.cond c x y) A S Q:=aHd hc (fun _=>h) (fun h=>by cases h)
theorem aN{c:cL}{x y:AC}{A:bH}{S:St}{Q:Out→bH→St→Prop}(hc:c.val A.F= .bool false)(h:iH fns y A S Q):iH fns (.cond c x y) A S Q:=aHd hc (fun h=>by cases h) (fun _=>h)
theorem bQ{ops:List AO}{y:AC}{A:bH}{S:St}{Q:Out→bH→St→Prop}(h:tX fns ops A.F S fun F' S'=>aCl fns y Q .normal ⟨F',A.inr⟩ S'):iH fns (.seq (.reg ops) y) A S Q:=aA (aJ h)
theorem gC{ops:List AO}{y z:AC}{A:bH}{S:St}{Q:Out→bH→St→Prop}(h:tX fns ops A.F S fun F' S'=>aCl fns y (aCl fns z Q) .normal ⟨F',A.inr⟩ S'):iH fns (.seq (.seq (.reg ops) y) z) A S Q:=aA (aA (aJ h))
theorem tK(y:AC)(Q:Out→bH→St→Prop)(A:bH)(S:St):aCl fns y Q .normal A S=iH fns y A S Q:=rfl
theorem aAI(y:AC)(Q:Out→bH→St→Prop)(A:bH)(S:St):aCl fns y Q .ret A S=Q .ret A S:=rfl
theorem yQ(y:AC)(Q:Out→bH→St→Prop)(A:bH)(S:St)(i:Nat):aCl fns y Q (.exit i) A S=Q (.exit i) A S:=rfl
theorem rY(id:Nat)(Q:Out→bH→St→Prop)(A:bH)(S:St):aA6 id Q .normal A S=Q .normal A S:=rfl
theorem yP(id:Nat)(Q:Out→bH→St→Prop)(A:bH)(S:St):aA6 id Q .ret A S=Q .ret A S:=rfl
theorem vM(id i:Nat)(Q:Out→bH→St→Prop)(A:bH)(S:St):aA6 id Q (.exit i) A S=if i=id then Q .normal A S else Q (.exit i) A S:=rfl
theorem rS(I:Nat→bH→St→Prop)(k:Nat)(Q:Out→bH→St→Prop)(A:bH)(S:St):aEZ I k Q .normal A S=∃k',k'<k∧I k' A S:=rfl
theorem xS(I:Nat→bH→St→Prop)(k:Nat)(Q:Out→bH→St→Prop)(A:bH)(S:St):aEZ I k Q .ret A S=Q .ret A S:=rfl
theorem vV(I:Nat→bH→St→Prop)(k i:Nat)(Q:Out→bH→St→Prop)(A:bH)(S:St):aEZ I k Q (.exit i) A S=Q (.exit i) A S:=rfl
theorem aC8(res:List RV)(Q:AV→St→Prop)(A:bH)(S:St):aOd res Q .ret A S=kR (results res A.F S.h) fun vs=>Q (oneOf vs) S:=rfl
theorem wC(F:Fr)(h:T AB):results [] F h=some []:=rfl
theorem aA5(i:Nat)(rs:List RV)(F:Fr)(h:T AB):results (.t i::rs) F h=aZ (results rs F h) fun vs=>some (aB i F::vs):=rfl
theorem aAT(v:AV):oneOf [v]=v:=rfl
theorem aA0(v u:AV)(vs:List AV):oneOf (v::u::vs)= .tup (v::u::vs):=rfl
theorem xM(i:Nat)(F:Fr):rR [] i F=F:=rfl
theorem vN(v:AV)(vs:List AV)(i:Nat)(F:Fr):rR (v::vs) i F=rR vs (i+1) (cK (some i) F v):=rfl
theorem zA(t:Bool)(a b:cL)(F:Fr):wA (.bool t) a b F=some (bN t (a.val F) (b.val F)):=rfl
theorem wR(x:cL):dI (.mv x)=false:=rfl
theorem uE(op:BinOp)(e:sC)(x y:cL):dI (.bin op e x y)=false:=rfl
theorem kI(k:IxK)(x y:cL):dI (.iaddr k x y)=false:=rfl
theorem pL(g:Bool)(n:Nat)(x:cL):dI (.ld g n x)=true:=rfl
theorem fU(x:cL):dI (.lenSl x)=false:=rfl
theorem yC(k:IntKind)(x:cL):dI (.conv (.int k) x)=false:=rfl
theorem vP(h0:T AB)(hs:List (Nat×Nat×T AB)):fN h0 hs []=true:=rfl
theorem mL(h0:T AB)(hs:List (Nat×Nat×T AB))(l:lS)(ls:List lS):fN h0 hs (l::ls)=bN (eI l hs h0) (fN h0 hs ls) false:=rfl
theorem aCi(l:lS)(h:T AB):eI l [] h=oW l.v (fV l.q l.F h):=rfl
theorem jA(v w:AV):oW v (some w)=cC w v:=rfl
theorem bE(m:Nat)(h:T AB):cF m [] h=([],h):=rfl
attribute [simp] dW aHe aAK aLC aKb aAn fZ lA aHx vY tK aAI yQ rY yP vM rS xS vV aC8 wC aA5
 aAT aA0 xM vN zA aK sH aQ aW aFf aBY aHj wP pK lN aCb wB aDA aFg fD aH5 cE eF
 aEE aEA aEW aEy aES aED aEQ aBW aFl aCI
 wR uE kI pL fU yC vP mL aCi jA cS aAP aC9 nS yX bE
theorem wrap_i64{n:Int}(h1: -9223372036854775808≤n)(h2:n≤9223372036854775807):IntKind.i64.wrap n=n:=aBS (by simp [IntKind.min,IntKind.signed,IntKind.bits];omega) (by simp [IntKind.max,IntKind.signed,IntKind.bits];omega)
theorem lT(F:Fr):dD [] F= []:=rfl
theorem iF(x:cL)(l:List cL)(F:Fr):dD (x::l) F=x.val F::dD l F:=rfl
theorem dN(n:Nat)(x v:cL)(call:eQ)(F:Fr)(S:St):zB (.st n x v) call F S=aZ (v.val F).cells fun cs=>rU (x.val F) n cs S:=rfl
theorem cO(k:IntKind)(n:Int):(AV.int k n).cells=some [.int k n]:=rfl
attribute [simp] lT iF dN cO
theorem aER(k:SlK)(x:cL)(lo hi mx:Option cL)(F:Fr)(h:T AB):fV (.slc k x lo hi mx) F h=xX k (x.val F) lo hi mx F:=rfl
theorem aFi(k:IntKind){z:Int}(h:0≤z):fI (.int k z)=some z.toNat:=by
 obtain⟨n,rfl⟩:=Int.eq_ofNat_of_zero_le h;rfl
attribute [simp] aER aFi
end Go.Ev.Gl
namespace Go.Ev.Gl
end Go.Ev.Gl
namespace Go.Ev.Gl
end Go.Ev.Gl
namespace Go.Ev.Gl
end Go.Ev.Gl
namespace Go.Ev.Gl
end Go.Ev.Gl
namespace Go.Ev.Gl
end Go.Ev.Gl
