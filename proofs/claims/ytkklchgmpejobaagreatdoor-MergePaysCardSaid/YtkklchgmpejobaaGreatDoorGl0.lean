import Derived.Test.YtkklchgmpejobaaGreatDoorEv8
set_option maxHeartbeats 16000000
set_option linter.unusedSimpArgs false
set_option linter.unusedVariables false
namespace Go.Ev.Gl
variable {fns:T cV}
theorem wL(a b:Bool):isB (.bool a) b=(a==b):=by cases a<;>cases b<;>rfl
theorem aE7{d:Option Nat}{op:AOp}{s:Nat}{b:Bool}{m:Nat}{l:List AO}{F:Fr}{S:St}{Q:Fr→St→Prop}:tW fns (⟨d,op,some (s,b),m⟩::l) F S Q↔if isB (aD s F) b=true then tW fns (⟨d,op,none,m⟩::l) F S Q else tW fns l (cI d F .undef) S Q:=by
 have e:∀call,aCt ⟨d,op,some (s,b),m⟩ call F S=bN (isB (aD s F) b) (aCt ⟨d,op,none,m⟩ call F S) (some (cI d F .undef,S)):=fun call=>by
  cases op<;>rfl
 constructor
 ·rintro⟨n,F',S',h1,h2⟩;rw[gI,e] at h1;cases hb:isB (aD s F) b with
  | true=>
   rw[hb,aL] at h1;rw[if_pos rfl];exact⟨n,F',S',by rw[gI];exact h1,h2⟩
  | false=>
   rw[hb,aQ,aK] at h1;rw[if_neg (by simp)];exact⟨n,F',S',h1,h2⟩
 ·intro h;cases hb:isB (aD s F) b with
  | true=>
   rw[hb,if_pos rfl] at h;obtain⟨n,F',S',h1,h2⟩:=h;refine⟨n,F',S',?_,h2⟩;rw[gI,e,hb,aL,←gI];exact h1
  | false=>
   rw[hb,if_neg (by simp)] at h;obtain⟨n,F',S',h1,h2⟩:=h;refine⟨n,F',S',?_,h2⟩;rw[gI,e,hb,aQ,aK];exact h1
theorem aOd{d:Option Nat}{op:AOp}{s:Nat}{b:Bool}{m:Nat}{l:List AO}{F:Fr}{S:St}{Q:Fr→St→Prop}(hg:aD s F= .bool b):tW fns (⟨d,op,some (s,b),m⟩::l) F S Q↔tW fns (⟨d,op,none,m⟩::l) F S Q:=by
 rw[aE7,hg,wL,if_pos (by simp)]
theorem aMu{d:Option Nat}{op:AOp}{s:Nat}{b:Bool}{m:Nat}{l:List AO}{F:Fr}{S:St}{Q:Fr→St→Prop}(hg:aD s F= .bool (!b)):tW fns (⟨d,op,some (s,b),m⟩::l) F S Q↔tW fns l (cI d F .undef) S Q:=by
 rw[aE7,hg,wL,if_neg (by cases b<;>simp)]
theorem aR{c:cK}{x y:AC}{A:bQ}{S:St}{Q:Out→bQ→St→Prop}(hc:c.val A.F= .bool true)(h:lJ fns x A S Q):lJ fns (.cond c x y) A S Q:=aIj hc (fun _=>h) (fun h=>by cases h)
theorem aO{c:cK}{x y:AC}{A:bQ}{S:St}{Q:Out→bQ→St→Prop}(hc:c.val A.F= .bool false)(h:lJ fns y A S Q):lJ fns (.cond c x y) A S Q:=aIj hc (fun h=>by cases h) (fun _=>h)
theorem cC{ops:List AO}{y:AC}{A:bQ}{S:St}{Q:Out→bQ→St→Prop}(h:tW fns ops A.F S fun F' S'=>aCr fns y Q .normal ⟨F',A.inr⟩ S'):lJ fns (.seq (.reg ops) y) A S Q:=aC (aG h)
theorem iP{ops:List AO}{y z:AC}{A:bQ}{S:St}{Q:Out→bQ→St→Prop}(h:tW fns ops A.F S fun F' S'=>aCr fns y (aCr fns z Q) .normal ⟨F',A.inr⟩ S'):lJ fns (.seq (.seq (.reg ops) y) z) A S Q:=aC (aC (aG h))
theorem uQ(y:AC)(Q:Out→bQ→St→Prop)(A:bQ)(S:St):aCr fns y Q .normal A S=lJ fns y A S Q:=rfl
theorem aA4(y:AC)(Q:Out→bQ→St→Prop)(A:bQ)(S:St):aCr fns y Q .ret A S=Q .ret A S:=rfl
theorem yT(y:AC)(Q:Out→bQ→St→Prop)(A:bQ)(S:St)(i:Nat):aCr fns y Q (.exit i) A S=Q (.exit i) A S:=rfl
theorem rS(id:Nat)(Q:Out→bQ→St→Prop)(A:bQ)(S:St):aAS id Q .normal A S=Q .normal A S:=rfl
theorem zN(id:Nat)(Q:Out→bQ→St→Prop)(A:bQ)(S:St):aAS id Q .ret A S=Q .ret A S:=rfl
theorem vT(id i:Nat)(Q:Out→bQ→St→Prop)(A:bQ)(S:St):aAS id Q (.exit i) A S=if i=id then Q .normal A S else Q (.exit i) A S:=rfl
theorem sG(I:Nat→bQ→St→Prop)(k:Nat)(Q:Out→bQ→St→Prop)(A:bQ)(S:St):aFz I k Q .normal A S=∃k',k'<k∧I k' A S:=rfl
theorem yX(I:Nat→bQ→St→Prop)(k:Nat)(Q:Out→bQ→St→Prop)(A:bQ)(S:St):aFz I k Q .ret A S=Q .ret A S:=rfl
theorem vL(I:Nat→bQ→St→Prop)(k i:Nat)(Q:Out→bQ→St→Prop)(A:bQ)(S:St):aFz I k Q (.exit i) A S=Q (.exit i) A S:=rfl
theorem aDh(res:List RV)(Q:AV→St→Prop)(A:bQ)(S:St):aRf res Q .ret A S=jY (results res A.F S.h) fun vs=>Q (oneOf vs) S:=rfl
theorem vP(F:Fr)(h:T AB):results [] F h=some []:=rfl
theorem aBc(i:Nat)(rs:List RV)(F:Fr)(h:T AB):results (.t i::rs) F h=aX (results rs F h) fun vs=>some (aD i F::vs):=rfl
theorem aA1(v:AV):oneOf [v]=v:=rfl
theorem aBu(v u:AV)(vs:List AV):oneOf (v::u::vs)= .tup (v::u::vs):=rfl
theorem zC(i:Nat)(F:Fr):sL [] i F=F:=rfl
theorem vR(v:AV)(vs:List AV)(i:Nat)(F:Fr):sL (v::vs) i F=sL vs (i+1) (cI (some i) F v):=rfl
theorem jE(t:Bool)(a b:cK)(F:Fr):wR (.bool t) a b F=some (bN t (a.val F) (b.val F)):=rfl
theorem aBn(x:cK):dC (.mv x)=false:=rfl
theorem zJ(op:BinOp)(e:oO)(x y:cK):dC (.bin op e x y)=false:=rfl
theorem mQ(k:IxK)(x y:cK):dC (.iaddr k x y)=false:=rfl
theorem aBi(g:Bool)(n:Nat)(x:cK):dC (.ld g n x)=true:=rfl
theorem gJ(x:cK):dC (.lenSl x)=false:=rfl
theorem zS(k:IntKind)(x:cK):dC (.conv (.int k) x)=false:=rfl
theorem aHp(h0:T AB)(hs:List (Nat×Nat×T AB)):fK h0 hs []=true:=rfl
theorem uE(h0:T AB)(hs:List (Nat×Nat×T AB))(l:jW)(ls:List jW):fK h0 hs (l::ls)=bN (fY l hs h0) (fK h0 hs ls) false:=rfl
theorem aDA(l:jW)(h:T AB):fY l [] h=nN l.v (iI l.q l.F h):=rfl
theorem uW(v w:AV):nN v (some w)=cM w v:=rfl
theorem cB(m:Nat)(h:T AB):cG m [] h=([],h):=rfl
attribute [simp] dV aII aAX aOd aMu aAL iL nB aMZ wL uQ aA4 yT rS zN vT sG yX vL aDh vP aBc
 aA1 aBu zC vR jE aK tI aL aQ aID aE4 aFG aBy tB aCq aDf wQ mL aF3 fW aEA bS dR
 aFe aFQ aFH aFZ aFj aFM aFg aCk aFf aDn
 aBn zJ mQ aBi gJ zS aHp uE aDA uW fV aAV aCG tU zM cB
theorem wrap_i64{n:Int}(h1: -9223372036854775808≤n)(h2:n≤9223372036854775807):IntKind.i64.wrap n=n:=tX (by simp [IntKind.min,IntKind.signed,IntKind.bits];omega) (by simp [IntKind.max,IntKind.signed,IntKind.bits];omega)
theorem wrap_u64{n:Int}(h1:0≤n)(h2:n≤18446744073709551615):IntKind.u64.wrap n=n:=tX (by simp [IntKind.min,IntKind.signed];omega) (by simp [IntKind.max,IntKind.signed,IntKind.bits];omega)
theorem wrap_u32{n:Int}(h1:0≤n)(h2:n≤4294967295):IntKind.u32.wrap n=n:=tX (by simp [IntKind.min,IntKind.signed];omega) (by simp [IntKind.max,IntKind.signed,IntKind.bits];omega)
theorem nR(F:Fr):cW [] F= []:=rfl
theorem jB(x:cK)(l:List cK)(F:Fr):cW (x::l) F=x.val F::cW l F:=rfl
theorem dD(n:Nat)(x v:cK)(call:eU)(F:Fr)(S:St):zX (.st n x v) call F S=aX (v.val F).cells fun cs=>lI (x.val F) n cs S:=rfl
theorem cQ(k:IntKind)(n:Int):(AV.int k n).cells=some [.int k n]:=rfl
attribute [simp] nR jB dD cQ
theorem aFC(k:SlK)(x:cK)(lo hi mx:Option cK)(F:Fr)(h:T AB):iI (.slc k x lo hi mx) F h=qX k (x.val F) lo hi mx F:=rfl
theorem oZ(k:IntKind){z:Int}(h:0≤z):fB (.int k z)=some z.toNat:=by
 obtain⟨n,rfl⟩:=Int.eq_ofNat_of_zero_le h;rfl
attribute [simp] aFC oZ
end Go.Ev.Gl
namespace Go.Ev.Gl
end Go.Ev.Gl
namespace Go.Ev.Gl
end Go.Ev.Gl
namespace Go.Ev.Gl
end Go.Ev.Gl
namespace Go.Ev.Gl
end Go.Ev.Gl
namespace Go.Ev.Gl
end Go.Ev.Gl
