import Derived.Test.YtkklchgmpejobaaGreatDoorEv8
set_option maxHeartbeats 16000000
set_option linter.unusedSimpArgs false
set_option linter.unusedVariables false
namespace Go.Ev.Gl
variable {fns:T cW}
theorem wN(a b:Bool):isB (.bool a) b=(a==b):=by cases a<;>cases b<;>rfl
theorem aFk{d:Option Nat}{op:AOp}{s:Nat}{b:Bool}{m:Nat}{l:List AO}{F:Fr}{S:St}{Q:Fr→St→Prop}:tS fns (⟨d,op,some (s,b),m⟩::l) F S Q↔if isB (aD s F) b=true then tS fns (⟨d,op,none,m⟩::l) F S Q else tS fns l (cI d F .undef) S Q:=by
 have e:∀call,aCL ⟨d,op,some (s,b),m⟩ call F S=bN (isB (aD s F) b) (aCL ⟨d,op,none,m⟩ call F S) (some (cI d F .undef,S)):=fun call=>by
  cases op<;>rfl
 constructor
 ·rintro⟨n,F',S',h1,h2⟩;rw[gJ,e] at h1;cases hb:isB (aD s F) b with
  | true=>
   rw[hb,aL] at h1;rw[if_pos rfl];exact⟨n,F',S',by rw[gJ];exact h1,h2⟩
  | false=>
   rw[hb,aR,aK] at h1;rw[if_neg (by simp)];exact⟨n,F',S',h1,h2⟩
 ·intro h;cases hb:isB (aD s F) b with
  | true=>
   rw[hb,if_pos rfl] at h;obtain⟨n,F',S',h1,h2⟩:=h;refine⟨n,F',S',?_,h2⟩;rw[gJ,e,hb,aL,←gJ];exact h1
  | false=>
   rw[hb,if_neg (by simp)] at h;obtain⟨n,F',S',h1,h2⟩:=h;refine⟨n,F',S',?_,h2⟩;rw[gJ,e,hb,aR,aK];exact h1
theorem aND{d:Option Nat}{op:AOp}{s:Nat}{b:Bool}{m:Nat}{l:List AO}{F:Fr}{S:St}{Q:Fr→St→Prop}(hg:aD s F= .bool b):tS fns (⟨d,op,some (s,b),m⟩::l) F S Q↔tS fns (⟨d,op,none,m⟩::l) F S Q:=by
 rw[aFk,hg,wN,if_pos (by simp)]
theorem aMy{d:Option Nat}{op:AOp}{s:Nat}{b:Bool}{m:Nat}{l:List AO}{F:Fr}{S:St}{Q:Fr→St→Prop}(hg:aD s F= .bool (!b)):tS fns (⟨d,op,some (s,b),m⟩::l) F S Q↔tS fns l (cI d F .undef) S Q:=by
 rw[aFk,hg,wN,if_neg (by cases b<;>simp)]
theorem aS{c:cL}{x y:AC}{A:bQ}{S:St}{Q:Out→bQ→St→Prop}(hc:c.val A.F= .bool true)(h:mF fns x A S Q):mF fns (.cond c x y) A S Q:=aIy hc (fun _=>h) (fun h=>by cases h)
theorem aP{c:cL}{x y:AC}{A:bQ}{S:St}{Q:Out→bQ→St→Prop}(hc:c.val A.F= .bool false)(h:mF fns y A S Q):mF fns (.cond c x y) A S Q:=aIy hc (fun h=>by cases h) (fun _=>h)
theorem cC{ops:List AO}{y:AC}{A:bQ}{S:St}{Q:Out→bQ→St→Prop}(h:tS fns ops A.F S fun F' S'=>aDf fns y Q .normal ⟨F',A.inr⟩ S'):mF fns (.seq (.reg ops) y) A S Q:=aC (aG h)
theorem iU{ops:List AO}{y z:AC}{A:bQ}{S:St}{Q:Out→bQ→St→Prop}(h:tS fns ops A.F S fun F' S'=>aDf fns y (aDf fns z Q) .normal ⟨F',A.inr⟩ S'):mF fns (.seq (.seq (.reg ops) y) z) A S Q:=aC (aC (aG h))
theorem tP(y:AC)(Q:Out→bQ→St→Prop)(A:bQ)(S:St):aDf fns y Q .normal A S=mF fns y A S Q:=rfl
theorem aBB(y:AC)(Q:Out→bQ→St→Prop)(A:bQ)(S:St):aDf fns y Q .ret A S=Q .ret A S:=rfl
theorem zG(y:AC)(Q:Out→bQ→St→Prop)(A:bQ)(S:St)(i:Nat):aDf fns y Q (.exit i) A S=Q (.exit i) A S:=rfl
theorem sH(id:Nat)(Q:Out→bQ→St→Prop)(A:bQ)(S:St):aA9 id Q .normal A S=Q .normal A S:=rfl
theorem zD(id:Nat)(Q:Out→bQ→St→Prop)(A:bQ)(S:St):aA9 id Q .ret A S=Q .ret A S:=rfl
theorem wW(id i:Nat)(Q:Out→bQ→St→Prop)(A:bQ)(S:St):aA9 id Q (.exit i) A S=if i=id then Q .normal A S else Q (.exit i) A S:=rfl
theorem sB(I:Nat→bQ→St→Prop)(k:Nat)(Q:Out→bQ→St→Prop)(A:bQ)(S:St):aFq I k Q .normal A S=∃k',k'<k∧I k' A S:=rfl
theorem yM(I:Nat→bQ→St→Prop)(k:Nat)(Q:Out→bQ→St→Prop)(A:bQ)(S:St):aFq I k Q .ret A S=Q .ret A S:=rfl
theorem wG(I:Nat→bQ→St→Prop)(k i:Nat)(Q:Out→bQ→St→Prop)(A:bQ)(S:St):aFq I k Q (.exit i) A S=Q (.exit i) A S:=rfl
theorem aDm(res:List RV)(Q:AV→St→Prop)(A:bQ)(S:St):aQh res Q .ret A S=kD (results res A.F S.h) fun vs=>Q (oneOf vs) S:=rfl
theorem wR(F:Fr)(h:T AB):results [] F h=some []:=rfl
theorem aAT(i:Nat)(rs:List RV)(F:Fr)(h:T AB):results (.t i::rs) F h=aX (results rs F h) fun vs=>some (aD i F::vs):=rfl
theorem aAY(v:AV):oneOf [v]=v:=rfl
theorem aBF(v u:AV)(vs:List AV):oneOf (v::u::vs)= .tup (v::u::vs):=rfl
theorem yN(i:Nat)(F:Fr):rR [] i F=F:=rfl
theorem vK(v:AV)(vs:List AV)(i:Nat)(F:Fr):rR (v::vs) i F=rR vs (i+1) (cI (some i) F v):=rfl
theorem yI(t:Bool)(a b:cL)(F:Fr):xA (.bool t) a b F=some (bN t (a.val F) (b.val F)):=rfl
theorem aA3(x:cL):dE (.mv x)=false:=rfl
theorem yQ(op:BinOp)(e:oR)(x y:cL):dE (.bin op e x y)=false:=rfl
theorem mN(k:IxK)(x y:cL):dE (.iaddr k x y)=false:=rfl
theorem aAV(g:Bool)(n:Nat)(x:cL):dE (.ld g n x)=true:=rfl
theorem gM(x:cL):dE (.lenSl x)=false:=rfl
theorem zC(k:IntKind)(x:cL):dE (.conv (.int k) x)=false:=rfl
theorem aHg(h0:T AB)(hs:List (Nat×Nat×T AB)):fI h0 hs []=true:=rfl
theorem uR(h0:T AB)(hs:List (Nat×Nat×T AB))(l:jY)(ls:List jY):fI h0 hs (l::ls)=bN (fY l hs h0) (fI h0 hs ls) false:=rfl
theorem aCP(l:jY)(h:T AB):fY l [] h=nM l.v (iG l.q l.F h):=rfl
theorem uF(v w:AV):nM v (some w)=cJ w v:=rfl
theorem bR(m:Nat)(h:T AB):cF m [] h=([],h):=rfl
attribute [simp] dY aIs aBA aND aMy aAw iH mS aMo wN tP aBB zG sH zD wW sB yM wG aDm wR aAT
 aAY aBF yN vK yI aK tB aL aR aH5 aFc aFE aBt tM aCF aCY wQ aDJ aFd fU aEC bU dV
 aE5 aFz aFX aFS aFF aFN aFK aCz aFV aDl
 aA3 yQ mN aAV gM zC aHg uR aCP uF fW aBh aDT uL zL bR
theorem wrap_i64{n:Int}(h1: -9223372036854775808≤n)(h2:n≤9223372036854775807):IntKind.i64.wrap n=n:=tZ (by simp [IntKind.min,IntKind.signed,IntKind.bits];omega) (by simp [IntKind.max,IntKind.signed,IntKind.bits];omega)
theorem wrap_u64{n:Int}(h1:0≤n)(h2:n≤18446744073709551615):IntKind.u64.wrap n=n:=tZ (by simp [IntKind.min,IntKind.signed];omega) (by simp [IntKind.max,IntKind.signed,IntKind.bits];omega)
theorem wrap_u32{n:Int}(h1:0≤n)(h2:n≤4294967295):IntKind.u32.wrap n=n:=tZ (by simp [IntKind.min,IntKind.signed];omega) (by simp [IntKind.max,IntKind.signed,IntKind.bits];omega)
theorem pT(F:Fr):dC [] F= []:=rfl
theorem jT(x:cL)(l:List cL)(F:Fr):dC (x::l) F=x.val F::dC l F:=rfl
theorem dD(n:Nat)(x v:cL)(call:eS)(F:Fr)(S:St):zY (.st n x v) call F S=aX (v.val F).cells fun cs=>jS (x.val F) n cs S:=rfl
theorem cO(k:IntKind)(n:Int):(AV.int k n).cells=some [.int k n]:=rfl
attribute [simp] pT jT dD cO
theorem aFW(k:SlK)(x:cL)(lo hi mx:Option cL)(F:Fr)(h:T AB):iG (.slc k x lo hi mx) F h=qS k (x.val F) lo hi mx F:=rfl
theorem pH(k:IntKind){z:Int}(h:0≤z):eY (.int k z)=some z.toNat:=by
 obtain⟨n,rfl⟩:=Int.eq_ofNat_of_zero_le h;rfl
attribute [simp] aFW pH
end Go.Ev.Gl
namespace Go.Ev.Gl
end Go.Ev.Gl
namespace Go.Ev.Gl
end Go.Ev.Gl
namespace Go.Ev.Gl
end Go.Ev.Gl
namespace Go.Ev.Gl
end Go.Ev.Gl
namespace Go.Ev.Gl
end Go.Ev.Gl
