import Derived.Test.YtoojnpjgnnpllaaEv8
set_option maxHeartbeats 0
set_option linter.unusedSimpArgs false
set_option linter.unusedVariables false
abbrev Go.Ev.dk:=@Go.Ev.Same.refl
namespace Go.Ev.Gl
variable {fns:T dY}
theorem xJ(a b:Bool):isB (.bool a) b=(a==b):=by cases a<;>cases b<;>rfl
theorem aFT{d:Option Nat}{op:AOp}{s:Nat}{b:Bool}{m:Nat}{l:List AO}{F:Fr}{S:St}{Q:Fr->St->Prop}:vL fns (⟨d,op,some (s,b),m⟩::l) F S Q↔if isB (aD s F) b=true then vL fns (⟨d,op,none,m⟩::l) F S Q else vL fns l (cM d F .undef) S Q:=by
 have e:∀call,aDd ⟨d,op,some (s,b),m⟩ call F S=bQ (isB (aD s F) b) (aDd ⟨d,op,none,m⟩ call F S) (some (cM d F .undef,S)):=fun call=>by
  cases op<;>rfl
 constructor
 ·rintro⟨n,F',S',h1,h2⟩;rw[gQ,e] at h1;cases hb:isB (aD s F) b with
  | true=>
   rw[hb,aR] at h1;rw[if_pos rfl];exact⟨n,F',S',by rw[gQ];exact h1,h2⟩
  | false=>
   rw[hb,bB,aL] at h1;rw[if_neg (by simp)];exact⟨n,F',S',h1,h2⟩
 ·intro h;cases hb:isB (aD s F) b with
  | true=>
   rw[hb,if_pos rfl] at h;have⟨n,F',S',h1,h2⟩:=h;refine⟨n,F',S',?_,h2⟩;rw[gQ,e,hb,aR,<-gQ];exact h1
  | false=>
   rw[hb,if_neg (by simp)] at h;have⟨n,F',S',h1,h2⟩:=h;refine⟨n,F',S',?_,h2⟩;rw[gQ,e,hb,bB,aL];exact h1
theorem aOm{d:Option Nat}{op:AOp}{s:Nat}{b:Bool}{m:Nat}{l:List AO}{F:Fr}{S:St}{Q:Fr->St->Prop}(hg:aD s F= .bool b):vL fns (⟨d,op,some (s,b),m⟩::l) F S Q↔vL fns (⟨d,op,none,m⟩::l) F S Q:=by
 rw[aFT,hg,xJ,if_pos (by simp)]
theorem aMX{d:Option Nat}{op:AOp}{s:Nat}{b:Bool}{m:Nat}{l:List AO}{F:Fr}{S:St}{Q:Fr->St->Prop}(hg:aD s F= .bool (!b)):vL fns (⟨d,op,some (s,b),m⟩::l) F S Q↔vL fns l (cM d F .undef) S Q:=by
 rw[aFT,hg,xJ,if_neg (by cases b<;>simp)]
theorem aN{c:cO}{x y:AC}{A:bG}{S:St}{Q:Out->bG->St->Prop}(hc:c.val A.F= .bool true)(h:iM fns x A S Q):iM fns (.cond c x y) A S Q:=aJa hc (fun _=>h) (fun h=>by cases h)
theorem aM{c:cO}{x y:AC}{A:bG}{S:St}{Q:Out->bG->St->Prop}(hc:c.val A.F= .bool false)(h:iM fns y A S Q):iM fns (.cond c x y) A S Q:=aJa hc (fun h=>by cases h) (fun _=>h)
theorem bO{ops:List AO}{y:AC}{A:bG}{S:St}{Q:Out->bG->St->Prop}(h:vL fns ops A.F S fun F' S'=>aDa fns y Q .normal ⟨F',A.inr⟩ S'):iM fns (.seq (.reg ops) y) A S Q:=aA (aJ h)
theorem fC{ops:List AO}{y z:AC}{A:bG}{S:St}{Q:Out->bG->St->Prop}(h:vL fns ops A.F S fun F' S'=>aDa fns y (aDa fns z Q) .normal ⟨F',A.inr⟩ S'):iM fns (.seq (.seq (.reg ops) y) z) A S Q:=aA (aA (aJ h))
theorem vG(y:AC)(Q:Out->bG->St->Prop)(A:bG)(S:St):aDa fns y Q .normal A S=iM fns y A S Q:=rfl
theorem aBD(y:AC)(Q:Out->bG->St->Prop)(A:bG)(S:St):aDa fns y Q .ret A S=Q .ret A S:=rfl
theorem aAc(y:AC)(Q:Out->bG->St->Prop)(A:bG)(S:St)(i:Nat):aDa fns y Q (.exit i) A S=Q (.exit i) A S:=rfl
theorem tM(id:Nat)(Q:Out->bG->St->Prop)(A:bG)(S:St):aBn id Q .normal A S=Q .normal A S:=rfl
theorem aAb(id:Nat)(Q:Out->bG->St->Prop)(A:bG)(S:St):aBn id Q .ret A S=Q .ret A S:=rfl
theorem xO(id i:Nat)(Q:Out->bG->St->Prop)(A:bG)(S:St):aBn id Q (.exit i) A S=if i=id then Q .normal A S else Q (.exit i) A S:=rfl
theorem tV(I:Nat->bG->St->Prop)(k:Nat)(Q:Out->bG->St->Prop)(A:bG)(S:St):aGw I k Q .normal A S=∃k',k'<k/\I k' A S:=rfl
theorem aAe(I:Nat->bG->St->Prop)(k:Nat)(Q:Out->bG->St->Prop)(A:bG)(S:St):aGw I k Q .ret A S=Q .ret A S:=rfl
theorem xZ(I:Nat->bG->St->Prop)(k i:Nat)(Q:Out->bG->St->Prop)(A:bG)(S:St):aGw I k Q (.exit i) A S=Q (.exit i) A S:=rfl
theorem aDi(res:List RV)(Q:AV->St->Prop)(A:bG)(S:St):aPS res Q .ret A S=lL (results res A.F S.h) fun vs=>Q (oneOf vs) S:=rfl
theorem wZ(F:Fr)(h:T AB):results [] F h=some []:=rfl
theorem aBu(i:Nat)(rs:List RV)(F:Fr)(h:T AB):results (.t i::rs) F h=bC (results rs F h) fun vs=>some (aD i F::vs):=rfl
theorem aBV(v:AV):oneOf [v]=v:=rfl
theorem aB6(v u:AV)(vs:bf):oneOf (v::u::vs)= .tup (v::u::vs):=rfl
theorem aAm(i:Nat)(F:Fr):tS [] i F=F:=rfl
theorem yC(v:AV)(vs:bf)(i:Nat)(F:Fr):tS (v::vs) i F=tS vs (i+1) (cM (some i) F v):=rfl
theorem aAz(t:Bool)(a b:cO)(F:Fr):xY (.bool t) a b F=some (bQ t (a.val F) (b.val F)):=rfl
theorem yM(x:cO):dN (.mv x)=false:=rfl
theorem vZ(op:BinOp)(e:tZ)(x y:cO):dN (.bin op e x y)=false:=rfl
theorem lE(k:IxK)(x y:cO):dN (.cp k x y)=false:=rfl
theorem qT(g:Bool)(n:Nat)(x:cO):dN (.ld g n x)=true:=rfl
theorem gC(x:cO):dN (.ct x)=false:=rfl
theorem aAk(k:IntKind)(x:cO):dN (.conv (.int k) x)=false:=rfl
theorem xF(h0:T AB)(hs:List (Nat×Nat×T AB)):fV h0 hs []=true:=rfl
theorem nT(h0:T AB)(hs:List (Nat×Nat×T AB))(l:mR)(ls:List mR):fV h0 hs (l::ls)=bQ (eI l hs h0) (fV h0 hs ls) false:=rfl
theorem aDW(l:mR)(h:T AB):eI l [] h=qI l.v (gM l.q l.F h):=rfl
theorem jO(v w:AV):qI v (some w)=cE w v:=rfl
theorem bF(m:Nat)(h:T AB):cJ m [] h=([],h):=rfl
attribute [simp] eC aID aBN aOm aMX aAI gG lM aIk xJ vG aBD aAc tM aAb xO tV aAe xZ aDi wZ aBu
 aBV aB6 aAm yC aAz aL uV aR bB aFG aCS aIs yL qV mP aDn xC aEG aF1 fE aJM bS eF
 aFV aFR aFO aFU aFM aFD aGs aCX aGk aDy
 yM vZ lE qT gC aAk xF nT aDW jO dH yO aD4 nH aAq bF
theorem wrap_i64{n:Int}(h1: -9223372036854775808<=n)(h2:n<=9223372036854775807):IntKind.i64.wrap n=n:=aCZ (by simp [IntKind.min,IntKind.signed,IntKind.bits];omega) (by simp [IntKind.max,IntKind.signed,IntKind.bits];omega)
theorem dh(i:Nat)(h:i<9223372036854775807:=by omega):IntKind.i64.wrap ((i:Int)+1)=((i+1:Nat):Int):=by rw[wrap_i64 (by omega) (by omega)];omega
def gK(S:St)(v:AV)(l:bg):Prop:=bI .u32 S v (l.map Int.ofNat)
theorem gK.len{S:St}{v:AV}{l:bg}(h:gK S v l):jJ v=some (.int .i64 (l.length:Int)):=by
 have:=bI.len h;rw[Aj] at this;exact this
theorem gK.cp{S:St}{v:AV}{l:bg}(h:gK S v l){i:Nat}(hi:i<l.length):dO (.slice 1) v i=some (aAN v i):=bI.cp h (by simpa using hi)
theorem gK.ld{S:St}{v:AV}{l:bg}(h:gK S v l){i:Nat}(hi:i<l.length):dT (aAN v i) false 1 S.h=some (.int .u32 ((l.getD i 0:Nat):Int)):=by
 have:=bI.ld h (i:=i) (by simpa using hi);rw[this];simp [Ad,hi]
theorem gK.same{S S':St}{v:AV}{l:bg}(h:gK S v l)(hs:Same S S'):gK S' v l:=bI.same h hs
theorem mQ(F:Fr):dG [] F= []:=rfl
theorem iZ(x:cO)(l:List cO)(F:Fr):dG (x::l) F=x.val F::dG l F:=rfl
theorem dS(n:Nat)(x v:cO)(call:fA)(F:Fr)(S:St):evX (.st n x v) call F S=bC (v.val F).cells fun cs=>sO (x.val F) n cs S:=rfl
theorem cR(k:IntKind)(n:Int):(AV.int k n).cells=some [.int k n]:=rfl
attribute [simp] mQ iZ dS cR
theorem aF0(k:SlK)(x:cO)(lo hi mx:Option cO)(F:Fr)(h:T AB):gM (.slc k x lo hi mx) F h=aAx k (x.val F) lo hi mx F:=rfl
theorem aFP(k:IntKind){z:Int}(h:0<=z):fP (.int k z)=some z.toNat:=by
 obtain⟨n,rfl⟩:=Int.eq_ofNat_of_zero_le h;rfl
attribute [simp] aF0 aFP
end Go.Ev.Gl
namespace Go.Ev.Gl
end Go.Ev.Gl
namespace Go.Ev.Gl
end Go.Ev.Gl
namespace Go.Ev.Gl
end Go.Ev.Gl
namespace Go.Ev.Gl
end Go.Ev.Gl
namespace Go.Ev.Gl
end Go.Ev.Gl
