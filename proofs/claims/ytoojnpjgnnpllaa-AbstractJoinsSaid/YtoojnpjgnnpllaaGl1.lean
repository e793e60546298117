import Derived.Test.YtoojnpjgnnpllaaGl0
import Derived.Test.YtoojnpjgnnpllaaIr0
import Derived.Test.YtoojnpjgnnpllaaIr1
import Derived.Test.YtoojnpjgnnpllaaIr2
import Derived.Test.YtoojnpjgnnpllaaIr3
set_option maxHeartbeats 16000000
set_option linter.unusedSimpArgs false
set_option linter.unusedVariables false
namespace Go.Ev.Gl
structure Has(fns:T eG):Prop where
 f10:fns.get 10=some a10
 f19:fns.get 19=some a19
 f21:fns.get 21=some a21
 f22:fns.get 22=some a22
 f25:fns.get 25=some a25
 f26:fns.get 26=some a26
 f29:fns.get 29=some a29
 f30:fns.get 30=some a30
 f46:fns.get 46=some a46
 f48:fns.get 48=some a48
 f49:fns.get 49=some a49
 f50:fns.get 50=some a50
 f52:fns.get 52=some a52
 f53:fns.get 53=some a53
 f68:fns.get 68=some a68
 f69:fns.get 69=some a69
 f72:fns.get 72=some a72
 f73:fns.get 73=some a73
 f92:fns.get 92=some a92
 f93:fns.get 93=some a93
 f94:fns.get 94=some a94
 f96:fns.get 96=some a96
 f97:fns.get 97=some a97
 f98:fns.get 98=some a98
 f100:fns.get 100=some a100
 f101:fns.get 101=some a101
 f102:fns.get 102=some a102
 f103:fns.get 103=some a103
 f104:fns.get 104=some a104
 f107:fns.get 107=some a107
 f116:fns.get 116=some a116
 f119:fns.get 119=some a119
 f120:fns.get 120=some a120
 f131:fns.get 131=some a131
 f136:fns.get 136=some a136
 f137:fns.get 137=some a137
 f138:fns.get 138=some a138
 f139:fns.get 139=some a139
 f140:fns.get 140=some a140
 f141:fns.get 141=some a141
 f143:fns.get 143=some a143
 f147:fns.get 147=some a147
 f152:fns.get 152=some a152
 f155:fns.get 155=some a155
 f156:fns.get 156=some a156
 f157:fns.get 157=some a157
 f158:fns.get 158=some a158
 f159:fns.get 159=some a159
 f162:fns.get 162=some a162
 f163:fns.get 163=some a163
 f164:fns.get 164=some a164
 f165:fns.get 165=some a165
 f166:fns.get 166=some a166
 f167:fns.get 167=some a167
 f173:fns.get 173=some a173
 f174:fns.get 174=some a174
 f175:fns.get 175=some a175
 f176:fns.get 176=some a176
 f177:fns.get 177=some a177
 f178:fns.get 178=some a178
 f179:fns.get 179=some a179
 f180:fns.get 180=some a180
 f181:fns.get 181=some a181
 f182:fns.get 182=some a182
 f183:fns.get 183=some a183
 f184:fns.get 184=some a184
 f185:fns.get 185=some a185
 f186:fns.get 186=some a186
variable {fns:T eG}
theorem repeatL_one{α:Type}(z:α):∀n,repeatL [z] n=List.replicate n z
 | 0=>rfl
 | n+1=>by rw[kJ,repeatL_one z n,List.replicate_succ];rfl
theorem nK{t s bytes:Nat}{z:List AV}{l c:cL}{F:Fr}{id n:Nat}(hl:fI (l.val F)=some n)(hc:fI (c.val F)=some n)(h1:n≤room)(h2:bytes * n≤room):
  uL (.mkSlice t s bytes z l c) F id=some (.sl id 0 n n false,.cells (repeatL z n) false 0):=by
 show(aZ (fI (l.val F)) fun l=>aZ (fI (c.val F)) fun c=>bN (Nat.ble l c) (bN (Nat.ble c room) (bN (Nat.ble (bytes * c) room) (some (AV.sl id 0 l c false,AB.cells (repeatL z c) false 0)) none) none) none)=_;rw[hl,aK,hc,aK,Au (Ah n),Au h1,Au h2];rfl
theorem iG(t size bytes:Nat)(s x:cL)(call:eQ)(F:Fr)(S:St):zB (.app t size bytes s x) call F S=jK bytes size (s.val F) (x.val F) S:=rfl
theorem mH{t:Nat}{z:AV}{x:cL}{F:Fr}{id:Nat}{k:IntKind}{n:Int}(hx:x.val F= .int k n):uL (.bslice t 1 1 [z] [(0,x)]) F id=some (.sl id 0 1 1 false,.cells [.int k n] false 0):=by
 show(aZ (eS (repeatL [z] 1) [(0 * 1,1,x.val F)]) fun cs=>some (AV.sl id 0 1 1 false,AB.cells cs false 0))=_;rw[hx];rfl
attribute [simp] iG
def nO:List AO→Fr→T AB→(Fr→Prop)→Prop
 | [],F,_,Q=>Q F
 | ⟨d,.q q,g,_⟩::l,F,h,Q=>if eM g F=true then kR (fV q F h) fun v=>(dI q=true→cC v v=true)∧nO l (cK d F v) h Q else nO l (cK d F .undef) h Q
 | _::_,_,_,_=>False
theorem aCX{h:T AB}{base:Nat}{Q:Fr→Prop}:∀ {ops:List AO} {i:Nat} {D:DS},D.S.h=h→D.hs= []→D.ps= []→fN h [] D.ls=true→nO ops D.F h Q→
  yG fns ops i base D fun D'=>Q D'.F∧D'.S=D.S∧D'.ps= []∧D'.hs= []∧fN h [] D'.ls=true
 | [],i,D,h1,h2,h3,h4,hr=>by rw[fZ];exact⟨hr,rfl,h3,h2,h4⟩
 | ⟨d,.q q,g,m⟩::l,i,⟨F,S,ps,hs,ls⟩,h1,h2,h3,h4,hr=>by
  simp only at h1 h2 h3 h4 hr;subst h2;subst h3;simp only[nO] at hr;have go:∀ (_:kR (fV q F h) fun v=>(dI q=true→cC v v=true)∧nO l (cK d F v) h Q),yG fns (⟨d,.q q,none,m⟩::l) i base ⟨F,S,[],[],ls⟩ fun D'=>Q D'.F∧D'.S=S∧D'.ps= []∧D'.hs= []∧fN h [] D'.ls=true:=by
   rintro⟨v,hv,hs,hr⟩;rw[lA];subst h1;refine⟨v,hv,aCX rfl rfl rfl ?_ hr⟩;show fN S.h [] (bN (dI q) (⟨q,F,v,i,m⟩::ls) ls)=true;cases hq:dI q with
   | false=>exact h4
   | true=>
    rw[aQ,mL,aCi];show bN (oW v (fV q F S.h)) _ _=true;rw[hv,jA,hs hq,aQ];exact h4
  cases g with
  | none=>exact go (by rw[if_pos (show eM none F=true from rfl)] at hr;exact hr)
  | some g=>
   obtain⟨s,b⟩:=g;by_cases hw:eM (some (s,b)) F=true
   ·rw[if_pos hw] at hr;obtain⟨n,D',e1,e2⟩:=go hr;refine⟨n,D',?_,e2⟩;have:rT ⟨d,.q q,some (s,b),m⟩ i base (ev fns n).call ⟨F,S,[],[],ls⟩=rT ⟨d,.q q,none,m⟩ i base (ev fns n).call ⟨F,S,[],[],ls⟩:=by
     show bN (eM (some (s,b)) F) _ _=bN true _ _;rw[hw];rfl
    show aZ (rT ⟨d,.q q,some (s,b),m⟩ i base (ev fns n).call ⟨F,S,[],[],ls⟩) _=_;rw[this];exact e1
   ·rw[if_neg hw] at hr;obtain⟨n,D',e1,e2⟩:=aCX (i:=i+1) (D:=⟨cK d F .undef,S,[],[],ls⟩) h1 rfl rfl h4 hr;refine⟨n,D',?_,e2⟩;have:rT ⟨d,.q q,some (s,b),m⟩ i base (ev fns n).call ⟨F,S,[],[],ls⟩=some ⟨cK d F .undef,S,[],[],ls⟩:=by
     show bN (eM (some (s,b)) F) _ _=_;rw[show eM (some (s,b)) F=false by simpa using hw];rfl
    show aZ (rT ⟨d,.q q,some (s,b),m⟩ i base (ev fns n).call ⟨F,S,[],[],ls⟩) _=_;rw[this];exact e1
 | ⟨d,.a a,g,m⟩::l,i,D,h1,h2,h3,h4,hr=>by cases hr
 | ⟨d,.x a,g,m⟩::l,i,D,h1,h2,h3,h4,hr=>by cases hr
theorem gP{ops:List AO}{A:bH}{S:St}{Q:Out→bH→St→Prop}(h:nO ops A.F S.h fun F=>Q .normal ⟨F,A.inr⟩ ⟨S.h,S.nx+ops.length⟩):iH fns (.drw ops) A S Q:=by
 refine qO ?_;obtain⟨n,D',e1,e2,e3,e4,e5,e6⟩:=aCX (fns:=fns) (base:=S.nx) (i:=0) (D:=⟨A.F,⟨S.h,S.nx+ops.length⟩,[],[],[]⟩) rfl rfl rfl rfl h;refine⟨n,D',e1,?_,?_⟩
 ·rw[e5];exact e6
 ·rw[e4,bE,e3];exact e2
theorem aCK{F:Fr}{h:T AB}{Q:Fr→Prop}:nO [] F h Q↔Q F:=Iff.rfl
theorem aGZ{d:Option Nat}{q:xL}{m:Nat}{l:List AO}{F:Fr}{h:T AB}{Q:Fr→Prop}:nO (⟨d,.q q,none,m⟩::l) F h Q↔kR (fV q F h) fun v=>(dI q=true→cC v v=true)∧nO l (cK d F v) h Q:=by
 show(if eM none F=true then _ else _)↔_;rw[if_pos (show eM none F=true from rfl)]
theorem aHn{d:Option Nat}{q:xL}{s:Nat}{b:Bool}{m:Nat}{l:List AO}{F:Fr}{h:T AB}{Q:Fr→Prop}:nO (⟨d,.q q,some (s,b),m⟩::l) F h Q↔if isB (aB s F) b=true then nO (⟨d,.q q,none,m⟩::l) F h Q else nO l (cK d F .undef) h Q:=by
 show(if eM (some (s,b)) F=true then _ else _)↔_;rw[show eM (some (s,b)) F=isB (aB s F) b from rfl];split
 ·rw[aGZ]
 ·rfl
theorem aLc:(true==true)=true:=rfl
theorem aKQ:(false==false)=true:=rfl
theorem aKh:(true==false)=false:=rfl
theorem aJX:(false==true)=false:=rfl
theorem aAG(b:Bool):isB .undef b=false:=rfl
theorem yD(k:SlK)(x:cL)(a b c:Option cL):dI (.slc k x a b c)=false:=rfl
theorem pT(x:cL)(i:Nat):dI (.extract x i)=false:=rfl
theorem uU(c a b:cL):dI (.pick c a b)=false:=rfl
theorem xV(g:Bool)(o n:Nat)(x:cL):dI (.fld g o n x)=false:=rfl
theorem aAZ(op:UnOp)(x:cL):dI (.un op x)=false:=rfl
attribute [simp] aCK aGZ aHn aAG yD pT uU xV aAZ
def aK9(x:Option AV)(ld:Bool)(d:Option Nat)(l:List AO)(F:Fr)(h:T AB)(Q:Fr→Prop):Prop:=kR x fun v=>(ld=true→cC v v=true)∧nO l (cK d F v) h Q
theorem aDD{v:AV}{ld:Bool}{d:Option Nat}{l:List AO}{F:Fr}{h:T AB}{Q:Fr→Prop}:aK9 (some v) ld d l F h Q↔(ld=true→cC v v=true)∧nO l (cK d F v) h Q:=by unfold aK9;rw[dW]
theorem aJH{d:Option Nat}{q:xL}{m:Nat}{l:List AO}{F:Fr}{h:T AB}{Q:Fr→Prop}:nO (⟨d,.q q,none,m⟩::l) F h Q↔aK9 (fV q F h) (dI q) d l F h Q:=aGZ
def aKt(fns:T eG)(x:Option AV)(d:Option Nat)(l:List AO)(F:Fr)(S:St)(Q:Fr→St→Prop):Prop:=kR x fun v=>tX fns l (cK d F v) S Q
theorem aDp{v:AV}{d:Option Nat}{l:List AO}{F:Fr}{S:St}{Q:Fr→St→Prop}:aKt fns (some v) d l F S Q↔tX fns l (cK d F v) S Q:=by unfold aKt;rw[dW]
theorem aMU{d:Option Nat}{q:xL}{m:Nat}{l:List AO}{F:Fr}{S:St}{Q:Fr→St→Prop}:tX fns (⟨d,.q q,none,m⟩::l) F S Q↔aKt fns (fV q F S.h) d l F S Q:=aHe
def bS(b:Nat)(S S':St):Prop:=S.nx≤S'.nx∧∀c,c<S.nx→c≠b→S'.h.get c=S.h.get c
theorem bS.refl(b:Nat)(S:St):bS b S S:=⟨Ah _,fun _ _ _=>rfl⟩
theorem bS.nx{b:Nat}{S S':St}(h:bS b S S')(k:Nat):bS b S ⟨S'.h,S'.nx+k⟩:=⟨Ak h.1 (Av _ _),h.2⟩
theorem bS.put{b:Nat}{S S':St}(h:bS b S S')(x:Option AB):bS b S ⟨S'.h.set b x,S'.nx⟩:=⟨h.1,fun c hc hne=>by simp only;rw[T.get_set,if_neg hne];exact h.2 c hc hne⟩
theorem bS.trans{b:Nat}{S S' S'':St}(h:bS b S S')(h':bS b S' S''):bS b S S'':=⟨Ak h.1 h'.1,fun c hc hne=>(h'.2 c (Ae hc h.1) hne).trans (h.2 c hc hne)⟩
theorem bS.same{b:Nat}{S0 S S':St}(h0:Same S0 S)(h:bS b S S')(hb:S0.nx≤b):Same S0 S':=⟨Ak h0.1 h.1,fun c hc=>(h.2 c (Ae hc h0.1) (by omega)).trans (h0.2 c hc)⟩
theorem Same.nx(S:St)(k:Nat):Same S ⟨S.h,S.nx+k⟩:=⟨Av _ _,fun _ _=>rfl⟩
theorem aF:type_of% (And.intro @aMU (And.intro @aEN (And.intro @aAn (And.intro @tK (And.intro @aAI (And.intro @yQ (And.intro @rY (And.intro @yP (And.intro @vM (And.intro @rS (And.intro @xS (And.intro @vV (And.intro @aC8 (And.intro @aCK (And.intro @aJH (@aHn)))))))))))))))):=And.intro @aMU (And.intro @aEN (And.intro @aAn (And.intro @tK (And.intro @aAI (And.intro @yQ (And.intro @rY (And.intro @yP (And.intro @vM (And.intro @rS (And.intro @xS (And.intro @vV (And.intro @aC8 (And.intro @aCK (And.intro @aJH (@aHn)))))))))))))))
theorem aE:type_of% (And.intro @aDp (And.intro @dW (And.intro @aFf (And.intro @aCb (And.intro @aBY (And.intro @aHj (And.intro @pK (And.intro @lN (And.intro @wP (And.intro @wB (And.intro @aFg (And.intro @aDA (And.intro @zA (And.intro @aER (And.intro @fD (And.intro @aH5 (And.intro @cE (And.intro @eF (And.intro @aCI (And.intro @aEW (And.intro @aEE (And.intro @aEA (And.intro @aEy (And.intro @aES (And.intro @aED (And.intro @aEQ (And.intro @aBW (And.intro @aFl (And.intro @aG (And.intro @aK (And.intro @aA5 (And.intro @wC (And.intro @aAT (And.intro @aA0 (And.intro @lT (And.intro @iF (And.intro @xM (And.intro @vN (And.intro @aDD (And.intro @vY (And.intro @aAG (And.intro @aLc (And.intro @aKQ (And.intro @aKh (And.intro @aJX (And.intro @wR (And.intro @uE (And.intro @kI (And.intro @pL (And.intro @fU (And.intro @yC (And.intro @yD (And.intro @pT (And.intro @uU (And.intro @xV (And.intro @aAZ (And.intro @cS (And.intro @aAP (And.intro @aC9 (And.intro @nS (And.intro @yX (And.intro @Ax (And.intro @false_implies (And.intro @true_implies (And.intro @true_and (And.intro @and_true (And.intro @Ag (And.intro @Int.cast_ofNat_Int (And.intro @Int.natCast_zero (And.intro @Int.natCast_one (And.intro (@aQ (T AB)) (And.intro (@aW (T AB)) (And.intro (@aQ AV) (And.intro (@aW AV) (And.intro (@Cc AV) (And.intro (@Cf AV) (And.intro (@Dd AV) (And.intro (@Cc Nat) (And.intro (@Cf Nat) (@Dd Nat)))))))))))))))))))))))))))))))))))))))))))))))))))))))))))))))))))))))))))))))):=And.intro @aDp (And.intro @dW (And.intro @aFf (And.intro @aCb (And.intro @aBY (And.intro @aHj (And.intro @pK (And.intro @lN (And.intro @wP (And.intro @wB (And.intro @aFg (And.intro @aDA (And.intro @zA (And.intro @aER (And.intro @fD (And.intro @aH5 (And.intro @cE (And.intro @eF (And.intro @aCI (And.intro @aEW (And.intro @aEE (And.intro @aEA (And.intro @aEy (And.intro @aES (And.intro @aED (And.intro @aEQ (And.intro @aBW (And.intro @aFl (And.intro @aG (And.intro @aK (And.intro @aA5 (And.intro @wC (And.intro @aAT (And.intro @aA0 (And.intro @lT (And.intro @iF (And.intro @xM (And.intro @vN (And.intro @aDD (And.intro @vY (And.intro @aAG (And.intro @aLc (And.intro @aKQ (And.intro @aKh (And.intro @aJX (And.intro @wR (And.intro @uE (And.intro @kI (And.intro @pL (And.intro @fU (And.intro @yC (And.intro @yD (And.intro @pT (And.intro @uU (And.intro @xV (And.intro @aAZ (And.intro @cS (And.intro @aAP (And.intro @aC9 (And.intro @nS (And.intro @yX (And.intro @Ax (And.intro @false_implies (And.intro @true_implies (And.intro @true_and (And.intro @and_true (And.intro @Ag (And.intro @Int.cast_ofNat_Int (And.intro @Int.natCast_zero (And.intro @Int.natCast_one (And.intro (@aQ (T AB)) (And.intro (@aW (T AB)) (And.intro (@aQ AV) (And.intro (@aW AV) (And.intro (@Cc AV) (And.intro (@Cf AV) (And.intro (@Dd AV) (And.intro (@Cc Nat) (And.intro (@Cf Nat) (@Dd Nat)))))))))))))))))))))))))))))))))))))))))))))))))))))))))))))))))))))))))))))))
theorem uW(a:AV)(l:List AV):jF (.tup (a::l)) 0=some a:=rfl
theorem vE(a b:AV)(l:List AV):jF (.tup (a::b::l)) 1=some b:=rfl
theorem ex2(a b c:AV)(l:List AV):jF (.tup (a::b::c::l)) 2=some c:=rfl
end Go.Ev.Gl
