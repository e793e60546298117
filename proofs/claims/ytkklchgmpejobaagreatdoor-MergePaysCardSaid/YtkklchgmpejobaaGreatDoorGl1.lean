import Derived.Test.YtkklchgmpejobaaGreatDoorGl0
import Derived.Test.YtkklchgmpejobaaGreatDoorIr0
import Derived.Test.YtkklchgmpejobaaGreatDoorIr1
import Derived.Test.YtkklchgmpejobaaGreatDoorIr2
import Derived.Test.YtkklchgmpejobaaGreatDoorIr3
set_option maxHeartbeats 16000000
set_option linter.unusedSimpArgs false
set_option linter.unusedVariables false
namespace Go.Ev.Gl
structure Has(fns:T cV):Prop where
 f3:fns.get 3=some a3
 f7:fns.get 7=some a7
 f8:fns.get 8=some a8
 f9:fns.get 9=some a9
 f10:fns.get 10=some a10
 f11:fns.get 11=some a11
 f12:fns.get 12=some a12
 f13:fns.get 13=some a13
 f14:fns.get 14=some a14
 f19:fns.get 19=some a19
 f29:fns.get 29=some a29
 f30:fns.get 30=some a30
 f31:fns.get 31=some a31
 f32:fns.get 32=some a32
 f33:fns.get 33=some a33
 f35:fns.get 35=some a35
 f36:fns.get 36=some a36
 f37:fns.get 37=some a37
 f38:fns.get 38=some a38
 f39:fns.get 39=some a39
 f40:fns.get 40=some a40
 f42:fns.get 42=some a42
 f45:fns.get 45=some a45
 f46:fns.get 46=some a46
 f47:fns.get 47=some a47
 f48:fns.get 48=some a48
 f49:fns.get 49=some a49
 f54:fns.get 54=some a54
 f55:fns.get 55=some a55
 f56:fns.get 56=some a56
 f57:fns.get 57=some a57
 f58:fns.get 58=some a58
 f59:fns.get 59=some a59
 f60:fns.get 60=some a60
 f61:fns.get 61=some a61
 f62:fns.get 62=some a62
 f63:fns.get 63=some a63
 f64:fns.get 64=some a64
 f65:fns.get 65=some a65
 f66:fns.get 66=some a66
 f71:fns.get 71=some a71
 f72:fns.get 72=some a72
 f73:fns.get 73=some a73
 f74:fns.get 74=some a74
 f75:fns.get 75=some a75
 f76:fns.get 76=some a76
 f77:fns.get 77=some a77
 f78:fns.get 78=some a78
 f79:fns.get 79=some a79
 f80:fns.get 80=some a80
 f81:fns.get 81=some a81
 f82:fns.get 82=some a82
 f83:fns.get 83=some a83
 f84:fns.get 84=some a84
 f85:fns.get 85=some a85
 f86:fns.get 86=some a86
 f89:fns.get 89=some a89
 f90:fns.get 90=some a90
 f91:fns.get 91=some a91
 f92:fns.get 92=some a92
 f93:fns.get 93=some a93
 f94:fns.get 94=some a94
 f95:fns.get 95=some a95
 f96:fns.get 96=some a96
 f97:fns.get 97=some a97
 f98:fns.get 98=some a98
 f99:fns.get 99=some a99
 f100:fns.get 100=some a100
 f101:fns.get 101=some a101
 f102:fns.get 102=some a102
 f104:fns.get 104=some a104
 f105:fns.get 105=some a105
 f106:fns.get 106=some a106
 f107:fns.get 107=some a107
 f108:fns.get 108=some a108
 f109:fns.get 109=some a109
 f110:fns.get 110=some a110
 f111:fns.get 111=some a111
 f112:fns.get 112=some a112
 f113:fns.get 113=some a113
 f114:fns.get 114=some a114
 f115:fns.get 115=some a115
 f116:fns.get 116=some a116
 f117:fns.get 117=some a117
 f118:fns.get 118=some a118
 f119:fns.get 119=some a119
 f120:fns.get 120=some a120
 f121:fns.get 121=some a121
 f122:fns.get 122=some a122
 f123:fns.get 123=some a123
variable {fns:T cV}
theorem repeatL_one{α:Type}(z:α):∀n,repeatL [z] n=List.replicate n z
 | 0=>rfl
 | n+1=>by rw[kN,repeatL_one z n,List.replicate_succ];rfl
theorem pO{t s bytes:Nat}{z:List AV}{l c:cK}{F:Fr}{id n:Nat}(hl:fB (l.val F)=some n)(hc:fB (c.val F)=some n)(h1:n≤room)(h2:bytes * n≤room):
  tQ (.mkSlice t s bytes z l c) F id=some (.sl id 0 n n false,.cells (repeatL z n) false 0):=by
 show(aX (fB (l.val F)) fun l=>aX (fB (c.val F)) fun c=>bN (Nat.ble l c) (bN (Nat.ble c room) (bN (Nat.ble (bytes * c) room) (some (AV.sl id 0 l c false,AB.cells (repeatL z c) false 0)) none) none) none)=_;rw[hl,aK,hc,aK,Aj (Ag n),Aj h1,Aj h2];rfl
theorem fJ(t size bytes:Nat)(s x:cK)(call:eU)(F:Fr)(S:St):zX (.app t size bytes s x) call F S=iA bytes size (s.val F) (x.val F) S:=rfl
theorem kQ{t:Nat}{z:AV}{x:cK}{F:Fr}{id:Nat}{k:IntKind}{n:Int}(hx:x.val F= .int k n):tQ (.bslice t 1 1 [z] [(0,x)]) F id=some (.sl id 0 1 1 false,.cells [.int k n] false 0):=by
 show(aX (fG (repeatL [z] 1) [(0 * 1,1,x.val F)]) fun cs=>some (AV.sl id 0 1 1 false,AB.cells cs false 0))=_;rw[hx];rfl
attribute [simp] fJ
theorem aGT(e:oO){t d:Nat}(ht:t≤18446744073709551615)(hd:0<d):eJ .quo e (.int .u64 ((t:Nat):Int)) (.int .u64 ((d:Nat):Int))=some (.int .u64 ((t / d:Nat):Int)):=by
 show cN .quo .u64 (Int.ofNat t) .u64 (Int.ofNat d)=_;unfold cN;rw[show dP .quo=false from rfl,aQ,eQ,aL];show bN (Nat.beq d 0) none (some (AV.int .u64 (nat .u64 (t / d))))=_;have h0:Nat.beq d 0=false:=by rw[Bv];intro h;rw[Bb] at h;omega
 rw[h0,aQ,nat_eq];congr 2;exact wrap_u64 (En _) (by have:=Ff t d;show((t / d:Nat):Int)≤_;omega)
theorem aGY(e:oO){t d:Nat}(hd:0<d):eJ .rem e (.int .u64 ((t:Nat):Int)) (.int .u64 ((d:Nat):Int))=some (.int .u64 ((t % d:Nat):Int)):=by
 show cN .rem .u64 (Int.ofNat t) .u64 (Int.ofNat d)=_;unfold cN;rw[show dP .rem=false from rfl,aQ,eQ,aL];show bN (Nat.beq d 0) none (some (AV.int .u64 (.ofNat (t % d))))=_;have h0:Nat.beq d 0=false:=by rw[Bv];intro h;rw[Bb] at h;omega
 rw[h0,aQ];rfl
def mD:List AO→Fr→T AB→(Fr→Prop)→Prop
 | [],F,_,Q=>Q F
 | ⟨d,.q q,g,_⟩::l,F,h,Q=>if eI g F=true then jY (iI q F h) fun v=>(dC q=true→cM v v=true)∧mD l (cI d F v) h Q else mD l (cI d F .undef) h Q
 | _::_,_,_,_=>False
theorem aDp{h:T AB}{base:Nat}{Q:Fr→Prop}:∀ {ops:List AO} {i:Nat} {D:DS},D.S.h=h→D.hs= []→D.ps= []→fK h [] D.ls=true→mD ops D.F h Q→
  xF fns ops i base D fun D'=>Q D'.F∧D'.S=D.S∧D'.ps= []∧D'.hs= []∧fK h [] D'.ls=true
 | [],i,D,h1,h2,h3,h4,hr=>by rw[iL];exact⟨hr,rfl,h3,h2,h4⟩
 | ⟨d,.q q,g,m⟩::l,i,⟨F,S,ps,hs,ls⟩,h1,h2,h3,h4,hr=>by
  simp only at h1 h2 h3 h4 hr;subst h2;subst h3;simp only[mD] at hr;have go:∀ (_:jY (iI q F h) fun v=>(dC q=true→cM v v=true)∧mD l (cI d F v) h Q),xF fns (⟨d,.q q,none,m⟩::l) i base ⟨F,S,[],[],ls⟩ fun D'=>Q D'.F∧D'.S=S∧D'.ps= []∧D'.hs= []∧fK h [] D'.ls=true:=by
   rintro⟨v,hv,hs,hr⟩;rw[nB];subst h1;refine⟨v,hv,aDp rfl rfl rfl ?_ hr⟩;show fK S.h [] (bN (dC q) (⟨q,F,v,i,m⟩::ls) ls)=true;cases hq:dC q with
   | false=>exact h4
   | true=>
    rw[aL,uE,aDA];show bN (nN v (iI q F S.h)) _ _=true;rw[hv,uW,hs hq,aL];exact h4
  cases g with
  | none=>exact go (by rw[if_pos (show eI none F=true from rfl)] at hr;exact hr)
  | some g=>
   obtain⟨s,b⟩:=g;by_cases hw:eI (some (s,b)) F=true
   ·rw[if_pos hw] at hr;obtain⟨n,D',e1,e2⟩:=go hr;refine⟨n,D',?_,e2⟩;have:rC ⟨d,.q q,some (s,b),m⟩ i base (ev fns n).call ⟨F,S,[],[],ls⟩=rC ⟨d,.q q,none,m⟩ i base (ev fns n).call ⟨F,S,[],[],ls⟩:=by
     show bN (eI (some (s,b)) F) _ _=bN true _ _;rw[hw];rfl
    show aX (rC ⟨d,.q q,some (s,b),m⟩ i base (ev fns n).call ⟨F,S,[],[],ls⟩) _=_;rw[this];exact e1
   ·rw[if_neg hw] at hr;obtain⟨n,D',e1,e2⟩:=aDp (i:=i+1) (D:=⟨cI d F .undef,S,[],[],ls⟩) h1 rfl rfl h4 hr;refine⟨n,D',?_,e2⟩;have:rC ⟨d,.q q,some (s,b),m⟩ i base (ev fns n).call ⟨F,S,[],[],ls⟩=some ⟨cI d F .undef,S,[],[],ls⟩:=by
     show bN (eI (some (s,b)) F) _ _=_;rw[show eI (some (s,b)) F=false by simpa using hw];rfl
    show aX (rC ⟨d,.q q,some (s,b),m⟩ i base (ev fns n).call ⟨F,S,[],[],ls⟩) _=_;rw[this];exact e1
 | ⟨d,.a a,g,m⟩::l,i,D,h1,h2,h3,h4,hr=>by cases hr
 | ⟨d,.x a,g,m⟩::l,i,D,h1,h2,h3,h4,hr=>by cases hr
theorem kO{ops:List AO}{A:bQ}{S:St}{Q:Out→bQ→St→Prop}(h:mD ops A.F S.h fun F=>Q .normal ⟨F,A.inr⟩ ⟨S.h,S.nx+ops.length⟩):lJ fns (.drw ops) A S Q:=by
 refine wZ ?_;obtain⟨n,D',e1,e2,e3,e4,e5,e6⟩:=aDp (fns:=fns) (base:=S.nx) (i:=0) (D:=⟨A.F,⟨S.h,S.nx+ops.length⟩,[],[],[]⟩) rfl rfl rfl rfl h;refine⟨n,D',e1,?_,?_⟩
 ·rw[e5];exact e6
 ·rw[e4,cB,e3];exact e2
theorem aCR{F:Fr}{h:T AB}{Q:Fr→Prop}:mD [] F h Q↔Q F:=Iff.rfl
theorem aHT{d:Option Nat}{q:zW}{m:Nat}{l:List AO}{F:Fr}{h:T AB}{Q:Fr→Prop}:mD (⟨d,.q q,none,m⟩::l) F h Q↔jY (iI q F h) fun v=>(dC q=true→cM v v=true)∧mD l (cI d F v) h Q:=by
 show(if eI none F=true then _ else _)↔_;rw[if_pos (show eI none F=true from rfl)]
theorem aId{d:Option Nat}{q:zW}{s:Nat}{b:Bool}{m:Nat}{l:List AO}{F:Fr}{h:T AB}{Q:Fr→Prop}:mD (⟨d,.q q,some (s,b),m⟩::l) F h Q↔if isB (aD s F) b=true then mD (⟨d,.q q,none,m⟩::l) F h Q else mD l (cI d F .undef) h Q:=by
 show(if eI (some (s,b)) F=true then _ else _)↔_;rw[show eI (some (s,b)) F=isB (aD s F) b from rfl];split
 ·rw[aHT]
 ·rfl
theorem aLc:(true==true)=true:=rfl
theorem aLF:(false==false)=true:=rfl
theorem aL2:(true==false)=false:=rfl
theorem aMs:(false==true)=false:=rfl
theorem aAR(b:Bool):isB .undef b=false:=rfl
theorem yN(k:SlK)(x:cK)(a b c:Option cK):dC (.slc k x a b c)=false:=rfl
theorem qD(x:cK)(i:Nat):dC (.extract x i)=false:=rfl
theorem iJ(c a b:cK):dC (.pick c a b)=false:=rfl
theorem zL(g:Bool)(o n:Nat)(x:cK):dC (.fld g o n x)=false:=rfl
theorem xB(op:UnOp)(x:cK):dC (.un op x)=false:=rfl
attribute [simp] aCR aHT aId aAR yN qD iJ zL xB
def aLU(x:Option AV)(ld:Bool)(d:Option Nat)(l:List AO)(F:Fr)(h:T AB)(Q:Fr→Prop):Prop:=jY x fun v=>(ld=true→cM v v=true)∧mD l (cI d F v) h Q
theorem aC9{v:AV}{ld:Bool}{d:Option Nat}{l:List AO}{F:Fr}{h:T AB}{Q:Fr→Prop}:aLU (some v) ld d l F h Q↔(ld=true→cM v v=true)∧mD l (cI d F v) h Q:=by unfold aLU;rw[dV]
theorem aNa{d:Option Nat}{q:zW}{m:Nat}{l:List AO}{F:Fr}{h:T AB}{Q:Fr→Prop}:mD (⟨d,.q q,none,m⟩::l) F h Q↔aLU (iI q F h) (dC q) d l F h Q:=aHT
def aL8(fns:T cV)(x:Option AV)(d:Option Nat)(l:List AO)(F:Fr)(S:St)(Q:Fr→St→Prop):Prop:=jY x fun v=>tW fns l (cI d F v) S Q
theorem aC8{v:AV}{d:Option Nat}{l:List AO}{F:Fr}{S:St}{Q:Fr→St→Prop}:aL8 fns (some v) d l F S Q↔tW fns l (cI d F v) S Q:=by unfold aL8;rw[dV]
theorem aOX{d:Option Nat}{q:zW}{m:Nat}{l:List AO}{F:Fr}{S:St}{Q:Fr→St→Prop}:tW fns (⟨d,.q q,none,m⟩::l) F S Q↔aL8 fns (iI q F S.h) d l F S Q:=aII
def bJ(b:Nat)(S S':St):Prop:=S.nx≤S'.nx∧∀c,c<S.nx→c≠b→S'.h.get c=S.h.get c
theorem bJ.refl(b:Nat)(S:St):bJ b S S:=⟨Ag _,fun _ _ _=>rfl⟩
theorem bJ.nx{b:Nat}{S S':St}(h:bJ b S S')(k:Nat):bJ b S ⟨S'.h,S'.nx+k⟩:=⟨Ap h.1 (Dd _ _),h.2⟩
theorem bJ.put{b:Nat}{S S':St}(h:bJ b S S')(x:Option AB):bJ b S ⟨S'.h.set b x,S'.nx⟩:=⟨h.1,fun c hc hne=>by simp only;rw[T.get_set,if_neg hne];exact h.2 c hc hne⟩
theorem bJ.trans{b:Nat}{S S' S'':St}(h:bJ b S S')(h':bJ b S' S''):bJ b S S'':=⟨Ap h.1 h'.1,fun c hc hne=>(h'.2 c (Ah hc h.1) hne).trans (h.2 c hc hne)⟩
theorem bJ.same{b:Nat}{S0 S S':St}(h0:Same S0 S)(h:bJ b S S')(hb:S0.nx≤b):Same S0 S':=⟨Ap h0.1 h.1,fun c hc=>(h.2 c (Ah hc h0.1) (by omega)).trans (h0.2 c hc)⟩
theorem Same.nx(S:St)(k:Nat):Same S ⟨S.h,S.nx+k⟩:=⟨Dd _ _,fun _ _=>rfl⟩
theorem aA:type_of% (And.intro @aOX (And.intro @aE7 (And.intro @aAL (And.intro @uQ (And.intro @aA4 (And.intro @yT (And.intro @rS (And.intro @zN (And.intro @vT (And.intro @sG (And.intro @yX (And.intro @vL (And.intro @aDh (And.intro @aCR (And.intro @aNa (@aId)))))))))))))))):=And.intro @aOX (And.intro @aE7 (And.intro @aAL (And.intro @uQ (And.intro @aA4 (And.intro @yT (And.intro @rS (And.intro @zN (And.intro @vT (And.intro @sG (And.intro @yX (And.intro @vL (And.intro @aDh (And.intro @aCR (And.intro @aNa (@aId)))))))))))))))
theorem aB:type_of% (And.intro @aC8 (And.intro @dV (And.intro @aID (And.intro @aDf (And.intro @aE4 (And.intro @aFG (And.intro @tB (And.intro @aCq (And.intro @aBy (And.intro @wQ (And.intro @aF3 (And.intro @mL (And.intro @jE (And.intro @aFC (And.intro @fW (And.intro @aEA (And.intro @bS (And.intro @dR (And.intro @aDn (And.intro @aFH (And.intro @aFe (And.intro @aFQ (And.intro @aFZ (And.intro @aFj (And.intro @aFM (And.intro @aFg (And.intro @aCk (And.intro @aFf (And.intro @aH (And.intro @aK (And.intro @aBc (And.intro @vP (And.intro @aA1 (And.intro @aBu (And.intro @nR (And.intro @jB (And.intro @zC (And.intro @vR (And.intro @aC9 (And.intro @wL (And.intro @aAR (And.intro @aLc (And.intro @aLF (And.intro @aL2 (And.intro @aMs (And.intro @aBn (And.intro @zJ (And.intro @mQ (And.intro @aBi (And.intro @gJ (And.intro @zS (And.intro @yN (And.intro @qD (And.intro @iJ (And.intro @zL (And.intro @xB (And.intro @fV (And.intro @aAV (And.intro @aCG (And.intro @tU (And.intro @zM (And.intro @Ax (And.intro @false_implies (And.intro @true_implies (And.intro @true_and (And.intro @and_true (And.intro @Ak (And.intro @Int.cast_ofNat_Int (And.intro @Int.natCast_zero (And.intro @Int.natCast_one (And.intro (@aL (T AB)) (And.intro (@aQ (T AB)) (And.intro (@aL AV) (And.intro (@aQ AV) (And.intro (@Bh AV) (And.intro (@Bl AV) (And.intro (@Bz AV) (And.intro (@Bh Nat) (And.intro (@Bl Nat) (@Bz Nat)))))))))))))))))))))))))))))))))))))))))))))))))))))))))))))))))))))))))))))))):=And.intro @aC8 (And.intro @dV (And.intro @aID (And.intro @aDf (And.intro @aE4 (And.intro @aFG (And.intro @tB (And.intro @aCq (And.intro @aBy (And.intro @wQ (And.intro @aF3 (And.intro @mL (And.intro @jE (And.intro @aFC (And.intro @fW (And.intro @aEA (And.intro @bS (And.intro @dR (And.intro @aDn (And.intro @aFH (And.intro @aFe (And.intro @aFQ (And.intro @aFZ (And.intro @aFj (And.intro @aFM (And.intro @aFg (And.intro @aCk (And.intro @aFf (And.intro @aH (And.intro @aK (And.intro @aBc (And.intro @vP (And.intro @aA1 (And.intro @aBu (And.intro @nR (And.intro @jB (And.intro @zC (And.intro @vR (And.intro @aC9 (And.intro @wL (And.intro @aAR (And.intro @aLc (And.intro @aLF (And.intro @aL2 (And.intro @aMs (And.intro @aBn (And.intro @zJ (And.intro @mQ (And.intro @aBi (And.intro @gJ (And.intro @zS (And.intro @yN (And.intro @qD (And.intro @iJ (And.intro @zL (And.intro @xB (And.intro @fV (And.intro @aAV (And.intro @aCG (And.intro @tU (And.intro @zM (And.intro @Ax (And.intro @false_implies (And.intro @true_implies (And.intro @true_and (And.intro @and_true (And.intro @Ak (And.intro @Int.cast_ofNat_Int (And.intro @Int.natCast_zero (And.intro @Int.natCast_one (And.intro (@aL (T AB)) (And.intro (@aQ (T AB)) (And.intro (@aL AV) (And.intro (@aQ AV) (And.intro (@Bh AV) (And.intro (@Bl AV) (And.intro (@Bz AV) (And.intro (@Bh Nat) (And.intro (@Bl Nat) (@Bz Nat)))))))))))))))))))))))))))))))))))))))))))))))))))))))))))))))))))))))))))))))
theorem ac{p q:Prop}(a:q)(h:q→p:=by intro a;simp only[↓aA,aB,Nat.reduceEqDiff,↓reduceIte];exact a):p:=h a
theorem ae{p:Prop}(h:p:=by simp only[↓aA,aB,Nat.reduceEqDiff,↓reduceIte]):p:=h
theorem af{p:Prop}(h:p:=by simp only[↓aA,aB,Nat.reduceEqDiff,↓reduceIte];try rfl):p:=h
theorem ag{p q:Prop}(a:q)(h:q→p:=by intro a;simp only[↓aA,aB,Nat.reduceEqDiff,↓reduceIte,a]):p:=h a
theorem ah{p q:Prop}(a:q)(h:q→p:=by intro a;simp only[↓aA,aB,Nat.reduceEqDiff,↓reduceIte,Nat.reduceAdd];exact a):p:=h a
theorem ai{p:Prop}(h:p:=by simp only[↓aA,aB,Nat.reduceEqDiff,↓reduceIte,Nat.reduceAdd]):p:=h
theorem aj{p q:Prop}(a:q)(h:q→p:=by intro a;simp only[↓aA,aB,Nat.reduceEqDiff,↓reduceIte,Nat.reduceAdd,a]):p:=h a
theorem ex0(a:AV)(l:List AV):lO (.tup (a::l)) 0=some a:=rfl
theorem ex1(a b:AV)(l:List AV):lO (.tup (a::b::l)) 1=some b:=rfl
theorem aKs(e:oO){a b:Nat}(ha:a≤18446744073709551615)(hb:b≤18446744073709551615):eJ .and e (.int .u64 (a:Int)) (.int .u64 (b:Int))=some (.int .u64 ((Nat.land a b:Nat):Int)):=by
 show cN .and .u64 (Int.ofNat a) .u64 (Int.ofNat b)=_;unfold cN;rw[show dP .and=false from rfl,aQ,eQ,aL];show bN (Nat.ble a 18446744073709551615) (bN (Nat.ble b 18446744073709551615) _ _) _=_;rw[Aj ha,Aj hb];rfl
theorem xQ(e:oO)(j:IntKind){a n:Nat}(hn:n≤64):eJ .shr e (.int .u64 (a:Int)) (.int j (n:Int))=some (.int .u64 ((a / 2 ^ n:Nat):Int)):=by
 show cN .shr .u64 (Int.ofNat a) j (Int.ofNat n)=_;unfold cN;rw[show dP .shr=true from rfl,aL];show sF .shr .u64 (Int.ofNat a) n=_;unfold sF;rw[show Nat.ble n IntKind.u64.bits=true from Aj hn,aL];show some (AV.int .u64 (Int.fdiv (a:Int) ((2 ^ n:Nat):Int)))=_;rw[Int.fdiv_eq_ediv_of_nonneg _ (En _)];rfl
theorem aEx(e:oO)(j:IntKind){a n:Nat}(hn:n≤64):eJ .shl e (.int .u64 (a:Int)) (.int j (n:Int))=some (.int .u64 (IntKind.u64.wrap ((a * 2 ^ n:Nat):Int))):=by
 show cN .shl .u64 (Int.ofNat a) j (Int.ofNat n)=_;unfold cN;rw[show dP .shl=true from rfl,aL];show sF .shl .u64 (Int.ofNat a) n=_;unfold sF;rw[show Nat.ble n IntKind.u64.bits=true from Aj hn,aL];show some (AV.int .u64 (aGy .u64 (Int.ofNat a) (Int.ofNat (2 ^ n))))=_;rw[aAk];rfl
theorem aAD(n:Nat):IntKind.u64.wrap (n:Int)=((n % 2 ^ 64:Nat):Int):=by
 simp [IntKind.wrap,IntKind.signed,IntKind.bits]
end Go.Ev.Gl
