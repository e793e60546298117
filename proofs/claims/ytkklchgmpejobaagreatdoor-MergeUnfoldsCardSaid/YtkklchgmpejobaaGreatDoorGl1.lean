import Derived.Test.YtkklchgmpejobaaGreatDoorGl0
import Derived.Test.YtkklchgmpejobaaGreatDoorIr0
import Derived.Test.YtkklchgmpejobaaGreatDoorIr1
import Derived.Test.YtkklchgmpejobaaGreatDoorIr2
import Derived.Test.YtkklchgmpejobaaGreatDoorIr3
set_option maxHeartbeats 16000000
set_option linter.unusedSimpArgs false
set_option linter.unusedVariables false
namespace Go.Ev.Gl
structure Has(fns:T cW):Prop where
 f4:fns.get 4=some a4
 f10:fns.get 10=some a10
 f14:fns.get 14=some a14
 f15:fns.get 15=some a15
 f16:fns.get 16=some a16
 f17:fns.get 17=some a17
 f18:fns.get 18=some a18
 f19:fns.get 19=some a19
 f20:fns.get 20=some a20
 f21:fns.get 21=some a21
 f22:fns.get 22=some a22
 f24:fns.get 24=some a24
 f31:fns.get 31=some a31
 f32:fns.get 32=some a32
 f34:fns.get 34=some a34
 f35:fns.get 35=some a35
 f36:fns.get 36=some a36
 f37:fns.get 37=some a37
 f38:fns.get 38=some a38
 f39:fns.get 39=some a39
 f40:fns.get 40=some a40
 f41:fns.get 41=some a41
 f42:fns.get 42=some a42
 f48:fns.get 48=some a48
 f49:fns.get 49=some a49
 f50:fns.get 50=some a50
 f51:fns.get 51=some a51
 f52:fns.get 52=some a52
 f53:fns.get 53=some a53
 f54:fns.get 54=some a54
 f55:fns.get 55=some a55
 f56:fns.get 56=some a56
 f57:fns.get 57=some a57
 f58:fns.get 58=some a58
 f59:fns.get 59=some a59
 f60:fns.get 60=some a60
 f61:fns.get 61=some a61
 f62:fns.get 62=some a62
 f63:fns.get 63=some a63
 f64:fns.get 64=some a64
 f65:fns.get 65=some a65
 f66:fns.get 66=some a66
 f67:fns.get 67=some a67
 f68:fns.get 68=some a68
 f69:fns.get 69=some a69
 f70:fns.get 70=some a70
 f71:fns.get 71=some a71
 f72:fns.get 72=some a72
 f73:fns.get 73=some a73
 f74:fns.get 74=some a74
 f75:fns.get 75=some a75
 f76:fns.get 76=some a76
 f77:fns.get 77=some a77
 f78:fns.get 78=some a78
 f79:fns.get 79=some a79
 f80:fns.get 80=some a80
 f81:fns.get 81=some a81
 f82:fns.get 82=some a82
 f83:fns.get 83=some a83
 f84:fns.get 84=some a84
 f85:fns.get 85=some a85
 f86:fns.get 86=some a86
 f87:fns.get 87=some a87
 f88:fns.get 88=some a88
 f89:fns.get 89=some a89
 f90:fns.get 90=some a90
 f91:fns.get 91=some a91
 f92:fns.get 92=some a92
 f93:fns.get 93=some a93
 f94:fns.get 94=some a94
 f95:fns.get 95=some a95
 f96:fns.get 96=some a96
 f97:fns.get 97=some a97
 f98:fns.get 98=some a98
 f99:fns.get 99=some a99
 f100:fns.get 100=some a100
 f101:fns.get 101=some a101
 f102:fns.get 102=some a102
 f103:fns.get 103=some a103
 f104:fns.get 104=some a104
 f105:fns.get 105=some a105
 f106:fns.get 106=some a106
 f107:fns.get 107=some a107
 f108:fns.get 108=some a108
 f109:fns.get 109=some a109
 f110:fns.get 110=some a110
 f111:fns.get 111=some a111
 f112:fns.get 112=some a112
 f113:fns.get 113=some a113
 f114:fns.get 114=some a114
 f115:fns.get 115=some a115
 f116:fns.get 116=some a116
 f117:fns.get 117=some a117
 f118:fns.get 118=some a118
 f119:fns.get 119=some a119
 f120:fns.get 120=some a120
 f121:fns.get 121=some a121
 f122:fns.get 122=some a122
 f123:fns.get 123=some a123
variable {fns:T cW}
theorem repeatL_one{α:Type}(z:α):∀n,repeatL [z] n=List.replicate n z
 | 0=>rfl
 | n+1=>by rw[kT,repeatL_one z n,List.replicate_succ];rfl
theorem jU{t s bytes:Nat}{z:List AV}{l c:cF}{F:Fr}{id n:Nat}(hl:eZ (l.val F)=some n)(hc:eZ (c.val F)=some n)(h1:n≤room)(h2:bytes * n≤room):
  xL (.mkSlice t s bytes z l c) F id=some (.sl id 0 n n false,.cells (repeatL z n) false 0):=by
 show(aZ (eZ (l.val F)) fun l=>aZ (eZ (c.val F)) fun c=>bK (Nat.ble l c) (bK (Nat.ble c room) (bK (Nat.ble (bytes * c) room) (some (AV.sl id 0 l c false,AB.cells (repeatL z c) false 0)) none) none) none)=_;rw[hl,aM,hc,aM,Aj (Ah n),Aj h1,Aj h2];rfl
theorem iY(t size bytes:Nat)(s x:cF)(call:eR)(F:Fr)(S:St):evX (.app t size bytes s x) call F S=jK bytes size (s.val F) (x.val F) S:=rfl
theorem nB{t:Nat}{z:AV}{x:cF}{F:Fr}{id:Nat}{k:IntKind}{n:Int}(hx:x.val F= .int k n):xL (.bslice t 1 1 [z] [(0,x)]) F id=some (.sl id 0 1 1 false,.cells [.int k n] false 0):=by
 show(aZ (gM (repeatL [z] 1) [(0 * 1,1,x.val F)]) fun cs=>some (AV.sl id 0 1 1 false,AB.cells cs false 0))=_;rw[hx];rfl
attribute [simp] iY
theorem aHa(e:oZ){t d:Nat}(ht:t≤18446744073709551615)(hd:0<d):eY .quo e (.int .u64 ((t:Nat):Int)) (.int .u64 ((d:Nat):Int))=some (.int .u64 ((t / d:Nat):Int)):=by
 show dB .quo .u64 (Int.ofNat t) .u64 (Int.ofNat d)=_;unfold dB;rw[show eE .quo=false from rfl,aU,eI,aP];show bK (Nat.beq d 0) none (some (AV.int .u64 (nat .u64 (t / d))))=_;have h0:Nat.beq d 0=false:=by rw[Ch];intro h;rw[Aw] at h;omega
 rw[h0,aU,nat_eq];congr 2;exact wrap_u64 (Es _) (by have:=Nat.div_le_self t d;show((t / d:Nat):Int)≤_;omega)
theorem aGm(e:oZ){t d:Nat}(hd:0<d):eY .rem e (.int .u64 ((t:Nat):Int)) (.int .u64 ((d:Nat):Int))=some (.int .u64 ((t % d:Nat):Int)):=by
 show dB .rem .u64 (Int.ofNat t) .u64 (Int.ofNat d)=_;unfold dB;rw[show eE .rem=false from rfl,aU,eI,aP];show bK (Nat.beq d 0) none (some (AV.int .u64 (.ofNat (t % d))))=_;have h0:Nat.beq d 0=false:=by rw[Ch];intro h;rw[Aw] at h;omega
 rw[h0,aU];rfl
def mF:List AO→Fr→T AB→(Fr→Prop)→Prop
 | [],F,_,Q=>Q F
 | ⟨d,.q q,g,_⟩::l,F,h,Q=>if eG g F=true then jT (gT q F h) fun v=>(dO q=true→bW v v=true)∧mF l (cB d F v) h Q else mF l (cB d F .undef) h Q
 | _::_,_,_,_=>False
theorem aC8{h:T AB}{base:Nat}{Q:Fr→Prop}:∀ {ops:List AO} {i:Nat} {D:DS},D.S.h=h→D.hs= []→D.ps= []→fM h [] D.ls=true→mF ops D.F h Q→
  yV fns ops i base D fun D'=>Q D'.F∧D'.S=D.S∧D'.ps= []∧D'.hs= []∧fM h [] D'.ls=true
 | [],i,D,h1,h2,h3,h4,hr=>by rw[jP];exact⟨hr,rfl,h3,h2,h4⟩
 | ⟨d,.q q,g,m⟩::l,i,⟨F,S,ps,hs,ls⟩,h1,h2,h3,h4,hr=>by
  simp only at h1 h2 h3 h4 hr;subst h2;subst h3;simp only[mF] at hr;have go:∀ (_:jT (gT q F h) fun v=>(dO q=true→bW v v=true)∧mF l (cB d F v) h Q),yV fns (⟨d,.q q,none,m⟩::l) i base ⟨F,S,[],[],ls⟩ fun D'=>Q D'.F∧D'.S=S∧D'.ps= []∧D'.hs= []∧fM h [] D'.ls=true:=by
   rintro⟨v,hv,hs,hr⟩;rw[oY];subst h1;refine⟨v,hv,aC8 rfl rfl rfl ?_ hr⟩;show fM S.h [] (bK (dO q) (⟨q,F,v,i,m⟩::ls) ls)=true;cases hq:dO q with
   | false=>exact h4
   | true=>
    rw[aP,mT,aDv];show bK (pD v (gT q F S.h)) _ _=true;rw[hv,gS,hs hq,aP];exact h4
  cases g with
  | none=>exact go (by rw[if_pos (show eG none F=true from rfl)] at hr;exact hr)
  | some g=>
   obtain⟨s,b⟩:=g;by_cases hw:eG (some (s,b)) F=true
   ·rw[if_pos hw] at hr;obtain⟨n,D',e1,e2⟩:=go hr;refine⟨n,D',?_,e2⟩;have:tW ⟨d,.q q,some (s,b),m⟩ i base (ev fns n).call ⟨F,S,[],[],ls⟩=tW ⟨d,.q q,none,m⟩ i base (ev fns n).call ⟨F,S,[],[],ls⟩:=by
     show bK (eG (some (s,b)) F) _ _=bK true _ _;rw[hw];rfl
    show aZ (tW ⟨d,.q q,some (s,b),m⟩ i base (ev fns n).call ⟨F,S,[],[],ls⟩) _=_;rw[this];exact e1
   ·rw[if_neg hw] at hr;obtain⟨n,D',e1,e2⟩:=aC8 (i:=i+1) (D:=⟨cB d F .undef,S,[],[],ls⟩) h1 rfl rfl h4 hr;refine⟨n,D',?_,e2⟩;have:tW ⟨d,.q q,some (s,b),m⟩ i base (ev fns n).call ⟨F,S,[],[],ls⟩=some ⟨cB d F .undef,S,[],[],ls⟩:=by
     show bK (eG (some (s,b)) F) _ _=_;rw[show eG (some (s,b)) F=false by simpa using hw];rfl
    show aZ (tW ⟨d,.q q,some (s,b),m⟩ i base (ev fns n).call ⟨F,S,[],[],ls⟩) _=_;rw[this];exact e1
 | ⟨d,.a a,g,m⟩::l,i,D,h1,h2,h3,h4,hr=>by cases hr
 | ⟨d,.x a,g,m⟩::l,i,D,h1,h2,h3,h4,hr=>by cases hr
theorem qV{ops:List AO}{A:bH}{S:St}{Q:Out→bH→St→Prop}(h:mF ops A.F S.h fun F=>Q .normal ⟨F,A.inr⟩ ⟨S.h,S.nx+ops.length⟩):nO fns (.drw ops) A S Q:=by
 refine uO ?_;obtain⟨n,D',e1,e2,e3,e4,e5,e6⟩:=aC8 (fns:=fns) (base:=S.nx) (i:=0) (D:=⟨A.F,⟨S.h,S.nx+ops.length⟩,[],[],[]⟩) rfl rfl rfl rfl h;refine⟨n,D',e1,?_,?_⟩
 ·rw[e5];exact e6
 ·rw[e4,bT,e3];exact e2
theorem aDn{F:Fr}{h:T AB}{Q:Fr→Prop}:mF [] F h Q↔Q F:=Iff.rfl
theorem aHG{d:Option Nat}{q:QOp}{m:Nat}{l:List AO}{F:Fr}{h:T AB}{Q:Fr→Prop}:mF (⟨d,.q q,none,m⟩::l) F h Q↔jT (gT q F h) fun v=>(dO q=true→bW v v=true)∧mF l (cB d F v) h Q:=by
 show(if eG none F=true then _ else _)↔_;rw[if_pos (show eG none F=true from rfl)]
theorem aIy{d:Option Nat}{q:QOp}{s:Nat}{b:Bool}{m:Nat}{l:List AO}{F:Fr}{h:T AB}{Q:Fr→Prop}:mF (⟨d,.q q,some (s,b),m⟩::l) F h Q↔if isB (aH s F) b=true then mF (⟨d,.q q,none,m⟩::l) F h Q else mF l (cB d F .undef) h Q:=by
 show(if eG (some (s,b)) F=true then _ else _)↔_;rw[show eG (some (s,b)) F=isB (aH s F) b from rfl];split
 ·rw[aHG]
 ·rfl
theorem aMg:(true==true)=true:=rfl
theorem aLU:(false==false)=true:=rfl
theorem aKZ:(true==false)=false:=rfl
theorem aMd:(false==true)=false:=rfl
theorem aBi(b:Bool):isB .undef b=false:=rfl
theorem zQ(k:SlK)(x:cF)(a b c:Option cF):dO (.slc k x a b c)=false:=rfl
theorem qQ(x:cF)(i:Nat):dO (.extract x i)=false:=rfl
theorem wT(c a b:cF):dO (.pick c a b)=false:=rfl
theorem zK(g:Bool)(o n:Nat)(x:cF):dO (.fld g o n x)=false:=rfl
theorem yL(op:UnOp)(x:cF):dO (.un op x)=false:=rfl
attribute [simp] aDn aHG aIy aBi zQ qQ wT zK yL
def aLi(x:Option AV)(ld:Bool)(d:Option Nat)(l:List AO)(F:Fr)(h:T AB)(Q:Fr→Prop):Prop:=jT x fun v=>(ld=true→bW v v=true)∧mF l (cB d F v) h Q
theorem aC9{v:AV}{ld:Bool}{d:Option Nat}{l:List AO}{F:Fr}{h:T AB}{Q:Fr→Prop}:aLi (some v) ld d l F h Q↔(ld=true→bW v v=true)∧mF l (cB d F v) h Q:=by unfold aLi;rw[eS]
theorem aLo{d:Option Nat}{q:QOp}{m:Nat}{l:List AO}{F:Fr}{h:T AB}{Q:Fr→Prop}:mF (⟨d,.q q,none,m⟩::l) F h Q↔aLi (gT q F h) (dO q) d l F h Q:=aHG
def aLJ(fns:T cW)(x:Option AV)(d:Option Nat)(l:List AO)(F:Fr)(S:St)(Q:Fr→St→Prop):Prop:=jT x fun v=>uZ fns l (cB d F v) S Q
theorem aC1{v:AV}{d:Option Nat}{l:List AO}{F:Fr}{S:St}{Q:Fr→St→Prop}:aLJ fns (some v) d l F S Q↔uZ fns l (cB d F v) S Q:=by unfold aLJ;rw[eS]
theorem aNT{d:Option Nat}{q:QOp}{m:Nat}{l:List AO}{F:Fr}{S:St}{Q:Fr→St→Prop}:uZ fns (⟨d,.q q,none,m⟩::l) F S Q↔aLJ fns (gT q F S.h) d l F S Q:=aIv
def bB(b:Nat)(S S':St):Prop:=S.nx≤S'.nx∧∀c,c<S.nx→c≠b→S'.h.get c=S.h.get c
theorem bB.refl(b:Nat)(S:St):bB b S S:=⟨Ah _,fun _ _ _=>rfl⟩
theorem bB.nx{b:Nat}{S S':St}(h:bB b S S')(k:Nat):bB b S ⟨S'.h,S'.nx+k⟩:=⟨Ba h.1 (Fd _ _),h.2⟩
theorem bB.put{b:Nat}{S S':St}(h:bB b S S')(x:Option AB):bB b S ⟨S'.h.set b x,S'.nx⟩:=⟨h.1,fun c hc hne=>by simp only;rw[T.get_set,if_neg hne];exact h.2 c hc hne⟩
theorem bB.trans{b:Nat}{S S' S'':St}(h:bB b S S')(h':bB b S' S''):bB b S S'':=⟨Ba h.1 h'.1,fun c hc hne=>(h'.2 c (Ae hc h.1) hne).trans (h.2 c hc hne)⟩
theorem bB.same{b:Nat}{S0 S S':St}(h0:Same S0 S)(h:bB b S S')(hb:S0.nx≤b):Same S0 S':=⟨Ba h0.1 h.1,fun c hc=>(h.2 c (Ae hc h0.1) (by omega)).trans (h0.2 c hc)⟩
theorem Same.nx(S:St)(k:Nat):Same S ⟨S.h,S.nx+k⟩:=⟨Fd _ _,fun _ _=>rfl⟩
theorem aB:type_of% (And.intro @aNT (And.intro @aFT (And.intro @aAP (And.intro @uH (And.intro @aBu (And.intro @zY (And.intro @sG (And.intro @aAb (And.intro @wK (And.intro @rN (And.intro @aAn (And.intro @wV (And.intro @aDs (And.intro @aDn (And.intro @aLo (@aIy)))))))))))))))):=And.intro @aNT (And.intro @aFT (And.intro @aAP (And.intro @uH (And.intro @aBu (And.intro @zY (And.intro @sG (And.intro @aAb (And.intro @wK (And.intro @rN (And.intro @aAn (And.intro @wV (And.intro @aDs (And.intro @aDn (And.intro @aLo (@aIy)))))))))))))))
theorem aA:type_of% (And.intro @aC1 (And.intro @eS (And.intro @aFH (And.intro @aDF (And.intro @aCS (And.intro @aFs (And.intro @oE (And.intro @mD (And.intro @xT (And.intro @xA (And.intro @aFn (And.intro @aD1 (And.intro @aAs (And.intro @aFE (And.intro @fV (And.intro @aJk (And.intro @bQ (And.intro @fF (And.intro @aDS (And.intro @aFe (And.intro @aE6 (And.intro @aFu (And.intro @aE4 (And.intro @aFa (And.intro @aF6 (And.intro @aFG (And.intro @aCO (And.intro @aFO (And.intro @aG (And.intro @aM (And.intro @aBp (And.intro @xG (And.intro @aBE (And.intro @aBA (And.intro @kI (And.intro @gF (And.intro @zP (And.intro @vU (And.intro @aC9 (And.intro @vV (And.intro @aBi (And.intro @aMg (And.intro @aLU (And.intro @aKZ (And.intro @aMd (And.intro @xS (And.intro @uP (And.intro @jA (And.intro @pR (And.intro @fL (And.intro @zZ (And.intro @zQ (And.intro @qQ (And.intro @wT (And.intro @zK (And.intro @yL (And.intro @dG (And.intro @aB3 (And.intro @aD3 (And.intro @uS (And.intro @aAg (And.intro @Aq (And.intro @false_implies (And.intro @true_implies (And.intro @true_and (And.intro @and_true (And.intro @Ai (And.intro @Int.cast_ofNat_Int (And.intro @Int.natCast_zero (And.intro @Int.natCast_one (And.intro (@aP (T AB)) (And.intro (@aU (T AB)) (And.intro (@aP AV) (And.intro (@aU AV) (And.intro (@Bp AV) (And.intro (@Bo AV) (And.intro (@Cv AV) (And.intro (@Bp Nat) (And.intro (@Bo Nat) (@Cv Nat)))))))))))))))))))))))))))))))))))))))))))))))))))))))))))))))))))))))))))))))):=And.intro @aC1 (And.intro @eS (And.intro @aFH (And.intro @aDF (And.intro @aCS (And.intro @aFs (And.intro @oE (And.intro @mD (And.intro @xT (And.intro @xA (And.intro @aFn (And.intro @aD1 (And.intro @aAs (And.intro @aFE (And.intro @fV (And.intro @aJk (And.intro @bQ (And.intro @fF (And.intro @aDS (And.intro @aFe (And.intro @aE6 (And.intro @aFu (And.intro @aE4 (And.intro @aFa (And.intro @aF6 (And.intro @aFG (And.intro @aCO (And.intro @aFO (And.intro @aG (And.intro @aM (And.intro @aBp (And.intro @xG (And.intro @aBE (And.intro @aBA (And.intro @kI (And.intro @gF (And.intro @zP (And.intro @vU (And.intro @aC9 (And.intro @vV (And.intro @aBi (And.intro @aMg (And.intro @aLU (And.intro @aKZ (And.intro @aMd (And.intro @xS (And.intro @uP (And.intro @jA (And.intro @pR (And.intro @fL (And.intro @zZ (And.intro @zQ (And.intro @qQ (And.intro @wT (And.intro @zK (And.intro @yL (And.intro @dG (And.intro @aB3 (And.intro @aD3 (And.intro @uS (And.intro @aAg (And.intro @Aq (And.intro @false_implies (And.intro @true_implies (And.intro @true_and (And.intro @and_true (And.intro @Ai (And.intro @Int.cast_ofNat_Int (And.intro @Int.natCast_zero (And.intro @Int.natCast_one (And.intro (@aP (T AB)) (And.intro (@aU (T AB)) (And.intro (@aP AV) (And.intro (@aU AV) (And.intro (@Bp AV) (And.intro (@Bo AV) (And.intro (@Cv AV) (And.intro (@Bp Nat) (And.intro (@Bo Nat) (@Cv Nat)))))))))))))))))))))))))))))))))))))))))))))))))))))))))))))))))))))))))))))))
theorem ex0(a:AV)(l:List AV):lH (.tup (a::l)) 0=some a:=rfl
theorem ex1(a b:AV)(l:List AV):lH (.tup (a::b::l)) 1=some b:=rfl
theorem aJM(e:oZ){a b:Nat}(ha:a≤18446744073709551615)(hb:b≤18446744073709551615):eY .and e (.int .u64 (a:Int)) (.int .u64 (b:Int))=some (.int .u64 ((Nat.land a b:Nat):Int)):=by
 show dB .and .u64 (Int.ofNat a) .u64 (Int.ofNat b)=_;unfold dB;rw[show eE .and=false from rfl,aU,eI,aP];show bK (Nat.ble a 18446744073709551615) (bK (Nat.ble b 18446744073709551615) _ _) _=_;rw[Aj ha,Aj hb];rfl
theorem xX(e:oZ)(j:IntKind){a n:Nat}(hn:n≤64):eY .shr e (.int .u64 (a:Int)) (.int j (n:Int))=some (.int .u64 ((a / 2 ^ n:Nat):Int)):=by
 show dB .shr .u64 (Int.ofNat a) j (Int.ofNat n)=_;unfold dB;rw[show eE .shr=true from rfl,aP];show vY .shr .u64 (Int.ofNat a) n=_;unfold vY;rw[show Nat.ble n IntKind.u64.bits=true from Aj hn,aP];show some (AV.int .u64 (Int.fdiv (a:Int) ((2 ^ n:Nat):Int)))=_;rw[Int.fdiv_eq_ediv_of_nonneg _ (Es _)];rfl
theorem aEH(e:oZ)(j:IntKind){a n:Nat}(hn:n≤64):eY .shl e (.int .u64 (a:Int)) (.int j (n:Int))=some (.int .u64 (IntKind.u64.wrap ((a * 2 ^ n:Nat):Int))):=by
 show dB .shl .u64 (Int.ofNat a) j (Int.ofNat n)=_;unfold dB;rw[show eE .shl=true from rfl,aP];show vY .shl .u64 (Int.ofNat a) n=_;unfold vY;rw[show Nat.ble n IntKind.u64.bits=true from Aj hn,aP];show some (AV.int .u64 (aGF .u64 (Int.ofNat a) (Int.ofNat (2 ^ n))))=_;rw[aAF];rfl
theorem aAL(n:Nat):IntKind.u64.wrap (n:Int)=((n % 2 ^ 64:Nat):Int):=by
 simp [IntKind.wrap,IntKind.signed,IntKind.bits]
end Go.Ev.Gl
