import Derived.Test.YtkklchgmpejobaaDoorGl0
import Derived.Test.YtkklchgmpejobaaDoorIr0
import Derived.Test.YtkklchgmpejobaaDoorIr1
import Derived.Test.YtkklchgmpejobaaDoorIr2
import Derived.Test.YtkklchgmpejobaaDoorIr3
set_option maxHeartbeats 16000000
set_option linter.unusedSimpArgs false
set_option linter.unusedVariables false
namespace Go.Ev.Gl
structure Has(fns:T dB):Prop where
 f4:fns.get 4=some a4
 f11:fns.get 11=some a11
 f13:fns.get 13=some a13
 f14:fns.get 14=some a14
 f15:fns.get 15=some a15
 f16:fns.get 16=some a16
 f17:fns.get 17=some a17
 f18:fns.get 18=some a18
 f19:fns.get 19=some a19
 f22:fns.get 22=some a22
 f23:fns.get 23=some a23
 f26:fns.get 26=some a26
 f28:fns.get 28=some a28
 f30:fns.get 30=some a30
 f31:fns.get 31=some a31
 f32:fns.get 32=some a32
 f33:fns.get 33=some a33
 f34:fns.get 34=some a34
 f35:fns.get 35=some a35
 f36:fns.get 36=some a36
 f37:fns.get 37=some a37
 f38:fns.get 38=some a38
 f39:fns.get 39=some a39
 f42:fns.get 42=some a42
 f43:fns.get 43=some a43
 f47:fns.get 47=some a47
 f48:fns.get 48=some a48
 f49:fns.get 49=some a49
 f50:fns.get 50=some a50
 f51:fns.get 51=some a51
 f53:fns.get 53=some a53
 f54:fns.get 54=some a54
 f55:fns.get 55=some a55
 f56:fns.get 56=some a56
 f57:fns.get 57=some a57
 f58:fns.get 58=some a58
 f59:fns.get 59=some a59
 f60:fns.get 60=some a60
 f61:fns.get 61=some a61
 f62:fns.get 62=some a62
 f63:fns.get 63=some a63
 f64:fns.get 64=some a64
 f65:fns.get 65=some a65
 f66:fns.get 66=some a66
 f67:fns.get 67=some a67
 f68:fns.get 68=some a68
 f69:fns.get 69=some a69
 f70:fns.get 70=some a70
 f72:fns.get 72=some a72
 f73:fns.get 73=some a73
 f74:fns.get 74=some a74
 f75:fns.get 75=some a75
 f76:fns.get 76=some a76
 f77:fns.get 77=some a77
 f78:fns.get 78=some a78
 f79:fns.get 79=some a79
 f80:fns.get 80=some a80
 f81:fns.get 81=some a81
 f82:fns.get 82=some a82
 f83:fns.get 83=some a83
 f84:fns.get 84=some a84
 f85:fns.get 85=some a85
 f86:fns.get 86=some a86
 f87:fns.get 87=some a87
 f88:fns.get 88=some a88
 f89:fns.get 89=some a89
 f90:fns.get 90=some a90
 f91:fns.get 91=some a91
 f92:fns.get 92=some a92
 f93:fns.get 93=some a93
 f94:fns.get 94=some a94
 f95:fns.get 95=some a95
 f96:fns.get 96=some a96
 f97:fns.get 97=some a97
 f98:fns.get 98=some a98
 f99:fns.get 99=some a99
 f100:fns.get 100=some a100
 f101:fns.get 101=some a101
 f102:fns.get 102=some a102
 f103:fns.get 103=some a103
 f104:fns.get 104=some a104
 f105:fns.get 105=some a105
 f106:fns.get 106=some a106
 f107:fns.get 107=some a107
 f108:fns.get 108=some a108
 f109:fns.get 109=some a109
 f110:fns.get 110=some a110
 f111:fns.get 111=some a111
 f112:fns.get 112=some a112
 f113:fns.get 113=some a113
variable {fns:T dB}
theorem repeatL_one{α:Type}(z:α):∀n,repeatL [z] n=List.replicate n z
 | 0=>rfl
 | n+1=>by rw[kG,repeatL_one z n,List.replicate_succ];rfl
theorem rC{t s bytes:Nat}{z:List AV}{l c:cK}{F:Fr}{id n:Nat}(hl:fA (l.val F)=some n)(hc:fA (c.val F)=some n)(h1:n≤room)(h2:bytes * n≤room):
  tE (.mkSlice t s bytes z l c) F id=some (.sl id 0 n n false,.cells (repeatL z n) false 0):=by
 show(aW (fA (l.val F)) fun l=>aW (fA (c.val F)) fun c=>bL (Nat.ble l c) (bL (Nat.ble c room) (bL (Nat.ble (bytes * c) room) (some (AV.sl id 0 l c false,AB.cells (repeatL z c) false 0)) none) none) none)=_;rw[hl,aJ,hc,aJ,Aj (Ag n),Aj h1,Aj h2];rfl
theorem fM(t size bytes:Nat)(s x:cK)(call:eS)(F:Fr)(S:St):zN (.app t size bytes s x) call F S=gN bytes size (s.val F) (x.val F) S:=rfl
theorem lI{t:Nat}{z:AV}{x:cK}{F:Fr}{id:Nat}{k:IntKind}{n:Int}(hx:x.val F= .int k n):tE (.bslice t 1 1 [z] [(0,x)]) F id=some (.sl id 0 1 1 false,.cells [.int k n] false 0):=by
 show(aW (fI (repeatL [z] 1) [(0 * 1,1,x.val F)]) fun cs=>some (AV.sl id 0 1 1 false,AB.cells cs false 0))=_;rw[hx];rfl
attribute [simp] fM
theorem aF3(e:oG){t d:Nat}(ht:t≤18446744073709551615)(hd:0<d):eX .quo e (.int .u64 ((t:Nat):Int)) (.int .u64 ((d:Nat):Int))=some (.int .u64 ((t / d:Nat):Int)):=by
 show cP .quo .u64 (Int.ofNat t) .u64 (Int.ofNat d)=_;unfold cP;rw[show dP .quo=false from rfl,aR,eG,aL];show bL (Nat.beq d 0) none (some (AV.int .u64 (nat .u64 (t / d))))=_;have h0:Nat.beq d 0=false:=by rw[Br];intro h;rw[Ax] at h;omega
 rw[h0,aR,nat_eq];congr 2;exact wrap_u64 (Eh _) (by have:=Nat.div_le_self t d;show((t / d:Nat):Int)≤_;omega)
theorem aFP(e:oG){t d:Nat}(hd:0<d):eX .rem e (.int .u64 ((t:Nat):Int)) (.int .u64 ((d:Nat):Int))=some (.int .u64 ((t % d:Nat):Int)):=by
 show cP .rem .u64 (Int.ofNat t) .u64 (Int.ofNat d)=_;unfold cP;rw[show dP .rem=false from rfl,aR,eG,aL];show bL (Nat.beq d 0) none (some (AV.int .u64 (.ofNat (t % d))))=_;have h0:Nat.beq d 0=false:=by rw[Br];intro h;rw[Ax] at h;omega
 rw[h0,aR];rfl
def lL:List AO→Fr→T AB→(Fr→Prop)→Prop
 | [],F,_,Q=>Q F
 | ⟨d,.q q,g,_⟩::l,F,h,Q=>if eJ g F=true then jY (hJ q F h) fun v=>(dE q=true→cL v v=true)∧lL l (cI d F v) h Q else lL l (cI d F .undef) h Q
 | _::_,_,_,_=>False
theorem aCR{h:T AB}{base:Nat}{Q:Fr→Prop}:∀ {ops:List AO} {i:Nat} {D:DS},D.S.h=h→D.hs= []→D.ps= []→fH h [] D.ls=true→lL ops D.F h Q→
  wZ fns ops i base D fun D'=>Q D'.F∧D'.S=D.S∧D'.ps= []∧D'.hs= []∧fH h [] D'.ls=true
 | [],i,D,h1,h2,h3,h4,hr=>by rw[iA];exact⟨hr,rfl,h3,h2,h4⟩
 | ⟨d,.q q,g,m⟩::l,i,⟨F,S,ps,hs,ls⟩,h1,h2,h3,h4,hr=>by
  simp only at h1 h2 h3 h4 hr;subst h2;subst h3;simp only[lL] at hr;have go:∀ (_:jY (hJ q F h) fun v=>(dE q=true→cL v v=true)∧lL l (cI d F v) h Q),wZ fns (⟨d,.q q,none,m⟩::l) i base ⟨F,S,[],[],ls⟩ fun D'=>Q D'.F∧D'.S=S∧D'.ps= []∧D'.hs= []∧fH h [] D'.ls=true:=by
   rintro⟨v,hv,hs,hr⟩;rw[mI];subst h1;refine⟨v,hv,aCR rfl rfl rfl ?_ hr⟩;show fH S.h [] (bL (dE q) (⟨q,F,v,i,m⟩::ls) ls)=true;cases hq:dE q with
   | false=>exact h4
   | true=>
    rw[aL,uN,aCg];show bL (nD v (hJ q F S.h)) _ _=true;rw[hv,tQ,hs hq,aL];exact h4
  cases g with
  | none=>exact go (by rw[if_pos (show eJ none F=true from rfl)] at hr;exact hr)
  | some g=>
   obtain⟨s,b⟩:=g;by_cases hw:eJ (some (s,b)) F=true
   ·rw[if_pos hw] at hr;obtain⟨n,D',e1,e2⟩:=go hr;refine⟨n,D',?_,e2⟩;have:qN ⟨d,.q q,some (s,b),m⟩ i base (ev fns n).call ⟨F,S,[],[],ls⟩=qN ⟨d,.q q,none,m⟩ i base (ev fns n).call ⟨F,S,[],[],ls⟩:=by
     show bL (eJ (some (s,b)) F) _ _=bL true _ _;rw[hw];rfl
    show aW (qN ⟨d,.q q,some (s,b),m⟩ i base (ev fns n).call ⟨F,S,[],[],ls⟩) _=_;rw[this];exact e1
   ·rw[if_neg hw] at hr;obtain⟨n,D',e1,e2⟩:=aCR (i:=i+1) (D:=⟨cI d F .undef,S,[],[],ls⟩) h1 rfl rfl h4 hr;refine⟨n,D',?_,e2⟩;have:qN ⟨d,.q q,some (s,b),m⟩ i base (ev fns n).call ⟨F,S,[],[],ls⟩=some ⟨cI d F .undef,S,[],[],ls⟩:=by
     show bL (eJ (some (s,b)) F) _ _=_;rw[show eJ (some (s,b)) F=false by simpa using hw];rfl
    show aW (qN ⟨d,.q q,some (s,b),m⟩ i base (ev fns n).call ⟨F,S,[],[],ls⟩) _=_;rw[this];exact e1
 | ⟨d,.a a,g,m⟩::l,i,D,h1,h2,h3,h4,hr=>by cases hr
 | ⟨d,.x a,g,m⟩::l,i,D,h1,h2,h3,h4,hr=>by cases hr
theorem tF{ops:List AO}{A:bR}{S:St}{Q:Out→bR→St→Prop}(h:lL ops A.F S.h fun F=>Q .normal ⟨F,A.inr⟩ ⟨S.h,S.nx+ops.length⟩):mA fns (.drw ops) A S Q:=by
 refine wS ?_;obtain⟨n,D',e1,e2,e3,e4,e5,e6⟩:=aCR (fns:=fns) (base:=S.nx) (i:=0) (D:=⟨A.F,⟨S.h,S.nx+ops.length⟩,[],[],[]⟩) rfl rfl rfl rfl h;refine⟨n,D',e1,?_,?_⟩
 ·rw[e5];exact e6
 ·rw[e4,cA,e3];exact e2
theorem aC0{F:Fr}{h:T AB}{Q:Fr→Prop}:lL [] F h Q↔Q F:=Iff.rfl
theorem aHi{d:Option Nat}{q:zM}{m:Nat}{l:List AO}{F:Fr}{h:T AB}{Q:Fr→Prop}:lL (⟨d,.q q,none,m⟩::l) F h Q↔jY (hJ q F h) fun v=>(dE q=true→cL v v=true)∧lL l (cI d F v) h Q:=by
 show(if eJ none F=true then _ else _)↔_;rw[if_pos (show eJ none F=true from rfl)]
theorem aHY{d:Option Nat}{q:zM}{s:Nat}{b:Bool}{m:Nat}{l:List AO}{F:Fr}{h:T AB}{Q:Fr→Prop}:lL (⟨d,.q q,some (s,b),m⟩::l) F h Q↔if isB (aD s F) b=true then lL (⟨d,.q q,none,m⟩::l) F h Q else lL l (cI d F .undef) h Q:=by
 show(if eJ (some (s,b)) F=true then _ else _)↔_;rw[show eJ (some (s,b)) F=isB (aD s F) b from rfl];split
 ·rw[aHi]
 ·rfl
theorem aLX:(true==true)=true:=rfl
theorem aMr:(false==false)=true:=rfl
theorem aK4:(true==false)=false:=rfl
theorem aK0:(false==true)=false:=rfl
theorem aBh(b:Bool):isB .undef b=false:=rfl
theorem yL(k:SlK)(x:cK)(a b c:Option cK):dE (.slc k x a b c)=false:=rfl
theorem pN(x:cK)(i:Nat):dE (.extract x i)=false:=rfl
theorem wN(c a b:cK):dE (.pick c a b)=false:=rfl
theorem yN(g:Bool)(o n:Nat)(x:cK):dE (.fld g o n x)=false:=rfl
theorem xE(op:UnOp)(x:cK):dE (.un op x)=false:=rfl
attribute [simp] aC0 aHi aHY aBh yL pN wN yN xE
def aKG(x:Option AV)(ld:Bool)(d:Option Nat)(l:List AO)(F:Fr)(h:T AB)(Q:Fr→Prop):Prop:=jY x fun v=>(ld=true→cL v v=true)∧lL l (cI d F v) h Q
theorem aDg{v:AV}{ld:Bool}{d:Option Nat}{l:List AO}{F:Fr}{h:T AB}{Q:Fr→Prop}:aKG (some v) ld d l F h Q↔(ld=true→cL v v=true)∧lL l (cI d F v) h Q:=by unfold aKG;rw[eF]
theorem aKF{d:Option Nat}{q:zM}{m:Nat}{l:List AO}{F:Fr}{h:T AB}{Q:Fr→Prop}:lL (⟨d,.q q,none,m⟩::l) F h Q↔aKG (hJ q F h) (dE q) d l F h Q:=aHi
def aLk(fns:T dB)(x:Option AV)(d:Option Nat)(l:List AO)(F:Fr)(S:St)(Q:Fr→St→Prop):Prop:=jY x fun v=>uG fns l (cI d F v) S Q
theorem aCK{v:AV}{d:Option Nat}{l:List AO}{F:Fr}{S:St}{Q:Fr→St→Prop}:aLk fns (some v) d l F S Q↔uG fns l (cI d F v) S Q:=by unfold aLk;rw[eF]
theorem aOc{d:Option Nat}{q:zM}{m:Nat}{l:List AO}{F:Fr}{S:St}{Q:Fr→St→Prop}:uG fns (⟨d,.q q,none,m⟩::l) F S Q↔aLk fns (hJ q F S.h) d l F S Q:=aHO
def bH(b:Nat)(S S':St):Prop:=S.nx≤S'.nx∧∀c,c<S.nx→c≠b→S'.h.get c=S.h.get c
theorem bH.refl(b:Nat)(S:St):bH b S S:=⟨Ag _,fun _ _ _=>rfl⟩
theorem bH.nx{b:Nat}{S S':St}(h:bH b S S')(k:Nat):bH b S ⟨S'.h,S'.nx+k⟩:=⟨Bb h.1 (Dc _ _),h.2⟩
theorem bH.put{b:Nat}{S S':St}(h:bH b S S')(x:Option AB):bH b S ⟨S'.h.set b x,S'.nx⟩:=⟨h.1,fun c hc hne=>by simp only;rw[T.get_set,if_neg hne];exact h.2 c hc hne⟩
theorem bH.trans{b:Nat}{S S' S'':St}(h:bH b S S')(h':bH b S' S''):bH b S S'':=⟨Bb h.1 h'.1,fun c hc hne=>(h'.2 c (Af hc h.1) hne).trans (h.2 c hc hne)⟩
theorem bH.same{b:Nat}{S0 S S':St}(h0:Same S0 S)(h:bH b S S')(hb:S0.nx≤b):Same S0 S':=⟨Bb h0.1 h.1,fun c hc=>(h.2 c (Af hc h0.1) (by omega)).trans (h0.2 c hc)⟩
theorem Same.nx(S:St)(k:Nat):Same S ⟨S.h,S.nx+k⟩:=⟨Dc _ _,fun _ _=>rfl⟩
theorem aA:type_of% (And.intro @aOc (And.intro @aFx (And.intro @aAw (And.intro @tZ (And.intro @aAW (And.intro @yS (And.intro @rN (And.intro @yT (And.intro @vC (And.intro @qZ (And.intro @yC (And.intro @vR (And.intro @aCB (And.intro @aC0 (And.intro @aKF (@aHY)))))))))))))))):=And.intro @aOc (And.intro @aFx (And.intro @aAw (And.intro @tZ (And.intro @aAW (And.intro @yS (And.intro @rN (And.intro @yT (And.intro @vC (And.intro @qZ (And.intro @yC (And.intro @vR (And.intro @aCB (And.intro @aC0 (And.intro @aKF (@aHY)))))))))))))))
theorem aB:type_of% (And.intro @aCK (And.intro @eF (And.intro @aHm (And.intro @aCx (And.intro @aFp (And.intro @aFg (And.intro @sB (And.intro @aDt (And.intro @aBm (And.intro @vI (And.intro @aEG (And.intro @aDC (And.intro @yD (And.intro @aEP (And.intro @fN (And.intro @aEr (And.intro @bQ (And.intro @dY (And.intro @aCW (And.intro @aE3 (And.intro @aEO (And.intro @aER (And.intro @aEL (And.intro @aFr (And.intro @aE0 (And.intro @aFs (And.intro @aB9 (And.intro @aFc (And.intro @aK (And.intro @aJ (And.intro @aAR (And.intro @vP (And.intro @aBl (And.intro @aBa (And.intro @qF (And.intro @jK (And.intro @yU (And.intro @vK (And.intro @aDg (And.intro @wL (And.intro @aBh (And.intro @aLX (And.intro @aMr (And.intro @aK4 (And.intro @aK0 (And.intro @aAQ (And.intro @yJ (And.intro @mF (And.intro @aAX (And.intro @gG (And.intro @yG (And.intro @yL (And.intro @pN (And.intro @wN (And.intro @yN (And.intro @xE (And.intro @fV (And.intro @aBj (And.intro @aDF (And.intro @uD (And.intro @zE (And.intro @Ar (And.intro @false_implies (And.intro @true_implies (And.intro @true_and (And.intro @and_true (And.intro @Al (And.intro @Int.cast_ofNat_Int (And.intro @Int.natCast_zero (And.intro @Int.natCast_one (And.intro (@aL (T AB)) (And.intro (@aR (T AB)) (And.intro (@aL AV) (And.intro (@aR AV) (And.intro (@Bf AV) (And.intro (@Bk AV) (And.intro (@Bt AV) (And.intro (@Bf Nat) (And.intro (@Bk Nat) (@Bt Nat)))))))))))))))))))))))))))))))))))))))))))))))))))))))))))))))))))))))))))))))):=And.intro @aCK (And.intro @eF (And.intro @aHm (And.intro @aCx (And.intro @aFp (And.intro @aFg (And.intro @sB (And.intro @aDt (And.intro @aBm (And.intro @vI (And.intro @aEG (And.intro @aDC (And.intro @yD (And.intro @aEP (And.intro @fN (And.intro @aEr (And.intro @bQ (And.intro @dY (And.intro @aCW (And.intro @aE3 (And.intro @aEO (And.intro @aER (And.intro @aEL (And.intro @aFr (And.intro @aE0 (And.intro @aFs (And.intro @aB9 (And.intro @aFc (And.intro @aK (And.intro @aJ (And.intro @aAR (And.intro @vP (And.intro @aBl (And.intro @aBa (And.intro @qF (And.intro @jK (And.intro @yU (And.intro @vK (And.intro @aDg (And.intro @wL (And.intro @aBh (And.intro @aLX (And.intro @aMr (And.intro @aK4 (And.intro @aK0 (And.intro @aAQ (And.intro @yJ (And.intro @mF (And.intro @aAX (And.intro @gG (And.intro @yG (And.intro @yL (And.intro @pN (And.intro @wN (And.intro @yN (And.intro @xE (And.intro @fV (And.intro @aBj (And.intro @aDF (And.intro @uD (And.intro @zE (And.intro @Ar (And.intro @false_implies (And.intro @true_implies (And.intro @true_and (And.intro @and_true (And.intro @Al (And.intro @Int.cast_ofNat_Int (And.intro @Int.natCast_zero (And.intro @Int.natCast_one (And.intro (@aL (T AB)) (And.intro (@aR (T AB)) (And.intro (@aL AV) (And.intro (@aR AV) (And.intro (@Bf AV) (And.intro (@Bk AV) (And.intro (@Bt AV) (And.intro (@Bf Nat) (And.intro (@Bk Nat) (@Bt Nat)))))))))))))))))))))))))))))))))))))))))))))))))))))))))))))))))))))))))))))))
theorem ex0(a:AV)(l:List AV):lC (.tup (a::l)) 0=some a:=rfl
theorem ex1(a b:AV)(l:List AV):lC (.tup (a::b::l)) 1=some b:=rfl
theorem aJR(e:oG){a b:Nat}(ha:a≤18446744073709551615)(hb:b≤18446744073709551615):eX .and e (.int .u64 (a:Int)) (.int .u64 (b:Int))=some (.int .u64 ((Nat.land a b:Nat):Int)):=by
 show cP .and .u64 (Int.ofNat a) .u64 (Int.ofNat b)=_;unfold cP;rw[show dP .and=false from rfl,aR,eG,aL];show bL (Nat.ble a 18446744073709551615) (bL (Nat.ble b 18446744073709551615) _ _) _=_;rw[Aj ha,Aj hb];rfl
theorem wT(e:oG)(j:IntKind){a n:Nat}(hn:n≤64):eX .shr e (.int .u64 (a:Int)) (.int j (n:Int))=some (.int .u64 ((a / 2 ^ n:Nat):Int)):=by
 show cP .shr .u64 (Int.ofNat a) j (Int.ofNat n)=_;unfold cP;rw[show dP .shr=true from rfl,aL];show rO .shr .u64 (Int.ofNat a) n=_;unfold rO;rw[show Nat.ble n IntKind.u64.bits=true from Aj hn,aL];show some (AV.int .u64 (Int.fdiv (a:Int) ((2 ^ n:Nat):Int)))=_;rw[Int.fdiv_eq_ediv_of_nonneg _ (Eh _)];rfl
theorem aD8(e:oG)(j:IntKind){a n:Nat}(hn:n≤64):eX .shl e (.int .u64 (a:Int)) (.int j (n:Int))=some (.int .u64 (IntKind.u64.wrap ((a * 2 ^ n:Nat):Int))):=by
 show cP .shl .u64 (Int.ofNat a) j (Int.ofNat n)=_;unfold cP;rw[show dP .shl=true from rfl,aL];show rO .shl .u64 (Int.ofNat a) n=_;unfold rO;rw[show Nat.ble n IntKind.u64.bits=true from Aj hn,aL];show some (AV.int .u64 (aF9 .u64 (Int.ofNat a) (Int.ofNat (2 ^ n))))=_;rw[zW];rfl
theorem aAD(n:Nat):IntKind.u64.wrap (n:Int)=((n % 2 ^ 64:Nat):Int):=by
 simp [IntKind.wrap,IntKind.signed,IntKind.bits]
end Go.Ev.Gl
