import Derived.Test.YtdkehphobhnjoaaGl0
import Derived.Test.YtdkehphobhnjoaaIr0
import Derived.Test.YtdkehphobhnjoaaIr1
import Derived.Test.YtdkehphobhnjoaaIr2
import Derived.Test.YtdkehphobhnjoaaIr3
set_option maxHeartbeats 16000000
set_option linter.unusedSimpArgs false
set_option linter.unusedVariables false
namespace Go.Ev.Gl
structure Has(fns:T dE):Prop where
 f3:fns.get 3=some a3
 f6:fns.get 6=some a6
 f7:fns.get 7=some a7
 f8:fns.get 8=some a8
 f9:fns.get 9=some a9
 f10:fns.get 10=some a10
 f11:fns.get 11=some a11
 f12:fns.get 12=some a12
 f13:fns.get 13=some a13
 f22:fns.get 22=some a22
 f23:fns.get 23=some a23
 f24:fns.get 24=some a24
 f25:fns.get 25=some a25
 f26:fns.get 26=some a26
 f27:fns.get 27=some a27
 f28:fns.get 28=some a28
 f29:fns.get 29=some a29
 f30:fns.get 30=some a30
 f31:fns.get 31=some a31
 f32:fns.get 32=some a32
 f33:fns.get 33=some a33
 f34:fns.get 34=some a34
 f35:fns.get 35=some a35
 f36:fns.get 36=some a36
 f37:fns.get 37=some a37
 f38:fns.get 38=some a38
 f39:fns.get 39=some a39
 f40:fns.get 40=some a40
 f41:fns.get 41=some a41
 f43:fns.get 43=some a43
 f46:fns.get 46=some a46
 f47:fns.get 47=some a47
 f48:fns.get 48=some a48
 f49:fns.get 49=some a49
 f50:fns.get 50=some a50
 f51:fns.get 51=some a51
 f52:fns.get 52=some a52
 f53:fns.get 53=some a53
 f54:fns.get 54=some a54
 f55:fns.get 55=some a55
 f56:fns.get 56=some a56
 f57:fns.get 57=some a57
 f58:fns.get 58=some a58
 f59:fns.get 59=some a59
 f60:fns.get 60=some a60
 f61:fns.get 61=some a61
 f64:fns.get 64=some a64
 f65:fns.get 65=some a65
 f66:fns.get 66=some a66
 f67:fns.get 67=some a67
 f68:fns.get 68=some a68
 f69:fns.get 69=some a69
 f70:fns.get 70=some a70
 f71:fns.get 71=some a71
 f72:fns.get 72=some a72
 f73:fns.get 73=some a73
 f74:fns.get 74=some a74
 f75:fns.get 75=some a75
 f76:fns.get 76=some a76
 f79:fns.get 79=some a79
 f80:fns.get 80=some a80
 f81:fns.get 81=some a81
 f82:fns.get 82=some a82
 f83:fns.get 83=some a83
 f84:fns.get 84=some a84
 f88:fns.get 88=some a88
 f89:fns.get 89=some a89
 f90:fns.get 90=some a90
 f91:fns.get 91=some a91
 f92:fns.get 92=some a92
 f93:fns.get 93=some a93
 f94:fns.get 94=some a94
 f95:fns.get 95=some a95
 f96:fns.get 96=some a96
 f97:fns.get 97=some a97
 f98:fns.get 98=some a98
 f99:fns.get 99=some a99
 f100:fns.get 100=some a100
 f101:fns.get 101=some a101
 f102:fns.get 102=some a102
 f103:fns.get 103=some a103
variable {fns:T dE}
theorem repeatL_one{α:Type}(z:α):∀n,repeatL [z] n=List.replicate n z
 | 0=>rfl
 | n+1=>by rw[jE,repeatL_one z n,List.replicate_succ];rfl
theorem mI{t s bytes:Nat}{z:List AV}{l c:cJ}{F:Fr}{id n:Nat}(hl:eR (l.val F)=some n)(hc:eR (c.val F)=some n)(h1:n≤room)(h2:bytes * n≤room):
  vG (.mkSlice t s bytes z l c) F id=some (.sl id 0 n n false,.cells (repeatL z n) false 0):=by
 show(aZ (eR (l.val F)) fun l=>aZ (eR (c.val F)) fun c=>bL (Nat.ble l c) (bL (Nat.ble c room) (bL (Nat.ble (bytes * c) room) (some (AV.sl id 0 l c false,AB.cells (repeatL z c) false 0)) none) none) none)=_;rw[hl,aT,hc,aT,Am (Ah n),Am h1,Am h2];rfl
theorem mL(t size bytes:Nat)(s x:cJ)(call:dZ)(F:Fr)(S:St):evX (.app t size bytes s x) call F S=iN bytes size (s.val F) (x.val F) S:=rfl
theorem aA9{t:Nat}{z:AV}{x:cJ}{F:Fr}{id:Nat}{k:IntKind}{n:Int}(hx:x.val F= .int k n):vG (.bslice t 1 1 [z] [(0,x)]) F id=some (.sl id 0 1 1 false,.cells [.int k n] false 0):=by
 show(aZ (gH (repeatL [z] 1) [(0 * 1,1,x.val F)]) fun cs=>some (AV.sl id 0 1 1 false,AB.cells cs false 0))=_;rw[hx];rfl
attribute [simp] mL
def jR:List AO→Fr→T AB→(Fr→Prop)→Prop
 | [],F,_,Q=>Q F
 | ⟨d,.q q,g,_⟩::l,F,h,Q=>if dS g F=true then jD (gS q F h) fun v=>(dL q=true→cB v v=true)∧jR l (cD d F v) h Q else jR l (cD d F .undef) h Q
 | _::_,_,_,_=>False
theorem aCy{h:T AB}{base:Nat}{Q:Fr→Prop}:∀ {ops:List AO} {i:Nat} {D:DS},D.S.h=h→D.hs= []→D.ps= []→gI h [] D.ls=true→jR ops D.F h Q→
  yO fns ops i base D fun D'=>Q D'.F∧D'.S=D.S∧D'.ps= []∧D'.hs= []∧gI h [] D'.ls=true
 | [],i,D,h1,h2,h3,h4,hr=>by rw[oO];exact⟨hr,rfl,h3,h2,h4⟩
 | ⟨d,.q q,g,m⟩::l,i,⟨F,S,ps,hs,ls⟩,h1,h2,h3,h4,hr=>by
  simp only at h1 h2 h3 h4 hr;subst h2;subst h3;simp only[jR] at hr;have go:∀ (_:jD (gS q F h) fun v=>(dL q=true→cB v v=true)∧jR l (cD d F v) h Q),yO fns (⟨d,.q q,none,m⟩::l) i base ⟨F,S,[],[],ls⟩ fun D'=>Q D'.F∧D'.S=S∧D'.ps= []∧D'.hs= []∧gI h [] D'.ls=true:=by
   rintro⟨v,hv,hs,hr⟩;rw[mF];subst h1;refine⟨v,hv,aCy rfl rfl rfl ?_ hr⟩;show gI S.h [] (bL (dL q) (⟨q,F,v,i,m⟩::ls) ls)=true;cases hq:dL q with
   | false=>exact h4
   | true=>
    rw[aQ,lC,aBO];show bL (oK v (gS q F S.h)) _ _=true;rw[hv,fY,hs hq,aQ];exact h4
  cases g with
  | none=>exact go (by rw[if_pos (show dS none F=true from rfl)] at hr;exact hr)
  | some g=>
   obtain⟨s,b⟩:=g;by_cases hw:dS (some (s,b)) F=true
   ·rw[if_pos hw] at hr;obtain⟨n,D',e1,e2⟩:=go hr;refine⟨n,D',?_,e2⟩;have:sJ ⟨d,.q q,some (s,b),m⟩ i base (ev fns n).call ⟨F,S,[],[],ls⟩=sJ ⟨d,.q q,none,m⟩ i base (ev fns n).call ⟨F,S,[],[],ls⟩:=by
     show bL (dS (some (s,b)) F) _ _=bL true _ _;rw[hw];rfl
    show aZ (sJ ⟨d,.q q,some (s,b),m⟩ i base (ev fns n).call ⟨F,S,[],[],ls⟩) _=_;rw[this];exact e1
   ·rw[if_neg hw] at hr;obtain⟨n,D',e1,e2⟩:=aCy (i:=i+1) (D:=⟨cD d F .undef,S,[],[],ls⟩) h1 rfl rfl h4 hr;refine⟨n,D',?_,e2⟩;have:sJ ⟨d,.q q,some (s,b),m⟩ i base (ev fns n).call ⟨F,S,[],[],ls⟩=some ⟨cD d F .undef,S,[],[],ls⟩:=by
     show bL (dS (some (s,b)) F) _ _=_;rw[show dS (some (s,b)) F=false by simpa using hw];rfl
    show aZ (sJ ⟨d,.q q,some (s,b),m⟩ i base (ev fns n).call ⟨F,S,[],[],ls⟩) _=_;rw[this];exact e1
 | ⟨d,.a a,g,m⟩::l,i,D,h1,h2,h3,h4,hr=>by cases hr
 | ⟨d,.x a,g,m⟩::l,i,D,h1,h2,h3,h4,hr=>by cases hr
theorem gJ{ops:List AO}{A:bH}{S:St}{Q:Out→bH→St→Prop}(h:jR ops A.F S.h fun F=>Q .normal ⟨F,A.inr⟩ ⟨S.h,S.nx+ops.length⟩):mA fns (.drw ops) A S Q:=by
 refine qX ?_;obtain⟨n,D',e1,e2,e3,e4,e5,e6⟩:=aCy (fns:=fns) (base:=S.nx) (i:=0) (D:=⟨A.F,⟨S.h,S.nx+ops.length⟩,[],[],[]⟩) rfl rfl rfl rfl h;refine⟨n,D',e1,?_,?_⟩
 ·rw[e5];exact e6
 ·rw[e4,cK,e3];exact e2
theorem aBF{F:Fr}{h:T AB}{Q:Fr→Prop}:jR [] F h Q↔Q F:=Iff.rfl
theorem aGe{d:Option Nat}{q:wJ}{m:Nat}{l:List AO}{F:Fr}{h:T AB}{Q:Fr→Prop}:jR (⟨d,.q q,none,m⟩::l) F h Q↔jD (gS q F h) fun v=>(dL q=true→cB v v=true)∧jR l (cD d F v) h Q:=by
 show(if dS none F=true then _ else _)↔_;rw[if_pos (show dS none F=true from rfl)]
theorem aGz{d:Option Nat}{q:wJ}{s:Nat}{b:Bool}{m:Nat}{l:List AO}{F:Fr}{h:T AB}{Q:Fr→Prop}:jR (⟨d,.q q,some (s,b),m⟩::l) F h Q↔if isB (aD s F) b=true then jR (⟨d,.q q,none,m⟩::l) F h Q else jR l (cD d F .undef) h Q:=by
 show(if dS (some (s,b)) F=true then _ else _)↔_;rw[show dS (some (s,b)) F=isB (aD s F) b from rfl];split
 ·rw[aGe]
 ·rfl
theorem aKo:(true==true)=true:=rfl
theorem aJb:(false==false)=true:=rfl
theorem aJc:(true==false)=false:=rfl
theorem aJC:(false==true)=false:=rfl
theorem zF(b:Bool):isB .undef b=false:=rfl
theorem wT(k:SlK)(x:cJ)(a b c:Option cJ):dL (.slc k x a b c)=false:=rfl
theorem nU(x:cJ)(i:Nat):dL (.extract x i)=false:=rfl
theorem tY(c a b:cJ):dL (.pick c a b)=false:=rfl
theorem wN(g:Bool)(o n:Nat)(x:cJ):dL (.fld g o n x)=false:=rfl
theorem aAc(op:UnOp)(x:cJ):dL (.un op x)=false:=rfl
attribute [simp] aBF aGe aGz zF wT nU tY wN aAc
def aJG(x:Option AV)(ld:Bool)(d:Option Nat)(l:List AO)(F:Fr)(h:T AB)(Q:Fr→Prop):Prop:=jD x fun v=>(ld=true→cB v v=true)∧jR l (cD d F v) h Q
theorem aBx{v:AV}{ld:Bool}{d:Option Nat}{l:List AO}{F:Fr}{h:T AB}{Q:Fr→Prop}:aJG (some v) ld d l F h Q↔(ld=true→cB v v=true)∧jR l (cD d F v) h Q:=by unfold aJG;rw[eO]
theorem aJ7{d:Option Nat}{q:wJ}{m:Nat}{l:List AO}{F:Fr}{h:T AB}{Q:Fr→Prop}:jR (⟨d,.q q,none,m⟩::l) F h Q↔aJG (gS q F h) (dL q) d l F h Q:=aGe
def aKl(fns:T dE)(x:Option AV)(d:Option Nat)(l:List AO)(F:Fr)(S:St)(Q:Fr→St→Prop):Prop:=jD x fun v=>qL fns l (cD d F v) S Q
theorem aCd{v:AV}{d:Option Nat}{l:List AO}{F:Fr}{S:St}{Q:Fr→St→Prop}:aKl fns (some v) d l F S Q↔qL fns l (cD d F v) S Q:=by unfold aKl;rw[eO]
theorem aL3{d:Option Nat}{q:wJ}{m:Nat}{l:List AO}{F:Fr}{S:St}{Q:Fr→St→Prop}:qL fns (⟨d,.q q,none,m⟩::l) F S Q↔aKl fns (gS q F S.h) d l F S Q:=aGF
def bQ(b:Nat)(S S':St):Prop:=S.nx≤S'.nx∧∀c,c<S.nx→c≠b→S'.h.get c=S.h.get c
theorem bQ.refl(b:Nat)(S:St):bQ b S S:=⟨Ah _,fun _ _ _=>rfl⟩
theorem bQ.nx{b:Nat}{S S':St}(h:bQ b S S')(k:Nat):bQ b S ⟨S'.h,S'.nx+k⟩:=⟨Ay h.1 (Cd _ _),h.2⟩
theorem bQ.put{b:Nat}{S S':St}(h:bQ b S S')(x:Option AB):bQ b S ⟨S'.h.set b x,S'.nx⟩:=⟨h.1,fun c hc hne=>by simp only;rw[T.get_set,if_neg hne];exact h.2 c hc hne⟩
theorem bQ.trans{b:Nat}{S S' S'':St}(h:bQ b S S')(h':bQ b S' S''):bQ b S S'':=⟨Ay h.1 h'.1,fun c hc hne=>(h'.2 c (Ae hc h.1) hne).trans (h.2 c hc hne)⟩
theorem bQ.same{b:Nat}{S0 S S':St}(h0:Same S0 S)(h:bQ b S S')(hb:S0.nx≤b):Same S0 S':=⟨Ay h0.1 h.1,fun c hc=>(h.2 c (Ae hc h0.1) (by omega)).trans (h0.2 c hc)⟩
theorem Same.nx(S:St)(k:Nat):Same S ⟨S.h,S.nx+k⟩:=⟨Cd _ _,fun _ _=>rfl⟩
theorem aC:type_of% (And.intro @aL3 (And.intro @aD1 (And.intro @xV (And.intro @qQ (And.intro @aAi (And.intro @wD (And.intro @pA (And.intro @xB (And.intro @sR (And.intro @oU (And.intro @wO (And.intro @tT (And.intro @aBl (And.intro @aBF (And.intro @aJ7 (@aGz)))))))))))))))):=And.intro @aL3 (And.intro @aD1 (And.intro @xV (And.intro @qQ (And.intro @aAi (And.intro @wD (And.intro @pA (And.intro @xB (And.intro @sR (And.intro @oU (And.intro @wO (And.intro @tT (And.intro @aBl (And.intro @aBF (And.intro @aJ7 (@aGz)))))))))))))))
theorem aB:type_of% (And.intro @aCd (And.intro @eO (And.intro @aDT (And.intro @aB3 (And.intro @aBa (And.intro @aGc (And.intro @mZ (And.intro @kI (And.intro @uI (And.intro @tL (And.intro @aEc (And.intro @aBM (And.intro @wH (And.intro @aAY (And.intro @lA (And.intro @aJq (And.intro @dR (And.intro @pS (And.intro @aCq (And.intro @aDQ (And.intro @aD8 (And.intro @aEf (And.intro @aEi (And.intro @aEg (And.intro @aDO (And.intro @aEk (And.intro @aA4 (And.intro @aDE (And.intro @aE (And.intro @aT (And.intro @zA (And.intro @tO (And.intro @zI (And.intro @yU (And.intro @lI (And.intro @gR (And.intro @wK (And.intro @tI (And.intro @aBx (And.intro @tD (And.intro @zF (And.intro @aKo (And.intro @aJb (And.intro @aJc (And.intro @aJC (And.intro @uK (And.intro @qT (And.intro @jH (And.intro @mW (And.intro @eX (And.intro @wP (And.intro @wT (And.intro @nU (And.intro @tY (And.intro @wN (And.intro @aAc (And.intro @dJ (And.intro @aAd (And.intro @aBT (And.intro @mM (And.intro @xC (And.intro @Ar (And.intro @false_implies (And.intro @true_implies (And.intro @true_and (And.intro @and_true (And.intro @Ag (And.intro @Int.cast_ofNat_Int (And.intro @Int.natCast_zero (And.intro @Int.natCast_one (And.intro (@aQ (T AB)) (And.intro (@aV (T AB)) (And.intro (@aQ AV) (And.intro (@aV AV) (And.intro (@Cm AV) (And.intro (@Cz AV) (And.intro (@Bs AV) (And.intro (@Cm Nat) (And.intro (@Cz Nat) (@Bs Nat)))))))))))))))))))))))))))))))))))))))))))))))))))))))))))))))))))))))))))))))):=And.intro @aCd (And.intro @eO (And.intro @aDT (And.intro @aB3 (And.intro @aBa (And.intro @aGc (And.intro @mZ (And.intro @kI (And.intro @uI (And.intro @tL (And.intro @aEc (And.intro @aBM (And.intro @wH (And.intro @aAY (And.intro @lA (And.intro @aJq (And.intro @dR (And.intro @pS (And.intro @aCq (And.intro @aDQ (And.intro @aD8 (And.intro @aEf (And.intro @aEi (And.intro @aEg (And.intro @aDO (And.intro @aEk (And.intro @aA4 (And.intro @aDE (And.intro @aE (And.intro @aT (And.intro @zA (And.intro @tO (And.intro @zI (And.intro @yU (And.intro @lI (And.intro @gR (And.intro @wK (And.intro @tI (And.intro @aBx (And.intro @tD (And.intro @zF (And.intro @aKo (And.intro @aJb (And.intro @aJc (And.intro @aJC (And.intro @uK (And.intro @qT (And.intro @jH (And.intro @mW (And.intro @eX (And.intro @wP (And.intro @wT (And.intro @nU (And.intro @tY (And.intro @wN (And.intro @aAc (And.intro @dJ (And.intro @aAd (And.intro @aBT (And.intro @mM (And.intro @xC (And.intro @Ar (And.intro @false_implies (And.intro @true_implies (And.intro @true_and (And.intro @and_true (And.intro @Ag (And.intro @Int.cast_ofNat_Int (And.intro @Int.natCast_zero (And.intro @Int.natCast_one (And.intro (@aQ (T AB)) (And.intro (@aV (T AB)) (And.intro (@aQ AV) (And.intro (@aV AV) (And.intro (@Cm AV) (And.intro (@Cz AV) (And.intro (@Bs AV) (And.intro (@Cm Nat) (And.intro (@Cz Nat) (@Bs Nat)))))))))))))))))))))))))))))))))))))))))))))))))))))))))))))))))))))))))))))))
theorem ex0(a:AV)(l:List AV):gL (.tup (a::l)) 0=some a:=rfl
theorem ex1(a b:AV)(l:List AV):gL (.tup (a::b::l)) 1=some b:=rfl
theorem ex2(a b c:AV)(l:List AV):gL (.tup (a::b::c::l)) 2=some c:=rfl
theorem aH8(e:nZ){a b:Nat}(ha:a≤18446744073709551615)(hb:b≤18446744073709551615):gO .and e (.int .u64 (a:Int)) (.int .u64 (b:Int))=some (.int .u64 ((Nat.land a b:Nat):Int)):=by
 show dD .and .u64 (Int.ofNat a) .u64 (Int.ofNat b)=_;unfold dD;rw[show eI .and=false from rfl,aV,eH,aQ];show bL (Nat.ble a 18446744073709551615) (bL (Nat.ble b 18446744073709551615) _ _) _=_;rw[Am ha,Am hb];rfl
theorem vA(e:nZ)(j:IntKind){a n:Nat}(hn:n≤64):gO .shr e (.int .u64 (a:Int)) (.int j (n:Int))=some (.int .u64 ((a / 2 ^ n:Nat):Int)):=by
 show dD .shr .u64 (Int.ofNat a) j (Int.ofNat n)=_;unfold dD;rw[show eI .shr=true from rfl,aQ];show sO .shr .u64 (Int.ofNat a) n=_;unfold sO;rw[show Nat.ble n IntKind.u64.bits=true from Am hn,aQ];show some (AV.int .u64 (Int.fdiv (a:Int) ((2 ^ n:Nat):Int)))=_;rw[Int.fdiv_eq_ediv_of_nonneg _ (Fd _)];rfl
theorem aDo(e:nZ)(j:IntKind){a n:Nat}(hn:n≤64):gO .shl e (.int .u64 (a:Int)) (.int j (n:Int))=some (.int .u64 (IntKind.u64.wrap ((a * 2 ^ n:Nat):Int))):=by
 show dD .shl .u64 (Int.ofNat a) j (Int.ofNat n)=_;unfold dD;rw[show eI .shl=true from rfl,aQ];show sO .shl .u64 (Int.ofNat a) n=_;unfold sO;rw[show Nat.ble n IntKind.u64.bits=true from Am hn,aQ];show some (AV.int .u64 (aEJ .u64 (Int.ofNat a) (Int.ofNat (2 ^ n))))=_;rw[xZ];rfl
theorem xS(n:Nat):IntKind.u64.wrap (n:Int)=((n % 2 ^ 64:Nat):Int):=by
 simp [IntKind.wrap,IntKind.signed,IntKind.bits]
end Go.Ev.Gl
