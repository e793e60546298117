import Derived.Test.YtkklchgmpejobaaDoorGl0
import Derived.Test.YtkklchgmpejobaaDoorIr0
import Derived.Test.YtkklchgmpejobaaDoorIr1
import Derived.Test.YtkklchgmpejobaaDoorIr2
import Derived.Test.YtkklchgmpejobaaDoorIr3
set_option maxHeartbeats 16000000
set_option linter.unusedSimpArgs false
set_option linter.unusedVariables false
namespace Go.Ev.Gl
structure Has(fns:T cR):Prop where
 f3:fns.get 3=some a3
 f6:fns.get 6=some a6
 f7:fns.get 7=some a7
 f8:fns.get 8=some a8
 f9:fns.get 9=some a9
 f10:fns.get 10=some a10
 f11:fns.get 11=some a11
 f12:fns.get 12=some a12
 f13:fns.get 13=some a13
 f14:fns.get 14=some a14
 f15:fns.get 15=some a15
 f22:fns.get 22=some a22
 f23:fns.get 23=some a23
 f24:fns.get 24=some a24
 f25:fns.get 25=some a25
 f26:fns.get 26=some a26
 f27:fns.get 27=some a27
 f28:fns.get 28=some a28
 f29:fns.get 29=some a29
 f30:fns.get 30=some a30
 f31:fns.get 31=some a31
 f39:fns.get 39=some a39
 f42:fns.get 42=some a42
 f43:fns.get 43=some a43
 f44:fns.get 44=some a44
 f45:fns.get 45=some a45
 f46:fns.get 46=some a46
 f47:fns.get 47=some a47
 f48:fns.get 48=some a48
 f49:fns.get 49=some a49
 f50:fns.get 50=some a50
 f51:fns.get 51=some a51
 f52:fns.get 52=some a52
 f53:fns.get 53=some a53
 f60:fns.get 60=some a60
 f61:fns.get 61=some a61
 f62:fns.get 62=some a62
 f63:fns.get 63=some a63
 f64:fns.get 64=some a64
 f65:fns.get 65=some a65
 f66:fns.get 66=some a66
 f67:fns.get 67=some a67
 f68:fns.get 68=some a68
 f69:fns.get 69=some a69
 f70:fns.get 70=some a70
 f71:fns.get 71=some a71
 f75:fns.get 75=some a75
 f76:fns.get 76=some a76
 f77:fns.get 77=some a77
 f78:fns.get 78=some a78
 f79:fns.get 79=some a79
 f80:fns.get 80=some a80
 f81:fns.get 81=some a81
 f82:fns.get 82=some a82
 f83:fns.get 83=some a83
 f84:fns.get 84=some a84
 f85:fns.get 85=some a85
 f86:fns.get 86=some a86
 f87:fns.get 87=some a87
 f88:fns.get 88=some a88
 f89:fns.get 89=some a89
 f90:fns.get 90=some a90
 f91:fns.get 91=some a91
 f92:fns.get 92=some a92
 f93:fns.get 93=some a93
 f94:fns.get 94=some a94
 f95:fns.get 95=some a95
 f96:fns.get 96=some a96
 f97:fns.get 97=some a97
 f98:fns.get 98=some a98
 f99:fns.get 99=some a99
 f100:fns.get 100=some a100
 f101:fns.get 101=some a101
 f102:fns.get 102=some a102
 f103:fns.get 103=some a103
 f104:fns.get 104=some a104
 f105:fns.get 105=some a105
 f106:fns.get 106=some a106
 f107:fns.get 107=some a107
 f108:fns.get 108=some a108
 f109:fns.get 109=some a109
 f110:fns.get 110=some a110
 f111:fns.get 111=some a111
 f112:fns.get 112=some a112
 f113:fns.get 113=some a113
variable {fns:T cR}
theorem repeatL_one{α:Type}(z:α):∀n,repeatL [z] n=List.replicate n z
 | 0=>rfl
 | n+1=>by rw[jI,repeatL_one z n,List.replicate_succ];rfl
theorem nK{t s bytes:Nat}{z:List AV}{l c:cC}{F:Fr}{id n:Nat}(hl:eG (l.val F)=some n)(hc:eG (c.val F)=some n)(h1:n≤room)(h2:bytes * n≤room):
  uP (.mkSlice t s bytes z l c) F id=some (.sl id 0 n n false,.cells (repeatL z n) false 0):=by
 show(aW (eG (l.val F)) fun l=>aW (eG (c.val F)) fun c=>bG (Nat.ble l c) (bG (Nat.ble c room) (bG (Nat.ble (bytes * c) room) (some (AV.sl id 0 l c false,AB.cells (repeatL z c) false 0)) none) none) none)=_;rw[hl,aO,hc,aO,Ak (Ah n),Ak h1,Ak h2];rfl
theorem iG(t size bytes:Nat)(s x:cC)(call:dY)(F:Fr)(S:St):zF (.app t size bytes s x) call F S=jH bytes size (s.val F) (x.val F) S:=rfl
theorem mS{t:Nat}{z:AV}{x:cC}{F:Fr}{id:Nat}{k:IntKind}{n:Int}(hx:x.val F= .int k n):uP (.bslice t 1 1 [z] [(0,x)]) F id=some (.sl id 0 1 1 false,.cells [.int k n] false 0):=by
 show(aW (fY (repeatL [z] 1) [(0 * 1,1,x.val F)]) fun cs=>some (AV.sl id 0 1 1 false,AB.cells cs false 0))=_;rw[hx];rfl
attribute [simp] iG
theorem aEI(e:mM){t d:Nat}(ht:t≤18446744073709551615)(hd:0<d):eB .quo e (.int .u64 ((t:Nat):Int)) (.int .u64 ((d:Nat):Int))=some (.int .u64 ((t / d:Nat):Int)):=by
 show cI .quo .u64 (Int.ofNat t) .u64 (Int.ofNat d)=_;unfold cI;rw[show dJ .quo=false from rfl,aT,dK,aM];show bG (Nat.beq d 0) none (some (AV.int .u64 (nat .u64 (t / d))))=_;have h0:Nat.beq d 0=false:=by rw[Cf];intro h;rw[Aq] at h;omega
 rw[h0,aT,nat_eq];congr 2;exact wrap_u64 (Ef _) (by have:=Nat.div_le_self t d;show((t / d:Nat):Int)≤_;omega)
theorem aET(e:mM){t d:Nat}(hd:0<d):eB .rem e (.int .u64 ((t:Nat):Int)) (.int .u64 ((d:Nat):Int))=some (.int .u64 ((t % d:Nat):Int)):=by
 show cI .rem .u64 (Int.ofNat t) .u64 (Int.ofNat d)=_;unfold cI;rw[show dJ .rem=false from rfl,aT,dK,aM];show bG (Nat.beq d 0) none (some (AV.int .u64 (.ofNat (t % d))))=_;have h0:Nat.beq d 0=false:=by rw[Cf];intro h;rw[Aq] at h;omega
 rw[h0,aT];rfl
def kB:List AO→Fr→T AB→(Fr→Prop)→Prop
 | [],F,_,Q=>Q F
 | ⟨d,.q q,g,_⟩::l,F,h,Q=>if dL g F=true then iY (gB q F h) fun v=>(dE q=true→bW v v=true)∧kB l (bY d F v) h Q else kB l (bY d F .undef) h Q
 | _::_,_,_,_=>False
theorem aB9{h:T AB}{base:Nat}{Q:Fr→Prop}:∀ {ops:List AO} {i:Nat} {D:DS},D.S.h=h→D.hs= []→D.ps= []→eO h [] D.ls=true→kB ops D.F h Q→
  vU fns ops i base D fun D'=>Q D'.F∧D'.S=D.S∧D'.ps= []∧D'.hs= []∧eO h [] D'.ls=true
 | [],i,D,h1,h2,h3,h4,hr=>by rw[jY];exact⟨hr,rfl,h3,h2,h4⟩
 | ⟨d,.q q,g,m⟩::l,i,⟨F,S,ps,hs,ls⟩,h1,h2,h3,h4,hr=>by
  simp only at h1 h2 h3 h4 hr;subst h2;subst h3;simp only[kB] at hr;have go:∀ (_:iY (gB q F h) fun v=>(dE q=true→bW v v=true)∧kB l (bY d F v) h Q),vU fns (⟨d,.q q,none,m⟩::l) i base ⟨F,S,[],[],ls⟩ fun D'=>Q D'.F∧D'.S=S∧D'.ps= []∧D'.hs= []∧eO h [] D'.ls=true:=by
   rintro⟨v,hv,hs,hr⟩;rw[lM];subst h1;refine⟨v,hv,aB9 rfl rfl rfl ?_ hr⟩;show eO S.h [] (bG (dE q) (⟨q,F,v,i,m⟩::ls) ls)=true;cases hq:dE q with
   | false=>exact h4
   | true=>
    rw[aM,lJ,aCs];show bG (mO v (gB q F S.h)) _ _=true;rw[hv,fV,hs hq,aM];exact h4
  cases g with
  | none=>exact go (by rw[if_pos (show dL none F=true from rfl)] at hr;exact hr)
  | some g=>
   obtain⟨s,b⟩:=g;by_cases hw:dL (some (s,b)) F=true
   ·rw[if_pos hw] at hr;obtain⟨n,D',e1,e2⟩:=go hr;refine⟨n,D',?_,e2⟩;have:qO ⟨d,.q q,some (s,b),m⟩ i base (ev fns n).call ⟨F,S,[],[],ls⟩=qO ⟨d,.q q,none,m⟩ i base (ev fns n).call ⟨F,S,[],[],ls⟩:=by
     show bG (dL (some (s,b)) F) _ _=bG true _ _;rw[hw];rfl
    show aW (qO ⟨d,.q q,some (s,b),m⟩ i base (ev fns n).call ⟨F,S,[],[],ls⟩) _=_;rw[this];exact e1
   ·rw[if_neg hw] at hr;obtain⟨n,D',e1,e2⟩:=aB9 (i:=i+1) (D:=⟨bY d F .undef,S,[],[],ls⟩) h1 rfl rfl h4 hr;refine⟨n,D',?_,e2⟩;have:qO ⟨d,.q q,some (s,b),m⟩ i base (ev fns n).call ⟨F,S,[],[],ls⟩=some ⟨bY d F .undef,S,[],[],ls⟩:=by
     show bG (dL (some (s,b)) F) _ _=_;rw[show dL (some (s,b)) F=false by simpa using hw];rfl
    show aW (qO ⟨d,.q q,some (s,b),m⟩ i base (ev fns n).call ⟨F,S,[],[],ls⟩) _=_;rw[this];exact e1
 | ⟨d,.a a,g,m⟩::l,i,D,h1,h2,h3,h4,hr=>by cases hr
 | ⟨d,.x a,g,m⟩::l,i,D,h1,h2,h3,h4,hr=>by cases hr
theorem sH{ops:List AO}{A:bK}{S:St}{Q:Out→bK→St→Prop}(h:kB ops A.F S.h fun F=>Q .normal ⟨F,A.inr⟩ ⟨S.h,S.nx+ops.length⟩):oL fns (.drw ops) A S Q:=by
 refine rJ ?_;obtain⟨n,D',e1,e2,e3,e4,e5,e6⟩:=aB9 (fns:=fns) (base:=S.nx) (i:=0) (D:=⟨A.F,⟨S.h,S.nx+ops.length⟩,[],[],[]⟩) rfl rfl rfl rfl h;refine⟨n,D',e1,?_,?_⟩
 ·rw[e5];exact e6
 ·rw[e4,bR,e3];exact e2
theorem aBW{F:Fr}{h:T AB}{Q:Fr→Prop}:kB [] F h Q↔Q F:=Iff.rfl
theorem aGo{d:Option Nat}{q:xO}{m:Nat}{l:List AO}{F:Fr}{h:T AB}{Q:Fr→Prop}:kB (⟨d,.q q,none,m⟩::l) F h Q↔iY (gB q F h) fun v=>(dE q=true→bW v v=true)∧kB l (bY d F v) h Q:=by
 show(if dL none F=true then _ else _)↔_;rw[if_pos (show dL none F=true from rfl)]
theorem aGy{d:Option Nat}{q:xO}{s:Nat}{b:Bool}{m:Nat}{l:List AO}{F:Fr}{h:T AB}{Q:Fr→Prop}:kB (⟨d,.q q,some (s,b),m⟩::l) F h Q↔if isB (aH s F) b=true then kB (⟨d,.q q,none,m⟩::l) F h Q else kB l (bY d F .undef) h Q:=by
 show(if dL (some (s,b)) F=true then _ else _)↔_;rw[show dL (some (s,b)) F=isB (aH s F) b from rfl];split
 ·rw[aGo]
 ·rfl
theorem aJA:(true==true)=true:=rfl
theorem aIZ:(false==false)=true:=rfl
theorem aIY:(true==false)=false:=rfl
theorem aIB:(false==true)=false:=rfl
theorem aAg(b:Bool):isB .undef b=false:=rfl
theorem xJ(k:SlK)(x:cC)(a b c:Option cC):dE (.slc k x a b c)=false:=rfl
theorem oF(x:cC)(i:Nat):dE (.extract x i)=false:=rfl
theorem tA(c a b:cC):dE (.pick c a b)=false:=rfl
theorem xK(g:Bool)(o n:Nat)(x:cC):dE (.fld g o n x)=false:=rfl
theorem aAb(op:UnOp)(x:cC):dE (.un op x)=false:=rfl
attribute [simp] aBW aGo aGy aAg xJ oF tA xK aAb
def aJd(x:Option AV)(ld:Bool)(d:Option Nat)(l:List AO)(F:Fr)(h:T AB)(Q:Fr→Prop):Prop:=iY x fun v=>(ld=true→bW v v=true)∧kB l (bY d F v) h Q
theorem aBO{v:AV}{ld:Bool}{d:Option Nat}{l:List AO}{F:Fr}{h:T AB}{Q:Fr→Prop}:aJd (some v) ld d l F h Q↔(ld=true→bW v v=true)∧kB l (bY d F v) h Q:=by unfold aJd;rw[dH]
theorem aID{d:Option Nat}{q:xO}{m:Nat}{l:List AO}{F:Fr}{h:T AB}{Q:Fr→Prop}:kB (⟨d,.q q,none,m⟩::l) F h Q↔aJd (gB q F h) (dE q) d l F h Q:=aGo
def aJU(fns:T cR)(x:Option AV)(d:Option Nat)(l:List AO)(F:Fr)(S:St)(Q:Fr→St→Prop):Prop:=iY x fun v=>qU fns l (bY d F v) S Q
theorem aBx{v:AV}{d:Option Nat}{l:List AO}{F:Fr}{S:St}{Q:Fr→St→Prop}:aJU fns (some v) d l F S Q↔qU fns l (bY d F v) S Q:=by unfold aJU;rw[dH]
theorem aLG{d:Option Nat}{q:xO}{m:Nat}{l:List AO}{F:Fr}{S:St}{Q:Fr→St→Prop}:qU fns (⟨d,.q q,none,m⟩::l) F S Q↔aJU fns (gB q F S.h) d l F S Q:=aGJ
def bB(b:Nat)(S S':St):Prop:=S.nx≤S'.nx∧∀c,c<S.nx→c≠b→S'.h.get c=S.h.get c
theorem bB.refl(b:Nat)(S:St):bB b S S:=⟨Ah _,fun _ _ _=>rfl⟩
theorem bB.nx{b:Nat}{S S':St}(h:bB b S S')(k:Nat):bB b S ⟨S'.h,S'.nx+k⟩:=⟨Ax h.1 (Er _ _),h.2⟩
theorem bB.put{b:Nat}{S S':St}(h:bB b S S')(x:Option AB):bB b S ⟨S'.h.set b x,S'.nx⟩:=⟨h.1,fun c hc hne=>by simp only;rw[T.get_set,if_neg hne];exact h.2 c hc hne⟩
theorem bB.trans{b:Nat}{S S' S'':St}(h:bB b S S')(h':bB b S' S''):bB b S S'':=⟨Ax h.1 h'.1,fun c hc hne=>(h'.2 c (Ae hc h.1) hne).trans (h.2 c hc hne)⟩
theorem bB.same{b:Nat}{S0 S S':St}(h0:Same S0 S)(h:bB b S S')(hb:S0.nx≤b):Same S0 S':=⟨Ax h0.1 h.1,fun c hc=>(h.2 c (Ae hc h0.1) (by omega)).trans (h0.2 c hc)⟩
theorem Same.nx(S:St)(k:Nat):Same S ⟨S.h,S.nx+k⟩:=⟨Er _ _,fun _ _=>rfl⟩
theorem aA:type_of% (And.intro @aLG (And.intro @aDW (And.intro @zC (And.intro @qS (And.intro @aAm (And.intro @wU (And.intro @pO (And.intro @wI (And.intro @uN (And.intro @pI (And.intro @wB (And.intro @tB (And.intro @aBB (And.intro @aBW (And.intro @aID (@aGy)))))))))))))))):=And.intro @aLG (And.intro @aDW (And.intro @zC (And.intro @qS (And.intro @aAm (And.intro @wU (And.intro @pO (And.intro @wI (And.intro @uN (And.intro @pI (And.intro @wB (And.intro @tB (And.intro @aBB (And.intro @aBW (And.intro @aID (@aGy)))))))))))))))
theorem aB:type_of% (And.intro @aBx (And.intro @dH (And.intro @aDP (And.intro @aCc (And.intro @aBn (And.intro @aF2 (And.intro @lV (And.intro @kH (And.intro @vI (And.intro @uF (And.intro @aDU (And.intro @aCq (And.intro @xA (And.intro @aEi (And.intro @fB (And.intro @aHa (And.intro @bN (And.intro @eF (And.intro @aCG (And.intro @aDy (And.intro @aDs (And.intro @aDN (And.intro @aDK (And.intro @aDv (And.intro @aEm (And.intro @aDO (And.intro @aBl (And.intro @aDz (And.intro @aI (And.intro @aO (And.intro @aAa (And.intro @uS (And.intro @aAw (And.intro @aAo (And.intro @lR (And.intro @gJ (And.intro @xL (And.intro @tH (And.intro @aBO (And.intro @uL (And.intro @aAg (And.intro @aJA (And.intro @aIZ (And.intro @aIY (And.intro @aIB (And.intro @uX (And.intro @rU (And.intro @gQ (And.intro @nJ (And.intro @eQ (And.intro @wE (And.intro @xJ (And.intro @oF (And.intro @tA (And.intro @xK (And.intro @aAb (And.intro @eE (And.intro @aAu (And.intro @aBT (And.intro @uY (And.intro @wY (And.intro @An (And.intro @false_implies (And.intro @true_implies (And.intro @true_and (And.intro @and_true (And.intro @Ag (And.intro @Int.cast_ofNat_Int (And.intro @Int.natCast_zero (And.intro @Int.natCast_one (And.intro (@aM (T AB)) (And.intro (@aT (T AB)) (And.intro (@aM AV) (And.intro (@aT AV) (And.intro (@Be AV) (And.intro (@Bd AV) (And.intro (@Cm AV) (And.intro (@Be Nat) (And.intro (@Bd Nat) (@Cm Nat)))))))))))))))))))))))))))))))))))))))))))))))))))))))))))))))))))))))))))))))):=And.intro @aBx (And.intro @dH (And.intro @aDP (And.intro @aCc (And.intro @aBn (And.intro @aF2 (And.intro @lV (And.intro @kH (And.intro @vI (And.intro @uF (And.intro @aDU (And.intro @aCq (And.intro @xA (And.intro @aEi (And.intro @fB (And.intro @aHa (And.intro @bN (And.intro @eF (And.intro @aCG (And.intro @aDy (And.intro @aDs (And.intro @aDN (And.intro @aDK (And.intro @aDv (And.intro @aEm (And.intro @aDO (And.intro @aBl (And.intro @aDz (And.intro @aI (And.intro @aO (And.intro @aAa (And.intro @uS (And.intro @aAw (And.intro @aAo (And.intro @lR (And.intro @gJ (And.intro @xL (And.intro @tH (And.intro @aBO (And.intro @uL (And.intro @aAg (And.intro @aJA (And.intro @aIZ (And.intro @aIY (And.intro @aIB (And.intro @uX (And.intro @rU (And.intro @gQ (And.intro @nJ (And.intro @eQ (And.intro @wE (And.intro @xJ (And.intro @oF (And.intro @tA (And.intro @xK (And.intro @aAb (And.intro @eE (And.intro @aAu (And.intro @aBT (And.intro @uY (And.intro @wY (And.intro @An (And.intro @false_implies (And.intro @true_implies (And.intro @true_and (And.intro @and_true (And.intro @Ag (And.intro @Int.cast_ofNat_Int (And.intro @Int.natCast_zero (And.intro @Int.natCast_one (And.intro (@aM (T AB)) (And.intro (@aT (T AB)) (And.intro (@aM AV) (And.intro (@aT AV) (And.intro (@Be AV) (And.intro (@Bd AV) (And.intro (@Cm AV) (And.intro (@Be Nat) (And.intro (@Bd Nat) (@Cm Nat)))))))))))))))))))))))))))))))))))))))))))))))))))))))))))))))))))))))))))))))
theorem ex0(a:AV)(l:List AV):jU (.tup (a::l)) 0=some a:=rfl
theorem ex1(a b:AV)(l:List AV):jU (.tup (a::b::l)) 1=some b:=rfl
theorem aH5(e:mM){a b:Nat}(ha:a≤18446744073709551615)(hb:b≤18446744073709551615):eB .and e (.int .u64 (a:Int)) (.int .u64 (b:Int))=some (.int .u64 ((Nat.land a b:Nat):Int)):=by
 show cI .and .u64 (Int.ofNat a) .u64 (Int.ofNat b)=_;unfold cI;rw[show dJ .and=false from rfl,aT,dK,aM];show bG (Nat.ble a 18446744073709551615) (bG (Nat.ble b 18446744073709551615) _ _) _=_;rw[Ak ha,Ak hb];rfl
theorem uV(e:mM)(j:IntKind){a n:Nat}(hn:n≤64):eB .shr e (.int .u64 (a:Int)) (.int j (n:Int))=some (.int .u64 ((a / 2 ^ n:Nat):Int)):=by
 show cI .shr .u64 (Int.ofNat a) j (Int.ofNat n)=_;unfold cI;rw[show dJ .shr=true from rfl,aM];show tV .shr .u64 (Int.ofNat a) n=_;unfold tV;rw[show Nat.ble n IntKind.u64.bits=true from Ak hn,aM];show some (AV.int .u64 (Int.fdiv (a:Int) ((2 ^ n:Nat):Int)))=_;rw[Int.fdiv_eq_ediv_of_nonneg _ (Ef _)];rfl
theorem aDp(e:mM)(j:IntKind){a n:Nat}(hn:n≤64):eB .shl e (.int .u64 (a:Int)) (.int j (n:Int))=some (.int .u64 (IntKind.u64.wrap ((a * 2 ^ n:Nat):Int))):=by
 show cI .shl .u64 (Int.ofNat a) j (Int.ofNat n)=_;unfold cI;rw[show dJ .shl=true from rfl,aM];show tV .shl .u64 (Int.ofNat a) n=_;unfold tV;rw[show Nat.ble n IntKind.u64.bits=true from Ak hn,aM];show some (AV.int .u64 (aFm .u64 (Int.ofNat a) (Int.ofNat (2 ^ n))))=_;rw[yA];rfl
theorem yE(n:Nat):IntKind.u64.wrap (n:Int)=((n % 2 ^ 64:Nat):Int):=by
 simp [IntKind.wrap,IntKind.signed,IntKind.bits]
end Go.Ev.Gl
