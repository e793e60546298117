import Derived.Test.YtdkehphobhnjoaaGl0
import Derived.Test.YtdkehphobhnjoaaIr0
import Derived.Test.YtdkehphobhnjoaaIr1
import Derived.Test.YtdkehphobhnjoaaIr2
import Derived.Test.YtdkehphobhnjoaaIr3
set_option maxHeartbeats 0
set_option linter.unusedSimpArgs false
set_option linter.unusedVariables false
namespace Go.Ev.Gl
structure Has(fns:T dU):Prop where
 f4:fns.get 4=some a4
 f6:fns.get 6=some a6
 f8:fns.get 8=some a8
 f11:fns.get 11=some a11
 f12:fns.get 12=some a12
 f13:fns.get 13=some a13
 f14:fns.get 14=some a14
 f15:fns.get 15=some a15
 f16:fns.get 16=some a16
 f17:fns.get 17=some a17
 f18:fns.get 18=some a18
 f22:fns.get 22=some a22
 f23:fns.get 23=some a23
 f24:fns.get 24=some a24
 f25:fns.get 25=some a25
 f26:fns.get 26=some a26
 f28:fns.get 28=some a28
 f29:fns.get 29=some a29
 f30:fns.get 30=some a30
 f31:fns.get 31=some a31
 f32:fns.get 32=some a32
 f33:fns.get 33=some a33
 f35:fns.get 35=some a35
 f36:fns.get 36=some a36
 f37:fns.get 37=some a37
 f38:fns.get 38=some a38
 f39:fns.get 39=some a39
 f40:fns.get 40=some a40
 f41:fns.get 41=some a41
 f42:fns.get 42=some a42
 f43:fns.get 43=some a43
 f46:fns.get 46=some a46
 f47:fns.get 47=some a47
 f48:fns.get 48=some a48
 f49:fns.get 49=some a49
 f50:fns.get 50=some a50
 f51:fns.get 51=some a51
 f52:fns.get 52=some a52
 f53:fns.get 53=some a53
 f54:fns.get 54=some a54
 f55:fns.get 55=some a55
 f56:fns.get 56=some a56
 f57:fns.get 57=some a57
 f58:fns.get 58=some a58
 f59:fns.get 59=some a59
 f60:fns.get 60=some a60
 f61:fns.get 61=some a61
 f62:fns.get 62=some a62
 f63:fns.get 63=some a63
 f64:fns.get 64=some a64
 f65:fns.get 65=some a65
 f66:fns.get 66=some a66
 f67:fns.get 67=some a67
 f68:fns.get 68=some a68
 f69:fns.get 69=some a69
 f70:fns.get 70=some a70
 f71:fns.get 71=some a71
 f72:fns.get 72=some a72
 f73:fns.get 73=some a73
 f74:fns.get 74=some a74
 f75:fns.get 75=some a75
 f76:fns.get 76=some a76
 f77:fns.get 77=some a77
 f78:fns.get 78=some a78
 f79:fns.get 79=some a79
 f80:fns.get 80=some a80
 f81:fns.get 81=some a81
 f82:fns.get 82=some a82
 f83:fns.get 83=some a83
 f84:fns.get 84=some a84
 f85:fns.get 85=some a85
 f86:fns.get 86=some a86
 f87:fns.get 87=some a87
 f88:fns.get 88=some a88
 f89:fns.get 89=some a89
 f90:fns.get 90=some a90
 f91:fns.get 91=some a91
 f92:fns.get 92=some a92
 f93:fns.get 93=some a93
 f94:fns.get 94=some a94
 f95:fns.get 95=some a95
 f96:fns.get 96=some a96
 f97:fns.get 97=some a97
 f98:fns.get 98=some a98
 f99:fns.get 99=some a99
 f100:fns.get 100=some a100
 f101:fns.get 101=some a101
 f102:fns.get 102=some a102
 f103:fns.get 103=some a103
variable {fns:T dU}
theorem repeatL_one{α:Type}(z:α):∀n,repeatL [z] n=List.replicate n z
 | 0=>rfl
 | n+1=>by rw[lP,repeatL_one z n,List.replicate_succ];rfl
theorem pG{t s bytes:Nat}{z:b6}{l c:cU}{F:Fr}{id n:Nat}(hl:fG (l.val F)=some n)(hc:fG (c.val F)=some n)(h1:n<=room)(h2:bytes * n<=room):
  sH (.cv t s bytes z l c) F id=some (.sl id 0 n n false,.cells (repeatL z n) false 0):=by
 show(bH (fG (l.val F)) fun l=>bH (fG (c.val F)) fun c=>cB (Nat.ble l c) (cB (Nat.ble c room) (cB (Nat.ble (bytes * c) room) (some (AV.sl id 0 l c false,AB.cells (repeatL z c) false 0)) none) none) none)=_;rw[hl,aN,hc,aN,Ak (Ag n),Ak h1,Ak h2];rfl
theorem fY(t size bytes:Nat)(s x:cU)(call:fK)(F:Fr)(S:St):evX (.app t size bytes s x) call F S=fN bytes size (s.val F) (x.val F) S:=rfl
theorem nT{t:Nat}{z:AV}{x:cU}{F:Fr}{id:Nat}{k:IntKind}{n:Int}(hx:x.val F= .int k n):sH (.ch t 1 1 [z] [(0,x)]) F id=some (.sl id 0 1 1 false,.cells [.int k n] false 0):=by
 show(bH (eZ (repeatL [z] 1) [(0 * 1,1,x.val F)]) fun cs=>some (AV.sl id 0 1 1 false,AB.cells cs false 0))=_;rw[hx];rfl
attribute [simp] fY
def mH:List AO->Fr->T AB->(Fr->Prop)->Prop
 | [],F,_,Q=>Q F
 | ⟨d,.q q,g,_⟩::l,F,h,Q=>if eT g F=true then lM (gT q F h) fun v=>(dR q=true->cT v v=true)/\mH l (cR d F v) h Q else mH l (cR d F .undef) h Q
 | _::_,_,_,_=>False
theorem aEg{h:T AB}{base:Nat}{Q:Fr->Prop}:∀ {ops:List AO} {i:Nat} {D:DS},D.S.h=h->D.hs= []->D.ps= []->gK h [] D.ls=true->mH ops D.F h Q->
  vW fns ops i base D fun D'=>Q D'.F/\D'.S=D.S/\D'.ps= []/\D'.hs= []/\gK h [] D'.ls=true
 | [],i,D,h1,h2,h3,h4,hr=>by rw[jB];exact⟨hr,rfl,h3,h2,h4⟩
 | ⟨d,.q q,g,m⟩::l,i,⟨F,S,ps,hs,ls⟩,h1,h2,h3,h4,hr=>by
  simp only at h1 h2 h3 h4 hr;subst h2;subst h3;simp only[mH] at hr;have go:∀ (_:lM (gT q F h) fun v=>(dR q=true->cT v v=true)/\mH l (cR d F v) h Q),vW fns (⟨d,.q q,none,m⟩::l) i base ⟨F,S,[],[],ls⟩ fun D'=>Q D'.F/\D'.S=S/\D'.ps= []/\D'.hs= []/\gK h [] D'.ls=true:=by
   rintro⟨v,hv,hs,hr⟩;rw[iE];subst h1;refine⟨v,hv,aEg rfl rfl rfl ?_ hr⟩;show gK S.h [] (cB (dR q) (⟨q,F,v,i,m⟩::ls) ls)=true;cases hq:dR q with
   | false=>exact h4
   | true=>
    rw[aO,nQ,aDv];show cB (mP v (gT q F S.h)) _ _=true;rw[hv,iU,hs hq,aO];exact h4
  cases g with
  | none=>exact go (by rw[if_pos (show eT none F=true from rfl)] at hr;exact hr)
  | some g=>
   have⟨s,b⟩:=g;by_cases hw:eT (some (s,b)) F=true
   ·rw[if_pos hw] at hr;have⟨n,D',e1,e2⟩:=go hr;refine⟨n,D',?_,e2⟩;have:pV ⟨d,.q q,some (s,b),m⟩ i base (ev fns n).call ⟨F,S,[],[],ls⟩=pV ⟨d,.q q,none,m⟩ i base (ev fns n).call ⟨F,S,[],[],ls⟩:=by
     show cB (eT (some (s,b)) F) _ _=cB true _ _;rw[hw];rfl
    show bH (pV ⟨d,.q q,some (s,b),m⟩ i base (ev fns n).call ⟨F,S,[],[],ls⟩) _=_;rw[this];exact e1
   ·rw[if_neg hw] at hr;obtain⟨n,D',e1,e2⟩:=aEg (i:=i+1) (D:=⟨cR d F .undef,S,[],[],ls⟩) h1 rfl rfl h4 hr;refine⟨n,D',?_,e2⟩;have:pV ⟨d,.q q,some (s,b),m⟩ i base (ev fns n).call ⟨F,S,[],[],ls⟩=some ⟨cR d F .undef,S,[],[],ls⟩:=by
     show cB (eT (some (s,b)) F) _ _=_;rw[show eT (some (s,b)) F=false by simpa using hw];rfl
    show bH (pV ⟨d,.q q,some (s,b),m⟩ i base (ev fns n).call ⟨F,S,[],[],ls⟩) _=_;rw[this];exact e1
 | ⟨d,.a a,g,m⟩::l,i,D,h1,h2,h3,h4,hr=>by cases hr
 | ⟨d,.x a,g,m⟩::l,i,D,h1,h2,h3,h4,hr=>by cases hr
theorem iJ{ops:List AO}{A:bS}{S:St}{Q:Out->bS->St->Prop}(h:mH ops A.F S.h fun F=>Q .normal ⟨F,A.inr⟩ ⟨S.h,S.nx+ops.length⟩):lU fns (.drw ops) A S Q:=by
 refine oO ?_;have⟨n,D',e1,e2,e3,e4,e5,e6⟩:=aEg (fns:=fns) (base:=S.nx) (i:=0) (D:=⟨A.F,⟨S.h,S.nx+ops.length⟩,[],[],[]⟩) rfl rfl rfl rfl h;refine⟨n,D',e1,?_,?_⟩
 ·rw[e5];exact e6
 ·rw[e4,bX,e3];exact e2
theorem aDm{F:Fr}{h:T AB}{Q:Fr->Prop}:mH [] F h Q↔Q F:=Iff.rfl
theorem aIn{d:Option Nat}{q:zH}{m:Nat}{l:List AO}{F:Fr}{h:T AB}{Q:Fr->Prop}:mH (⟨d,.q q,none,m⟩::l) F h Q↔lM (gT q F h) fun v=>(dR q=true->cT v v=true)/\mH l (cR d F v) h Q:=by
 show(if eT none F=true then _ else _)↔_;rw[if_pos (show eT none F=true from rfl)]
theorem aIK{d:Option Nat}{q:zH}{s:Nat}{b:Bool}{m:Nat}{l:List AO}{F:Fr}{h:T AB}{Q:Fr->Prop}:mH (⟨d,.q q,some (s,b),m⟩::l) F h Q↔if isB (aD s F) b=true then mH (⟨d,.q q,none,m⟩::l) F h Q else mH l (cR d F .undef) h Q:=by
 show(if eT (some (s,b)) F=true then _ else _)↔_;rw[show eT (some (s,b)) F=isB (aD s F) b from rfl];split
 ·rw[aIn]
 ·rfl
theorem aNe:(true==true)=true:=rfl
theorem aLB:(false==false)=true:=rfl
theorem aLC:(true==false)=false:=rfl
theorem aMa:(false==true)=false:=rfl
theorem aBs(b:Bool):isB .undef b=false:=rfl
theorem zR(k:SlK)(x:cU)(a b c:Option cU):dR (.slc k x a b c)=false:=rfl
theorem qT(x:cU)(i:Nat):dR (.extract x i)=false:=rfl
theorem wU(c a b:cU):dR (.pick c a b)=false:=rfl
theorem zK(g:Bool)(o n:Nat)(x:cU):dR (.fld g o n x)=false:=rfl
theorem aBN(op:UnOp)(x:cU):dR (.un op x)=false:=rfl
attribute [simp] aDm aIn aIK aBs zR qT wU zK aBN
def aMg(x:Option AV)(ld:Bool)(d:Option Nat)(l:List AO)(F:Fr)(h:T AB)(Q:Fr->Prop):Prop:=lM x fun v=>(ld=true->cT v v=true)/\mH l (cR d F v) h Q
theorem aDd{v:AV}{ld:Bool}{d:Option Nat}{l:List AO}{F:Fr}{h:T AB}{Q:Fr->Prop}:aMg (some v) ld d l F h Q↔(ld=true->cT v v=true)/\mH l (cR d F v) h Q:=by unfold aMg;rw[dK]
theorem aMT{d:Option Nat}{q:zH}{m:Nat}{l:List AO}{F:Fr}{h:T AB}{Q:Fr->Prop}:mH (⟨d,.q q,none,m⟩::l) F h Q↔aMg (gT q F h) (dR q) d l F h Q:=aIn
def aNc(fns:T dU)(x:Option AV)(d:Option Nat)(l:List AO)(F:Fr)(S:St)(Q:Fr->St->Prop):Prop:=lM x fun v=>tS fns l (cR d F v) S Q
theorem aDU{v:AV}{d:Option Nat}{l:List AO}{F:Fr}{S:St}{Q:Fr->St->Prop}:aNc fns (some v) d l F S Q↔tS fns l (cR d F v) S Q:=by unfold aNc;rw[dK]
theorem aO7{d:Option Nat}{q:zH}{m:Nat}{l:List AO}{F:Fr}{S:St}{Q:Fr->St->Prop}:tS fns (⟨d,.q q,none,m⟩::l) F S Q↔aNc fns (gT q F S.h) d l F S Q:=aIT
def cC(b:Nat)(S S':St):Prop:=S.nx<=S'.nx/\∀c,c<S.nx->c≠b->S'.h.get c=S.h.get c
theorem cC.refl(b:Nat)(S:St):cC b S S:=⟨Ag _,fun _ _ _=>rfl⟩
theorem cC.nx{b:Nat}{S S':St}(h:cC b S S')(k:Nat):cC b S ⟨S'.h,S'.nx+k⟩:=⟨Au h.1 (Cc _ _),h.2⟩
theorem cC.put{b:Nat}{S S':St}(h:cC b S S')(x:Option AB):cC b S ⟨S'.h.set b x,S'.nx⟩:=⟨h.1,fun c hc hne=>by simp only;rw[dd,if_neg hne];exact h.2 c hc hne⟩
theorem cC.trans{b:Nat}{S S' S'':St}(h:cC b S S')(h':cC b S' S''):cC b S S'':=⟨Au h.1 h'.1,fun c hc hne=>(h'.2 c (Ae hc h.1) hne).trans (h.2 c hc hne)⟩
theorem cC.same{b:Nat}{S0 S S':St}(h0:Same S0 S)(h:cC b S S')(hb:S0.nx<=b):Same S0 S':=⟨Au h0.1 h.1,fun c hc=>(h.2 c (Ae hc h0.1) ay).trans (h0.2 c hc)⟩
theorem Same.nx(S:St)(k:Nat):Same S ⟨S.h,S.nx+k⟩:=⟨Cc _ _,fun _ _=>rfl⟩
abbrev aC:=And.intro @aO7 (And.intro @aFU (And.intro @aAC (And.intro @tY (And.intro @aBU (And.intro @zB (And.intro @rZ (And.intro @zZ (And.intro @vM (And.intro @rO (And.intro @zM (And.intro @wL (And.intro @aC0 (And.intro @aDm (And.intro @aMT (@aIK)))))))))))))))
abbrev aB:=And.intro @aDU (And.intro @dK (And.intro @aFI (And.intro @aDJ (And.intro @aCJ (And.intro @aIj (And.intro @qB (And.intro @mE (And.intro @xC (And.intro @vZ (And.intro @aF2 (And.intro @aDu (And.intro @zG (And.intro @aAm (And.intro @fR (And.intro @aGx (And.intro @bP (And.intro @gP (And.intro @aD7 (And.intro @aFD (And.intro @aFY (And.intro @aF5 (And.intro @aF8 (And.intro @aF6 (And.intro @aFA (And.intro @aF9 (And.intro @aCD (And.intro @aFr (And.intro @aJ (And.intro @aN (And.intro @aBo (And.intro @wJ (And.intro @aBv (And.intro @aBe (And.intro @oE (And.intro @jI (And.intro @zI (And.intro @vT (And.intro @aDd (And.intro @vR (And.intro @aBs (And.intro @aNe (And.intro @aLB (And.intro @aLC (And.intro @aMa (And.intro @xE (And.intro @uA (And.intro @lR (And.intro @pT (And.intro @gQ (And.intro @zN (And.intro @zR (And.intro @qT (And.intro @wU (And.intro @zK (And.intro @aBN (And.intro @eM (And.intro @aBP (And.intro @aDy (And.intro @mR (And.intro @aAa (And.intro @Be (And.intro @false_implies (And.intro @true_implies (And.intro @true_and (And.intro @and_true (And.intro @Ah (And.intro @Int.cast_ofNat_Int (And.intro @Int.natCast_zero (And.intro @Int.natCast_one (And.intro (@aO (T AB)) (And.intro (@aT (T AB)) (And.intro (@aO AV) (And.intro (@aT AV) (And.intro (@Bq AV) (And.intro (@Ck AV) (And.intro (@Bi AV) (And.intro (@Bq Nat) (And.intro (@Ck Nat) (@Bi Nat)))))))))))))))))))))))))))))))))))))))))))))))))))))))))))))))))))))))))))))))
theorem ff{p:Prop}(h:p:=by simp only[↓aC,aB,Nat.reduceEqDiff,↓reduceIte,Nat.reduceAdd,AV.bool.injEq,decide_eq_true_eq,decide_eq_false_iff_not];omega):p:=h
theorem fj{p r:Prop}(b:r)(h:r->p:=by intro b;simp only[↓aC,aB,Nat.reduceEqDiff,↓reduceIte,Nat.reduceAdd,b]):p:=h b
theorem fl{p r s:Prop}(b:r)(c:s)(h:r->s->p:=by intro b c;simp only[↓aC,aB,Nat.reduceEqDiff,↓reduceIte,Nat.reduceAdd,b,c]):p:=h b c
theorem fm{p r:Prop}(b:r)(h:r->p:=by intro b;simp only[↓aC,aB,Nat.reduceEqDiff,↓reduceIte,b]):p:=h b
theorem fo{p r s:Prop}(b:r)(c:s)(h:r->s->p:=by intro b c;simp only[↓aC,aB,Nat.reduceEqDiff,↓reduceIte,b,c]):p:=h b c
theorem dz{p q r:Prop}(b:r)(a:q)(h:r->q->p:=by intro b a;simp only[↓aC,aB,Nat.reduceEqDiff,↓reduceIte,Nat.reduceAdd,b];exact a):p:=h b a
theorem d6{p q r s:Prop}(b:r)(c:s)(a:q)(h:r->s->q->p:=by intro b c a;simp only[↓aC,aB,Nat.reduceEqDiff,↓reduceIte,Nat.reduceAdd,b,c];exact a):p:=h b c a
theorem d7{p q r s t:Prop}(b:r)(c:s)(d:t)(a:q)(h:r->s->t->q->p:=by intro b c d a;simp only[↓aC,aB,Nat.reduceEqDiff,↓reduceIte,Nat.reduceAdd,b,c,d];exact a):p:=h b c d a
theorem d8{p q r s t u:Prop}(b:r)(c:s)(d:t)(e:u)(a:q)(h:r->s->t->u->q->p:=by intro b c d e a;simp only[↓aC,aB,Nat.reduceEqDiff,↓reduceIte,Nat.reduceAdd,b,c,d,e];exact a):p:=h b c d e a
theorem d9{p q r s t u v:Prop}(b:r)(c:s)(d:t)(e:u)(f:v)(a:q)(h:r->s->t->u->v->q->p:=by intro b c d e f a;simp only[↓aC,aB,Nat.reduceEqDiff,↓reduceIte,Nat.reduceAdd,b,c,d,e,f];exact a):p:=h b c d e f a
theorem ec{p q r s t u v w:Prop}(b:r)(c:s)(d:t)(e:u)(f:v)(g:w)(a:q)(h:r->s->t->u->v->w->q->p:=by intro b c d e f g a;simp only[↓aC,aB,Nat.reduceEqDiff,↓reduceIte,Nat.reduceAdd,b,c,d,e,f,g];exact a):p:=h b c d e f g a
theorem ed{p q r s t u v w x:Prop}(b:r)(c:s)(d:t)(e:u)(f:v)(g:w)(i:x)(a:q)(h:r->s->t->u->v->w->x->q->p:=by intro b c d e f g i a;simp only[↓aC,aB,Nat.reduceEqDiff,↓reduceIte,Nat.reduceAdd,b,c,d,e,f,g,i];exact a):p:=h b c d e f g i a
theorem eg{p q r s t u v w x y:Prop}(b:r)(c:s)(d:t)(e:u)(f:v)(g:w)(i:x)(j:y)(a:q)(h:r->s->t->u->v->w->x->y->q->p:=by intro b c d e f g i j a;simp only[↓aC,aB,Nat.reduceEqDiff,↓reduceIte,Nat.reduceAdd,b,c,d,e,f,g,i,j];exact a):p:=h b c d e f g i j a
theorem eh{p q r:Prop}(b:r)(a:q)(h:r->q->p:=by intro b a;simp only[↓aC,aB,Nat.reduceEqDiff,↓reduceIte,b];exact a):p:=h b a
theorem eu{p q r s:Prop}(b:r)(c:s)(a:q)(h:r->s->q->p:=by intro b c a;simp only[↓aC,aB,Nat.reduceEqDiff,↓reduceIte,b,c];exact a):p:=h b c a
theorem ew{p q r s t:Prop}(b:r)(c:s)(d:t)(a:q)(h:r->s->t->q->p:=by intro b c d a;simp only[↓aC,aB,Nat.reduceEqDiff,↓reduceIte,b,c,d];exact a):p:=h b c d a
theorem ez{p q r s t u:Prop}(b:r)(c:s)(d:t)(e:u)(a:q)(h:r->s->t->u->q->p:=by intro b c d e a;simp only[↓aC,aB,Nat.reduceEqDiff,↓reduceIte,b,c,d,e];exact a):p:=h b c d e a
theorem fa{p q r s t u v:Prop}(b:r)(c:s)(d:t)(e:u)(f:v)(a:q)(h:r->s->t->u->v->q->p:=by intro b c d e f a;simp only[↓aC,aB,Nat.reduceEqDiff,↓reduceIte,b,c,d,e,f];exact a):p:=h b c d e f a
theorem aj{p q:Prop}(a:q)(h:q->p:=by intro a;simp only[↓aC,aB,Nat.reduceEqDiff,↓reduceIte];exact a):p:=h a
theorem ak{p:Prop}(h:p:=by simp only[↓aC,aB,Nat.reduceEqDiff,↓reduceIte]):p:=h
theorem am{p q:Prop}(a:q)(h:q->p:=by intro a;simp only[↓aC,aB,Nat.reduceEqDiff,↓reduceIte,a]):p:=h a
theorem aq{p q:Prop}(a:q)(h:q->p:=by intro a;simp only[↓aC,aB,Nat.reduceEqDiff,↓reduceIte,Nat.reduceAdd];exact a):p:=h a
theorem ar{p:Prop}(h:p:=by simp only[↓aC,aB,Nat.reduceEqDiff,↓reduceIte,Nat.reduceAdd]):p:=h
theorem ax{p q:Prop}(a:q)(h:q->p:=by intro a;simp only[↓aC,aB,Nat.reduceEqDiff,↓reduceIte,Nat.reduceAdd,a]):p:=h a
theorem ex0(a:AV)(l:b6):jU (.tup (a::l)) 0=some a:=rfl
theorem ex1(a b:AV)(l:b6):jU (.tup (a::b::l)) 1=some b:=rfl
theorem aKs(e:qF){a b:Nat}(ha:a<=18446744073709551615)(hb:b<=18446744073709551615):iL .and e (.int .u64 (a:Int)) (.int .u64 (b:Int))=some (.int .u64 ((Nat.land a b:Nat):Int)):=by
 show dJ .and .u64 (Int.ofNat a) .u64 (Int.ofNat b)=_;unfold dJ;rw[show fI .and=false from rfl,aT,fT,aO];show cB (Nat.ble a 18446744073709551615) (cB (Nat.ble b 18446744073709551615) _ _) _=_;rw[Ak ha,Ak hb];rfl
theorem xX(e:qF)(j:IntKind){a n:Nat}(hn:n<=64):iL .shr e (.int .u64 (a:Int)) (.int j (n:Int))=some (.int .u64 ((a / 2 ^ n:Nat):Int)):=by
 show dJ .shr .u64 (Int.ofNat a) j (Int.ofNat n)=_;unfold dJ;rw[show fI .shr=true from rfl,aO];show rR .shr .u64 (Int.ofNat a) n=_;unfold rR;rw[show Nat.ble n IntKind.u64.bits=true from Ak hn,aO];show some (AV.int .u64 (Int.fdiv (a:Int) ((2 ^ n:Nat):Int)))=_;rw[Int.fdiv_eq_ediv_of_nonneg _ (Int.natCast_nonneg _)];rfl
theorem aFf(e:qF)(j:IntKind){a n:Nat}(hn:n<=64):iL .shl e (.int .u64 (a:Int)) (.int j (n:Int))=some (.int .u64 (IntKind.u64.wrap ((a * 2 ^ n:Nat):Int))):=by
 show dJ .shl .u64 (Int.ofNat a) j (Int.ofNat n)=_;unfold dJ;rw[show fI .shl=true from rfl,aO];show rR .shl .u64 (Int.ofNat a) n=_;unfold rR;rw[show Nat.ble n IntKind.u64.bits=true from Ak hn,aO];show some (AV.int .u64 (aGE .u64 (Int.ofNat a) (Int.ofNat (2 ^ n))))=_;rw[aAN];rfl
theorem aAv(n:Nat):IntKind.u64.wrap (n:Int)=((n % 2 ^ 64:Nat):Int):=by
 simp [IntKind.wrap,IntKind.signed,IntKind.bits]
end Go.Ev.Gl
