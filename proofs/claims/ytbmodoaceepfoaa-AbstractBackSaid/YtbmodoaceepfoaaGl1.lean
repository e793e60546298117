import Derived.Test.YtbmodoaceepfoaaGl0
import Derived.Test.YtbmodoaceepfoaaIr0
import Derived.Test.YtbmodoaceepfoaaIr1
import Derived.Test.YtbmodoaceepfoaaIr2
import Derived.Test.YtbmodoaceepfoaaIr3
set_option linter.all false
set_option maxHeartbeats 0
namespace Go.Ev.Gl
variable {t x r u v w:Prop}{F:Fr}{S d:St}{b:Nat}
structure Has(fns:T eY):Prop where
 f4:fns.get 4=some a4
 f6:fns.get 6=some a6
 f7:fns.get 7=some a7
 f9:fns.get 9=some a9
 f12:fns.get 12=some a12
 f14:fns.get 14=some a14
 f15:fns.get 15=some a15
 f16:fns.get 16=some a16
 f17:fns.get 17=some a17
 f18:fns.get 18=some a18
 f19:fns.get 19=some a19
 f20:fns.get 20=some a20
 f23:fns.get 23=some a23
 f24:fns.get 24=some a24
 f25:fns.get 25=some a25
 f26:fns.get 26=some a26
 f27:fns.get 27=some a27
 f29:fns.get 29=some a29
 f31:fns.get 31=some a31
 f32:fns.get 32=some a32
 f33:fns.get 33=some a33
 f36:fns.get 36=some a36
 f37:fns.get 37=some a37
 f38:fns.get 38=some a38
 f39:fns.get 39=some a39
 f40:fns.get 40=some a40
 f41:fns.get 41=some a41
 f42:fns.get 42=some a42
 f43:fns.get 43=some a43
 f44:fns.get 44=some a44
 f45:fns.get 45=some a45
 f46:fns.get 46=some a46
 f47:fns.get 47=some a47
 f48:fns.get 48=some a48
 f49:fns.get 49=some a49
 f50:fns.get 50=some a50
 f51:fns.get 51=some a51
 f52:fns.get 52=some a52
 f53:fns.get 53=some a53
 f54:fns.get 54=some a54
 f55:fns.get 55=some a55
 f57:fns.get 57=some a57
 f58:fns.get 58=some a58
 f59:fns.get 59=some a59
 f60:fns.get 60=some a60
 f61:fns.get 61=some a61
 f62:fns.get 62=some a62
 f63:fns.get 63=some a63
 f64:fns.get 64=some a64
 f65:fns.get 65=some a65
 f66:fns.get 66=some a66
 f67:fns.get 67=some a67
 f71:fns.get 71=some a71
 f72:fns.get 72=some a72
 f73:fns.get 73=some a73
 f74:fns.get 74=some a74
 f75:fns.get 75=some a75
 f76:fns.get 76=some a76
 f77:fns.get 77=some a77
 f78:fns.get 78=some a78
 f79:fns.get 79=some a79
 f80:fns.get 80=some a80
 f81:fns.get 81=some a81
 f82:fns.get 82=some a82
 f83:fns.get 83=some a83
 f84:fns.get 84=some a84
 f85:fns.get 85=some a85
 f86:fns.get 86=some a86
 f87:fns.get 87=some a87
 f88:fns.get 88=some a88
 f89:fns.get 89=some a89
 f90:fns.get 90=some a90
 f91:fns.get 91=some a91
 f92:fns.get 92=some a92
 f93:fns.get 93=some a93
 f94:fns.get 94=some a94
 f95:fns.get 95=some a95
 f96:fns.get 96=some a96
 f97:fns.get 97=some a97
 f98:fns.get 98=some a98
 f99:fns.get 99=some a99
 f100:fns.get 100=some a100
 f101:fns.get 101=some a101
variable {fns:T eY}
theorem repeatL_one{a:Type}(z:a):∀n,repeatL [z] n=List.replicate n z
 | 0=>rfl
 | n+1=>by rw[mG,repeatL_one z n,List.replicate_succ];rfl
def pU{t s bytes:Nat}{z:cd}{l c:cT}{id n:Nat}(a:gN (l.val F)=some n)(b:gN (c.val F)=some n)(d:n<=room)(e:bytes * n<=room):
  uH (.du t s bytes z l c) F id=some (.sl id 0 n n false,.cells (repeatL z n) false 0):=by
 show(bG (gN (l.val F)) fun l=>bG (gN (c.val F)) fun c=>cC (Nat.ble l c) (cC (Nat.ble c room) (cC (Nat.ble (bytes * c) room) (some (AV.sl id 0 l c false,AB.cells (repeatL z c) false 0)) none) none) none)=_;rw[a,aH,b,aH,Ak (Af n),Ak d,Ak e];rfl
def fK(t size bytes:Nat)(s x:cT)(call:fX)(F:Fr)(S:St):evX (.app t size bytes s x) call F S=gG bytes size (s.val F) (x.val F) S:=rfl
def jS{t:Nat}{z:AV}{x:cT}{id:Nat}{k:IntKind}{n:Int}(a:x.val F= .int k n):uH (.dd t 1 1 [z] [(0,x)]) F id=some (.sl id 0 1 1 false,.cells [.int k n] false 0):=by
 show(bG (eI (repeatL [z] 1) [(0 * 1,1,x.val F)]) fun cs=>some (AV.sl id 0 1 1 false,AB.cells cs false 0))=_;rw[a];rfl
attribute [simp] fK
def pK:List AO->Fr->T AB->(Fr->Prop)->Prop
 | [],F,_,Q=>Q F
 | ⟨d,.q q,g,_⟩::l,F,h,Q=>if fT g F=true then mR (gO q F h) fun v=>(eE q=true->cO v v=true)/\pK l (cU d F v) h Q else pK l (cU d F .undef) h Q
 | _::_,_,_,_=>False
theorem aFj{h:T AB}{base:Nat}{Q:Fr->Prop}:∀ {p:List AO} {i:Nat} {D:DS},D.S.h=h->D.hs= []->D.ps= []->iB h [] D.ls=true->pK p D.F h Q->
  wpd fns p i base D fun e=>Q e.F/\e.S=D.S/\e.ps= []/\e.hs= []/\iB h [] e.ls=true
 | [],i,D,j,k,o,f,c=>by rw[iC];exact⟨c,rfl,o,k,f⟩
 | ⟨d,.q q,g,m⟩::l,i,⟨F,S,ps,w,ls⟩,j,k,o,f,c=>by
  simp only at j k o f c;subst k;subst o;simp only[pK] at c;have go:∀ (_:mR (gO q F h) fun v=>(eE q=true->cO v v=true)/\pK l (cU d F v) h Q),wpd fns (⟨d,.q q,none,m⟩::l) i base ⟨F,S,[],[],ls⟩ fun e=>Q e.F/\e.S=S/\e.ps= []/\e.hs= []/\iB h [] e.ls=true:=by
   rintro⟨v,x,w,c⟩;rw[iW];subst j;refine⟨v,x,aFj rfl rfl rfl ?_ c⟩;show iB S.h [] (cC (eE q) (⟨q,F,v,i,m⟩::ls) ls)=true;cases y:eE q with
   | false=>exact f
   | true=>
    rw[aN,pD,aEo];show cC (oY v (gO q F S.h)) _ _=true;rw[x,kO,w y,aN];exact f
  cases g with
  | none=>exact go (by rw[if_pos (show fT none F=true from rfl)] at c;exact c)
  | some g=>
   have⟨s,b⟩:=g;by_cases r:fT (some (s,b)) F=true
   .rw[if_pos r] at c;have⟨n,e,t,u⟩:=go c;refine⟨n,e,?_,u⟩;have:tV ⟨d,.q q,some (s,b),m⟩ i base (ev fns n).call ⟨F,S,[],[],ls⟩=tV ⟨d,.q q,none,m⟩ i base (ev fns n).call ⟨F,S,[],[],ls⟩:=by
     show cC (fT (some (s,b)) F) _ _=cC true _ _;rw[r];rfl
    show bG (tV ⟨d,.q q,some (s,b),m⟩ i base (ev fns n).call ⟨F,S,[],[],ls⟩) _=_;rw[this];exact t
   .rw[if_neg r] at c;obtain⟨n,e,t,u⟩:=aFj (i:=i+1) (D:=⟨cU d F .undef,S,[],[],ls⟩) j rfl rfl f c;refine⟨n,e,?_,u⟩;have:tV ⟨d,.q q,some (s,b),m⟩ i base (ev fns n).call ⟨F,S,[],[],ls⟩=some ⟨cU d F .undef,S,[],[],ls⟩:=by
     show cC (fT (some (s,b)) F) _ _=_;rw[show fT (some (s,b)) F=false by simpa using r];rfl
    show bG (tV ⟨d,.q q,some (s,b),m⟩ i base (ev fns n).call ⟨F,S,[],[],ls⟩) _=_;rw[this];exact t
 | ⟨d,.a a,g,m⟩::l,i,D,j,k,o,f,c=>by cases c
 | ⟨d,.x a,g,m⟩::l,i,D,j,k,o,f,c=>by cases c
def jK{a:List AO}{A:bO}{Q:Out->bO->St->Prop}(h:pK a A.F S.h fun F=>Q .normal ⟨F,A.inr⟩ ⟨S.h,S.nx+a.length⟩):jP fns (.drw a) A S Q:=by
 apply qZ;have⟨n,b,c,d,e,f,g,j⟩:=aFj (fns:=fns) (base:=S.nx) (i:=0) (D:=⟨A.F,⟨S.h,S.nx+a.length⟩,[],[],[]⟩) rfl rfl rfl rfl h;refine⟨n,b,c,?_,?_⟩
 .rw[g];exact j
 .rw[f,bL,e];exact d
def aEg{F:Fr}{h:T AB}{Q:Fr->Prop}:pK [] F h Q↔Q F:=Iff.rfl
def aI9{d:Option Nat}{q:QOp}{m:Nat}{l:List AO}{h:T AB}{Q:Fr->Prop}:pK (⟨d,.q q,none,m⟩::l) F h Q↔mR (gO q F h) fun v=>(eE q=true->cO v v=true)/\pK l (cU d F v) h Q:=by
 show(if fT none F=true then _ else _)↔_;rw[if_pos (show fT none F=true from rfl)]
def aJt{d:Option Nat}{q:QOp}{s:Nat}{b:Bool}{m:Nat}{l:List AO}{F:Fr}{h:T AB}{Q:Fr->Prop}:pK (⟨d,.q q,some (s,b),m⟩::l) F h Q↔if isB (aC s F) b=true then pK (⟨d,.q q,none,m⟩::l) F h Q else pK l (cU d F .undef) h Q:=by
 show(if fT (some (s,b)) F=true then _ else _)↔_;rw[show fT (some (s,b)) F=isB (aC s F) b from rfl];split
 .rw[aI9]
 .rfl
def aOu:(true==true)=true:=rfl
def aMC:(false==false)=true:=rfl
def aMD:(true==false)=false:=rfl
def aNi:(false==true)=false:=rfl
def aB5(b:Bool):isB .undef b=false:=rfl
def aAX(k:SlK)(x:cT)(a b c:Option cT):eE (.slc k x a b c)=false:=rfl
def sQ(x:cT)(i:Nat):eE (.extract x i)=false:=rfl
def zA(c a b:cT):eE (.pick c a b)=false:=rfl
def aAP(g:Bool)(o n:Nat)(x:cT):eE (.fld g o n x)=false:=rfl
def aCv(op:UnOp)(x:cT):eE (.un op x)=false:=rfl
attribute [simp] aEg aI9 aJt aB5 aAX sQ zA aAP aCv
def aNp(x:Option AV)(ld:Bool)(d:Option Nat)(l:List AO)(F:Fr)(h:T AB)(Q:Fr->Prop):Prop:=mR x fun v=>(ld=true->cO v v=true)/\pK l (cU d F v) h Q
def aD6{v:AV}{ld:Bool}{d:Option Nat}{l:List AO}{F:Fr}{h:T AB}{Q:Fr->Prop}:aNp (some v) ld d l F h Q↔(ld=true->cO v v=true)/\pK l (cU d F v) h Q:=by unfold aNp;rw[dH]
def aN8{d:Option Nat}{q:QOp}{m:Nat}{l:List AO}{F:Fr}{h:T AB}{Q:Fr->Prop}:pK (⟨d,.q q,none,m⟩::l) F h Q↔aNp (gO q F h) (eE q) d l F h Q:=aI9
def aOs(fns:T eY)(x:Option AV)(d:Option Nat)(l:List AO)(F:Fr)(S:St)(Q:Fr->St->Prop):Prop:=mR x fun v=>vT fns l (cU d F v) S Q
def aES{v:AV}{d:Option Nat}{l:List AO}{F:Fr}{S:St}{Q:Fr->St->Prop}:aOs fns (some v) d l F S Q↔vT fns l (cU d F v) S Q:=by unfold aOs;rw[dH]
def aQy{d:Option Nat}{q:QOp}{m:Nat}{l:List AO}{F:Fr}{S:St}{Q:Fr->St->Prop}:vT fns (⟨d,.q q,none,m⟩::l) F S Q↔aOs fns (gO q F S.h) d l F S Q:=aJF
def cD(b:Nat)(S a:St):Prop:=S.nx<=a.nx/\∀c,c<S.nx->c≠b->a.h.get c=S.h.get c
def cD.refl(b:Nat)(S:St):cD b S S:=⟨Af _,fun _ _ _=>rfl⟩
def cD.nx{a:St}(h:cD b S a)(k:Nat):cD b S ⟨a.h,a.nx+k⟩:=⟨Av h.1 (Bq _ _),h.2⟩
def cD.put(h:cD b S d)(x:Option AB):cD b S ⟨d.h.set b x,d.nx⟩:=⟨h.1,fun c e a=>by simp only;rw[ef,if_neg a];exact h.2 c e a⟩
def cD.trans{S'':St}(h:cD b S d)(h':cD b d S''):cD b S S'':=⟨Av h.1 h'.1,fun c e a=>(h'.2 c (Ae e h.1) a).trans (h.2 c e a)⟩
def cD.same{S0 S':St}(a:Same S0 S)(h:cD b S S')(e:S0.nx<=b):Same S0 S':=⟨Av a.1 h.1,fun c d=>(h.2 c (Ae d a.1) au).trans (a.2 c d)⟩
def Same.nx(S:St)(k:Nat):Same S ⟨S.h,S.nx+k⟩:=⟨Bq _ _,fun _ _=>rfl⟩
abbrev aF:=And.intro @aQy (And.intro @aGS (And.intro @aBr (And.intro @vY (And.intro @aCC (And.intro @aAD (And.intro @uA (And.intro @aA4 (And.intro @yA (And.intro @tR (And.intro @aAS (And.intro @yV (And.intro @aDS (And.intro @aEg (And.intro @aN8 (@aJt)))))))))))))))
abbrev aE:=And.intro @aES (And.intro @dH (And.intro @aGL (And.intro @aEH (And.intro @aDA (And.intro @aI3 (And.intro @vB (And.intro @mQ (And.intro @zH (And.intro @yO (And.intro @aGZ (And.intro @aEm (And.intro @aAH (And.intro @aDq (And.intro @fE (And.intro @aCM (And.intro @bH (And.intro @fC (And.intro @aE7 (And.intro @aGI (And.intro @aGW (And.intro @aG4 (And.intro @aG7 (And.intro @aG5 (And.intro @aGG (And.intro @aG9 (And.intro @aDv (And.intro @aGv (And.intro @aJ (And.intro @aH (And.intro @aB1 (And.intro @yS (And.intro @aCa (And.intro @aBW (And.intro @nR (And.intro @jQ (And.intro @aAL (And.intro @yJ (And.intro @aD6 (And.intro @yG (And.intro @aB5 (And.intro @aOu (And.intro @aMC (And.intro @aMD (And.intro @aNi (And.intro @zJ (And.intro @vZ (And.intro @oR (And.intro @rG (And.intro @iO (And.intro @aAT (And.intro @aAX (And.intro @sQ (And.intro @zA (And.intro @aAP (And.intro @aCv (And.intro @eM (And.intro @zY (And.intro @aEr (And.intro @mE (And.intro @aA5 (And.intro @Be (And.intro @false_implies (And.intro @true_implies (And.intro @true_and (And.intro @and_true (And.intro @Ah (And.intro @Int.cast_ofNat_Int (And.intro @Int.natCast_zero (And.intro @Int.natCast_one (And.intro (@aN (T AB)) (And.intro (@aU (T AB)) (And.intro (@aN AV) (And.intro (@aU AV) (And.intro (@Bw AV) (And.intro (@Cf AV) (And.intro (@Bu AV) (And.intro (@Bw Nat) (And.intro (@Cf Nat) (@Bu Nat)))))))))))))))))))))))))))))))))))))))))))))))))))))))))))))))))))))))))))))))
def io{p:Prop}(h:p:=by simp only[↓aF,aE,Nat.reduceEqDiff,↓reduceIte,Nat.reduceAdd,AV.bool.injEq,decide_eq_true_eq,decide_eq_false_iff_not];omega):p:=h
def iz{p:Prop}(b:r)(h:r->p:=by intro b;simp only[↓aF,aE,Nat.reduceEqDiff,↓reduceIte,Nat.reduceAdd,b]):p:=h b
def i9{p s:Prop}(b:r)(c:s)(h:r->s->p:=by intro b c;simp only[↓aF,aE,Nat.reduceEqDiff,↓reduceIte,Nat.reduceAdd,b,c]):p:=h b c
def ja{p:Prop}(b:r)(h:r->p:=by intro b;simp only[↓aF,aE,Nat.reduceEqDiff,↓reduceIte,b]):p:=h b
def jc{p s:Prop}(b:r)(c:s)(h:r->s->p:=by intro b c;simp only[↓aF,aE,Nat.reduceEqDiff,↓reduceIte,b,c]):p:=h b c
def fl{p q:Prop}(b:r)(a:q)(h:r->q->p:=by intro b a;simp only[↓aF,aE,Nat.reduceEqDiff,↓reduceIte,Nat.reduceAdd,b];exact a):p:=h b a
def fo{p q s:Prop}(b:r)(c:s)(a:q)(h:r->s->q->p:=by intro b c a;simp only[↓aF,aE,Nat.reduceEqDiff,↓reduceIte,Nat.reduceAdd,b,c];exact a):p:=h b c a
def ft{p q s:Prop}(b:r)(c:s)(d:t)(a:q)(h:r->s->t->q->p:=by intro b c d a;simp only[↓aF,aE,Nat.reduceEqDiff,↓reduceIte,Nat.reduceAdd,b,c,d];exact a):p:=h b c d a
def fu{p q s:Prop}(b:r)(c:s)(d:t)(e:u)(a:q)(h:r->s->t->u->q->p:=by intro b c d e a;simp only[↓aF,aE,Nat.reduceEqDiff,↓reduceIte,Nat.reduceAdd,b,c,d,e];exact a):p:=h b c d e a
def fx{p q s:Prop}(b:r)(c:s)(d:t)(e:u)(f:v)(a:q)(h:r->s->t->u->v->q->p:=by intro b c d e f a;simp only[↓aF,aE,Nat.reduceEqDiff,↓reduceIte,Nat.reduceAdd,b,c,d,e,f];exact a):p:=h b c d e f a
def gh{p q s:Prop}(b:r)(c:s)(d:t)(e:u)(f:v)(g:w)(a:q)(h:r->s->t->u->v->w->q->p:=by intro b c d e f g a;simp only[↓aF,aE,Nat.reduceEqDiff,↓reduceIte,Nat.reduceAdd,b,c,d,e,f,g];exact a):p:=h b c d e f g a
def gj{p q s:Prop}(b:r)(c:s)(d:t)(e:u)(f:v)(g:w)(i:x)(a:q)(h:r->s->t->u->v->w->x->q->p:=by intro b c d e f g i a;simp only[↓aF,aE,Nat.reduceEqDiff,↓reduceIte,Nat.reduceAdd,b,c,d,e,f,g,i];exact a):p:=h b c d e f g i a
def gu{p q s y:Prop}(b:r)(c:s)(d:t)(e:u)(f:v)(g:w)(i:x)(j:y)(a:q)(h:r->s->t->u->v->w->x->y->q->p:=by intro b c d e f g i j a;simp only[↓aF,aE,Nat.reduceEqDiff,↓reduceIte,Nat.reduceAdd,b,c,d,e,f,g,i,j];exact a):p:=h b c d e f g i j a
def gy{p q:Prop}(b:r)(a:q)(h:r->q->p:=by intro b a;simp only[↓aF,aE,Nat.reduceEqDiff,↓reduceIte,b];exact a):p:=h b a
def ie{p q s:Prop}(b:r)(c:s)(a:q)(h:r->s->q->p:=by intro b c a;simp only[↓aF,aE,Nat.reduceEqDiff,↓reduceIte,b,c];exact a):p:=h b c a
def ig{p q s:Prop}(b:r)(c:s)(d:t)(e:u)(a:q)(h:r->s->t->u->q->p:=by intro b c d e a;simp only[↓aF,aE,Nat.reduceEqDiff,↓reduceIte,b,c,d,e];exact a):p:=h b c d e a
def ik{p q s:Prop}(b:r)(c:s)(d:t)(e:u)(f:v)(g:w)(a:q)(h:r->s->t->u->v->w->q->p:=by intro b c d e f g a;simp only[↓aF,aE,Nat.reduceEqDiff,↓reduceIte,b,c,d,e,f,g];exact a):p:=h b c d e f g a
def ai{p q:Prop}(a:q)(h:q->p:=by intro a;simp only[↓aF,aE,Nat.reduceEqDiff,↓reduceIte];exact a):p:=h a
def aj{p:Prop}(h:p:=by simp only[↓aF,aE,Nat.reduceEqDiff,↓reduceIte]):p:=h
def ak{p q:Prop}(a:q)(h:q->p:=by intro a;simp only[↓aF,aE,Nat.reduceEqDiff,↓reduceIte,a]):p:=h a
def am{p q:Prop}(a:q)(h:q->p:=by intro a;simp only[↓aF,aE,Nat.reduceEqDiff,↓reduceIte,Nat.reduceAdd];exact a):p:=h a
def aq{p:Prop}(h:p:=by simp only[↓aF,aE,Nat.reduceEqDiff,↓reduceIte,Nat.reduceAdd]):p:=h
def ar{p q:Prop}(a:q)(h:q->p:=by intro a;simp only[↓aF,aE,Nat.reduceEqDiff,↓reduceIte,Nat.reduceAdd,a]):p:=h a
def xP(a:AV)(l:cd):nC (.tup (a::l)) 0=some a:=rfl
def xN(a b:AV)(l:cd):nC (.tup (a::b::l)) 1=some b:=rfl
def ex2(a b c:AV)(l:cd):nC (.tup (a::b::c::l)) 2=some c:=rfl
end Go.Ev.Gl
