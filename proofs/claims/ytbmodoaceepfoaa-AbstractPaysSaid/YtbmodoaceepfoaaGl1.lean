import Derived.Test.YtbmodoaceepfoaaGl0
import Derived.Test.YtbmodoaceepfoaaIr0
import Derived.Test.YtbmodoaceepfoaaIr1
import Derived.Test.YtbmodoaceepfoaaIr2
import Derived.Test.YtbmodoaceepfoaaIr3
set_option linter.all false
set_option maxHeartbeats 0
namespace Go.Ev.Gl
variable {t x r u v w y:Prop}{F:Fr}{S S':St}{b:Nat}
structure Has(fns:T fD):Prop where
 f3:fns.get 3=some a3
 f6:fns.get 6=some a6
 f7:fns.get 7=some a7
 f8:fns.get 8=some a8
 f9:fns.get 9=some a9
 f10:fns.get 10=some a10
 f11:fns.get 11=some a11
 f12:fns.get 12=some a12
 f13:fns.get 13=some a13
 f16:fns.get 16=some a16
 f23:fns.get 23=some a23
 f24:fns.get 24=some a24
 f25:fns.get 25=some a25
 f26:fns.get 26=some a26
 f27:fns.get 27=some a27
 f28:fns.get 28=some a28
 f29:fns.get 29=some a29
 f30:fns.get 30=some a30
 f31:fns.get 31=some a31
 f32:fns.get 32=some a32
 f33:fns.get 33=some a33
 f34:fns.get 34=some a34
 f35:fns.get 35=some a35
 f39:fns.get 39=some a39
 f43:fns.get 43=some a43
 f44:fns.get 44=some a44
 f45:fns.get 45=some a45
 f46:fns.get 46=some a46
 f47:fns.get 47=some a47
 f48:fns.get 48=some a48
 f49:fns.get 49=some a49
 f50:fns.get 50=some a50
 f51:fns.get 51=some a51
 f52:fns.get 52=some a52
 f53:fns.get 53=some a53
 f54:fns.get 54=some a54
 f55:fns.get 55=some a55
 f56:fns.get 56=some a56
 f59:fns.get 59=some a59
 f63:fns.get 63=some a63
 f64:fns.get 64=some a64
 f65:fns.get 65=some a65
 f66:fns.get 66=some a66
 f67:fns.get 67=some a67
 f68:fns.get 68=some a68
 f69:fns.get 69=some a69
 f70:fns.get 70=some a70
 f72:fns.get 72=some a72
 f73:fns.get 73=some a73
 f74:fns.get 74=some a74
 f75:fns.get 75=some a75
 f76:fns.get 76=some a76
 f77:fns.get 77=some a77
 f78:fns.get 78=some a78
 f79:fns.get 79=some a79
 f80:fns.get 80=some a80
 f81:fns.get 81=some a81
 f82:fns.get 82=some a82
 f83:fns.get 83=some a83
 f84:fns.get 84=some a84
 f85:fns.get 85=some a85
 f86:fns.get 86=some a86
 f87:fns.get 87=some a87
 f88:fns.get 88=some a88
 f89:fns.get 89=some a89
 f90:fns.get 90=some a90
 f91:fns.get 91=some a91
 f92:fns.get 92=some a92
 f93:fns.get 93=some a93
 f94:fns.get 94=some a94
 f95:fns.get 95=some a95
 f96:fns.get 96=some a96
 f97:fns.get 97=some a97
 f98:fns.get 98=some a98
 f99:fns.get 99=some a99
 f100:fns.get 100=some a100
 f101:fns.get 101=some a101
variable {fns:T fD}
def repeatL_one{a:Type}(z:a):∀n,repeatL [z] n=List.replicate n z
 | 0=>rfl
 | n+1=>by rw[mH,repeatL_one z n,List.replicate_succ];rfl
def oK{t s bytes:Nat}{z:bu}{l c:cQ}{id n:Nat}(a:gL (l.val F)=some n)(b:gL (c.val F)=some n)(d:n<=room)(e:bytes * n<=room):
  uI (.df t s bytes z l c) F id=some (.sl id 0 n n false,.cells (repeatL z n) false 0):=by
 show(bD (gL (l.val F)) fun l=>bD (gL (c.val F)) fun c=>bX (Nat.ble l c) (bX (Nat.ble c room) (bX (Nat.ble (bytes * c) room) (some (AV.sl id 0 l c false,AB.cells (repeatL z c) false 0)) none) none) none)=_;rw[a,aH,b,aH,Al (Af n),Al d,Al e];rfl
def fB(t size bytes:Nat)(s x:cQ)(call:gD)(F:Fr)(S:St):evX (.app t size bytes s x) call F S=gQ bytes size (s.val F) (x.val F) S:=rfl
def lD{t:Nat}{z:AV}{x:cQ}{id:Nat}{k:IntKind}{n:Int}(a:x.val F= .int k n):uI (.c7 t 1 1 [z] [(0,x)]) F id=some (.sl id 0 1 1 false,.cells [.int k n] false 0):=by
 show(bD (eO (repeatL [z] 1) [(0 * 1,1,x.val F)]) fun cs=>some (AV.sl id 0 1 1 false,AB.cells cs false 0))=_;rw[a];rfl
attribute [simp] fB
def pR:List AO->Fr->T AB->(Fr->Prop)->Prop
 | [],F,_,Q=>Q F
 | ⟨d,.q q,g,_⟩::l,F,h,Q=>if fX g F=true then nE (iC q F h) fun v=>(dU q=true->cI v v=true)/\pR l (cT d F v) h Q else pR l (cT d F .undef) h Q
 | _::_,_,_,_=>False
def aFh{h:T AB}{base:Nat}{Q:Fr->Prop}:∀ {p:List AO} {i:Nat} {D:DS},D.S.h=h->D.hs= []->D.ps= []->iF h [] D.ls=true->pR p D.F h Q->
  wpd fns p i base D fun e=>Q e.F/\e.S=D.S/\e.ps= []/\e.hs= []/\iF h [] e.ls=true
 | [],i,D,j,k,o,f,c=>by rw[iL];exact⟨c,rfl,o,k,f⟩
 | ⟨d,.q q,g,m⟩::l,i,⟨F,S,ps,w,ls⟩,j,k,o,f,c=>by
  simp only at j k o f c;subst k;subst o;simp only[pR] at c;have go:∀ (_:nE (iC q F h) fun v=>(dU q=true->cI v v=true)/\pR l (cT d F v) h Q),wpd fns (⟨d,.q q,none,m⟩::l) i base ⟨F,S,[],[],ls⟩ fun e=>Q e.F/\e.S=S/\e.ps= []/\e.hs= []/\iF h [] e.ls=true:=by
   rintro⟨v,x,w,c⟩;rw[iT];subst j;refine⟨v,x,aFh rfl rfl rfl ?_ c⟩;show iF S.h [] (bX (dU q) (⟨q,F,v,i,m⟩::ls) ls)=true;cases y:dU q with
   | false=>exact f
   | true=>
    rw[aL,pH,aEm];show bX (pE v (iC q F S.h)) _ _=true;rw[x,kO,w y,aL];exact f
  cases g with
  | none=>exact go (by rw[if_pos (show fX none F=true from rfl)] at c;exact c)
  | some g=>
   have⟨s,b⟩:=g;by_cases r:fX (some (s,b)) F=true
   .rw[if_pos r] at c;have⟨n,e,t,u⟩:=go c;refine⟨n,e,?_,u⟩;have:tW ⟨d,.q q,some (s,b),m⟩ i base (ev fns n).call ⟨F,S,[],[],ls⟩=tW ⟨d,.q q,none,m⟩ i base (ev fns n).call ⟨F,S,[],[],ls⟩:=by
     show bX (fX (some (s,b)) F) _ _=bX true _ _;rw[r];rfl
    show bD (tW ⟨d,.q q,some (s,b),m⟩ i base (ev fns n).call ⟨F,S,[],[],ls⟩) _=_;rw[this];exact t
   .rw[if_neg r] at c;obtain⟨n,e,t,u⟩:=aFh (i:=i+1) (D:=⟨cT d F .undef,S,[],[],ls⟩) j rfl rfl f c;refine⟨n,e,?_,u⟩;have:tW ⟨d,.q q,some (s,b),m⟩ i base (ev fns n).call ⟨F,S,[],[],ls⟩=some ⟨cT d F .undef,S,[],[],ls⟩:=by
     show bX (fX (some (s,b)) F) _ _=_;rw[show fX (some (s,b)) F=false by simpa using r];rfl
    show bD (tW ⟨d,.q q,some (s,b),m⟩ i base (ev fns n).call ⟨F,S,[],[],ls⟩) _=_;rw[this];exact t
 | ⟨d,.a a,g,m⟩::l,i,D,j,k,o,f,c=>by cases c
 | ⟨d,.x a,g,m⟩::l,i,D,j,k,o,f,c=>by cases c
def gI{a:List AO}{A:bO}{Q:Out->bO->St->Prop}(h:pR a A.F S.h fun F=>Q .normal ⟨F,A.inr⟩ ⟨S.h,S.nx+a.length⟩):jN fns (.drw a) A S Q:=by
 apply rC;have⟨n,b,c,d,e,f,g,j⟩:=aFh (fns:=fns) (base:=S.nx) (i:=0) (D:=⟨A.F,⟨S.h,S.nx+a.length⟩,[],[],[]⟩) rfl rfl rfl rfl h;refine⟨n,b,c,?_,?_⟩
 .rw[g];exact j
 .rw[f,bK,e];exact d
def aEd{F:Fr}{h:T AB}{Q:Fr->Prop}:pR [] F h Q↔Q F:=Iff.rfl
def aJz{d:Option Nat}{q:QOp}{m:Nat}{l:List AO}{h:T AB}{Q:Fr->Prop}:pR (⟨d,.q q,none,m⟩::l) F h Q↔nE (iC q F h) fun v=>(dU q=true->cI v v=true)/\pR l (cT d F v) h Q:=by
 show(if fX none F=true then _ else _)↔_;rw[if_pos (show fX none F=true from rfl)]
def aJR{d:Option Nat}{q:QOp}{s:Nat}{b:Bool}{m:Nat}{l:List AO}{F:Fr}{h:T AB}{Q:Fr->Prop}:pR (⟨d,.q q,some (s,b),m⟩::l) F h Q↔if isB (aA s F) b=true then pR (⟨d,.q q,none,m⟩::l) F h Q else pR l (cT d F .undef) h Q:=by
 show(if fX (some (s,b)) F=true then _ else _)↔_;rw[show fX (some (s,b)) F=isB (aA s F) b from rfl];split
 .rw[aJz]
 .rfl
def aOG:(true==true)=true:=rfl
def aMW:(false==false)=true:=rfl
def aMX:(true==false)=false:=rfl
def aNC:(false==true)=false:=rfl
def aB2(b:Bool):isB .undef b=false:=rfl
def aAT(k:SlK)(x:cQ)(a b c:Option cQ):dU (.slc k x a b c)=false:=rfl
def tB(x:cQ)(i:Nat):dU (.extract x i)=false:=rfl
def mD(c a b:cQ):dU (.pick c a b)=false:=rfl
def aAM(g:Bool)(o n:Nat)(x:cQ):dU (.fld g o n x)=false:=rfl
def aCu(op:UnOp)(x:cQ):dU (.un op x)=false:=rfl
attribute [simp] aEd aJz aJR aB2 aAT tB mD aAM aCu
def aNM(x:Option AV)(ld:Bool)(d:Option Nat)(l:List AO)(F:Fr)(h:T AB)(Q:Fr->Prop):Prop:=nE x fun v=>(ld=true->cI v v=true)/\pR l (cT d F v) h Q
def aD2{v:AV}{ld:Bool}{d:Option Nat}{l:List AO}{F:Fr}{h:T AB}{Q:Fr->Prop}:aNM (some v) ld d l F h Q↔(ld=true->cI v v=true)/\pR l (cT d F v) h Q:=by unfold aNM;rw[dJ]
def aOq{d:Option Nat}{q:QOp}{m:Nat}{l:List AO}{F:Fr}{h:T AB}{Q:Fr->Prop}:pR (⟨d,.q q,none,m⟩::l) F h Q↔aNM (iC q F h) (dU q) d l F h Q:=aJz
def aOE(fns:T fD)(x:Option AV)(d:Option Nat)(l:List AO)(F:Fr)(S:St)(Q:Fr->St->Prop):Prop:=nE x fun v=>vG fns l (cT d F v) S Q
def aES{v:AV}{d:Option Nat}{l:List AO}{F:Fr}{S:St}{Q:Fr->St->Prop}:aOE fns (some v) d l F S Q↔vG fns l (cT d F v) S Q:=by unfold aOE;rw[dJ]
def aQR{d:Option Nat}{q:QOp}{m:Nat}{l:List AO}{F:Fr}{S:St}{Q:Fr->St->Prop}:vG fns (⟨d,.q q,none,m⟩::l) F S Q↔aOE fns (iC q F S.h) d l F S Q:=aJ0
def cA(b:Nat)(S S':St):Prop:=S.nx<=S'.nx/\∀c,c<S.nx->c≠b->S'.h.get c=S.h.get c
def cA.refl(b:Nat)(S:St):cA b S S:=⟨Af _,fun _ _ _=>rfl⟩
def cA.nx(h:cA b S S')(k:Nat):cA b S ⟨S'.h,S'.nx+k⟩:=⟨Aq h.1 (Br _ _),h.2⟩
def cA.put(h:cA b S S')(x:Option AB):cA b S ⟨S'.h.set b x,S'.nx⟩:=⟨h.1,fun c d a=>by simp only;rw[dx,if_neg a];exact h.2 c d a⟩
def cA.trans{S'':St}(h:cA b S S')(h':cA b S' S''):cA b S S'':=⟨Aq h.1 h'.1,fun c d a=>(h'.2 c (Ae d h.1) a).trans (h.2 c d a)⟩
def cA.jo{S0:St}(a:jq S0 S)(h:cA b S S')(e:S0.nx<=b):jq S0 S':=⟨Aq a.1 h.1,fun c d=>(h.2 c (Ae d a.1) au).trans (a.2 c d)⟩
def jq.nx(S:St)(k:Nat):jq S ⟨S.h,S.nx+k⟩:=⟨Br _ _,fun _ _=>rfl⟩
abbrev aD:=And.intro @aQR (And.intro @aG5 (And.intro @aBr (And.intro @vL (And.intro @aCB (And.intro @aAC (And.intro @uA (And.intro @aA1 (And.intro @xN (And.intro @tT (And.intro @aAP (And.intro @yO (And.intro @aDM (And.intro @aEd (And.intro @aOq (@aJR)))))))))))))))
abbrev aC:=And.intro @aES (And.intro @dJ (And.intro @aGW (And.intro @aEF (And.intro @aDy (And.intro @aJv (And.intro @uT (And.intro @nC (And.intro @zD (And.intro @yC (And.intro @aHe (And.intro @sK (And.intro @oH (And.intro @aDn (And.intro @fO (And.intro @aCJ (And.intro @bE (And.intro @fK (And.intro @aE6 (And.intro @aGS (And.intro @aHb (And.intro @aHi (And.intro @aHm (And.intro @aHj (And.intro @aGQ (And.intro @aHo (And.intro @aDt (And.intro @aGF (And.intro @aY (And.intro @aH (And.intro @aB0 (And.intro @yJ (And.intro @aB8 (And.intro @aBV (And.intro @kL (And.intro @iO (And.intro @aAJ (And.intro @xW (And.intro @aD2 (And.intro @xU (And.intro @aB2 (And.intro @aOG (And.intro @aMW (And.intro @aMX (And.intro @aNC (And.intro @zF (And.intro @vM (And.intro @oW (And.intro @rK (And.intro @iM (And.intro @aAQ (And.intro @aAT (And.intro @tB (And.intro @mD (And.intro @aAM (And.intro @aCu (And.intro @dO (And.intro @aCw (And.intro @aEq (And.intro @nQ (And.intro @aA2 (And.intro @Bf (And.intro @false_implies (And.intro @true_implies (And.intro @true_and (And.intro @and_true (And.intro @Ag (And.intro @Int.cast_ofNat_Int (And.intro @Int.natCast_zero (And.intro @Int.natCast_one (And.intro (@aL (T AB)) (And.intro (@aR (T AB)) (And.intro (@aL AV) (And.intro (@aR AV) (And.intro (@Bu AV) (And.intro (@Ci AV) (And.intro (@Bs AV) (And.intro (@Bu Nat) (And.intro (@Ci Nat) (@Bs Nat)))))))))))))))))))))))))))))))))))))))))))))))))))))))))))))))))))))))))))))))
def i9{p:Prop}(h:p:=by simp only[↓aD,aC,Nat.reduceEqDiff,↓reduceIte,Nat.reduceAdd,AV.bool.injEq,decide_eq_true_eq,decide_eq_false_iff_not];omega):p:=h
def jd{p:Prop}(b:r)(h:r->p:=by intro b;simp only[↓aD,aC,Nat.reduceEqDiff,↓reduceIte,Nat.reduceAdd,b]):p:=h b
def je{p s:Prop}(b:r)(c:s)(h:r->s->p:=by intro b c;simp only[↓aD,aC,Nat.reduceEqDiff,↓reduceIte,Nat.reduceAdd,b,c]):p:=h b c
def jf{p:Prop}(b:r)(h:r->p:=by intro b;simp only[↓aD,aC,Nat.reduceEqDiff,↓reduceIte,b]):p:=h b
def jg{p s:Prop}(b:r)(c:s)(h:r->s->p:=by intro b c;simp only[↓aD,aC,Nat.reduceEqDiff,↓reduceIte,b,c]):p:=h b c
def fx{p q:Prop}(b:r)(a:q)(h:r->q->p:=by intro b a;simp only[↓aD,aC,Nat.reduceEqDiff,↓reduceIte,Nat.reduceAdd,b];exact a):p:=h b a
def gh{p q s:Prop}(b:r)(c:s)(a:q)(h:r->s->q->p:=by intro b c a;simp only[↓aD,aC,Nat.reduceEqDiff,↓reduceIte,Nat.reduceAdd,b,c];exact a):p:=h b c a
def gj{p q s:Prop}(b:r)(c:s)(d:t)(a:q)(h:r->s->t->q->p:=by intro b c d a;simp only[↓aD,aC,Nat.reduceEqDiff,↓reduceIte,Nat.reduceAdd,b,c,d];exact a):p:=h b c d a
def gu{p q s:Prop}(b:r)(c:s)(d:t)(e:u)(a:q)(h:r->s->t->u->q->p:=by intro b c d e a;simp only[↓aD,aC,Nat.reduceEqDiff,↓reduceIte,Nat.reduceAdd,b,c,d,e];exact a):p:=h b c d e a
def gy{p q s:Prop}(b:r)(c:s)(d:t)(e:u)(f:v)(a:q)(h:r->s->t->u->v->q->p:=by intro b c d e f a;simp only[↓aD,aC,Nat.reduceEqDiff,↓reduceIte,Nat.reduceAdd,b,c,d,e,f];exact a):p:=h b c d e f a
def ie{p q s:Prop}(b:r)(c:s)(d:t)(e:u)(f:v)(g:w)(a:q)(h:r->s->t->u->v->w->q->p:=by intro b c d e f g a;simp only[↓aD,aC,Nat.reduceEqDiff,↓reduceIte,Nat.reduceAdd,b,c,d,e,f,g];exact a):p:=h b c d e f g a
def ig{p q s:Prop}(b:r)(c:s)(d:t)(e:u)(f:v)(g:w)(i:x)(a:q)(h:r->s->t->u->v->w->x->q->p:=by intro b c d e f g i a;simp only[↓aD,aC,Nat.reduceEqDiff,↓reduceIte,Nat.reduceAdd,b,c,d,e,f,g,i];exact a):p:=h b c d e f g i a
def ik{p q s:Prop}(b:r)(c:s)(d:t)(e:u)(f:v)(g:w)(i:x)(j:y)(a:q)(h:r->s->t->u->v->w->x->y->q->p:=by intro b c d e f g i j a;simp only[↓aD,aC,Nat.reduceEqDiff,↓reduceIte,Nat.reduceAdd,b,c,d,e,f,g,i,j];exact a):p:=h b c d e f g i j a
def im{p q s z G:Prop}(b:r)(c:s)(d:t)(e:u)(f:v)(g:w)(i:x)(j:y)(k:z)(l:G)(a:q)(h:r->s->t->u->v->w->x->y->z->G->q->p:=by intro b c d e f g i j k l a;simp only[↓aD,aC,Nat.reduceEqDiff,↓reduceIte,Nat.reduceAdd,b,c,d,e,f,g,i,j,k,l];exact a):p:=h b c d e f g i j k l a
def io{p q:Prop}(b:r)(a:q)(h:r->q->p:=by intro b a;simp only[↓aD,aC,Nat.reduceEqDiff,↓reduceIte,b];exact a):p:=h b a
def iu{p q s:Prop}(b:r)(c:s)(a:q)(h:r->s->q->p:=by intro b c a;simp only[↓aD,aC,Nat.reduceEqDiff,↓reduceIte,b,c];exact a):p:=h b c a
def iz{p q s:Prop}(b:r)(c:s)(d:t)(e:u)(a:q)(h:r->s->t->u->q->p:=by intro b c d e a;simp only[↓aD,aC,Nat.reduceEqDiff,↓reduceIte,b,c,d,e];exact a):p:=h b c d e a
def ai{p q:Prop}(a:q)(h:q->p:=by intro a;simp only[↓aD,aC,Nat.reduceEqDiff,↓reduceIte];exact a):p:=h a
def aj{p:Prop}(h:p:=by simp only[↓aD,aC,Nat.reduceEqDiff,↓reduceIte]):p:=h
def ak{p q:Prop}(a:q)(h:q->p:=by intro a;simp only[↓aD,aC,Nat.reduceEqDiff,↓reduceIte,a]):p:=h a
def am{p q:Prop}(a:q)(h:q->p:=by intro a;simp only[↓aD,aC,Nat.reduceEqDiff,↓reduceIte,Nat.reduceAdd];exact a):p:=h a
def aq{p:Prop}(h:p:=by simp only[↓aD,aC,Nat.reduceEqDiff,↓reduceIte,Nat.reduceAdd]):p:=h
def ar{p q:Prop}(a:q)(h:q->p:=by intro a;simp only[↓aD,aC,Nat.reduceEqDiff,↓reduceIte,Nat.reduceAdd,a]):p:=h a
def ex0(a:AV)(l:bu):nG (.tup (a::l)) 0=some a:=rfl
def ex1(a b:AV)(l:bu):nG (.tup (a::b::l)) 1=some b:=rfl
def ex2(a b c:AV)(l:bu):nG (.tup (a::b::c::l)) 2=some c:=rfl
end Go.Ev.Gl
