import Derived.Test.YtoojnpjgnnpllaaGl0
import Derived.Test.YtoojnpjgnnpllaaIr0
import Derived.Test.YtoojnpjgnnpllaaIr1
import Derived.Test.YtoojnpjgnnpllaaIr2
import Derived.Test.YtoojnpjgnnpllaaIr3
set_option maxHeartbeats 0
set_option linter.unusedSimpArgs false
set_option linter.unusedVariables false
namespace Go.Ev.Gl
structure Has(fns:T dY):Prop where
 f12:fns.get 12=some a12
 f19:fns.get 19=some a19
 f21:fns.get 21=some a21
 f22:fns.get 22=some a22
 f25:fns.get 25=some a25
 f26:fns.get 26=some a26
 f29:fns.get 29=some a29
 f52:fns.get 52=some a52
 f53:fns.get 53=some a53
 f55:fns.get 55=some a55
 f56:fns.get 56=some a56
 f57:fns.get 57=some a57
 f58:fns.get 58=some a58
 f59:fns.get 59=some a59
 f60:fns.get 60=some a60
 f61:fns.get 61=some a61
 f68:fns.get 68=some a68
 f69:fns.get 69=some a69
 f72:fns.get 72=some a72
 f73:fns.get 73=some a73
 f92:fns.get 92=some a92
 f96:fns.get 96=some a96
 f97:fns.get 97=some a97
 f98:fns.get 98=some a98
 f100:fns.get 100=some a100
 f101:fns.get 101=some a101
 f102:fns.get 102=some a102
 f103:fns.get 103=some a103
 f104:fns.get 104=some a104
 f106:fns.get 106=some a106
 f107:fns.get 107=some a107
 f108:fns.get 108=some a108
 f109:fns.get 109=some a109
 f110:fns.get 110=some a110
 f111:fns.get 111=some a111
 f112:fns.get 112=some a112
 f113:fns.get 113=some a113
 f116:fns.get 116=some a116
 f119:fns.get 119=some a119
 f120:fns.get 120=some a120
 f131:fns.get 131=some a131
 f136:fns.get 136=some a136
 f137:fns.get 137=some a137
 f138:fns.get 138=some a138
 f139:fns.get 139=some a139
 f140:fns.get 140=some a140
 f141:fns.get 141=some a141
 f143:fns.get 143=some a143
 f145:fns.get 145=some a145
 f146:fns.get 146=some a146
 f147:fns.get 147=some a147
 f148:fns.get 148=some a148
 f149:fns.get 149=some a149
 f150:fns.get 150=some a150
 f152:fns.get 152=some a152
 f155:fns.get 155=some a155
 f156:fns.get 156=some a156
 f157:fns.get 157=some a157
 f158:fns.get 158=some a158
 f159:fns.get 159=some a159
 f162:fns.get 162=some a162
 f163:fns.get 163=some a163
 f164:fns.get 164=some a164
 f165:fns.get 165=some a165
 f166:fns.get 166=some a166
 f167:fns.get 167=some a167
 f171:fns.get 171=some a171
 f173:fns.get 173=some a173
 f174:fns.get 174=some a174
 f175:fns.get 175=some a175
 f176:fns.get 176=some a176
 f177:fns.get 177=some a177
 f178:fns.get 178=some a178
 f179:fns.get 179=some a179
 f180:fns.get 180=some a180
 f181:fns.get 181=some a181
 f182:fns.get 182=some a182
 f183:fns.get 183=some a183
 f184:fns.get 184=some a184
 f185:fns.get 185=some a185
 f186:fns.get 186=some a186
variable {fns:T dY}
theorem repeatL_one{α:Type}(z:α):∀n,repeatL [z] n=List.replicate n z
 | 0=>rfl
 | n+1=>by rw[lF,repeatL_one z n,List.replicate_succ];rfl
theorem lN{t s bytes:Nat}{z:bf}{l c:cO}{F:Fr}{id n:Nat}(hl:fP (l.val F)=some n)(hc:fP (c.val F)=some n)(h1:n<=room)(h2:bytes * n<=room):
  uW (.dd t s bytes z l c) F id=some (.sl id 0 n n false,.cells (repeatL z n) false 0):=by
 show(bC (fP (l.val F)) fun l=>bC (fP (c.val F)) fun c=>bQ (Nat.ble l c) (bQ (Nat.ble c room) (bQ (Nat.ble (bytes * c) room) (some (AV.sl id 0 l c false,AB.cells (repeatL z c) false 0)) none) none) none)=_;rw[hl,aL,hc,aL,Av (Ag n),Av h1,Av h2];rfl
theorem gO(t size bytes:Nat)(s x:cO)(call:fA)(F:Fr)(S:St):evX (.app t size bytes s x) call F S=gP bytes size (s.val F) (x.val F) S:=rfl
theorem nQ{t:Nat}{z:AV}{x:cO}{F:Fr}{id:Nat}{k:IntKind}{n:Int}(hx:x.val F= .int k n):uW (.cj t 1 1 [z] [(0,x)]) F id=some (.sl id 0 1 1 false,.cells [.int k n] false 0):=by
 show(bC (eQ (repeatL [z] 1) [(0 * 1,1,x.val F)]) fun cs=>some (AV.sl id 0 1 1 false,AB.cells cs false 0))=_;rw[hx];rfl
attribute [simp] gO
def oL:List AO->Fr->T AB->(Fr->Prop)->Prop
 | [],F,_,Q=>Q F
 | ⟨d,.q q,g,_⟩::l,F,h,Q=>if eS g F=true then lL (gM q F h) fun v=>(dN q=true->cE v v=true)/\oL l (cM d F v) h Q else oL l (cM d F .undef) h Q
 | _::_,_,_,_=>False
theorem aEB{h:T AB}{base:Nat}{Q:Fr->Prop}:∀ {ops:List AO} {i:Nat} {D:DS},D.S.h=h->D.hs= []->D.ps= []->fV h [] D.ls=true->oL ops D.F h Q->
  zU fns ops i base D fun D'=>Q D'.F/\D'.S=D.S/\D'.ps= []/\D'.hs= []/\fV h [] D'.ls=true
 | [],i,D,h1,h2,h3,h4,hr=>by rw[gG];exact⟨hr,rfl,h3,h2,h4⟩
 | ⟨d,.q q,g,m⟩::l,i,⟨F,S,ps,hs,ls⟩,h1,h2,h3,h4,hr=>by
  simp only at h1 h2 h3 h4 hr;subst h2;subst h3;simp only[oL] at hr;have go:∀ (_:lL (gM q F h) fun v=>(dN q=true->cE v v=true)/\oL l (cM d F v) h Q),zU fns (⟨d,.q q,none,m⟩::l) i base ⟨F,S,[],[],ls⟩ fun D'=>Q D'.F/\D'.S=S/\D'.ps= []/\D'.hs= []/\fV h [] D'.ls=true:=by
   rintro⟨v,hv,hs,hr⟩;rw[lM];subst h1;refine⟨v,hv,aEB rfl rfl rfl ?_ hr⟩;show fV S.h [] (bQ (dN q) (⟨q,F,v,i,m⟩::ls) ls)=true;cases hq:dN q with
   | false=>exact h4
   | true=>
    rw[aR,nT,aDW];show bQ (qI v (gM q F S.h)) _ _=true;rw[hv,jO,hs hq,aR];exact h4
  cases g with
  | none=>exact go (by rw[if_pos (show eS none F=true from rfl)] at hr;exact hr)
  | some g=>
   have⟨s,b⟩:=g;by_cases hw:eS (some (s,b)) F=true
   ·rw[if_pos hw] at hr;have⟨n,D',e1,e2⟩:=go hr;refine⟨n,D',?_,e2⟩;have:tW ⟨d,.q q,some (s,b),m⟩ i base (ev fns n).call ⟨F,S,[],[],ls⟩=tW ⟨d,.q q,none,m⟩ i base (ev fns n).call ⟨F,S,[],[],ls⟩:=by
     show bQ (eS (some (s,b)) F) _ _=bQ true _ _;rw[hw];rfl
    show bC (tW ⟨d,.q q,some (s,b),m⟩ i base (ev fns n).call ⟨F,S,[],[],ls⟩) _=_;rw[this];exact e1
   ·rw[if_neg hw] at hr;obtain⟨n,D',e1,e2⟩:=aEB (i:=i+1) (D:=⟨cM d F .undef,S,[],[],ls⟩) h1 rfl rfl h4 hr;refine⟨n,D',?_,e2⟩;have:tW ⟨d,.q q,some (s,b),m⟩ i base (ev fns n).call ⟨F,S,[],[],ls⟩=some ⟨cM d F .undef,S,[],[],ls⟩:=by
     show bQ (eS (some (s,b)) F) _ _=_;rw[show eS (some (s,b)) F=false by simpa using hw];rfl
    show bC (tW ⟨d,.q q,some (s,b),m⟩ i base (ev fns n).call ⟨F,S,[],[],ls⟩) _=_;rw[this];exact e1
 | ⟨d,.a a,g,m⟩::l,i,D,h1,h2,h3,h4,hr=>by cases hr
 | ⟨d,.x a,g,m⟩::l,i,D,h1,h2,h3,h4,hr=>by cases hr
theorem gD{ops:List AO}{A:bG}{S:St}{Q:Out->bG->St->Prop}(h:oL ops A.F S.h fun F=>Q .normal ⟨F,A.inr⟩ ⟨S.h,S.nx+ops.length⟩):iM fns (.drw ops) A S Q:=by
 refine tI ?_;have⟨n,D',e1,e2,e3,e4,e5,e6⟩:=aEB (fns:=fns) (base:=S.nx) (i:=0) (D:=⟨A.F,⟨S.h,S.nx+ops.length⟩,[],[],[]⟩) rfl rfl rfl rfl h;refine⟨n,D',e1,?_,?_⟩
 ·rw[e5];exact e6
 ·rw[e4,bF,e3];exact e2
theorem aC6{F:Fr}{h:T AB}{Q:Fr->Prop}:oL [] F h Q↔Q F:=Iff.rfl
theorem aIh{d:Option Nat}{q:QOp}{m:Nat}{l:List AO}{F:Fr}{h:T AB}{Q:Fr->Prop}:oL (⟨d,.q q,none,m⟩::l) F h Q↔lL (gM q F h) fun v=>(dN q=true->cE v v=true)/\oL l (cM d F v) h Q:=by
 show(if eS none F=true then _ else _)↔_;rw[if_pos (show eS none F=true from rfl)]
theorem aJb{d:Option Nat}{q:QOp}{s:Nat}{b:Bool}{m:Nat}{l:List AO}{F:Fr}{h:T AB}{Q:Fr->Prop}:oL (⟨d,.q q,some (s,b),m⟩::l) F h Q↔if isB (aD s F) b=true then oL (⟨d,.q q,none,m⟩::l) F h Q else oL l (cM d F .undef) h Q:=by
 show(if eS (some (s,b)) F=true then _ else _)↔_;rw[show eS (some (s,b)) F=isB (aD s F) b from rfl];split
 ·rw[aIh]
 ·rfl
theorem aMt:(true==true)=true:=rfl
theorem aMO:(false==false)=true:=rfl
theorem aM0:(true==false)=false:=rfl
theorem aLe:(false==true)=false:=rfl
theorem aB4(b:Bool):isB .undef b=false:=rfl
theorem aAp(k:SlK)(x:cO)(a b c:Option cO):dN (.slc k x a b c)=false:=rfl
theorem sG(x:cO)(i:Nat):dN (.extract x i)=false:=rfl
theorem xH(c a b:cO):dN (.pick c a b)=false:=rfl
theorem aAr(g:Bool)(o n:Nat)(x:cO):dN (.fld g o n x)=false:=rfl
theorem aBZ(op:UnOp)(x:cO):dN (.un op x)=false:=rfl
attribute [simp] aC6 aIh aJb aB4 aAp sG xH aAr aBZ
def aLH(x:Option AV)(ld:Bool)(d:Option Nat)(l:List AO)(F:Fr)(h:T AB)(Q:Fr->Prop):Prop:=lL x fun v=>(ld=true->cE v v=true)/\oL l (cM d F v) h Q
theorem aEJ{v:AV}{ld:Bool}{d:Option Nat}{l:List AO}{F:Fr}{h:T AB}{Q:Fr->Prop}:aLH (some v) ld d l F h Q↔(ld=true->cE v v=true)/\oL l (cM d F v) h Q:=by unfold aLH;rw[eC]
theorem aMb{d:Option Nat}{q:QOp}{m:Nat}{l:List AO}{F:Fr}{h:T AB}{Q:Fr->Prop}:oL (⟨d,.q q,none,m⟩::l) F h Q↔aLH (gM q F h) (dN q) d l F h Q:=aIh
def aLa(fns:T dY)(x:Option AV)(d:Option Nat)(l:List AO)(F:Fr)(S:St)(Q:Fr->St->Prop):Prop:=lL x fun v=>vL fns l (cM d F v) S Q
theorem aEb{v:AV}{d:Option Nat}{l:List AO}{F:Fr}{S:St}{Q:Fr->St->Prop}:aLa fns (some v) d l F S Q↔vL fns l (cM d F v) S Q:=by unfold aLa;rw[eC]
theorem aOR{d:Option Nat}{q:QOp}{m:Nat}{l:List AO}{F:Fr}{S:St}{Q:Fr->St->Prop}:vL fns (⟨d,.q q,none,m⟩::l) F S Q↔aLa fns (gM q F S.h) d l F S Q:=aID
def bT(b:Nat)(S S':St):Prop:=S.nx<=S'.nx/\∀c,c<S.nx->c≠b->S'.h.get c=S.h.get c
theorem bT.refl(b:Nat)(S:St):bT b S S:=⟨Ag _,fun _ _ _=>rfl⟩
theorem bT.nx{b:Nat}{S S':St}(h:bT b S S')(k:Nat):bT b S ⟨S'.h,S'.nx+k⟩:=⟨Al h.1 (Ba _ _),h.2⟩
theorem bT.put{b:Nat}{S S':St}(h:bT b S S')(x:Option AB):bT b S ⟨S'.h.set b x,S'.nx⟩:=⟨h.1,fun c hc hne=>by simp only;rw[di,if_neg hne];exact h.2 c hc hne⟩
theorem bT.trans{b:Nat}{S S' S'':St}(h:bT b S S')(h':bT b S' S''):bT b S S'':=⟨Al h.1 h'.1,fun c hc hne=>(h'.2 c (Ae hc h.1) hne).trans (h.2 c hc hne)⟩
theorem bT.same{b:Nat}{S0 S S':St}(h0:Same S0 S)(h:bT b S S')(hb:S0.nx<=b):Same S0 S':=⟨Al h0.1 h.1,fun c hc=>(h.2 c (Ae hc h0.1) ar).trans (h0.2 c hc)⟩
theorem Same.nx(S:St)(k:Nat):Same S ⟨S.h,S.nx+k⟩:=⟨Ba _ _,fun _ _=>rfl⟩
abbrev aF:=And.intro @aOR (And.intro @aFT (And.intro @aAI (And.intro @vG (And.intro @aBD (And.intro @aAc (And.intro @tM (And.intro @aAb (And.intro @xO (And.intro @tV (And.intro @aAe (And.intro @xZ (And.intro @aDi (And.intro @aC6 (And.intro @aMb (@aJb)))))))))))))))
abbrev aG:=And.intro @aEb (And.intro @eC (And.intro @aFG (And.intro @aDn (And.intro @aCS (And.intro @aIs (And.intro @qV (And.intro @mP (And.intro @yL (And.intro @xC (And.intro @aF1 (And.intro @aEG (And.intro @aAz (And.intro @aF0 (And.intro @fE (And.intro @aJM (And.intro @bS (And.intro @eF (And.intro @aDy (And.intro @aFO (And.intro @aFV (And.intro @aFR (And.intro @aFU (And.intro @aFM (And.intro @aFD (And.intro @aGs (And.intro @aCX (And.intro @aGk (And.intro @aH (And.intro @aL (And.intro @aBu (And.intro @wZ (And.intro @aBV (And.intro @aB6 (And.intro @mQ (And.intro @iZ (And.intro @aAm (And.intro @yC (And.intro @aEJ (And.intro @xJ (And.intro @aB4 (And.intro @aMt (And.intro @aMO (And.intro @aM0 (And.intro @aLe (And.intro @yM (And.intro @vZ (And.intro @lE (And.intro @qT (And.intro @gC (And.intro @aAk (And.intro @aAp (And.intro @sG (And.intro @xH (And.intro @aAr (And.intro @aBZ (And.intro @dH (And.intro @yO (And.intro @aD4 (And.intro @nH (And.intro @aAq (And.intro @Bc (And.intro @false_implies (And.intro @true_implies (And.intro @Ed (And.intro @Dt (And.intro @Ah (And.intro @Int.cast_ofNat_Int (And.intro @Int.natCast_zero (And.intro @Int.natCast_one (And.intro (@aR (T AB)) (And.intro (@bB (T AB)) (And.intro (@aR AV) (And.intro (@bB AV) (And.intro (@Cg AV) (And.intro (@Ck AV) (And.intro (@Dn AV) (And.intro (@Cg Nat) (And.intro (@Ck Nat) (@Dn Nat)))))))))))))))))))))))))))))))))))))))))))))))))))))))))))))))))))))))))))))))
theorem dx{p q r:Prop}(b:r)(a:q)(h:r->q->p:=by intro b a;simp only[↓aF,aG,Nat.reduceEqDiff,↓reduceIte,Nat.reduceAdd,b];exact a):p:=h b a
theorem dy{p q r s:Prop}(b:r)(c:s)(a:q)(h:r->s->q->p:=by intro b c a;simp only[↓aF,aG,Nat.reduceEqDiff,↓reduceIte,Nat.reduceAdd,b,c];exact a):p:=h b c a
theorem dz{p q r s t:Prop}(b:r)(c:s)(d:t)(a:q)(h:r->s->t->q->p:=by intro b c d a;simp only[↓aF,aG,Nat.reduceEqDiff,↓reduceIte,Nat.reduceAdd,b,c,d];exact a):p:=h b c d a
theorem ed{p q r s t u:Prop}(b:r)(c:s)(d:t)(e:u)(a:q)(h:r->s->t->u->q->p:=by intro b c d e a;simp only[↓aF,aG,Nat.reduceEqDiff,↓reduceIte,Nat.reduceAdd,b,c,d,e];exact a):p:=h b c d e a
theorem ef{p q r s t u v:Prop}(b:r)(c:s)(d:t)(e:u)(f:v)(a:q)(h:r->s->t->u->v->q->p:=by intro b c d e f a;simp only[↓aF,aG,Nat.reduceEqDiff,↓reduceIte,Nat.reduceAdd,b,c,d,e,f];exact a):p:=h b c d e f a
theorem ej{p q r s t u v w:Prop}(b:r)(c:s)(d:t)(e:u)(f:v)(g:w)(a:q)(h:r->s->t->u->v->w->q->p:=by intro b c d e f g a;simp only[↓aF,aG,Nat.reduceEqDiff,↓reduceIte,Nat.reduceAdd,b,c,d,e,f,g];exact a):p:=h b c d e f g a
theorem eu{p q r s t u v w x:Prop}(b:r)(c:s)(d:t)(e:u)(f:v)(g:w)(i:x)(a:q)(h:r->s->t->u->v->w->x->q->p:=by intro b c d e f g i a;simp only[↓aF,aG,Nat.reduceEqDiff,↓reduceIte,Nat.reduceAdd,b,c,d,e,f,g,i];exact a):p:=h b c d e f g i a
theorem ew{p q r s t u v w x y:Prop}(b:r)(c:s)(d:t)(e:u)(f:v)(g:w)(i:x)(j:y)(a:q)(h:r->s->t->u->v->w->x->y->q->p:=by intro b c d e f g i j a;simp only[↓aF,aG,Nat.reduceEqDiff,↓reduceIte,Nat.reduceAdd,b,c,d,e,f,g,i,j];exact a):p:=h b c d e f g i j a
theorem ez{p q r:Prop}(b:r)(a:q)(h:r->q->p:=by intro b a;simp only[↓aF,aG,Nat.reduceEqDiff,↓reduceIte,b];exact a):p:=h b a
theorem fh{p q r s:Prop}(b:r)(c:s)(a:q)(h:r->s->q->p:=by intro b c a;simp only[↓aF,aG,Nat.reduceEqDiff,↓reduceIte,b,c];exact a):p:=h b c a
theorem fj{p q r s t u:Prop}(b:r)(c:s)(d:t)(e:u)(a:q)(h:r->s->t->u->q->p:=by intro b c d e a;simp only[↓aF,aG,Nat.reduceEqDiff,↓reduceIte,b,c,d,e];exact a):p:=h b c d e a
theorem ai{p q:Prop}(a:q)(h:q->p:=by intro a;simp only[↓aF,aG,Nat.reduceEqDiff,↓reduceIte];exact a):p:=h a
theorem aj{p:Prop}(h:p:=by simp only[↓aF,aG,Nat.reduceEqDiff,↓reduceIte]):p:=h
theorem ak{p q:Prop}(a:q)(h:q->p:=by intro a;simp only[↓aF,aG,Nat.reduceEqDiff,↓reduceIte,a]):p:=h a
theorem am{p q:Prop}(a:q)(h:q->p:=by intro a;simp only[↓aF,aG,Nat.reduceEqDiff,↓reduceIte,Nat.reduceAdd];exact a):p:=h a
theorem ap{p:Prop}(h:p:=by simp only[↓aF,aG,Nat.reduceEqDiff,↓reduceIte,Nat.reduceAdd]):p:=h
theorem aq{p q:Prop}(a:q)(h:q->p:=by intro a;simp only[↓aF,aG,Nat.reduceEqDiff,↓reduceIte,Nat.reduceAdd,a]):p:=h a
theorem rN(a:AV)(l:bf):kC (.tup (a::l)) 0=some a:=rfl
theorem sA(a b:AV)(l:bf):kC (.tup (a::b::l)) 1=some b:=rfl
theorem ex2(a b c:AV)(l:bf):kC (.tup (a::b::c::l)) 2=some c:=rfl
end Go.Ev.Gl
