import Derived.Test.YtoojnpjgnnpllaaGl18
set_option maxHeartbeats 0
set_option linter.unusedSimpArgs false
set_option linter.unusedVariables false
namespace Go.Ev.Gl
variable {fns:T dY}
structure eX(g:aS)(m:ba):Prop where
 M:aCJ g m
 nd:¬aCG m
 A:iR g m
section
variable {g:aS}{a b c m:ba}
theorem eX.e(h:eX g m):jE g.bh.length m (iR g m)=0:=by
 unfold jE;rw[if_neg (fun e=>e h.M.len),if_neg (fun e=>e h.M.inn),if_neg h.nd,if_pos h.A]
theorem eX.chk(h:eX g m)(hf:cT g=0):mS g m (iR g m)=0:=by
 unfold mS;rw[if_neg (fun e=>e hf)];exact h.e
theorem eX.inj(h:eX g m){i k:Nat}(hi:i<g.bh.length)(hk:k<g.bh.length)(e:fG m i=fG m k):i=k:=by
 have h1:=(h.M.at hi).1;have h2:=(h.M.at hk).1;have hl:=h.M.len;rcases Dl i k with hlt | he | hlt
 ·exact absurd ⟨k,i,hlt,ar,ar⟩ h.nd
 ·exact he
 ·exact absurd ⟨i,k,hlt,ar,ar⟩ h.nd
theorem aKR{l:ba}{x:Int}(h:0<=mO l 0 x):(mO l 0 x).toNat<l.length/\l.getD (mO l 0 x).toNat 0=x:=by
 rcases sC (c:=x) (l:=l) (s:=0) with⟨h1,_⟩ | ⟨k,h1,h2,_⟩
 ·omega
 ·have e:(mO l 0 x).toNat=k:=by omega
  rw[e];exact⟨(Ai.1 h2).1,by rw[Ad,h2];rfl⟩
end
def vV(j:Int):List dM->Nat->Nat
 | [],_=>0
 | t::L,a=>(if t.1=j then(t.2.2+1 - (a:Int)).toNat else 0)+vV j L (a+1)
theorem aEE{j:Int}:∀ {L M:List dM} {a:Nat},vV j (L++M) a=vV j L a+vV j M (a+L.length)
 | [],M,a=>by show vV j M a=0+vV j M (a+0);rw[An];rfl
 | t::L,M,a=>by
  show _+vV j (L++M) (a+1)=_+vV j L (a+1)+vV j M (a+(L.length+1));rw[aEE (L:=L),show a+1+L.length=a+(L.length+1) by omega,Cq]
theorem yJ{j:Int}:∀ {L:List dM} {a:Nat},(∀t∈L,t.1≠j)->vV j L a=0
 | [],_,_=>rfl
 | t::L,a,h=>by
  show(if t.1=j then _ else 0)+vV j L (a+1)=0;rw[if_neg (h t (Bv ..)),yJ fun t ht=>h t (Bk _ ht)]
structure KZ(r:Nat)(p:Int)(L:List dM):Prop where
 par:∀t∈L,t.1=p\/((r:Int)<=t.1/\t.1<((r+L.length:Nat):Int))
 sz:∀ (j:Nat) (t:dM),L[j]? =some t->t.2.2=((r+j+vV ((r+j:Nat):Int) L r:Nat):Int)/\t.2.2<((r+L.length:Nat):Int)
 all:vV p L r=L.length
 nest:∀ (j q:Nat) (t u:dM),L[j]? =some t->L[q]? =some u->j<q->((r+q:Nat):Int)<=t.2.2->((r+j:Nat):Int)<=u.1
theorem KZ.nil{r:Nat}{p:Int}:KZ r p []:=⟨fun t ht=>(by cases ht),fun j t h=>(by simp at h),rfl,fun j q t u h=>(by simp at h)⟩
theorem KZ.app{r:Nat}{p:Int}{L M:List dM}(hp:p<(r:Int))(h1:KZ r p L)(h2:KZ (r+L.length) p M):KZ r p (L++M):=by
 refine⟨fun t ht=>?_,fun j t hj=>?_,by rw[aEE,h1.all,h2.all,Ao],fun j q t u hj hq hlt hle=>?_⟩
 ·rw[Ao];rcases Cb.1 ht with h | h
  ·rcases h1.par t h with e | e
   ·exact .inl e
   ·exact .inr ar
  ·rcases h2.par t h with e | e
   ·exact .inl e
   ·exact .inr ar
 ·rw[Ao,aEE];by_cases hlt:j<L.length
  ·rw[Bg hlt] at hj;have⟨a,b⟩:=h1.sz j t hj;rw[yJ (L:=M) fun t ht=>by
    rcases h2.par t ht with e | e
    ·omega
    ·omega,Br]
   exact⟨a,ar⟩
  ·rw[Be ar] at hj;have⟨a,b⟩:=h2.sz (j - L.length) t hj;rw[show r+L.length+(j - L.length)=r+j by omega] at a;rw[yJ (L:=L) fun t ht=>by
    rcases h1.par t ht with e | e
    ·omega
    ·omega,An]
   exact⟨a,ar⟩
 ·by_cases hj1:j<L.length
  ·rw[Bg hj1] at hj;have:=(h1.sz j t hj).2;rw[Bg ar] at hq;exact h1.nest j q t u hj hq hlt hle
  ·rw[Be ar] at hj hq;have:=h2.nest _ _ t u hj hq ar (by rw[show r+L.length+(q - L.length)=r+q by omega];exact hle)
   rwa [show r+L.length+(j - L.length)=r+j by omega] at this
theorem aJi{rec:Nat->Option (List dM)}{p:Int}(hr:∀ (r:Nat) (L:List dM),p<(r:Int)->rec r=some L->KZ r p L):∀ {l:ba} {r:Nat} {L:List dM},p<(r:Int)->jK rec l r=some L->KZ r p L
 | [],r,L,_,h=>by
  have h:some []=some L:=h;cases h;exact KZ.nil
 | c::l,r,L,hp,h=>by
  simp only[jK] at h;split at h
  ·have⟨L1,h1,h2⟩:=Cz.1 h;obtain⟨L2,h3,rfl⟩:=Aw.1 h2;exact(hr r L1 hp h1).app hp (aJi hr ar h3)
  ·cases h
theorem aBc{N:Nat}{nx:Nat->ba}:∀ {f at_:Nat} {p d:Int} {T:List dM},p<(at_:Int)->fW N nx f at_ p d=some T->KZ at_ p T
 | 0,_,_,_,_,_,h=>by cases h
 | f+1,at_,p,d,T,hp,h=>by
  simp only[fW] at h;split at h
  ·obtain⟨L,h1,rfl⟩:=Aw.1 h;have k:=aJi (p:=(at_:Int)) (fun r L hr hL=>aBc hr hL) ar h1;refine⟨fun t ht=>?_,fun j t hj=>?_,?_,fun j q t u hj hq hlt hle=>?_⟩
   ·rw[Ax];rcases Bs.1 ht with rfl | ht
    ·exact .inl rfl
    ·rcases k.par t ht with e | e
     ·exact .inr ar
     ·exact .inr ar
   ·rw[Ax];cases j with
    | zero=>
     cases hj;rw[Br];show((at_+L.length:Nat):Int)=((at_+((if p=((at_:Nat):Int) then _ else 0)+vV _ L (at_+1)):Nat):Int)/\_;rw[if_neg ar,An,k.all];exact⟨rfl,by show((at_+L.length:Nat):Int)<_;omega⟩
    | succ j=>
     have⟨a,b⟩:=k.sz j t hj;show t.2.2=((at_+(j+1)+((if p=((at_+(j+1):Nat):Int) then _ else 0)+vV _ L (at_+1)):Nat):Int)/\_;rw[if_neg ar,An,a,show at_+1+j=at_+(j+1) by omega];exact⟨rfl,by rw[<-show at_+1+j=at_+(j+1) by omega,<-a];omega⟩
   ·show(if p=p then(((at_+L.length:Nat):Int)+1 - (at_:Int)).toNat else 0)+vV p L (at_+1)=L.length+1;rw[if_pos rfl,yJ fun t ht=>by
     rcases k.par t ht with e | e
     ·omega
     ·omega]
    omega
   ·obtain⟨q,rfl⟩:∃q',q=q'+1:=⟨q - 1,ar⟩;cases j with
    | zero=>
     have hq':L[q]? =some u:=hq;rcases k.par u (Ar hq') with e | e
     ·omega
     ·omega
    | succ j=>
     have hj':L[j]? =some t:=hj;have hq':L[q]? =some u:=hq;have:=k.nest j q t u hj' hq' ar (by rw[show at_+1+q=at_+(q+1) by omega];exact hle)
     rwa [show at_+1+j=at_+(j+1) by omega] at this
  ·cases h
def oC(T:List dM)(i:Nat):Nat:=match T[i]? with | some t=>(t.2.2+1 - (i:Int)).toNat | none=>0
section
variable {T:List dM}
theorem aCV(k:KZ 0 (-1) T){i:Nat}(hi:i<T.length):oC T i=1+vV (i:Int) T 0/\oC T i<=T.length/\i+oC T i<=T.length:=by
 have⟨a,b⟩:=k.sz i T[i] (Ab hi);have e:oC T i=(T[i].2.2+1 - (i:Int)).toNat:=by unfold oC;rw[Ab hi]
 rw[An] at a b;omega
end
section
variable {one:aS}{seen:Bool}
end
section
variable {one:aS}{seen:Bool}
end
section
variable {one:aS}{seen:Bool}{c:Nat}
end
section
variable {one:aS}{seen:Bool}{c:Nat}{T:List dM}
end
end Go.Ev.Gl
