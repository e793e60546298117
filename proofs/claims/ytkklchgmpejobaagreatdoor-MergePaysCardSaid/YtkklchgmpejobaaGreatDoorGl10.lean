import Derived.Test.YtkklchgmpejobaaGreatDoorGl9
open Nat renaming reduceEqDiff → rE, reduceAdd → rA
set_option maxHeartbeats 16000000
set_option linter.unusedSimpArgs false
set_option linter.unusedVariables false
namespace Go.Ev.Gl
variable {fns:T cV}
def aQ8(S:St)(a b:AV)(l m:List Int)(k:Nat)(A:bQ)(X:St):Prop:=A.inr=false∧Same S X∧∃i,i+k=l.length∧l.take i=m.take i∧aD 0 A.F=a∧aD 1 A.F=b∧aD 12 A.F= .int .i64 ((l.length:Nat):Int)∧aD 13 A.F= .int .i64 (i:Int)
theorem yO{S:St}{a b:AV}{l m:List Int}(H:Has fns)(ha:cD .i64 S a l)(hb:cD .i64 S b m)(hl:l.length≤10000000):fR fns (.fn 56 [] []) [a,b] S fun r S'=>r= .bool (decide (l=m))∧Same S S':=by
 refine cE H.f56 (by simp) ?_;refine ah ?_;refine cC ?_;refine ah ?_;refine iP ?_;simp only[↓aA,aB,rE,↓reduceIte,rA,ha.len,hb.len,Ak];by_cases hlm:l.length=m.length;rotate_left
 ·rw[Aa (show ¬l=m from fun e=>hlm (by rw[e]))];refine aR (by simp only[↓aA,aB,rE,↓reduceIte,rA,Ad (show((l.length:Nat):Int)≠((m.length:Nat):Int) by omega)]) ?_;refine cC ?_;refine ah ?_;refine aU ?_;simp only[↓aA,aB,rE,↓reduceIte,rA];exact Same.refl _
 refine aO (by simp only[↓aA,aB,rE,↓reduceIte,rA,Aa (show ¬ ((l.length:Nat):Int)≠((m.length:Nat):Int) by omega)]) (aM ?_);try simp only[↓aA,aB,rE,↓reduceIte,rA]
 refine aC (bD (Q:=fun o A' X=>(o= .normal∧aQ8 S a b l m 0 A' X)∨(o= .ret∧Same S X∧l≠m∧aD 4 A'.F= .bool false)) (aC (aG ?_)) ?_)
 ·simp only[↓aA,aB,rE,↓reduceIte,rA,ha.len,Ak];refine aN (bT (aQ8 S a b l m) ?_ l.length _ _ ⟨rfl,Same.refl _,0,by omega,rfl,by refine⟨?_,?_,?_,?_⟩<;>simp only[↓aA,aB,rE,↓reduceIte,rA]⟩);rintro k ⟨F,inr⟩ X ⟨q0,hX,i,hik,he,p0,p1,p12,p13⟩;simp only at q0 p0 p1 p12 p13;subst q0;refine cC ?_;simp only[↓aA,aB,rE,↓reduceIte,rA,p12,p13];by_cases hlt:i<l.length
  ·refine aC (aR (by simp only[↓aA,aB,rE,↓reduceIte,rA,Ad (show(i:Int)<((l.length:Nat):Int) by omega)]) (aM ?_));try simp only[↓aA,aB,rE,↓reduceIte,rA]
   have hltm:i<m.length:=by omega
   have ia:=(ha.same hX).iaddr hlt;have la:=(ha.same hX).ld hlt;have ib:=(hb.same hX).iaddr hltm;have lb:=(hb.same hX).ld hltm;have w1:IntKind.i64.wrap ((i:Int)+1)=((i+1:Nat):Int):=by rw[wrap_i64 (by omega) (by omega)];omega
   refine aC (aN (aC (aG ?_)));simp only[↓aA,aB,rE,↓reduceIte,rA,p13];refine aC (kO ?_);simp only[↓aA,aB,rE,↓reduceIte,rA,p0,p1,aH,ia,ib,la,lb];have el:l.getD i 0=l[i]:=by rw[Ae,Ab hlt];rfl
   have em:m.getD i 0=m[i]:=by rw[Ae,Ab hltm];rfl
   by_cases hx:l.getD i 0=m.getD i 0
   ·refine aO (by simp only[↓aA,aB,rE,↓reduceIte,rA,Aa (show ¬l.getD i 0≠m.getD i 0 from fun h=>h hx)]) (aM ?_);try simp only[↓aA,aB,rE,↓reduceIte,rA]
    refine aG ?_;simp only[↓aA,aB,rE,↓reduceIte,rA,p13,w1];refine⟨k - 1,by omega,rfl,hX.trans (Same.nx _ _),i+1,by omega,?_,by refine⟨?_,?_,?_,?_⟩<;>simp only[↓aA,aB,rE,↓reduceIte,rA,p0,p1,p12]⟩;rw[Bw,Bw,he,Ab hlt,Ab hltm,←el,←em,hx]
   ·refine aR (by simp only[↓aA,aB,rE,↓reduceIte,rA,Ad (show l.getD i 0≠m.getD i 0 from hx)]) ?_;refine cC ?_;refine ah ?_;refine aU ?_;simp only[↓aA,aB,rE,↓reduceIte,rA];exact .inr ⟨hX.trans (Same.nx _ _),fun e=>hx (by rw[e])⟩
  ·refine aC (aO (by simp only[↓aA,aB,rE,↓reduceIte,rA,Aa (show ¬ (i:Int)<((l.length:Nat):Int) by omega)]) (bK ?_));simp only[↓aA,aB,rE,↓reduceIte,rA];have hk0:k=0:=by omega
   subst hk0;exact .inl ⟨rfl,hX,i,hik,he,by refine⟨?_,?_,?_,?_⟩<;>simp only[↓aA,aB,rE,↓reduceIte,rA,p0,p1,p12,p13]⟩
 rintro o ⟨F,inr⟩ X (⟨rfl,q0,hX,i,hik,he,p0,p1,p12,p13⟩ | ⟨rfl,hX,hne,p4⟩);rotate_left
 ·simp only at p4;simp only[↓aA,aB,rE,↓reduceIte,rA,p4];rw[Aa hne];exact⟨rfl,hX⟩
 simp only at q0;subst q0;rw[Bj (by omega),Bj (by omega)] at he;rw[Ad he];try simp only[↓aA,aB,rE,↓reduceIte,rA]
 refine cC ?_;refine ah ?_;refine aU ?_;simp only[↓aA,aB,rE,↓reduceIte,rA];exact hX
theorem aBd{h:Ev.T AB}{P P':Fr→Prop}(hP:∀F,P F→P' F):∀ (l:List AO) (F:Fr),mD l F h P→mD l F h P'
 | [],F,hr=>hP F hr
 | ⟨d,.q q,g,mm⟩::l,F,hr=>by
  simp only[mD] at hr ⊢;split at hr
  ·rename_i hw;rw[if_pos hw];obtain⟨w,hw1,hw2,hw3⟩:=hr;exact⟨w,hw1,hw2,aBd hP l _ hw3⟩
  ·rename_i hw;rw[if_neg hw];exact aBd hP l _ hr
 | ⟨d,.a a,g,mm⟩::l,F,hr=>by cases hr
 | ⟨d,.x a,g,mm⟩::l,F,hr=>by cases hr
section
variable {W:Nat→Prop}{S X Y:St}{b:Nat}
end
structure Lay where
 sb:Nat
 ob:Nat
 fb:Nat
 mb:Nat
 kb:Nat
 wb:Nat
 ib:Nat
 rb:Nat
 ab:Nat
 bs:Nat→Nat
 cs:List AV
section
variable {L:Lay}{S0 S1 X Y:St}{n:Nat}{mv:AV}{I F:List Int}{A:List (List Int)}
end
end Go.Ev.Gl
namespace Go.Ev.Gl
theorem aJ9{k:IntKind}{S:St}{v:AV}{l:List Int}(h:bB 1 (aOb k) S v l):cD k S v l:=by
 rcases h with h | ⟨b,off,cap,o,cs,rfl,h2,h3,h4,h5⟩
 ·exact .inl h
 ·refine .inr ⟨b,off,cap,o,cs,rfl,h2,h3,h4,fun i x hi=>?_⟩;obtain⟨e,e1,e2,rfl,_⟩:=h5 i x hi;have:=e2 0 _ rfl;rw[Eg,Bs] at this;exact this
abbrev aGz(k:IntKind):St→List AV→List Int→Prop:=aLo 1 (aOb k)
theorem aOi{k:IntKind}{S:St}{avs:List AV}{l:List Int}(h:aGz k S avs l):∃v,avs= [v]∧cD k S v l:=by
 obtain⟨v,h1,h2⟩:=aLo.is h;exact⟨v,h1,aJ9 h2⟩
def aJB(g:bH):Prop:=g.infos.length * 16≤140737488355328∧∀x∈g.nodes,x.next.length * 8≤140737488355328∧x.weights.length * 8≤140737488355328∧x.pay.length * 8≤140737488355328
section
variable {P:Program}{σ:Env}{S:St}{w:World}
theorem aNe{k:IntKind}{S:St}{avs:List AV}{l:List Int}(h:aGz k S avs l):l.length≤140737488355328:=by
 obtain⟨_,_,h,_⟩:=h;omega
theorem aEz{t:TypeId}{k:IntKind}{H:Type}{enc:TypeId×Value→H}{base:Nat}{spare:Nat→Bool}{held:Bool}{fuel:Nat}{v:Value}{x:DataW H×List MemPlace}(hR:jM P σ S w)(hn:aAz S)(hf:aAK S)(hG:P.globals.size≤S.nx)(hL:Lays P t (aGz k))(h:DataW.trod enc P w base spare held fuel t v.cells.toList=some x)(hv:v.cells.toList= [v])(hW:∀n∈DataW.weights P t x.1,n≤140737488355328):
  ∃σ' S' a l,rG P σ S w σ' S'∧Rv P σ' a v∧cD k S' a l∧l.length≤140737488355328∧S.nx≤S'.nx:=by
 obtain⟨σ',S',avs,l,hA,hr,h1,hE,hnx⟩:=hL H enc σ S w base spare held fuel _ x hR hn hf hG h hW;have hb:=aNe hE;obtain⟨a,rfl,i1⟩:=aOi hE;rw[hv] at hr;obtain⟨_,_,h2,h3,h4⟩:=cJ.1 hr;cases h2;exact⟨σ',S',a,l,hA,h3,i1,hb,hnx⟩
theorem aKN{t e:TypeId}{k:IntKind}(ht:P.underlying t=some (.slice e))(he:P.underlying e=some (.int k))(hc:P.cellsOf e=1)(hby:8≤P.bytesOf e):Lays P t (aGz k):=aHS ht hc (by decide) (by omega) (aMl he) aLp
end
end Go.Ev.Gl
