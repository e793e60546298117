import Derived.Test.YtdkehphobhnjoaaGl21
open Nat renaming reduceEqDiff -> rE, reduceAdd -> rA
set_option maxHeartbeats 0
set_option linter.unusedSimpArgs false
set_option linter.unusedVariables false
namespace Go.Ev.Gl
variable {fns:T dU}
theorem jX{S:St}{v:AV}{L:bt}{i:Nat}(h:aP 1 pF S v L)(hi:i<L.length):∃b q a,fC (.slice 1) v i=some (.ptr b q)/\bO .i64 S a (L.getD i [])/\b<S.nx/\∀X,Same S X->eQ (.ptr b q) false 1 X.h=some a:=by
 obtain⟨_,b,q,h1,h2,_,⟨a,rfl,h3⟩,_,h4⟩:=aP.at h bg (wQ hi);have h5:=h4 0 a rfl;rw[Bh] at h5;exact⟨b,q,a,h1,h3,h2,fun X hX=>by rw[oM hX h2];exact h5⟩
def aSz(S:St)(nv iv mv:AV)(g:bD)(L:bt)(k:Nat)(A:bS)(X:St):Prop:=A.inr=false/\Same S X/\S.nx<X.nx/\X.h.get S.nx=some (.cells [.int .i64 g.bo,nv,iv] false 0)/\∃j:Nat,j+k=L.length/\kD g L=kD g (L.drop j)/\aD 1 A.F=mv/\aD 2 A.F= .ptr S.nx 0/\aD 6 A.F= .int .i64 (j:Int)
theorem aGs{S:St}{nv iv mv:AV}{g:bD}{L:bt}(H:Has fns)(hn:aP 6 cI S nv g.bk)(hi:aP 2 cW S iv g.bn)(hln:g.bk.length<=100000)(hm:aP 1 pF S mv L):
  gH fns (.fn 32 [] []) [.agg [.int .i64 g.bo,nv,iv],mv] S fun r S'=>r= .int .i64 (jE g L)/\Same S S':=by
 have snv:=aP.self hn;have siv:=aP.self hi;refine cF H.f32 (by simp) ?_;refine af ?_;refine bQ ?_;refine dV (by refine af ?_;exact bL _) ?_;intro S1 s1 n1 g1;refine af ?_;refine fE (cm (iT g1) ?_);refine bE (af ?_);refine aQ (aIO H (aP.same (E:=cI) bT hn s1) (aP.same (E:=cW) cM hi s1) hln) ?_;rintro _ S2 ⟨rfl,s2⟩;have s12:=s1.trans s2;refine bQ (af ?_);by_cases h0:dB g=0;rotate_left
 ·have hE:jE g L=dB g:=by unfold jE;rw[if_pos h0]
  rw[hE];refine aM (fg (Ab (show dB g≠0 from h0))) ?_;refine bQ (af ?_);refine aR (af ?_);exact s12
 refine aK (fg (Aa (show ¬dB g≠0 from fun h=>h h0))) (aH ?_);refine af ?_;refine fE ?_;refine df ((aP.same (E:=pF) gL hm s12).len) @Ah ?_;by_cases h16:16<L.length
 ·have hE:jE g L=4:=by unfold jE;rw[if_neg (fun h=>h h0),if_pos h16]
  rw[hE];refine aM fe ?_;refine bQ (af ?_);refine aR (af ?_);exact s12
 have hE:jE g L=kD g L:=by unfold jE;rw[if_neg (fun h=>h h0),if_neg h16]
 rw[hE];refine aK fe (aH ?_);refine af ?_;have G:=iR h0;have m2:=s2.1;have hg2:S2.h.get S.nx=some (.cells [.int .i64 g.bo,nv,iv] false 0):=(s2.2 _ ay).trans g1;refine aA (aW (Q:=fun o A' X=>(o= .normal/\Same S X/\kD g L=0)\/(o= .ret/\Same S X/\aD 4 A'.F= .int .i64 (kD g L))) (aA (aG ?_)) ?_)
 ·refine af ?_;refine aL (bK (aSz S nv iv mv g L) ?_ L.length _ _ ⟨rfl,s12,ay,hg2,0,ay,rfl,ag,ag,ah⟩);clear hg2;rintro k ⟨F,inr⟩ X ⟨q0,hX,lgX,gX,j,hjk,hEj,p1,p2,p6⟩;simp only at q0 p1 p2 p6;subst q0;refine fE ?_;refine dk p1 p6 ((aP.same (E:=pF) gL hm hX).len) @Ah ?_;by_cases hlt:j<L.length;rotate_left
  ·refine aK fe (bG ?_);refine af ?_;obtain rfl:j=L.length:=by omega
   rw[List.drop_length] at hEj;exact .inl ⟨hX,hEj⟩
  refine aM fe (aH ?_);refine af ?_;have w1:=dc j
  have⟨xb,xq,a,xi,xs,xlt,xl⟩:=jX hm hlt;have xl:=xl X hX;have sa:=bO.self xs;have hxb:xb<X.nx:=Ae xlt hX.1;have himd:=aDs (g:=g) hlt;have hims:=aDI (g:=g) hlt;generalize L.getD j []=m at *;have l3:=iT gX;have sag:cT (.agg [.int .i64 g.bo,nv,iv]) (.agg [.int .i64 g.bo,nv,iv])=true:=by
   simp only[cT,nR,snv,siv,fT,lJ,decide_true,aO,beq_self_eq_true]
  refine aA (aL (aA (dO (fun _=>False) ?_)));intro X0 x0;simp only[↓sU,sD,rE,↓reduceIte,rA,p1,p2,p6,l3,lgX,Ap,sag,aJ,xi,xl,sa,hxb];refine cL rfl ?_;refine af ?_;refine aQ (aHT (ok:=iB g m) H (aP.same (E:=cI) bT hn (hX.trans x0)) (xs.same (hX.trans x0)) hln (fun h1 h2 _ S' hS'=>aQ (aH1 H (aP.same (E:=cI) bT hn ((hX.trans x0).trans hS')) (aP.same (E:=cW) cM hi ((hX.trans x0).trans hS')) (xs.same ((hX.trans x0).trans hS')) G ⟨h1,h2⟩) fun r S'' h=>by
   have⟨e1,a,b,t,e2,e3,_⟩:=h;exact⟨e1,a,b,t,e2,e3⟩)) ?_
  rintro _ X1 ⟨rfl,x1⟩;refine⟨x1,?_⟩;have sX1:=(hX.trans x0).trans x1;have gX1:=((x0.trans x1).2 _ lgX).trans gX;have lgX1:S.nx<X1.nx:=Ae lgX (x0.trans x1).1;refine bQ (af ?_);by_cases hm0:iF g.bk.length m (iB g m)=0;rotate_left
  ·rw[hims hm0] at hEj;refine aM (fg (Ab (show iF g.bk.length m (iB g m)≠0 from hm0))) ?_;refine bQ (af ?_);refine aR ?_;exact .inr ⟨rfl,sX1,ai hEj⟩
  refine aK (fg (Aa (show ¬iF g.bk.length m (iB g m)≠0 from fun h=>h hm0))) (aH ?_);refine af ?_;refine aG (df p6 w1 ?_);exact⟨k - 1,ay,rfl,sX1,lgX1,gX1,j+1,ay,by rw[hEj];exact himd hm0,by refine⟨?_,?_,?_⟩<;>simp only[↓sU,sD,rE,↓reduceIte,rA,p1,p2]⟩
 rintro o ⟨F,inr⟩ X (⟨rfl,hX,he0⟩ | ⟨rfl,hX,p4⟩)
 ·refine af ?_;refine bQ (af ?_);refine aR (cm he0 ?_);exact hX
 ·simp only at p4;refine cm p4 ?_;exact hX
abbrev K2:=Nat×Nat
def aAy{K V:Type} [DecidableEq K](k:K):List (K×V)->Nat->Option (Nat×V)
 | [],_=>none
 | (k',v)::l,i=>if k=k' then some (i,v) else aAy k l (i+1)
section
variable {K V:Type} [DecidableEq K]{l:List (K×V)}{k k':K}{v:V}
end
def aKD{K V:Type}(ek:K->AV)(ev:V->AV)(l:List (K×V)):List (AV×AV):=l.map fun p=>(ek p.1,ev p.2)
section
variable {K V:Type} [DecidableEq K]{ek:K->AV}{ev:V->AV}{sk:qF}
theorem aDX(he:∀a b,eqv sk (ek a) (ek b)=some (decide (a=b))){k:K}:∀ {l:List (K×V)} {i:Nat},qN sk (ek k) (aKD ek ev l) i=some ((aAy k l i).map fun p=>(p.1,ev p.2))
 | [],i=>rfl
 | (k',v)::l,i=>by
  show(bH (eqv sk (ek k) (ek k')) fun b=>cB b (some (some (i,ev v))) (qN sk (ek k) (aKD ek ev l) (Nat.succ i)))=_;rw[he,aN];show _=some ((if k=k' then some (i,v) else aAy k l (i+1)).map fun p=>(p.1,ev p.2));by_cases e:k=k'
  ·rw[Ab e,aO,if_pos e];rfl
  ·rw[Aa e,aT,if_neg e];exact aDX he
theorem aB6(he:∀a b,eqv sk (ek a) (ek b)=some (decide (a=b))){k:K}{l:List (K×V)}:pH sk (ek k) (aKD ek ev l)=some ((aAy k l 0).map fun p=>(p.1,ev p.2)):=by
 unfold pH;rw[he,aN];exact aDX he
end
section
variable {u:K2->Option K2}{E:K2->K2->Prop}{k a o r r' x:K2}
end
section
variable {g:bD}{L:bt}{m:bu}{first:bu}{act act':bt}
end
theorem qA{l:bu}{i:Nat}(h:i<l.length):l[i]? =some (l.getD i 0):=by rw[Ad,Ac h];rfl
theorem zW{S:St}{v:AV}{l:bu}{i:Nat}(h:bO .i64 S v l)(hi:i<l.length):∃b q,fC (.slice 1) v i=some (.ptr b q)/\b<S.nx/\eQ (.ptr b q) false 1 S.h=some (.int .i64 (l.getD i 0)):=by
 have⟨e,b,q,h1,h2,_,h3,_,h4⟩:=aP.at (toG h) bg (qA hi);have h3:e= [.int .i64 (l.getD i 0)]:=h3;subst h3;have h5:=h4 0 _ rfl;rw[Bh] at h5;exact⟨b,q,h1,h2,h5⟩
end Go.Ev.Gl
