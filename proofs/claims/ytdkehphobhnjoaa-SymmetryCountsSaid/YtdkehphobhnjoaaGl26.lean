import Derived.Test.YtdkehphobhnjoaaGl25
open Nat renaming reduceEqDiff -> rE, reduceAdd -> rA
set_option maxHeartbeats 0
set_option linter.unusedSimpArgs false
set_option linter.unusedVariables false
namespace Go.Ev.Gl
def sQ(W:bt)(m:bu):bt:=if m∈W then W else W++ [m]
def stepG(w:bu)(L W:bt):bt:=L.foldl (fun W m=>sQ W (cA w m)) W
def cQ(e:bu)(L:bt):Nat->bt
 | 0=>[e]
 | t+1=>if t<(cQ e L t).length then stepG ((cQ e L t).getD t []) L (cQ e L t) else cQ e L t
theorem aLU{W:bt}{m:bu}:∃R,sQ W m=W++R:=by
 unfold sQ;split
 ·exact⟨[],(Bi W).symm⟩
 ·exact⟨[m],rfl⟩
theorem aIz{W:bt}{m:bu}(h:W.Nodup):(sQ W m).Nodup:=by
 unfold sQ;split
 ·exact h
 ·rename_i hn;refine List.nodup_append.2 ⟨h,by simp,fun a ha b hb e=>?_⟩;rw[Ce] at hb;subst hb;subst e;exact hn ha
theorem aL8{W:bt}{m:bu}:m∈sQ W m:=by
 unfold sQ;split
 ·assumption
 ·simp
theorem qC{w:bu}:∀ {L W:bt},∃R,stepG w L W=W++R
 | [],W=>⟨[],(Bi W).symm⟩
 | m::L,W=>by
  have⟨R1,e1⟩:=aLU (W:=W) (m:=cA w m);have⟨R2,e2⟩:=qC (w:=w) (L:=L) (W:=sQ W (cA w m));refine⟨R1++R2,?_⟩;show stepG w L (sQ W (cA w m))=_;rw[e2,e1,Bd]
theorem aCl{w:bu}:∀ {L W:bt},W.Nodup->(stepG w L W).Nodup
 | [],_,h=>h
 | _::L,_,h=>aCl (L:=L) (aIz h)
theorem aFh{w:bu}:∀ {L W:bt} {m:bu},m∈L->cA w m∈stepG w L W
 | k::L,W,m,h=>by
  rcases Bm.1 h with rfl | h
  ·have⟨R,e⟩:=qC (w:=w) (L:=L) (W:=sQ W (cA w m));show cA w m∈stepG w L (sQ W (cA w m));rw[e];exact Dh _ aL8
  ·exact aFh (L:=L) h
theorem tH{Q:bu->Prop}{w:bu}:∀ {L W:bt},(∀x∈W,Q x)->(∀m∈L,Q (cA w m))->∀x∈stepG w L W,Q x
 | [],_,h,_=>h
 | m::L,W,h,hL=>tH (L:=L) (W:=sQ W (cA w m)) (fun x hx=>by
   unfold sQ at hx;split at hx
   ·exact h x hx
   ·rcases Bf.1 hx with hx | hx
    ·exact h x hx
    ·rw[Ce] at hx;subst hx;exact hL m (Br ..)) fun k hk=>hL k (Bj _ hk)
section
variable {e:bu}{L:bt}
theorem lS{t:Nat}:cQ e L (t+1)=if t<(cQ e L t).length then stepG ((cQ e L t).getD t []) L (cQ e L t) else cQ e L t:=rfl
theorem aM8{t:Nat}:∃R,cQ e L (t+1)=cQ e L t++R:=by
 rw[lS];split
 ·exact qC
 ·exact⟨[],(Bi _).symm⟩
theorem nB:∀ {t:Nat},(cQ e L t).Nodup
 | 0=>by simp [cQ]
 | t+1=>by
  rw[lS];split
  ·exact aCl nB
  ·exact nB
theorem aFw{s t:Nat}(h:s<=t):∃R,cQ e L t=cQ e L s++R:=by
 induction t with
 | zero=>
  obtain rfl:s=0:=by omega
  exact⟨[],(Bi _).symm⟩
 | succ t ih=>
  rcases Cd s (t+1) with h1 | h1
  ·have⟨R,e1⟩:=ih ay;have⟨R',e2⟩:=aM8 (e:=e) (L:=L) (t:=t);exact⟨R++R',by rw[e2,e1,Bd]⟩
  ·obtain rfl:s=t+1:=by omega
   exact⟨[],(Bi _).symm⟩
def aBw(e:bu)(L:bt)(M:Nat)(W:Option (bt)):Prop:=
 (∃t,W=some (cQ e L t)/\t=(cQ e L t).length/\(∀s,s<t->s<(cQ e L s).length)/\∀s,s<=t->(cQ e L s).length<=M)\/(W=none/\∃t,(∀s,s<=t->s<(cQ e L s).length)/\M<(cQ e L (t+1)).length)
theorem aE9{s t:Nat}(h:s<=t):(cQ e L s).length<=(cQ e L t).length:=by
 have⟨R,e1⟩:=aFw (e:=e) (L:=L) h;rw[e1,Ai];omega
theorem aD4{M:Nat}{W W':Option (bt)}(h:aBw e L M W)(h':aBw e L M W'):W=W':=by
 rcases h with⟨t,rfl,e1,l1,b1⟩ | ⟨rfl,t,l1,b1⟩
 ·rcases h' with⟨t',rfl,e2,l2,b2⟩ | ⟨rfl,t',l2,b2⟩
  ·rcases Dt t t' with h | h | h
   ·have:=l2 t h;omega
   ·rw[h]
   ·have:=l1 t' h;omega
  ·rcases Cd t' t with h | h
   ·have:=b1 (t'+1) ay;omega
   ·have:=l2 t h;omega
 ·rcases h' with⟨t',rfl,e2,l2,b2⟩ | ⟨rfl,t',l2,b2⟩
  ·rcases Cd t t' with h | h
   ·have:=b2 (t+1) ay;omega
   ·have:=l1 t' h;omega
  ·rfl
end
end Go.Ev.Gl
namespace Go.Ev.Gl
def lQ:bu->bu->Prop
 | [],b=>b≠ []
 | _::_,[]=>False
 | x::a,y::b=>x<y\/(x=y/\lQ a b)
theorem oJ:∀ {a:bu},¬lQ a a
 | [],h=>h rfl
 | x::a,h=>by
  rcases h with h | ⟨_,h⟩
  ·omega
  ·exact oJ h
theorem tL:∀ {a b c:bu},lQ a b->lQ b c->lQ a c
 | [],b,[],h1,h2=>by
  cases b with
  | nil=>exact absurd rfl h1
  | cons y b=>exact h2.elim
 | [],_,_::_,_,_=>fun h=>by cases h
 | x::a,[],_,h1,_=>h1.elim
 | x::a,y::b,[],_,h2=>h2.elim
 | x::a,y::b,z::c,h1,h2=>by
  rcases h1 with h1 | ⟨rfl,h1⟩
  ·rcases h2 with h2 | ⟨rfl,_⟩
   ·exact .inl ay
   ·exact .inl h1
  ·rcases h2 with h2 | ⟨rfl,h2⟩
   ·exact .inl h2
   ·exact .inr ⟨rfl,tL h1 h2⟩
theorem aCz:∀ (a b:bu),a=b\/lQ a b\/lQ b a
 | [],[]=>.inl rfl
 | [],_::_=>.inr (.inl fun h=>by cases h)
 | _::_,[]=>.inr (.inr fun h=>by cases h)
 | x::a,y::b=>by
  rcases Int.lt_trichotomy x y with h | h | h
  ·exact .inr (.inl (.inl h))
  ·subst h;rcases aCz a b with rfl | h | h
   ·exact .inl rfl
   ·exact .inr (.inl (.inr ⟨rfl,h⟩))
   ·exact .inr (.inr (.inr ⟨rfl,h⟩))
  ·exact .inr (.inr (.inl h))
theorem aKz{a b:bu}(h:lQ a b):¬lQ b a:=fun h'=>oJ (tL h h')
theorem aCQ:∀ {P Q:bt},P.Perm Q->P.Pairwise lQ->Q.Pairwise lQ->P=Q
 | [],Q,h,_,_=>(List.nil_perm.1 h).symm
 | p::P,[],h,_,_=>(List.perm_nil.1 h)
 | p::P,q::Q,h,hp,hq=>by
  have e:p=q:=by
   rcases Bm.1 (h.mem_iff.1 (Br ..)) with e | h1
   ·exact e
   ·rcases Bm.1 (h.mem_iff.2 (Br (a:=q) (l:=Q))) with e | h2
    ·exact e.symm
    ·exact absurd ((Dz.1 hq).1 p h1) (aKz ((Dz.1 hp).1 q h2))
  subst e;rw[aCQ (List.perm_cons p |>.1 h) (Dz.1 hp).2 (Dz.1 hq).2]
end Go.Ev.Gl
namespace Go.Ev.Gl
def lA(m:bu):b9:=m.flatMap fun x=>[x.toNat / 256,x.toNat % 256]
theorem aGM:∀ {a b:bu},(∀x∈a,0<=x)->(∀x∈b,0<=x)->lA a=lA b->a=b
 | [],[],_,_,_=>rfl
 | [],y::b,_,_,h=>by simp [lA] at h
 | x::a,[],_,_,h=>by simp [lA] at h
 | x::a,y::b,ha,hb,h=>by
  have h: [x.toNat / 256,x.toNat % 256]++lA a= [y.toNat / 256,y.toNat % 256]++lA b:=h;simp only[Ck,Bq,List.cons.injEq] at h;have⟨h1,h2,h3⟩:=h;have hx:=ha x (Br ..);have hy:=hb y (Br ..);rw[aGM (fun z hz=>ha z (Bj _ hz)) (fun z hz=>hb z (Bj _ hz)) h3,show x=y by omega]
theorem aFc{w:bu}{A B W:bt}:stepG w (A++B) W=stepG w B (stepG w A W):=by
 unfold stepG;rw[List.foldl_append]
theorem aKH{w m:bu}{W:bt}:stepG w [m] W=sQ W (cA w m):=rfl
theorem zU{w:bu}{L W:bt}{k:Nat}(h:k<L.length):stepG w (L.take (k+1)) W=sQ (stepG w (L.take k) W) (cA w (L.getD k [])):=by
 rw[Bx,Ac h,Ad,Ac h];show stepG w (L.take k++ [L[k]]) W=_;rw[aFc,aKH];rfl
theorem aIt{w:bu}{L W:bt}{k:Nat}:(stepG w (L.take k) W).length<=(stepG w L W).length:=by
 have e:stepG w L W=stepG w (L.drop k) (stepG w (L.take k) W):=by rw[<-aFc,Dq]
 have⟨R,h⟩:=qC (w:=w) (L:=L.drop k) (W:=stepG w (L.take k) W);rw[e,h,Ai];omega
theorem aIG{w:bu}{L W:bt}{k M:Nat}(h:k<L.length)(hl:(stepG w (L.take k) W).length=M)(hn:cA w (L.getD k [])∉stepG w (L.take k) W):M<(stepG w L W).length:=by
 have h1:=aIt (w:=w) (L:=L) (W:=W) (k:=k+1);rw[zU h] at h1;unfold sQ at h1;rw[if_neg hn,Ai,hl,Av] at h1;omega
theorem aCH{w m:bu}{n:Nat}(hw:∀x∈w,0<=x/\x<n)(hm:m.length=n)(h:∀x∈m,0<=x/\x<n):(cA w m).length=w.length/\∀x∈cA w m,0<=x/\x<n:=by
 unfold cA;refine⟨Ay ..,fun x hx=>?_⟩;obtain⟨y,hy,rfl⟩:=Dl.1 hx;have:=hw y hy;have hlt:y.toNat<m.length:=by omega
 rw[Ad,Ac hlt];exact h _ (Bo hlt)
theorem aCI{e:bu}{L:bt}{n:Nat}(he:e.length=n/\∀x∈e,0<=x/\x<n)(hL:∀m∈L,m.length=n/\∀x∈m,0<=x/\x<n):∀ {t:Nat},∀w∈cQ e L t,w.length=n/\∀x∈w,0<=x/\x<n
 | 0=>fun w hw=>by
  have:w=e:=by simpa [cQ] using hw
  rw[this];exact he
 | t+1=>fun w hw=>by
  rw[lS] at hw;split at hw
  ·rename_i ht;have hw0:(cQ e L t).getD t []∈cQ e L t:=by
    rw[Ad,Ac ht];exact Bo ht
   refine tH (Q:=fun w=>w.length=n/\∀x∈w,0<=x/\x<n) (fun x hx=>aCI he hL x hx) (fun m hm=>?_) w hw;have⟨a,b⟩:=aCI he hL _ hw0;have⟨c,d⟩:=aCH b (hL m hm).1 (hL m hm).2;exact⟨by rw[c,a],d⟩
  ·exact aCI he hL w hw
end Go.Ev.Gl
namespace Go.Ev.Gl
end Go.Ev.Gl
namespace Go.Ev.Gl
structure NZ(r:Nat)(L:List cK):Prop where
 nest:∀ (j q:Nat) (t u:cK),L[j]? =some t->L[q]? =some u->j<=q->((r+q:Nat):Int)<=t.2.2->u.2.2<=t.2.2
 par:∀ (j q:Nat) (t u:cK),L[j]? =some t->L[q]? =some u->u.1=((r+j:Nat):Int)->((r+q:Nat):Int)<=t.2.2
theorem NZ.nil{r:Nat}:NZ r []:=⟨fun j q t u h=>by simp at h,fun j q t u h=>by simp at h⟩
theorem NZ.app{r:Nat}{p:Int}{L M:List cK}(hp:p<(r:Int))(k1:KZ r p L)(k2:KZ (r+L.length) p M)(h1:NZ r L)(h2:NZ (r+L.length) M):NZ r (L++M):=by
 refine⟨fun j q t u hj hq hle hr=>?_,fun j q t u hj hq he=>?_⟩
 ·by_cases a:j<L.length
  ·rw[Al a] at hj;have hs:=(k1.sz j t hj).2;rw[Al ay] at hq;exact h1.nest j q t u hj hq hle hr
  ·rw[Am ay] at hj hq;exact h2.nest _ _ t u hj hq ay (by rw[show r+L.length+(q - L.length)=r+q by omega];exact hr)
 ·by_cases a:j<L.length
  ·rw[Al a] at hj;by_cases b:q<L.length
   ·rw[Al b] at hq;exact h1.par j q t u hj hq he
   ·rw[Am ay] at hq;rcases k2.par u (Bu hq) with e | e
    ·omega
    ·omega
  ·by_cases b:q<L.length
   ·rw[Al b] at hq;rcases k1.par u (Bu hq) with e | e
    ·omega
    ·omega
   ·rw[Am ay] at hj hq;have:=h2.par _ _ t u hj hq (by rw[show r+L.length+(j - L.length)=r+j by omega];exact he)
    rwa [show r+L.length+(q - L.length)=r+q by omega] at this
theorem aJN{rec:Nat->Option (List cK)}{p:Int}(hr:∀ (r:Nat) (L:List cK),p<(r:Int)->rec r=some L->KZ r p L/\NZ r L):∀ {l:bu} {r:Nat} {L:List cK},p<(r:Int)->fH rec l r=some L->NZ r L
 | [],r,L,_,h=>by
  have h:some []=some L:=h;cases h;exact NZ.nil
 | c::l,r,L,hp,h=>by
  simp only[fH] at h;split at h
  ·have⟨L1,h1,h2⟩:=Co.1 h;obtain⟨L2,h3,rfl⟩:=Az.1 h2;have k2:=aCE (fun r L a b=>(hr r L a b).1) (ay:p<((r+L1.length:Nat):Int)) h3;exact NZ.app hp (hr r L1 hp h1).1 k2 (hr r L1 hp h1).2 (aJN hr ay h3)
  ·cases h
theorem aF1{N:Nat}{nx:Nat->bu}:∀ {f at_:Nat} {p d:Int} {T:List cK},p<(at_:Int)->eJ N nx f at_ p d=some T->NZ at_ T
 | 0,_,_,_,_,_,h=>by cases h
 | f+1,at_,p,d,T,hp,h=>by
  have K:=pR hp h;simp only[eJ] at h;split at h
  ·obtain⟨L,h1,rfl⟩:=Az.1 h;have k:=aCE (p:=(at_:Int)) (fun r L hr hL=>pR hr hL) ay h1;have n:=aJN (p:=(at_:Int)) (fun r L hr hL=>⟨pR hr hL,aF1 hr hL⟩) ay h1;refine⟨fun j q t u hj hq hle hr=>?_,fun j q t u hj hq he=>?_⟩
   ·cases j with
    | zero=>
     cases hj;have:=(K.sz q u hq).2;rw[Aw] at this;show u.2.2<=((at_+L.length:Nat):Int);omega
    | succ j=>
     obtain⟨q,rfl⟩:∃q',q=q'+1:=⟨q - 1,ay⟩;exact n.nest j q t u hj hq ay (by rw[show at_+1+q=at_+(q+1) by omega];exact hr)
   ·cases j with
    | zero=>
     cases hj;have:=(Aj.1 hq).1;rw[Aw] at this;show((at_+q:Nat):Int)<=((at_+L.length:Nat):Int);omega
    | succ j=>
     cases q with
     | zero=>
      cases hq;have he:p=((at_+(j+1):Nat):Int):=he;omega
     | succ q=>
      have:=n.par j q t u hj hq (by rw[show at_+1+j=at_+(j+1) by omega];exact he)
      rwa [show at_+1+q=at_+(q+1) by omega] at this
  ·cases h
theorem aJl{g:bD}{T:List cK}(hT:fJ g=some T)(hl:T.length=g.bk.length){a i:Nat}(ha:a<g.bk.length)(hi:a<=i/\i<a+fA T a)(hin:i<g.bk.length){c:Int}(hc:c∈(cd g i).next):(i:Int)<c/\c<((a+fA T a:Nat):Int):=by
 have hw:eJ g.bk.length (dN g) (g.bk.length+1) 0 (-1) 0=some T:=hT;have K:=pR bg hw;have n:=aF1 bg hw;have hf:=lK hw;have hnx:dN g (0+i)=(cd g i).next:=by rw[An];exact gS g i
 have⟨c1,c2,c3⟩:=hf.cf i ay c (by rw[hnx];exact hc);have last:∀j (hj:j<T.length),T[j].2.2=((j+fA T j - 1:Nat):Int)/\1<=fA T j:=fun j hj=>by
  have h1:=K.sz j T[j] (Ac hj);have h2:=xU K hj;rw[An] at h1;omega
 have hcl:c.toNat<T.length:=by omega
 have hpar:T[c.toNat].1=((0+i:Nat):Int):=by
  unfold kH at c3;rw[Eu,Ac hcl] at c3;exact Bl c3
 have hil:i<T.length:=by omega
 have hal:a<T.length:=by omega
 have e1:=n.par i c.toNat _ _ (Ac hil) (Ac hcl) hpar;have e2:=n.nest a i _ _ (Ac hal) (Ac hil) hi.1 (by rw[(last a hal).1];omega);rw[(last i hil).1] at e1 e2;rw[(last a hal).1] at e2;have:=(last a hal).2;have:=(last i hil).2;omega
end Go.Ev.Gl
namespace Go.Ev.Gl
end Go.Ev.Gl
namespace Go.Ev.Gl
def aM3(W:bt)(i k:Nat):Prop:=∃ (x:bu) (A B R:bt),W=A++x::(B++R)/\A.length=k/\A.length+B.length=i/\(A++B).Pairwise lQ/\∀b∈B,lQ x b
def aKP(W:bt)(k:Nat):bt:=(W.set (k+1) (W.getD k [])).set k (W.getD (k+1) [])
theorem aKT{W:bt}{i:Nat}(hi:i<W.length)(h:(W.take i).Pairwise lQ):aM3 W i i:=by
 refine⟨W[i],W.take i,[],W.drop (i+1),?_,by rw[Bp];omega,by rw[Bp];simp;omega,by rw[Bi];exact h,fun b hb=>by cases hb⟩;rw[Bq]
 conv=>lhs;rw[<-Dq i W,Cg hi]
theorem aN2{A R:bt}{y x:bu}:aKP (A++y::x::R) A.length=A++x::y::R:=by
 have e1:(A++y::x::R).getD A.length []=y:=by
  rw[Ad,Am (Ag _),Dn];rfl
 have e2:(A++y::x::R).getD (A.length+1) []=x:=by
  rw[Ad,Am ay,show A.length+1 - A.length=1 by omega];rfl
 unfold aKP;rw[e1,e2,List.set_append_right _ _ ay,List.set_append_right _ _ (Ag _),show A.length+1 - A.length=1 by omega,Dn];rfl
theorem aLI{W:bt}{i k:Nat}(h:aM3 W i (k+1))(hl:lQ (W.getD (k+1) []) (W.getD k [])):aM3 (aKP W k) i k/\(aKP W k).Perm W:=by
 obtain⟨x,A,B,R,rfl,h1,h2,h3,h4⟩:=h;obtain⟨A',y,rfl⟩:∃A' y,A=A'++ [y]:=by
  rcases List.eq_nil_or_concat A with e | ⟨A',y,e⟩
  ·rw[e] at h1;cases h1
  ·exact⟨A',y,by rw[e,List.concat_eq_append]⟩
 have hk:A'.length=k:=by simpa using h1
 subst hk;have e0:(A'++ [y])++x::(B++R)=A'++y::x::(B++R):=by simp
 rw[e0] at hl ⊢;have e1:(A'++y::x::(B++R)).getD A'.length []=y:=by
  rw[Ad,Am (Ag _),Dn];rfl
 have e2:(A'++y::x::(B++R)).getD (A'.length+1) []=x:=by
  rw[Ad,Am ay,show A'.length+1 - A'.length=1 by omega];rfl
 rw[e1,e2] at hl;rw[aN2];refine⟨⟨x,A',y::B,R,by simp,rfl,by simp at h2 ⊢;omega,by simpa using h3,fun b hb=>?_⟩,List.Perm.append_left A' (List.Perm.swap y x _)⟩;rcases Bm.1 hb with rfl | hb
 ·exact hl
 ·exact h4 b hb
theorem aJF{W:bt}{i k:Nat}(h:aM3 W i k)(hn:W.Nodup)(he:k=0\/¬lQ (W.getD k []) (W.getD (k - 1) [])):(W.take (i+1)).Pairwise lQ:=by
 obtain⟨x,A,B,R,rfl,h1,h2,h3,h4⟩:=h;have et:(A++x::(B++R)).take (i+1)=A++x::B:=by
  rw[show A++x::(B++R)=(A++x::B)++R by simp,En (by simp;omega),Bb (by simp;omega)]
 rw[et];have⟨p1,p2,p3⟩:=List.pairwise_append.1 h3;have hA:∀a∈A,lQ a x:=by
  rcases List.eq_nil_or_concat A with e | ⟨A',y,e⟩
  ·rw[e];intro a ha;cases ha
  ·rw[List.concat_eq_append] at e;subst e;have hk:k=A'.length+1:=by simpa using h1.symm
   subst hk;have e0:(A'++ [y])++x::(B++R)=A'++y::x::(B++R):=by simp
   rw[e0] at he hn;have e1:(A'++y::x::(B++R)).getD A'.length []=y:=by
    rw[Ad,Am (Ag _),Dn];rfl
   have e2:(A'++y::x::(B++R)).getD (A'.length+1) []=x:=by
    rw[Ad,Am ay,show A'.length+1 - A'.length=1 by omega];rfl
   rw[Ez,e1,e2] at he;have hne:y≠x:=fun e=>by
    subst e;have:=(List.nodup_append.1 hn).2.1;simp at this
   have hyx:lQ y x:=by
    rcases aCz y x with e | e | e
    ·exact absurd e hne
    ·exact e
    ·exact absurd e (he.resolve_left ay)
   intro a ha;rcases Bf.1 ha with ha | ha
   ·have hay:=(List.pairwise_append.1 p1).2.2 a ha y (Ce.2 rfl);exact tL hay hyx
   ·rw[Ce] at ha;subst ha;exact hyx
 refine List.pairwise_append.2 ⟨p1,Dz.2 ⟨h4,p2⟩,fun a ha b hb=>?_⟩;rcases Bm.1 hb with rfl | hb
 ·exact hA a ha
 ·exact p3 a ha b hb
variable {fns:T dU}
theorem aIv:∀ {i:Nat} {a b:bu},a.take i=b.take i->i<a.length->i<b.length->a.getD i 0≠b.getD i 0->(lQ a b↔a.getD i 0<b.getD i 0)
 | 0,x::a,y::b,_,_,_,hn=>by
  have hn:x≠y:=hn;show(x<y\/x=y/\lQ a b)↔x<y;exact⟨fun h=>h.resolve_right fun h=>hn h.1,.inl⟩
 | i+1,x::a,y::b,h,h1,h2,hn=>by
  simp only[Ca,List.cons.injEq] at h;obtain⟨rfl,h⟩:=h;have:=aIv (i:=i) (a:=a) (b:=b) h (by simpa using h1) (by simpa using h2) hn;show(x<x\/x=x/\lQ a b)↔_;rw[show(x::a).getD (i+1) 0=a.getD i 0 from rfl,show(x::b).getD (i+1) 0=b.getD i 0 from rfl,<-this];exact⟨fun h=>(h.resolve_left ay).2,fun h=>.inr ⟨rfl,h⟩⟩
def aSf(S:St)(v w:AV)(a b:bu)(k:Nat)(A:bS)(X:St):Prop:=A.inr=false/\Same S X/\∃i,i+k=a.length/\a.take i=b.take i/\aD 0 A.F=v/\aD 1 A.F=w/\aD 5 A.F= .int .i64 (i:Int)
theorem aJd{S:St}{v w:AV}{a b:bu}(H:Has fns)(ha:bO .i64 S v a)(hb:bO .i64 S w b)(hl:a.length=b.length)(hn:a.length<=100000):gH fns (.fn 36 [] []) [v,w] S fun r S'=>Same S S'/\∃t,r= .bool t/\(t=true↔lQ a b):=by
 refine cF H.f36 (by simp) ?_;refine af ?_;refine bQ (af ?_);refine aA (aW (Q:=fun o A' X=>(o= .normal/\A'.inr=false/\Same S X/\a=b)\/(o= .ret/\Same S X/\∃t,aD 4 A'.F= .bool t/\(t=true↔lQ a b))) (aA (aG ?_)) ?_)
 ·refine af ?_;refine aL (bK (aSf S v w a b) ?_ a.length _ _ ⟨rfl,de _,0,ay,rfl,ag,ag,ah⟩);rintro k ⟨F,inr⟩ X ⟨q0,hX,i,hik,he,p0,p1,p5⟩;simp only at q0 p0 p1 p5;subst q0;refine fE (dk p0 p5 ha.len @Ah ?_);by_cases hlt:i<a.length;rotate_left
  ·refine aK fe (bG ?_);refine af ?_;rw[Bb ay,Bb ay] at he;exact .inl ⟨hX,he⟩
  refine aM fe (aH ?_);refine af ?_;have w1:=dc i
  have⟨b1,q1,i1,_,l1⟩:=zW (ha.same hX) hlt;have⟨b2,q2,i2,_,l2⟩:=zW (hb.same hX) (ay:i<b.length);refine aA (aL (aA (iJ ?_)));refine dy p0 p1 p5 @aJ i1 i2 l1 l2 ?_;by_cases hx:a.getD i 0=b.getD i 0
  ·refine aK (fg (Aa (show ¬a.getD i 0≠b.getD i 0 from fun h=>h hx))) (aH ?_);refine af ?_;refine aG (df p5 w1 ?_);refine⟨k - 1,ay,rfl,hX.trans (Same.nx _ _),i+1,ay,?_,by refine⟨?_,?_,?_⟩<;>simp only[↓sU,sD,rE,↓reduceIte,rA,p0,p1]⟩;rw[Bx,Bx,he,qA hlt,qA (ay:i<b.length),hx]
  ·refine aM (fg (Ab (show a.getD i 0≠b.getD i 0 from hx))) ?_;have hX':=hX.trans (Same.nx X (X.nx+9));have⟨b1,q1,i1,_,l1⟩:=zW (ha.same hX') hlt;have⟨b2,q2,i2,_,l2⟩:=zW (hb.same hX') (ay:i<b.length);refine aA (iJ ?_);refine dy p0 p1 p5 @aJ i1 i2 l1 l2 ?_;refine aR (af ?_);refine .inr ⟨hX.trans ((Same.nx _ _).trans (Same.nx _ _)),_,rfl,?_⟩;rw[Cq];exact(aIv he hlt ay hx).symm
 rintro o ⟨F,inr⟩ X (⟨rfl,q0,hX,rfl⟩ | ⟨rfl,hX,t,p4,ht⟩);rotate_left
 ·simp only at p4;refine cm p4 ?_;exact⟨hX,t,rfl,ht⟩
 simp only at q0;subst q0;refine af ?_;refine bQ (af ?_);refine aR (af ?_);exact⟨hX,_,rfl,fun h=>(by cases h),fun h=>absurd h oJ⟩
def aSZ(S:St)(v w:AV)(a b:bu)(k:Nat)(A:bS)(X:St):Prop:=A.inr=false/\Same S X/\∃i,i+k=a.length/\a.take i=b.take i/\aD 0 A.F=v/\aD 1 A.F=w/\aD 9 A.F=v/\aD 10 A.F= .int .i64 (a.length:Int)/\aD 11 A.F= .int .i64 (i:Int)
theorem aKh{S:St}{v w:AV}{a b:bu}(H:Has fns)(ha:bO .i64 S v a)(hb:bO .i64 S w b)(hl:a.length=b.length)(hn:a.length<=100000):gH fns (.fn 41 [] []) [v,w] S fun r S'=>Same S S'/\∃c:Int,r= .int .i64 c/\(c<0↔lQ a b):=by
 refine cF H.f41 (by simp) ?_;refine af ?_;refine bQ (af ?_);refine aA (aW (Q:=fun o A' X=>(o= .normal/\A'.inr=false/\Same S X/\a=b/\aD 0 A'.F=v/\aD 1 A'.F=w)\/(o= .ret/\Same S X/\∃c:Int,aD 4 A'.F= .int .i64 c/\(c<0↔lQ a b))) (aA (aG ?_)) ?_)
 ·refine df ha.len @Ah ?_;refine aL (bK (aSZ S v w a b) ?_ a.length _ _ ⟨rfl,de _,0,ay,rfl,ag,ag,ag,ag,ah⟩);rintro k ⟨F,inr⟩ X ⟨q0,hX,i,hik,he,p0,p1,p9,p10,p11⟩;simp only at q0 p0 p1 p9 p10 p11;subst q0;refine bQ (df p10 p11 ?_);by_cases hlt:i<a.length;rotate_left
  ·refine aA (aK fe (bG ?_));refine af ?_;rw[Bb ay,Bb ay] at he;exact .inl ⟨hX,he,by refine⟨?_,?_⟩<;>simp only[↓sU,sD,rE,↓reduceIte,rA,p0,p1]⟩
  refine aA (aM fe (aH ?_));refine af ?_;have w1:=dc i
  have⟨b1,q1,i1,_,l1⟩:=zW (ha.same hX) hlt;have⟨b2,q2,i2,_,l2⟩:=zW (hb.same hX) (ay:i<b.length);refine aA (aL (aA (aG ?_)));refine dt p9 p11 @aJ i1 l1 ?_;refine fE ?_;refine dh p1 ((hb.same hX).len) @Ah ?_;refine aK fe (aH ?_);refine af ?_;refine bQ (dk p1 @aJ i2 l2 ?_);refine bQ (af ?_);refine bE (af ?_);refine aQ (aFs H) ?_;rintro _ _ ⟨rfl,rfl⟩;refine bQ (af ?_);by_cases hx:a.getD i 0=b.getD i 0
  ·have hz:=(aEN (a.getD i 0) (b.getD i 0)).2 hx;refine aK (fg (Aa (show ¬aGC (a.getD i 0) (b.getD i 0)≠0 from fun h=>h hz))) (aH ?_);refine af ?_;refine aG (df p11 w1 ?_);refine⟨k - 1,ay,rfl,hX,i+1,ay,?_,by refine⟨?_,?_,?_,?_,?_⟩<;>simp only[↓sU,sD,rE,↓reduceIte,rA,p0,p1,p9,p10]⟩;rw[Bx,Bx,he,qA hlt,qA (ay:i<b.length),hx]
  ·have hz:aGC (a.getD i 0) (b.getD i 0)≠0:=fun h=>hx ((aEN _ _).1 h);refine aM (fg (Ab hz)) ?_;refine bQ (af ?_);refine aR (af ?_);exact .inr ⟨hX,_,rfl,by rw[aLM];exact(aIv he hlt ay hx).symm⟩
 rintro o ⟨F,inr⟩ X (⟨rfl,q0,hX,rfl,p0,p1⟩ | ⟨rfl,hX,c,p4,hc⟩);rotate_left
 ·simp only at p4;refine cm p4 ?_;exact⟨hX,c,rfl,hc⟩
 simp only at q0 p0 p1;subst q0;refine af ?_;refine fE ?_;refine dt p0 p1 ((ha.same hX).len) ((hb.same hX).len) @Ah ?_;refine aK fe (aH ?_);refine af ?_;refine bQ (af ?_);refine aR (af ?_);exact⟨hX,0,rfl,fun h=>ay,fun h=>absurd h oJ⟩
def GrN(S0 X:St)(v:AV)(n:Nat)(cs:b6):Prop:=(∃b x,v= .sl b 0 1 1 false/\n=1/\cs= [x]/\S0.nx<=b/\b<X.nx/\X.h.get b=some (.cells [x] false 0))\/(0<n/\fX 1 S0 X v n cs)
section
variable {S0 X X':St}{v:AV}{n:Nat}{cs:b6}
theorem GrN.pos(h:GrN S0 X v n cs):0<n:=by
 rcases h with⟨b,x,_,rfl,_⟩ | ⟨h,_⟩
 ·exact Nat.one_pos
 ·exact h
theorem GrN.csl(h:GrN S0 X v n cs):cs.length=n:=by
 rcases h with⟨b,x,_,rfl,rfl,_⟩ | ⟨_,h⟩
 ·rfl
 ·rw[h.csl,Dm]
theorem GrN.move(h:GrN S0 X v n cs)(hn:X.nx<=X'.nx)(hh:∀c,aX v=some c->X'.h.get c=X.h.get c):GrN S0 X' v n cs:=by
 rcases h with⟨b,x,rfl,h1,h2,h3,h4,h5⟩ | ⟨h0,h⟩
 ·exact .inl ⟨b,x,rfl,h1,h2,h3,Ae h4 hn,(hh b rfl).trans h5⟩
 ·exact .inr ⟨h0,h.move hn hh⟩
theorem GrN.at(h:GrN S0 X v n cs):∃b o s,v= .sl b 0 n n o/\S0.nx<=b/\b<X.nx/\X.h.get b=some (.cells cs o s):=by
 rcases h with⟨b,x,rfl,rfl,rfl,h3,h4,h5⟩ | ⟨h0,h⟩
 ·exact⟨b,false,0,rfl,h3,h4,h5⟩
 ·rcases h with⟨_,e,_⟩ | ⟨b,rfl,h1,h2,h3,_⟩
  ·omega
  ·exact⟨b,true,1,rfl,h1,h2,h3⟩
theorem GrN.blk{c:Nat}(h:GrN S0 X v n cs)(hc:aX v=some c):S0.nx<=c/\c<X.nx:=by
 obtain⟨b,o,s,rfl,h1,h2,_⟩:=h.at;cases hc;exact⟨h1,h2⟩
theorem GrN.step(h:GrN S0 X v n cs)(hs:Same X X'):GrN S0 X' v n cs:=h.move hs.1 fun c hc=>hs.2 c (h.blk hc).2
theorem GrN.len(h:GrN S0 X v n cs):jD v=some (.int .i64 ((n:Nat):Int)):=by
 obtain⟨b,o,s,rfl,_⟩:=h.at;rfl
theorem GrN.push1{bytes t:Nat}{x:AV}(h:GrN S0 X v n cs)(hS:Same S0 X)(ht:X.h.get t=some (.cells [x] false 0))(h1:n+1<=room)(h2:(n+1) * bytes<=room):
  ∃v' X',fN bytes 1 v (.sl t 0 1 1 false) X=some (v',X')/\GrN S0 X' v' (n+1) (cs++ [x])/\aX v'=some X.nx/\X'.nx=X.nx+1/\∀c,c<X.nx->aX v≠some c->X'.h.get c=X.h.get c:=by
 rcases h with⟨b,y,rfl,rfl,rfl,h3,h4,h5⟩ | ⟨h0,h⟩
 ·have hs:=aOq ht;have h1:1+1<=room:=h1;have h2:(1+1) * bytes<=room:=h2;refine⟨.sl X.nx 0 2 2 true,⟨X.h.set X.nx (some (.cells [y,x] true 1)),X.nx+1⟩,?_,.inr ⟨ay,.inr ⟨X.nx,rfl,hS.1,by simp,?_,rfl⟩⟩,rfl,rfl,fun c hc _=>(Same.alloc X _).2 c hc⟩
  ·show(bH (some 1) fun j=>bH (eE (.sl t 0 1 1 false) X.h 1 j) fun new=>yA (.sl b 0 1 1 false) bytes 1 j new X)=_;rw[aN,hs,aN];show jK bytes 1 b 0 1 1 false 1 [x] X=_;unfold jK;rw[show Nat.ble (1+1) 1=false from rfl,aT,Ak h1,aO,Ak h2,aO,h5,aN];rfl
  ·simp only;rw[dd,if_pos rfl];rfl
 ·have⟨v',X',e,g,b,m,r⟩:=h.push1 hS ht h1 h2;exact⟨v',X',e,.inr ⟨ay,g⟩,b,m,r⟩
end
structure mV(S0 X:St)(v:AV)(W:bt):Prop where
 ex:∃cs,GrN S0 X v W.length cs/\aAM S0 X v cs W
section
variable {S0 X X':St}{v:AV}{W:bt}
theorem mV.len(h:mV S0 X v W):jD v=some (.int .i64 (W.length:Int)):=by
 have⟨cs,h1,_⟩:=h.ex;exact h1.len
theorem mV.blk{c:Nat}(h:mV S0 X v W)(hc:aX v=some c):S0.nx<=c/\c<X.nx/\∃o s cs,X.h.get c=some (.cells cs o s):=by
 have⟨cs,h1,_⟩:=h.ex;obtain⟨b,o,s,rfl,k1,k2,k3⟩:=h1.at;cases hc;exact⟨k1,k2,o,s,cs,k3⟩
theorem mV.step(h:mV S0 X v W)(hs:Same X X'):mV S0 X' v W:=by
 have⟨cs,h1,h2⟩:=h.ex;exact⟨cs,h1.step hs,h2.1,fun j hj=>by
  have⟨r,a,b,c⟩:=h2.2 j hj;exact⟨r,a,b.same hs,c⟩⟩
theorem mV.is(h:mV S0 X v W):aP 1 pF X v W:=by
 have⟨cs,h1,h2⟩:=h.ex;obtain⟨b,o,s,rfl,k1,k2,k3⟩:=h1.at;refine .inr ⟨b,0,W.length,o,cs,rfl,Ag _,k2,by unfold cJ;rw[k3];rfl,fun i l hi=>?_⟩;have hlt:=(Aj.1 hi).1;have e:W.getD i []=l:=by rw[Ad,hi];rfl
 have⟨r,h4,h5,_⟩:=h2.2 i hlt;rw[e] at h5;refine⟨[r],rfl,fun j x hj=>?_,r,rfl,h5⟩;cases j with
 | zero=>
  cases hj;rw[An,Dm];exact h4
 | succ j=>simp at hj
theorem mV.one{r:AV}{l:bu}{t:Nat}(h:bO .i64 X r l)(hr:∀c,aX r=some c->S0.nx<=c/\c≠t)(hc:X.h.get t=some (.cells [r] false 0))(h0:S0.nx<=t)(ht:t<X.nx):mV S0 X (.sl t 0 1 1 false) [l]:=by
 refine⟨[r],.inl ⟨t,r,rfl,rfl,rfl,h0,ht,hc⟩,rfl,fun j hj=>?_⟩;obtain rfl:j=0:=by simpa using hj
 exact⟨r,rfl,h,fun c hc=>⟨(hr c hc).1,fun e=>(hr c hc).2 (by cases e;rfl)⟩⟩
theorem mV.push{bytes t m:Nat}{r:AV}{l:bu}(h:mV S0 X v W)(hS:Same S0 X)(hm:S0.nx<=m)(hm2:m<=X.nx)(hold:∀c,aX v=some c->c<m)(hr:bO .i64 X r l)(hb:∀c,aX r=some c->m<=c)(ht:X.h.get t=some (.cells [r] false 0))(h1:W.length+1<=room)(h2:(W.length+1) * bytes<=room):
  ∃v' X',fN bytes 1 v (.sl t 0 1 1 false) X=some (v',X')/\mV S0 X' v' (W++ [l])/\aX v'=some X.nx/\X'.nx=X.nx+1/\∀c,c<X.nx->aX v≠some c->X'.h.get c=X.h.get c:=by
 have⟨cs,g1,g2⟩:=h.ex;have⟨v',X',e,a1,a2,a3,a4⟩:=g1.push1 hS ht h1 h2;have hsl:∀c,aX r=some c->c<X.nx:=fun c hc=>fM hr hc;have hrv:∀c,aX r=some c->aX v≠some c:=fun c hc e=>by
  have:=hold c e;have:=hb c hc;omega
 refine⟨v',X',e,⟨cs++ [r],by rw[Ai,Av];exact a1,by simp [g2.1],fun j hj=>?_⟩,a2,a3,a4⟩;rw[Ai,Av] at hj;rw[xS];by_cases ej:j=W.length
 ·rw[if_pos ej,ej,<-g2.1];refine⟨r,by rw[Am (Ag _),Dn];rfl,fO hr ay fun c hc=>a4 c (hsl c hc) (hrv c hc),fun c hc=>⟨Au hm (hb c hc),fun e=>?_⟩⟩;rw[a2] at e;cases e;exact absurd (hsl _ hc) (Nat.lt_irrefl _)
 ·rw[if_neg ej];have⟨r',k1,k2,k3⟩:=g2.2 j ay;refine⟨r',by rw[Al (by rw[g2.1];omega)];exact k1,fO k2 ay fun c hc=>a4 c (aCB k2 hc) (k3 c hc).2,fun c hc=>⟨(k3 c hc).1,fun e=>?_⟩⟩;rw[a2] at e;cases e;exact absurd (aCB k2 hc) (Nat.lt_irrefl _)
end
theorem aJE(a b:b9):eqv (.p .str) (.str a) (.str b)=some (decide (a=b)):=by
 show some (mK a b)=_;rw[aFb]
def encS(K:List (b9)):List (AV×AV):=aKD AV.str AV.bool (K.map fun k=>(k,true))
theorem aA9{k:b9}:∀ {K:List (b9)} {i:Nat},(k∉K/\aAy k (K.map fun k=>(k,true)) i=none)\/(k∈K/\∃j,aAy k (K.map fun k=>(k,true)) i=some (j,true))
 | [],i=>.inl ⟨by simp,rfl⟩
 | x::K,i=>by
  by_cases e:k=x
  ·exact .inr ⟨by rw[e];exact Br ..,i,by show(if k=x then _ else _)=_;rw[if_pos e]⟩
  ·rcases aA9 (k:=k) (K:=K) (i:=i+1) with⟨h1,h2⟩ | ⟨h1,j,h2⟩
   ·exact .inl ⟨fun h=>(Bm.1 h).elim e h1,by show(if k=x then _ else aAy k _ (i+1))=_;rw[if_neg e];exact h2⟩
   ·exact .inr ⟨Bj _ h1,j,by show(if k=x then _ else aAy k _ (i+1))=_;rw[if_neg e];exact h2⟩
theorem aOd{h:Ev.T AB}{b:Nat}{K:List (b9)}(hl:h.get b=some (.map (encS K))){k:b9}{m x:cU}{F:Fr}(h1:m.val F= .map b)(h2:x.val F= .str k):gT (.lookup (.p .str) (.bool false) false m x) F h=some (.bool (decide (k∈K))):=by
 show(bH (vC h (m.val F)) fun es=>bH (pH (.p .str) (x.val F) es) fun r=>pS r (.bool false) false)=_;rw[h1,h2];show(bH (bH (h.get b) tT) fun es=>bH (pH (.p .str) (.str k) es) fun r=>pS r (.bool false) false)=_;rw[hl,aN];show bH (some (encS K)) _=_;unfold encS;rw[aN,aB6 (ek:=AV.str) aJE,aN];rcases aA9 (k:=k) (K:=K) (i:=0) with⟨e1,e2⟩ | ⟨e1,j,e2⟩
 ·rw[e2,Aa e1];rfl
 ·rw[e2,Ab e1];rfl
theorem aH7{S:St}{b:Nat}{K:List (b9)}(hl:S.h.get b=some (.map (encS K))){k:b9}(hf:k∉K):uL (.map b) (.p .str) (.str k) (.bool true) S=some (.undef,⟨S.h.set b (some (.map (encS (K++ [k])))),S.nx⟩):=by
 show(bH (bH (S.h.get b) tT) fun es=>bH (pH (.p .str) (.str k) es) fun r=>some (AV.undef,(⟨S.h.set b (some (.map (aBl r es (.str k) (.bool true)))),S.nx⟩:St)))=_;rw[hl,aN];show bH (some (encS K)) _=_;have e2:aAy k (K.map fun k=>(k,true)) 0=none:=by
  rcases aA9 (k:=k) (K:=K) (i:=0) with⟨_,e2⟩ | ⟨e1,_⟩
  ·exact e2
  ·exact absurd e1 hf
 unfold encS;rw[aN,aB6 (ek:=AV.str) aJE,aN,e2];show some (AV.undef,(⟨S.h.set b (some (.map (wR (aKD AV.str AV.bool (K.map fun k=>(k,true))) [(.str k,.bool true)]))),S.nx⟩:St))=_;rw[fW];unfold aKD;rw[Dd,Dd];rfl
theorem aER{e:qF}{m k v:cU}{c:fK}{F:Fr}{S:St}:evX (.mapUpd e m k v) c F S=uL (m.val F) e (k.val F) (v.val F) S:=rfl
theorem aNs{F:Fr}{id:Nat}:sH .mkMap F id=some (.map id,.map []):=rfl
theorem aOh(e:qF){a n:Nat}(hn:n<=64):iL .shr e (.int .i64 (a:Int)) (.int .u64 (n:Int))=some (.int .i64 ((a / 2 ^ n:Nat):Int)):=by
 show dJ .shr .i64 (Int.ofNat a) .u64 (Int.ofNat n)=_;unfold dJ;rw[show fI .shr=true from rfl,aO];show rR .shr .i64 (Int.ofNat a) n=_;unfold rR;rw[show Nat.ble n IntKind.i64.bits=true from Ak hn,aO];show some (AV.int .i64 (Int.fdiv (a:Int) ((2 ^ n:Nat):Int)))=_;rw[Int.fdiv_eq_ediv_of_nonneg _ (Int.natCast_nonneg _)];rfl
theorem aHx{a:Nat}:IntKind.u8.wrap (a:Int)=((a % 256:Nat):Int):=by
 simp [IntKind.wrap,IntKind.signed,IntKind.bits]
theorem aPF(n:Nat):repeatL [AV.int .u8 0] n=iW (List.replicate n 0):=by rw[repeatL_one];simp [iW]
theorem aMW{N b i:Nat}(h:i<N):fC (.arr N 1) (.ptr b 0) i=some (.ptr b i):=by
 show cB (Nat.blt i N) (some (AV.ptr b (0+i * 1))) none=_;rw[show Nat.blt i N=true from Ak h,aO];simp
theorem aN3{N b m:Nat}{F:Fr}{y:cU}(hy:fG (y.val F)=some m)(hm:m<=N)(hN:0<N):rQ (.arr N 1) (.ptr b 0) none (some y) none F=some (.sl b 0 m N false):=by
 have e4:Nat.beq N 0=false:=by rw[Ch];intro h;rw[Bg] at h;omega
 simp only[rQ,aJt,mD,jO,aN,hy,Ak (Ag N),Ak hm,Ak (Da _),aO,e4,aT,Eu,Cy,Bh]
theorem aNG{l:b9}{p a b:Nat}(h:p+1<l.length):((l.set p a).set (p+1) b).take (p+2)=l.take p++ [a,b]:=by
 rw[Bx,Bx,List.getElem?_set_self (by rw[Ar];exact h),List.getElem?_set_ne ay,List.getElem?_set_self ay,List.take_set_of_le ay,List.take_set_of_le ay,Bd];rfl
theorem aKX{m:bu}{i x:Nat}(h:i<m.length)(hx:m.getD i 0=(x:Int)):lA (m.take (i+1))=lA (m.take i)++ [x / 256,x % 256]:=by
 rw[Bx,qA h,hx];unfold lA;rw[List.flatMap_append];simp
theorem aOB{m:bu}(h:∀x∈m,0<=x/\x<65536):∀y∈lA m,y<=255:=by
 intro y hy;unfold lA at hy;have⟨x,hx,hy⟩:=List.mem_flatMap.1 hy;have:=h x hx;simp only[Bm,List.not_mem_nil,or_false] at hy;omega
def aRm(S:St)(v:AV)(m:bu)(k:Nat)(A:bS)(X:St):Prop:=A.inr=false/\Same S X/\S.nx<X.nx/\∃ (i:Nat) (W:b9),i+k=m.length/\W.length=4000/\W.take (2 * i)=lA (m.take i)/\X.h.get S.nx=some (.cells (iW W) false 0)/\aD 0 A.F=v/\aD 3 A.F= .ptr S.nx 0/\aD 6 A.F=v/\aD 7 A.F= .int .i64 (m.length:Int)/\aD 8 A.F= .int .i64 (i:Int)
theorem aHM{S:St}{v:AV}{m:bu}(H:Has fns)(hv:bO .i64 S v m)(hn:m.length<=1000)(hm:∀x∈m,0<=x/\x<65536):gH fns (.fn 38 [] []) [v] S fun r S'=>r= .str (lA m)/\Same S S':=by
 refine cF H.f38 (by simp) ?_;refine aj ?_;refine bQ (aj ?_);refine bQ ?_;rw[aPF];refine dC ?_;intro S1 s1 n1 c1;refine aj ?_;have hrep:(List.replicate 4000 0).length=4000:=Aq ..;generalize List.replicate 4000 0=W0 at *;refine aA (aW (Q:=fun o A' X=>o= .normal/\aRm S v m 0 A' X) (aA (aG ?_)) ?_)
 ·refine df hv.len @Ah ?_;refine aL (bK (aRm S v m) ?_ m.length _ _ ⟨rfl,s1,ay,0,W0,ay,hrep,by rw[Nat.mul_zero,Bw,Bw];rfl,c1,ag,ag,ag,ag,ah⟩);rintro k ⟨F,inr⟩ X ⟨q0,hX,lX,i,W,hik,hW,he,gX,p0,p3,p6,p7,p8⟩;simp only at q0 p0 p3 p6 p7 p8;subst q0;refine bQ (df p7 p8 ?_);by_cases hlt:i<m.length;rotate_left
  ·refine aA (aK fe (bG ?_));refine af ?_;obtain rfl:k=0:=by omega
   exact⟨rfl,hX,lX,i,W,hik,hW,he,gX,by refine⟨?_,?_,?_,?_,?_⟩<;>simp only[↓sU,sD,rE,↓reduceIte,rA,p0,p3,p6,p7,p8]⟩
  refine aA (aM fe (aH ?_));refine af ?_;have w1:=dc i
  have w2:IntKind.i64.wrap (2 * (i:Int))=((2 * i:Nat):Int):=by rw[wrap_i64 ay ay];omega
  have w3:IntKind.i64.wrap (((2 * i:Nat):Int)+1)=((2 * i+1:Nat):Int):=by rw[wrap_i64 ay ay];omega
  have⟨b1,q1,i1,_,l1⟩:=zW (hv.same hX) hlt;have hmem:m.getD i 0∈m:=by rw[Ad,Ac hlt];exact Bo hlt
  have hr:=hm _ hmem;obtain⟨x,hx⟩:∃x:Nat,m.getD i 0=(x:Int):=⟨(m.getD i 0).toNat,ay⟩;rw[hx] at l1 hr;have v1:IntKind.u8.wrap ((x / 256:Nat):Int)=((x / 256:Nat):Int):=by
   rw[aHx,show x / 256 % 256=x / 256 by omega]
  have v2:IntKind.u8.wrap (x:Int)=((x % 256:Nat):Int):=aHx;have ia:=aMW (N:=4000) (b:=S.nx) (i:=2 * i) ay;have ib:=aMW (N:=4000) (b:=S.nx) (i:=2 * i+1) ay;refine aA (aL (aA (aG ?_)));refine dt p6 p8 @aJ i1 l1 ?_;refine aG ?_;have hs8:=aOh (.p .int) (a:=x) (n:=8) bg;have hs8:iL .shr (.p .int) (.int .i64 (x:Int)) (.int .u64 8)=some (.int .i64 ((x / 256:Nat):Int)):=hs8;refine dy p3 @aJ w2 w3 hs8 v1 v2 ia ?_;refine fD (v:=.undef) (S1:=⟨X.h.set S.nx (some (.cells (iW (W.set (2 * i) (x / 256))) false 0)),X.nx⟩) (fun call=>by refine df @dS @cH ?_;exact st8 gX ay) ?_;refine dh p3 @aJ ib ?_;refine fD (v:=.undef) (S1:=⟨(X.h.set S.nx (some (.cells (iW (W.set (2 * i) (x / 256))) false 0))).set S.nx (some (.cells (iW ((W.set (2 * i) (x / 256)).set (2 * i+1) (x % 256))) false 0)),X.nx⟩) (fun call=>by refine df @dS @cH ?_;exact st8 (S:=⟨X.h.set S.nx (some (.cells (iW (W.set (2 * i) (x / 256))) false 0)),X.nx⟩) (l:=W.set (2 * i) (x / 256)) (o:=false) (sz:=0) fq (by rw[Ar];omega)) ?_;refine af ?_;refine aG (df p8 w1 ?_);refine⟨k - 1,ay,rfl,⟨hX.1,fun c hc=>by simp only;rw[dd,if_neg ay,dd,if_neg ay];exact hX.2 c hc⟩,lX,i+1,(W.set (2 * i) (x / 256)).set (2 * i+1) (x % 256),ay,by rw[Ar,Ar];exact hW,?_,fq,by refine⟨?_,?_,?_,?_,?_⟩<;>simp only[↓sU,sD,rE,↓reduceIte,rA,p0,p3,p6,p7]⟩;rw[show 2 * (i+1)=2 * i+2 by omega,aNG ay,he,aKX hlt hx]
 rintro o ⟨F,inr⟩ X ⟨rfl,q0,hX,lX,i,W,hik,hW,he,gX,p0,p3,_,_,_⟩;simp only at q0 p0 p3;subst q0;obtain rfl:i=m.length:=by omega
 rw[Ey] at he;have w2:IntKind.i64.wrap (2 * (m.length:Int))=((2 * m.length:Nat):Int):=by rw[wrap_i64 ay ay];omega
 have hle:∀y∈W.take (2 * m.length),y<=255:=by rw[he];exact aOB hm
 have hst:=aSi (N:=4000) (o':=false) gX (m:=2 * m.length) ay hle;rw[he] at hst;refine af ?_;refine bQ ?_;refine du p0 p3 ((hv.same hX).len) @Ah w2 @aAm ?_;rw[aN3 (m:=2 * m.length) (fg @aJ) ay ay];refine cm hst ?_;refine aR (af ?_);exact hX
end Go.Ev.Gl
