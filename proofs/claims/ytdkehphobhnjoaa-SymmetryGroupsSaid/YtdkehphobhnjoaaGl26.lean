import Derived.Test.YtdkehphobhnjoaaGl25
open Nat renaming reduceEqDiff → rE, reduceAdd → rA
set_option maxHeartbeats 16000000
set_option linter.unusedSimpArgs false
set_option linter.unusedVariables false
namespace Go.Ev.Gl
def vB(W:List (List Int))(m:List Int):List (List Int):=if m∈W then W else W++ [m]
def stepG(w:List Int)(L W:List (List Int)):List (List Int):=L.foldl (fun W m=>vB W (eS w m)) W
def cN(e:List Int)(L:List (List Int)):Nat→List (List Int)
 | 0=>[e]
 | t+1=>if t<(cN e L t).length then stepG ((cN e L t).getD t []) L (cN e L t) else cN e L t
theorem aJl{W:List (List Int)}{m:List Int}:∃R,vB W m=W++R:=by
 unfold vB;split
 ·exact⟨[],(Bs W).symm⟩
 ·exact⟨[m],rfl⟩
theorem aGr{W:List (List Int)}{m:List Int}(h:W.Nodup):(vB W m).Nodup:=by
 unfold vB;split
 ·exact h
 ·rename_i hn;refine List.nodup_append.2 ⟨h,by simp,fun a ha b hb e=>?_⟩;rw[Er] at hb;subst hb;subst e;exact hn ha
theorem pQ{w:List Int}:∀ {L W:List (List Int)},∃R,stepG w L W=W++R
 | [],W=>⟨[],(Bs W).symm⟩
 | m::L,W=>by
  obtain⟨R1,e1⟩:=aJl (W:=W) (m:=eS w m);obtain⟨R2,e2⟩:=pQ (w:=w) (L:=L) (W:=vB W (eS w m));refine⟨R1++R2,?_⟩;show stepG w L (vB W (eS w m))=_;rw[e2,e1,Cl]
theorem aAN{w:List Int}:∀ {L W:List (List Int)},W.Nodup→(stepG w L W).Nodup
 | [],_,h=>h
 | _::L,_,h=>aAN (L:=L) (aGr h)
theorem aAa{Q:List Int→Prop}{w:List Int}:∀ {L W:List (List Int)},(∀x∈W,Q x)→(∀m∈L,Q (eS w m))→∀x∈stepG w L W,Q x
 | [],_,h,_=>h
 | m::L,W,h,hL=>aAa (L:=L) (W:=vB W (eS w m)) (fun x hx=>by
   unfold vB at hx;split at hx
   ·exact h x hx
   ·rcases Bv.1 hx with hx | hx
    ·exact h x hx
    ·rw[Er] at hx;subst hx;exact hL m (Bt ..)) fun k hk=>hL k (Bn _ hk)
section
variable {e:List Int}{L:List (List Int)}
theorem nC{t:Nat}:cN e L (t+1)=if t<(cN e L t).length then stepG ((cN e L t).getD t []) L (cN e L t) else cN e L t:=rfl
theorem aKi{t:Nat}:∃R,cN e L (t+1)=cN e L t++R:=by
 rw[nC];split
 ·exact pQ
 ·exact⟨[],(Bs _).symm⟩
theorem rR:∀ {t:Nat},(cN e L t).Nodup
 | 0=>by simp [cN]
 | t+1=>by
  rw[nC];split
  ·exact aAN rR
  ·exact rR
theorem aK6{s t:Nat}(h:s≤t):∃R,cN e L t=cN e L s++R:=by
 induction t with
 | zero=>
  obtain rfl:s=0:=by omega
  exact⟨[],(Bs _).symm⟩
 | succ t ih=>
  rcases Bx s (t+1) with h1 | h1
  ·obtain⟨R,e1⟩:=ih (by omega);obtain⟨R',e2⟩:=aKi (e:=e) (L:=L) (t:=t);exact⟨R++R',by rw[e2,e1,Cl]⟩
  ·obtain rfl:s=t+1:=by omega
   exact⟨[],(Bs _).symm⟩
def zJ(e:List Int)(L:List (List Int))(M:Nat)(W:Option (List (List Int))):Prop:=
 (∃t,W=some (cN e L t)∧t=(cN e L t).length∧(∀s,s<t→s<(cN e L s).length)∧∀s,s≤t→(cN e L s).length≤M)∨(W=none∧∃t,(∀s,s≤t→s<(cN e L s).length)∧M<(cN e L (t+1)).length)
theorem aDj{s t:Nat}(h:s≤t):(cN e L s).length≤(cN e L t).length:=by
 obtain⟨R,e1⟩:=aK6 (e:=e) (L:=L) h;rw[e1,Ak];omega
theorem aCm{M:Nat}{W W':Option (List (List Int))}(h:zJ e L M W)(h':zJ e L M W'):W=W':=by
 rcases h with⟨t,rfl,e1,l1,b1⟩ | ⟨rfl,t,l1,b1⟩
 ·rcases h' with⟨t',rfl,e2,l2,b2⟩ | ⟨rfl,t',l2,b2⟩
  ·rcases Eu t t' with h | h | h
   ·have:=l2 t h;omega
   ·rw[h]
   ·have:=l1 t' h;omega
  ·rcases Bx t' t with h | h
   ·have:=b1 (t'+1) (by omega);omega
   ·have:=l2 t h;omega
 ·rcases h' with⟨t',rfl,e2,l2,b2⟩ | ⟨rfl,t',l2,b2⟩
  ·rcases Bx t t' with h | h
   ·have:=b2 (t+1) (by omega);omega
   ·have:=l1 t' h;omega
  ·rfl
end
end Go.Ev.Gl
namespace Go.Ev.Gl
def jF:List Int→List Int→Prop
 | [],b=>b≠ []
 | _::_,[]=>False
 | x::a,y::b=>x<y∨(x=y∧jF a b)
theorem nN:∀ {a:List Int},¬jF a a
 | [],h=>h rfl
 | x::a,h=>by
  rcases h with h | ⟨_,h⟩
  ·omega
  ·exact nN h
theorem qF:∀ {a b c:List Int},jF a b→jF b c→jF a c
 | [],b,[],h1,h2=>by
  cases b with
  | nil=>exact absurd rfl h1
  | cons y b=>exact h2.elim
 | [],_,_::_,_,_=>fun h=>by cases h
 | x::a,[],_,h1,_=>h1.elim
 | x::a,y::b,[],_,h2=>h2.elim
 | x::a,y::b,z::c,h1,h2=>by
  rcases h1 with h1 | ⟨rfl,h1⟩
  ·rcases h2 with h2 | ⟨rfl,_⟩
   ·exact .inl (by omega)
   ·exact .inl h1
  ·rcases h2 with h2 | ⟨rfl,h2⟩
   ·exact .inl h2
   ·exact .inr ⟨rfl,qF h1 h2⟩
theorem aA0:∀ (a b:List Int),a=b∨jF a b∨jF b a
 | [],[]=>.inl rfl
 | [],_::_=>.inr (.inl fun h=>by cases h)
 | _::_,[]=>.inr (.inr fun h=>by cases h)
 | x::a,y::b=>by
  rcases Int.lt_trichotomy x y with h | h | h
  ·exact .inr (.inl (.inl h))
  ·subst h;rcases aA0 a b with rfl | h | h
   ·exact .inl rfl
   ·exact .inr (.inl (.inr ⟨rfl,h⟩))
   ·exact .inr (.inr (.inr ⟨rfl,h⟩))
  ·exact .inr (.inr (.inl h))
theorem aId{a b:List Int}(h:jF a b):¬jF b a:=fun h'=>nN (qF h h')
theorem aBc:∀ {P Q:List (List Int)},P.Perm Q→P.Pairwise jF→Q.Pairwise jF→P=Q
 | [],Q,h,_,_=>(List.nil_perm.1 h).symm
 | p::P,[],h,_,_=>(List.perm_nil.1 h)
 | p::P,q::Q,h,hp,hq=>by
  have e:p=q:=by
   rcases Bg.1 (h.mem_iff.1 (Bt ..)) with e | h1
   ·exact e
   ·rcases Bg.1 (h.mem_iff.2 (Bt (a:=q) (l:=Q))) with e | h2
    ·exact e.symm
    ·exact absurd ((Cu.1 hq).1 p h1) (aId ((Cu.1 hp).1 q h2))
  subst e;rw[aBc (List.perm_cons p |>.1 h) (Cu.1 hp).2 (Cu.1 hq).2]
end Go.Ev.Gl
namespace Go.Ev.Gl
def iU(m:List Int):List Nat:=m.flatMap fun x=>[x.toNat / 256,x.toNat % 256]
theorem aER:∀ {a b:List Int},(∀x∈a,0≤x)→(∀x∈b,0≤x)→iU a=iU b→a=b
 | [],[],_,_,_=>rfl
 | [],y::b,_,_,h=>by simp [iU] at h
 | x::a,[],_,_,h=>by simp [iU] at h
 | x::a,y::b,ha,hb,h=>by
  have h: [x.toNat / 256,x.toNat % 256]++iU a= [y.toNat / 256,y.toNat % 256]++iU b:=h;simp only[Cz,Cm,List.cons.injEq] at h;obtain⟨h1,h2,h3⟩:=h;have hx:=ha x (Bt ..);have hy:=hb y (Bt ..);rw[aER (fun z hz=>ha z (Bn _ hz)) (fun z hz=>hb z (Bn _ hz)) h3,show x=y by omega]
theorem aDl{w:List Int}{A B W:List (List Int)}:stepG w (A++B) W=stepG w B (stepG w A W):=by
 unfold stepG;rw[List.foldl_append]
theorem aIj{w m:List Int}{W:List (List Int)}:stepG w [m] W=vB W (eS w m):=rfl
theorem wW{w:List Int}{L W:List (List Int)}{k:Nat}(h:k<L.length):stepG w (L.take (k+1)) W=vB (stepG w (L.take k) W) (eS w (L.getD k [])):=by
 rw[Bi,Ac h,Ad,Ac h];show stepG w (L.take k++ [L[k]]) W=_;rw[aDl,aIj];rfl
theorem aGl{w:List Int}{L W:List (List Int)}{k:Nat}:(stepG w (L.take k) W).length≤(stepG w L W).length:=by
 have e:stepG w L W=stepG w (L.drop k) (stepG w (L.take k) W):=by rw[←aDl,Cq]
 obtain⟨R,h⟩:=pQ (w:=w) (L:=L.drop k) (W:=stepG w (L.take k) W);rw[e,h,Ak];omega
theorem aGx{w:List Int}{L W:List (List Int)}{k M:Nat}(h:k<L.length)(hl:(stepG w (L.take k) W).length=M)(hn:eS w (L.getD k [])∉stepG w (L.take k) W):M<(stepG w L W).length:=by
 have h1:=aGl (w:=w) (L:=L) (W:=W) (k:=k+1);rw[wW h] at h1;unfold vB at h1;rw[if_neg hn,Ak,hl,Bz] at h1;omega
theorem aA7{w m:List Int}{n:Nat}(hw:∀x∈w,0≤x∧x<n)(hm:m.length=n)(h:∀x∈m,0≤x∧x<n):(eS w m).length=w.length∧∀x∈eS w m,0≤x∧x<n:=by
 unfold eS;refine⟨Bc ..,fun x hx=>?_⟩;obtain⟨y,hy,rfl⟩:=Cy.1 hx;have:=hw y hy;have hlt:y.toNat<m.length:=by omega
 rw[Ad,Ac hlt];exact h _ (Bh hlt)
theorem aA8{e:List Int}{L:List (List Int)}{n:Nat}(he:e.length=n∧∀x∈e,0≤x∧x<n)(hL:∀m∈L,m.length=n∧∀x∈m,0≤x∧x<n):∀ {t:Nat},∀w∈cN e L t,w.length=n∧∀x∈w,0≤x∧x<n
 | 0=>fun w hw=>by
  have:w=e:=by simpa [cN] using hw
  rw[this];exact he
 | t+1=>fun w hw=>by
  rw[nC] at hw;split at hw
  ·rename_i ht;have hw0:(cN e L t).getD t []∈cN e L t:=by
    rw[Ad,Ac ht];exact Bh ht
   refine aAa (Q:=fun w=>w.length=n∧∀x∈w,0≤x∧x<n) (fun x hx=>aA8 he hL x hx) (fun m hm=>?_) w hw;obtain⟨a,b⟩:=aA8 he hL _ hw0;obtain⟨c,d⟩:=aA7 b (hL m hm).1 (hL m hm).2;exact⟨by rw[c,a],d⟩
  ·exact aA8 he hL w hw
end Go.Ev.Gl
namespace Go.Ev.Gl
theorem aDM:∀ {l m:List Int},l.Pairwise (· < ·)→m.Pairwise (· < ·)→(∀x∈l,x∈m)→l.length≤m.length∧(l.length=m.length→l=m)
 | [],m,_,_,_=>⟨Cj _,fun h=>(Cg.1 h.symm).symm⟩
 | x::l,[],_,_,h=>by have:=h x (Bt ..);cases this
 | x::l,y::m,hl,hm,h=>by
  obtain⟨l1,l2⟩:=Cu.1 hl;obtain⟨m1,m2⟩:=Cu.1 hm;by_cases e:x=y
  ·subst e;obtain⟨h1,h2⟩:=aDM l2 m2 fun z hz=>by
    rcases Bg.1 (h z (Bn _ hz)) with e | e
    ·have:=l1 z hz;omega
    ·exact e
   simp only[Au];exact⟨by omega,fun e=>by rw[h2 (by omega)]⟩
  ·have hx:x∈m:=by
    rcases Bg.1 (h x (Bt ..)) with e' | e'
    ·exact absurd e' e
    ·exact e'
   have hy:=m1 x hx;obtain⟨h1,_⟩:=aDM hl m2 fun z hz=>by
    rcases Bg.1 (h z hz) with e' | e'
    ·rcases Bg.1 hz with e2 | e2
     ·omega
     ·have:=l1 z e2;omega
    ·exact e'
   simp only[Au] at *;exact⟨by omega,fun e=>by omega⟩
end Go.Ev.Gl
namespace Go.Ev.Gl
structure NZ(r:Nat)(L:List cC):Prop where
 nest:∀ (j q:Nat) (t u:cC),L[j]? =some t→L[q]? =some u→j≤q→((r+q:Nat):Int)≤t.2.2→u.2.2≤t.2.2
 par:∀ (j q:Nat) (t u:cC),L[j]? =some t→L[q]? =some u→u.1=((r+j:Nat):Int)→((r+q:Nat):Int)≤t.2.2
theorem NZ.nil{r:Nat}:NZ r []:=⟨fun j q t u h=>by simp at h,fun j q t u h=>by simp at h⟩
theorem NZ.app{r:Nat}{p:Int}{L M:List cC}(hp:p<(r:Int))(k1:KZ r p L)(k2:KZ (r+L.length) p M)(h1:NZ r L)(h2:NZ (r+L.length) M):NZ r (L++M):=by
 refine⟨fun j q t u hj hq hle hr=>?_,fun j q t u hj hq he=>?_⟩
 ·by_cases a:j<L.length
  ·rw[Ba a] at hj;have hs:=(k1.sz j t hj).2;rw[Ba (by omega)] at hq;exact h1.nest j q t u hj hq hle hr
  ·rw[Av (by omega)] at hj hq;exact h2.nest _ _ t u hj hq (by omega) (by rw[show r+L.length+(q - L.length)=r+q by omega];exact hr)
 ·by_cases a:j<L.length
  ·rw[Ba a] at hj;by_cases b:q<L.length
   ·rw[Ba b] at hq;exact h1.par j q t u hj hq he
   ·rw[Av (by omega)] at hq;rcases k2.par u (Bm hq) with e | e
    ·omega
    ·omega
  ·by_cases b:q<L.length
   ·rw[Ba b] at hq;rcases k1.par u (Bm hq) with e | e
    ·omega
    ·omega
   ·rw[Av (by omega)] at hj hq;have:=h2.par _ _ t u hj hq (by rw[show r+L.length+(j - L.length)=r+j by omega];exact he)
    rwa [show r+L.length+(q - L.length)=r+q by omega] at this
theorem aHu{rec:Nat→Option (List cC)}{p:Int}(hr:∀ (r:Nat) (L:List cC),p<(r:Int)→rec r=some L→KZ r p L∧NZ r L):∀ {l:List Int} {r:Nat} {L:List cC},p<(r:Int)→fW rec l r=some L→NZ r L
 | [],r,L,_,h=>by
  have h:some []=some L:=h;cases h;exact NZ.nil
 | c::l,r,L,hp,h=>by
  simp only[fW] at h;split at h
  ·obtain⟨L1,h1,h2⟩:=Cw.1 h;obtain⟨L2,h3,rfl⟩:=Ap.1 h2;have k2:=aA5 (fun r L a b=>(hr r L a b).1) (show p<((r+L1.length:Nat):Int) by omega) h3;exact NZ.app hp (hr r L1 hp h1).1 k2 (hr r L1 hp h1).2 (aHu hr (by omega) h3)
  ·cases h
theorem aHt{N:Nat}{nx:Nat→List Int}:∀ {f at_:Nat} {p d:Int} {T:List cC},p<(at_:Int)→eE N nx f at_ p d=some T→NZ at_ T
 | 0,_,_,_,_,_,h=>by cases h
 | f+1,at_,p,d,T,hp,h=>by
  have K:=mS hp h;simp only[eE] at h;split at h
  ·obtain⟨L,h1,rfl⟩:=Ap.1 h;have k:=aA5 (p:=(at_:Int)) (fun r L hr hL=>mS hr hL) (by omega) h1;have n:=aHu (p:=(at_:Int)) (fun r L hr hL=>⟨mS hr hL,aHt hr hL⟩) (by omega) h1;refine⟨fun j q t u hj hq hle hr=>?_,fun j q t u hj hq he=>?_⟩
   ·cases j with
    | zero=>
     cases hj;have:=(K.sz q u hq).2;rw[Au] at this;show u.2.2≤((at_+L.length:Nat):Int);omega
    | succ j=>
     obtain⟨q,rfl⟩:∃q',q=q'+1:=⟨q - 1,by omega⟩;exact n.nest j q t u hj hq (by omega) (by rw[show at_+1+q=at_+(q+1) by omega];exact hr)
   ·cases j with
    | zero=>
     cases hj;have:=(Ai.1 hq).1;rw[Au] at this;show((at_+q:Nat):Int)≤((at_+L.length:Nat):Int);omega
    | succ j=>
     cases q with
     | zero=>
      cases hq;have he:p=((at_+(j+1):Nat):Int):=he;omega
     | succ q=>
      have:=n.par j q t u hj hq (by rw[show at_+1+j=at_+(j+1) by omega];exact he)
      rwa [show at_+1+q=at_+(q+1) by omega] at this
  ·cases h
theorem aKM{g:aW}{T:List cC}(hT:eK g=some T)(hl:T.length=g.nodes.length){a i:Nat}(ha:a<g.nodes.length)(hi:a≤i∧i<a+cW T a)(hin:i<g.nodes.length){c:Int}(hc:c∈(nodeAt g i).next):(i:Int)<c∧c<((a+cW T a:Nat):Int):=by
 have hw:eE g.nodes.length (dB g) (g.nodes.length+1) 0 (-1) 0=some T:=hT;have K:=mS (by decide) hw;have n:=aHt (by decide) hw;have hf:=iC hw;have hnx:dB g (0+i)=(nodeAt g i).next:=by rw[An];exact fO g i
 obtain⟨c1,c2,c3⟩:=hf.cf i (by omega) c (by rw[hnx];exact hc);have last:∀j (hj:j<T.length),T[j].2.2=((j+cW T j - 1:Nat):Int)∧1≤cW T j:=fun j hj=>by
  have h1:=K.sz j T[j] (Ac hj);have h2:=uX K hj;rw[An] at h1;omega
 have hcl:c.toNat<T.length:=by omega
 have hpar:T[c.toNat].1=((0+i:Nat):Int):=by
  unfold gP at c3;rw[Fc,Ac hcl] at c3;exact Bk c3
 have hil:i<T.length:=by omega
 have hal:a<T.length:=by omega
 have e1:=n.par i c.toNat _ _ (Ac hil) (Ac hcl) hpar;have e2:=n.nest a i _ _ (Ac hal) (Ac hil) hi.1 (by rw[(last a hal).1];omega);rw[(last i hil).1] at e1 e2;rw[(last a hal).1] at e2;have:=(last a hal).2;have:=(last i hil).2;omega
end Go.Ev.Gl
namespace Go.Ev.Gl
theorem aHv{g:aW}(h:cM g=0){i:Nat}(hi:i<g.nodes.length)(hk1:(nodeAt g i).kind≠1):(nodeAt g i).weights= []:=by
 have G:=aEZ h;have hE:fM g.players g.infos.length (nodeAt g i)=0:=by
  unfold cM at h;split at h
  ·cases h
  split at h
  ·rename_i h1;exact absurd h h1
  rename_i hN;exact fZ (Du.1 hN) _ (Bm (eC hi))
 have h0:(nodeAt g i).weights.length=0:=by
  rcases G.knd i hi with hk | hk | hk
  ·exact absurd hk hk1
  ·unfold fM at hE;rw[if_neg (by omega),if_pos hk] at hE;split at hE
   ·cases hE
   ·rename_i hc;unfold sK at hc;omega
  ·unfold fM at hE;rw[if_neg (by omega),if_neg (by omega),if_pos hk] at hE;split at hE
   ·cases hE
   ·rename_i hc;unfold lD at hc;omega
 exact Cg.1 h0
theorem aFV{l:List Int}{p:Nat}{x:Int}(h:p<l.length)(e:l.getD p 0=x):x∈l:=by
 rw[←e,Ad,Ac h];exact Bh h
theorem aGg{g:aW}{T:List cC}{a b:Nat}(hf:cM g=0)(hT:eK g=some T)(hl:T.length=g.nodes.length)(hab:a+cW T a≤b)(hbn:b+cW T a≤g.nodes.length)(hsz:cW T a=cW T b)(hA:fT g (sL g.nodes.length a b (cW T a))):aAh g T a b:=by
 have G:=kA hf;have hw:eE g.nodes.length (dB g) (g.nodes.length+1) 0 (-1) 0=some T:=hT;have W:=iC hw;have hnx:∀i,dB g (0+i)=(nodeAt g i).next:=fun i=>by rw[An];exact fO g i
 have hinc:∀i,i<g.nodes.length→(nodeAt g i).next.Pairwise (· < ·):=fun i hi=>by
  have:=W.inc i (by omega)
  rwa [hnx] at this
 refine⟨hsz,fun t ht=>?_⟩;have hi:a+t<g.nodes.length:=by omega
 have hj:b+t<g.nodes.length:=by omega
 have hm:eB (sL g.nodes.length a b (cW T a)) (a+t)=b+t:=by
  rw[aGD hi];unfold swF;rw[if_pos (by omega)];omega
 obtain⟨q1,q2,q3,q4⟩:=hA.like (a+t) hi;rw[hm] at q1 q2 q3 q4;have hc:∀k,k<(nodeAt g (a+t)).next.length→(sL g.nodes.length a b (cW T a)).getD ((nodeAt g (a+t)).next.getD k 0).toNat 0=(nodeAt g (a+t)).next.getD k 0 - (a:Int)+(b:Int):=fun k hk=>by
  have hin:(nodeAt g (a+t)).next.getD k 0∈(nodeAt g (a+t)).next:=by
   rw[Ad,Ac hk];exact Bh hk
  have:=aKM hT hl (a:=a) (i:=a+t) (by omega) (by omega) hi hin;unfold sL;rw[mV (by omega)];unfold swF;rw[if_pos (by omega)];omega
 have hkid:∀k,k<(nodeAt g (a+t)).next.length→0≤iJ (nodeAt g (b+t)).next 0 ((nodeAt g (a+t)).next.getD k 0 - (a:Int)+(b:Int)):=fun k hk=>by
  have:=hA.kid (a+t) k hi hk;unfold iM at this
  rwa [hm,hc k hk] at this
 have e:(nodeAt g (a+t)).next.map (fun c=>c - (a:Int)+(b:Int))=(nodeAt g (b+t)).next:=by
  refine(aDM ?_ (hinc _ hj) fun x hx=>?_).2 (by rw[Bc];exact q2)
  ·exact List.pairwise_map.2 ((hinc _ hi).imp fun h=>by omega)
  ·obtain⟨c,hcm,rfl⟩:=Cy.1 hx;obtain⟨k,hk,rfl⟩:=List.getElem_of_mem hcm;obtain⟨h1,h2⟩:=aIG (hkid k hk);have h3:=aFV h1 h2;rw[Ad,Ac hk] at h3;exact h3
 have eg:∀k,k<(nodeAt g (a+t)).next.length→(nodeAt g (b+t)).next.getD k 0=(nodeAt g (a+t)).next.getD k 0 - (a:Int)+(b:Int):=fun k hk=>by
  rw[←e,Ad,Az,Ad,Ac hk];rfl
 refine⟨q1,q4,q3,?_,q2,fun k hk=>by rw[eg k hk];omega⟩;by_cases hk1:(nodeAt g (a+t)).kind=1
 ·have w1:=G.wts _ hi hk1;have w2:=G.wts _ hj (by rw[←q1];exact hk1);refine pV (by omega) fun k hk=>?_;have:=hA.weigh (a+t) k hi (by omega) hk1;rw[hm] at this;rw[this];congr 1;unfold iM;rw[hm,hc k (by omega)];have hd:iJ (nodeAt g (b+t)).next 0 ((nodeAt g (a+t)).next.getD k 0 - (a:Int)+(b:Int))=(k:Int):=by
   refine aHL (by omega) (eg k (by omega)) fun k' hk' he=>?_;have hp:=hinc _ hj;rw[Dg] at hp;rw[←eg k (by omega),Ad,Ac hk',Ad,Ac (show k<_ by omega)] at he;simp only[Option.getD_some] at he;rcases Eu k' k with h | h | h
   ·have:=hp k' k hk' (by omega) h;omega
   ·exact h
   ·have:=hp k k' (by omega) hk' h;omega
  rw[hd];exact Bf k
 ·rw[aHv hf hi hk1,aHv hf hj (by rw[←q1];exact hk1)]
end Go.Ev.Gl
namespace Go.Ev.Gl
def aKe(W:List (List Int))(i k:Nat):Prop:=∃ (x:List Int) (A B R:List (List Int)),W=A++x::(B++R)∧A.length=k∧A.length+B.length=i∧(A++B).Pairwise jF∧∀b∈B,jF x b
def aIn(W:List (List Int))(k:Nat):List (List Int):=(W.set (k+1) (W.getD k [])).set k (W.getD (k+1) [])
theorem aIs{W:List (List Int)}{i:Nat}(hi:i<W.length)(h:(W.take i).Pairwise jF):aKe W i i:=by
 refine⟨W[i],W.take i,[],W.drop (i+1),?_,by rw[Ca];omega,by rw[Ca];simp;omega,by rw[Bs];exact h,fun b hb=>by cases hb⟩;rw[Cm]
 conv=>lhs;rw[←Cq i W,Br hi]
theorem aKV{A R:List (List Int)}{y x:List Int}:aIn (A++y::x::R) A.length=A++x::y::R:=by
 have e1:(A++y::x::R).getD A.length []=y:=by
  rw[Ad,Av (Ah _),Dr];rfl
 have e2:(A++y::x::R).getD (A.length+1) []=x:=by
  rw[Ad,Av (by omega),show A.length+1 - A.length=1 by omega];rfl
 unfold aIn;rw[e1,e2,List.set_append_right _ _ (by omega),List.set_append_right _ _ (Ah _),show A.length+1 - A.length=1 by omega,Dr];rfl
theorem aJg{W:List (List Int)}{i k:Nat}(h:aKe W i (k+1))(hl:jF (W.getD (k+1) []) (W.getD k [])):aKe (aIn W k) i k∧(aIn W k).Perm W:=by
 obtain⟨x,A,B,R,rfl,h1,h2,h3,h4⟩:=h;obtain⟨A',y,rfl⟩:∃A' y,A=A'++ [y]:=by
  rcases List.eq_nil_or_concat A with e | ⟨A',y,e⟩
  ·rw[e] at h1;cases h1
  ·exact⟨A',y,by rw[e,List.concat_eq_append]⟩
 have hk:A'.length=k:=by simpa using h1
 subst hk;have e0:(A'++ [y])++x::(B++R)=A'++y::x::(B++R):=by simp
 rw[e0] at hl ⊢;have e1:(A'++y::x::(B++R)).getD A'.length []=y:=by
  rw[Ad,Av (Ah _),Dr];rfl
 have e2:(A'++y::x::(B++R)).getD (A'.length+1) []=x:=by
  rw[Ad,Av (by omega),show A'.length+1 - A'.length=1 by omega];rfl
 rw[e1,e2] at hl;rw[aKV];refine⟨⟨x,A',y::B,R,by simp,rfl,by simp at h2 ⊢;omega,by simpa using h3,fun b hb=>?_⟩,List.Perm.append_left A' (List.Perm.swap y x _)⟩;rcases Bg.1 hb with rfl | hb
 ·exact hl
 ·exact h4 b hb
theorem aHo{W:List (List Int)}{i k:Nat}(h:aKe W i k)(hn:W.Nodup)(he:k=0∨¬jF (W.getD k []) (W.getD (k - 1) [])):(W.take (i+1)).Pairwise jF:=by
 obtain⟨x,A,B,R,rfl,h1,h2,h3,h4⟩:=h;have et:(A++x::(B++R)).take (i+1)=A++x::B:=by
  rw[show A++x::(B++R)=(A++x::B)++R by simp,Ef (by simp;omega),Ax (by simp;omega)]
 rw[et];obtain⟨p1,p2,p3⟩:=List.pairwise_append.1 h3;have hA:∀a∈A,jF a x:=by
  rcases List.eq_nil_or_concat A with e | ⟨A',y,e⟩
  ·rw[e];intro a ha;cases ha
  ·rw[List.concat_eq_append] at e;subst e;have hk:k=A'.length+1:=by simpa using h1.symm
   subst hk;have e0:(A'++ [y])++x::(B++R)=A'++y::x::(B++R):=by simp
   rw[e0] at he hn;have e1:(A'++y::x::(B++R)).getD A'.length []=y:=by
    rw[Ad,Av (Ah _),Dr];rfl
   have e2:(A'++y::x::(B++R)).getD (A'.length+1) []=x:=by
    rw[Ad,Av (by omega),show A'.length+1 - A'.length=1 by omega];rfl
   rw[Fb,e1,e2] at he;have hne:y≠x:=fun e=>by
    subst e;have:=(List.nodup_append.1 hn).2.1;simp at this
   have hyx:jF y x:=by
    rcases aA0 y x with e | e | e
    ·exact absurd e hne
    ·exact e
    ·exact absurd e (he.resolve_left (by omega))
   intro a ha;rcases Bv.1 ha with ha | ha
   ·have hay:=(List.pairwise_append.1 p1).2.2 a ha y (Er.2 rfl);exact qF hay hyx
   ·rw[Er] at ha;subst ha;exact hyx
 refine List.pairwise_append.2 ⟨p1,Cu.2 ⟨h4,p2⟩,fun a ha b hb=>?_⟩;rcases Bg.1 hb with rfl | hb
 ·exact hA a ha
 ·exact p3 a ha b hb
variable {fns:T dE}
theorem aGn:∀ {i:Nat} {a b:List Int},a.take i=b.take i→i<a.length→i<b.length→a.getD i 0≠b.getD i 0→(jF a b↔a.getD i 0<b.getD i 0)
 | 0,x::a,y::b,_,_,_,hn=>by
  have hn:x≠y:=hn;show(x<y∨x=y∧jF a b)↔x<y;exact⟨fun h=>h.resolve_right fun h=>hn h.1,.inl⟩
 | i+1,x::a,y::b,h,h1,h2,hn=>by
  simp only[Bo,List.cons.injEq] at h;obtain⟨rfl,h⟩:=h;have:=aGn (i:=i) (a:=a) (b:=b) h (by simpa using h1) (by simpa using h2) hn;show(x<x∨x=x∧jF a b)↔_;rw[show(x::a).getD (i+1) 0=a.getD i 0 from rfl,show(x::b).getD (i+1) 0=b.getD i 0 from rfl,←this];exact⟨fun h=>(h.resolve_left (by omega)).2,fun h=>.inr ⟨rfl,h⟩⟩
def aOC(S:St)(v w:AV)(a b:List Int)(k:Nat)(A:bH)(X:St):Prop:=A.inr=false∧Same S X∧∃i,i+k=a.length∧a.take i=b.take i∧aD 0 A.F=v∧aD 1 A.F=w∧aD 5 A.F= .int .i64 (i:Int)
theorem aGZ{S:St}{v w:AV}{a b:List Int}(H:Has fns)(ha:bN .i64 S v a)(hb:bN .i64 S w b)(hl:a.length=b.length)(hn:a.length≤100000):fA fns (.fn 36 [] []) [v,w] S fun r S'=>Same S S'∧∃t,r= .bool t∧(t=true↔jF a b):=by
 refine bP H.f36 (by simp) ?_;simp only[↓sU,sD,rE,↓reduceIte,rA];refine bE ?_;simp only[↓sU,sD,rE,↓reduceIte,rA];refine aA (aS (Q:=fun o A' X=>(o= .normal∧A'.inr=false∧Same S X∧a=b)∨(o= .ret∧Same S X∧∃t,aD 4 A'.F= .bool t∧(t=true↔jF a b))) (aA (aF ?_)) ?_)
 ·simp only[↓sU,sD,rE,↓reduceIte,rA];refine aJ (bB (aOC S v w a b) ?_ a.length _ _ ⟨rfl,Same.refl _,0,by omega,rfl,by simp only[↓sU,sD,rE,↓reduceIte,rA],by simp only[↓sU,sD,rE,↓reduceIte,rA],by simp only[↓sU,sD,rE,↓reduceIte,rA];try rfl⟩);rintro k ⟨F,inr⟩ X ⟨q0,hX,i,hik,he,p0,p1,p5⟩;simp only at q0 p0 p1 p5;subst q0;refine eG ?_;simp only[↓sU,sD,rE,↓reduceIte,rA,p0,p5,ha.len,Ag];by_cases hlt:i<a.length;rotate_left
  ·refine aK (by simp only[↓sU,sD,rE,↓reduceIte,rA,Aa (show ¬ (i:Int)<((a.length:Nat):Int) by omega)]) (aU ?_);simp only[↓sU,sD,rE,↓reduceIte,rA];rw[Ax (by omega),Ax (by omega)] at he;exact .inl ⟨hX,he⟩
  refine aM (by simp only[↓sU,sD,rE,↓reduceIte,rA,Ab (show(i:Int)<((a.length:Nat):Int) by omega)]) (aI ?_);try simp only[↓sU,sD,rE,↓reduceIte,rA]
  have w1:IntKind.i64.wrap ((i:Int)+1)=((i+1:Nat):Int):=by rw[wrap_i64 (by omega) (by omega)];omega
  obtain⟨b1,q1,i1,_,l1⟩:=tZ (ha.same hX) hlt;obtain⟨b2,q2,i2,_,l2⟩:=tZ (hb.same hX) (show i<b.length by omega);refine aA (aJ (aA (gJ ?_)));simp only[↓sU,sD,rE,↓reduceIte,rA,p0,p1,p5,aE,i1,i2,l1,l2];by_cases hx:a.getD i 0=b.getD i 0
  ·refine aK (by simp only[↓sU,sD,rE,↓reduceIte,rA,Aa (show ¬a.getD i 0≠b.getD i 0 from fun h=>h hx)]) (aI ?_);try simp only[↓sU,sD,rE,↓reduceIte,rA]
   refine aF ?_;simp only[↓sU,sD,rE,↓reduceIte,rA,p5,w1];refine⟨k - 1,by omega,rfl,hX.trans (Same.nx _ _),i+1,by omega,?_,by refine⟨?_,?_,?_⟩<;>simp only[↓sU,sD,rE,↓reduceIte,rA,p0,p1]⟩;rw[Bi,Bi,he,lN hlt,lN (show i<b.length by omega),hx]
  ·refine aM (by simp only[↓sU,sD,rE,↓reduceIte,rA,Ab (show a.getD i 0≠b.getD i 0 from hx)]) ?_;have hX':=hX.trans (Same.nx X (X.nx+9));obtain⟨b1,q1,i1,_,l1⟩:=tZ (ha.same hX') hlt;obtain⟨b2,q2,i2,_,l2⟩:=tZ (hb.same hX') (show i<b.length by omega);refine aA (gJ ?_);simp only[↓sU,sD,rE,↓reduceIte,rA,p0,p1,p5,aE,i1,i2,l1,l2];refine aO ?_;simp only[↓sU,sD,rE,↓reduceIte,rA];refine .inr ⟨hX.trans ((Same.nx _ _).trans (Same.nx _ _)),_,rfl,?_⟩;rw[Ck];exact(aGn he hlt (by omega) hx).symm
 rintro o ⟨F,inr⟩ X (⟨rfl,q0,hX,rfl⟩ | ⟨rfl,hX,t,p4,ht⟩);rotate_left
 ·simp only at p4;simp only[↓sU,sD,rE,↓reduceIte,rA,p4];exact⟨hX,t,rfl,ht⟩
 simp only at q0;subst q0;try simp only[↓sU,sD,rE,↓reduceIte,rA]
 refine bE ?_;simp only[↓sU,sD,rE,↓reduceIte,rA];refine aO ?_;simp only[↓sU,sD,rE,↓reduceIte,rA];exact⟨hX,_,rfl,fun h=>(by cases h),fun h=>absurd h nN⟩
def aPa(S:St)(v w:AV)(a b:List Int)(k:Nat)(A:bH)(X:St):Prop:=A.inr=false∧Same S X∧∃i,i+k=a.length∧a.take i=b.take i∧aD 0 A.F=v∧aD 1 A.F=w∧aD 9 A.F=v∧aD 10 A.F= .int .i64 (a.length:Int)∧aD 11 A.F= .int .i64 (i:Int)
theorem aHX{S:St}{v w:AV}{a b:List Int}(H:Has fns)(ha:bN .i64 S v a)(hb:bN .i64 S w b)(hl:a.length=b.length)(hn:a.length≤100000):fA fns (.fn 41 [] []) [v,w] S fun r S'=>Same S S'∧∃c:Int,r= .int .i64 c∧(c<0↔jF a b):=by
 refine bP H.f41 (by simp) ?_;simp only[↓sU,sD,rE,↓reduceIte,rA];refine bE ?_;simp only[↓sU,sD,rE,↓reduceIte,rA];refine aA (aS (Q:=fun o A' X=>(o= .normal∧A'.inr=false∧Same S X∧a=b∧aD 0 A'.F=v∧aD 1 A'.F=w)∨(o= .ret∧Same S X∧∃c:Int,aD 4 A'.F= .int .i64 c∧(c<0↔jF a b))) (aA (aF ?_)) ?_)
 ·simp only[↓sU,sD,rE,↓reduceIte,rA,ha.len,Ag];refine aJ (bB (aPa S v w a b) ?_ a.length _ _ ⟨rfl,Same.refl _,0,by omega,rfl,by simp only[↓sU,sD,rE,↓reduceIte,rA],by simp only[↓sU,sD,rE,↓reduceIte,rA],by simp only[↓sU,sD,rE,↓reduceIte,rA],by simp only[↓sU,sD,rE,↓reduceIte,rA],by simp only[↓sU,sD,rE,↓reduceIte,rA];try rfl⟩);rintro k ⟨F,inr⟩ X ⟨q0,hX,i,hik,he,p0,p1,p9,p10,p11⟩;simp only at q0 p0 p1 p9 p10 p11;subst q0;refine bE ?_;simp only[↓sU,sD,rE,↓reduceIte,rA,p10,p11];by_cases hlt:i<a.length;rotate_left
  ·refine aA (aK (by simp only[↓sU,sD,rE,↓reduceIte,rA,Aa (show ¬ (i:Int)<((a.length:Nat):Int) by omega)]) (aU ?_));simp only[↓sU,sD,rE,↓reduceIte,rA];rw[Ax (by omega),Ax (by omega)] at he;exact .inl ⟨hX,he,by refine⟨?_,?_⟩<;>simp only[↓sU,sD,rE,↓reduceIte,rA,p0,p1]⟩
  refine aA (aM (by simp only[↓sU,sD,rE,↓reduceIte,rA,Ab (show(i:Int)<((a.length:Nat):Int) by omega)]) (aI ?_));try simp only[↓sU,sD,rE,↓reduceIte,rA]
  have w1:IntKind.i64.wrap ((i:Int)+1)=((i+1:Nat):Int):=by rw[wrap_i64 (by omega) (by omega)];omega
  obtain⟨b1,q1,i1,_,l1⟩:=tZ (ha.same hX) hlt;obtain⟨b2,q2,i2,_,l2⟩:=tZ (hb.same hX) (show i<b.length by omega);refine aA (aJ (aA (aF ?_)));simp only[↓sU,sD,rE,↓reduceIte,rA,p9,p11,aE,i1,l1];refine eG ?_;simp only[↓sU,sD,rE,↓reduceIte,rA,p1,(hb.same hX).len,Ag];refine aK (by simp only[↓sU,sD,rE,↓reduceIte,rA,Aa (show ¬ (i:Int)≥((b.length:Nat):Int) by omega)]) (aI ?_);try simp only[↓sU,sD,rE,↓reduceIte,rA]
  refine bE ?_;simp only[↓sU,sD,rE,↓reduceIte,rA,p1,aE,i2,l2];refine bE ?_;simp only[↓sU,sD,rE,↓reduceIte,rA];refine aY ?_;simp only[↓sU,sD,rE,↓reduceIte,rA];refine aP (aDF H) ?_;rintro _ _ ⟨rfl,rfl⟩;try simp only[↓sU,sD,rE,↓reduceIte,rA]
  refine bE ?_;simp only[↓sU,sD,rE,↓reduceIte,rA];by_cases hx:a.getD i 0=b.getD i 0
  ·have hz:=(aCX (a.getD i 0) (b.getD i 0)).2 hx;refine aK (by simp only[↓sU,sD,rE,↓reduceIte,rA,Aa (show ¬aEH (a.getD i 0) (b.getD i 0)≠0 from fun h=>h hz)]) (aI ?_);try simp only[↓sU,sD,rE,↓reduceIte,rA]
   refine aF ?_;simp only[↓sU,sD,rE,↓reduceIte,rA,p11,w1];refine⟨k - 1,by omega,rfl,hX,i+1,by omega,?_,by refine⟨?_,?_,?_,?_,?_⟩<;>simp only[↓sU,sD,rE,↓reduceIte,rA,p0,p1,p9,p10]⟩;rw[Bi,Bi,he,lN hlt,lN (show i<b.length by omega),hx]
  ·have hz:aEH (a.getD i 0) (b.getD i 0)≠0:=fun h=>hx ((aCX _ _).1 h);refine aM (by simp only[↓sU,sD,rE,↓reduceIte,rA,Ab hz]) ?_;refine bE ?_;simp only[↓sU,sD,rE,↓reduceIte,rA];refine aO ?_;simp only[↓sU,sD,rE,↓reduceIte,rA];exact .inr ⟨hX,_,rfl,by rw[aJj];exact(aGn he hlt (by omega) hx).symm⟩
 rintro o ⟨F,inr⟩ X (⟨rfl,q0,hX,rfl,p0,p1⟩ | ⟨rfl,hX,c,p4,hc⟩);rotate_left
 ·simp only at p4;simp only[↓sU,sD,rE,↓reduceIte,rA,p4];exact⟨hX,c,rfl,hc⟩
 simp only at q0 p0 p1;subst q0;try simp only[↓sU,sD,rE,↓reduceIte,rA]
 refine eG ?_;simp only[↓sU,sD,rE,↓reduceIte,rA,p0,p1,(ha.same hX).len,(hb.same hX).len,Ag];refine aK (by simp only[↓sU,sD,rE,↓reduceIte,rA,Aa (show ¬ ((a.length:Nat):Int)<((a.length:Nat):Int) by omega)]) (aI ?_);try simp only[↓sU,sD,rE,↓reduceIte,rA]
 refine bE ?_;simp only[↓sU,sD,rE,↓reduceIte,rA];refine aO ?_;simp only[↓sU,sD,rE,↓reduceIte,rA];exact⟨hX,0,rfl,fun h=>by omega,fun h=>absurd h nN⟩
def GrN(S0 X:St)(v:AV)(n:Nat)(cs:List AV):Prop:=(∃b x,v= .sl b 0 1 1 false∧n=1∧cs= [x]∧S0.nx≤b∧b<X.nx∧X.h.get b=some (.cells [x] false 0))∨(0<n∧jZ 1 S0 X v n cs)
section
variable {S0 X X':St}{v:AV}{n:Nat}{cs:List AV}
theorem GrN.pos(h:GrN S0 X v n cs):0<n:=by
 rcases h with⟨b,x,_,rfl,_⟩ | ⟨h,_⟩
 ·exact Nat.one_pos
 ·exact h
theorem GrN.csl(h:GrN S0 X v n cs):cs.length=n:=by
 rcases h with⟨b,x,_,rfl,rfl,_⟩ | ⟨_,h⟩
 ·rfl
 ·rw[h.csl,Dn]
theorem GrN.move(h:GrN S0 X v n cs)(hn:X.nx≤X'.nx)(hh:∀c,cL v=some c→X'.h.get c=X.h.get c):GrN S0 X' v n cs:=by
 rcases h with⟨b,x,rfl,h1,h2,h3,h4,h5⟩ | ⟨h0,h⟩
 ·exact .inl ⟨b,x,rfl,h1,h2,h3,Ae h4 hn,(hh b rfl).trans h5⟩
 ·exact .inr ⟨h0,h.move hn hh⟩
theorem GrN.at(h:GrN S0 X v n cs):∃b o s,v= .sl b 0 n n o∧S0.nx≤b∧b<X.nx∧X.h.get b=some (.cells cs o s):=by
 rcases h with⟨b,x,rfl,rfl,rfl,h3,h4,h5⟩ | ⟨h0,h⟩
 ·exact⟨b,false,0,rfl,h3,h4,h5⟩
 ·rcases h with⟨_,e,_⟩ | ⟨b,rfl,h1,h2,h3,_⟩
  ·omega
  ·exact⟨b,true,1,rfl,h1,h2,h3⟩
theorem GrN.blk{c:Nat}(h:GrN S0 X v n cs)(hc:cL v=some c):S0.nx≤c∧c<X.nx:=by
 obtain⟨b,o,s,rfl,h1,h2,_⟩:=h.at;cases hc;exact⟨h1,h2⟩
theorem GrN.step(h:GrN S0 X v n cs)(hs:Same X X'):GrN S0 X' v n cs:=h.move hs.1 fun c hc=>hs.2 c (h.blk hc).2
theorem GrN.len(h:GrN S0 X v n cs):gW v=some (.int .i64 ((n:Nat):Int)):=by
 obtain⟨b,o,s,rfl,_⟩:=h.at;rfl
theorem GrN.push1{bytes t:Nat}{x:AV}(h:GrN S0 X v n cs)(hS:Same S0 X)(ht:X.h.get t=some (.cells [x] false 0))(h1:n+1≤room)(h2:(n+1) * bytes≤room):
  ∃v' X',iN bytes 1 v (.sl t 0 1 1 false) X=some (v',X')∧GrN S0 X' v' (n+1) (cs++ [x])∧cL v'=some X.nx∧X'.nx=X.nx+1∧∀c,c<X.nx→cL v≠some c→X'.h.get c=X.h.get c:=by
 rcases h with⟨b,y,rfl,rfl,rfl,h3,h4,h5⟩ | ⟨h0,h⟩
 ·have hs:=aLi ht;have h1:1+1≤room:=h1;have h2:(1+1) * bytes≤room:=h2;refine⟨.sl X.nx 0 2 2 true,⟨X.h.set X.nx (some (.cells [y,x] true 1)),X.nx+1⟩,?_,.inr ⟨by omega,.inr ⟨X.nx,rfl,hS.1,by simp,?_,rfl⟩⟩,rfl,rfl,fun c hc _=>(Same.alloc X _).2 c hc⟩
  ·show(aZ (some 1) fun j=>aZ (fP (.sl t 0 1 1 false) X.h 1 j) fun new=>aDN (.sl b 0 1 1 false) bytes 1 j new X)=_;rw[aT,hs,aT];show vT bytes 1 b 0 1 1 false 1 [x] X=_;unfold vT;rw[show Nat.ble (1+1) 1=false from rfl,aV,Am h1,aQ,Am h2,aQ,h5,aT];rfl
  ·simp only;rw[T.get_set,if_pos rfl];rfl
 ·obtain⟨v',X',e,g,b,m,r⟩:=h.push1 hS ht h1 h2;exact⟨v',X',e,.inr ⟨by omega,g⟩,b,m,r⟩
end
structure kE(S0 X:St)(v:AV)(W:List (List Int)):Prop where
 ex:∃cs,GrN S0 X v W.length cs∧vO S0 X v cs W
section
variable {S0 X X':St}{v:AV}{W:List (List Int)}
theorem kE.len(h:kE S0 X v W):gW v=some (.int .i64 ((W.length:Nat):Int)):=by
 obtain⟨cs,h1,_⟩:=h.ex;exact h1.len
theorem kE.blk{c:Nat}(h:kE S0 X v W)(hc:cL v=some c):S0.nx≤c∧c<X.nx∧∃o s cs,X.h.get c=some (.cells cs o s):=by
 obtain⟨cs,h1,_⟩:=h.ex;obtain⟨b,o,s,rfl,k1,k2,k3⟩:=h1.at;cases hc;exact⟨k1,k2,o,s,cs,k3⟩
theorem kE.step(h:kE S0 X v W)(hs:Same X X'):kE S0 X' v W:=by
 obtain⟨cs,h1,h2⟩:=h.ex;exact⟨cs,h1.step hs,h2.1,fun j hj=>by
  obtain⟨r,a,b,c⟩:=h2.2 j hj;exact⟨r,a,b.same hs,c⟩⟩
theorem kE.is(h:kE S0 X v W):aN 1 kJ X v W:=by
 obtain⟨cs,h1,h2⟩:=h.ex;obtain⟨b,o,s,rfl,k1,k2,k3⟩:=h1.at;refine .inr ⟨b,0,W.length,o,cs,rfl,Ah _,k2,by unfold cS;rw[k3];rfl,fun i l hi=>?_⟩;have hlt:=(Ai.1 hi).1;have e:W.getD i []=l:=by rw[Ad,hi];rfl
 obtain⟨r,h4,h5,_⟩:=h2.2 i hlt;rw[e] at h5;refine⟨[r],rfl,fun j x hj=>?_,r,rfl,h5⟩;cases j with
 | zero=>
  cases hj;rw[An,Dn];exact h4
 | succ j=>simp at hj
theorem kE.one{r:AV}{l:List Int}{t:Nat}(h:bN .i64 X r l)(hr:∀c,cL r=some c→S0.nx≤c∧c≠t)(hc:X.h.get t=some (.cells [r] false 0))(h0:S0.nx≤t)(ht:t<X.nx):kE S0 X (.sl t 0 1 1 false) [l]:=by
 refine⟨[r],.inl ⟨t,r,rfl,rfl,rfl,h0,ht,hc⟩,rfl,fun j hj=>?_⟩;obtain rfl:j=0:=by simpa using hj
 exact⟨r,rfl,h,fun c hc=>⟨(hr c hc).1,fun e=>(hr c hc).2 (by cases e;rfl)⟩⟩
theorem kE.push{bytes t m:Nat}{r:AV}{l:List Int}(h:kE S0 X v W)(hS:Same S0 X)(hm:S0.nx≤m)(hm2:m≤X.nx)(hold:∀c,cL v=some c→c<m)(hr:bN .i64 X r l)(hb:∀c,cL r=some c→m≤c)(ht:X.h.get t=some (.cells [r] false 0))(h1:W.length+1≤room)(h2:(W.length+1) * bytes≤room):
  ∃v' X',iN bytes 1 v (.sl t 0 1 1 false) X=some (v',X')∧kE S0 X' v' (W++ [l])∧cL v'=some X.nx∧X'.nx=X.nx+1∧∀c,c<X.nx→cL v≠some c→X'.h.get c=X.h.get c:=by
 obtain⟨cs,g1,g2⟩:=h.ex;obtain⟨v',X',e,a1,a2,a3,a4⟩:=g1.push1 hS ht h1 h2;have hsl:∀c,cL r=some c→c<X.nx:=fun c hc=>aB8 hr hc;have hrv:∀c,cL r=some c→cL v≠some c:=fun c hc e=>by
  have:=hold c e;have:=hb c hc;omega
 refine⟨v',X',e,⟨cs++ [r],by rw[Ak,Bz];exact a1,by simp [g2.1],fun j hj=>?_⟩,a2,a3,a4⟩;rw[Ak,Bz] at hj;rw[uV];by_cases ej:j=W.length
 ·rw[if_pos ej,ej,←g2.1];refine⟨r,by rw[Av (Ah _),Dr];rfl,lT hr (by omega) fun c hc=>a4 c (hsl c hc) (hrv c hc),fun c hc=>⟨Ay hm (hb c hc),fun e=>?_⟩⟩;rw[a2] at e;cases e;exact absurd (hsl _ hc) (Nat.lt_irrefl _)
 ·rw[if_neg ej];obtain⟨r',k1,k2,k3⟩:=g2.2 j (by omega);refine⟨r',by rw[Ba (by rw[g2.1];omega)];exact k1,lT k2 (by omega) fun c hc=>a4 c (aA3 k2 hc) (k3 c hc).2,fun c hc=>⟨(k3 c hc).1,fun e=>?_⟩⟩;rw[a2] at e;cases e;exact absurd (aA3 k2 hc) (Nat.lt_irrefl _)
end
theorem aHk(a b:List Nat):eqv (.p .str) (.str a) (.str b)=some (decide (a=b)):=by
 show some (jT a b)=_;rw[aDk]
def encS(K:List (List Nat)):List (AV×AV):=aIg AV.str AV.bool (K.map fun k=>(k,true))
theorem yQ{k:List Nat}:∀ {K:List (List Nat)} {i:Nat},(k∉K∧xT k (K.map fun k=>(k,true)) i=none)∨(k∈K∧∃j,xT k (K.map fun k=>(k,true)) i=some (j,true))
 | [],i=>.inl ⟨by simp,rfl⟩
 | x::K,i=>by
  by_cases e:k=x
  ·exact .inr ⟨by rw[e];exact Bt ..,i,by show(if k=x then _ else _)=_;rw[if_pos e]⟩
  ·rcases yQ (k:=k) (K:=K) (i:=i+1) with⟨h1,h2⟩ | ⟨h1,j,h2⟩
   ·exact .inl ⟨fun h=>(Bg.1 h).elim e h1,by show(if k=x then _ else xT k _ (i+1))=_;rw[if_neg e];exact h2⟩
   ·exact .inr ⟨Bn _ h1,j,by show(if k=x then _ else xT k _ (i+1))=_;rw[if_neg e];exact h2⟩
theorem aK4{h:Ev.T AB}{b:Nat}{K:List (List Nat)}(hl:h.get b=some (.map (encS K))){k:List Nat}{m x:cJ}{F:Fr}(h1:m.val F= .map b)(h2:x.val F= .str k):gS (.lookup (.p .str) (.bool false) false m x) F h=some (.bool (decide (k∈K))):=by
 show(aZ (oN h (m.val F)) fun es=>aZ (mJ (.p .str) (x.val F) es) fun r=>mT r (.bool false) false)=_;rw[h1,h2];show(aZ (aZ (h.get b) qM) fun es=>aZ (mJ (.p .str) (.str k) es) fun r=>mT r (.bool false) false)=_;rw[hl,aT];show aZ (some (encS K)) _=_;unfold encS;rw[aT,aAv (ek:=AV.str) aHk,aT];rcases yQ (k:=k) (K:=K) (i:=0) with⟨e1,e2⟩ | ⟨e1,j,e2⟩
 ·rw[e2,Aa e1];rfl
 ·rw[e2,Ab e1];rfl
theorem aFW{S:St}{b:Nat}{K:List (List Nat)}(hl:S.h.get b=some (.map (encS K))){k:List Nat}(hf:k∉K):rO (.map b) (.p .str) (.str k) (.bool true) S=some (.undef,⟨S.h.set b (some (.map (encS (K++ [k])))),S.nx⟩):=by
 show(aZ (aZ (S.h.get b) qM) fun es=>aZ (mJ (.p .str) (.str k) es) fun r=>some (AV.undef,(⟨S.h.set b (some (.map (yY r es (.str k) (.bool true)))),S.nx⟩:St)))=_;rw[hl,aT];show aZ (some (encS K)) _=_;have e2:xT k (K.map fun k=>(k,true)) 0=none:=by
  rcases yQ (k:=k) (K:=K) (i:=0) with⟨_,e2⟩ | ⟨e1,_⟩
  ·exact e2
  ·exact absurd e1 hf
 unfold encS;rw[aT,aAv (ek:=AV.str) aHk,aT,e2];show some (AV.undef,(⟨S.h.set b (some (.map (vD (aIg AV.str AV.bool (K.map fun k=>(k,true))) [(.str k,.bool true)]))),S.nx⟩:St))=_;rw[fK];unfold aIg;rw[Ej,Ej];rfl
theorem aC1{e:nZ}{m k v:cJ}{c:dZ}{F:Fr}{S:St}:evX (.mapUpd e m k v) c F S=rO (m.val F) e (k.val F) (v.val F) S:=rfl
theorem aKw{F:Fr}{id:Nat}:vG .mkMap F id=some (.map id,.map []):=rfl
theorem aK9(e:nZ){a n:Nat}(hn:n≤64):gO .shr e (.int .i64 (a:Int)) (.int .u64 (n:Int))=some (.int .i64 ((a / 2 ^ n:Nat):Int)):=by
 show dD .shr .i64 (Int.ofNat a) .u64 (Int.ofNat n)=_;unfold dD;rw[show eI .shr=true from rfl,aQ];show sO .shr .i64 (Int.ofNat a) n=_;unfold sO;rw[show Nat.ble n IntKind.i64.bits=true from Am hn,aQ];show some (AV.int .i64 (Int.fdiv (a:Int) ((2 ^ n:Nat):Int)))=_;rw[Int.fdiv_eq_ediv_of_nonneg _ (Fd _)];rfl
theorem aFv{a:Nat}:IntKind.u8.wrap (a:Int)=((a % 256:Nat):Int):=by
 simp [IntKind.wrap,IntKind.signed,IntKind.bits]
theorem aMs(n:Nat):repeatL [AV.int .u8 0] n=gC (List.replicate n 0):=by rw[repeatL_one];simp [gC]
theorem aJ9{N b i:Nat}(h:i<N):eU (.arr N 1) (.ptr b 0) i=some (.ptr b i):=by
 show bL (Nat.blt i N) (some (AV.ptr b (0+i * 1))) none=_;rw[show Nat.blt i N=true from Am h,aQ];simp
theorem aKW{N b m:Nat}{F:Fr}{y:cJ}(hy:eR (y.val F)=some m)(hm:m≤N)(hN:0<N):qN (.arr N 1) (.ptr b 0) none (some y) none F=some (.sl b 0 m N false):=by
 have e4:Nat.beq N 0=false:=by rw[Dh];intro h;rw[Bd] at h;omega
 simp only[qN,aHd,kH,iA,aT,hy,Am (Ah N),Am hm,Am (Cj _),aQ,e4,aV,Fc,Fi,Bj]
theorem aKG{l:List Nat}{p a b:Nat}(h:p+1<l.length):((l.set p a).set (p+1) b).take (p+2)=l.take p++ [a,b]:=by
 rw[Bi,Bi,List.getElem?_set_self (by rw[Al];exact h),List.getElem?_set_ne (by omega),List.getElem?_set_self (by omega),List.take_set_of_le (by omega),List.take_set_of_le (by omega),Cl];rfl
theorem aIx{m:List Int}{i x:Nat}(h:i<m.length)(hx:m.getD i 0=(x:Int)):iU (m.take (i+1))=iU (m.take i)++ [x / 256,x % 256]:=by
 rw[Bi,lN h,hx];unfold iU;rw[List.flatMap_append];simp
theorem aLs{m:List Int}(h:∀x∈m,0≤x∧x<65536):∀y∈iU m,y≤255:=by
 intro y hy;unfold iU at hy;obtain⟨x,hx,hy⟩:=List.mem_flatMap.1 hy;have:=h x hx;simp only[Bg,List.not_mem_nil,or_false] at hy;omega
def aNP(S:St)(v:AV)(m:List Int)(k:Nat)(A:bH)(X:St):Prop:=A.inr=false∧Same S X∧S.nx<X.nx∧∃ (i:Nat) (W:List Nat),i+k=m.length∧W.length=4000∧W.take (2 * i)=iU (m.take i)∧X.h.get S.nx=some (.cells (gC W) false 0)∧aD 0 A.F=v∧aD 3 A.F= .ptr S.nx 0∧aD 6 A.F=v∧aD 7 A.F= .int .i64 (m.length:Int)∧aD 8 A.F= .int .i64 (i:Int)
theorem aFH{S:St}{v:AV}{m:List Int}(H:Has fns)(hv:bN .i64 S v m)(hn:m.length≤1000)(hm:∀x∈m,0≤x∧x<65536):fA fns (.fn 38 [] []) [v] S fun r S'=>r= .str (iU m)∧Same S S':=by
 refine bP H.f38 (by simp) ?_;simp only[↓aC,aB,rE,↓reduceIte];refine bE ?_;simp only[↓aC,aB,rE,↓reduceIte];refine bE ?_;rw[aMs];refine dO ?_;intro S1 s1 n1 c1;simp only[↓aC,aB,rE,↓reduceIte];have hrep:(List.replicate 4000 0).length=4000:=Ao ..;generalize List.replicate 4000 0=W0 at *;refine aA (aS (Q:=fun o A' X=>o= .normal∧aNP S v m 0 A' X) (aA (aF ?_)) ?_)
 ·simp only[↓sU,sD,rE,↓reduceIte,rA,hv.len,Ag];refine aJ (bB (aNP S v m) ?_ m.length _ _ ⟨rfl,s1,by omega,0,W0,by omega,hrep,by rw[Nat.mul_zero,Bp,Bp];rfl,c1,by simp only[↓sU,sD,rE,↓reduceIte,rA],by simp only[↓sU,sD,rE,↓reduceIte,rA],by simp only[↓sU,sD,rE,↓reduceIte,rA],by simp only[↓sU,sD,rE,↓reduceIte,rA],by simp only[↓sU,sD,rE,↓reduceIte,rA];try rfl⟩);rintro k ⟨F,inr⟩ X ⟨q0,hX,lX,i,W,hik,hW,he,gX,p0,p3,p6,p7,p8⟩;simp only at q0 p0 p3 p6 p7 p8;subst q0;refine bE ?_;simp only[↓sU,sD,rE,↓reduceIte,rA,p7,p8];by_cases hlt:i<m.length;rotate_left
  ·refine aA (aK (by simp only[↓sU,sD,rE,↓reduceIte,rA,Aa (show ¬ (i:Int)<((m.length:Nat):Int) by omega)]) (aU ?_));simp only[↓sU,sD,rE,↓reduceIte,rA];obtain rfl:k=0:=by omega
   exact⟨rfl,hX,lX,i,W,hik,hW,he,gX,by refine⟨?_,?_,?_,?_,?_⟩<;>simp only[↓sU,sD,rE,↓reduceIte,rA,p0,p3,p6,p7,p8]⟩
  refine aA (aM (by simp only[↓sU,sD,rE,↓reduceIte,rA,Ab (show(i:Int)<((m.length:Nat):Int) by omega)]) (aI ?_));try simp only[↓sU,sD,rE,↓reduceIte,rA]
  have w1:IntKind.i64.wrap ((i:Int)+1)=((i+1:Nat):Int):=by rw[wrap_i64 (by omega) (by omega)];omega
  have w2:IntKind.i64.wrap (2 * (i:Int))=((2 * i:Nat):Int):=by rw[wrap_i64 (by omega) (by omega)];omega
  have w3:IntKind.i64.wrap (((2 * i:Nat):Int)+1)=((2 * i+1:Nat):Int):=by rw[wrap_i64 (by omega) (by omega)];omega
  obtain⟨b1,q1,i1,_,l1⟩:=tZ (hv.same hX) hlt;have hmem:m.getD i 0∈m:=by rw[Ad,Ac hlt];exact Bh hlt
  have hr:=hm _ hmem;obtain⟨x,hx⟩:∃x:Nat,m.getD i 0=(x:Int):=⟨(m.getD i 0).toNat,by omega⟩;rw[hx] at l1 hr;have v1:IntKind.u8.wrap ((x / 256:Nat):Int)=((x / 256:Nat):Int):=by
   rw[aFv,show x / 256 % 256=x / 256 by omega]
  have v2:IntKind.u8.wrap (x:Int)=((x % 256:Nat):Int):=aFv;have ia:=aJ9 (N:=4000) (b:=S.nx) (i:=2 * i) (by omega);have ib:=aJ9 (N:=4000) (b:=S.nx) (i:=2 * i+1) (by omega);refine aA (aJ (aA (aF ?_)));simp only[↓sU,sD,rE,↓reduceIte,rA,p6,p8,aE,i1,l1];refine aF ?_;have hs8:=aK9 (.p .int) (a:=x) (n:=8) (by decide);have hs8:gO .shr (.p .int) (.int .i64 (x:Int)) (.int .u64 8)=some (.int .i64 ((x / 256:Nat):Int)):=hs8;simp only[↓sU,sD,rE,↓reduceIte,rA,p3,aE,w2,w3,hs8,v1,v2,ia];refine fD (v:=.undef) (S1:=⟨X.h.set S.nx (some (.cells (gC (W.set (2 * i) (x / 256))) false 0)),X.nx⟩) (fun call=>by simp only[↓sU,sD,rE,↓reduceIte,rA,eJ,cI];exact st8 gX (by omega)) ?_;simp only[↓sU,sD,rE,↓reduceIte,rA,p3,aE,ib];refine fD (v:=.undef) (S1:=⟨(X.h.set S.nx (some (.cells (gC (W.set (2 * i) (x / 256))) false 0))).set S.nx (some (.cells (gC ((W.set (2 * i) (x / 256)).set (2 * i+1) (x % 256))) false 0)),X.nx⟩) (fun call=>by simp only[↓sU,sD,rE,↓reduceIte,rA,eJ,cI];exact st8 (S:=⟨X.h.set S.nx (some (.cells (gC (W.set (2 * i) (x / 256))) false 0)),X.nx⟩) (l:=W.set (2 * i) (x / 256)) (o:=false) (sz:=0) (by simp only;rw[T.get_set,if_pos rfl]) (by rw[Al];omega)) ?_;simp only[↓sU,sD,rE,↓reduceIte,rA];refine aF ?_;simp only[↓sU,sD,rE,↓reduceIte,rA,p8,w1];refine⟨k - 1,by omega,rfl,⟨hX.1,fun c hc=>by simp only;rw[T.get_set,if_neg (by omega),T.get_set,if_neg (by omega)];exact hX.2 c hc⟩,lX,i+1,(W.set (2 * i) (x / 256)).set (2 * i+1) (x % 256),by omega,by rw[Al,Al];exact hW,?_,by simp only;rw[T.get_set,if_pos rfl],by refine⟨?_,?_,?_,?_,?_⟩<;>simp only[↓sU,sD,rE,↓reduceIte,rA,p0,p3,p6,p7]⟩;rw[show 2 * (i+1)=2 * i+2 by omega,aKG (by omega),he,aIx hlt hx]
 rintro o ⟨F,inr⟩ X ⟨rfl,q0,hX,lX,i,W,hik,hW,he,gX,p0,p3,_,_,_⟩;simp only at q0 p0 p3;subst q0;obtain rfl:i=m.length:=by omega
 rw[Ea] at he;have w2:IntKind.i64.wrap (2 * (m.length:Int))=((2 * m.length:Nat):Int):=by rw[wrap_i64 (by omega) (by omega)];omega
 have hle:∀y∈W.take (2 * m.length),y≤255:=by rw[he];exact aLs hm
 have hst:=aOE (N:=4000) (o':=false) gX (m:=2 * m.length) (by omega) hle;rw[he] at hst;try simp only[↓sU,sD,rE,↓reduceIte,rA]
 refine bE ?_;simp only[↓sU,sD,rE,↓reduceIte,rA,p0,p3,(hv.same hX).len,Ag,w2,aAY];rw[aKW (m:=2 * m.length) (by simp only[↓sU,sD,rE,↓reduceIte,rA,aE]) (by omega) (by omega)];simp only[↓sU,sD,rE,↓reduceIte,rA,hst];refine aO ?_;simp only[↓sU,sD,rE,↓reduceIte,rA];exact hX
end Go.Ev.Gl
