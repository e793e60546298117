import Derived.Test.YtbmodoaceepfoaaGl6
set_option linter.all false
open Nat renaming reduceEqDiff -> rE, reduceAdd -> rA
set_option maxHeartbeats 0
namespace Go.Ev.Gl
variable {fns:T eY}
variable {S S0 X X':St}{b sz base i j t n ob NI c:Nat}{v nv iv x w x0 x1 x2:AV}{l:bu}{z ps:Int}{g:aX}{cs:cd}{F:Fr}{last:Option Nat}{Q:Fr->St->List iR->Prop}{h:T AB}{bl:AB}{inr:Bool}{L:Nat->bu}
def aJf{a:Int}(H:Has fns):iI fns (.fn 100 [] []) [je a] S fun r b=>r= .bool false/\b=S:=by
 refine cK H.f100 (by simp) ?_;refine ai ?_;refine cA (ai ?_);refine cA ?_;refine gy (Aa (show ¬a≠a from fun h=>h rfl)) ?_;refine aT ?_;simp only[↓aF,aE,rE,↓reduceIte]
def aLF{a b:Int}(H:Has fns):iI fns (.fn 97 [] []) [je a,je b] S fun r c=>r= .bool (decide (a<b))/\c=S:=by
 refine cK H.f97 (by simp) ?_;refine ai ?_;refine cA (ai ?_);refine cA (ai ?_);refine bK (ai ?_);refine aW (aJf H) ?_;rintro _ X ⟨rfl,d⟩;rw[d];refine ai ?_;refine aT ?_;simp only[↓aF,aE,rE,↓reduceIte]
def aIZ(m:Int)(l:bu):Int:=l.foldl mx m
def aTC(S:St)(v:AV)(l:bu)(a:Int)(k:Nat)(A:bO)(X:St):Prop:=A.inr=false/\X=S/\∃i,i+k=l.length/\0<i/\aC 0 A.F=v/\aC 3 A.F=je (aIZ a ((l.take i).drop 1))/\aC 4 A.F=je (i:Int)
def aOx(H:Has fns)(c:bN .i64 S v l)(d:0<l.length)(j:l.length<=1000000):iI fns (.fn 88 [] []) [v] S fun r n=>r=je (aIZ (l.getD 0 0) (l.drop 1))/\n=S:=by
 refine cK H.f88 (by simp) ?_;refine ai ?_;refine cA (ai ?_);refine gH (ie c.len @Ah ?_);refine aQ io (aK ?_);refine ai ?_
 have a:=c.df d;have b:=c.ld d;refine cA ?_;simp only[↓aF,aE,rE,↓reduceIte,aJ6,a,b];refine gH (ai ?_);refine aO (bX (aTC S v l (l.getD 0 0)) ?_ (l.length - 1) _ _ ⟨rfl,rfl,1,au,by decide,aj,by refine ai ?_;rw[Cr (by rw[Bv];omega)];rfl,aj⟩);rintro k ⟨F,inr⟩ X ⟨m,o,i,p,q,e,f,g⟩;simp only at m e f g;subst m;rw[o];refine gH (ig e g c.len @Ah ?_);by_cases hi:i<l.length
 .refine aS io (aK ?_);refine ai ?_
  have a:=c.df hi;have b:=c.ld hi;have h:(l.take (i+1)).drop 1=(l.take i).drop 1++ [l.getD i 0]:=by
   rw[Bx,Ab hi,List.drop_append,Bv,show 1 - min i l.length=0 by omega,Ad,Ab hi];rfl
  have s:=ed i
  refine aD (aO (aL ?_));simp only[↓aF,aE,rE,↓reduceIte,e,f,g,aJ,a,b,aN0,aDo];refine aL (ie g s ?_);refine⟨k - 1,au,rfl,rfl,i+1,au,au,ak e,?_,aj⟩;refine ai ?_;rw[h];unfold aIZ;rw[List.foldl_append];rfl
 .refine aQ io (bT ?_);refine ai ?_;rw[Bd au] at f;refine cA (gy f ?_);refine aT ?_;simp only[↓aF,aE,rE,↓reduceIte]
def aUK(S:St)(v:AV)(l:bu)(z:Int)(k:Nat)(A:bO)(X:St):Prop:=A.inr=false/\X=S/\∃i,i+k=l.length/\¬z∈l.take i/\aC 0 A.F=v/\aC 1 A.F=je z/\aC 7 A.F=je (l.length:Int)/\aC 8 A.F=je (i:Int)
def aIq(H:Has fns)(f:bN .i64 S v l)(s:l.length<=1000000):iI fns (.fn 96 [] []) [v,je z] S fun r u=>(∃j,r=je j/\(0<=j↔z∈l))/\u=S:=by
 refine cK H.f96 (by simp) ?_;refine ai ?_;refine cA (ai ?_);refine gH (ie f.len @Ah ?_);refine aO (bX (aUK S v l z) ?_ l.length _ _ ⟨rfl,rfl,0,au,by simp,by refine⟨?_,?_,?_,?_⟩<;>simp only[↓aF,aE,rE,↓reduceIte]⟩);rintro k ⟨F,inr⟩ X ⟨t,x,j,y,g,i,m,n,d⟩;simp only at t i m n d;subst t;rw[x];refine cA (ie n d ?_);by_cases a:j<l.length
 .refine aD (aS io (aK ?_));refine ai ?_;have o:=f.df a;have p:=f.ld a;have b:l.getD j 0=l[j]:=by rw[Ad,Ab a];rfl
  have q:l.take (j+1)=l.take j++ [l.getD j 0]:=by rw[Bx,Ab a,b];rfl
  have c:l.getD j 0∈l:=by rw[b];exact Bt a
  generalize l.getD j 0=w at *;have A:=ed j
  refine aD (aO (aD (aL ?_)));refine gy d ?_;refine cA ?_;simp only[↓aF,aE,rE,↓reduceIte,i,m,aJ,o,p];by_cases e:z=w
  .refine aS (ja (Ac e)) ?_;refine cA (ai ?_);refine aT (ai ?_);exact⟨_,rfl,⟨fun _=>by rw[e];exact c,fun _=>au⟩⟩
  .refine aQ (ja (Aa e)) (aK ?_);refine ai ?_
   refine aL (ie d A ?_);refine⟨k - 1,au,rfl,rfl,j+1,au,?_,by refine⟨?_,?_,?_,?_⟩<;>simp only[↓aF,aE,rE,↓reduceIte,i,m,n]⟩;rw[q];intro h;rcases Bi.1 h with h|h
   .exact g h
   .simp at h;exact e h
 .refine aD (aQ io (bT ?_));refine ai ?_;rw[Bd au] at g;refine cA (ai ?_);refine aT (ai ?_);exact⟨_,rfl,⟨fun h=>absurd h az,fun h=>absurd h g⟩⟩
def aFh(H:Has fns)(b:bN .i64 S v l)(a:l.length<=1000000):iI fns (.fn 93 [] []) [v,je z] S fun r c=>r= .bool (decide (z∈l))/\c=S:=by
 refine cK H.f93 (by simp) ?_;refine ai ?_;refine cA (ai ?_);refine cA (ai ?_);refine bK (ai ?_);refine aW (aIq H b a) ?_;rintro _ Y ⟨⟨j,rfl,d⟩,e⟩;rw[e];have f:decide ((0:Int)<=j)=decide (z∈l):=by rw[Cn,Cl,Cl];exact d
 refine gy f ?_;refine aT ?_;simp only[↓aF,aE,rE,↓reduceIte]
def aQ3(l:bu)(a b:Nat):Prop:=∀i,a<i->i<b->¬l.getD i 0<l.getD (i - 1) 0
def aCr(l:bu):Prop:=aQ3 l 0 l.length
def aUY(S:St)(v:AV)(l:bu)(k:Nat)(A:bO)(X:St):Prop:=A.inr=false/\Same S X/\∃i:Int,(k:Int)=max i 0/\ -1<=i/\i<max 1 (l.length:Int)/\aQ3 l i.toNat l.length/\aC 0 A.F=v/\aC 3 A.F=je i
def aIc(H:Has fns)(x:bN .i64 S v l)(C:l.length<=1000000):iI fns (.fn 94 [] []) [v] S fun r S'=>(∃t,r= .bool t/\(t=true↔aCr l))/\Same S S':=by
 refine cK H.f94 (by simp) ?_;refine ai ?_;refine cA (ai ?_);have w0:IntKind.i64.wrap ((l.length:Int) - 1)=(l.length:Int) - 1:=wrap_i64 au au;refine gH ?_;simp only[↓aF,aE,rE,↓reduceIte,x.len,Ah,w0];refine aO (bX (aUY S v l) ?_ (l.length - 1) _ _ ⟨rfl,eu S,(l.length:Int) - 1,au,au,au,fun i c p=>au,by refine⟨?_,?_⟩<;>simp only[↓aF,aE,rE,↓reduceIte]⟩);rintro k ⟨F,inr⟩ X ⟨D,q,i,G,I,J,d,y,s⟩;simp only at D y s;subst D;have a:=x.same q;refine gH (gy s ?_);by_cases hi:0<i
 .refine aS (ja (Ac hi)) (aK ?_);refine ai ?_
  obtain⟨n,rfl⟩:∃n:Nat,i=(n:Int):=⟨i.toNat,au⟩;have c:n<l.length:=by omega
  have u:n - 1<l.length:=by omega
  have E:IntKind.i64.wrap ((n:Int) - 1)=((n - 1:Nat):Int):=by rw[wrap_i64 au au];omega
  have e:=a.df c;have f:=a.df u;have g:=a.ld c;have m:=a.ld u;have z:=bN.self x;obtain⟨b,A⟩:∃b off cap o,v= .sl b off l.length cap o/\b<X.nx:=by
   rcases a with⟨u,_⟩|⟨b,off,cap,o,cs,rfl,_,A,_⟩
   .rw[u] at c;simp at c
   .exact⟨b,off,cap,o,rfl,A⟩
  obtain⟨off,cap,o,rfl,B⟩:=A;simp only[xS] at e f g m;refine aD (aO (aD (iD (fun _=>False) ?_)));intro S1 s1;simp only[↓sU,sD,rE,↓reduceIte,rA,y,s,aJ,e,E,f,g,m,B,An];refine dR rfl ?_;refine ae ?_;refine aW (aLF H) ?_;rintro _ Y ⟨rfl,K⟩;rw[K];refine⟨eu _,?_⟩
  by_cases w:l.getD n 0<l.getD (n - 1) 0
  .refine aS (iu (Ac w)) ?_;refine cA (ae ?_);refine aT (ae ?_);exact⟨⟨_,rfl,⟨nofun,fun h=>absurd w (h n au c)⟩⟩,q.trans s1⟩
  .refine aQ (iu (Aa w)) (aK ?_);refine ae ?_
   refine aL (ew s E ?_);refine⟨k - 1,au,rfl,q.trans s1,((n - 1:Nat):Int),au,au,au,fun j c p=>?_,by refine⟨?_,?_⟩<;>simp only[↓sU,sD,rE,↓reduceIte,rA,y]⟩;by_cases L:j=n
   .rw[L];exact w
   .exact d j au p
 .refine aQ (ja (Aa hi)) (bT ?_);refine ai ?_;refine cA (ai ?_);refine aT (ai ?_);exact⟨⟨_,rfl,⟨fun _ j c p=>d j au p,fun _=>rfl⟩⟩,q⟩
def jA:List cJ->Nat->Nat->Nat
 | [],_,_=>0
 | x::l,s,i=>if x.kind=2/\x.info=(i:Int) then s+1 else jA l (s+1) i
def fL(g:aX):bu:=(List.range g.ch.length).map fun i=>((jA g.cg 0 i:Nat):Int)
def cv(g:aX)(i:Int):fU:=g.ch.getD i.toNat ⟨0,0⟩
def mis(g:aX)(x:cJ):Prop:=x.kind=2/\¬ ((cv g x.info).player=x.player/\(cv g x.info).cr=(x.next.length:Int))
instance misDec(g:aX)(x:cJ):Decidable (mis g x):=by unfold mis;exact inferInstance
open Classical in
noncomputable def vR(g:aX):Int:=if ∃x∈g.cg,mis g x then 10 else if(0:Int)∈fL g then 18 else if aCr (fL g) then 0 else 9
def aGp(g:aX):Prop:=∀x∈g.cg,x.kind=2->0<=x.info/\x.info<g.ch.length
def aN2(a b c d:Int):nH .neq (.struct [(0,.int),(1,.int)]) (.agg [je a,je b]) (.agg [je c,je d])=some (.bool (decide (¬ (a=c/\b=d)))):=by
 have k:∀y z:Int,yL .int (je y) (je z)=some (decide (y=z)):=fun y z=>by
  show cC (keq .i64 .i64) (some (ieq y z)) none=_;rw[fO,aN,jG];congr 1
 have e:eqv (.struct [(0,.int),(1,.int)]) (.agg [je a,je b]) (.agg [je c,je d])=some (decide (a=c/\b=d)):=by
  show eqs [(0,.int),(1,.int)] [je a,je b] [je c,je d]=_;unfold eqs;show(match yL .int (je a) (je c) with | some true=>_ | some false=>_ | none=>_)=_;rw[k];by_cases h:a=c
  .rw[Ac h];unfold eqs;show(match yL .int (je b) (je d) with | some true=>_ | some false=>_ | none=>_)=_;rw[k];by_cases f:b=d
   .rw[Ac f,Ac ⟨h,f⟩];rfl
   .rw[Aa f,Aa (fun g=>f g.2)]
  .rw[Aa h,Aa (fun g=>h g.1)]
 show bG (eqv (.struct [(0,.int),(1,.int)]) _ _) _=_;rw[e,aH];congr 2;by_cases h:a=c/\b=d
 .rw[Ac h,Aa (fun f=>f h)];rfl
 .rw[Aa h,Ac h];rfl
def aRl(S:St)(b a:Nat)(g:aX)(k:Nat)(A:bO)(X:St):Prop:=A.inr=false/\Same S X/\∃F:bu,k<=g.cg.length/\F.length=g.ch.length/\(∀j,j<g.ch.length->F.getD j 0=((jA (g.cg.drop k) k j:Nat):Int))/\X.h.get a=jf (bD F)/\a<X.nx/\
 aC 0 A.F= .ptr b 0/\aC 3 A.F= .sl a 0 g.ch.length g.ch.length false/\aC 4 A.F=je ((k:Int) - 1)
def aTb(S1:St)(a:Nat)(fv nv:AV)(g:aX)(k:Nat)(A:bO)(X:St):Prop:=A.inr=false/\Same S1 X/\∃i,i+k=g.cg.length/\(∀x∈g.cg.take i,¬mis g x)/\aC 0 A.F= .ptr a 0/\aC 3 A.F=fv/\aC 47 A.F=nv/\aC 48 A.F=je (g.cg.length:Int)/\aC 49 A.F=je (i:Int)
theorem aK5{P:Nat}{pv dv lv:AV}(H:Has fns)(hW:xL S P ps nv iv pv dv lv)(hn:aG 6 cF S nv g.cg)(hi:aG 2 cE S iv g.ch)(hN:g.cg.length<=2000)(hI:g.ch.length<=200)(aI:aGp g):
  iI fns (.fn 89 [] []) [.ptr P 0] S fun r S'=>r=je (vR g)/\Same S S':=by
 refine cK H.f89 (by simp) ?_;refine am ?_;refine cA (am ?_);refine cA (gh @bE @bF @aB @aA (dF hW.1) hi.len ?_);refine fW (pU (n:=g.ch.length) (iz @aJ) (iz @aJ) ay ay) ?_;intro S1 s1 n1 c1;refine am ?_;have hz:repeatL [AV.int .i64 0] g.ch.length=bD (List.replicate g.ch.length 0):=by rw[repeatL_one];simp [bD]
 rw[hz] at c1;have a8:=hW.same s1;have w0:IntKind.i64.wrap ((g.cg.length:Int) - 1)=(g.cg.length:Int) - 1:=wrap_i64 au au;refine aD (bB (Q:=fun o B X=>o= .normal/\aRl S P S.nx g 0 B X) (aD (aL ?_)) ?_)
 .refine gj @bE @bF @aB @aA (eH a8.1) hn.len w0 ?_;refine aO (bX (aRl S P S.nx g) ?_ g.cg.length _ _ ⟨rfl,s1,_,Af _,Aq ..,fun j hj=>?_,c1,au,by refine⟨?_,?_,?_⟩<;>simp only[↓aF,aE,rE,↓reduceIte,rA]⟩);rotate_left
  .rw[Cr (Af _),Ad,Ch];split<;>rfl
  rintro k ⟨F,inr⟩ X ⟨w,v,Fl,ba,s,hF,R,V,c,d,C⟩;simp only at w c d C;subst w;refine gH (fl C ?_);by_cases hk:0<k
  .refine aS io (aK ?_);refine am ?_
   have e1:(k:Int) - 1=((k - 1:Nat):Int):=by omega
   rw[e1] at C;have D:k - 1<g.cg.length:=by omega
   obtain⟨x,O⟩:∃x,g.cg[k - 1]? =some x:=⟨_,Ab D⟩;have T:=Ar O;have ac:=hW.same v;obtain⟨e,b,q,an,hb,he,⟨a,bb,cc,rfl,ha,bd,be⟩,ao,_⟩:=aG.at (aG.same (E:=cF) bQ hn v) az O;have I:g.cg.drop (k - 1)=x::g.cg.drop k:=by
    rw[Bz D,show k - 1+1=k by omega];congr 1;rw[Ab D] at O;exact Bh O
   have w1:IntKind.i64.wrap (((k - 1:Nat):Int)+1)=(k:Int):=by rw[wrap_i64 au au];omega
   have w2:IntKind.i64.wrap (((k - 1:Nat):Int) - 1)=((k - 1:Nat):Int) - 1:=wrap_i64 au au;refine aD (aO (aD (aL ?_)));simp only[↓aF,aE,rE,↓reduceIte,rA,c,C,bE,bF,aB,aA,eH ac.1,aJ,an,ao];refine bS ?_;intro X1 x1 m1 d1;refine cQ (b:=X.nx) (aq) (by refine am ?_;exact aY _) d1 rfl rfl ?_;intro X2 x2 m2 d2;refine am ?_;have z:Same X X2:=x2.same x1 (Af _);have u:X2.h.get S.nx=jf (bD Fl):=by rw[z.2 _ V];exact R
   refine cA (ft @aB @aA (fI d2) ?_);have W:∀ (G:Fr) (Y:St) (J:bu),aC 0 G= .ptr P 0->aC 3 G= .sl S.nx 0 g.ch.length g.ch.length false->aC 4 G=je ((k - 1:Nat):Int)->Same S Y->J.length=g.ch.length->(∀j,j<g.ch.length->J.getD j 0=((jA (g.cg.drop (k - 1)) (k - 1) j:Nat):Int))->Y.h.get S.nx=jf (bD J)->S.nx<Y.nx->vT fns [mt 24 4,oq 25 (bi .sub (.t 24) (ci 1)),mt 4 25] G Y fun F' S'=>∃k',k'<k/\aRl S P S.nx g k' ⟨F',false⟩ S':=fun G Y J g0 g3 g4 Z h1 h2 h3 h4=>by
    refine fo g4 w2 ?_;exact⟨k - 1,au,rfl,Z,J,au,h1,h2,h3,h4,by refine⟨?_,?_,?_⟩<;>simp only[↓aF,aE,rE,↓reduceIte,rA,g0,g3]⟩
   by_cases f:x.kind=2
   .refine aS (iz (Ac f)) ?_;have⟨i0,i1⟩:=aI x T f;obtain⟨n,K⟩:∃n:Nat,x.info=(n:Int):=⟨x.info.toNat,au⟩;have L:n<g.ch.length:=by omega
    rw[K] at d2;have bj:=fQ (b:=S.nx) (o:=false) L;refine aL ?_;simp only[↓aF,aE,rE,↓reduceIte,rA,c,d,C,aB,aA,dF d2,w1,aJ,bj];refine fN (fun call=>by refine fo @dL @dD ?_;exact yI (S:=X2) u (by rw[s];exact L)) ?_;refine am ?_;refine aL ?_;refine aIC (W _ _ (Fl.set n (k:Int)) (ar c) (ar d) (ar C) (((v.trans z)).put (Af _) _) (by rw[Aw];exact s) (fun j hj=>?_) jd (by simp only;omega)) fun F' S' hh=>hh;rw[iE (by rw[s];exact L),I,hF j hj];simp only[jA];by_cases U:j=n
    .rw[if_pos U,if_pos ⟨f,by rw[K,U]⟩];omega
    .rw[if_neg U,if_neg (fun h=>U au),show k - 1+1=k by omega]
   .refine aQ (iz (Aa f)) (aK ?_);refine am ?_
    refine aL ?_;refine aIC (W _ X2 Fl (ar c) (ar d) (ar C) (v.trans z) s (fun j hj=>?_) u au) fun F' S' hh=>hh;rw[I,hF j hj];simp only[jA];rw[if_neg (fun h=>f h.1),show k - 1+1=k by omega]
  .refine aQ io (bT ?_);refine am ?_;have aw:k=0:=by omega
   subst aw;exact⟨rfl,v,Fl,ba,s,hF,R,V,by refine⟨?_,?_,?_⟩<;>simp only[↓aF,aE,rE,↓reduceIte,rA,c,d,C]⟩
 rintro o ⟨F,inr⟩ S2 ⟨rfl,w,s2,Fl,_,s,hF,R,u,c,d,C⟩;simp only at w c d C;subst w;have aV:Fl=fL g:=by
  unfold fL;refine Dc (by simp [s]) fun j j1 j2=>?_;have h1:=hF j au;rw[Ad,Ab j1,Dn] at h1;rw[Ej,Ek];exact h1
 subst aV;have aZ:=hW.same s2;have a0:=aG.same (E:=cF) bQ hn s2;have bk:=aG.same (E:=cE) cB hi s2;refine am ?_
 refine aD (bB (Q:=fun o B X=>(o= .normal/\aTb S2 P (.sl S.nx 0 g.ch.length g.ch.length false) nv g 0 B X)\/(o= .ret/\Same S2 X/\(∃x∈g.cg,mis g x)/\aC 2 B.F=je 10)) (aD (aL ?_)) ?_)
 .refine gj c @bE @bF @aB @aA (eH aZ.1) a0.len ?_;refine aO (bX (aTb S2 P (.sl S.nx 0 g.ch.length g.ch.length false) nv g) ?_ g.cg.length _ _ ⟨rfl,eu _,0,au,fun x O=>(by simp at O),by refine⟨?_,?_,?_,?_,?_⟩<;>simp only[↓aF,aE,rE,↓reduceIte,rA,c,d]⟩);clear c d C;rintro k ⟨F,inr⟩ X ⟨w,v,i,a1,hm,c,d,m,p,l⟩;simp only at w c d m p l;subst w;refine cA (fo p l ?_);by_cases D:i<g.cg.length
  .refine aD (aS io (aK ?_));refine am ?_;obtain⟨x,O⟩:∃x,g.cg[i]? =some x:=⟨_,Ab D⟩;have T:=Ar O;obtain⟨e,b,q,an,hb,he,⟨a,bb,cc,rfl,ha,bd,be⟩,ao,_⟩:=aG.at (aG.same (E:=cF) bQ a0 v) az O;have w1:=ed i
   refine aD (aO (aD (aL ?_)));refine fx m l @aJ an ao ?_;refine bS ?_;intro X1 x1 m1 d1;refine cQ (b:=X.nx) (aq) (by refine am ?_;exact aY _) d1 rfl rfl ?_;intro X2 x2 m2 d2;refine am ?_;have z:Same X X2:=x2.same x1 (Af _);have M:=v.trans z;have ac:=aZ.same M;have bm:=(ha.same z).len;have bn:=bN.self ha;have bp:=aG.self hi;refine aD (bB (Q:=fun o B Y=>o= .normal/\B.inr=false/\Same X2 Y/\aC 0 B.F= .ptr P 0/\aC 3 B.F= .sl S.nx 0 g.ch.length g.ch.length false/\aC 47 B.F=nv/\aC 48 B.F=je (g.cg.length:Int)/\aC 49 B.F=je (i:Int)/\aC 73 B.F= .bool (decide (mis g x))) (jK ?_) ?_)
   .by_cases f:x.kind=2
    .have⟨i0,i1⟩:=aI x T f;obtain⟨n,K⟩:∃n:Nat,x.info=(n:Int):=⟨x.info.toNat,au⟩;have L:n<g.ch.length:=by omega
     obtain⟨y,hy⟩:∃y,g.ch[n]? =some y:=⟨_,Ab L⟩;obtain⟨e',b',q',a2,bw,bx,rfl,a3,_⟩:=aG.at (aG.same (E:=cE) cB bk M) az hy;have bq:cv g x.info=y:=by unfold cv;rw[K,Ad,show((n:Int)).toNat=n from rfl,hy];rfl
     have a5:decide (mis g x)=decide (¬ (y.player=x.player/\y.cr=(x.next.length:Int))):=by
      rw[Cn,Cl,Cl];unfold mis;rw[bq];exact⟨fun h=>h.2,fun h=>⟨f,h⟩⟩
     rw[a5];rw[K] at d2;have bs:cO (.agg [je y.player,je y.cr]) (.agg [je y.player,je y.cr])=true:=aCg (eM ..) (eM ..);simp only[↓aF,aE,rE,↓reduceIte,rA,c,d,m,p,l,bE,bP,bF,aB,aP,aA,fI d2,eH d2,dF d2,dG d2,dF ac.1,aJ,a2,a3,bm,bn,bp,bs,Ah,mK,aRi,dD,aN2,Ac f];exact Same.nx _ _
    .rw[Aa (show ¬mis g x from fun h=>f h.1)];simp only[↓aF,aE,rE,↓reduceIte,rA,c,d,m,p,l,aB,aP,aA,fI d2,Aa f];exact Same.nx _ _
   clear c d m p l;rintro o ⟨F,inr⟩ Y ⟨rfl,w,Z,c,d,m,p,l,pb⟩;simp only at w c d m p l pb;subst w;have aa:=M.trans Z;refine am ?_
   by_cases A:mis g x
   .refine aS (i9 pb (Ac A)) ?_;refine cA (am ?_);refine aT (am ?_);exact .inr ⟨aa,x,T,A⟩
   .refine aQ (i9 pb (Aa A)) (aK ?_);refine am ?_
    refine aL (fo l w1 ?_);refine⟨k - 1,au,rfl,aa,i+1,au,fun y hy=>?_,by refine⟨?_,?_,?_,?_,?_⟩<;>simp only[↓aF,aE,rE,↓reduceIte,rA,c,d,m,p]⟩;rw[Bx,O] at hy;rcases Bi.1 hy with h|h
    .exact hm y h
    .simp at h;rw[h];exact A
  .refine aD (aQ io (bT ?_));refine am ?_;have aw:k=0:=by omega
   subst aw;exact .inl ⟨rfl,v,i,a1,hm,by refine⟨?_,?_,?_,?_,?_⟩<;>simp only[↓aF,aE,rE,↓reduceIte,rA,c,d,m,p,l]⟩
 clear c d C;rintro o ⟨F,inr⟩ X (⟨rfl,w,v,i,a1,hm,c,d,m,p,l⟩|⟨rfl,v,A,p2⟩);rotate_left
 .simp only at p2;simp only[↓aF,aE,rE,↓reduceIte,rA,p2];unfold vR;rw[if_pos A];exact⟨rfl,s2.trans v⟩
 simp only at w c d;subst w;rw[Bd au] at hm;unfold vR;rw[if_neg (fun⟨x,h1,h2⟩=>hm x h1 h2)];have sX:=s2.trans v;have bv:X.h.get S.nx=jf (bD (fL g)):=by rw[v.2 _ u];exact R
 have ab:=aDM (N:=g.ch.length) bv (Ae u v.1) s;refine am ?_
 refine gH (fl d ?_);refine bK (am ?_);refine aW (aFh H ab au) ?_;rintro _ Y ⟨rfl,Z⟩;rw[Z]
 by_cases h0:(0:Int)∈fL g
 .rw[if_pos h0];refine aS (iz (Ac h0)) ?_;refine cA (am ?_);refine aT (am ?_);exact sX
 rw[if_neg h0];refine aQ (iz (Aa h0)) (aK ?_);refine am ?_
 refine gH (fl d ?_);refine bK (am ?_);refine aW (aIc H ab au) ?_;rintro _ Y ⟨⟨t,rfl,ht⟩,Z⟩;refine fl @fY ?_;cases t with
 | false=>
  rw[if_neg (fun h=>by have:=ht.2 h;cases this)];refine aS (by simp only[↓aF,aE,rE,↓reduceIte,rA];rfl) ?_;refine cA (am ?_);refine aT (am ?_);exact sX.trans Z
 | true=>
  rw[if_pos (ht.1 rfl)];refine aQ (by simp only[↓aF,aE,rE,↓reduceIte,rA];rfl) (aK ?_);refine am ?_
  refine cA (am ?_);refine aT (am ?_);exact sX.trans Z
def nL(g:aX):Prop:=g.cm<1\/(4:Int)<g.cm\/(g.cg.length:Int)<1\/(2000:Int)<(g.cg.length:Int)\/(200:Int)<(g.ch.length:Int)
instance badGDec(g:aX):Decidable (nL g):=by unfold nL;exact inferInstance
def kT(ps:Int)(a:Nat):List cJ->Int
 | []=>0
 | x::l=>if gQ ps a x≠0 then gQ ps a x else kT ps a l
def gP(g:aX):Option (List cS):=fB g.cg.length (dN g) (g.cg.length+1) 0 (-1) 0
noncomputable def dC(g:aX):Int:=
 if nL g then 2 else if kT g.cm g.ch.length g.cg≠0 then kT g.cm g.ch.length g.cg else
 match gP g with
 | none=>9
 | some T=>if T.length≠g.cg.length then 9 else if 40<wM 0 T then 5 else vR g
theorem jF{ps:Int}{c:Nat}:∀ {l:List cJ},kT ps c l=0->∀x∈l,gQ ps c x=0
 | [],_,x,a=>by cases a
 | y::l,h,x,a=>by
  simp only[kT] at h;split at h
  .rename_i b;exact absurd h b
  .rename_i d;rcases Bp.1 a with rfl|a
   .exact Dx.1 d
   .exact jF h x a
def aCF{x:cJ}(h:gQ ps b x=0):x.next.length<=1000:=by
 unfold gQ at h;split at h
 .split at h
  .cases h
  .rename_i a;unfold oL at a;omega
 .split at h
  .split at h
   .cases h
   .rename_i a;unfold vD at a;omega
  .split at h
   .split at h
    .cases h
    .rename_i a;unfold oM at a;omega
   .cases h
def aCx{ni:Nat}{x:cJ}(h:gQ ps ni x=0)(a:x.kind=2):0<=x.info/\x.info<ni:=by
 unfold gQ at h;rw[if_neg au,if_pos a] at h;split at h
 .cases h
 .split at h
  .cases h
  .omega
def xO{p:Nat}{o:Bool}(h:S.h.get b=some (.cells cs o sz))(c:p<cs.length):qX (.ptr b p) 1 [w] S=some (.undef,⟨S.h.set b (some (.cells (cs.set p w) o sz)),S.nx⟩):=by
 have a:put cs p [w]=some (cs.set p w):=by
  rw[put_eq,if_pos (by simp;omega)];congr 1;rw[List.set_eq_take_append_cons_drop,if_pos c];simp
 simp only[qX,uF,h,aH,aCf,a];rfl
def aBA{W:Nat->Prop}{d h':T AB}{m:Nat}{l:List AO}{ps ps':List iR}{x v:cT}{p:Nat}{o:Bool}(a:cP m ps S.h=(ps',h'))(h:kE last m=true)(f:x.val F= .ptr b p)(g:(v.val F).cells=some [w])(j:h'.get b=some (.cells cs o sz))(k:p<cs.length)(n:W b)
  (q:gF fns W d base l (i+1) F ⟨h'.set b (some (.cells (cs.set p w) o sz)),S.nx⟩ ps' (some i) Q):gF fns W d base (⟨none,.x (.st 1 x v),none,m⟩::l) i F S ps last Q:=by
 refine qA (S1:=⟨h'.set b (some (.cells (cs.set p w) o sz)),S.nx⟩) h ?_ ?_ ?_
 .rw[a,g,aH,f];exact xO (S:=⟨h',S.nx⟩) j k
 .rw[a];refine⟨Af _,fun c s r=>?_⟩;simp only;rw[ef,if_neg (show ¬c=b from fun e=>r (by rw[e];exact n))]
 .rw[a];exact q
def qV{o:Bool}{s:Nat}(a:h.get b=some (.cells [x0,x1,x2] o s)):eK (.ptr b (0+0)) false 1 h=some x0:=ldc a rfl
def fV{o:Bool}{s:Nat}(a:h.get b=some (.cells [x0,x1,x2] o s)):eK (.ptr b (0+1)) false 1 h=some x1:=ldc a rfl
def iS{o:Bool}{s:Nat}(a:h.get b=some (.cells [x0,x1,x2] o s)):eK (.ptr b (0+2)) false 1 h=some x2:=ldc a rfl
def gK{o:Bool}{s:Nat}(a:h.get b=some (.cells [x0,x1,x2] o s)):eK (.ptr b 0) true 3 h=some (.agg [x0,x1,x2]):=mB a rfl
def aA0{m id:Nat}{ps:List iR}(a:Nat.testBit m j=false):cP m (⟨j,id,bl⟩::ps) h=(⟨j,id,bl⟩::(cP m ps h).1,(cP m ps h).2):=by
 conv=>lhs;unfold cP
 rw[show Nat.testBit m (iR.mk j id bl).i=false from a,aU]
def iF{m id:Nat}{ps:List iR}(a:Nat.testBit m j=true):cP m (⟨j,id,bl⟩::ps) h=cP m ps (h.set id (some bl)):=by
 conv=>lhs;unfold cP
 rw[show Nat.testBit m (iR.mk j id bl).i=true from a,aN]
def qE{W:Nat->Prop}{a:T AB}{l:List AO}{ps:List iR}{d:Option Nat}{s bytes:Nat}{z:cd}{lo co:cT}(b:gN (lo.val F)=some n)(c:gN (co.val F)=some n)(e:n<=room)(f:bytes * n<=room)
  (g:gF fns W a base l (i+1) (cU d F (.sl (base+i) 0 n n false)) S (⟨i,base+i,.cells (repeatL z n) false 0⟩::ps) last Q):aIA fns W a base (uH (.du t s bytes z lo co) F (base+i)) d l i F S ps last Q:=by
 rw[pU b c e f,lT];exact g
def jM.full{sel:cS->Int}{P P':bu}{T:List cS}(h:jM sel P P' T 0)(c:T.length=P.length):P'=T.map sel:=by
 refine Dc (by rw[Al,h.1,c]) fun j d b=>?_;have a:=h.2 j;rw[Al] at b;unfold yB at a;rw[if_pos (Ck _),Es,Ab b,Ad,Ab d] at a;rw[Ej];exact a
def aJB{T:List cS}(h:gP g=some T):∃e L,T=(-1,0,e)::L:=by
 unfold gP at h;simp only[fB] at h;split at h
 .obtain⟨L,_,rfl⟩:=Bb.1 h;exact⟨_,_,rfl⟩
 .cases h
def aNr(m:Int)(L:List cS):aIZ m (L.map (·.2.1))=wM m L:=by
 unfold aIZ wM;rw[List.foldl_map]
def aO9{P:T AB->Prop}{w a d:Nat}{j k g z:Option AB}(e:w≠a)(i:w≠b)(n3:w≠d)(l:a≠b)(m:a≠d)(n:b≠d)
  (H:∀h':T AB,h'.get w=g->h'.get a=z->h'.get b=z->h'.get d=z->(∀c,c≠w->c≠a->c≠b->c≠d->h'.get c=h.get c)->P h'):P ((((((h.set a z).set w j).set b z).set w k).set d z).set w g):=by
 refine H _ ?_ ?_ ?_ ?_ fun c f o p q=>?_
 .rw[ef,if_pos rfl]
 .rw[ef,if_neg (Cg e),ef,if_neg m,ef,if_neg (Cg e),ef,if_neg l,ef,if_neg (Cg e),ef,if_pos rfl]
 .rw[ef,if_neg (Cg i),ef,if_neg n,ef,if_neg (Cg i),ef,if_pos rfl]
 .rw[ef,if_neg (Cg n3),ef,if_pos rfl]
 .rw[ef,if_neg f,ef,if_neg q,ef,if_neg f,ef,if_neg p,ef,if_neg f,ef,if_neg o]
def aTf(a:St)(gb b:Nat)(nv:AV)(g:aX)(k:Nat)(A:bO)(X:St):Prop:=A.inr=false/\Same a X/\∃i,i+k=g.cg.length/\kT g.cm g.ch.length g.cg=kT g.cm g.ch.length (g.cg.drop i)/\aC 1 A.F= .ptr gb 0/\aC 4 A.F= .ptr b 0/\aC 40 A.F=nv/\aC 41 A.F=je (g.cg.length:Int)/\aC 42 A.F=je (i:Int)
def aRf(S b:St)(p nv iv:AV)(g:aX):Prop:=∃ (a c db lb:Nat) (T:List cS),p= .ptr a 0/\S.nx<=a/\gP g=some T/\T.length=g.cg.length/\WK b a c db lb g.cg.length g.cm nv iv (T.map (·.1)) (T.map (·.2.1)) (T.map (·.2.2))
theorem aH0(H:Has fns)(K:aG 6 cF S nv g.cg)(hi:aG 2 cE S iv g.ch)(bv:g.cg.length<=100000):
  iI fns (.fn 85 [] []) [.agg [je g.cm,nv,iv]] S fun r S'=>Same S S'/\∃p,r= .tup [p,je (dC g)]/\(dC g=0->aRf S S' p nv iv g):=by
 refine cK H.f85 (by simp) ?_;refine ae ?_;refine cA ?_;refine cR (by refine ae ?_;exact aY _) ?_;intro S1 s1 n1 m;refine ae ?_;have j:=K.len;have y:=hi.len;refine aD (aD (bB (Q:=fun o U X=>o= .normal/\U.inr=false/\X=S1/\aC 1 U.F= .ptr S.nx 0/\aC 35 U.F= .bool (decide (nL g))) (aL ?_) ?_))
 .by_cases V:g.cm<1
  .rw[Ac (show nL g from .inl V)];simp only[↓sU,sD,rE,↓reduceIte,rA,aB,aA,qV m,fV m,iS m,j,y,Ac V]
  by_cases M:(4:Int)<g.cm
  .rw[Ac (show nL g from .inr (.inl M))];simp only[↓sU,sD,rE,↓reduceIte,rA,aB,aA,qV m,fV m,iS m,j,y,Aa V,Ac M]
  by_cases h3:(g.cg.length:Int)<1
  .rw[Ac (show nL g from .inr (.inr (.inl h3)))];simp only[↓sU,sD,rE,↓reduceIte,rA,aB,aA,qV m,fV m,iS m,j,y,Aa V,Aa M,Ac h3]
  by_cases h4:(2000:Int)<(g.cg.length:Int)
  .rw[Ac (show nL g from .inr (.inr (.inr (.inl h4))))];simp only[↓sU,sD,rE,↓reduceIte,rA,aB,aA,qV m,fV m,iS m,j,y,Aa V,Aa M,Aa h3,Ac h4]
  by_cases h5:(200:Int)<(g.ch.length:Int)
  .rw[Ac (show nL g from .inr (.inr (.inr (.inr h5))))];simp only[↓sU,sD,rE,↓reduceIte,rA,aB,aA,qV m,fV m,iS m,j,y,Aa V,Aa M,Aa h3,Aa h4,Ac h5]
  .rw[Aa (show ¬nL g by unfold nL;omega)];simp only[↓sU,sD,rE,↓reduceIte,rA,aB,aA,qV m,fV m,iS m,j,y,Aa V,Aa M,Aa h3,Aa h4,Aa h5]
 rintro o ⟨F,inr⟩ X ⟨rfl,N,z,l,pb⟩;simp only at N l pb;subst N;rw[z];clear z;refine ae ?_
 by_cases bad:nL g
 .have u:dC g=2:=by unfold dC;rw[if_pos bad]
  rw[u];refine aS (iy pb (Ac bad)) ?_;refine cA (ae ?_);refine aT (ae ?_);exact⟨s1,_,rfl,nofun⟩
 refine aQ (iy pb (Aa bad)) (aK ?_);refine ae ?_
 have bd:1<=g.cm/\g.cm<=4:=by unfold nL at bad;omega
 have hN:g.cg.length<=2000:=by unfold nL at bad;omega
 have bw:0<g.cg.length:=by unfold nL at bad;omega
 have hI:g.ch.length<=200:=by unfold nL at bad;omega
 have be:∀ (F:Fr) (h:T AB),aC 36 F= .agg [je g.cm,nv,iv]->gO (.build [je 0,.ct,.ct,.ct,.ct,.ct] [(0,3,.t 36)]) F h=some (.agg [je g.cm,nv,iv,.ct,.ct,.ct]):=fun F h he=>by
  show(bG (eI _ (dJ F [(0,3,.t 36)])) fun cs=>some (AV.agg cs))=_;simp only[dJ,show(cT.t 36).val F= .agg [je g.cm,nv,iv] from he];rfl
 refine cA (ft l (gK m) be ?_);refine cR (by refine ai ?_;exact aY _) ?_;intro S2 s2 n2 c2;refine ae ?_;have W:Same S S2:=s1.trans s2;have hW:xL S2 S1.nx g.cm nv iv .ct .ct .ct:=⟨c2,au⟩;have bj:=aG.same (E:=cF) bQ K W;have aZ:S.nx<S2.nx:=by omega
 have a0:S2.h.get S.nx=jf [je g.cm,nv,iv]:=by rw[s2.2 _ au];exact m
 refine aD (bB (Q:=fun o U X=>(o= .normal/\aTf S2 S.nx S1.nx nv g 0 U X)\/(o= .ret/\Same S2 X/\kT g.cm g.ch.length g.cg≠0/\aC 2 U.F= .nilp/\aC 3 U.F=je (kT g.cm g.ch.length g.cg))) (aD (aL ?_)) ?_)
 .refine ff l @aB @aA (fV a0) j ?_;refine aO (bX (aTf S2 S.nx S1.nx nv g) ?_ g.cg.length _ _ ⟨rfl,eu _,0,au,by rw[Dn],by refine⟨?_,?_,?_,?_,?_⟩<;>simp only[↓sU,sD,rE,↓reduceIte,rA,l]⟩);clear l pb;rintro k ⟨F,inr⟩ X ⟨N,z,i,a1,u,l,A,C,D,B⟩;simp only at N l A C D B;subst N;refine cA (ew D B ?_);by_cases aa:i<g.cg.length
  .refine aD (aS im (aK ?_));refine ae ?_;obtain⟨x,hx⟩:∃x,g.cg[i]? =some x:=⟨_,Ab aa⟩;have⟨e,b,q,bk,hb,he,bm,bn,_⟩:=aG.at (aG.same (E:=cF) bQ bj z) az hx;have ab:g.cg.drop i=x::g.cg.drop (i+1):=by
    rw[Bz aa];congr 1;rw[Ab aa] at hx;exact Bh hx
   have w1:=ed i
   refine aD (aO (aD (aL ?_)));refine fx C B @aJ bk bn ?_;refine bS ?_;intro X1 x1 m1 d1;refine cQ (b:=X.nx) (aq) (by refine am ?_;exact aY _) d1 rfl he ?_;intro X2 x2 m2 d2;refine am ?_;have ac:Same X X2:=x2.same x1 (Af _);refine cA (ew A (mB d2 he) ?_);refine bK (ae ?_);refine aW (aLB H (bQ bm ac) (hW.same (z.trans ac)) bd y au (aG.self hi)) ?_;rintro _ Y ⟨rfl,hY⟩;have a2:=(z.trans ac).trans hY;rw[ab] at u;simp only[kT] at u
   refine cA (ae ?_);by_cases G:gQ g.cm g.ch.length x=0
   .rw[if_neg (fun h=>h G)] at u;refine aQ (iu (Aa (show ¬gQ g.cm g.ch.length x≠0 from fun h=>h G))) (aK ?_);refine ae ?_
    refine aL (ew B w1 ?_);exact⟨k - 1,au,rfl,a2,i+1,au,u,by refine⟨?_,?_,?_,?_,?_⟩<;>simp only[↓sU,sD,rE,↓reduceIte,rA,l,A,C,D]⟩
   .rw[if_pos G] at u;refine aS (iu (Ac (show gQ g.cm g.ch.length x≠0 from G))) ?_;refine cA (ae ?_);refine aT (ae ?_);exact .inr ⟨a2,by rw[u];exact G,by rw[u]⟩
  .refine aD (aQ im (bT ?_));refine ae ?_;have bp:k=0:=by omega
   subst bp;exact .inl ⟨rfl,z,i,a1,u,by refine⟨?_,?_,?_,?_,?_⟩<;>simp only[↓sU,sD,rE,↓reduceIte,rA,l,A,C,D,B]⟩
 clear l pb;rintro o ⟨F,inr⟩ X (⟨rfl,N,z,i,a1,u,l,A,C,D,B⟩|⟨rfl,z,a3,p2,p3⟩);rotate_left
 .simp only at p2 p3;refine ew p2 p3 ?_;have u:dC g=kT g.cm g.ch.length g.cg:=by unfold dC;rw[if_neg bad,if_pos a3]
  rw[u];exact⟨W.trans z,_,rfl,fun h=>absurd h a3⟩
 simp only at N l A;subst N;rw[Cr au] at u;have a:dC g=match gP g with | none=>9 | some T=>if T.length≠g.cg.length then 9 else if 40<wM 0 T then 5 else vR g:=by
  conv=>lhs;unfold dC
  rw[if_neg bad,if_neg (fun h=>h u)]
  first | done | (cases gP g<;>rfl)
 have I:=W.trans z;have cX:X.h.get S.nx=jf [je g.cm,nv,iv]:=by rw[z.2 _ aZ];exact a0
 have wX:=(hW.same z).1;have bx:=(hW.same z).2;have an:S.nx<X.nx:=Ae aZ z.1;have ao:¬S.nx=S1.nx:=by omega
 refine ae ?_
 refine aD (sJ (fun b=>b=S1.nx) ?_);intro X1 x1 aw a5;simp only[↓sU,sD,rE,↓reduceIte,rA,l,A,aB,aP,aA,fV cX,an,ao,An,j,aG.self K];refine qE (n:=g.cg.length) (iu @aJ) (iu @aJ) ay ay  ?_;simp only[↓sU,sD,rE,↓reduceIte,rA,l,A,aB,aP,aA,fV cX,an,ao,An,j,aG.self K];refine qE (n:=g.cg.length) (iu @aJ) (iu @aJ) ay ay  ?_;simp only[↓sU,sD,rE,↓reduceIte,rA,l,A,aB,aP,aA,fV cX,an,ao,An,j,aG.self K];refine qE (n:=g.cg.length) (iu @aJ) (iu @aJ) ay ay  ?_;refine fj l A @bE @bP @bF @aB @aP @aA ?_;have hz:repeatL [AV.int .i64 0] g.cg.length=bD (List.replicate g.cg.length 0):=by rw[repeatL_one];simp [bD]
 rw[hz];have n6:¬S1.nx=X.nx+6:=by omega
 have aI:¬S1.nx=X.nx+10:=by omega
 have aV:¬S1.nx=X.nx+14:=by omega
 refine aBA (b:=S1.nx) (p:=3) (w:=.sl (X.nx+6) 0 g.cg.length g.cg.length false) (cs:=[je g.cm,nv,iv,.ct,.ct,.ct]) (o:=false) (sz:=0) ((aA0 (az:Nat.testBit 98425 14=false)).trans (by rw[aA0 (az:Nat.testBit 98425 10=false),iF (az:Nat.testBit 98425 6=true),bL])) rfl (af) (by simp only[↓sU,sD,rE,↓reduceIte,rA];rfl) (by rw[ef,if_neg n6,aw];exact wX) (by simp) rfl ?_;refine fj l A @bE @bP @bF @aB @aP @aA ?_;refine aBA (b:=S1.nx) (p:=4) (w:=.sl (X.nx+10) 0 g.cg.length g.cg.length false) (cs:=[je g.cm,nv,iv,.sl (X.nx+6) 0 g.cg.length g.cg.length false,.ct,.ct]) (o:=false) (sz:=0) ((aA0 (az:Nat.testBit 1017851 14=false)).trans (by rw[iF (az:Nat.testBit 1017851 10=true),bL])) rfl (af) (by simp only[↓sU,sD,rE,↓reduceIte,rA];rfl) (by rw[ef,if_neg aI,ef,if_pos rfl];rfl) (by simp) rfl ?_;refine fj l A @bE @bP @bF @aB @aP @aA ?_;refine aBA (b:=S1.nx) (p:=5) (w:=.sl (X.nx+14) 0 g.cg.length g.cg.length false) (cs:=[je g.cm,nv,iv,.sl (X.nx+6) 0 g.cg.length g.cg.length false,.sl (X.nx+10) 0 g.cg.length g.cg.length false,.ct]) (o:=false) (sz:=0) ((iF (az:Nat.testBit 8388607 14=true)).trans (bL _ _)) rfl (af) (by simp only[↓sU,sD,rE,↓reduceIte,rA];rfl) (by rw[ef,if_neg aV,ef,if_pos rfl];rfl) (by simp) rfl ?_;refine ae ?_;refine aO9 (P:=fun h'=>jP fns _ _ ⟨h',X1.nx⟩ _) n6 aI aV au au au ?_;intro Zh gw g1 g2 g3 gr;have a5:X1.nx=X.nx+24:=a5;have sZ:Same S ⟨Zh,X1.nx⟩:=⟨by show S.nx<=X1.nx;have:=I.1;omega,fun c hc=>by
  have:=I.1;show Zh.get c=S.h.get c;rw[gr c au au au au,aw];exact I.2 c hc⟩
 have cZ:Zh.get S.nx=jf [je g.cm,nv,iv]:=by
  rw[gr _ au au au au,aw];exact cX
 have hK:WK ⟨Zh,X1.nx⟩ S1.nx (X.nx+6) (X.nx+10) (X.nx+14) g.cg.length g.cm nv iv (List.replicate g.cg.length 0) (List.replicate g.cg.length 0) (List.replicate g.cg.length 0):=⟨⟨gw,by show S1.nx<X1.nx;omega⟩,g1,g2,g3,Aq ..,Aq ..,Aq ..,by show _<X1.nx;omega,by show _<X1.nx;omega,by show _<X1.nx;omega⟩;generalize hZ:(⟨Zh,X1.nx⟩:St)=Z at *;have cZ:Z.h.get S.nx=jf [je g.cm,nv,iv]:=by rw[<-hZ];exact cZ
 have lz:S1.nx<Z.nx:=hK.w.2;have O:=jF u;refine gH (ff l A @aB @aA (fV cZ) ?_);refine bK (ae ?_);rw[show Int.negSucc 0=(-1:Int) from rfl];refine aW (aLL (rv:=nv) H K au (ax I.1) (ax I.1) (ax I.1) au au au n6 aI aV hN (fun x hx=>aCF (O x hx)) (g.cg.length+1) (at_:=0) (p:= -1) (d:=0) au az az au sZ hK (by rw[Dn];exact K)) ?_;rintro r Y ⟨hY,P',D',L',f,R⟩;have sY:Same S Y:=hY.same sZ (ax I.1) (ax I.1) (ax I.1);have s:match gP g with | some T=>(∃v,r= .tup [v,.bool true]/\aG 6 cF S v (g.cg.drop (0+T.length)))/\jM (·.1) (List.replicate g.cg.length 0) P' T 0/\jM (·.2.1) (List.replicate g.cg.length 0) D' T 0/\jM (·.2.2) (List.replicate g.cg.length 0) L' T 0 | none=>r= .tup [.ct,.bool false]:=R
 clear R;cases hw:gP g with
 | none=>
  rw[hw] at s a;subst s;simp only at a;rw[a];refine ew @xP @xN ?_;refine cA (ew @fY @Dl ?_);refine aS (af) ?_;refine cA (ae ?_);refine aT (ae ?_);exact⟨sY,_,rfl,nofun⟩
 | some T=>
  rw[hw] at s a;obtain⟨⟨v,rfl,hv⟩,rP,rD,rL⟩:=s;simp only at a;have bz:=(zP (show fB g.cg.length (dN g) (g.cg.length+1) 0 (-1) 0=some T from hw)).1;have a8:=hv.len;rw[Dd] at a8;refine ew @xP @xN ?_;refine cA (ez @fY @Cm a8 ?_);by_cases hT:T.length=g.cg.length;rotate_left
  .rw[a,if_pos hT];refine aS im ?_;refine cA (ae ?_);refine aT (ae ?_);exact⟨sY,_,rfl,nofun⟩
  rw[if_neg (fun h=>h hT)] at a;refine aQ im (aK ?_);refine ae ?_
  have eP:=rP.full (by rw[Aq];exact hT);have eD:=rD.full (by rw[Aq];exact hT);have eL:=rL.full (by rw[Aq];exact hT);subst eP eD eL;have ba:=aDM f.gd f.bd f.ld;have⟨e,L,bq⟩:=aJB hw;have bb:aIZ ((T.map (·.2.1)).getD 0 0) ((T.map (·.2.1)).drop 1)=wM 0 T:=by
   rw[bq];show aIZ 0 (L.map (·.2.1))=wM 0 ((-1,0,e)::L);rw[aNr,aF6];rfl
  refine gH (fh l A @bE @bF @aB @aA (dT f.w.1) ?_);refine bK (ae ?_);refine aW (aOx H ba (by rw[Al];omega) (by rw[Al];omega)) ?_;rintro _ Y2 ⟨rfl,bs⟩;rw[bs,bb];refine ae ?_;by_cases J:40<wM 0 T
  .rw[a,if_pos J];refine aS (iu (Ac J)) ?_;refine cA (ae ?_);refine aT (ae ?_);exact⟨sY,_,rfl,nofun⟩
  rw[if_neg J] at a;refine aQ (iu (Aa J)) (aK ?_);refine ae ?_
  refine cA (ew l A ?_);refine bK (ae ?_);refine aW (aK5 H f.w (aG.same (E:=cF) bQ K sY) (aG.same (E:=cE) cB hi sY) hN hI (fun x hx M=>aCx (O x hx) M)) ?_;rintro _ Y3 ⟨rfl,t⟩
  refine aT (ae ?_);rw[a];refine⟨sY.trans t,_,rfl,fun _=>⟨S1.nx,_,_,_,T,rfl,au,hw,hT,⟨f.w.same t,by rw[t.2 _ f.bp];exact f.gp,by rw[t.2 _ f.bd];exact f.gd,by rw[t.2 _ f.bl];exact f.gl,f.lp,f.ld,f.ll,Ae f.bp t.1,Ae f.bd t.1,Ae f.bl t.1⟩⟩⟩
def aFu{a:Nat}{n i p d l:AV}(H:Has fns)(b:xL S a ps n i p d l):iI fns (.fn 80 [] []) [.ptr a 0] S fun r S'=>r=p/\Same S S':=by
 refine cK H.f80 (by simp) ?_;refine ae ?_;refine cA (ae ?_);refine cA (ff @bE @bF @aB @aA (dG b.1) ?_);refine aT (ae ?_);exact eu _
def aQN(S a:St)(v:AV)(g:aX):Prop:=(dC g≠0->v= .ct)/\(dC g=0->∃T,gP g=some T/\T.length=g.cg.length/\bN .i64 a v (T.map (·.1)))
def aGT(H:Has fns)(m:aG 6 cF S nv g.cg)(hi:aG 2 cE S iv g.ch)(d:g.cg.length<=100000):
  iI fns (.fn 75 [] []) [.agg [je g.cm,nv,iv]] S fun r k=>∃v,r= .tup [v,je (dC g)]/\Same S k/\aQN S k v g:=by
 refine cK H.f75 (by simp) ?_;refine ae ?_;refine cA ?_;refine cR (by refine ae ?_;exact aY _) ?_;intro S1 s1 t n;refine ae ?_;refine cA (de (gK n) ?_);refine bK (ae ?_);have e:=aG.same (E:=cF) bQ m s1;have f:=aG.same (E:=cE) cB hi s1;refine aW (Q:=fun r X=>∃v,r= .tup [v,je (dC g)]/\Same S1 X/\aQN S1 X v g) ?_ ?_
 .refine cK H.f79 (by simp) ?_;refine ae ?_;refine cA ?_;refine cR (by refine ae ?_;exact aY _) ?_;intro u s2 w o;refine ae ?_;refine cA (de (gK o) ?_);refine bK (ae ?_);refine aW (aH0 H (aG.same (E:=cF) bQ e s2) (aG.same (E:=cE) cB f s2) d) ?_;rintro _ X ⟨b,p,rfl,i⟩;refine ew @xP @xN ?_;refine gH (ae ?_);by_cases a:dC g=0
  .refine aQ (iu (Aa (show ¬dC g≠0 from fun h=>h a))) (aK ?_);refine ae ?_
   obtain⟨x,y,db,lb,T,rfl,_,q,j,c⟩:=i a;refine cA (ae ?_);refine bK (ae ?_);refine aW (aFu H c.w) ?_;rintro _ Y ⟨rfl,l⟩
   refine aT (ae ?_);rw[a];refine⟨_,rfl,(s2.trans b).trans l,fun h=>absurd a h,fun _=>⟨T,q,j,?_⟩⟩;exact(aDM c.gp c.bp c.lp).same l
  .refine aS (iu (Ac (show dC g≠0 from a))) ?_;refine cA (ae ?_);refine cA (ae ?_);refine aT (ae ?_);exact⟨_,rfl,s2.trans b,fun _=>rfl,fun h=>absurd h a⟩
 rintro _ X ⟨v,rfl,b,s⟩;refine ew @xP @xN ?_;refine aT (ae ?_);exact⟨_,rfl,s1.trans b,s⟩
def aPE{o:Bool}(h:S.h.get t=some (.cells [x] o sz)):eU (.sl t 0 1 1 false) S.h 1 1=some [x]:=by
 show bG (cI S.h t) (fun cs=>cut cs 0 (1 * 1))=_;unfold cI;rw[h];rfl
def fP.push{bytes:Nat}{w:Int}(h:fP 1 S0 S v l.length (bD l))(i:Same S0 S)(o:S.h.get t=jf [je w])(p:l.length+1<=room)(f:(l.length+1) * bytes<=room):
  ∃v' d,gG bytes 1 v (.sl t 0 1 1 false) S=some (v',d)/\fP 1 S0 d v' (l++ [w]).length (bD (l++ [w]))/\aM v'=some S.nx/\d.nx=S.nx+1/\∀c,c<S.nx->aM v≠some c->d.h.get c=S.h.get c:=by
 have k:=aPE o;have q:bD (l++ [w])=bD l++ [je w]:=by simp [bD]
 have r:(l++ [w]).length=l.length+1:=by simp
 rw[q,r];generalize A:l.length=n at *;rcases h with⟨rfl,rfl,m⟩|⟨b,rfl,s,B,u,a⟩
 .refine⟨.sl S.nx 0 1 1 true,⟨S.h.set S.nx (some (.cells [je w] true 1)),S.nx+1⟩,?_,.inr ⟨S.nx,by rw[Am],i.1,by simp,?_,?_⟩,rfl,rfl,fun c a _=>(Same.alloc S _).2 c a⟩
  .show(bG (some 1) fun j=>bG (eU (.sl t 0 1 1 false) S.h 1 j) fun new=>aAA .ct bytes 1 j new S)=_;rw[aH,k,aH];show qS bytes 1 1 [je w] S=_;unfold qS;rw[show Nat.beq 1 0=false from rfl,aU,Ak au,aN,Ak (by rw[Am] at f;exact f),aN];rfl
  .simp only;rw[ef,if_pos rfl,m];rfl
  .rw[m];rfl
 .refine⟨.sl S.nx 0 (n+1) (n+1) true,⟨(S.h.set b none).set S.nx (some (.cells (bD l++ [je w]) true 1)),S.nx+1⟩,?_,.inr ⟨S.nx,rfl,i.1,by simp,?_,by rw[Aj,a,Ba,Du,Fp]⟩,rfl,rfl,fun c a g=>?_⟩
  .show(bG (some 1) fun j=>bG (eU (.sl t 0 1 1 false) S.h 1 j) fun new=>aAA (.sl b 0 n n true) bytes 1 j new S)=_;rw[aH,k,aH];show lR bytes 1 b 0 n n true 1 [je w] S=_;unfold lR;have x:Nat.ble (n+1) n=false:=by rw[Cj];intro h;have:=Bc h;omega
   rw[x,aU,Ak p,aN,Ak f,aN,u,aH];have y:cut (bD l) 0 (n * 1)=some (bD l):=by
    unfold cut;rw[iG,iP,Dn,if_pos au,Bd au]
   have z:Nat.beq (0+n * 1) (mF (bD l))=true:=by rw[gD,a,Bl];omega
   simp only[xX,y,aH,aN,z,show Nat.beq 1 1=true from rfl,grown,fS]
  .simp only;rw[ef,if_pos rfl]
  .simp only;have:c≠b:=fun e=>g (by rw[e];rfl);rw[ef,if_neg au,ef,if_neg this]
def fP.self{k:Nat}(h:fP k S0 S v n cs):cO v v=true:=by
 rcases h with⟨rfl,_⟩|⟨b,rfl,_⟩
 .rfl
 .exact mE ..
def fP.cells{k:Nat}(h:fP k S0 S v n cs):v.cells=some [v]:=by
 rcases h with⟨rfl,_⟩|⟨b,rfl,_⟩<;>rfl
noncomputable def aQp:List AO:=[mt 25 3,
oq 26 (.dk 2 (.t 5)),
om 27 2 (ld 26),
mt 28 3,
oq 29 (.dk 2 (.t 5)),
om 30 16 (ld 29),
om 31 56 (.df (.slice 1) (.t 28) (.t 30)),
om 32 120 (ld 31),
mt 33 4,
⟨(some 34),(.a (.dd 3 1 1 [(.int .i64 0)] [(0,(.t 33))])),none,256⟩,
⟨(some 35),(.x (.app 3 1 8 (.t 32) (.t 34))),none,1016⟩,
om 36 2047 (.df (.slice 1) (.t 25) (.t 27)),
⟨none,(.x (.st 1 (.t 36) (.t 35))),none,4095⟩]
def cH{p:Nat}{o:Bool}{s:Nat}(a:h.get b=some (.cells cs o s))(c:cs[p]? =some x):eK (.ptr b p) false 1 h=some x:=by
 have:=ldc (j:=p) a c;rw[Am] at this;exact this
def aNa{nb:Nat}{a U V W X Y:AV}{Q:Out->bO->St->Prop}(p3:aC 3 F= .sl ob 0 NI NI false)(p4:aC 4 F=je (i:Int))(p5:aC 5 F= .ptr nb 0)
  (f:S.h.get nb=jf [U,V,je (n:Int),W,X,Y]) (r:S.h.get ob=jf cs) (aa:cs.length=NI) (Z:cs[n]? =some a) (ha:fP 1 S0 S a l.length (bD l)) (hS:Same S0 S) (E:nb<S.nx) (H:ob<S.nx) (I:aM a≠some ob) (J:aM a≠some nb) (hl:l.length<=100000)
  (hQ:∀F' m a',aC 1 F'=aC 1 F->aC 3 F'=aC 3 F->aC 4 F'=aC 4 F->S.nx<=m.nx->m.h.get ob=jf (cs.set n a')->fP 1 S0 m a' (l++ [(i:Int)]).length (bD (l++ [(i:Int)]))->(∃K,aM a'=some K/\S.nx<=K/\K<m.nx)->(∀c,c<S.nx->c≠ob->aM a≠some c->m.h.get c=S.h.get c)->Q .normal ⟨F',inr⟩ m):jP fns (.drw aQp) ⟨F,inr⟩ S Q:=by
 have L:n<cs.length:=(Ai.1 Z).1;have s:=fQ (b:=ob) (N:=NI) (o:=false) (au:n<NI);have j:=cH r Z;have he:∀F id,aC 33 F=je (i:Int)->uH (.dd 3 1 1 [AV.int .i64 0] [(0,.t 33)]) F id=some (.sl id 0 1 1 false,.cells [je (i:Int)] false 0):=fun F id h=>jS h;have u:Same S ⟨S.h.set (S.nx+9) (jf [je (i:Int)]),S.nx+13⟩:=⟨by simp,fun c hc=>by simp only;rw[ef,if_neg au]⟩;have⟨a',S1,eA,gA,x,nA,rA⟩:=fP.push (bytes:=8) (t:=S.nx+9) (w:=(i:Int)) (ha.step u) (hS.trans u) jd ay ay;simp only at x nA rA;have y:S1.h.get ob=jf cs:=by rw[rA _ au I];exact(u.2 _ H).trans r
 have z:S1.h.get nb=jf [U,V,je (n:Int),W,X,Y]:=by rw[rA _ au J];exact(u.2 _ E).trans f
 apply qZ;unfold aQp;simp only[iW,dH,aGL,aB,aA,vB,mQ,fE,bH,rE,↓reduceIte,p3,p4,p5,aJ,aH,s,j,dF f,zJ,oR,rG,aP,aN,aU,aFg,he,rA];refine iQ (v:=a') (S1:=S1) rfl (fun call=>?_) ?_
 .rw[cL (az:Nat.testBit 1016 9=true),fK];simp only[fE,bH,rE,↓reduceIte];exact eA
 rw[cL (az:Nat.testBit 1016 9=true)];simp only[iW,dH,vB,fE,bH,rE,↓reduceIte,aJ,aH,s,oR,aU];refine iQ (v:=.undef) (S1:=⟨S1.h.set ob (jf (cs.set n a')),S1.nx⟩) (az:Nat.testBit 4095 10=true) (fun call=>?_) ?_
 .rw[dL];simp only[fE,bH,rE,↓reduceIte,gA.cells,aH];exact xO (S:=S1) y L
 rw[iC];have M:=ha.self;refine⟨?_,?_⟩
 .have e1:∀ (v:AV) (G:Fr) (sl p d ii:Nat) (X1 A:T AB) (b:Nat),aC sl G= .ptr b p->eK (.ptr b p) false 1 S.h=some v->cO v v=true->Nat.testBit d 10=false->Nat.testBit 1016 ii=true->fA ⟨.ld false 1 (.t sl),G,v,ii,d⟩ [(10,1016,X1),(12,4095,A)] S.h=true:=fun v G sl p d ii X1 A b g k q B C=>by
   unfold fA;have e:gO (.ld false 1 (.t sl)) G S.h=some v:=by rw[mQ,fE,g];exact k
   simp only[B,C,aU,aN,e,kO,q]
  have e2:∀ (v:AV) (G:Fr) (sl p d ii:Nat) (X1 A:T AB) (b:Nat),aC sl G= .ptr b p->eK (.ptr b p) false 1 S.h=some v->eK (.ptr b p) false 1 X1=some v->cO v v=true->Nat.testBit d 10=false->Nat.testBit d 12=false->Nat.testBit 1016 ii=false->Nat.testBit 4095 ii=true->fA ⟨.ld false 1 (.t sl),G,v,ii,d⟩ [(10,1016,X1),(12,4095,A)] S.h=true:=fun v G sl p d ii X1 A b g k O q B P C h6=>by
   have e:gO (.ld false 1 (.t sl)) G S.h=some v:=by rw[mQ,fE,g];exact k
   have e':gO (.ld false 1 (.t sl)) G X1=some v:=by rw[mQ,fE,g];exact O
   unfold fA;simp only[B,C,aU,aN,e,kO,q];unfold fA;simp only[P,h6,aU,aN,e',kO,q]
  simp only[Ce,List.reverse_nil,Bw,Cf,pD,xY];rw[e1 a _ 31 n 120 7 _ _ ob (by simp only[bH,rE,↓reduceIte]) j M az az,e1 _ _ 29 (0+2) 16 5 _ _ nb (by simp only[bH,rE,↓reduceIte]) (dF f) (eM ..) az az,e2 _ _ 26 (0+2) 2 2 _ _ nb (by simp only[bH,rE,↓reduceIte]) (dF f) (dF z) (eM ..) az az az az];rfl
 .have D:aM a'≠some ob:=by rw[x];intro h;have:=Bh h;omega
  have R:S.nx<=S1.nx:=by omega
  refine hQ _ _ a' (af) (af) (af) R (by simp only[bL];rw[ef,if_pos rfl]) ?_ ⟨_,x,au,by show _<S1.nx;omega⟩ fun c hc g k=>?_
  .rcases gA with h|⟨b,g,k,q,B,C⟩
   .rw[h.1] at x;cases x
   .refine .inr ⟨b,g,k,q,?_,C⟩;simp only[bL];rw[ef,if_neg (fun e=>D (by rw[g,<-e];rfl))];exact B
  .simp only[bL];rw[ef,if_neg g,rA _ au k];exact u.2 _ hc
def setN:List cJ->Nat->Nat->bu
 | [],_,_=>[]
 | x::l,s,i=>if x.kind=2/\x.info=(i:Int) then(s:Int)::setN l (s+1) i else setN l (s+1) i
theorem aBY(x:cJ)(i:Nat):∀ (l:List cJ) (s:Nat),setN (l++ [x]) s i=if x.kind=2/\x.info=(i:Int) then setN l s i++ [((s+l.length:Nat):Int)] else setN l s i
 | [],s=>by
  simp only[Bw,setN,Cb,Bs]
 | y::l,s=>by
  simp only[Cf,setN];rw[aBY x i l (s+1),Ax,show s+1+l.length=s+(l.length+1) by omega];split<;>split<;>rfl
theorem aIU(i:Nat):∀ (l:List cJ) (s:Nat),(setN l s i).length<=l.length
 | [],_=>Af _
 | y::l,s=>by
  simp only[setN];have:=aIU i l (s+1);split
  .rw[Ax,Ax];omega
  .rw[Ax];omega
def aIQ(g:aX):bt:=(List.range g.ch.length).map (setN g.cg 0)
def nK(S:St)(cs:cd)(l:bu):Prop:=∃a,cs= [a]/\bN .i64 S a l
def fM:aCG nK:=fun⟨a,h,b⟩ c=>⟨a,h,b.same c⟩
def fP.is(h:fP 1 S0 S v l.length (bD l)):bN .i64 S v l:=by
 rcases h with⟨rfl,a,_⟩|⟨b,rfl,e,c,d,f⟩
 .exact .inl ⟨Bo.1 a,.inl rfl⟩
 .refine .inr ⟨b,0,l.length,true,bD l,rfl,Af _,c,by unfold cI;rw[d];rfl,fun i x hi=>?_⟩;rw[Am];unfold bD;rw[Az,hi];rfl
def fP.blk{k:Nat}(h:fP k S0 S v n cs)(a:aM v=some c):S0.nx<=c/\c<S.nx/\S.h.get c=some (.cells cs true k):=by
 rcases h with⟨rfl,_⟩|⟨b,rfl,d,e,f,g⟩
 .cases a
 .cases a;exact⟨d,e,f⟩
def fP.off{k s:Nat}{cs':cd}(h:fP k S0 S v n cs)(a:S.h.get c=some (.cells cs' false s)):aM v≠some c:=fun e=>by
 have:=(h.blk e).2.2;rw[a] at this;cases this
structure Fam(S0 X:St)(ob NI:Nat)(cs:cd)(L:Nat->bu):Prop where
 ho:X.h.get ob=some (.cells cs false 0)
 lt:ob<X.nx
 hl:cs.length=NI
 gr:∀ (j:Nat) (a:AV),cs[j]? =some a->fP 1 S0 X a (L j).length (bD (L j))
 dj:∀ (j k:Nat) (a b:AV),j≠k->cs[j]? =some a->cs[k]? =some b->∀c,aM a=some c->aM b≠some c
def Fam.same(h:Fam S0 X ob NI cs L)(b:Same X X'):Fam S0 X' ob NI cs L:=⟨(b.2 _ h.lt).trans h.ho,Ae h.lt b.1,h.hl,fun j a c=>(h.gr j a c).step b,h.dj⟩
def Fam.push{a a':AV}{w:Int}(h:Fam S0 X ob NI cs L)(u:cs[n]? =some a)(v:X.nx<=X'.nx)(C:X'.h.get ob=jf (cs.set n a'))(D:fP 1 S0 X' a' (L n++ [w]).length (bD (L n++ [w])))(E:∃p,aM a'=some p/\X.nx<=p/\p<X'.nx)(F:∀c,c<X.nx->c≠ob->aM a≠some c->X'.h.get c=X.h.get c):
  Fam S0 X' ob NI (cs.set n a') (fun j=>if j=n then L n++ [w] else L j):=by
 have G:=(Ai.1 u).1;have⟨p,i,H,I⟩:=E;have get:∀ (j:Nat) (c:AV),(cs.set n a')[j]? =some c->(j=n/\c=a')\/(j≠n/\cs[j]? =some c):=fun j c d=>by
  rw[Cw] at d;split at d
  .rename_i e;exact .inl ⟨e.symm,(Bh d).symm⟩
  .rename_i e;exact .inr ⟨fun J=>e J.symm,d⟩
 refine⟨C,Ae h.lt v,by rw[Aw];exact h.hl,fun j c d=>?_,fun j k x y l r z c q f=>?_⟩
 .rcases get j c d with⟨rfl,rfl⟩|⟨g,d⟩
  .simp only[↓reduceIte];exact D
  .simp only[if_neg g];have s:=h.gr j c d;rcases s with K|⟨b,A,M,B,N,O⟩
   .exact .inl K
   .have m:aM c=some b:=by rw[A];rfl
    refine .inr ⟨b,A,M,Ae B v,?_,O⟩;rw[F b B (fun e=>(h.gr j c d).off h.ho (by rw[m,e])) (h.dj j n c a g d u b m)];exact N
 .rcases get j x r with⟨rfl,rfl⟩|⟨g,d⟩
  .rcases get k y z with⟨rfl,rfl⟩|⟨o,t⟩
   .exact l rfl
   .rw[i] at q;have:=((h.gr k y t).blk f).2.1;have:=Bh q;omega
  .rcases get k y z with⟨rfl,rfl⟩|⟨o,t⟩
   .rw[i] at f;have:=((h.gr j x d).blk q).2.1;have:=Bh f;omega
   .exact h.dj j k x y l d t c q f
def Fam.is(h:Fam S0 X ob NI cs L):aG 1 nK X (.sl ob 0 NI NI false) ((List.range NI).map L):=by
 refine .inr ⟨ob,0,NI,false,cs,by simp,by simp,h.lt,by unfold cI;rw[h.ho];rfl,fun i l hi=>?_⟩;rw[Az,Bb] at hi;obtain⟨e,a,rfl⟩:=hi;have b:i<NI:=by have:=(Ai.1 a).1;rwa [Bj] at this
 rw[Br b] at a
 .cases a;have c:cs[i]? =some (cs[i]'(by rw[h.hl];exact b)):=Ab _;refine⟨[cs[i]'(by rw[h.hl];exact b)],rfl,fun j x d=>?_,_,rfl,(h.gr i _ c).is⟩;cases j with
  | zero=>
   cases d;rw[Am,Dm,Bs];exact c
  | succ j=>simp at d
def aSr(S:St)(gb ob:Nat)(nv iv:AV)(g:aX)(k:Nat)(A:bO)(X:St):Prop:=A.inr=false/\Same S X/\X.h.get gb=jf [je g.cm,nv,iv]/\gb<X.nx/\gb≠ob/\∃i cs,i+k=g.cg.length/\Fam S X ob g.ch.length cs (setN (g.cg.take i) 0)/\
 aC 1 A.F= .ptr gb 0/\aC 3 A.F= .sl ob 0 g.ch.length g.ch.length false/\aC 4 A.F=je (i:Int)
def aHV(H:Has fns)(hn:aG 6 cF S nv g.cg)(hi:aG 2 cE S iv g.ch)(hN:g.cg.length<=100000)(hI:g.ch.length<=100000)(R:aGp g):
  iI fns (.fn 33 [] []) [.agg [je g.cm,nv,iv]] S fun r S'=>Same S S'/\aG 1 nK S' r (aIQ g):=by
 refine cK H.f33 (by simp) ?_;refine ae ?_;refine cA ?_;refine cR (by refine ae ?_;exact aY _) ?_;intro S1 s1 n1 c1;refine ae ?_;refine cA (fu @aB @aA (iS c1) hi.len ?_);refine fW (pU (n:=g.ch.length) (iz @aJ) (iz @aJ) ay ay) ?_;intro S2 s2 n2 c2;refine am ?_;rw[repeatL_one] at c2;have T:=s1.trans s2;have U:S2.h.get S.nx=jf [je g.cm,nv,iv]:=by rw[s2.2 _ au];exact c1
 have V:Fam S S2 S1.nx g.ch.length (List.replicate g.ch.length .ct) (setN (g.cg.take 0) 0):=by
  refine⟨c2,au,Aq ..,fun j a f=>?_,fun j k a b _ f hk c W=>?_⟩
  .rw[Ch] at f;split at f
   .cases f;exact .inl ⟨rfl,rfl,rfl⟩
   .cases f
  .rw[Ch] at f;split at f
   .cases f;cases W
   .cases f
 refine aD (bB (Q:=fun o A' X=>o= .normal/\aSr S S.nx S1.nx nv iv g 0 A' X) (aD (aL ?_)) ?_)
 .refine am ?_;refine aO (bX (aSr S S.nx S1.nx nv iv g) ?_ g.cg.length _ _ ⟨rfl,T,U,au,au,0,_,au,V,by refine⟨?_,?_,?_⟩<;>simp only[↓aF,aE,rE,↓reduceIte,rA]⟩);rintro k ⟨F,inr⟩ X ⟨I,J,K,P,p,i,cs,L,y,z,v,w⟩;simp only at I z v w;subst I;have Y:=aG.same (E:=cF) bQ hn J;refine gH (gh z w @aB @aA (fV K) hn.len ?_);by_cases Z:i<g.cg.length
  .refine aS io (aK ?_);refine am ?_
   obtain⟨x,hx⟩:∃x,g.cg[i]? =some x:=⟨_,Ab Z⟩;have aa:=Ar hx;obtain⟨e,b,q,ab,hb,he,⟨a,bb,cc,rfl,ha,a1,a2⟩,ac,_⟩:=aG.at Y az hx;have w1:=ed i
   have M:g.cg.take (i+1)=g.cg.take i++ [x]:=by rw[Bx,hx];rfl
   have an:(g.cg.take i).length=i:=by rw[Bv];omega
   refine aD (aO (aD (aL ?_)));refine gu z w @aB @aA (fV K) @aJ ab ac ?_;refine bS ?_;intro X1 x1 m1 d1;refine cQ (b:=X.nx) (aq) (by refine am ?_;exact aY _) d1 rfl rfl ?_;intro X2 x2 m2 d2;refine am ?_;have u:Same X X2:=x2.same x1 (Af _);have A:X2.h.get S.nx=jf [je g.cm,nv,iv]:=by rw[u.2 _ P];exact K
   have m:=y.same u;have N:X.nx<X2.nx:=by omega
   have B:S.nx<X2.nx:=Ae P u.1;have d:=J.trans u;refine cA (ft @aB @aA (fI d2) ?_);by_cases s:x.kind=2
   .refine aS (iz (Ac s)) ?_;have⟨i0,i1⟩:=R x aa s;obtain⟨n,O⟩:∃n:Nat,x.info=(n:Int):=⟨x.info.toNat,au⟩;have ao:n<cs.length:=by rw[y.hl];omega
    rw[O] at d2;have C:cs[n]? =some cs[n]:=Ab ao;have t:=m.gr n _ C;refine aNa (S0:=S) (ob:=S1.nx) (nb:=X.nx) (n:=n) (i:=i) (NI:=g.ch.length) (cs:=cs) (a:=cs[n]) (l:=setN (g.cg.take i) 0 n) (ar v) (ar w) (aq) d2 m.ho y.hl C t d N m.lt (t.off m.ho) (t.off d2) (by have:=aIU n (g.cg.take i) 0;omega) ?_;intro F' X3 a' q1 q3 q4 D aw aI aV G;have aZ:=m.push C D aw aI aV G;refine aL (ft q4 w w1 ?_);refine⟨k - 1,au,rfl,⟨Av d.1 D,fun c W=>?_⟩,?_,Ae B D,p,i+1,cs.set n a',au,?_,by refine⟨?_,?_,?_⟩<;>simp only[↓aF,aE,rE,↓reduceIte,rA,q1,z,q3,v]⟩
    .have h1:=d.1;rw[G c au au  (fun e=>by have:=(t.blk e).1;omega)];exact d.2 c W
    .rw[G _ B p (t.off A)];exact A
    .have e:(fun j=>if j=n then setN (g.cg.take i) 0 n++ [(i:Int)] else setN (g.cg.take i) 0 j)=setN (g.cg.take (i+1)) 0:=by
      funext j;rw[M,aBY,an,Am];by_cases f:j=n
      .rw[if_pos f,if_pos ⟨s,by rw[O,f]⟩,f]
      .rw[if_neg f,if_neg (fun h=>f (ax h.2))]
     rw[<-e];exact aZ
   .refine aQ (iz (Aa s)) (aK ?_);refine am ?_
    refine aL (fo w w1 ?_);refine⟨k - 1,au,rfl,d,A,B,p,i+1,cs,au,?_,by refine⟨?_,?_,?_⟩<;>simp only[↓aF,aE,rE,↓reduceIte,rA,z,v]⟩;have e:setN (g.cg.take i) 0=setN (g.cg.take (i+1)) 0:=by
     funext j;rw[M,aBY,if_neg (fun h=>s h.1)]
    rw[<-e];exact m
  .refine aQ io (bT ?_);refine am ?_;have a0:k=0:=by omega
   subst a0;exact⟨rfl,J,K,P,p,i,cs,L,y,by refine⟨?_,?_,?_⟩<;>simp only[↓aF,aE,rE,↓reduceIte,rA,z,v,w]⟩
 rintro o ⟨F,inr⟩ X ⟨rfl,I,J,K,P,p,i,cs,L,y,z,v,w⟩;simp only at I v;subst I;rw[Bd au] at y;refine am ?_
 refine cA (fl v ?_);refine aT (am ?_);exact⟨J,y.is⟩
def aB2{y z:AV}(a:cO x x=true)(b:cO y y=true)(c:cO z z=true):cO (.agg [x,y,z]) (.agg [x,y,z])=true:=by
 simp [cO,kK,a,b,c]
theorem vJ(i:Nat):∀ (l:List cJ) (s:Nat),(setN l s i= []/\jA l s i=0)\/∃a L,setN l s i=((a:Nat):Int)::L/\jA l s i=a+1
 | [],_=>.inl ⟨rfl,rfl⟩
 | x::l,s=>by
  simp only[setN,jA];split
  .exact .inr ⟨s,_,rfl,rfl⟩
  .exact vJ i l (s+1)
noncomputable def aQM:List AO:=[oq 54 (.ld true 3 (.t 1)),
oc 55 32 [(.t 54),(.c (.int .i64 0)),(.c (.int .i64 0)),(.t 5)] 1,
oq 56 (.dk 1 (.t 1)),
om 57 4 (ld 56),
om 58 12 (.dh (.t 57)),
om 59 31 (bi .neq (.t 55) (.t 58))]
def aN9{gb db:Nat}{Q:Out->bO->St->Prop}(H:Has fns)(j:aC 1 F= .ptr gb 0)(s:aC 5 F= .ptr db 0)(k:aG 6 cF S0 nv g.cg)(hi:aG 2 cE S0 iv g.ch)(y:Same S0 S)(l:S.h.get gb=jf [je g.cm,nv,iv])(z:gb<S.nx)(A:S.h.get db=jf [je 0])(B:db<S.nx)(m:S0.nx<=db)(ne:gb≠db)(C:g.cg.length<=2000)(f:∀x∈g.cg,x.next.length<=1000)
  (D:∀F' t v,aJJ S db 0 0 (gP g) (je v) t->aC 1 F'=aC 1 F->aC 5 F'=aC 5 F->aC 59 F'= .bool (decide (v≠(g.cg.length:Int)))->Q .normal ⟨F',inr⟩ t):jP fns (.drw aQM) ⟨F,inr⟩ S Q:=by
 apply qZ;unfold aQM;have i:=gK l;have n:=fV l;simp only[iW,dH,mQ,fE,bH,rE,↓reduceIte,j,s,i,rG,aN];refine aBc rfl (ew s @bL ?_);refine aW (aJn H ⟨nv,iv,rfl,k,hi⟩ m C (g.cg.length+1) (at_:=0) (p:= -1) (d:=0) (deep:=0) au az az au f (y.trans (Same.nx S 6)) (by show db<S.nx+6;omega) A) ?_;rintro r S1 a;have a:aJJ ⟨S.h,S.nx+6⟩ db 0 0 (gP g) r S1:=a;obtain⟨v,rfl⟩:∃v,r=je v:=by
  cases u:gP g with
  | none=>rw[u] at a;exact⟨_,a.2.1⟩
  | some T=>rw[u] at a;exact⟨_,a.2.1⟩
 have w:cD db S S1:=⟨by have:S.nx+6<=S1.nx:=a.1.1;omega,fun c N o=>a.1.2 c (by show c<S.nx+6;omega) o⟩;have q:S1.h.get gb=jf [je g.cm,nv,iv]:=by rw[w.2 _ z ne];exact l
 have b:=fV q;have E:∀ (F:Fr),gO (.ld true 3 (.t 1)) F S.h=eK (aC 1 F) true 3 S.h:=fun F=>by rw[mQ,fE]
 simp only[↓sU,sD,rE,↓reduceIte,rA,iW,dH,j,aB,aP,aA,mQ,rG,b,zH,k.len,iO,aDA,vZ,aN,aU];rw[iC];refine⟨?_,?_⟩
 .have sn:=aG.self k;have I:=aG.self hi;have J:=aB2 (eM .i64 g.cm) sn I;have K:∀G:Fr,aC 56 G= .ptr gb 1->fA ⟨.ld false 1 (.t 56),G,nv,3,4⟩ [(1,1,S1.h)] S.h=true:=fun G h=>by
   have e:gO (ld 56) G S.h=some nv:=by rw[mQ,fE,h];exact n
   have L:gO (ld 56) G S1.h=some nv:=by rw[mQ,fE,h];exact b
   unfold fA;simp only[show Nat.testBit 4 1=false by decide,show Nat.testBit 1 3=false by decide,aU,aN,e,kO,sn];unfold fA;simp only[L,kO,sn]
  have M:fA ⟨.ld true 3 (.t 1),F,.agg [je g.cm,nv,iv],0,0⟩ [(1,1,S1.h)] S.h=true:=by
   have e:gO (.ld true 3 (.t 1)) F S.h=some (.agg [je g.cm,nv,iv]):=by rw[mQ,fE,j];exact i
   unfold fA;simp only[show Nat.testBit 0 1=false by decide,show Nat.testBit 1 0=true by decide,aU,aN,e,kO,J]
  simp only[Ce,List.reverse_nil,Bw,pD,xY];rw[K _ (by simp only[bH,rE,↓reduceIte]),M];rfl
 .refine D _ _ v ?_ (af) (af) (af);simp only[bL];exact⟨w,a.2⟩
def aQA(S S1:St)(gb:Nat)(g:aX)(k:Nat)(A:bO)(X:St):Prop:=A.inr=false/\Same S1 X/\∃i,i+k=g.cg.length/\kT g.cm g.ch.length g.cg=kT g.cm g.ch.length (g.cg.drop i)/\aC 1 A.F= .ptr gb 0/\aC 3 A.F=je (i:Int)
def aQL(S1:St)(gb:Nat)(g:aX)(k:Nat)(A:bO)(X:St):Prop:=A.inr=false/\Same S1 X/\∃i,i+k=g.cg.length/\(∀x∈g.cg.take i,¬mis g x)/\aC 1 A.F= .ptr gb 0/\aC 6 A.F=je (i:Int)
def aQD(S1:St)(a:AV)(g:aX)(k:Nat)(A:bO)(X:St):Prop:=A.inr=false/\Same S1 X/\∃i,i+k=g.ch.length/\(∀j,j<i->setN g.cg 0 j≠ [])/\aC 8 A.F=a/\aC 9 A.F=je (i:Int)
def aQz(S1:St)(a:AV)(g:aX)(k:Nat)(A:bO)(X:St):Prop:=A.inr=false/\Same S1 X/\∃i,i+k=g.ch.length+1/\1<=i/\aQ3 (fL g) 0 (min i g.ch.length)/\aC 8 A.F=a/\aC 10 A.F=je (i:Int)
def yZ(a:j<g.ch.length):(fL g).getD j 0=((jA g.cg 0 j:Nat):Int):=by
 unfold fL;rw[Ad,Az,Br a];rfl
def aB4(a:j<g.ch.length):(aIQ g)[j]? =some (setN g.cg 0 j):=by
 unfold aIQ;rw[Az,Br a];rfl
def aLb(g:aX):(aIQ g).length=g.ch.length:=by simp [aIQ]
def aCN:(0:Int)∈fL g↔∃j,j<g.ch.length/\setN g.cg 0 j= []:=by
 unfold fL;rw[Cq];constructor
 .rintro⟨j,b,c⟩;rw[Dk] at b;rcases vJ j g.cg 0 with h|⟨a,L,d,e⟩
  .exact⟨j,b,h.1⟩
  .rw[e] at c;omega
 .rintro⟨j,b,c⟩;refine⟨j,Dk.2 b,?_⟩;rcases vJ j g.cg 0 with h|⟨a,L,d,e⟩
  .rw[h.2];rfl
  .rw[c] at d;cases d
theorem aJz(H:Has fns)(hn:aG 6 cF S nv g.cg)(hi:aG 2 cE S iv g.ch)(b3:g.cg.length<=100000):
  iI fns (.fn 9 [] []) [.agg [je g.cm,nv,iv]] S fun r S'=>r=je (dC g)/\Same S S':=by
 refine cK H.f9 (by simp) ?_;refine ae ?_;refine cA ?_;refine cR (by refine ae ?_;exact aY _) ?_;intro S1 s1 n1 u;refine ae ?_;have B:=hn.len;have G:=hi.len;have b6:=aG.same (E:=cF) bQ hn s1;have be:=aG.same (E:=cE) cB hi s1;have sn:=aG.self hn;have si:=aG.self hi;have sg:=aB2 (eM .i64 g.cm) sn si;have aZ:S.nx<S1.nx:=by omega
 refine aD (aD (bB (Q:=fun o w X=>o= .normal/\w.inr=false/\X=S1/\aC 1 w.F= .ptr S.nx 0/\aC 36 w.F= .bool (decide (nL g))) (aL ?_) ?_))
 .by_cases h1:g.cm<1
  .rw[Ac (show nL g from .inl h1)];simp only[↓sU,sD,rE,↓reduceIte,rA,aB,aA,qV u,fV u,iS u,B,G,Ac h1]
  by_cases h2:(4:Int)<g.cm
  .rw[Ac (show nL g from .inr (.inl h2))];simp only[↓sU,sD,rE,↓reduceIte,rA,aB,aA,qV u,fV u,iS u,B,G,Aa h1,Ac h2]
  by_cases h3:(g.cg.length:Int)<1
  .rw[Ac (show nL g from .inr (.inr (.inl h3)))];simp only[↓sU,sD,rE,↓reduceIte,rA,aB,aA,qV u,fV u,iS u,B,G,Aa h1,Aa h2,Ac h3]
  by_cases h4:(2000:Int)<(g.cg.length:Int)
  .rw[Ac (show nL g from .inr (.inr (.inr (.inl h4))))];simp only[↓sU,sD,rE,↓reduceIte,rA,aB,aA,qV u,fV u,iS u,B,G,Aa h1,Aa h2,Aa h3,Ac h4]
  by_cases h5:(200:Int)<(g.ch.length:Int)
  .rw[Ac (show nL g from .inr (.inr (.inr (.inr h5))))];simp only[↓sU,sD,rE,↓reduceIte,rA,aB,aA,qV u,fV u,iS u,B,G,Aa h1,Aa h2,Aa h3,Aa h4,Ac h5]
  .rw[Aa (show ¬nL g by unfold nL;omega)];simp only[↓sU,sD,rE,↓reduceIte,rA,aB,aA,qV u,fV u,iS u,B,G,Aa h1,Aa h2,Aa h3,Aa h4,Aa h5]
 rintro o ⟨F,inr⟩ X ⟨rfl,l,f,m,pb⟩;simp only at l m pb;subst l;rw[f];clear f;refine ae ?_
 by_cases bad:nL g
 .have C:dC g=2:=by unfold dC;rw[if_pos bad]
  rw[C];refine aS (iy pb (Ac bad)) ?_;refine cA (ae ?_);refine aT (ae ?_);exact s1
 refine aQ (iy pb (Aa bad)) (aK ?_);refine ae ?_
 have b8:1<=g.cm/\g.cm<=4:=by unfold nL at bad;omega
 have hN:g.cg.length<=2000:=by unfold nL at bad;omega
 have c0:0<g.cg.length:=by unfold nL at bad;omega
 have hI:g.ch.length<=200:=by unfold nL at bad;omega
 refine aD (bB (Q:=fun o w X=>(o= .normal/\aQA S S1 S.nx g 0 w X)\/(o= .ret/\Same S1 X/\kT g.cm g.ch.length g.cg≠0/\aC 2 w.F=je (kT g.cm g.ch.length g.cg))) (aD (aL ?_)) ?_)
 .refine ae ?_;refine aO (bX (aQA S S1 S.nx g) ?_ g.cg.length _ _ ⟨rfl,eu _,0,au,by rw[Dn],by refine⟨?_,?_⟩<;>simp only[↓sU,sD,rE,↓reduceIte,rA,m]⟩);clear m pb;rintro k ⟨F,inr⟩ X ⟨l,f,i,s,C,m,p3⟩;simp only at l m p3;subst l;have cX:X.h.get S.nx=jf [je g.cm,nv,iv]:=by rw[f.2 _ aZ];exact u
  have aa:S.nx<X.nx:=Ae aZ f.1;refine gH (fg m p3 @aB @aA (fV cX) B ?_);by_cases t:i<g.cg.length
  .refine aS im (aK ?_);refine ae ?_
   obtain⟨x,P⟩:∃x,g.cg[i]? =some x:=⟨_,Ab t⟩;have ca:=aG.same (E:=cF) bQ b6 f;have⟨e,b,q,I,hb,he,bz,bj,_⟩:=aG.at ca az P;have bk:g.cg.drop i=x::g.cg.drop (i+1):=by
    rw[Bz t];congr 1;rw[Ab t] at P;exact Bh P
   have w1:=ed i
   have se:cO (.agg e) (.agg e)=true:=by
    obtain⟨a,bb,cc,rfl,ha,bA,bC⟩:=bz;exact zQ (eM ..) (eM ..) (eM ..) (bN.self ha) (bN.self bA) (bN.self bC)
   refine aD (aO (aD (iD (fun _=>False) ?_)));intro X1 x1;simp only[↓sU,sD,rE,↓reduceIte,rA,m,p3,aB,aP,aA,gK cX,fV cX,sg,sn,aa,hb,se,An,aJ,I,bj];refine dR rfl ?_;refine ae ?_;refine aW (aJ8 H (bQ bz x1) b8.2 G) ?_;rintro _ Y ⟨rfl,z⟩;refine⟨z,?_⟩;have bI:=(f.trans x1).trans z;rw[bk] at C;simp only[kT] at C
   refine cA (ae ?_);by_cases ab:gQ g.cm g.ch.length x=0
   .rw[if_neg (fun h=>h ab)] at C;refine aQ (iu (Aa (show ¬gQ g.cm g.ch.length x≠0 from fun h=>h ab))) (aK ?_);refine ae ?_
    refine aL (ew p3 w1 ?_);exact⟨k - 1,au,rfl,bI,i+1,au,C,by refine⟨?_,?_⟩<;>simp only[↓sU,sD,rE,↓reduceIte,rA,m]⟩
   .rw[if_pos ab] at C;refine aS (iu (Ac (show gQ g.cm g.ch.length x≠0 from ab))) ?_;refine cA (ae ?_);refine aT (ae ?_);exact .inr ⟨bI,by rw[C];exact ab,by rw[C]⟩
  .refine aQ im (bT ?_);refine ae ?_;have ac:k=0:=by omega
   subst ac;exact .inl ⟨rfl,f,i,s,C,by refine⟨?_,?_⟩<;>simp only[↓sU,sD,rE,↓reduceIte,rA,m,p3]⟩
 clear m pb;rintro o ⟨F,inr⟩ X (⟨rfl,l,f,i,s,C,m,p3⟩|⟨rfl,f,J,p2⟩);rotate_left
 .simp only at p2;refine de p2 ?_;have C:dC g=kT g.cm g.ch.length g.cg:=by unfold dC;rw[if_neg bad,if_pos J]
  rw[C];exact⟨rfl,s1.trans f⟩
 simp only at l m;subst l;rw[Cr au] at C;have an:=jF C;have bM:aGp g:=fun x P h2=>aCx (an x P) h2;have d:dC g=match gP g with | none=>9 | some T=>if T.length≠g.cg.length then 9 else if 40<wM 0 T then 5 else vR g:=by
  conv=>lhs;unfold dC
  rw[if_neg bad,if_neg (fun h=>h C)]
  first | done | (cases gP g<;>rfl)
 have sX:=s1.trans f;have cX:X.h.get S.nx=jf [je g.cm,nv,iv]:=by rw[f.2 _ aZ];exact u
 have aa:S.nx<X.nx:=Ae aZ f.1;refine ae ?_
 refine cA ?_;refine bS ?_;intro X1 x1 m1 d1;refine cQ (b:=X.nx) (af) (by simp only[↓sU,sD,rE,↓reduceIte,rA];rfl) d1 rfl rfl ?_;intro X2 x2 m2 d2;refine ae ?_;have K:Same X X2:=x2.same x1 (Af _);have ao:X2.h.get S.nx=jf [je g.cm,nv,iv]:=by rw[K.2 _ aa];exact cX
 have cf:X.nx<X2.nx:=by omega
 refine aD (aD (aN9 (S0:=S) (gb:=S.nx) (db:=X.nx) (g:=g) H (ah m) (af) hn hi (sX.trans K) ao au d2 cf (ax sX.1) au hN (fun x P=>aCF (an x P)) ?_));intro F' S3 v hr q1 q5 a0;simp only[↓sU,sD,rE,↓reduceIte,rA,m] at q1 q5;have bm:=sX.trans K;have c2:=sX.1;have s3:Same S S3:=⟨Av bm.1 hr.1.1,fun c hc=>(hr.1.2 c (Ae hc bm.1) au).trans (bm.2 c hc)⟩;have c3:S3.h.get S.nx=jf [je g.cm,nv,iv]:=by rw[hr.1.2 _ au au];exact ao
 have l3:S.nx<S3.nx:=by have:=hr.1.1;omega
 cases hw:gP g with
 | none=>
  rw[hw] at hr d;have⟨_,hv,_⟩:=hr;have hv:v= -1:=by cases hv;rfl
  simp only at d;rw[d];refine aS (iy a0 (Ac (au:v≠(g.cg.length:Int)))) ?_;refine cA (ae ?_);refine aT (ae ?_);exact s3
 | some T=>
  rw[hw] at hr d;have⟨_,hv,aw⟩:=hr;have hv:v=((0+T.length:Nat):Int):=by cases hv;rfl
  simp only at d;by_cases hT:T.length=g.cg.length;rotate_left
  .rw[d,if_pos hT];refine aS (iy a0 (Ac (au:v≠(g.cg.length:Int)))) ?_;refine cA (ae ?_);refine aT (ae ?_);exact s3
  rw[if_neg (fun h=>h hT)] at d;refine aQ (iy a0 (Aa (au:¬v≠(g.cg.length:Int)))) (aK ?_);refine ae ?_
  have aI:=cH (p:=0) aw rfl;refine gH (ew q5 aI ?_);by_cases a1:40<wM 0 T
  .rw[d,if_pos a1];refine aS (iu (Ac a1)) ?_;refine cA (ae ?_);refine aT (ae ?_);exact s3
  rw[if_neg a1] at d;refine aQ (iu (Aa a1)) (aK ?_);refine ae ?_
  rw[d];clear d C an q5 a0 aw aI;have cj:=aG.same (E:=cF) bQ hn s3;have ck:=aG.same (E:=cE) cB hi s3;refine aD (bB (Q:=fun o w Y=>(o= .normal/\aQL S3 S.nx g 0 w Y)\/(o= .ret/\Same S3 Y/\(∃x∈g.cg,mis g x)/\aC 2 w.F=je 10)) (aD (aL ?_)) ?_)
  .refine am ?_;refine aO (bX (aQL S3 S.nx g) ?_ g.cg.length _ _ ⟨rfl,eu _,0,au,fun x P=>(by simp at P),by refine⟨?_,?_⟩<;>simp only[↓aF,aE,rE,↓reduceIte,rA,q1]⟩);clear q1;rintro k ⟨F,inr⟩ X ⟨l,f,i,s,A,m,R⟩;simp only at l m R;subst l;have cX:X.h.get S.nx=jf [je g.cm,nv,iv]:=by rw[f.2 _ l3];exact c3
   have aa:S.nx<X.nx:=Ae l3 f.1;refine gH (gh m R @aB @aA (fV cX) B ?_);by_cases t:i<g.cg.length
   .refine aS io (aK ?_);refine am ?_
    obtain⟨x,P⟩:∃x,g.cg[i]? =some x:=⟨_,Ab t⟩;have bR:=Ar P;obtain⟨e,b,q,I,hb,he,⟨a,bb,cc,rfl,ha,bA,bC⟩,bj,_⟩:=aG.at (aG.same (E:=cF) bQ cj f) az P;have w1:=ed i
    refine aD (aO (aD (aL ?_)));refine gu m R @aB @aA (fV cX) @aJ I bj ?_;refine bS ?_;intro X1 x1 m1 d1;refine cQ (b:=X.nx) (aq) (by refine am ?_;exact aY _) d1 rfl rfl ?_;intro X2 x2 m2 d2;refine am ?_;have K:Same X X2:=x2.same x1 (Af _);have a3:=f.trans K;have ao:X2.h.get S.nx=jf [je g.cm,nv,iv]:=by rw[K.2 _ aa];exact cX
    have bU:=(ha.same K).len;have bV:=bN.self ha;refine aD (bB (Q:=fun o w Y=>o= .normal/\w.inr=false/\Same X2 Y/\aC 1 w.F= .ptr S.nx 0/\aC 6 w.F=je (i:Int)/\aC 101 w.F= .bool (decide (mis g x))) (jK ?_) ?_)
    .by_cases U:x.kind=2
     .have⟨i0,i1⟩:=bM x bR U;obtain⟨n,bW⟩:∃n:Nat,x.info=(n:Int):=⟨x.info.toNat,au⟩;have cl:n<g.ch.length:=by omega
      obtain⟨y,hy⟩:∃y,g.ch[n]? =some y:=⟨_,Ab cl⟩;obtain⟨e',b',q',M,cm,cn,rfl,cW,N⟩:=aG.at (aG.same (E:=cE) cB ck a3) az hy;have bY:=N 0 _ rfl;have bZ:=N 1 _ rfl;have cq:cv g x.info=y:=by unfold cv;rw[bW,Ad,show((n:Int)).toNat=n from rfl,hy];rfl
      have a5:mis g x↔¬ (y.player=x.player/\y.cr=(x.next.length:Int)):=by
       unfold mis;rw[cq];exact⟨fun h=>h.2,fun h=>⟨U,h⟩⟩
      rw[bW] at d2;by_cases a2:y.player=x.player
      .have bn:decide (y.player≠x.player)=false:=Aa (fun h=>h a2);have bp:decide (mis g x)=decide (y.cr≠(x.next.length:Int)):=by
        rw[Cn,Cl,Cl,a5];exact⟨fun h e=>h ⟨a2,e⟩,fun h e=>h e.2⟩
       rw[bp];simp only[↓aF,aE,rE,↓reduceIte,rA,m,R,aB,aP,aA,fI d2,eH d2,dF d2,dG d2,iS ao,aJ,M,bY,bZ,bU,bV,si,Ac U,bn];exact Same.nx _ _
      .have bn:decide (y.player≠x.player)=true:=Ac a2;have bp:decide (mis g x)=true:=Ac (a5.2 fun h=>a2 h.1);rw[bp];simp only[↓aF,aE,rE,↓reduceIte,rA,m,R,aB,aP,aA,fI d2,eH d2,dF d2,dG d2,iS ao,aJ,M,bY,bZ,bU,bV,si,Ac U,bn];exact Same.nx _ _
     .rw[Aa (show ¬mis g x from fun h=>U h.1)];refine gj m R @aB @aP @aA (fI d2) (Aa U) ?_;exact Same.nx _ _
    clear m R;rintro o ⟨F,inr⟩ Y ⟨rfl,l,z,m,R,pb⟩;simp only at l m R pb;subst l;have a8:=a3.trans z;refine am ?_
    by_cases V:mis g x
    .refine aS (i9 pb (Ac V)) ?_;refine cA (am ?_);refine aT (am ?_);exact .inr ⟨a8,x,bR,V⟩
    .refine aQ (i9 pb (Aa V)) (aK ?_);refine am ?_
     refine aL (fo R w1 ?_);refine⟨k - 1,au,rfl,a8,i+1,au,fun y hy=>?_,by refine⟨?_,?_⟩<;>simp only[↓aF,aE,rE,↓reduceIte,rA,m]⟩;rw[Bx,P] at hy;rcases Bi.1 hy with h|h
     .exact A y h
     .simp at h;rw[h];exact V
   .refine aQ io (bT ?_);refine am ?_;have ac:k=0:=by omega
    subst ac;exact .inl ⟨rfl,f,i,s,A,by refine⟨?_,?_⟩<;>simp only[↓aF,aE,rE,↓reduceIte,rA,m,R]⟩
  clear q1;rintro o ⟨F,inr⟩ Y (⟨rfl,l,z,i,s,A,m,R⟩|⟨rfl,z,V,p2⟩);rotate_left
  .simp only at p2;simp only[↓aF,aE,rE,↓reduceIte,rA,p2];unfold vR;rw[if_pos V];exact⟨rfl,s3.trans z⟩
  simp only at l m;subst l;rw[Bd au] at A;unfold vR;rw[if_neg (fun⟨x,h1,h2⟩=>A x h1 h2)];clear R s A i;have sY:=s3.trans z;have cY:Y.h.get S.nx=jf [je g.cm,nv,iv]:=by rw[z.2 _ l3];exact c3
  refine am ?_
  refine cA (fo m (gK cY) ?_);refine bK (am ?_);refine aW (aHV H (aG.same (E:=cF) bQ hn sY) (aG.same (E:=cE) cB hi sY) b3 au bM) ?_;rintro sv Z ⟨hZ,bq⟩
  have sZ:=sY.trans hZ;have bs:=bq.len;rw[aLb] at bs;refine aD (bB (Q:=fun o w X=>(o= .normal/\aQD Z sv g 0 w X)\/(o= .ret/\Same Z X/\(0:Int)∈fL g/\aC 2 w.F=je 18)) (aD (aL ?_)) ?_)
  .refine am ?_;refine aO (bX (aQD Z sv g) ?_ g.ch.length _ _ ⟨rfl,eu _,0,au,fun j hj=>au,by refine⟨?_,?_⟩<;>simp only[↓aF,aE,rE,↓reduceIte,rA]⟩);rintro k ⟨F,inr⟩ X ⟨l,f,i,s,A,D,p9⟩;simp only at l D p9;subst l;refine gH (ft D p9 bs ?_);by_cases t:i<g.ch.length
   .refine aS io (aK ?_);refine am ?_
    obtain⟨e,b,q,I,hb,he,⟨a,rfl,ha⟩,_,bv⟩:=aG.at (aG.same (E:=nK) fM bq f) az (aB4 t);have aV:=bv 0 a rfl;rw[Bs] at aV;have cr:=ha.len;have w1:=ed i
    refine aD (aO (aD (aL ?_)));refine gh D p9 @aJ I aV cr ?_;by_cases h0:setN g.cg 0 i= []
    .refine aS (iz (Ac (show(((setN g.cg 0 i).length:Nat):Int)=0 by rw[h0];rfl))) ?_;refine cA (am ?_);refine aT (am ?_);exact .inr ⟨f,aCN.2 ⟨i,t,h0⟩⟩
    .have cZ:=List.length_pos_iff.2 h0;refine aQ io (aK ?_);refine am ?_
     refine aL (fo p9 w1 ?_);refine⟨k - 1,au,rfl,f,i+1,au,fun j hj=>?_,by refine⟨?_,?_⟩<;>simp only[↓aF,aE,rE,↓reduceIte,rA,D]⟩;by_cases bw:j=i
     .rw[bw];exact h0
     .exact A j au
   .refine aQ io (bT ?_);refine am ?_;have ac:k=0:=by omega
    subst ac;exact .inl ⟨rfl,f,i,s,A,by refine⟨?_,?_⟩<;>simp only[↓aF,aE,rE,↓reduceIte,rA,D,p9]⟩
  rintro o ⟨F,inr⟩ X (⟨rfl,l,f,i,s,A,D,p9⟩|⟨rfl,f,h0,p2⟩);rotate_left
  .simp only at p2;refine fl p2 ?_;rw[if_pos h0];exact⟨rfl,sZ.trans f⟩
  simp only at l D;subst l;have J:∀j,j<g.ch.length->setN g.cg 0 j≠ []:=fun j hj=>A j au;rw[if_neg (fun h=>by have⟨j,hj,h0⟩:=aCN.1 h;exact J j hj h0)];clear p9 s A i;refine am ?_
  refine aD (bB (Q:=fun o w Y=>(o= .normal/\∃k,aQz X sv g k w Y/\k<=1)\/(o= .ret/\Same X Y/\¬aCr (fL g)/\aC 2 w.F=je 9)) (aD (aL ?_)) ?_)
  .refine am ?_;refine aO (bX (aQz X sv g) ?_ g.ch.length _ _ ⟨rfl,eu _,1,au,au,fun j j0 j1=>au,by refine⟨?_,?_⟩<;>simp only[↓aF,aE,rE,↓reduceIte,rA,D]⟩);clear D;rintro k ⟨F,inr⟩ Y ⟨l,z,i,s,be,A,D,W⟩;simp only at l D W;subst l;refine gH (ft D W bs ?_);by_cases t:i<g.ch.length
   .refine aS io (aK ?_);refine am ?_
    have b0:=aG.same (E:=nK) fM bq (f.trans z);obtain⟨e,b,q,I,hb,he,⟨a,rfl,ha⟩,_,bv⟩:=aG.at b0 az (aB4 t);obtain⟨e',b',q',M,cm,cn,⟨a',rfl,bx⟩,_,N⟩:=aG.at b0 az (aB4 (au:i - 1<g.ch.length));have aV:=bv 0 a rfl;have ba:=N 0 a' rfl;rw[Bs] at aV ba;have hp:=List.length_pos_iff.2 (J i t);have b1:=List.length_pos_iff.2 (J (i - 1) au);have ia:=ha.df hp;have la:=ha.ld hp;have ct:=bx.df b1;have cw:=bx.ld b1;have sa:=bN.self ha;have cx:=bN.self bx;have bd:(setN g.cg 0 i).getD 0 0<(setN g.cg 0 (i - 1)).getD 0 0↔(fL g).getD i 0<(fL g).getD (i - 1) 0:=by
     rw[yZ t,yZ (au:i - 1<g.ch.length)];rcases vJ i g.cg 0 with h|⟨x,L,h1,h2⟩
     .exact absurd h.1 (J i t)
     .rcases vJ (i - 1) g.cg 0 with h|⟨x',L',cy,cz⟩
      .exact absurd h.1 (J (i - 1) au)
      .rw[h1,cy,h2,cz];show(x:Int)<(x':Int)↔_;omega
    have w1:=ed i
    have w2:IntKind.i64.wrap ((i:Int) - 1)=((i - 1:Nat):Int):=by rw[wrap_i64 au au];omega
    refine aD (aO (aD (jK ?_)));simp only[↓aF,aE,rE,↓reduceIte,rA,D,W,aJ,aJ6,I,M,aV,ba,ia,la,ct,cw,sa,cx,w2];by_cases O:(setN g.cg 0 i).getD 0 0<(setN g.cg 0 (i - 1)).getD 0 0
    .refine aS (iz (Ac O)) ?_;refine cA (am ?_);refine aT (am ?_);refine .inr ⟨z.trans (Same.nx _ _),fun h=>?_⟩;exact h i au (by simp [fL];omega) (bd.1 O)
    .refine aQ (iz (Aa O)) (aK ?_);refine am ?_
     refine aL (fo W w1 ?_);refine⟨k - 1,au,rfl,z.trans (Same.nx _ _),i+1,au,au,fun j j0 j1=>?_,by refine⟨?_,?_⟩<;>simp only[↓aF,aE,rE,↓reduceIte,rA,D]⟩;by_cases bw:j=i
     .rw[bw];exact fun h=>O (bd.2 h)
     .exact A j j0 au
   .refine aQ io (bT ?_);refine am ?_;exact .inl ⟨k,⟨rfl,z,i,s,be,A,by refine⟨?_,?_⟩<;>simp only[↓aF,aE,rE,↓reduceIte,rA,D,W]⟩,au⟩
  clear D;rintro o ⟨F,inr⟩ Y (⟨rfl,k,⟨l,z,i,s,be,A,D,W⟩,hk⟩|⟨rfl,z,cV,p2⟩);rotate_left
  .simp only at p2;refine fl p2 ?_;rw[if_neg cV];exact⟨rfl,(sZ.trans f).trans z⟩
  simp only at l;subst l;have b2:aCr (fL g):=by
   unfold aCr;rw[show(fL g).length=g.ch.length by simp [fL]];rw[show min i g.ch.length=g.ch.length by omega] at A;exact A
  rw[if_pos b2];refine am ?_
  refine cA (am ?_);refine aT (am ?_);exact(sZ.trans f).trans z
end Go.Ev.Gl
