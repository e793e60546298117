import Derived.Test.YtoojnpjgnnpllaaGl6
open Nat renaming reduceEqDiff -> rE, reduceAdd -> rA
set_option maxHeartbeats 0
set_option linter.unusedSimpArgs false
set_option linter.unusedVariables false
namespace Go.Ev.Gl
variable {fns:T dY}
theorem aI6{S:St}{a:Int}(H:Has fns):fZ fns (.fn 185 [] []) [.int .i64 a] S fun r S'=>r= .bool false/\S'=S:=by
 refine cF H.f185 (by simp) ?_;refine ai ?_;refine bO (ai ?_);refine bO ?_;refine ez (Aa (show ¬a≠a from fun h=>h rfl)) ?_;refine aP ?_;simp only[↓aF,aG,rE,↓reduceIte]
theorem aKh{S:St}{a b:Int}(H:Has fns):fZ fns (.fn 182 [] []) [.int .i64 a,.int .i64 b] S fun r S'=>r= .bool (decide (a<b))/\S'=S:=by
 refine cF H.f182 (by simp) ?_;refine ai ?_;refine bO (ai ?_);refine bO (ai ?_);refine bD (ai ?_);refine aW (aI6 H) ?_;rintro _ X ⟨rfl,hX⟩;rw[hX];refine ai ?_;refine aP ?_;simp only[↓aF,aG,rE,↓reduceIte]
def aII(m:Int)(l:ba):Int:=l.foldl mx m
def aQX(S:St)(v:AV)(l:ba)(m0:Int)(k:Nat)(A:bG)(X:St):Prop:=A.inr=false/\X=S/\∃i,i+k=l.length/\0<i/\aD 0 A.F=v/\aD 3 A.F= .int .i64 (aII m0 ((l.take i).drop 1))/\aD 4 A.F= .int .i64 (i:Int)
theorem aMx{S:St}{v:AV}{l:ba}(H:Has fns)(hl:bI .i64 S v l)(hne:0<l.length)(hlen:l.length<=1000000):fZ fns (.fn 164 [] []) [v] S fun r S'=>r= .int .i64 (aII (l.getD 0 0) (l.drop 1))/\S'=S:=by
 refine cF H.f164 (by simp) ?_;refine ai ?_;refine bO (ai ?_);refine fC (fh hl.len @Ah ?_);refine aM (by simp only[↓aF,aG,rE,↓reduceIte,Aa (show ¬ (l.length:Int)<1 by omega)]) (aI ?_);try refine ai ?_
 have hia:=hl.cp hne;have hld:=hl.ld hne;refine bO ?_;simp only[↓aF,aG,rE,↓reduceIte,aKt,hia,hld];refine fC (ai ?_);refine aK (bH (aQX S v l (l.getD 0 0)) ?_ (l.length - 1) _ _ ⟨rfl,rfl,1,ar,by decide,aj,by refine ai ?_;rw[Cn (by rw[Ca];omega)];rfl,aj⟩);rintro k ⟨F,inr⟩ X ⟨q0,hX,i,hik,hi0,p0,p3,p4⟩;simp only at q0 p0 p3 p4;subst q0;rw[hX];refine fC (fj p0 p4 hl.len @Ah ?_);by_cases hi:i<l.length
 ·refine aN (by simp only[↓aF,aG,rE,↓reduceIte,Ac (show(i:Int)<(l.length:Int) by omega)]) (aI ?_);try refine ai ?_
  have hia:=hl.cp hi;have hld:=hl.ld hi;have htk:(l.take (i+1)).drop 1=(l.take i).drop 1++ [l.getD i 0]:=by
   rw[Bn,Ab hi,List.drop_append,Ca,show 1 - min i l.length=0 by omega,Ad,Ab hi];rfl
  have w1:=dh i
  refine aA (aK (aJ ?_));simp only[↓aF,aG,rE,↓reduceIte,p0,p3,p4,aH,hia,hld,aMG,aGg];refine aJ (fh p4 w1 ?_);refine⟨k - 1,ar,rfl,rfl,i+1,ar,ar,ak p0,?_,aj⟩;refine ai ?_;rw[htk];unfold aII;rw[List.foldl_append];rfl
 ·refine aM (by simp only[↓aF,aG,rE,↓reduceIte,Aa (show ¬ (i:Int)<(l.length:Int) by omega)]) (bJ ?_);refine ai ?_;rw[Bb ar] at p3;refine bO (ez p3 ?_);refine aP ?_;simp only[↓aF,aG,rE,↓reduceIte]
def aTf(S:St)(v:AV)(l:ba)(z:Int)(k:Nat)(A:bG)(X:St):Prop:=A.inr=false/\X=S/\∃i,i+k=l.length/\¬z∈l.take i/\aD 0 A.F=v/\aD 1 A.F= .int .i64 z/\aD 7 A.F= .int .i64 (l.length:Int)/\aD 8 A.F= .int .i64 (i:Int)
theorem aGO{S:St}{v:AV}{l:ba}{z:Int}(H:Has fns)(hl:bI .i64 S v l)(hlen:l.length<=1000000):fZ fns (.fn 181 [] []) [v,.int .i64 z] S fun r S'=>(∃j,r= .int .i64 j/\(0<=j↔z∈l))/\S'=S:=by
 refine cF H.f181 (by simp) ?_;refine ai ?_;refine bO (ai ?_);refine fC (fh hl.len @Ah ?_);refine aK (bH (aTf S v l z) ?_ l.length _ _ ⟨rfl,rfl,0,ar,by simp,by refine⟨?_,?_,?_,?_⟩<;>simp only[↓aF,aG,rE,↓reduceIte]⟩);rintro k ⟨F,inr⟩ X ⟨q0,hX,j,hjk,ha,p0,p1,p7,p8⟩;simp only at q0 p0 p1 p7 p8;subst q0;rw[hX];refine bO (fh p7 p8 ?_);by_cases hj:j<l.length
 ·refine aA (aN (by simp only[↓aF,aG,rE,↓reduceIte,Ac (show(j:Int)<(l.length:Int) by omega)]) (aI ?_));refine ai ?_;have hia:=hl.cp hj;have hld:=hl.ld hj;have hgd:l.getD j 0=l[j]:=by rw[Ad,Ab hj];rfl
  have htk:l.take (j+1)=l.take j++ [l.getD j 0]:=by rw[Bn,Ab hj,hgd];rfl
  have hmem:l.getD j 0∈l:=by rw[hgd];exact Bo hj
  generalize l.getD j 0=w at *;have w1:=dh j
  refine aA (aK (aA (aJ ?_)));refine ez p8 ?_;refine bO ?_;simp only[↓aF,aG,rE,↓reduceIte,p0,p1,aH,hia,hld];by_cases ho:z=w
  ·refine aN (by simp only[↓aF,aG,rE,↓reduceIte,Ac ho]) ?_;refine bO (ai ?_);refine aP (ai ?_);exact⟨_,rfl,⟨fun _=>by rw[ho];exact hmem,fun _=>ar⟩⟩
  ·refine aM (by simp only[↓aF,aG,rE,↓reduceIte,Aa ho]) (aI ?_);try refine ai ?_
   refine aJ (fh p8 w1 ?_);refine⟨k - 1,ar,rfl,rfl,j+1,ar,?_,by refine⟨?_,?_,?_,?_⟩<;>simp only[↓aF,aG,rE,↓reduceIte,p0,p1,p7]⟩;rw[htk];intro h;rcases Cb.1 h with h | h
   ·exact ha h
   ·simp at h;exact ho h
 ·refine aA (aM (by simp only[↓aF,aG,rE,↓reduceIte,Aa (show ¬ (j:Int)<(l.length:Int) by omega)]) (bJ ?_));refine ai ?_;rw[Bb ar] at ha;refine bO (ai ?_);refine aP (ai ?_);exact⟨_,rfl,⟨fun h=>absurd h ay,fun h=>absurd h ha⟩⟩
theorem aDD{S:St}{v:AV}{l:ba}{z:Int}(H:Has fns)(hl:bI .i64 S v l)(hlen:l.length<=1000000):fZ fns (.fn 176 [] []) [v,.int .i64 z] S fun r S'=>r= .bool (decide (z∈l))/\S'=S:=by
 refine cF H.f176 (by simp) ?_;refine ai ?_;refine bO (ai ?_);refine bO (ai ?_);refine bD (ai ?_);refine aW (aGO H hl hlen) ?_;rintro _ Y ⟨⟨j,rfl,hj⟩,hY⟩;rw[hY];have hd:decide ((0:Int)<=j)=decide (z∈l):=by rw[Cl,Cf,Cf];exact hj
 refine ez hd ?_;refine aP ?_;simp only[↓aF,aG,rE,↓reduceIte]
def aQg(l:ba)(a b:Nat):Prop:=∀i,a<i->i<b->¬l.getD i 0<l.getD (i - 1) 0
def aDs(l:ba):Prop:=aQg l 0 l.length
def aS1(S:St)(v:AV)(l:ba)(k:Nat)(A:bG)(X:St):Prop:=A.inr=false/\Same S X/\∃i:Int,(k:Int)=max i 0/\ -1<=i/\i<max 1 (l.length:Int)/\aQg l i.toNat l.length/\aD 0 A.F=v/\aD 3 A.F= .int .i64 i
theorem aG3{S:St}{v:AV}{l:ba}(H:Has fns)(hl:bI .i64 S v l)(hlen:l.length<=1000000):fZ fns (.fn 177 [] []) [v] S fun r S'=>(∃t,r= .bool t/\(t=true↔aDs l))/\Same S S':=by
 refine cF H.f177 (by simp) ?_;refine ai ?_;refine bO (ai ?_);have w0:IntKind.i64.wrap ((l.length:Int) - 1)=(l.length:Int) - 1:=wrap_i64 ar ar;refine fC ?_;simp only[↓aF,aG,rE,↓reduceIte,hl.len,Ah,w0];refine aK (bH (aS1 S v l) ?_ (l.length - 1) _ _ ⟨rfl,dk S,(l.length:Int) - 1,ar,ar,ar,fun i h1 h2=>ar,by refine⟨?_,?_⟩<;>simp only[↓aF,aG,rE,↓reduceIte]⟩);rintro k ⟨F,inr⟩ X ⟨q0,hX,i,hik,hi1,hi2,hup,p0,p3⟩;simp only at q0 p0 p3;subst q0;have hlX:=hl.same hX;refine fC (ez p3 ?_);by_cases hi:0<i
 ·refine aN (by simp only[↓aF,aG,rE,↓reduceIte,Ac hi]) (aI ?_);try refine ai ?_
  obtain⟨n,rfl⟩:∃n:Nat,i=(n:Int):=⟨i.toNat,ar⟩;have h1:n<l.length:=by omega
  have h0:n - 1<l.length:=by omega
  have w1:IntKind.i64.wrap ((n:Int) - 1)=((n - 1:Nat):Int):=by rw[wrap_i64 ar ar];omega
  have ia1:=hlX.cp h1;have ia0:=hlX.cp h0;have ld1:=hlX.ld h1;have ld0:=hlX.ld h0;have hself:=bI.self hl;obtain⟨b,hb⟩:∃b off cap o,v= .sl b off l.length cap o/\b<X.nx:=by
   rcases hlX with⟨h0,_⟩ | ⟨b,off,cap,o,cs,rfl,_,hb,_⟩
   ·rw[h0] at h1;simp at h1
   ·exact⟨b,off,cap,o,rfl,hb⟩
  obtain⟨off,cap,o,rfl,hbX⟩:=hb;simp only[aAN] at ia1 ia0 ld1 ld0;refine aA (aK (aA (gS (fun _=>False) ?_)));intro S1 s1;simp only[↓sU,sD,rE,↓reduceIte,rA,p0,p3,aH,ia1,w1,ia0,ld1,ld0,hbX,Ak];refine cU rfl ?_;refine ae ?_;refine aW (aKh H) ?_;rintro _ Y ⟨rfl,hY⟩;rw[hY];refine⟨dk _,?_⟩;try refine ae ?_
  by_cases ho:l.getD n 0<l.getD (n - 1) 0
  ·refine aN (by simp only[↓sU,sD,rE,↓reduceIte,rA,Ac ho]) ?_;refine bO (ae ?_);refine aP (ae ?_);exact⟨⟨_,rfl,⟨fun h=>(by cases h),fun h=>absurd ho (h n ar h1)⟩⟩,hX.trans s1⟩
  ·refine aM (by simp only[↓sU,sD,rE,↓reduceIte,rA,Aa ho]) (aI ?_);try refine ae ?_
   refine aJ (dn p3 w1 ?_);refine⟨k - 1,ar,rfl,hX.trans s1,((n - 1:Nat):Int),ar,ar,ar,fun j h1 h2=>?_,by refine⟨?_,?_⟩<;>simp only[↓sU,sD,rE,↓reduceIte,rA,p0]⟩;by_cases hj:j=n
   ·rw[hj];exact ho
   ·exact hup j ar h2
 ·refine aM (by simp only[↓aF,aG,rE,↓reduceIte,Aa hi]) (bJ ?_);refine ai ?_;refine bO (ai ?_);refine aP (ai ?_);exact⟨⟨_,rfl,⟨fun _ j h1 h2=>hup j ar h2,fun _=>rfl⟩⟩,hX⟩
def mT:List dP->Nat->Nat->Nat
 | [],_,_=>0
 | x::l,s,i=>if x.kind=2/\x.info=(i:Int) then s+1 else mT l (s+1) i
def gN(g:aS):ba:=(List.range g.bj.length).map fun i=>((mT g.bh 0 i:Nat):Int)
def cd(g:aS)(i:Int):oJ:=g.bj.getD i.toNat ⟨0,0⟩
def mis(g:aS)(x:dP):Prop:=x.kind=2/\¬ ((cd g x.info).player=x.player/\(cd g x.info).bt=(x.next.length:Int))
instance misDec(g:aS)(x:dP):Decidable (mis g x):=by unfold mis;exact inferInstance
open Classical in
noncomputable def aAY(g:aS):Int:=if ∃x∈g.bh,mis g x then 10 else if(0:Int)∈gN g then 18 else if aDs (gN g) then 0 else 9
def aGl(g:aS):Prop:=∀x∈g.bh,x.kind=2->0<=x.info/\x.info<g.bj.length
theorem aLN(a b c d:Int):pV .neq (.struct [(0,.int),(1,.int)]) (.agg [.int .i64 a,.int .i64 b]) (.agg [.int .i64 c,.int .i64 d])=some (.bool (decide (¬ (a=c/\b=d)))):=by
 have k:∀y z:Int,yP .int (.int .i64 y) (.int .i64 z)=some (decide (y=z)):=fun y z=>by
  show bQ (keq .i64 .i64) (some (ieq y z)) none=_;rw[fL,aR,jP];congr 1
 have e:eqv (.struct [(0,.int),(1,.int)]) (.agg [.int .i64 a,.int .i64 b]) (.agg [.int .i64 c,.int .i64 d])=some (decide (a=c/\b=d)):=by
  show eqs [(0,.int),(1,.int)] [.int .i64 a,.int .i64 b] [.int .i64 c,.int .i64 d]=_;unfold eqs;show(match yP .int (.int .i64 a) (.int .i64 c) with | some true=>_ | some false=>_ | none=>_)=_;rw[k];by_cases h:a=c
  ·rw[Ac h];unfold eqs;show(match yP .int (.int .i64 b) (.int .i64 d) with | some true=>_ | some false=>_ | none=>_)=_;rw[k];by_cases h2:b=d
   ·rw[Ac h2,Ac ⟨h,h2⟩];rfl
   ·rw[Aa h2,Aa (fun h3=>h2 h3.2)]
  ·rw[Aa h,Aa (fun h3=>h h3.1)]
 show bC (eqv (.struct [(0,.int),(1,.int)]) _ _) _=_;rw[e,aL];congr 2;by_cases h:a=c/\b=d
 ·rw[Ac h,Aa (fun h2=>h2 h)];rfl
 ·rw[Aa h,Ac h];rfl
def aO6(S:St)(wb fb:Nat)(g:aS)(k:Nat)(A:bG)(X:St):Prop:=A.inr=false/\Same S X/\∃F:ba,k<=g.bh.length/\F.length=g.bj.length/\(∀j,j<g.bj.length->F.getD j 0=((mT (g.bh.drop k) k j:Nat):Int))/\X.h.get fb=some (.cells (aU F) false 0)/\fb<X.nx/\
 aD 0 A.F= .ptr wb 0/\aD 3 A.F= .sl fb 0 g.bj.length g.bj.length false/\aD 4 A.F= .int .i64 ((k:Int) - 1)
def aRy(S1:St)(wb:Nat)(fv nv:AV)(g:aS)(k:Nat)(A:bG)(X:St):Prop:=A.inr=false/\Same S1 X/\∃i,i+k=g.bh.length/\(∀x∈g.bh.take i,¬mis g x)/\aD 0 A.F= .ptr wb 0/\aD 3 A.F=fv/\aD 47 A.F=nv/\aD 48 A.F= .int .i64 (g.bh.length:Int)/\aD 49 A.F= .int .i64 (i:Int)
theorem aKq{S:St}{wb:Nat}{ps:Int}{nv iv pv dv lv:AV}{g:aS}(H:Has fns)(hW:wI S wb ps nv iv pv dv lv)(hn:aE 6 bX S nv g.bh)(hi:aE 2 bP S iv g.bj)(hN:g.bh.length<=2000)(hI:g.bj.length<=200)(hok:aGl g):
  fZ fns (.fn 165 [] []) [.ptr wb 0] S fun r S'=>r= .int .i64 (aAY g)/\Same S S':=by
 refine cF H.f165 (by simp) ?_;refine am ?_;refine bO (am ?_);refine bO (ej @bN @bM @aC @aB (cV hW.1) hi.len ?_);refine fN (lN (n:=g.bj.length) (by simp only[↓aF,aG,rE,↓reduceIte,rA,aH]) (by simp only[↓aF,aG,rE,↓reduceIte,rA,aH]) ax ax) ?_;intro S1 s1 n1 c1;refine am ?_;have hz:repeatL [AV.int .i64 0] g.bj.length=aU (List.replicate g.bj.length 0):=by rw[repeatL_one];simp [aU]
 rw[hz] at c1;have hW1:=hW.same s1;have w0:IntKind.i64.wrap ((g.bh.length:Int) - 1)=(g.bh.length:Int) - 1:=wrap_i64 ar ar;refine aA (aX (Q:=fun o A' X=>o= .normal/\aO6 S wb S.nx g 0 A' X) (aA (aJ ?_)) ?_)
 ·refine eu @bN @bM @aC @aB (dK hW1.1) hn.len w0 ?_;refine aK (bH (aO6 S wb S.nx g) ?_ g.bh.length _ _ ⟨rfl,s1,_,Ag _,Au ..,fun j hj=>?_,c1,ar,by refine⟨?_,?_,?_⟩<;>simp only[↓aF,aG,rE,↓reduceIte,rA]⟩);rotate_left
  ·rw[Cn (Ag _),Ad,Ch];split<;>rfl
  rintro k ⟨F,inr⟩ X ⟨q0,hX,Fl,hkN,hFl,hF,hfb,hfbX,p0,p3,p4⟩;simp only at q0 p0 p3 p4;subst q0;refine fC (dx p4 ?_);by_cases hk:0<k
  ·refine aN (by simp only[↓aF,aG,rE,↓reduceIte,rA,Ac (show(0:Int)<=(k:Int) - 1 by omega)]) (aI ?_);try refine am ?_
   have e1:(k:Int) - 1=((k - 1:Nat):Int):=by omega
   rw[e1] at p4;have hlt:k - 1<g.bh.length:=by omega
   obtain⟨x,hx⟩:∃x,g.bh[k - 1]? =some x:=⟨_,Ab hlt⟩;have hxm:=Ar hx;have hWX:=hW.same hX;obtain⟨e,b,q,hia,hb,he,⟨a,bb,cc,rfl,ha,hbb,hcc⟩,hag,_⟩:=aE.at (aE.same (E:=bX) bL hn hX) ay hx;have hdrop:g.bh.drop (k - 1)=x::g.bh.drop k:=by
    rw[Bw hlt,show k - 1+1=k by omega];congr 1;rw[Ab hlt] at hx;exact Bp hx
   have w1:IntKind.i64.wrap (((k - 1:Nat):Int)+1)=(k:Int):=by rw[wrap_i64 ar ar];omega
   have w2:IntKind.i64.wrap (((k - 1:Nat):Int) - 1)=((k - 1:Nat):Int) - 1:=wrap_i64 ar ar;refine aA (aK (aA (aJ ?_)));simp only[↓aF,aG,rE,↓reduceIte,rA,p0,p4,bN,bM,aC,aB,dK hWX.1,aH,hia,hag];refine cA ?_;intro X1 x1 m1 d1;refine cQ (b:=X.nx) (ap) (by refine am ?_;exact aY _) d1 rfl rfl ?_;intro X2 x2 m2 d2;refine am ?_;have hX2:Same X X2:=x2.same x1 (Ag _);have hfb2:X2.h.get S.nx=some (.cells (aU Fl) false 0):=by rw[hX2.2 _ hfbX];exact hfb
   refine bO (dz @aC @aB (eK d2) ?_);have hfin:∀ (G:Fr) (Y:St) (Fl':ba),aD 0 G= .ptr wb 0->aD 3 G= .sl S.nx 0 g.bj.length g.bj.length false->aD 4 G= .int .i64 ((k - 1:Nat):Int)->Same S Y->Fl'.length=g.bj.length->(∀j,j<g.bj.length->Fl'.getD j 0=((mT (g.bh.drop (k - 1)) (k - 1) j:Nat):Int))->Y.h.get S.nx=some (.cells (aU Fl') false 0)->S.nx<Y.nx->vL fns [mt 24 4,oq 25 (bi .sub (.t 24) (ci 1)),mt 4 25] G Y fun F' S'=>∃k',k'<k/\aO6 S wb S.nx g k' ⟨F',false⟩ S':=fun G Y Fl' g0 g3 g4 hY h1 h2 h3 h4=>by
    refine dy g4 w2 ?_;exact⟨k - 1,ar,rfl,hY,Fl',ar,h1,h2,h3,h4,by refine⟨?_,?_,?_⟩<;>simp only[↓aF,aG,rE,↓reduceIte,rA,g0,g3]⟩
   by_cases hk2:x.kind=2
   ·refine aN (by simp only[↓aF,aG,rE,↓reduceIte,rA,Ac hk2]) ?_;have⟨i0,i1⟩:=hok x hxm hk2;obtain⟨n,hn'⟩:∃n:Nat,x.info=(n:Int):=⟨x.info.toNat,ar⟩;have hni:n<g.bj.length:=by omega
    rw[hn'] at d2;have hif:=dR (b:=S.nx) (o:=false) hni;refine aJ ?_;simp only[↓aF,aG,rE,↓reduceIte,rA,p0,p3,p4,aC,aB,cV d2,w1,aH,hif];refine fI (fun call=>by refine dy @dS @cR ?_;exact sM (S:=X2) hfb2 (by rw[hFl];exact hni)) ?_;refine am ?_;refine aJ ?_;refine aGZ (hfin _ _ (Fl.set n (k:Int)) (aq p0) (aq p3) (aq p4) (((hX.trans hX2)).put (Ag _) _) (by rw[Aq];exact hFl) (fun j hj=>?_) fk (by simp only;omega)) fun F' S' hh=>hh;rw[gJ (by rw[hFl];exact hni),hdrop,hF j hj];simp only[mT];by_cases hjn:j=n
    ·rw[if_pos hjn,if_pos ⟨hk2,by rw[hn',hjn]⟩];omega
    ·rw[if_neg hjn,if_neg (fun h=>hjn ar),show k - 1+1=k by omega]
   ·refine aM (by simp only[↓aF,aG,rE,↓reduceIte,rA,Aa hk2]) (aI ?_);try refine am ?_
    refine aJ ?_;refine aGZ (hfin _ X2 Fl (aq p0) (aq p3) (aq p4) (hX.trans hX2) hFl (fun j hj=>?_) hfb2 ar) fun F' S' hh=>hh;rw[hdrop,hF j hj];simp only[mT];rw[if_neg (fun h=>hk2 h.1),show k - 1+1=k by omega]
  ·refine aM (by simp only[↓aF,aG,rE,↓reduceIte,rA,Aa (show ¬ (0:Int)<=(k:Int) - 1 by omega)]) (bJ ?_);refine am ?_;have hk0:k=0:=by omega
   subst hk0;exact⟨rfl,hX,Fl,hkN,hFl,hF,hfb,hfbX,by refine⟨?_,?_,?_⟩<;>simp only[↓aF,aG,rE,↓reduceIte,rA,p0,p3,p4]⟩
 rintro o ⟨F,inr⟩ S2 ⟨rfl,q0,s2,Fl,_,hFl,hF,hfb,hfb2,p0,p3,p4⟩;simp only at q0 p0 p3 p4;subst q0;have hFeq:Fl=gN g:=by
  unfold gN;refine Dp (by simp [hFl]) fun j j1 j2=>?_;have h1:=hF j ar;rw[Ad,Ab j1,Dx] at h1;rw[List.getElem_map,List.getElem_range];exact h1
 subst hFeq;have hW2:=hW.same s2;have hn2:=aE.same (E:=bX) bL hn s2;have hi2:=aE.same (E:=bP) bK hi s2;try refine am ?_
 refine aA (aX (Q:=fun o A' X=>(o= .normal/\aRy S2 wb (.sl S.nx 0 g.bj.length g.bj.length false) nv g 0 A' X)\/(o= .ret/\Same S2 X/\(∃x∈g.bh,mis g x)/\aD 2 A'.F= .int .i64 10)) (aA (aJ ?_)) ?_)
 ·refine eu p0 @bN @bM @aC @aB (dK hW2.1) hn2.len ?_;refine aK (bH (aRy S2 wb (.sl S.nx 0 g.bj.length g.bj.length false) nv g) ?_ g.bh.length _ _ ⟨rfl,dk _,0,ar,fun x hx=>(by simp at hx),by refine⟨?_,?_,?_,?_,?_⟩<;>simp only[↓aF,aG,rE,↓reduceIte,rA,p0,p3]⟩);clear p0 p3 p4;rintro k ⟨F,inr⟩ X ⟨q0,hX,i,hik,hm,p0,p3,p47,p48,p49⟩;simp only at q0 p0 p3 p47 p48 p49;subst q0;refine bO (dy p48 p49 ?_);by_cases hlt:i<g.bh.length
  ·refine aA (aN (by simp only[↓aF,aG,rE,↓reduceIte,rA,Ac (show(i:Int)<(g.bh.length:Int) by omega)]) (aI ?_));refine am ?_;obtain⟨x,hx⟩:∃x,g.bh[i]? =some x:=⟨_,Ab hlt⟩;have hxm:=Ar hx;obtain⟨e,b,q,hia,hb,he,⟨a,bb,cc,rfl,ha,hbb,hcc⟩,hag,_⟩:=aE.at (aE.same (E:=bX) bL hn2 hX) ay hx;have w1:=dh i
   refine aA (aK (aA (aJ ?_)));refine ef p47 p49 @aH hia hag ?_;refine cA ?_;intro X1 x1 m1 d1;refine cQ (b:=X.nx) (ap) (by refine am ?_;exact aY _) d1 rfl rfl ?_;intro X2 x2 m2 d2;refine am ?_;have hX2:Same X X2:=x2.same x1 (Ag _);have hS2X:=hX.trans hX2;have hWX:=hW2.same hS2X;have hla:=(ha.same hX2).len;have hsa:=bI.self ha;have hsi:=aE.self hi;refine aA (aX (Q:=fun o A' Y=>o= .normal/\A'.inr=false/\Same X2 Y/\aD 0 A'.F= .ptr wb 0/\aD 3 A'.F= .sl S.nx 0 g.bj.length g.bj.length false/\aD 47 A'.F=nv/\aD 48 A'.F= .int .i64 (g.bh.length:Int)/\aD 49 A'.F= .int .i64 (i:Int)/\aD 73 A'.F= .bool (decide (mis g x))) (gD ?_) ?_)
   ·by_cases hk2:x.kind=2
    ·have⟨i0,i1⟩:=hok x hxm hk2;obtain⟨n,hn'⟩:∃n:Nat,x.info=(n:Int):=⟨x.info.toNat,ar⟩;have hni:n<g.bj.length:=by omega
     obtain⟨y,hy⟩:∃y,g.bj[n]? =some y:=⟨_,Ab hni⟩;obtain⟨e',b',q',hia',hb',he',rfl,hag',_⟩:=aE.at (aE.same (E:=bP) bK hi2 hS2X) ay hy;have hya:cd g x.info=y:=by unfold cd;rw[hn',Ad,show((n:Int)).toNat=n from rfl,hy];rfl
     have hmis:decide (mis g x)=decide (¬ (y.player=x.player/\y.bt=(x.next.length:Int))):=by
      rw[Cl,Cf,Cf];unfold mis;rw[hya];exact⟨fun h=>h.2,fun h=>⟨hk2,h⟩⟩
     rw[hmis];rw[hn'] at d2;have hs2:cE (.agg [.int .i64 y.player,.int .i64 y.bt]) (.agg [.int .i64 y.player,.int .i64 y.bt])=true:=aB8 (dH ..) (dH ..);simp only[↓aF,aG,rE,↓reduceIte,rA,p0,p3,p47,p48,p49,bN,cD,bM,aC,aQ,aB,eK d2,dK d2,cV d2,dC d2,cV hWX.1,aH,hia',hag',hla,hsa,hsi,hs2,Ah,iW,aPw,cR,aLN,Ac hk2];exact Same.nx _ _
    ·rw[Aa (show ¬mis g x from fun h=>hk2 h.1)];simp only[↓aF,aG,rE,↓reduceIte,rA,p0,p3,p47,p48,p49,aC,aQ,aB,eK d2,Aa hk2];exact Same.nx _ _
   clear p0 p3 p47 p48 p49;rintro o ⟨F,inr⟩ Y ⟨rfl,q0,hY,p0,p3,p47,p48,p49,pb⟩;simp only at q0 p0 p3 p47 p48 p49 pb;subst q0;have hS2Y:=hS2X.trans hY;try refine am ?_
   by_cases hmx:mis g x
   ·refine aN (by simp only[↓aF,aG,rE,↓reduceIte,rA,pb,Ac hmx]) ?_;refine bO (am ?_);refine aP (am ?_);exact .inr ⟨hS2Y,x,hxm,hmx⟩
   ·refine aM (by simp only[↓aF,aG,rE,↓reduceIte,rA,pb,Aa hmx]) (aI ?_);try refine am ?_
    refine aJ (dy p49 w1 ?_);refine⟨k - 1,ar,rfl,hS2Y,i+1,ar,fun y hy=>?_,by refine⟨?_,?_,?_,?_,?_⟩<;>simp only[↓aF,aG,rE,↓reduceIte,rA,p0,p3,p47,p48]⟩;rw[Bn,hx] at hy;rcases Cb.1 hy with h | h
    ·exact hm y h
    ·simp at h;rw[h];exact hmx
  ·refine aA (aM (by simp only[↓aF,aG,rE,↓reduceIte,rA,Aa (show ¬ (i:Int)<(g.bh.length:Int) by omega)]) (bJ ?_));refine am ?_;have hk0:k=0:=by omega
   subst hk0;exact .inl ⟨rfl,hX,i,hik,hm,by refine⟨?_,?_,?_,?_,?_⟩<;>simp only[↓aF,aG,rE,↓reduceIte,rA,p0,p3,p47,p48,p49]⟩
 clear p0 p3 p4;rintro o ⟨F,inr⟩ X (⟨rfl,q0,hX,i,hik,hm,p0,p3,p47,p48,p49⟩ | ⟨rfl,hX,hmx,p2⟩);rotate_left
 ·simp only at p2;simp only[↓aF,aG,rE,↓reduceIte,rA,p2];unfold aAY;rw[if_pos hmx];exact⟨rfl,s2.trans hX⟩
 simp only at q0 p0 p3;subst q0;rw[Bb ar] at hm;unfold aAY;rw[if_neg (fun⟨x,h1,h2⟩=>hm x h1 h2)];have sX:=s2.trans hX;have hfX:X.h.get S.nx=some (.cells (aU (gN g)) false 0):=by rw[hX.2 _ hfb2];exact hfb
 have hrow:=aDk (N:=g.bj.length) hfX (Ae hfb2 hX.1) hFl;try refine am ?_
 refine fC (dx p3 ?_);refine bD (am ?_);refine aW (aDD H hrow ar) ?_;rintro _ Y ⟨rfl,hY⟩;rw[hY];try refine am ?_
 by_cases h0:(0:Int)∈gN g
 ·rw[if_pos h0];refine aN (by simp only[↓aF,aG,rE,↓reduceIte,rA,Ac h0]) ?_;refine bO (am ?_);refine aP (am ?_);exact sX
 rw[if_neg h0];refine aM (by simp only[↓aF,aG,rE,↓reduceIte,rA,Aa h0]) (aI ?_);try refine am ?_
 refine fC (dx p3 ?_);refine bD (am ?_);refine aW (aG3 H hrow ar) ?_;rintro _ Y ⟨⟨t,rfl,ht⟩,hY⟩;refine dx @eM ?_;cases t with
 | false=>
  rw[if_neg (fun h=>by have:=ht.2 h;cases this)];refine aN (by simp only[↓aF,aG,rE,↓reduceIte,rA];rfl) ?_;refine bO (am ?_);refine aP (am ?_);exact sX.trans hY
 | true=>
  rw[if_pos (ht.1 rfl)];refine aM (by simp only[↓aF,aG,rE,↓reduceIte,rA];rfl) (aI ?_);try refine am ?_
  refine bO (am ?_);refine aP (am ?_);exact sX.trans hY
def mN(g:aS):Prop:=g.bo<1\/(4:Int)<g.bo\/(g.bh.length:Int)<1\/(2000:Int)<(g.bh.length:Int)\/(200:Int)<(g.bj.length:Int)
instance badGDec(g:aS):Decidable (mN g):=by unfold mN;exact inferInstance
def lA(ps:Int)(ni:Nat):List dP->Int
 | []=>0
 | x::l=>if iG ps ni x≠0 then iG ps ni x else lA ps ni l
def iN(g:aS):Option (List dM):=fW g.bh.length (eB g) (g.bh.length+1) 0 (-1) 0
noncomputable def cT(g:aS):Int:=
 if mN g then 2 else if lA g.bo g.bj.length g.bh≠0 then lA g.bo g.bj.length g.bh else
 match iN g with
 | none=>9
 | some T=>if T.length≠g.bh.length then 9 else if 40<yX 0 T then 5 else aAY g
theorem iE{ps:Int}{ni:Nat}:∀ {l:List dP},lA ps ni l=0->∀x∈l,iG ps ni x=0
 | [],_,x,hx=>by cases hx
 | y::l,h,x,hx=>by
  simp only[lA] at h;split at h
  ·rename_i hne;exact absurd h hne
  ·rename_i he;rcases Bs.1 hx with rfl | hx
   ·exact Dd.1 he
   ·exact iE h x hx
theorem aBE{ps:Int}{ni:Nat}{x:dP}(h:iG ps ni x=0):x.next.length<=1000:=by
 unfold iG at h;split at h
 ·split at h
  ·cases h
  ·rename_i hb;unfold nR at hb;omega
 ·split at h
  ·split at h
   ·cases h
   ·rename_i hb;unfold wV at hb;omega
  ·split at h
   ·split at h
    ·cases h
    ·rename_i hb;unfold oF at hb;omega
   ·cases h
theorem aBB{ps:Int}{ni:Nat}{x:dP}(h:iG ps ni x=0)(h2:x.kind=2):0<=x.info/\x.info<ni:=by
 unfold iG at h;rw[if_neg ar,if_pos h2] at h;split at h
 ·cases h
 ·split at h
  ·cases h
  ·omega
theorem stc{S:St}{b p:Nat}{w:AV}{cs:bf}{o:Bool}{sz:Nat}(h:S.h.get b=some (.cells cs o sz))(hp:p<cs.length):sO (.ptr b p) 1 [w] S=some (.undef,⟨S.h.set b (some (.cells (cs.set p w) o sz)),S.nx⟩):=by
 have hput:put cs p [w]=some (cs.set p w):=by
  rw[put_eq,if_pos (by simp;omega)];congr 1;rw[List.set_eq_take_append_cons_drop,if_pos hp];simp
 simp only[sO,tN,h,aL,aBJ,hput];rfl
theorem aA9{W:Nat->Prop}{h0 h':T AB}{base m i:Nat}{l:List AO}{F:Fr}{S:St}{ps ps':List iQ}{last:Option Nat}{Q:Fr->St->List iQ->Prop}{x v:cO}{b p sz:Nat}{w:AV}{cs:bf}{o:Bool}(hfl:cJ m ps S.h=(ps',h'))(h:jQ last m=true)(hx:x.val F= .ptr b p)(hv:(v.val F).cells=some [w])(hb:h'.get b=some (.cells cs o sz))(hp:p<cs.length)(hW:W b)
  (hr:fF fns W h0 base l (i+1) F ⟨h'.set b (some (.cells (cs.set p w) o sz)),S.nx⟩ ps' (some i) Q):fF fns W h0 base (⟨none,.x (.st 1 x v),none,m⟩::l) i F S ps last Q:=by
 refine pD (S1:=⟨h'.set b (some (.cells (cs.set p w) o sz)),S.nx⟩) h ?_ ?_ ?_
 ·rw[hfl,hv,aL,hx];exact stc (S:=⟨h',S.nx⟩) hb hp
 ·rw[hfl];refine⟨Ag _,fun c hc hw=>?_⟩;simp only;rw[di,if_neg (show ¬c=b from fun e=>hw (by rw[e];exact hW))]
 ·rw[hfl];exact hr
theorem sR{h:T AB}{b:Nat}{x0 x1 x2:AV}{o:Bool}{s:Nat}(hb:h.get b=some (.cells [x0,x1,x2] o s)):dT (.ptr b (0+0)) false 1 h=some x0:=ldc hb rfl
theorem fR{h:T AB}{b:Nat}{x0 x1 x2:AV}{o:Bool}{s:Nat}(hb:h.get b=some (.cells [x0,x1,x2] o s)):dT (.ptr b (0+1)) false 1 h=some x1:=ldc hb rfl
theorem fH{h:T AB}{b:Nat}{x0 x1 x2:AV}{o:Bool}{s:Nat}(hb:h.get b=some (.cells [x0,x1,x2] o s)):dT (.ptr b (0+2)) false 1 h=some x2:=ldc hb rfl
theorem eJ{h:T AB}{b:Nat}{x0 x1 x2:AV}{o:Bool}{s:Nat}(hb:h.get b=some (.cells [x0,x1,x2] o s)):dT (.ptr b 0) true 3 h=some (.agg [x0,x1,x2]):=jM hb rfl
theorem aAw{m j id:Nat}{bl:AB}{ps:List iQ}{h:T AB}(ht:Nat.testBit m j=false):cJ m (⟨j,id,bl⟩::ps) h=(⟨j,id,bl⟩::(cJ m ps h).1,(cJ m ps h).2):=by
 conv=>lhs;unfold cJ
 rw[show Nat.testBit m (iQ.mk j id bl).i=false from ht,bB]
theorem fD{m j id:Nat}{bl:AB}{ps:List iQ}{h:T AB}(ht:Nat.testBit m j=true):cJ m (⟨j,id,bl⟩::ps) h=cJ m ps (h.set id (some bl)):=by
 conv=>lhs;unfold cJ
 rw[show Nat.testBit m (iQ.mk j id bl).i=true from ht,aR]
theorem pN{W:Nat->Prop}{h0:T AB}{base i:Nat}{l:List AO}{F:Fr}{S:St}{ps:List iQ}{last:Option Nat}{Q:Fr->St->List iQ->Prop}{d:Option Nat}{t s bytes n:Nat}{z:bf}{lo co:cO}(hl:fP (lo.val F)=some n)(hc:fP (co.val F)=some n)(h1:n<=room)(h2:bytes * n<=room)
  (hr:fF fns W h0 base l (i+1) (cM d F (.sl (base+i) 0 n n false)) S (⟨i,base+i,.cells (repeatL z n) false 0⟩::ps) last Q):aHO fns W h0 base (uW (.dd t s bytes z lo co) F (base+i)) d l i F S ps last Q:=by
 rw[lN hl hc h1 h2,mM];exact hr
theorem iL.full{sel:dM->Int}{P P':ba}{T:List dM}(h:iL sel P P' T 0)(hl:T.length=P.length):P'=T.map sel:=by
 refine Dp (by rw[Aj,h.1,hl]) fun j j1 j2=>?_;have h1:=h.2 j;rw[Aj] at j2;unfold xG at h1;rw[if_pos (Du _),Nat.sub_zero,Ab j2,Ad,Ab j1] at h1;rw[List.getElem_map];exact h1
theorem aI8{g:aS}{T:List dM}(h:iN g=some T):∃e L,T=(-1,0,e)::L:=by
 unfold iN at h;simp only[fW] at h;split at h
 ·obtain⟨L,_,rfl⟩:=Aw.1 h;exact⟨_,_,rfl⟩
 ·cases h
theorem aLY(m:Int)(L:List dM):aII m (L.map (·.2.1))=yX m L:=by
 unfold aII yX;rw[List.foldl_map]
theorem aNg{P:T AB->Prop}{h:T AB}{w b1 b2 b3:Nat}{c1 c2 c3 z:Option AB}(n1:w≠b1)(n2:w≠b2)(n3:w≠b3)(n4:b1≠b2)(n5:b1≠b3)(n6:b2≠b3)
  (H:∀h':T AB,h'.get w=c3->h'.get b1=z->h'.get b2=z->h'.get b3=z->(∀c,c≠w->c≠b1->c≠b2->c≠b3->h'.get c=h.get c)->P h'):P ((((((h.set b1 z).set w c1).set b2 z).set w c2).set b3 z).set w c3):=by
 refine H _ ?_ ?_ ?_ ?_ fun c h1 h2 h3 h4=>?_
 ·rw[di,if_pos rfl]
 ·rw[di,if_neg (Bt n1),di,if_neg n5,di,if_neg (Bt n1),di,if_neg n4,di,if_neg (Bt n1),di,if_pos rfl]
 ·rw[di,if_neg (Bt n2),di,if_neg n6,di,if_neg (Bt n2),di,if_pos rfl]
 ·rw[di,if_neg (Bt n3),di,if_pos rfl]
 ·rw[di,if_neg h1,di,if_neg h4,di,if_neg h1,di,if_neg h3,di,if_neg h1,di,if_neg h2]
def aQO(S2:St)(gb wb:Nat)(nv:AV)(g:aS)(k:Nat)(A:bG)(X:St):Prop:=A.inr=false/\Same S2 X/\∃i,i+k=g.bh.length/\lA g.bo g.bj.length g.bh=lA g.bo g.bj.length (g.bh.drop i)/\aD 1 A.F= .ptr gb 0/\aD 4 A.F= .ptr wb 0/\aD 40 A.F=nv/\aD 41 A.F= .int .i64 (g.bh.length:Int)/\aD 42 A.F= .int .i64 (i:Int)
def aPM(S S':St)(p nv iv:AV)(g:aS):Prop:=∃ (wb pb db lb:Nat) (T:List dM),p= .ptr wb 0/\S.nx<=wb/\iN g=some T/\T.length=g.bh.length/\WK S' wb pb db lb g.bh.length g.bo nv iv (T.map (·.1)) (T.map (·.2.1)) (T.map (·.2.2))
theorem aHu{S:St}{nv iv:AV}{g:aS}(H:Has fns)(hn:aE 6 bX S nv g.bh)(hi:aE 2 bP S iv g.bj)(hln:g.bh.length<=100000):
  fZ fns (.fn 131 [] []) [.agg [.int .i64 g.bo,nv,iv]] S fun r S'=>Same S S'/\∃p,r= .tup [p,.int .i64 (cT g)]/\(cT g=0->aPM S S' p nv iv g):=by
 refine cF H.f131 (by simp) ?_;refine ae ?_;refine bO ?_;refine cI (by refine ae ?_;exact aY _) ?_;intro S1 s1 n1 c1;refine ae ?_;have hnl:=hn.len;have hil:=hi.len;refine aA (aA (aX (Q:=fun o A' X=>o= .normal/\A'.inr=false/\X=S1/\aD 1 A'.F= .ptr S.nx 0/\aD 35 A'.F= .bool (decide (mN g))) (aJ ?_) ?_))
 ·by_cases h1:g.bo<1
  ·rw[Ac (show mN g from .inl h1)];simp only[↓sU,sD,rE,↓reduceIte,rA,aC,aB,sR c1,fR c1,fH c1,hnl,hil,Ac h1]
  by_cases h2:(4:Int)<g.bo
  ·rw[Ac (show mN g from .inr (.inl h2))];simp only[↓sU,sD,rE,↓reduceIte,rA,aC,aB,sR c1,fR c1,fH c1,hnl,hil,Aa h1,Ac h2]
  by_cases h3:(g.bh.length:Int)<1
  ·rw[Ac (show mN g from .inr (.inr (.inl h3)))];simp only[↓sU,sD,rE,↓reduceIte,rA,aC,aB,sR c1,fR c1,fH c1,hnl,hil,Aa h1,Aa h2,Ac h3]
  by_cases h4:(2000:Int)<(g.bh.length:Int)
  ·rw[Ac (show mN g from .inr (.inr (.inr (.inl h4))))];simp only[↓sU,sD,rE,↓reduceIte,rA,aC,aB,sR c1,fR c1,fH c1,hnl,hil,Aa h1,Aa h2,Aa h3,Ac h4]
  by_cases h5:(200:Int)<(g.bj.length:Int)
  ·rw[Ac (show mN g from .inr (.inr (.inr (.inr h5))))];simp only[↓sU,sD,rE,↓reduceIte,rA,aC,aB,sR c1,fR c1,fH c1,hnl,hil,Aa h1,Aa h2,Aa h3,Aa h4,Ac h5]
  ·rw[Aa (show ¬mN g by unfold mN;omega)];simp only[↓sU,sD,rE,↓reduceIte,rA,aC,aB,sR c1,fR c1,fH c1,hnl,hil,Aa h1,Aa h2,Aa h3,Aa h4,Aa h5]
 rintro o ⟨F,inr⟩ X ⟨rfl,q0,hX,p1,pb⟩;simp only at q0 p1 pb;subst q0;rw[hX];clear hX;try refine ae ?_
 by_cases bad:mN g
 ·have hE:cT g=2:=by unfold cT;rw[if_pos bad]
  rw[hE];refine aN (by simp only[↓sU,sD,rE,↓reduceIte,rA,pb,Ac bad]) ?_;refine bO (ae ?_);refine aP (ae ?_);exact⟨s1,_,rfl,fun h=>by cases h⟩
 refine aM (by simp only[↓sU,sD,rE,↓reduceIte,rA,pb,Aa bad]) (aI ?_);try refine ae ?_
 have hps:1<=g.bo/\g.bo<=4:=by unfold mN at bad;omega
 have hN:g.bh.length<=2000:=by unfold mN at bad;omega
 have hN0:0<g.bh.length:=by unfold mN at bad;omega
 have hI:g.bj.length<=200:=by unfold mN at bad;omega
 have hbd:∀ (F:Fr) (h:T AB),aD 36 F= .agg [.int .i64 g.bo,nv,iv]->gM (.build [.int .i64 0,.bw,.bw,.bw,.bw,.bw] [(0,3,.t 36)]) F h=some (.agg [.int .i64 g.bo,nv,iv,.bw,.bw,.bw]):=fun F h he=>by
  show(bC (eQ _ (eH F [(0,3,.t 36)])) fun cs=>some (AV.agg cs))=_;simp only[eH,show(cO.t 36).val F= .agg [.int .i64 g.bo,nv,iv] from he];rfl
 refine bO (dz p1 (eJ c1) hbd ?_);refine cI (by refine ai ?_;exact aY _) ?_;intro S2 s2 n2 c2;refine ae ?_;have sS2:Same S S2:=s1.trans s2;have hW:wI S2 S1.nx g.bo nv iv .bw .bw .bw:=⟨c2,ar⟩;have hn2:=aE.same (E:=bX) bL hn sS2;have gl2:S.nx<S2.nx:=by omega
 have c1':S2.h.get S.nx=some (.cells [.int .i64 g.bo,nv,iv] false 0):=by rw[s2.2 _ ar];exact c1
 refine aA (aX (Q:=fun o A' X=>(o= .normal/\aQO S2 S.nx S1.nx nv g 0 A' X)\/(o= .ret/\Same S2 X/\lA g.bo g.bj.length g.bh≠0/\aD 2 A'.F= .nilp/\aD 3 A'.F= .int .i64 (lA g.bo g.bj.length g.bh))) (aA (aJ ?_)) ?_)
 ·refine dr p1 @aC @aB (fR c1') hnl ?_;refine aK (bH (aQO S2 S.nx S1.nx nv g) ?_ g.bh.length _ _ ⟨rfl,dk _,0,ar,by rw[Dx],by refine⟨?_,?_,?_,?_,?_⟩<;>simp only[↓sU,sD,rE,↓reduceIte,rA,p1]⟩);clear p1 pb;rintro k ⟨F,inr⟩ X ⟨q0,hX,i,hik,hE,p1,p4,p40,p41,p42⟩;simp only at q0 p1 p4 p40 p41 p42;subst q0;refine bO (dn p41 p42 ?_);by_cases hlt:i<g.bh.length
  ·refine aA (aN (by simp only[↓sU,sD,rE,↓reduceIte,rA,Ac (show(i:Int)<(g.bh.length:Int) by omega)]) (aI ?_));refine ae ?_;obtain⟨x,hx⟩:∃x,g.bh[i]? =some x:=⟨_,Ab hlt⟩;have⟨e,b,q,hia,hb,he,hNE,hag,_⟩:=aE.at (aE.same (E:=bX) bL hn2 hX) ay hx;have hdrop:g.bh.drop i=x::g.bh.drop (i+1):=by
    rw[Bw hlt];congr 1;rw[Ab hlt] at hx;exact Bp hx
   have w1:=dh i
   refine aA (aK (aA (aJ ?_)));refine ef p40 p42 @aH hia hag ?_;refine cA ?_;intro X1 x1 m1 d1;refine cQ (b:=X.nx) (ap) (by refine am ?_;exact aY _) d1 rfl he ?_;intro X2 x2 m2 d2;refine am ?_;have hX2:Same X X2:=x2.same x1 (Ag _);refine bO (dn p4 (jM d2 he) ?_);refine bD (ae ?_);refine aW (aK0 H (bL hNE hX2) (hW.same (hX.trans hX2)) hps hil ar (aE.self hi)) ?_;rintro _ Y ⟨rfl,hY⟩;have hSY:=(hX.trans hX2).trans hY;rw[hdrop] at hE;simp only[lA] at hE;try refine ae ?_
   refine bO (ae ?_);by_cases he0:iG g.bo g.bj.length x=0
   ·rw[if_neg (fun h=>h he0)] at hE;refine aM (by simp only[↓sU,sD,rE,↓reduceIte,rA,Aa (show ¬iG g.bo g.bj.length x≠0 from fun h=>h he0)]) (aI ?_);try refine ae ?_
    refine aJ (dn p42 w1 ?_);exact⟨k - 1,ar,rfl,hSY,i+1,ar,hE,by refine⟨?_,?_,?_,?_,?_⟩<;>simp only[↓sU,sD,rE,↓reduceIte,rA,p1,p4,p40,p41]⟩
   ·rw[if_pos he0] at hE;refine aN (by simp only[↓sU,sD,rE,↓reduceIte,rA,Ac (show iG g.bo g.bj.length x≠0 from he0)]) ?_;refine bO (ae ?_);refine aP (ae ?_);exact .inr ⟨hSY,by rw[hE];exact he0,by rw[hE]⟩
  ·refine aA (aM (by simp only[↓sU,sD,rE,↓reduceIte,rA,Aa (show ¬ (i:Int)<(g.bh.length:Int) by omega)]) (bJ ?_));refine ae ?_;have hk0:k=0:=by omega
   subst hk0;exact .inl ⟨rfl,hX,i,hik,hE,by refine⟨?_,?_,?_,?_,?_⟩<;>simp only[↓sU,sD,rE,↓reduceIte,rA,p1,p4,p40,p41,p42]⟩
 clear p1 pb;rintro o ⟨F,inr⟩ X (⟨rfl,q0,hX,i,hik,hE,p1,p4,p40,p41,p42⟩ | ⟨rfl,hX,hne,p2,p3⟩);rotate_left
 ·simp only at p2 p3;refine dn p2 p3 ?_;have hE:cT g=lA g.bo g.bj.length g.bh:=by unfold cT;rw[if_neg bad,if_pos hne]
  rw[hE];exact⟨sS2.trans hX,_,rfl,fun h=>absurd h hne⟩
 simp only at q0 p1 p4;subst q0;rw[Cn ar] at hE;have hform:cT g=match iN g with | none=>9 | some T=>if T.length≠g.bh.length then 9 else if 40<yX 0 T then 5 else aAY g:=by
  conv=>lhs;unfold cT
  rw[if_neg bad,if_neg (fun h=>h hE)]
  first | done | (cases iN g<;>rfl)
 have sX:=sS2.trans hX;have cX:X.h.get S.nx=some (.cells [.int .i64 g.bo,nv,iv] false 0):=by rw[hX.2 _ gl2];exact c1'
 have wX:=(hW.same hX).1;have ltw:=(hW.same hX).2;have ltg:S.nx<X.nx:=Ae gl2 hX.1;have nwg:¬S.nx=S1.nx:=by omega
 try refine ae ?_
 refine aA (nS (fun b=>b=S1.nx) ?_);intro X1 x1 hx1 hm1;simp only[↓sU,sD,rE,↓reduceIte,rA,p1,p4,aC,aQ,aB,fR cX,ltg,nwg,Ak,hnl,aE.self hn];refine pN (n:=g.bh.length) (by simp only[↓sU,sD,rE,↓reduceIte,rA,aH]) (by simp only[↓sU,sD,rE,↓reduceIte,rA,aH]) ax ax  ?_;simp only[↓sU,sD,rE,↓reduceIte,rA,p1,p4,aC,aQ,aB,fR cX,ltg,nwg,Ak,hnl,aE.self hn];refine pN (n:=g.bh.length) (by simp only[↓sU,sD,rE,↓reduceIte,rA,aH]) (by simp only[↓sU,sD,rE,↓reduceIte,rA,aH]) ax ax  ?_;simp only[↓sU,sD,rE,↓reduceIte,rA,p1,p4,aC,aQ,aB,fR cX,ltg,nwg,Ak,hnl,aE.self hn];refine pN (n:=g.bh.length) (by simp only[↓sU,sD,rE,↓reduceIte,rA,aH]) (by simp only[↓sU,sD,rE,↓reduceIte,rA,aH]) ax ax  ?_;refine dw p1 p4 @bN @cD @bM @aC @aQ @aB ?_;have hz:repeatL [AV.int .i64 0] g.bh.length=aU (List.replicate g.bh.length 0):=by rw[repeatL_one];simp [aU]
 rw[hz];have n6:¬S1.nx=X.nx+6:=by omega
 have n10:¬S1.nx=X.nx+10:=by omega
 have n14:¬S1.nx=X.nx+14:=by omega
 refine aA9 (b:=S1.nx) (p:=3) (w:=.sl (X.nx+6) 0 g.bh.length g.bh.length false) (cs:=[.int .i64 g.bo,nv,iv,.bw,.bw,.bw]) (o:=false) (sz:=0) ((aAw (show Nat.testBit 98425 14=false by decide)).trans (by rw[aAw (show Nat.testBit 98425 10=false by decide),fD (show Nat.testBit 98425 6=true by decide),bF])) rfl (af) (by simp only[↓sU,sD,rE,↓reduceIte,rA];rfl) (by rw[di,if_neg n6,hx1];exact wX) (by simp) rfl ?_;refine dw p1 p4 @bN @cD @bM @aC @aQ @aB ?_;refine aA9 (b:=S1.nx) (p:=4) (w:=.sl (X.nx+10) 0 g.bh.length g.bh.length false) (cs:=[.int .i64 g.bo,nv,iv,.sl (X.nx+6) 0 g.bh.length g.bh.length false,.bw,.bw]) (o:=false) (sz:=0) ((aAw (show Nat.testBit 1017851 14=false by decide)).trans (by rw[fD (show Nat.testBit 1017851 10=true by decide),bF])) rfl (af) (by simp only[↓sU,sD,rE,↓reduceIte,rA];rfl) (by rw[di,if_neg n10,di,if_pos rfl];rfl) (by simp) rfl ?_;refine dw p1 p4 @bN @cD @bM @aC @aQ @aB ?_;refine aA9 (b:=S1.nx) (p:=5) (w:=.sl (X.nx+14) 0 g.bh.length g.bh.length false) (cs:=[.int .i64 g.bo,nv,iv,.sl (X.nx+6) 0 g.bh.length g.bh.length false,.sl (X.nx+10) 0 g.bh.length g.bh.length false,.bw]) (o:=false) (sz:=0) ((fD (show Nat.testBit 8388607 14=true by decide)).trans (bF _ _)) rfl (af) (by simp only[↓sU,sD,rE,↓reduceIte,rA];rfl) (by rw[di,if_neg n14,di,if_pos rfl];rfl) (by simp) rfl ?_;refine ae ?_;refine aNg (P:=fun h'=>iM fns _ _ ⟨h',X1.nx⟩ _) n6 n10 n14 ar ar ar ?_;intro Zh gw g1 g2 g3 gr;have hm1:X1.nx=X.nx+24:=hm1;have sZ:Same S ⟨Zh,X1.nx⟩:=⟨by show S.nx<=X1.nx;have:=sX.1;omega,fun c hc=>by
  have:=sX.1;show Zh.get c=S.h.get c;rw[gr c ar ar ar ar,hx1];exact sX.2 c hc⟩
 have cZ:Zh.get S.nx=some (.cells [.int .i64 g.bo,nv,iv] false 0):=by
  rw[gr _ ar ar ar ar,hx1];exact cX
 have hK:WK ⟨Zh,X1.nx⟩ S1.nx (X.nx+6) (X.nx+10) (X.nx+14) g.bh.length g.bo nv iv (List.replicate g.bh.length 0) (List.replicate g.bh.length 0) (List.replicate g.bh.length 0):=⟨⟨gw,by show S1.nx<X1.nx;omega⟩,g1,g2,g3,Au ..,Au ..,Au ..,by show _<X1.nx;omega,by show _<X1.nx;omega,by show _<X1.nx;omega⟩;generalize hZ:(⟨Zh,X1.nx⟩:St)=Z at *;have cZ:Z.h.get S.nx=some (.cells [.int .i64 g.bo,nv,iv] false 0):=by rw[<-hZ];exact cZ
 have lz:S1.nx<Z.nx:=hK.w.2;have hall:=iE hE;refine fC (dr p1 p4 @aC @aB (fR cZ) ?_);refine bD (ae ?_);rw[show Int.negSucc 0=(-1:Int) from rfl];refine aW (aKN (rv:=nv) H hn ar (au sX.1) (au sX.1) (au sX.1) ar ar ar n6 n10 n14 hN (fun x hx=>aBE (hall x hx)) (g.bh.length+1) (at_:=0) (p:= -1) (d:=0) ar ay ay ar sZ hK (by rw[Dx];exact hn)) ?_;rintro r Y ⟨hY,P',D',L',hKY,hres⟩;have sY:Same S Y:=hY.same sZ (au sX.1) (au sX.1) (au sX.1);have hres':match iN g with | some T=>(∃v,r= .tup [v,.bool true]/\aE 6 bX S v (g.bh.drop (0+T.length)))/\iL (·.1) (List.replicate g.bh.length 0) P' T 0/\iL (·.2.1) (List.replicate g.bh.length 0) D' T 0/\iL (·.2.2) (List.replicate g.bh.length 0) L' T 0 | none=>r= .tup [.bw,.bool false]:=hres
 clear hres;cases hw:iN g with
 | none=>
  rw[hw] at hres' hform;subst hres';simp only at hform;rw[hform];refine dn @rN @sA ?_;refine bO (dn @eM @Ci ?_);refine aN (af) ?_;refine bO (ae ?_);refine aP (ae ?_);exact⟨sY,_,rfl,fun h=>by cases h⟩
 | some T=>
  rw[hw] at hres' hform;obtain⟨⟨v,rfl,hv⟩,rP,rD,rL⟩:=hres';simp only at hform;have hTl:=(yS (show fW g.bh.length (eB g) (g.bh.length+1) 0 (-1) 0=some T from hw)).1;have hvl:=hv.len;rw[Dr] at hvl;refine dn @rN @sA ?_;refine bO (dp @eM @Cc hvl ?_);by_cases hT:T.length=g.bh.length;rotate_left
  ·rw[hform,if_pos hT];refine aN (by simp only[↓sU,sD,rE,↓reduceIte,rA,Ac (show(0:Int)<((g.bh.length - (0+T.length):Nat):Int) by omega)]) ?_;refine bO (ae ?_);refine aP (ae ?_);exact⟨sY,_,rfl,fun h=>by cases h⟩
  rw[if_neg (fun h=>h hT)] at hform;refine aM (by simp only[↓sU,sD,rE,↓reduceIte,rA,Aa (show ¬ (0:Int)<((g.bh.length - (0+T.length):Nat):Int) by omega)]) (aI ?_);try refine ae ?_
  have eP:=rP.full (by rw[Au];exact hT);have eD:=rD.full (by rw[Au];exact hT);have eL:=rL.full (by rw[Au];exact hT);subst eP eD eL;have hrow:=aDk hKY.gd hKY.bd hKY.ld;have⟨e,L,hTe⟩:=aI8 hw;have hmax:aII ((T.map (·.2.1)).getD 0 0) ((T.map (·.2.1)).drop 1)=yX 0 T:=by
   rw[hTe];show aII 0 (L.map (·.2.1))=yX 0 ((-1,0,e)::L);rw[aLY,aKE];rfl
  refine fC (du p1 p4 @bN @bM @aC @aB (dF hKY.w.1) ?_);refine bD (ae ?_);refine aW (aMx H hrow (by rw[Aj];omega) (by rw[Aj];omega)) ?_;rintro _ Y2 ⟨rfl,hY2⟩;rw[hY2,hmax];refine ae ?_;by_cases h40:40<yX 0 T
  ·rw[hform,if_pos h40];refine aN (by simp only[↓sU,sD,rE,↓reduceIte,rA,Ac h40]) ?_;refine bO (ae ?_);refine aP (ae ?_);exact⟨sY,_,rfl,fun h=>by cases h⟩
  rw[if_neg h40] at hform;refine aM (by simp only[↓sU,sD,rE,↓reduceIte,rA,Aa h40]) (aI ?_);try refine ae ?_
  refine bO (dn p1 p4 ?_);refine bD (ae ?_);refine aW (aKq H hKY.w (aE.same (E:=bX) bL hn sY) (aE.same (E:=bP) bK hi sY) hN hI (fun x hx h2=>aBB (hall x hx) h2)) ?_;rintro _ Y3 ⟨rfl,hY3⟩;try simp only[↓sU,sD,rE,↓reduceIte,rA,p4]
  refine aP (ae ?_);rw[hform];refine⟨sY.trans hY3,_,rfl,fun _=>⟨S1.nx,_,_,_,T,rfl,ar,hw,hT,⟨hKY.w.same hY3,by rw[hY3.2 _ hKY.bp];exact hKY.gp,by rw[hY3.2 _ hKY.bd];exact hKY.gd,by rw[hY3.2 _ hKY.bl];exact hKY.gl,hKY.lp,hKY.ld,hKY.ll,Ae hKY.bp hY3.1,Ae hKY.bd hY3.1,Ae hKY.bl hY3.1⟩⟩⟩
theorem aEW{S:St}{wb:Nat}{ps:Int}{n i p d l:AV}(H:Has fns)(hW:wI S wb ps n i p d l):fZ fns (.fn 159 [] []) [.ptr wb 0] S fun r S'=>r=p/\Same S S':=by
 refine cF H.f159 (by simp) ?_;refine ae ?_;refine bO (ae ?_);refine bO (dr @bN @bM @aC @aB (dC hW.1) ?_);refine aP (ae ?_);exact dk _
def aOP(S S':St)(v:AV)(g:aS):Prop:=(cT g≠0->v= .bw)/\(cT g=0->∃T,iN g=some T/\T.length=g.bh.length/\bI .i64 S' v (T.map (·.1)))
theorem aFZ{S:St}{nv iv:AV}{g:aS}(H:Has fns)(hn:aE 6 bX S nv g.bh)(hi:aE 2 bP S iv g.bj)(hln:g.bh.length<=100000):
  fZ fns (.fn 119 [] []) [.agg [.int .i64 g.bo,nv,iv]] S fun r S'=>∃v,r= .tup [v,.int .i64 (cT g)]/\Same S S'/\aOP S S' v g:=by
 refine cF H.f119 (by simp) ?_;refine ae ?_;refine bO ?_;refine cI (by refine ae ?_;exact aY _) ?_;intro S1 s1 n1 c1;refine ae ?_;refine bO (dm (eJ c1) ?_);refine bD (ae ?_);have hn1:=aE.same (E:=bX) bL hn s1;have hi1:=aE.same (E:=bP) bK hi s1;refine aW (Q:=fun r X=>∃v,r= .tup [v,.int .i64 (cT g)]/\Same S1 X/\aOP S1 X v g) ?_ ?_
 ·refine cF H.f158 (by simp) ?_;refine ae ?_;refine bO ?_;refine cI (by refine ae ?_;exact aY _) ?_;intro S2 s2 n2 c2;refine ae ?_;refine bO (dm (eJ c2) ?_);refine bD (ae ?_);refine aW (aHu H (aE.same (E:=bX) bL hn1 s2) (aE.same (E:=bP) bK hi1 s2) hln) ?_;rintro _ X ⟨hX,p,rfl,hok⟩;refine dn @rN @sA ?_;refine fC (ae ?_);by_cases h0:cT g=0
  ·refine aM (by simp only[↓sU,sD,rE,↓reduceIte,rA,Aa (show ¬cT g≠0 from fun h=>h h0)]) (aI ?_);try refine ae ?_
   obtain⟨wb,pb,db,lb,T,rfl,_,hT,hTl,hK⟩:=hok h0;refine bO (ae ?_);refine bD (ae ?_);refine aW (aEW H hK.w) ?_;rintro _ Y ⟨rfl,hY⟩;try refine ae ?_
   refine aP (ae ?_);rw[h0];refine⟨_,rfl,(s2.trans hX).trans hY,fun h=>absurd h0 h,fun _=>⟨T,hT,hTl,?_⟩⟩;exact(aDk hK.gp hK.bp hK.lp).same hY
  ·refine aN (by simp only[↓sU,sD,rE,↓reduceIte,rA,Ac (show cT g≠0 from h0)]) ?_;refine bO (ae ?_);refine bO (ae ?_);refine aP (ae ?_);exact⟨_,rfl,s2.trans hX,fun _=>rfl,fun h=>absurd h h0⟩
 rintro _ X ⟨v,rfl,hX,hP⟩;refine dn @rN @sA ?_;refine aP (ae ?_);exact⟨_,rfl,s1.trans hX,hP⟩
theorem aLI{S:St}{t:Nat}{x:AV}{o:Bool}{sz:Nat}(h:S.h.get t=some (.cells [x] o sz)):eY (.sl t 0 1 1 false) S.h 1 1=some [x]:=by
 show bC (cK S.h t) (fun cs=>cut cs 0 (1 * 1))=_;unfold cK;rw[h];rfl
theorem fY.push{bytes t:Nat}{S0 S:St}{v:AV}{l:ba}{w:Int}(h:fY 1 S0 S v l.length (aU l))(hS:Same S0 S)(ht:S.h.get t=some (.cells [.int .i64 w] false 0))(h1:l.length+1<=room)(h2:(l.length+1) * bytes<=room):
  ∃v' S',gP bytes 1 v (.sl t 0 1 1 false) S=some (v',S')/\fY 1 S0 S' v' (l++ [w]).length (aU (l++ [w]))/\aZ v'=some S.nx/\S'.nx=S.nx+1/\∀c,c<S.nx->aZ v≠some c->S'.h.get c=S.h.get c:=by
 have hs:=aLI ht;have e0:aU (l++ [w])=aU l++ [.int .i64 w]:=by simp [aU]
 have e1:(l++ [w]).length=l.length+1:=by simp
 rw[e0,e1];generalize hn:l.length=n at *;rcases h with⟨rfl,rfl,h0⟩ | ⟨b,rfl,hb0,hb,hg,hc⟩
 ·refine⟨.sl S.nx 0 1 1 true,⟨S.h.set S.nx (some (.cells [.int .i64 w] true 1)),S.nx+1⟩,?_,.inr ⟨S.nx,by rw[An],hS.1,by simp,?_,?_⟩,rfl,rfl,fun c hc _=>(Same.alloc S _).2 c hc⟩
  ·show(bC (some 1) fun j=>bC (eY (.sl t 0 1 1 false) S.h 1 j) fun new=>aD1 .bw bytes 1 j new S)=_;rw[aL,hs,aL];show tO bytes 1 1 [.int .i64 w] S=_;unfold tO;rw[show Nat.beq 1 0=false from rfl,bB,Av ar,aR,Av (by rw[An] at h2;exact h2),aR];rfl
  ·simp only;rw[di,if_pos rfl,h0];rfl
  ·rw[h0];rfl
 ·refine⟨.sl S.nx 0 (n+1) (n+1) true,⟨(S.h.set b none).set S.nx (some (.cells (aU l++ [.int .i64 w]) true 1)),S.nx+1⟩,?_,.inr ⟨S.nx,rfl,hS.1,by simp,?_,by rw[Ao,hc,Bl,Ec,Nat.one_mul]⟩,rfl,rfl,fun c hc hne=>?_⟩
  ·show(bC (some 1) fun j=>bC (eY (.sl t 0 1 1 false) S.h 1 j) fun new=>aD1 (.sl b 0 n n true) bytes 1 j new S)=_;rw[aL,hs,aL];show qF bytes 1 b 0 n n true 1 [.int .i64 w] S=_;unfold qF;have e2:Nat.ble (n+1) n=false:=by rw[Ei];intro h;have:=Bd h;omega
   rw[e2,bB,Av h1,aR,Av h2,aR,hg,aL];have e3:cut (aU l) 0 (n * 1)=some (aU l):=by
    unfold cut;rw[iF,iX,Dx,if_pos ar,Bb ar]
   have e4:Nat.beq (0+n * 1) (mC (aU l))=true:=by rw[fS,hc,Bj];omega
   simp only[aCc,e3,aL,aR,e4,show Nat.beq 1 1=true from rfl,grown,gE]
  ·simp only;rw[di,if_pos rfl]
  ·simp only;have:c≠b:=fun e=>hne (by rw[e];rfl);rw[di,if_neg ar,di,if_neg this]
theorem fY.self{k n:Nat}{S0 S:St}{v:AV}{cs:bf}(h:fY k S0 S v n cs):cE v v=true:=by
 rcases h with⟨rfl,_⟩ | ⟨b,rfl,_⟩
 ·rfl
 ·exact nH ..
theorem fY.cells{k n:Nat}{S0 S:St}{v:AV}{cs:bf}(h:fY k S0 S v n cs):v.cells=some [v]:=by
 rcases h with⟨rfl,_⟩ | ⟨b,rfl,_⟩<;>rfl
noncomputable def aOM:List AO:=[mt 25 3,
oq 26 (.cw 2 (.t 5)),
om 27 2 (ld 26),
mt 28 3,
oq 29 (.cw 2 (.t 5)),
om 30 16 (ld 29),
om 31 56 (.cp (.slice 1) (.t 28) (.t 30)),
om 32 120 (ld 31),
mt 33 4,
⟨(some 34),(.a (.cj 3 1 1 [(.int .i64 0)] [(0,(.t 33))])),none,256⟩,
⟨(some 35),(.x (.app 3 1 8 (.t 32) (.t 34))),none,1016⟩,
om 36 2047 (.cp (.slice 1) (.t 25) (.t 27)),
⟨none,(.x (.st 1 (.t 36) (.t 35))),none,4095⟩]
theorem dI{h:T AB}{b p:Nat}{cs:bf}{x:AV}{o:Bool}{s:Nat}(hb:h.get b=some (.cells cs o s))(hj:cs[p]? =some x):dT (.ptr b p) false 1 h=some x:=by
 have:=ldc (j:=p) hb hj;rw[An] at this;exact this
theorem aMc{F:Fr}{S0 S:St}{inr:Bool}{ob nb n i NI:Nat}{cs:bf}{a c0 c1 c3 c4 c5:AV}{l:ba}{Q:Out->bG->St->Prop}(p3:aD 3 F= .sl ob 0 NI NI false)(p4:aD 4 F= .int .i64 (i:Int))(p5:aD 5 F= .ptr nb 0)
  (hnb:S.h.get nb=some (.cells [c0,c1,.int .i64 (n:Int),c3,c4,c5] false 0)) (hob:S.h.get ob=some (.cells cs false 0)) (hcs:cs.length=NI) (hn:cs[n]? =some a) (ha:fY 1 S0 S a l.length (aU l)) (hS:Same S0 S) (lnb:nb<S.nx) (lob:ob<S.nx) (ne1:aZ a≠some ob) (ne2:aZ a≠some nb) (hl:l.length<=100000)
  (hQ:∀F' S' a',aD 1 F'=aD 1 F->aD 3 F'=aD 3 F->aD 4 F'=aD 4 F->S.nx<=S'.nx->S'.h.get ob=some (.cells (cs.set n a') false 0)->fY 1 S0 S' a' (l++ [(i:Int)]).length (aU (l++ [(i:Int)]))->(∃b',aZ a'=some b'/\S.nx<=b'/\b'<S'.nx)->(∀c,c<S.nx->c≠ob->aZ a≠some c->S'.h.get c=S.h.get c)->Q .normal ⟨F',inr⟩ S'):iM fns (.drw aOM) ⟨F,inr⟩ S Q:=by
 have hlt:n<cs.length:=(Ai.1 hn).1;have hia:=dR (b:=ob) (N:=NI) (o:=false) (show n<NI by omega);have hldo:=dI hob hn;have he:∀F id,aD 33 F= .int .i64 (i:Int)->uW (.cj 3 1 1 [AV.int .i64 0] [(0,.t 33)]) F id=some (.sl id 0 1 1 false,.cells [.int .i64 (i:Int)] false 0):=fun F id h=>nQ h;have sB:Same S ⟨S.h.set (S.nx+9) (some (.cells [.int .i64 (i:Int)] false 0)),S.nx+13⟩:=⟨by simp,fun c hc=>by simp only;rw[di,if_neg ar]⟩;have⟨a',S1,eA,gA,bA,nA,rA⟩:=fY.push (bytes:=8) (t:=S.nx+9) (w:=(i:Int)) (ha.step sB) (hS.trans sB) fk ax ax;simp only at bA nA rA;have hob1:S1.h.get ob=some (.cells cs false 0):=by rw[rA _ ar ne1];exact(sB.2 _ lob).trans hob
 have hnb1:S1.h.get nb=some (.cells [c0,c1,.int .i64 (n:Int),c3,c4,c5] false 0):=by rw[rA _ ar ne2];exact(sB.2 _ lnb).trans hnb
 refine tI ?_;unfold aOM;simp only[lM,eC,aFG,aC,aB,qV,mP,fE,bS,rE,↓reduceIte,p3,p4,p5,aH,aL,hia,hldo,cV hnb,yM,lE,qT,aQ,aR,bB,aIk,he,rA];refine jZ (v:=a') (S1:=S1) rfl (fun call=>?_) ?_
 ·rw[cP (show Nat.testBit 1016 9=true by decide),gO];simp only[fE,bS,rE,↓reduceIte];exact eA
 rw[cP (show Nat.testBit 1016 9=true by decide)];simp only[lM,eC,qV,fE,bS,rE,↓reduceIte,aH,aL,hia,lE,bB];refine jZ (v:=.undef) (S1:=⟨S1.h.set ob (some (.cells (cs.set n a') false 0)),S1.nx⟩) (show Nat.testBit 4095 10=true by decide) (fun call=>?_) ?_
 ·rw[dS];simp only[fE,bS,rE,↓reduceIte,gA.cells,aL];exact stc (S:=S1) hob1 hlt
 rw[gG];have hsa:=ha.self;refine⟨?_,?_⟩
 ·have e1:∀ (v:AV) (G:Fr) (sl p msk ii:Nat) (X1 X2:T AB) (b:Nat),aD sl G= .ptr b p->dT (.ptr b p) false 1 S.h=some v->cE v v=true->Nat.testBit msk 10=false->Nat.testBit 1016 ii=true->eI ⟨.ld false 1 (.t sl),G,v,ii,msk⟩ [(10,1016,X1),(12,4095,X2)] S.h=true:=fun v G sl p msk ii X1 X2 b h1 h2 h3 h4 h5=>by
   unfold eI;have e:gM (.ld false 1 (.t sl)) G S.h=some v:=by rw[mP,fE,h1];exact h2
   simp only[h4,h5,bB,aR,e,jO,h3]
  have e2:∀ (v:AV) (G:Fr) (sl p msk ii:Nat) (X1 X2:T AB) (b:Nat),aD sl G= .ptr b p->dT (.ptr b p) false 1 S.h=some v->dT (.ptr b p) false 1 X1=some v->cE v v=true->Nat.testBit msk 10=false->Nat.testBit msk 12=false->Nat.testBit 1016 ii=false->Nat.testBit 4095 ii=true->eI ⟨.ld false 1 (.t sl),G,v,ii,msk⟩ [(10,1016,X1),(12,4095,X2)] S.h=true:=fun v G sl p msk ii X1 X2 b h1 h2 h2' h3 h4 h4' h5 h6=>by
   have e:gM (.ld false 1 (.t sl)) G S.h=some v:=by rw[mP,fE,h1];exact h2
   have e':gM (.ld false 1 (.t sl)) G X1=some v:=by rw[mP,fE,h1];exact h2'
   unfold eI;simp only[h4,h5,bB,aR,e,jO,h3];unfold eI;simp only[h4',h6,bB,aR,e',jO,h3]
  simp only[Bz,List.reverse_nil,Cg,Ck,nT,xF];rw[e1 a _ 31 n 120 7 _ _ ob (by simp only[bS,rE,↓reduceIte]) hldo hsa ay ay,e1 _ _ 29 (0+2) 16 5 _ _ nb (by simp only[bS,rE,↓reduceIte]) (cV hnb) (dH ..) ay ay,e2 _ _ 26 (0+2) 2 2 _ _ nb (by simp only[bS,rE,↓reduceIte]) (cV hnb) (cV hnb1) (dH ..) ay ay ay ay];rfl
 ·have hobA:aZ a'≠some ob:=by rw[bA];intro h;have:=Bp h;omega
  have hS1:S.nx<=S1.nx:=by omega
  refine hQ _ _ a' (af) (af) (af) hS1 (by simp only[bF];rw[di,if_pos rfl]) ?_ ⟨_,bA,ar,by show _<S1.nx;omega⟩ fun c hc h1 h2=>?_
  ·rcases gA with h | ⟨b,h1,h2,h3,h4,h5⟩
   ·rw[h.1] at bA;cases bA
   ·refine .inr ⟨b,h1,h2,h3,?_,h5⟩;simp only[bF];rw[di,if_neg (fun e=>hobA (by rw[h1,<-e];rfl))];exact h4
  ·simp only[bF];rw[di,if_neg h1,rA _ ar h2];exact sB.2 _ hc
def lS:List dP->Nat->Nat->ba
 | [],_,_=>[]
 | x::l,s,i=>if x.kind=2/\x.info=(i:Int) then(s:Int)::lS l (s+1) i else lS l (s+1) i
theorem aBv(x:dP)(i:Nat):∀ (l:List dP) (s:Nat),lS (l++ [x]) s i=if x.kind=2/\x.info=(i:Int) then lS l s i++ [((s+l.length:Nat):Int)] else lS l s i
 | [],s=>by
  simp only[Cg,lS,Bq,Br]
 | y::l,s=>by
  simp only[Ck,lS];rw[aBv x i l (s+1),Ax,show s+1+l.length=s+(l.length+1) by omega];split<;>split<;>rfl
theorem aG6(i:Nat):∀ (l:List dP) (s:Nat),(lS l s i).length<=l.length
 | [],_=>Ag _
 | y::l,s=>by
  simp only[lS];have:=aG6 i l (s+1);split
  ·rw[Ax,Ax];omega
  ·rw[Ax];omega
def aHB(g:aS):a9:=(List.range g.bj.length).map (lS g.bh 0)
def iD(S:St)(cs:bf)(l:ba):Prop:=∃a,cs= [a]/\bI .i64 S a l
theorem cm:kG iD:=fun⟨a,h,h1⟩ hs=>⟨a,h,h1.same hs⟩
theorem fY.is{S0 S:St}{v:AV}{l:ba}(h:fY 1 S0 S v l.length (aU l)):bI .i64 S v l:=by
 rcases h with⟨rfl,h0,_⟩ | ⟨b,rfl,h1,h2,h3,h4⟩
 ·exact .inl ⟨Bu.1 h0,.inl rfl⟩
 ·refine .inr ⟨b,0,l.length,true,aU l,rfl,Ag _,h2,by unfold cK;rw[h3];rfl,fun i x hi=>?_⟩;rw[An];unfold aU;rw[Am,hi];rfl
theorem fY.blk{k n c:Nat}{S0 S:St}{v:AV}{cs:bf}(h:fY k S0 S v n cs)(hc:aZ v=some c):S0.nx<=c/\c<S.nx/\S.h.get c=some (.cells cs true k):=by
 rcases h with⟨rfl,_⟩ | ⟨b,rfl,h1,h2,h3,h4⟩
 ·cases hc
 ·cases hc;exact⟨h1,h2,h3⟩
theorem fY.off{k n c s:Nat}{S0 S:St}{v:AV}{cs cs':bf}(h:fY k S0 S v n cs)(hc:S.h.get c=some (.cells cs' false s)):aZ v≠some c:=fun e=>by
 have:=(h.blk e).2.2;rw[hc] at this;cases this
structure Fam(S0 X:St)(ob NI:Nat)(cs:bf)(L:Nat->ba):Prop where
 ho:X.h.get ob=some (.cells cs false 0)
 lt:ob<X.nx
 hl:cs.length=NI
 gr:∀ (j:Nat) (a:AV),cs[j]? =some a->fY 1 S0 X a (L j).length (aU (L j))
 dj:∀ (j k:Nat) (a b:AV),j≠k->cs[j]? =some a->cs[k]? =some b->∀c,aZ a=some c->aZ b≠some c
theorem Fam.same{S0 X X':St}{ob NI:Nat}{cs:bf}{L:Nat->ba}(h:Fam S0 X ob NI cs L)(hs:Same X X'):Fam S0 X' ob NI cs L:=⟨(hs.2 _ h.lt).trans h.ho,Ae h.lt hs.1,h.hl,fun j a hj=>(h.gr j a hj).step hs,h.dj⟩
theorem Fam.push{S0 X X':St}{ob NI n:Nat}{cs:bf}{L:Nat->ba}{a a':AV}{w:Int}(h:Fam S0 X ob NI cs L)(hn:cs[n]? =some a)(hx:X.nx<=X'.nx)(ho:X'.h.get ob=some (.cells (cs.set n a') false 0))(hg:fY 1 S0 X' a' (L n++ [w]).length (aU (L n++ [w])))(hb:∃b',aZ a'=some b'/\X.nx<=b'/\b'<X'.nx)(hr:∀c,c<X.nx->c≠ob->aZ a≠some c->X'.h.get c=X.h.get c):
  Fam S0 X' ob NI (cs.set n a') (fun j=>if j=n then L n++ [w] else L j):=by
 have hlt:=(Ai.1 hn).1;have⟨b',hb1,hb2,hb3⟩:=hb;have get:∀ (j:Nat) (c:AV),(cs.set n a')[j]? =some c->(j=n/\c=a')\/(j≠n/\cs[j]? =some c):=fun j c hj=>by
  rw[Cu] at hj;split at hj
  ·rename_i e;exact .inl ⟨e.symm,(Bp hj).symm⟩
  ·rename_i e;exact .inr ⟨fun e'=>e e'.symm,hj⟩
 refine⟨ho,Ae h.lt hx,by rw[Aq];exact h.hl,fun j c hj=>?_,fun j k x y hjk hx' hy c hc hc'=>?_⟩
 ·rcases get j c hj with⟨rfl,rfl⟩ | ⟨hne,hj⟩
  ·simp only[↓reduceIte];exact hg
  ·simp only[if_neg hne];have hj':=h.gr j c hj;rcases hj' with h0 | ⟨b,h1,h2,h3,h4,h5⟩
   ·exact .inl h0
   ·have hbc:aZ c=some b:=by rw[h1];rfl
    refine .inr ⟨b,h1,h2,Ae h3 hx,?_,h5⟩;rw[hr b h3 (fun e=>(h.gr j c hj).off h.ho (by rw[hbc,e])) (h.dj j n c a hne hj hn b hbc)];exact h4
 ·rcases get j x hx' with⟨rfl,rfl⟩ | ⟨hne,hj⟩
  ·rcases get k y hy with⟨rfl,rfl⟩ | ⟨hne2,hk⟩
   ·exact hjk rfl
   ·rw[hb1] at hc;have:=((h.gr k y hk).blk hc').2.1;have:=Bp hc;omega
  ·rcases get k y hy with⟨rfl,rfl⟩ | ⟨hne2,hk⟩
   ·rw[hb1] at hc';have:=((h.gr j x hj).blk hc).2.1;have:=Bp hc';omega
   ·exact h.dj j k x y hjk hj hk c hc hc'
theorem Fam.is{S0 X:St}{ob NI:Nat}{cs:bf}{L:Nat->ba}(h:Fam S0 X ob NI cs L):aE 1 iD X (.sl ob 0 NI NI false) ((List.range NI).map L):=by
 refine .inr ⟨ob,0,NI,false,cs,by simp,by simp,h.lt,by unfold cK;rw[h.ho];rfl,fun i l hi=>?_⟩;rw[Am,Aw] at hi;obtain⟨i',hi',rfl⟩:=hi;have hlt:i<NI:=by have:=(Ai.1 hi').1;rwa [Ay] at this
 rw[Bf hlt] at hi'
 ·cases hi';have hc:cs[i]? =some (cs[i]'(by rw[h.hl];exact hlt)):=Ab _;refine⟨[cs[i]'(by rw[h.hl];exact hlt)],rfl,fun j x hj=>?_,_,rfl,(h.gr i _ hc).is⟩;cases j with
  | zero=>
   cases hj;rw[An,Cr,Br];exact hc
  | succ j=>simp at hj
def aRr(S:St)(gb ob:Nat)(nv iv:AV)(g:aS)(k:Nat)(A:bG)(X:St):Prop:=A.inr=false/\Same S X/\X.h.get gb=some (.cells [.int .i64 g.bo,nv,iv] false 0)/\gb<X.nx/\gb≠ob/\∃i cs,i+k=g.bh.length/\Fam S X ob g.bj.length cs (lS (g.bh.take i) 0)/\
 aD 1 A.F= .ptr gb 0/\aD 3 A.F= .sl ob 0 g.bj.length g.bj.length false/\aD 4 A.F= .int .i64 (i:Int)
theorem aG4{S:St}{nv iv:AV}{g:aS}(H:Has fns)(hn:aE 6 bX S nv g.bh)(hi:aE 2 bP S iv g.bj)(hN:g.bh.length<=100000)(hI:g.bj.length<=100000)(hok:aGl g):
  fZ fns (.fn 104 [] []) [.agg [.int .i64 g.bo,nv,iv]] S fun r S'=>Same S S'/\aE 1 iD S' r (aHB g):=by
 refine cF H.f104 (by simp) ?_;refine ae ?_;refine bO ?_;refine cI (by refine ae ?_;exact aY _) ?_;intro S1 s1 n1 c1;refine ae ?_;refine bO (ed @aC @aB (fH c1) hi.len ?_);refine fN (lN (n:=g.bj.length) (by simp only[↓aF,aG,rE,↓reduceIte,rA,aH]) (by simp only[↓aF,aG,rE,↓reduceIte,rA,aH]) ax ax) ?_;intro S2 s2 n2 c2;refine am ?_;rw[repeatL_one] at c2;have sS2:=s1.trans s2;have c1':S2.h.get S.nx=some (.cells [.int .i64 g.bo,nv,iv] false 0):=by rw[s2.2 _ ar];exact c1
 have hF0:Fam S S2 S1.nx g.bj.length (List.replicate g.bj.length .bw) (lS (g.bh.take 0) 0):=by
  refine⟨c2,ar,Au ..,fun j a hj=>?_,fun j k a b _ hj hk c hc=>?_⟩
  ·rw[Ch] at hj;split at hj
   ·cases hj;exact .inl ⟨rfl,rfl,rfl⟩
   ·cases hj
  ·rw[Ch] at hj;split at hj
   ·cases hj;cases hc
   ·cases hj
 refine aA (aX (Q:=fun o A' X=>o= .normal/\aRr S S.nx S1.nx nv iv g 0 A' X) (aA (aJ ?_)) ?_)
 ·refine am ?_;refine aK (bH (aRr S S.nx S1.nx nv iv g) ?_ g.bh.length _ _ ⟨rfl,sS2,c1',ar,ar,0,_,ar,hF0,by refine⟨?_,?_,?_⟩<;>simp only[↓aF,aG,rE,↓reduceIte,rA]⟩);rintro k ⟨F,inr⟩ X ⟨q0,hX,cX,gX,ngo,i,cs,hik,hF,p1,p3,p4⟩;simp only at q0 p1 p3 p4;subst q0;have hnX:=aE.same (E:=bX) bL hn hX;refine fC (ej p1 p4 @aC @aB (fR cX) hn.len ?_);by_cases hlt:i<g.bh.length
  ·refine aN (by simp only[↓aF,aG,rE,↓reduceIte,rA,Ac (show(i:Int)<(g.bh.length:Int) by omega)]) (aI ?_);try refine am ?_
   obtain⟨x,hx⟩:∃x,g.bh[i]? =some x:=⟨_,Ab hlt⟩;have hxm:=Ar hx;obtain⟨e,b,q,hia,hb,he,⟨a,bb,cc,rfl,ha,hbb,hcc⟩,hag,_⟩:=aE.at hnX ay hx;have w1:=dh i
   have htk:g.bh.take (i+1)=g.bh.take i++ [x]:=by rw[Bn,hx];rfl
   have hti:(g.bh.take i).length=i:=by rw[Ca];omega
   refine aA (aK (aA (aJ ?_)));refine ew p1 p4 @aC @aB (fR cX) @aH hia hag ?_;refine cA ?_;intro X1 x1 m1 d1;refine cQ (b:=X.nx) (ap) (by refine am ?_;exact aY _) d1 rfl rfl ?_;intro X2 x2 m2 d2;refine am ?_;have hX2:Same X X2:=x2.same x1 (Ag _);have cX2:X2.h.get S.nx=some (.cells [.int .i64 g.bo,nv,iv] false 0):=by rw[hX2.2 _ gX];exact cX
   have hF2:=hF.same hX2;have ltX2:X.nx<X2.nx:=by omega
   have gX2:S.nx<X2.nx:=Ae gX hX2.1;have hSX2:=hX.trans hX2;refine bO (dz @aC @aB (eK d2) ?_);by_cases hk2:x.kind=2
   ·refine aN (by simp only[↓aF,aG,rE,↓reduceIte,rA,Ac hk2]) ?_;have⟨i0,i1⟩:=hok x hxm hk2;obtain⟨n,hn'⟩:∃n:Nat,x.info=(n:Int):=⟨x.info.toNat,ar⟩;have hni:n<cs.length:=by rw[hF.hl];omega
    rw[hn'] at d2;have hcn:cs[n]? =some cs[n]:=Ab hni;have hgn:=hF2.gr n _ hcn;refine aMc (S0:=S) (ob:=S1.nx) (nb:=X.nx) (n:=n) (i:=i) (NI:=g.bj.length) (cs:=cs) (a:=cs[n]) (l:=lS (g.bh.take i) 0 n) (aq p3) (aq p4) (ap) d2 hF2.ho hF.hl hcn hgn hSX2 ltX2 hF2.lt (hgn.off hF2.ho) (hgn.off d2) (by have:=aG6 n (g.bh.take i) 0;omega) ?_;intro F' X3 a' q1 q3 q4 hx3 ho3 hg3 hb3 hr3;have hF3:=hF2.push hcn hx3 ho3 hg3 hb3 hr3;refine aJ (dz q4 p4 w1 ?_);refine⟨k - 1,ar,rfl,⟨Al hSX2.1 hx3,fun c hc=>?_⟩,?_,Ae gX2 hx3,ngo,i+1,cs.set n a',ar,?_,by refine⟨?_,?_,?_⟩<;>simp only[↓aF,aG,rE,↓reduceIte,rA,q1,p1,q3,p3]⟩
    ·have h1:=hSX2.1;rw[hr3 c ar ar  (fun e=>by have:=(hgn.blk e).1;omega)];exact hSX2.2 c hc
    ·rw[hr3 _ gX2 ngo (hgn.off cX2)];exact cX2
    ·have e:(fun j=>if j=n then lS (g.bh.take i) 0 n++ [(i:Int)] else lS (g.bh.take i) 0 j)=lS (g.bh.take (i+1)) 0:=by
      funext j;rw[htk,aBv,hti,An];by_cases hj:j=n
      ·rw[if_pos hj,if_pos ⟨hk2,by rw[hn',hj]⟩,hj]
      ·rw[if_neg hj,if_neg (fun h=>hj (au h.2))]
     rw[<-e];exact hF3
   ·refine aM (by simp only[↓aF,aG,rE,↓reduceIte,rA,Aa hk2]) (aI ?_);try refine am ?_
    refine aJ (dy p4 w1 ?_);refine⟨k - 1,ar,rfl,hSX2,cX2,gX2,ngo,i+1,cs,ar,?_,by refine⟨?_,?_,?_⟩<;>simp only[↓aF,aG,rE,↓reduceIte,rA,p1,p3]⟩;have e:lS (g.bh.take i) 0=lS (g.bh.take (i+1)) 0:=by
     funext j;rw[htk,aBv,if_neg (fun h=>hk2 h.1)]
    rw[<-e];exact hF2
  ·refine aM (by simp only[↓aF,aG,rE,↓reduceIte,rA,Aa (show ¬ (i:Int)<(g.bh.length:Int) by omega)]) (bJ ?_);refine am ?_;have hk0:k=0:=by omega
   subst hk0;exact⟨rfl,hX,cX,gX,ngo,i,cs,hik,hF,by refine⟨?_,?_,?_⟩<;>simp only[↓aF,aG,rE,↓reduceIte,rA,p1,p3,p4]⟩
 rintro o ⟨F,inr⟩ X ⟨rfl,q0,hX,cX,gX,ngo,i,cs,hik,hF,p1,p3,p4⟩;simp only at q0 p3;subst q0;rw[Bb ar] at hF;try refine am ?_
 refine bO (dx p3 ?_);refine aP (am ?_);exact⟨hX,hF.is⟩
theorem uK{x y z:AV}(h1:cE x x=true)(h2:cE y y=true)(h3:cE z z=true):cE (.agg [x,y,z]) (.agg [x,y,z])=true:=by
 simp [cE,jR,h1,h2,h3]
theorem uU(i:Nat):∀ (l:List dP) (s:Nat),(lS l s i= []/\mT l s i=0)\/∃a L,lS l s i=((a:Nat):Int)::L/\mT l s i=a+1
 | [],_=>.inl ⟨rfl,rfl⟩
 | x::l,s=>by
  simp only[lS,mT];split
  ·exact .inr ⟨s,_,rfl,rfl⟩
  ·exact uU i l (s+1)
noncomputable def aOJ:List AO:=[oq 54 (.ld true 3 (.t 1)),
oc 55 103 [(.t 54),(.c (.int .i64 0)),(.c (.int .i64 0)),(.t 5)] 1,
oq 56 (.cw 1 (.t 1)),
om 57 4 (ld 56),
om 58 12 (.ct (.t 57)),
om 59 31 (bi .neq (.t 55) (.t 58))]
theorem aL7{F:Fr}{S0 S:St}{inr:Bool}{gb db:Nat}{nv iv:AV}{g:aS}{Q:Out->bG->St->Prop}(H:Has fns)(p1:aD 1 F= .ptr gb 0)(p5:aD 5 F= .ptr db 0)(hn:aE 6 bX S0 nv g.bh)(hi:aE 2 bP S0 iv g.bj)(hS:Same S0 S)(hg:S.h.get gb=some (.cells [.int .i64 g.bo,nv,iv] false 0))(lg:gb<S.nx)(hd:S.h.get db=some (.cells [.int .i64 0] false 0))(ldd:db<S.nx)(ld0:S0.nx<=db)(ne:gb≠db)(hN:g.bh.length<=2000)(hlen:∀x∈g.bh,x.next.length<=1000)
  (hQ:∀F' S' v,aI4 S db 0 0 (iN g) (.int .i64 v) S'->aD 1 F'=aD 1 F->aD 5 F'=aD 5 F->aD 59 F'= .bool (decide (v≠(g.bh.length:Int)))->Q .normal ⟨F',inr⟩ S'):iM fns (.drw aOJ) ⟨F,inr⟩ S Q:=by
 refine tI ?_;unfold aOJ;have hl0:=eJ hg;have hl1:=fR hg;simp only[lM,eC,mP,fE,bS,rE,↓reduceIte,p1,p5,hl0,qT,aR];refine xQ rfl ?_;refine dn p5 @bF ?_;refine aW (aI0 H ⟨nv,iv,rfl,hn,hi⟩ ld0 hN (g.bh.length+1) (at_:=0) (p:= -1) (d:=0) (deep:=0) ar ay ay ar hlen (hS.trans (Same.nx S 6)) (by show db<S.nx+6;omega) hd) ?_;rintro r S1 hr;have hr:aI4 ⟨S.h,S.nx+6⟩ db 0 0 (iN g) r S1:=hr;obtain⟨v,rfl⟩:∃v,r= .int .i64 v:=by
  cases hw:iN g with
  | none=>rw[hw] at hr;exact⟨_,hr.2.1⟩
  | some T=>rw[hw] at hr;exact⟨_,hr.2.1⟩
 have sb:bT db S S1:=⟨by have:S.nx+6<=S1.nx:=hr.1.1;omega,fun c hc hne=>hr.1.2 c (by show c<S.nx+6;omega) hne⟩;have hg1:S1.h.get gb=some (.cells [.int .i64 g.bo,nv,iv] false 0):=by rw[sb.2 _ lg ne];exact hg
 have hl1':=fR hg1;have hld:∀ (F:Fr),gM (.ld true 3 (.t 1)) F S.h=dT (aD 1 F) true 3 S.h:=fun F=>by rw[mP,fE]
 simp only[↓sU,sD,rE,↓reduceIte,rA,lM,eC,p1,aC,aQ,aB,mP,qT,hl1',yL,hn.len,gC,aCS,vZ,aR,bB];rw[gG];refine⟨?_,?_⟩
 ·have sn:=aE.self hn;have si:=aE.self hi;have sg:=uK (dH .i64 g.bo) sn si;have e1:∀G:Fr,aD 56 G= .ptr gb 1->eI ⟨.ld false 1 (.t 56),G,nv,3,4⟩ [(1,1,S1.h)] S.h=true:=fun G h=>by
   have e:gM (ld 56) G S.h=some nv:=by rw[mP,fE,h];exact hl1
   have e':gM (ld 56) G S1.h=some nv:=by rw[mP,fE,h];exact hl1'
   unfold eI;simp only[show Nat.testBit 4 1=false by decide,show Nat.testBit 1 3=false by decide,bB,aR,e,jO,sn];unfold eI;simp only[e',jO,sn]
  have e2:eI ⟨.ld true 3 (.t 1),F,.agg [.int .i64 g.bo,nv,iv],0,0⟩ [(1,1,S1.h)] S.h=true:=by
   have e:gM (.ld true 3 (.t 1)) F S.h=some (.agg [.int .i64 g.bo,nv,iv]):=by rw[mP,fE,p1];exact hl0
   unfold eI;simp only[show Nat.testBit 0 1=false by decide,show Nat.testBit 1 0=true by decide,bB,aR,e,jO,sg]
  simp only[Bz,List.reverse_nil,Cg,nT,xF];rw[e1 _ (by simp only[bS,rE,↓reduceIte]),e2];rfl
 ·refine hQ _ _ v ?_ (af) (af) (af);simp only[bF];exact⟨sb,hr.2⟩
def aOU(S S1:St)(gb:Nat)(g:aS)(k:Nat)(A:bG)(X:St):Prop:=A.inr=false/\Same S1 X/\∃i,i+k=g.bh.length/\lA g.bo g.bj.length g.bh=lA g.bo g.bj.length (g.bh.drop i)/\aD 1 A.F= .ptr gb 0/\aD 3 A.F= .int .i64 (i:Int)
def aOS(S1:St)(gb:Nat)(g:aS)(k:Nat)(A:bG)(X:St):Prop:=A.inr=false/\Same S1 X/\∃i,i+k=g.bh.length/\(∀x∈g.bh.take i,¬mis g x)/\aD 1 A.F= .ptr gb 0/\aD 6 A.F= .int .i64 (i:Int)
def aOY(S1:St)(sv:AV)(g:aS)(k:Nat)(A:bG)(X:St):Prop:=A.inr=false/\Same S1 X/\∃i,i+k=g.bj.length/\(∀j,j<i->lS g.bh 0 j≠ [])/\aD 8 A.F=sv/\aD 9 A.F= .int .i64 (i:Int)
def aOX(S1:St)(sv:AV)(g:aS)(k:Nat)(A:bG)(X:St):Prop:=A.inr=false/\Same S1 X/\∃i,i+k=g.bj.length+1/\1<=i/\aQg (gN g) 0 (min i g.bj.length)/\aD 8 A.F=sv/\aD 10 A.F= .int .i64 (i:Int)
theorem aCj{g:aS}{j:Nat}(hj:j<g.bj.length):(gN g).getD j 0=((mT g.bh 0 j:Nat):Int):=by
 unfold gN;rw[Ad,Am,Bf hj];rfl
theorem aBx{g:aS}{j:Nat}(hj:j<g.bj.length):(aHB g)[j]? =some (lS g.bh 0 j):=by
 unfold aHB;rw[Am,Bf hj];rfl
theorem aKF(g:aS):(aHB g).length=g.bj.length:=by simp [aHB]
theorem aCA{g:aS}:(0:Int)∈gN g↔∃j,j<g.bj.length/\lS g.bh 0 j= []:=by
 unfold gN;rw[Dg];constructor
 ·rintro⟨j,hj,h0⟩;rw[Da] at hj;rcases uU j g.bh 0 with h | ⟨a,L,h1,h2⟩
  ·exact⟨j,hj,h.1⟩
  ·rw[h2] at h0;omega
 ·rintro⟨j,hj,h0⟩;refine⟨j,Da.2 hj,?_⟩;rcases uU j g.bh 0 with h | ⟨a,L,h1,h2⟩
  ·rw[h.2];rfl
  ·rw[h0] at h1;cases h1
theorem aEe{S:St}{nv iv:AV}{g:aS}(H:Has fns)(hn:aE 6 bX S nv g.bh)(hi:aE 2 bP S iv g.bj)(hln:g.bh.length<=100000):
  fZ fns (.fn 53 [] []) [.agg [.int .i64 g.bo,nv,iv]] S fun r S'=>r= .int .i64 (cT g)/\Same S S':=by
 refine cF H.f53 (by simp) ?_;refine ae ?_;refine bO ?_;refine cI (by refine ae ?_;exact aY _) ?_;intro S1 s1 n1 c1;refine ae ?_;have hnl:=hn.len;have hil:=hi.len;have hn1:=aE.same (E:=bX) bL hn s1;have hi1:=aE.same (E:=bP) bK hi s1;have sn:=aE.self hn;have si:=aE.self hi;have sg:=uK (dH .i64 g.bo) sn si;have lg1:S.nx<S1.nx:=by omega
 refine aA (aA (aX (Q:=fun o A' X=>o= .normal/\A'.inr=false/\X=S1/\aD 1 A'.F= .ptr S.nx 0/\aD 36 A'.F= .bool (decide (mN g))) (aJ ?_) ?_))
 ·by_cases h1:g.bo<1
  ·rw[Ac (show mN g from .inl h1)];simp only[↓sU,sD,rE,↓reduceIte,rA,aC,aB,sR c1,fR c1,fH c1,hnl,hil,Ac h1]
  by_cases h2:(4:Int)<g.bo
  ·rw[Ac (show mN g from .inr (.inl h2))];simp only[↓sU,sD,rE,↓reduceIte,rA,aC,aB,sR c1,fR c1,fH c1,hnl,hil,Aa h1,Ac h2]
  by_cases h3:(g.bh.length:Int)<1
  ·rw[Ac (show mN g from .inr (.inr (.inl h3)))];simp only[↓sU,sD,rE,↓reduceIte,rA,aC,aB,sR c1,fR c1,fH c1,hnl,hil,Aa h1,Aa h2,Ac h3]
  by_cases h4:(2000:Int)<(g.bh.length:Int)
  ·rw[Ac (show mN g from .inr (.inr (.inr (.inl h4))))];simp only[↓sU,sD,rE,↓reduceIte,rA,aC,aB,sR c1,fR c1,fH c1,hnl,hil,Aa h1,Aa h2,Aa h3,Ac h4]
  by_cases h5:(200:Int)<(g.bj.length:Int)
  ·rw[Ac (show mN g from .inr (.inr (.inr (.inr h5))))];simp only[↓sU,sD,rE,↓reduceIte,rA,aC,aB,sR c1,fR c1,fH c1,hnl,hil,Aa h1,Aa h2,Aa h3,Aa h4,Ac h5]
  ·rw[Aa (show ¬mN g by unfold mN;omega)];simp only[↓sU,sD,rE,↓reduceIte,rA,aC,aB,sR c1,fR c1,fH c1,hnl,hil,Aa h1,Aa h2,Aa h3,Aa h4,Aa h5]
 rintro o ⟨F,inr⟩ X ⟨rfl,q0,hX,p1,pb⟩;simp only at q0 p1 pb;subst q0;rw[hX];clear hX;try refine ae ?_
 by_cases bad:mN g
 ·have hE:cT g=2:=by unfold cT;rw[if_pos bad]
  rw[hE];refine aN (by simp only[↓sU,sD,rE,↓reduceIte,rA,pb,Ac bad]) ?_;refine bO (ae ?_);refine aP (ae ?_);exact s1
 refine aM (by simp only[↓sU,sD,rE,↓reduceIte,rA,pb,Aa bad]) (aI ?_);try refine ae ?_
 have hps:1<=g.bo/\g.bo<=4:=by unfold mN at bad;omega
 have hN:g.bh.length<=2000:=by unfold mN at bad;omega
 have hN0:0<g.bh.length:=by unfold mN at bad;omega
 have hI:g.bj.length<=200:=by unfold mN at bad;omega
 refine aA (aX (Q:=fun o A' X=>(o= .normal/\aOU S S1 S.nx g 0 A' X)\/(o= .ret/\Same S1 X/\lA g.bo g.bj.length g.bh≠0/\aD 2 A'.F= .int .i64 (lA g.bo g.bj.length g.bh))) (aA (aJ ?_)) ?_)
 ·refine ae ?_;refine aK (bH (aOU S S1 S.nx g) ?_ g.bh.length _ _ ⟨rfl,dk _,0,ar,by rw[Dx],by refine⟨?_,?_⟩<;>simp only[↓sU,sD,rE,↓reduceIte,rA,p1]⟩);clear p1 pb;rintro k ⟨F,inr⟩ X ⟨q0,hX,i,hik,hE,p1,p3⟩;simp only at q0 p1 p3;subst q0;have cX:X.h.get S.nx=some (.cells [.int .i64 g.bo,nv,iv] false 0):=by rw[hX.2 _ lg1];exact c1
  have lgX:S.nx<X.nx:=Ae lg1 hX.1;refine fC (dt p1 p3 @aC @aB (fR cX) hnl ?_);by_cases hlt:i<g.bh.length
  ·refine aN (by simp only[↓sU,sD,rE,↓reduceIte,rA,Ac (show(i:Int)<(g.bh.length:Int) by omega)]) (aI ?_);try refine ae ?_
   obtain⟨x,hx⟩:∃x,g.bh[i]? =some x:=⟨_,Ab hlt⟩;have hnX:=aE.same (E:=bX) bL hn1 hX;have⟨e,b,q,hia,hb,he,hNE,hag,_⟩:=aE.at hnX ay hx;have hdrop:g.bh.drop i=x::g.bh.drop (i+1):=by
    rw[Bw hlt];congr 1;rw[Ab hlt] at hx;exact Bp hx
   have w1:=dh i
   have se:cE (.agg e) (.agg e)=true:=by
    obtain⟨a,bb,cc,rfl,ha,hbb,hcc⟩:=hNE;exact aBw (dH ..) (dH ..) (dH ..) (bI.self ha) (bI.self hbb) (bI.self hcc)
   refine aA (aK (aA (gS (fun _=>False) ?_)));intro X1 x1;simp only[↓sU,sD,rE,↓reduceIte,rA,p1,p3,aC,aQ,aB,eJ cX,fR cX,sg,sn,lgX,hb,se,Ak,aH,hia,hag];refine cU rfl ?_;refine ae ?_;refine aW (aIB H (bL hNE x1) hps.2 hil) ?_;rintro _ Y ⟨rfl,hY⟩;refine⟨hY,?_⟩;have hSY:=(hX.trans x1).trans hY;rw[hdrop] at hE;simp only[lA] at hE;try refine ae ?_
   refine bO (ae ?_);by_cases he0:iG g.bo g.bj.length x=0
   ·rw[if_neg (fun h=>h he0)] at hE;refine aM (by simp only[↓sU,sD,rE,↓reduceIte,rA,Aa (show ¬iG g.bo g.bj.length x≠0 from fun h=>h he0)]) (aI ?_);try refine ae ?_
    refine aJ (dn p3 w1 ?_);exact⟨k - 1,ar,rfl,hSY,i+1,ar,hE,by refine⟨?_,?_⟩<;>simp only[↓sU,sD,rE,↓reduceIte,rA,p1]⟩
   ·rw[if_pos he0] at hE;refine aN (by simp only[↓sU,sD,rE,↓reduceIte,rA,Ac (show iG g.bo g.bj.length x≠0 from he0)]) ?_;refine bO (ae ?_);refine aP (ae ?_);exact .inr ⟨hSY,by rw[hE];exact he0,by rw[hE]⟩
  ·refine aM (by simp only[↓sU,sD,rE,↓reduceIte,rA,Aa (show ¬ (i:Int)<(g.bh.length:Int) by omega)]) (bJ ?_);refine ae ?_;have hk0:k=0:=by omega
   subst hk0;exact .inl ⟨rfl,hX,i,hik,hE,by refine⟨?_,?_⟩<;>simp only[↓sU,sD,rE,↓reduceIte,rA,p1,p3]⟩
 clear p1 pb;rintro o ⟨F,inr⟩ X (⟨rfl,q0,hX,i,hik,hE,p1,p3⟩ | ⟨rfl,hX,hne,p2⟩);rotate_left
 ·simp only at p2;refine dm p2 ?_;have hE:cT g=lA g.bo g.bj.length g.bh:=by unfold cT;rw[if_neg bad,if_pos hne]
  rw[hE];exact⟨rfl,s1.trans hX⟩
 simp only at q0 p1;subst q0;rw[Cn ar] at hE;have hall:=iE hE;have hok:aGl g:=fun x hx h2=>aBB (hall x hx) h2;have hform:cT g=match iN g with | none=>9 | some T=>if T.length≠g.bh.length then 9 else if 40<yX 0 T then 5 else aAY g:=by
  conv=>lhs;unfold cT
  rw[if_neg bad,if_neg (fun h=>h hE)]
  first | done | (cases iN g<;>rfl)
 have sX:=s1.trans hX;have cX:X.h.get S.nx=some (.cells [.int .i64 g.bo,nv,iv] false 0):=by rw[hX.2 _ lg1];exact c1
 have lgX:S.nx<X.nx:=Ae lg1 hX.1;try refine ae ?_
 refine bO ?_;refine cA ?_;intro X1 x1 m1 d1;refine cQ (b:=X.nx) (af) (by simp only[↓sU,sD,rE,↓reduceIte,rA];rfl) d1 rfl rfl ?_;intro X2 x2 m2 d2;refine ae ?_;have hX2:Same X X2:=x2.same x1 (Ag _);have cX2:X2.h.get S.nx=some (.cells [.int .i64 g.bo,nv,iv] false 0):=by rw[hX2.2 _ lgX];exact cX
 have lX2:X.nx<X2.nx:=by omega
 refine aA (aA (aL7 (S0:=S) (gb:=S.nx) (db:=X.nx) (g:=g) H (ah p1) (af) hn hi (sX.trans hX2) cX2 ar d2 lX2 (au sX.1) ar hN (fun x hx=>aBE (hall x hx)) ?_));intro F' S3 v hr q1 q5 q59;simp only[↓sU,sD,rE,↓reduceIte,rA,p1] at q1 q5;have sX2:=sX.trans hX2;have hdb:=sX.1;have s3:Same S S3:=⟨Al sX2.1 hr.1.1,fun c hc=>(hr.1.2 c (Ae hc sX2.1) ar).trans (sX2.2 c hc)⟩;have c3:S3.h.get S.nx=some (.cells [.int .i64 g.bo,nv,iv] false 0):=by rw[hr.1.2 _ ar ar];exact cX2
 have l3:S.nx<S3.nx:=by have:=hr.1.1;omega
 cases hw:iN g with
 | none=>
  rw[hw] at hr hform;have⟨_,hv,_⟩:=hr;have hv:v= -1:=by cases hv;rfl
  simp only at hform;rw[hform];refine aN (by simp only[↓sU,sD,rE,↓reduceIte,rA,q59,Ac (show v≠(g.bh.length:Int) by omega)]) ?_;refine bO (ae ?_);refine aP (ae ?_);exact s3
 | some T=>
  rw[hw] at hr hform;have⟨_,hv,hdeep⟩:=hr;have hv:v=((0+T.length:Nat):Int):=by cases hv;rfl
  simp only at hform;by_cases hT:T.length=g.bh.length;rotate_left
  ·rw[hform,if_pos hT];refine aN (by simp only[↓sU,sD,rE,↓reduceIte,rA,q59,Ac (show v≠(g.bh.length:Int) by omega)]) ?_;refine bO (ae ?_);refine aP (ae ?_);exact s3
  rw[if_neg (fun h=>h hT)] at hform;refine aM (by simp only[↓sU,sD,rE,↓reduceIte,rA,q59,Aa (show ¬v≠(g.bh.length:Int) by omega)]) (aI ?_);try refine ae ?_
  have ldeep:=dI (p:=0) hdeep rfl;refine fC (dn q5 ldeep ?_);by_cases h40:40<yX 0 T
  ·rw[hform,if_pos h40];refine aN (by simp only[↓sU,sD,rE,↓reduceIte,rA,Ac h40]) ?_;refine bO (ae ?_);refine aP (ae ?_);exact s3
  rw[if_neg h40] at hform;refine aM (by simp only[↓sU,sD,rE,↓reduceIte,rA,Aa h40]) (aI ?_);try refine ae ?_
  rw[hform];clear hform hE hall q5 q59 hdeep ldeep;have hn3:=aE.same (E:=bX) bL hn s3;have hi3:=aE.same (E:=bP) bK hi s3;refine aA (aX (Q:=fun o A' Y=>(o= .normal/\aOS S3 S.nx g 0 A' Y)\/(o= .ret/\Same S3 Y/\(∃x∈g.bh,mis g x)/\aD 2 A'.F= .int .i64 10)) (aA (aJ ?_)) ?_)
  ·refine am ?_;refine aK (bH (aOS S3 S.nx g) ?_ g.bh.length _ _ ⟨rfl,dk _,0,ar,fun x hx=>(by simp at hx),by refine⟨?_,?_⟩<;>simp only[↓aF,aG,rE,↓reduceIte,rA,q1]⟩);clear q1;rintro k ⟨F,inr⟩ X ⟨q0,hX,i,hik,hm,p1,p6⟩;simp only at q0 p1 p6;subst q0;have cX:X.h.get S.nx=some (.cells [.int .i64 g.bo,nv,iv] false 0):=by rw[hX.2 _ l3];exact c3
   have lgX:S.nx<X.nx:=Ae l3 hX.1;refine fC (ej p1 p6 @aC @aB (fR cX) hnl ?_);by_cases hlt:i<g.bh.length
   ·refine aN (by simp only[↓aF,aG,rE,↓reduceIte,rA,Ac (show(i:Int)<(g.bh.length:Int) by omega)]) (aI ?_);try refine am ?_
    obtain⟨x,hx⟩:∃x,g.bh[i]? =some x:=⟨_,Ab hlt⟩;have hxm:=Ar hx;obtain⟨e,b,q,hia,hb,he,⟨a,bb,cc,rfl,ha,hbb,hcc⟩,hag,_⟩:=aE.at (aE.same (E:=bX) bL hn3 hX) ay hx;have w1:=dh i
    refine aA (aK (aA (aJ ?_)));refine ew p1 p6 @aC @aB (fR cX) @aH hia hag ?_;refine cA ?_;intro X1 x1 m1 d1;refine cQ (b:=X.nx) (ap) (by refine am ?_;exact aY _) d1 rfl rfl ?_;intro X2 x2 m2 d2;refine am ?_;have hX2:Same X X2:=x2.same x1 (Ag _);have hS2X:=hX.trans hX2;have cX2:X2.h.get S.nx=some (.cells [.int .i64 g.bo,nv,iv] false 0):=by rw[hX2.2 _ lgX];exact cX
    have hla:=(ha.same hX2).len;have hsa:=bI.self ha;refine aA (aX (Q:=fun o A' Y=>o= .normal/\A'.inr=false/\Same X2 Y/\aD 1 A'.F= .ptr S.nx 0/\aD 6 A'.F= .int .i64 (i:Int)/\aD 101 A'.F= .bool (decide (mis g x))) (gD ?_) ?_)
    ·by_cases hk2:x.kind=2
     ·have⟨i0,i1⟩:=hok x hxm hk2;obtain⟨n,hn'⟩:∃n:Nat,x.info=(n:Int):=⟨x.info.toNat,ar⟩;have hni:n<g.bj.length:=by omega
      obtain⟨y,hy⟩:∃y,g.bj[n]? =some y:=⟨_,Ab hni⟩;obtain⟨e',b',q',hia',hb',he',rfl,hag',hlf'⟩:=aE.at (aE.same (E:=bP) bK hi3 hS2X) ay hy;have hp0:=hlf' 0 _ rfl;have hp1:=hlf' 1 _ rfl;have hya:cd g x.info=y:=by unfold cd;rw[hn',Ad,show((n:Int)).toNat=n from rfl,hy];rfl
      have hmis:mis g x↔¬ (y.player=x.player/\y.bt=(x.next.length:Int)):=by
       unfold mis;rw[hya];exact⟨fun h=>h.2,fun h=>⟨hk2,h⟩⟩
      rw[hn'] at d2;by_cases hpl:y.player=x.player
      ·have hd1:decide (y.player≠x.player)=false:=Aa (fun h=>h hpl);have hd2:decide (mis g x)=decide (y.bt≠(x.next.length:Int)):=by
        rw[Cl,Cf,Cf,hmis];exact⟨fun h e=>h ⟨hpl,e⟩,fun h e=>h e.2⟩
       rw[hd2];simp only[↓aF,aG,rE,↓reduceIte,rA,p1,p6,aC,aQ,aB,eK d2,dK d2,cV d2,dC d2,fH cX2,aH,hia',hp0,hp1,hla,hsa,si,Ac hk2,hd1];exact Same.nx _ _
      ·have hd1:decide (y.player≠x.player)=true:=Ac hpl;have hd2:decide (mis g x)=true:=Ac (hmis.2 fun h=>hpl h.1);rw[hd2];simp only[↓aF,aG,rE,↓reduceIte,rA,p1,p6,aC,aQ,aB,eK d2,dK d2,cV d2,dC d2,fH cX2,aH,hia',hp0,hp1,hla,hsa,si,Ac hk2,hd1];exact Same.nx _ _
     ·rw[Aa (show ¬mis g x from fun h=>hk2 h.1)];refine eu p1 p6 @aC @aQ @aB (eK d2) (Aa hk2) ?_;exact Same.nx _ _
    clear p1 p6;rintro o ⟨F,inr⟩ Y ⟨rfl,q0,hY,p1,p6,pb⟩;simp only at q0 p1 p6 pb;subst q0;have hS2Y:=hS2X.trans hY;try refine am ?_
    by_cases hmx:mis g x
    ·refine aN (by simp only[↓aF,aG,rE,↓reduceIte,rA,pb,Ac hmx]) ?_;refine bO (am ?_);refine aP (am ?_);exact .inr ⟨hS2Y,x,hxm,hmx⟩
    ·refine aM (by simp only[↓aF,aG,rE,↓reduceIte,rA,pb,Aa hmx]) (aI ?_);try refine am ?_
     refine aJ (dy p6 w1 ?_);refine⟨k - 1,ar,rfl,hS2Y,i+1,ar,fun y hy=>?_,by refine⟨?_,?_⟩<;>simp only[↓aF,aG,rE,↓reduceIte,rA,p1]⟩;rw[Bn,hx] at hy;rcases Cb.1 hy with h | h
     ·exact hm y h
     ·simp at h;rw[h];exact hmx
   ·refine aM (by simp only[↓aF,aG,rE,↓reduceIte,rA,Aa (show ¬ (i:Int)<(g.bh.length:Int) by omega)]) (bJ ?_);refine am ?_;have hk0:k=0:=by omega
    subst hk0;exact .inl ⟨rfl,hX,i,hik,hm,by refine⟨?_,?_⟩<;>simp only[↓aF,aG,rE,↓reduceIte,rA,p1,p6]⟩
  clear q1;rintro o ⟨F,inr⟩ Y (⟨rfl,q0,hY,i,hik,hm,p1,p6⟩ | ⟨rfl,hY,hmx,p2⟩);rotate_left
  ·simp only at p2;simp only[↓aF,aG,rE,↓reduceIte,rA,p2];unfold aAY;rw[if_pos hmx];exact⟨rfl,s3.trans hY⟩
  simp only at q0 p1;subst q0;rw[Bb ar] at hm;unfold aAY;rw[if_neg (fun⟨x,h1,h2⟩=>hm x h1 h2)];clear p6 hik hm i;have sY:=s3.trans hY;have cY:Y.h.get S.nx=some (.cells [.int .i64 g.bo,nv,iv] false 0):=by rw[hY.2 _ l3];exact c3
  try refine am ?_
  refine bO (dy p1 (eJ cY) ?_);refine bD (am ?_);refine aW (aG4 H (aE.same (E:=bX) bL hn sY) (aE.same (E:=bP) bK hi sY) hln ar hok) ?_;rintro sv Z ⟨hZ,hsv⟩;try refine am ?_
  have sZ:=sY.trans hZ;have hsl:=hsv.len;rw[aKF] at hsl;refine aA (aX (Q:=fun o A' X=>(o= .normal/\aOY Z sv g 0 A' X)\/(o= .ret/\Same Z X/\(0:Int)∈gN g/\aD 2 A'.F= .int .i64 18)) (aA (aJ ?_)) ?_)
  ·refine am ?_;refine aK (bH (aOY Z sv g) ?_ g.bj.length _ _ ⟨rfl,dk _,0,ar,fun j hj=>ar,by refine⟨?_,?_⟩<;>simp only[↓aF,aG,rE,↓reduceIte,rA]⟩);rintro k ⟨F,inr⟩ X ⟨q0,hX,i,hik,hm,p8,p9⟩;simp only at q0 p8 p9;subst q0;refine fC (dz p8 p9 hsl ?_);by_cases hlt:i<g.bj.length
   ·refine aN (by simp only[↓aF,aG,rE,↓reduceIte,rA,Ac (show(i:Int)<(g.bj.length:Int) by omega)]) (aI ?_);try refine am ?_
    obtain⟨e,b,q,hia,hb,he,⟨a,rfl,ha⟩,_,hlf⟩:=aE.at (aE.same (E:=iD) cm hsv hX) ay (aBx hlt);have hl0:=hlf 0 a rfl;rw[Br] at hl0;have hal:=ha.len;have w1:=dh i
    refine aA (aK (aA (aJ ?_)));refine ej p8 p9 @aH hia hl0 hal ?_;by_cases h0:lS g.bh 0 i= []
    ·refine aN (by simp only[↓aF,aG,rE,↓reduceIte,rA,Ac (show(((lS g.bh 0 i).length:Nat):Int)=0 by rw[h0];rfl)]) ?_;refine bO (am ?_);refine aP (am ?_);exact .inr ⟨hX,aCA.2 ⟨i,hlt,h0⟩⟩
    ·have hpos:=List.length_pos_iff.2 h0;refine aM (by simp only[↓aF,aG,rE,↓reduceIte,rA,Aa (show ¬ (((lS g.bh 0 i).length:Nat):Int)=0 by omega)]) (aI ?_);try refine am ?_
     refine aJ (dy p9 w1 ?_);refine⟨k - 1,ar,rfl,hX,i+1,ar,fun j hj=>?_,by refine⟨?_,?_⟩<;>simp only[↓aF,aG,rE,↓reduceIte,rA,p8]⟩;by_cases hji:j=i
     ·rw[hji];exact h0
     ·exact hm j ar
   ·refine aM (by simp only[↓aF,aG,rE,↓reduceIte,rA,Aa (show ¬ (i:Int)<(g.bj.length:Int) by omega)]) (bJ ?_);refine am ?_;have hk0:k=0:=by omega
    subst hk0;exact .inl ⟨rfl,hX,i,hik,hm,by refine⟨?_,?_⟩<;>simp only[↓aF,aG,rE,↓reduceIte,rA,p8,p9]⟩
  rintro o ⟨F,inr⟩ X (⟨rfl,q0,hX,i,hik,hm,p8,p9⟩ | ⟨rfl,hX,h0,p2⟩);rotate_left
  ·simp only at p2;refine dx p2 ?_;rw[if_pos h0];exact⟨rfl,sZ.trans hX⟩
  simp only at q0 p8;subst q0;have hne:∀j,j<g.bj.length->lS g.bh 0 j≠ []:=fun j hj=>hm j ar;rw[if_neg (fun h=>by have⟨j,hj,h0⟩:=aCA.1 h;exact hne j hj h0)];clear p9 hik hm i;try refine am ?_
  refine aA (aX (Q:=fun o A' Y=>(o= .normal/\∃k,aOX X sv g k A' Y/\k<=1)\/(o= .ret/\Same X Y/\¬aDs (gN g)/\aD 2 A'.F= .int .i64 9)) (aA (aJ ?_)) ?_)
  ·refine am ?_;refine aK (bH (aOX X sv g) ?_ g.bj.length _ _ ⟨rfl,dk _,1,ar,ar,fun j j0 j1=>ar,by refine⟨?_,?_⟩<;>simp only[↓aF,aG,rE,↓reduceIte,rA,p8]⟩);clear p8;rintro k ⟨F,inr⟩ Y ⟨q0,hY,i,hik,hi1,hm,p8,p10⟩;simp only at q0 p8 p10;subst q0;refine fC (dz p8 p10 hsl ?_);by_cases hlt:i<g.bj.length
   ·refine aN (by simp only[↓aF,aG,rE,↓reduceIte,rA,Ac (show(i:Int)<(g.bj.length:Int) by omega)]) (aI ?_);try refine am ?_
    have hsY:=aE.same (E:=iD) cm hsv (hX.trans hY);obtain⟨e,b,q,hia,hb,he,⟨a,rfl,ha⟩,_,hlf⟩:=aE.at hsY ay (aBx hlt);obtain⟨e',b',q',hia',hb',he',⟨a',rfl,ha'⟩,_,hlf'⟩:=aE.at hsY ay (aBx (show i - 1<g.bj.length by omega));have hl0:=hlf 0 a rfl;have hl0':=hlf' 0 a' rfl;rw[Br] at hl0 hl0';have hp:=List.length_pos_iff.2 (hne i hlt);have hp':=List.length_pos_iff.2 (hne (i - 1) ar);have ia:=ha.cp hp;have la:=ha.ld hp;have ia':=ha'.cp hp';have la':=ha'.ld hp';have sa:=bI.self ha;have sa':=bI.self ha';have hlt2:(lS g.bh 0 i).getD 0 0<(lS g.bh 0 (i - 1)).getD 0 0↔(gN g).getD i 0<(gN g).getD (i - 1) 0:=by
     rw[aCj hlt,aCj (show i - 1<g.bj.length by omega)];rcases uU i g.bh 0 with h | ⟨x,L,h1,h2⟩
     ·exact absurd h.1 (hne i hlt)
     ·rcases uU (i - 1) g.bh 0 with h | ⟨x',L',h1',h2'⟩
      ·exact absurd h.1 (hne (i - 1) ar)
      ·rw[h1,h1',h2,h2'];show(x:Int)<(x':Int)↔_;omega
    have w1:=dh i
    have w2:IntKind.i64.wrap ((i:Int) - 1)=((i - 1:Nat):Int):=by rw[wrap_i64 ar ar];omega
    refine aA (aK (aA (gD ?_)));simp only[↓aF,aG,rE,↓reduceIte,rA,p8,p10,aH,aKt,hia,hia',hl0,hl0',ia,la,ia',la',sa,sa',w2];by_cases hbad:(lS g.bh 0 i).getD 0 0<(lS g.bh 0 (i - 1)).getD 0 0
    ·refine aN (by simp only[↓aF,aG,rE,↓reduceIte,rA,Ac hbad]) ?_;refine bO (am ?_);refine aP (am ?_);refine .inr ⟨hY.trans (Same.nx _ _),fun h=>?_⟩;exact h i ar (by simp [gN];omega) (hlt2.1 hbad)
    ·refine aM (by simp only[↓aF,aG,rE,↓reduceIte,rA,Aa hbad]) (aI ?_);try refine am ?_
     refine aJ (dy p10 w1 ?_);refine⟨k - 1,ar,rfl,hY.trans (Same.nx _ _),i+1,ar,ar,fun j j0 j1=>?_,by refine⟨?_,?_⟩<;>simp only[↓aF,aG,rE,↓reduceIte,rA,p8]⟩;by_cases hji:j=i
     ·rw[hji];exact fun h=>hbad (hlt2.2 h)
     ·exact hm j j0 ar
   ·refine aM (by simp only[↓aF,aG,rE,↓reduceIte,rA,Aa (show ¬ (i:Int)<(g.bj.length:Int) by omega)]) (bJ ?_);refine am ?_;exact .inl ⟨k,⟨rfl,hY,i,hik,hi1,hm,by refine⟨?_,?_⟩<;>simp only[↓aF,aG,rE,↓reduceIte,rA,p8,p10]⟩,ar⟩
  clear p8;rintro o ⟨F,inr⟩ Y (⟨rfl,k,⟨q0,hY,i,hik,hi1,hm,p8,p10⟩,hk⟩ | ⟨rfl,hY,hno,p2⟩);rotate_left
  ·simp only at p2;refine dx p2 ?_;rw[if_neg hno];exact⟨rfl,(sZ.trans hX).trans hY⟩
  simp only at q0;subst q0;have hris:aDs (gN g):=by
   unfold aDs;rw[show(gN g).length=g.bj.length by simp [gN]];rw[show min i g.bj.length=g.bj.length by omega] at hm;exact hm
  rw[if_pos hris];try refine am ?_
  refine bO (am ?_);refine aP (am ?_);exact(sZ.trans hX).trans hY
end Go.Ev.Gl
