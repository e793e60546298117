import Derived.Test.YtiiplmagnlcpbaaGreatDoorGl11
set_option linter.unusedSimpArgs false
set_option linter.unusedVariables false
open Nat renaming reduceEqDiff -> rE, reduceAdd -> rA
set_option maxHeartbeats 0
namespace Go.Ev.Gl
variable {fns:T cM}
def okC(g:aZ)(l:bm)(i:Nat):Prop:=0<=l.getD i 0/\l.getD i 0<(cm g (i:Int)).b9
instance okCDec(g:aZ)(l:bm)(i:Nat):Decidable (okC g l i):=by unfold okC;exact inferInstance
def vX(g:aZ)(l:bm):Int:=if l.length≠g.b7.length then 10 else if ∀i,i<l.length->okC g l i then 0 else 2
noncomputable def aFu(g:aZ)(l:bm)(pr:Nat->Nat):Int:=if dJ g≠0 then 0 else if vX g l≠0 then 0 else yG g pr
noncomputable def nB(g:aZ)(l:bm)(pr:Nat->Nat):Int:=if dJ g≠0 then dJ g else if vX g l≠0 then vX g l else aAg g pr
theorem aAn{g:aZ}{l:bm}{pr:Nat->Nat}{e:Int}(h0:dJ g=0)(h:vX g l=e)(he:e≠0):aFu g l pr=0/\nB g l pr=e:=by
 subst h;unfold aFu nB;simp only[h0,he,ne_eq,Cw,Ak,Bm,Ck,and_self]
theorem aIk{g:aZ}{l:bm}{pr:Nat->Nat}(h0:dJ g=0)(h:vX g l=0):aFu g l pr=yG g pr/\nB g l pr=aAg g pr:=by
 unfold aFu nB;simp only[h0,h,ne_eq,Cw,Bm,and_self]
theorem aB8{g:aZ}{i:Nat}(hi:i<g.b7.length):g.b7[i]? =some (cm g (i:Int)):=by
 unfold cm;rw[Bq,Ae,Ad hi];rfl
theorem aGM{g:aZ}{l:bm}(h:l.length≠g.b7.length):vX g l=10:=by unfold vX;rw[if_pos h]
theorem aJf{g:aZ}{l:bm}(h:l.length=g.b7.length)(ha:∀i,i<l.length->okC g l i):vX g l=0:=by unfold vX;rw[if_neg (fun h'=>h' h),if_pos ha]
theorem aAy{g:aZ}{l:bm}{i:Nat}(h:l.length=g.b7.length)(hi:i<l.length)(ha:¬okC g l i):vX g l=2:=by unfold vX;rw[if_neg (fun h'=>h' h),if_neg (fun h'=>ha (h' i hi))]
theorem aKY{g:aZ}{l:bm}(h:vX g l=0):l.length=g.b7.length/\∀i,i<l.length->okC g l i:=by
 unfold vX at h;split at h
 ·cases h
 rename_i h1;split at h
 ·rename_i h2;exact⟨Ha.1 h1,h2⟩
 ·cases h
def ChI(S:St)(gb:Nat)(cg:Option AB)(v:AV)(g:aZ)(l:bm)(k:Nat)(A:bK)(X:St):Prop:=A.inr=false/\Same S X/\gb<X.nx/\X.h.get gb=cg/\∃i,i+k=l.length/\(∀j,j<i->okC g l j)/\aD 2 A.F= .ptr gb 0/\aD 20 A.F=v/\aD 21 A.F= .int .i64 (l.length:Int)/\aD 22 A.F= .int .i64 (i:Int)
theorem aJi{g:aZ}{l:bm}{i:Nat}(h:∀j,j<i->okC g l j)(hi:okC g l i):∀j,j<i+1->okC g l j:=fun j hj=>by
 by_cases e:j=i
 ·subst e;exact hi
 ·exact h j au
theorem aBJ{S:St}{nv iv cv:AV}{g:aZ}{l:bm}{pr:Nat->Nat}(H:Has fns)(hn:aW 6 cI S nv g.bw)(hi:aW 2 eT S iv g.b7)(hc:dE .i64 S cv l)(hln:g.bw.length<=100000)(hll:l.length<=10000000)(hpr:dJ g=0->kY g pr):
  eR fns (.fn 29 [] []) [.agg [.int .i64 g.b8,nv,iv],cv] S fun r S'=>Same S S'/\r= .tup [.int .i64 (aFu g l pr),.int .i64 (nB g l pr)]:=by
 refine bE H.f29 (by simp) ?_;refine ae ?_;refine aY ?_;refine bW (cs:=[.int .i64 g.b8,nv,iv]) rfl ?_;intro S1 s1 n1 c1;refine ae ?_;refine dS (dh (gR c1) ?_);refine aK (ae ?_);refine aG (aEO H (aW.same (E:=cI) bT hn s1) (aW.same (E:=eT) dH hi s1) hln) ?_;rintro _ X ⟨rfl,hX⟩;have sX:=s1.trans hX;have lgX:S.nx<X.nx:=Ag (show S.nx<S1.nx by omega) hX.1;have cX:=(hX.2 _ (show S.nx<S1.nx by omega)).trans c1;try refine ae ?_
 refine aY (ae ?_);by_cases h0:dJ g=0;rotate_left
 ·unfold aFu nB;rw[if_pos h0,if_pos h0];refine aN (by simp only[↓sU,sD,rE,↓reduceIte,rA,Ab (show dJ g≠0 from h0)]) ?_;refine aY (ae ?_);refine aI (ae ?_);exact sX
 refine aM (by simp only[↓sU,sD,rE,↓reduceIte,rA,Aa (show ¬dJ g≠0 from fun h=>h h0)]) (aH ?_);try refine ae ?_
 have hcl:=hc.len;have hil:=hi.len;refine dS (dx @aF @aE (mU cX) hcl hil ?_);by_cases hlen:l.length=g.b7.length;rotate_left
 ·have hE:=aGM hlen;have⟨r1,r2⟩:=aAn (pr:=pr) h0 hE au;rw[r1,r2];refine aN (by simp only[↓sU,sD,rE,↓reduceIte,rA,Ah,Ab (show(l.length:Int)≠(g.b7.length:Int) by omega)]) ?_;refine aY (ae ?_);refine aI (ae ?_);exact sX
 refine aM (by simp only[↓sU,sD,rE,↓reduceIte,rA,Ah,Aa (show ¬ (l.length:Int)≠(g.b7.length:Int) by omega)]) (aH ?_);try refine ae ?_
 refine aC (aX (Q:=fun o A' Z=>(o= .normal/\ChI S S.nx (some (.cells [.int .i64 g.b8,nv,iv] false 0)) cv g l 0 A' Z)\/(o= .ret/\Same S Z/\vX g l=2/\aD 4 A'.F= .int .i64 0/\aD 5 A'.F= .int .i64 2)) (aC (aJ ?_)) ?_)
 ·refine dk hcl @Ah ?_;refine aO (bJ (ChI S S.nx (some (.cells [.int .i64 g.b8,nv,iv] false 0)) cv g l) ?_ l.length _ _ ⟨rfl,sX,lgX,cX,0,au,fun j hj=>au,by refine⟨?_,?_,?_,?_⟩<;>simp only[↓sU,sD,rE,↓reduceIte,rA]⟩);rintro k ⟨F,inr⟩ V ⟨q0,hV,lgV,cV,i,hik,hok,p2,p20,p21,p22⟩;simp only at q0 p2 p20 p21 p22;subst q0;refine aY (dk p21 p22 ?_);by_cases hlt:i<l.length;rotate_left
  ·refine aC (aM (by simp only[↓sU,sD,rE,↓reduceIte,rA,Aa (show ¬ (i:Int)<(l.length:Int) by omega)]) (bD ?_));refine ae ?_;have hk0:k=0:=by omega
   subst hk0;exact .inl ⟨rfl,hV,lgV,cV,i,hik,hok,by refine⟨?_,?_,?_,?_⟩<;>simp only[↓sU,sD,rE,↓reduceIte,rA,p2,p20,p21,p22]⟩
  refine aC (aN (by simp only[↓sU,sD,rE,↓reduceIte,rA,Ab (show(i:Int)<(l.length:Int) by omega)]) (aH ?_));try refine ae ?_
  have hcV:=hc.same hV;have ia:=hcV.cw hlt;have la:=hcV.ld hlt;have⟨ei,bi,qi,hii,hbi,_,hei,_,hfi⟩:=aW.at (aW.same (E:=eT) dH hi hV) ay (aB8 (show i<g.b7.length by omega));have hei:ei= [.int .i64 (cm g (i:Int)).player,.int .i64 (cm g (i:Int)).b9]:=hei;subst hei;have l1:=hfi 1 _ rfl;have w0:=dq i
  refine aC (aO (aC (aJ ?_)));refine dx p20 p22 @aQ ia la ?_;refine aY ?_;by_cases hneg:l.getD i 0<0
  ·refine dh (Ab hneg) ?_;refine aN (by try simp only[↓sU,sD,rE,↓reduceIte,rA]) ?_;refine aY (ae ?_);refine aI (ae ?_);exact .inr ⟨hV,aAy hlen hlt (fun h=>aw h.1)⟩
  refine d7 p2 (Aa hneg) @aF @aE (mU cV) @aQ hii l1 ?_;by_cases hge:(cm g (i:Int)).b9<=l.getD i 0
  ·refine aN (by simp only[↓sU,sD,rE,↓reduceIte,rA,Ab hge]) ?_;refine aY (ae ?_);refine aI (ae ?_);exact .inr ⟨hV,aAy hlen hlt (fun h=>aw h.2)⟩
  refine aM (by simp only[↓sU,sD,rE,↓reduceIte,rA,Aa hge]) (aH ?_);try refine ae ?_
  refine aJ (dk p22 w0 ?_);exact⟨k - 1,au,rfl,hV,lgV,cV,i+1,au,aJi hok ⟨au,au⟩,by refine⟨?_,?_,?_,?_⟩<;>simp only[↓sU,sD,rE,↓reduceIte,rA,p2,p20,p21]⟩
 rintro o ⟨F,inr⟩ Z (⟨rfl,q0,hZ,lgZ,cZ,i,hik,hok,p2,_⟩ | ⟨rfl,hZ,hE,p4,p5⟩);rotate_left
 ·simp only at p4 p5;refine dk p4 p5 ?_;have⟨r1,r2⟩:=aAn (pr:=pr) h0 hE au;rw[r1,r2];exact⟨hZ,rfl⟩
 simp only at q0 p2;subst q0;obtain rfl:i=l.length:=by omega
 have hE:=aJf hlen hok;have⟨r1,r2⟩:=aIk (pr:=pr) h0 hE;rw[r1,r2];try refine ae ?_
 refine aY (dk p2 (gR cZ) ?_);refine aK (ae ?_);refine aG (aKX (pr:=pr) H (aW.same (E:=cI) bT hn hZ) (aW.same (E:=eT) dH hi hZ) hln hpr) ?_;rintro _ W ⟨hW,rfl⟩;rw[if_pos h0];refine dk @nP @nN ?_;refine aI (ae ?_);exact hZ.trans hW
def ChX(S:St)(gb:Nat)(cg:Option AB)(v:AV)(g:aZ)(l:bm)(k:Nat)(A:bK)(X:St):Prop:=A.inr=false/\Same S X/\gb<X.nx/\X.h.get gb=cg/\∃i,i+k=l.length/\(∀j,j<i->okC g l j)/\aD 2 A.F= .ptr gb 0/\aD 1 A.F=v/\aD 7 A.F= .int .i64 (i:Int)
theorem uS{S:St}{nv iv cv:AV}{g:aZ}{l:bm}{pr:Nat->Nat}(H:Has fns)(hn:aW 6 cI S nv g.bw)(hi:aW 2 eT S iv g.b7)(hc:dE .i64 S cv l)(hln:g.bw.length<=100000)(hll:l.length<=10000000)(hpr:dJ g=0->kY g pr):
  eR fns (.fn 31 [] []) [.agg [.int .i64 g.b8,nv,iv],cv] S fun r S'=>Same S S'/\r= .tup [.int .i64 (aFu g l pr),.int .i64 (nB g l pr)]:=by
 refine bE H.f31 (by simp) ?_;refine ae ?_;refine aY ?_;refine bW (cs:=[.int .i64 g.b8,nv,iv]) rfl ?_;intro S1 s1 n1 c1;refine ae ?_;refine dS (dh (gR c1) ?_);refine aK (ae ?_);refine aG (aDk H (aW.same (E:=cI) bT hn s1) (aW.same (E:=eT) dH hi s1) hln) ?_;rintro _ X ⟨rfl,hX⟩;have sX:=s1.trans hX;have lgX:S.nx<X.nx:=Ag (show S.nx<S1.nx by omega) hX.1;have cX:=(hX.2 _ (show S.nx<S1.nx by omega)).trans c1;try refine ae ?_
 refine aY (ae ?_);by_cases h0:dJ g=0;rotate_left
 ·unfold aFu nB;rw[if_pos h0,if_pos h0];refine aN (by simp only[↓sU,sD,rE,↓reduceIte,rA,Ab (show dJ g≠0 from h0)]) ?_;refine aY (ae ?_);refine aI (ae ?_);exact sX
 refine aM (by simp only[↓sU,sD,rE,↓reduceIte,rA,Aa (show ¬dJ g≠0 from fun h=>h h0)]) (aH ?_);try refine ae ?_
 have hcl:=hc.len;have hil:=hi.len;refine dS (dx @aF @aE (mU cX) hcl hil ?_);by_cases hlen:l.length=g.b7.length;rotate_left
 ·have hE:=aGM hlen;have⟨r1,r2⟩:=aAn (pr:=pr) h0 hE au;rw[r1,r2];refine aN (by simp only[↓sU,sD,rE,↓reduceIte,rA,Ah,Ab (show(l.length:Int)≠(g.b7.length:Int) by omega)]) ?_;refine aY (ae ?_);refine aI (ae ?_);exact sX
 refine aM (by simp only[↓sU,sD,rE,↓reduceIte,rA,Ah,Aa (show ¬ (l.length:Int)≠(g.b7.length:Int) by omega)]) (aH ?_);try refine ae ?_
 refine aC (aX (Q:=fun o A' Z=>(o= .normal/\ChX S S.nx (some (.cells [.int .i64 g.b8,nv,iv] false 0)) cv g l 0 A' Z)\/(o= .ret/\Same S Z/\vX g l=2/\aD 4 A'.F= .int .i64 0/\aD 5 A'.F= .int .i64 2)) (aC (aJ ?_)) ?_)
 ·refine ae ?_;refine aO (bJ (ChX S S.nx (some (.cells [.int .i64 g.b8,nv,iv] false 0)) cv g l) ?_ l.length _ _ ⟨rfl,sX,lgX,cX,0,au,fun j hj=>au,by refine⟨?_,?_,?_⟩<;>simp only[↓sU,sD,rE,↓reduceIte,rA]⟩);rintro k ⟨F,inr⟩ V ⟨q0,hV,lgV,cV,i,hik,hok,p2,p1,p7⟩;simp only at q0 p2 p1 p7;subst q0;refine dS (du p1 p7 hcl @Ah ?_);by_cases hlt:i<l.length;rotate_left
  ·refine aM (by simp only[↓sU,sD,rE,↓reduceIte,rA,Aa (show ¬ (i:Int)<(l.length:Int) by omega)]) (bD ?_);refine ae ?_;have hk0:k=0:=by omega
   subst hk0;exact .inl ⟨rfl,hV,lgV,cV,i,hik,hok,by refine⟨?_,?_,?_⟩<;>simp only[↓sU,sD,rE,↓reduceIte,rA,p2,p1,p7]⟩
  refine aN (by simp only[↓sU,sD,rE,↓reduceIte,rA,Ab (show(i:Int)<(l.length:Int) by omega)]) (aH ?_);try refine ae ?_
  have hcV:=hc.same hV;have ia:=hcV.cw hlt;have la:=hcV.ld hlt;have scv:=dE.self hc;have⟨ei,bi,qi,hii,hbi,_,hei,_,hfi⟩:=aW.at (aW.same (E:=eT) dH hi hV) ay (aB8 (show i<g.b7.length by omega));have hei:ei= [.int .i64 (cm g (i:Int)).player,.int .i64 (cm g (i:Int)).b9]:=hei;subst hei;have l1:=hfi 1 _ rfl;have siv:=aW.self hi;have w0:=dq i
  refine aC (aO (aC (jA ?_)));by_cases hneg:l.getD i 0<0
  ·refine dz p1 p7 @aQ ia la scv (Ab hneg) ?_;refine aN (by try simp only[↓sU,sD,rE,↓reduceIte,rA]) ?_;refine aY (ae ?_);refine aI (ae ?_);exact .inr ⟨hV.trans (Same.nx _ _),aAy hlen hlt (fun h=>aw h.1)⟩
  simp only[↓sU,sD,rE,↓reduceIte,rA,p1,p2,p7,aQ,ia,la,scv,siv,Aa hneg,aV,aF,aE,mU cV,hii,l1];by_cases hge:(cm g (i:Int)).b9<=l.getD i 0
  ·refine aN (by simp only[↓sU,sD,rE,↓reduceIte,rA,Ab hge]) ?_;refine aY (ae ?_);refine aI (ae ?_);exact .inr ⟨hV.trans (Same.nx _ _),aAy hlen hlt (fun h=>aw h.2)⟩
  refine aM (by simp only[↓sU,sD,rE,↓reduceIte,rA,Aa hge]) (aH ?_);try refine ae ?_
  refine aJ (dk p7 w0 ?_);exact⟨k - 1,au,rfl,hV.trans (Same.nx _ _),Ag lgV (Same.nx _ _).1,cV,i+1,au,aJi hok ⟨au,au⟩,by refine⟨?_,?_,?_⟩<;>simp only[↓sU,sD,rE,↓reduceIte,rA,p2,p1]⟩
 rintro o ⟨F,inr⟩ Z (⟨rfl,q0,hZ,lgZ,cZ,i,hik,hok,p2,_⟩ | ⟨rfl,hZ,hE,p4,p5⟩);rotate_left
 ·simp only at p4 p5;refine dk p4 p5 ?_;have⟨r1,r2⟩:=aAn (pr:=pr) h0 hE au;rw[r1,r2];exact⟨hZ,rfl⟩
 simp only at q0 p2;subst q0;obtain rfl:i=l.length:=by omega
 have hE:=aJf hlen hok;have⟨r1,r2⟩:=aIk (pr:=pr) h0 hE;rw[r1,r2];try refine ae ?_
 refine aY (dk p2 (gR cZ) ?_);refine aK (ae ?_);refine aG (aIQ (pr:=pr) H (aW.same (E:=cI) bT hn hZ) (aW.same (E:=eT) dH hi hZ) hln hpr) ?_;rintro _ W ⟨hW,rfl⟩;rw[if_pos h0];refine dk @nP @nN ?_;refine aI (ae ?_);exact hZ.trans hW
theorem aJW{g:aZ}{l:bm}{pr:Nat->Nat}(h:nB g l pr=0):dJ g=0/\vX g l=0:=by
 by_cases h0:dJ g=0
 ·by_cases h1:vX g l=0
  ·exact⟨h0,h1⟩
  ·exact absurd ((aAn (pr:=pr) h0 rfl h1).2.symm.trans h) h1
 ·unfold nB at h;rw[if_pos h0] at h;exact absurd h h0
def aQV(_:St)(cs:bo)(x:Int):Prop:=cs= [.int .i64 x]
theorem toG{S:St}{v:AV}{l:bm}(h:dE .i64 S v l):aW 1 aQV S v l:=by
 rcases h with h | ⟨b,off,cap,o,cs,rfl,hc,hb,hcs,hel⟩
 ·exact .inl h
 ·refine .inr ⟨b,off,cap,o,cs,rfl,hc,hb,hcs,fun i a hi=>⟨[.int .i64 a],rfl,fun j x hj=>?_,rfl⟩⟩;cases j with
  | zero=>simp at hj;subst hj;rw[Bp,Bi];exact hel i a hi
  | succ j=>simp at hj
theorem ofG{S:St}{v:AV}{l:bm}(h:aW 1 aQV S v l):dE .i64 S v l:=by
 rcases h with h | ⟨b,off,cap,o,cs,rfl,hc,hb,hcs,hel⟩
 ·exact .inl h
 ·refine .inr ⟨b,off,cap,o,cs,rfl,hc,hb,hcs,fun i a hi=>?_⟩;have⟨e,_,h2,h3⟩:=hel i a hi;have h3:e= [.int .i64 a]:=h3;subst h3;have:=h2 0 _ rfl;rw[Bp,Bi] at this;exact this
theorem aOi{base:Nat}{suf:List AO}{Q:DS->Prop}:∀ {pre:List AO} {i:Nat} {D:DS},wpd fns pre i base D (fun D'=>wpd fns suf (i+pre.length) base D' Q)->wpd fns (pre++suf) i base D Q:=by
 intro pre i D h;obtain⟨n,D1,h1,k,D2,h2,h3⟩:=h;refine⟨max n k,D2,?_,h3⟩;have h1':=sO (oE fns (Nat.le_max_left n k)).call h1;have h2':=sO (oE fns (Nat.le_max_right n k)).call h2;clear h1 h2
 induction pre generalizing i D with
 | nil=>cases h1';exact h2'
 | cons o os ih=>
  show aU (rT o i base (ev fns (max n k)).call D) _=_;have h1'':aU (rT o i base (ev fns (max n k)).call D) (fun D'=>pY os (i+1) base (ev fns (max n k)).call D')=some D1:=h1';cases he:rT o i base (ev fns (max n k)).call D with
  | none=>rw[he] at h1'';cases h1''
  | some D'=>
   rw[he,aL] at h1'';rw[aL];exact ih h1'' (by rw[Ax] at h2';rw[show i+1+os.length=i+(os.length+1) by omega];exact h2')
def Low(K:Nat)(D:DS):Prop:=(∀e∈D.hs,e.1<K)/\∀l∈D.ls,l.i<K/\l.mask<2 ^ K
theorem aNJ{call:dK}{o:AO}{i base K:Nat}{D D':DS}(h:rT o i base call D=some D')(hi:i<K)(hm:o.mask<2 ^ K)(hD:Low K D):Low K D':=by
 unfold rT at h;cases hw:fI o.grd D.F with
 | false=>rw[hw,aS] at h;cases h;exact hD
 | true=>
  rw[hw,aP] at h;have⟨d,op,g,m⟩:=o;cases op with
  | q q=>
   have h:aU (jK q D.F D.S.h) (fun v=>some (⟨cB d D.F v,D.S,D.ps,D.hs,bM (dU q) (⟨q,D.F,v,i,m⟩::D.ls) D.ls⟩:DS))=some D':=h;cases he:jK q D.F D.S.h with
   | none=>rw[he] at h;cases h
   | some v=>
    rw[he,aL] at h;cases h;refine⟨hD.1,fun l hl=>?_⟩;simp only at hl;cases hq:dU q with
    | false=>rw[hq,aS] at hl;exact hD.2 l hl
    | true=>
     rw[hq,aP] at hl;rcases Br.1 hl with rfl | hl
     ·exact⟨hi,hm⟩
     ·exact hD.2 l hl
  | a a=>
   have h:aU (vC a D.F (base+i)) (fun r=>some (⟨cB d D.F r.1,D.S,⟨i,base+i,r.2⟩::D.ps,D.hs,D.ls⟩:DS))=some D':=h;cases he:vC a D.F (base+i) with
   | none=>rw[he] at h;cases h
   | some v=>rw[he,aL] at h;cases h;exact hD
  | x x=>
   have h:bM (jB D.hs m) (aU (xX x call D.F ⟨(cA m D.ps D.S.h).2,D.S.nx⟩) fun r=>some (⟨cB d D.F r.1,r.2,(cA m D.ps D.S.h).1,(i,m,r.2.h)::D.hs,D.ls⟩:DS)) none=some D':=h;cases hl:jB D.hs m with
   | false=>rw[hl,aS] at h;cases h
   | true=>
    rw[hl,aP] at h;cases he:xX x call D.F ⟨(cA m D.ps D.S.h).2,D.S.nx⟩ with
    | none=>rw[he] at h;cases h
    | some v=>
     rw[he,aL] at h;cases h;refine⟨fun e he=>?_,hD.2⟩;rcases Br.1 he with rfl | he
     ·exact hi
     ·exact hD.1 e he
theorem aHs{call:dK}{base K:Nat}:∀ {l:List AO} {i:Nat} {D D':DS},pY l i base call D=some D'->i+l.length<=K->(∀o∈l,o.mask<2 ^ K)->Low K D->Low K D'
 | [],i,D,D',h,_,_,hD=>by cases h;exact hD
 | o::os,i,D,D',h,hi,hm,hD=>by
  have h:aU (rT o i base call D) (fun D'=>pY os (i+1) base call D')=some D':=h;rw[Ax] at hi;cases he:rT o i base call D with
  | none=>rw[he] at h;cases h
  | some D1=>
   rw[he,aL] at h;exact aHs h au (fun o ho=>hm o (Cf _ ho)) (aNJ he au (hm o (Dy ..)) hD)
theorem GrW.appB{k n m bytes:Nat}{S0 S:St}{v x:AV}{cs new:bo}(h:GrW k S0 S v n cs)(hS:Same S0 S)(hl:yT x=some m)(hs:fE x S.h k m=some new)(hn:new.length=m * k)(hm:0<m)(h1:n+m<=room)(h2:(n+m) * bytes<=room):
  ∃v' S',iK bytes k v x S=some (v',S')/\GrW k S0 S' v' (n+m) (cs++new)/\Same S0 S'/\S.nx<=S'.nx/\(∀c,c<S.nx->kM v≠some c->S'.h.get c=S.h.get c)/\kM v'=some S.nx:=by
 rcases h with⟨rfl,rfl,rfl⟩ | ⟨b,rfl,hb0,hb,hg,hc⟩
 ·refine⟨.sl S.nx 0 m m true,⟨S.h.set S.nx (some (.cells new true k)),S.nx+1⟩,?_,.inr ⟨S.nx,by rw[Au],hS.1,by simp,?_,by rw[Au];exact hn⟩,hS.trans (Same.alloc S _),by simp,fun c hc _=>(Same.alloc S _).2 c hc,rfl⟩
  ·show(aU (yT x) fun j=>aU (fE x S.h k j) fun new=>aAo .cd bytes k j new S)=_;rw[hl,aL,hs,aL];show nV bytes k m new S=_;unfold nV;rw[show Nat.beq m 0=false from Bx.2 fun e=>by rw[Av] at e;omega,aS,Ai au,aP,Ai (by rw[Au] at h2;exact h2),aP];rfl
  ·simp only;rw[dr,if_pos rfl];rfl
 ·refine⟨.sl S.nx 0 (n+m) (n+m) true,⟨(S.h.set b none).set S.nx (some (.cells (cs++new) true k)),S.nx+1⟩,?_,.inr ⟨S.nx,rfl,hS.1,by simp,?_,by rw[Ba,hc,hn,Cb]⟩,⟨Bd hS.1 (by simp),fun c hc=>?_⟩,by simp,fun c hc hne=>?_,rfl⟩
  ·show(aU (yT x) fun j=>aU (fE x S.h k j) fun new=>aAo (.sl b 0 n n true) bytes k j new S)=_;rw[hl,aL,hs,aL];show tP bytes k b 0 n n true m new S=_;unfold tP;have e2:Nat.ble (n+m) n=false:=by rw[Bx];intro h;have:=Ar h;omega
   rw[e2,aS,Ai h1,aP,Ai h2,aP,hg,aL];have e3:cut cs 0 (n * k)=some cs:=by
    unfold cut;rw[jY,kR,Dd,if_pos au,Am au]
   have e4:Nat.beq (0+n * k) (kG cs)=true:=by rw[eQ,hc,Av];omega
   have e5:Nat.beq k k=true:=Nat.beq_refl k;simp only[aEz,e3,aL,aP,e4,e5,grown,fB]
  ·simp only;rw[dr,if_pos rfl]
  ·simp only;have:=hS.1;rw[dr,if_neg au,dr,if_neg au];exact hS.2 c hc
  ·simp only;have:c≠b:=fun e=>hne (by rw[e];rfl);rw[dr,if_neg au,dr,if_neg this]
end Go.Ev.Gl
