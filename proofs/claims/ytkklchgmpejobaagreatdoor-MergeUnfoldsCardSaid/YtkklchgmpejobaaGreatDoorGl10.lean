import Derived.Test.YtkklchgmpejobaaGreatDoorGl9
open Nat renaming reduceEqDiff → rE, reduceAdd → rA
set_option maxHeartbeats 16000000
set_option linter.unusedSimpArgs false
set_option linter.unusedVariables false
namespace Go.Ev.Gl
variable {fns:T cW}
def aPI(S:St)(a b:AV)(l m:List Int)(k:Nat)(A:bH)(X:St):Prop:=A.inr=false∧Same S X∧∃i,i+k=l.length∧l.take i=m.take i∧aH 0 A.F=a∧aH 1 A.F=b∧aH 12 A.F= .int .i64 ((l.length:Nat):Int)∧aH 13 A.F= .int .i64 (i:Int)
theorem aAr{S:St}{a b:AV}{l m:List Int}(H:Has fns)(ha:bI .i64 S a l)(hb:bI .i64 S b m)(hl:l.length≤10000000):fB fns (.fn 56 [] []) [a,b] S fun r S'=>r= .bool (decide (l=m))∧Same S S':=by
 refine bN H.f56 (by simp) ?_;simp only[↓aB,aA,rE,↓reduceIte,rA];refine bL ?_;simp only[↓aB,aA,rE,↓reduceIte,rA];refine fY ?_;simp only[↓aB,aA,rE,↓reduceIte,rA,ha.len,hb.len,Ai];by_cases hlm:l.length=m.length;rotate_left
 ·rw[Aa (show ¬l=m from fun e=>hlm (by rw[e]))];refine aN (by simp only[↓aB,aA,rE,↓reduceIte,rA,Ab (show((l.length:Nat):Int)≠((m.length:Nat):Int) by omega)]) ?_;refine bL ?_;simp only[↓aB,aA,rE,↓reduceIte,rA];refine aR ?_;simp only[↓aB,aA,rE,↓reduceIte,rA];exact Same.refl _
 refine aL (by simp only[↓aB,aA,rE,↓reduceIte,rA,Aa (show ¬ ((l.length:Nat):Int)≠((m.length:Nat):Int) by omega)]) (aI ?_);try simp only[↓aB,aA,rE,↓reduceIte,rA]
 refine aC (aT (Q:=fun o A' X=>(o= .normal∧aPI S a b l m 0 A' X)∨(o= .ret∧Same S X∧l≠m∧aH 4 A'.F= .bool false)) (aC (aF ?_)) ?_)
 ·simp only[↓aB,aA,rE,↓reduceIte,rA,ha.len,Ai];refine aK (bG (aPI S a b l m) ?_ l.length _ _ ⟨rfl,Same.refl _,0,by omega,rfl,by refine⟨?_,?_,?_,?_⟩<;>simp only[↓aB,aA,rE,↓reduceIte,rA]⟩);rintro k ⟨F,inr⟩ X ⟨q0,hX,i,hik,he,p0,p1,p12,p13⟩;simp only at q0 p0 p1 p12 p13;subst q0;refine bL ?_;simp only[↓aB,aA,rE,↓reduceIte,rA,p12,p13];by_cases hlt:i<l.length
  ·refine aC (aN (by simp only[↓aB,aA,rE,↓reduceIte,rA,Ab (show(i:Int)<((l.length:Nat):Int) by omega)]) (aI ?_));try simp only[↓aB,aA,rE,↓reduceIte,rA]
   have hltm:i<m.length:=by omega
   have ia:=(ha.same hX).iaddr hlt;have la:=(ha.same hX).ld hlt;have ib:=(hb.same hX).iaddr hltm;have lb:=(hb.same hX).ld hltm;have w1:IntKind.i64.wrap ((i:Int)+1)=((i+1:Nat):Int):=by rw[wrap_i64 (by omega) (by omega)];omega
   refine aC (aK (aC (aF ?_)));simp only[↓aB,aA,rE,↓reduceIte,rA,p13];refine aC (qV ?_);simp only[↓aB,aA,rE,↓reduceIte,rA,p0,p1,aG,ia,ib,la,lb];have el:l.getD i 0=l[i]:=by rw[Ag,Ad hlt];rfl
   have em:m.getD i 0=m[i]:=by rw[Ag,Ad hltm];rfl
   by_cases hx:l.getD i 0=m.getD i 0
   ·refine aL (by simp only[↓aB,aA,rE,↓reduceIte,rA,Aa (show ¬l.getD i 0≠m.getD i 0 from fun h=>h hx)]) (aI ?_);try simp only[↓aB,aA,rE,↓reduceIte,rA]
    refine aF ?_;simp only[↓aB,aA,rE,↓reduceIte,rA,p13,w1];refine⟨k - 1,by omega,rfl,hX.trans (Same.nx _ _),i+1,by omega,?_,by refine⟨?_,?_,?_,?_⟩<;>simp only[↓aB,aA,rE,↓reduceIte,rA,p0,p1,p12]⟩;rw[Bn,Bn,he,Ad hlt,Ad hltm,←el,←em,hx]
   ·refine aN (by simp only[↓aB,aA,rE,↓reduceIte,rA,Ab (show l.getD i 0≠m.getD i 0 from hx)]) ?_;refine bL ?_;simp only[↓aB,aA,rE,↓reduceIte,rA];refine aR ?_;simp only[↓aB,aA,rE,↓reduceIte,rA];exact .inr ⟨hX.trans (Same.nx _ _),fun e=>hx (by rw[e])⟩
  ·refine aC (aL (by simp only[↓aB,aA,rE,↓reduceIte,rA,Aa (show ¬ (i:Int)<((l.length:Nat):Int) by omega)]) (bD ?_));simp only[↓aB,aA,rE,↓reduceIte,rA];have hk0:k=0:=by omega
   subst hk0;exact .inl ⟨rfl,hX,i,hik,he,by refine⟨?_,?_,?_,?_⟩<;>simp only[↓aB,aA,rE,↓reduceIte,rA,p0,p1,p12,p13]⟩
 rintro o ⟨F,inr⟩ X (⟨rfl,q0,hX,i,hik,he,p0,p1,p12,p13⟩ | ⟨rfl,hX,hne,p4⟩);rotate_left
 ·simp only at p4;simp only[↓aB,aA,rE,↓reduceIte,rA,p4];rw[Aa hne];exact⟨rfl,hX⟩
 simp only at q0;subst q0;rw[Ay (by omega),Ay (by omega)] at he;rw[Ab he];try simp only[↓aB,aA,rE,↓reduceIte,rA]
 refine bL ?_;simp only[↓aB,aA,rE,↓reduceIte,rA];refine aR ?_;simp only[↓aB,aA,rE,↓reduceIte,rA];exact hX
theorem aBG{h:Ev.T AB}{P P':Fr→Prop}(hP:∀F,P F→P' F):∀ (l:List AO) (F:Fr),mF l F h P→mF l F h P'
 | [],F,hr=>hP F hr
 | ⟨d,.q q,g,mm⟩::l,F,hr=>by
  simp only[mF] at hr ⊢;split at hr
  ·rename_i hw;rw[if_pos hw];obtain⟨w,hw1,hw2,hw3⟩:=hr;exact⟨w,hw1,hw2,aBG hP l _ hw3⟩
  ·rename_i hw;rw[if_neg hw];exact aBG hP l _ hr
 | ⟨d,.a a,g,mm⟩::l,F,hr=>by cases hr
 | ⟨d,.x a,g,mm⟩::l,F,hr=>by cases hr
section
variable {W:Nat→Prop}{S X Y:St}{b:Nat}
end
structure Lay where
 sb:Nat
 ob:Nat
 fb:Nat
 mb:Nat
 kb:Nat
 wb:Nat
 ib:Nat
 rb:Nat
 ab:Nat
 bs:Nat→Nat
 cs:List AV
section
variable {L:Lay}{S0 S1 X Y:St}{n:Nat}{mv:AV}{I F:List Int}{A:List (List Int)}
end
end Go.Ev.Gl
namespace Go.Ev.Gl
theorem aQ.conv{k:Nat}{α β:Type}{E:St→List AV→α→Prop}{E':St→List AV→β→Prop}{f:α→β}{S:St}{v:AV}{l:List α}(hf:∀e a,E S e a→E' S e (f a))(h:aQ k E S v l):aQ k E' S v (l.map f):=by
 rcases h with⟨rfl,h⟩ | ⟨b,off,cap,o,cs,rfl,h2,h3,h4,h5⟩
 ·exact .inl ⟨rfl,h⟩
 ·refine .inr ⟨b,off,cap,o,cs,by rw[Ax],by rw[Ax];exact h2,h3,h4,fun i a hi=>?_⟩;rw[Bc,Ap] at hi;obtain⟨x,hx,rfl⟩:=hi;obtain⟨e,e1,e2,e3⟩:=h5 i x hx;exact⟨e,e1,e2,hf e x e3⟩
theorem aKu{k:IntKind}{S:St}{v:AV}{l:List Int}(h:aQ 1 (qS k) S v l):bI k S v l:=by
 rcases h with h | ⟨b,off,cap,o,cs,rfl,h2,h3,h4,h5⟩
 ·exact .inl h
 ·refine .inr ⟨b,off,cap,o,cs,rfl,h2,h3,h4,fun i x hi=>?_⟩;obtain⟨e,e1,e2,rfl,_⟩:=h5 i x hi;have:=e2 0 _ rfl;rw[En,Br] at this;exact this
abbrev vQ(k:IntKind):St→List AV→List Int→Prop:=yQ 1 (qS k)
abbrev EN1:St→List AV→(List Int×Unit)→Prop:=tU (vQ .i64) NoE
abbrev EN2:St→List AV→(List Int×List Int×Unit)→Prop:=tU (vQ .i64) EN1
abbrev EN3:St→List AV→(List Int×List Int×List Int×Unit)→Prop:=tU (vQ .i64) EN2
abbrev EN4:St→List AV→(Int×List Int×List Int×List Int×Unit)→Prop:=tU (qS .i64) EN3
abbrev EN5:St→List AV→(Int×Int×List Int×List Int×List Int×Unit)→Prop:=tU (qS .i64) EN4
abbrev aCo:St→List AV→(Int×Int×Int×List Int×List Int×List Int×Unit)→Prop:=tU (qS .i64) EN5
abbrev EI1:St→List AV→(Int×Unit)→Prop:=tU (qS .i64) NoE
abbrev aDI:St→List AV→(Int×Int×Unit)→Prop:=tU (qS .i64) EI1
abbrev EG1:St→List AV→(List (Int×Int×Unit)×Unit)→Prop:=tU (yQ 2 aDI) NoE
abbrev EG2:St→List AV→(List (Int×Int×Int×List Int×List Int×List Int×Unit)×List (Int×Int×Unit)×Unit)→Prop:=tU (yQ 6 aCo) EG1
abbrev aIU:St→List AV→(Int×List (Int×Int×Int×List Int×List Int×List Int×Unit)×List (Int×Int×Unit)×Unit)→Prop:=tU (qS .i64) EG2
theorem pU{k:IntKind}:oO (vQ k):=Ev.firm_sl (E:=qS k) iN
theorem aMP:oO EN1:=mJ (E:=vQ .i64) (R:=NoE) pU aIJ
theorem aMD:oO EN2:=mJ (E:=vQ .i64) (R:=EN1) pU aMP
theorem aMJ:oO EN3:=mJ (E:=vQ .i64) (R:=EN2) pU aMD
theorem aNu:oO EN4:=mJ (E:=qS .i64) (R:=EN3) iN aMJ
theorem aMG:oO EN5:=mJ (E:=qS .i64) (R:=EN4) iN aNu
theorem aC0:oO aCo:=mJ (E:=qS .i64) (R:=EN5) iN aMG
theorem aMR:oO EI1:=mJ (E:=qS .i64) (R:=NoE) iN aIJ
theorem aD9:oO aDI:=mJ (E:=qS .i64) (R:=EI1) iN aMR
def aGZ(a:Int×Int×Int×List Int×List Int×List Int×Unit):bO:=⟨a.1,a.2.1,a.2.2.1,a.2.2.2.1,a.2.2.2.2.1,a.2.2.2.2.2.1⟩
def aNU(a:Int×Int×Unit):zA:=⟨a.1,a.2.1⟩
theorem aFW{k:IntKind}{S:St}{avs:List AV}{l:List Int}(h:vQ k S avs l):∃v,avs= [v]∧bI k S v l:=by
 obtain⟨v,h1,h2⟩:=yQ.is h;exact⟨v,h1,aKu h2⟩
theorem aM4{S:St}{e:List AV}{a:Int×Int×Int×List Int×List Int×List Int×Unit}(h:aCo S e a):cC S e (aGZ a):=by
 obtain⟨_,_,rfl,⟨rfl,_⟩,_,_,rfl,⟨rfl,_⟩,_,_,rfl,⟨rfl,_⟩,_,_,rfl,h1,_,_,rfl,h2,_,_,rfl,h3,rfl⟩:=h;obtain⟨v1,rfl,i1⟩:=aFW h1;obtain⟨v2,rfl,i2⟩:=aFW h2;obtain⟨v3,rfl,i3⟩:=aFW h3;exact⟨v1,v2,v3,rfl,i1,i2,i3⟩
theorem aMM{S:St}{e:List AV}{a:Int×Int×Unit}(h:aDI S e a):dI S e (aNU a):=by
 obtain⟨_,_,rfl,⟨rfl,_⟩,_,_,rfl,⟨rfl,_⟩,rfl⟩:=h;rfl
def tZ(g:bC):Prop:=g.infos.length * 16≤140737488355328∧∀x∈g.nodes,x.next.length * 8≤140737488355328∧x.weights.length * 8≤140737488355328∧x.pay.length * 8≤140737488355328
theorem aAM{k:Nat}{α:Type}{E:St→List AV→α→Prop}{S:St}{avs:List AV}{l:List α}(h:yQ k E S avs l):l.length * (8 * k)≤140737488355328:=by
 obtain⟨_,_,h,_⟩:=h;exact h
theorem aNI{k:Nat}{α:Type}{E:St→List AV→α→Prop}{S:St}{avs:List AV}{l:List α}(h:yQ k E S avs l){a:α}(ha:a∈l):∃cs,E S cs a:=by
 obtain⟨_,_,_,⟨rfl,_⟩ | ⟨b,cap,css,_,_,_,_,h5,h6⟩⟩:=h
 ·cases ha
 ·obtain⟨i,hi⟩:=List.mem_iff_getElem?.1 ha;have hlt:=(Af.1 hi).1;exact⟨_,(h6 i css[i] a (Ad (by omega)) hi).2⟩
theorem aJ4{S:St}{e:List AV}{a:Int×Int×Int×List Int×List Int×List Int×Unit}(h:aCo S e a):(aGZ a).next.length * 8≤140737488355328∧(aGZ a).weights.length * 8≤140737488355328∧(aGZ a).pay.length * 8≤140737488355328:=by
 obtain⟨_,_,rfl,⟨rfl,_⟩,_,_,rfl,⟨rfl,_⟩,_,_,rfl,⟨rfl,_⟩,_,_,rfl,h1,_,_,rfl,h2,_,_,rfl,h3,rfl⟩:=h;exact⟨aAM h1,aAM h2,aAM h3⟩
theorem aMN{S:St}{avs:List AV}{a:Int×List (Int×Int×Int×List Int×List Int×List Int×Unit)×List (Int×Int×Unit)×Unit}(h:aIU S avs a):∃nv iv,∃g:bC,avs= [.int .i64 g.players,nv,iv]∧aQ 6 cC S nv g.nodes∧aQ 2 dI S iv g.infos∧tZ g:=by
 obtain⟨_,_,rfl,⟨rfl,_⟩,_,_,rfl,h1,_,_,rfl,h2,rfl⟩:=h;obtain⟨v1,rfl,i1⟩:=yQ.is h1;obtain⟨v2,rfl,i2⟩:=yQ.is h2;refine⟨v1,v2,⟨a.1,a.2.1.map aGZ,a.2.2.1.map aNU⟩,rfl,aQ.conv (fun e x h=>aM4 h) i1,aQ.conv (fun e x h=>aMM h) i2,⟨(by have:=aAM h2;rw[Ax];exact this),fun x hx=>?_⟩⟩;obtain⟨y,hy,rfl⟩:=Ee.1 hx;obtain⟨cs,hcs⟩:=aNI h1 hy;exact aJ4 hcs
section
variable {P:Program}{σ:Env}{S:St}{w:World}
theorem aOg{v:Value}{n:Nat}(hn:n≠1)(hl:v.cells.toList.length=n):v= .agg ⟨v.cells.toList⟩:=by
 cases v with
 | agg cs=>rfl
 | _=>exact absurd (by simpa [Value.cells] using hl.symm) hn
theorem aLh{t:TypeId}{H:Type}{enc:TypeId×Value→H}{base:Nat}{spare:Nat→Bool}{held:Bool}{fuel:Nat}{v:Value}{x:DataW H×List MemPlace}(hR:jF P σ S w)(hn:zC S)(hf:zD S)(hG:P.globals.size≤S.nx)(hL:Lays P t aIU)(h:DataW.trod enc P w base spare held fuel t v.cells.toList=some x)(hW:∀n∈DataW.weights P t x.1,n≤140737488355328):
  ∃σ' S' nv iv,∃g:bC,pE P σ S w σ' S'∧Rv P σ' (.agg [.int .i64 g.players,nv,iv]) v∧aQ 6 cC S' nv g.nodes∧aQ 2 dI S' iv g.infos∧S.nx≤S'.nx∧tZ g:=by
 obtain⟨σ',S',avs,a,hA,hr,h1,hE,hnx⟩:=hL H enc σ S w base spare held fuel _ x hR hn hf hG h hW;obtain⟨nv,iv,g,rfl,i1,i2,hT⟩:=aMN hE;refine⟨σ',S',nv,iv,g,hA,?_,i1,i2,hnx,hT⟩;have hl:=hr.length;rw[aOg (v:=v) (n:=3) (by decide) (by rw[hl];rfl)];simp only[Rv];exact⟨_,rfl,hr,h1⟩
theorem aKb{t e:TypeId}{k:IntKind}(ht:P.underlying t=some (.slice e))(he:P.underlying e=some (.int k))(hc:P.cellsOf e=1)(hby:8≤P.bytesOf e):Lays P t (vQ k):=aAi ht hc (by decide) (by omega) (aHi he) iN
theorem aKe{tg tn tl ti tk ts e:TypeId}{fg fn fi:Array Field}(hg:P.underlying tg=some (.struct fg))(hn:P.underlying tn=some (.struct fn))(hi:P.underlying ti=some (.struct fi))(hl:P.underlying tl=some (.slice tn))(hk:P.underlying tk=some (.slice ti))(hs:P.underlying ts=some (.slice e))(he:P.underlying e=some (.int .i64))
  (cn:P.cellsOf tn=6) (ci:P.cellsOf ti=2) (ce:P.cellsOf e=1) (cs:P.cellsOf ts=1) (cl:P.cellsOf tl=1) (ck:P.cellsOf tk=1) (cg:P.cellsOf tg=3) (be:8≤P.bytesOf e) (bn:48≤P.bytesOf tn) (bi:16≤P.bytesOf ti)
  (tsg:fg.toList.map (·.type)= [e,tl,tk]) (tsn:fn.toList.map (·.type)= [e,e,e,ts,ts,ts]) (tsi:fi.toList.map (·.type)= [e,e])
  (og:∀ (i:Nat) (f:Field),fg[i]? =some f→f.offset=i) (on:∀ (i:Nat) (f:Field),fn[i]? =some f→f.offset=i) (oi:∀ (i:Nat) (f:Field),fi[i]? =some f→f.offset=i):Lays P tg aIU:=by
 have Li:=aHi he;have Ls:=aKb hs he ce be;have Ln:Lays P tn aCo:=by
  refine wO hn tsn (fun i f h=>?_) (by simp [cn,ce,cs]) (gI (E:=qS .i64) (R:=EN5) Li iN (gI (E:=qS .i64) (R:=EN4) Li iN (gI (E:=qS .i64) (R:=EN3) Li iN (gI (E:=vQ .i64) (R:=EN2) Ls pU (gI (E:=vQ .i64) (R:=EN1) Ls pU (gI (E:=vQ .i64) (R:=NoE) Ls pU aBB))))));rw[on i f h];have hlt:i<6:=by
   have:=(Cf.1 h).1;have h6:=Ce List.length tsn;simp only[Ax,Cc,Am,Bg] at h6;omega
  match i,hlt with
  | 0,_=>simp
  | 1,_=>simp [ce]
  | 2,_=>simp [ce]
  | 3,_=>simp [ce]
  | 4,_=>simp [ce,cs]
  | 5,_=>simp [ce,cs]
 have Lin:Lays P ti aDI:=by
  refine wO hi tsi (fun i f h=>?_) (by simp [ci,ce]) (gI (E:=qS .i64) (R:=EI1) Li iN (gI (E:=qS .i64) (R:=NoE) Li iN aBB));rw[oi i f h];have hlt:i<2:=by
   have:=(Cf.1 h).1;have h6:=Ce List.length tsi;simp only[Ax,Cc,Am,Bg] at h6;omega
  match i,hlt with
  | 0,_=>simp
  | 1,_=>simp [ce]
 have Lsn:Lays P tl (yQ 6 aCo):=aAi hl cn (by decide) (by omega) Ln aC0;have Lsi:Lays P tk (yQ 2 aDI):=aAi hk ci (by decide) (by omega) Lin aD9;refine wO hg tsg (fun i f h=>?_) (by simp [cg,ce,cl,ck]) (gI (E:=qS .i64) (R:=EG2) Li iN (gI (E:=yQ 6 aCo) (R:=EG1) Lsn (Ev.firm_sl (E:=aCo) aC0) (gI (E:=yQ 2 aDI) (R:=NoE) Lsi (Ev.firm_sl (E:=aDI) aD9) aBB)));rw[og i f h];have hlt:i<3:=by
  have:=(Cf.1 h).1;have h6:=Ce List.length tsg;simp only[Ax,Cc,Am,Bg] at h6;omega
 match i,hlt with
 | 0,_=>simp
 | 1,_=>simp [ce]
 | 2,_=>simp [ce,cl]
end
end Go.Ev.Gl
