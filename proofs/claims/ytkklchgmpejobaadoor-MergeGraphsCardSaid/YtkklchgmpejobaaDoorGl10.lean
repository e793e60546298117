import Derived.Test.YtkklchgmpejobaaDoorGl9
set_option maxHeartbeats 16000000
set_option linter.unusedSimpArgs false
set_option linter.unusedVariables false
namespace Go.Ev.Gl
variable {fns:T cR}
theorem aAC{h:Ev.T AB}{P P':Fr→Prop}(hP:∀F,P F→P' F):∀ (l:List AO) (F:Fr),kB l F h P→kB l F h P'
 | [],F,hr=>hP F hr
 | ⟨d,.q q,g,mm⟩::l,F,hr=>by
  simp only[kB] at hr ⊢;split at hr
  ·rename_i hw;rw[if_pos hw];obtain⟨w,hw1,hw2,hw3⟩:=hr;exact⟨w,hw1,hw2,aAC hP l _ hw3⟩
  ·rename_i hw;rw[if_neg hw];exact aAC hP l _ hr
 | ⟨d,.a a,g,mm⟩::l,F,hr=>by cases hr
 | ⟨d,.x a,g,mm⟩::l,F,hr=>by cases hr
section
variable {W:Nat→Prop}{S X Y:St}{b:Nat}
end
structure Lay where
 sb:Nat
 ob:Nat
 fb:Nat
 mb:Nat
 kb:Nat
 wb:Nat
 ib:Nat
 rb:Nat
 ab:Nat
 bs:Nat→Nat
 cs:List AV
section
variable {L:Lay}{S0 S1 X Y:St}{n:Nat}{mv:AV}{I F:List Int}{A:List (List Int)}
end
end Go.Ev.Gl
namespace Go.Ev.Gl
theorem aN.conv{k:Nat}{α β:Type}{E:St→List AV→α→Prop}{E':St→List AV→β→Prop}{f:α→β}{S:St}{v:AV}{l:List α}(hf:∀e a,E S e a→E' S e (f a))(h:aN k E S v l):aN k E' S v (l.map f):=by
 rcases h with⟨rfl,h⟩ | ⟨b,off,cap,o,cs,rfl,h2,h3,h4,h5⟩
 ·exact .inl ⟨rfl,h⟩
 ·refine .inr ⟨b,off,cap,o,cs,by rw[Bm],by rw[Bm];exact h2,h3,h4,fun i a hi=>?_⟩;rw[Bb,Ap] at hi;obtain⟨x,hx,rfl⟩:=hi;obtain⟨e,e1,e2,e3⟩:=h5 i x hx;exact⟨e,e1,e2,hf e x e3⟩
theorem aHQ{k:IntKind}{S:St}{v:AV}{l:List Int}(h:aN 1 (oR k) S v l):bJ k S v l:=by
 rcases h with h | ⟨b,off,cap,o,cs,rfl,h2,h3,h4,h5⟩
 ·exact .inl h
 ·refine .inr ⟨b,off,cap,o,cs,rfl,h2,h3,h4,fun i x hi=>?_⟩;obtain⟨e,e1,e2,rfl,_⟩:=h5 i x hi;have:=e2 0 _ rfl;rw[Eb,Bj] at this;exact this
abbrev sT(k:IntKind):St→List AV→List Int→Prop:=vK 1 (oR k)
abbrev EN1:St→List AV→(List Int×Unit)→Prop:=qF (sT .i64) NoE
abbrev EN2:St→List AV→(List Int×List Int×Unit)→Prop:=qF (sT .i64) EN1
abbrev EN3:St→List AV→(List Int×List Int×List Int×Unit)→Prop:=qF (sT .i64) EN2
abbrev EN4:St→List AV→(Int×List Int×List Int×List Int×Unit)→Prop:=qF (oR .i64) EN3
abbrev EN5:St→List AV→(Int×Int×List Int×List Int×List Int×Unit)→Prop:=qF (oR .i64) EN4
abbrev aA5:St→List AV→(Int×Int×Int×List Int×List Int×List Int×Unit)→Prop:=qF (oR .i64) EN5
abbrev EI1:St→List AV→(Int×Unit)→Prop:=qF (oR .i64) NoE
abbrev aBo:St→List AV→(Int×Int×Unit)→Prop:=qF (oR .i64) EI1
abbrev EG1:St→List AV→(List (Int×Int×Unit)×Unit)→Prop:=qF (vK 2 aBo) NoE
abbrev EG2:St→List AV→(List (Int×Int×Int×List Int×List Int×List Int×Unit)×List (Int×Int×Unit)×Unit)→Prop:=qF (vK 6 aA5) EG1
abbrev aG1:St→List AV→(Int×List (Int×Int×Int×List Int×List Int×List Int×Unit)×List (Int×Int×Unit)×Unit)→Prop:=qF (oR .i64) EG2
theorem nH{k:IntKind}:mI (sT k):=Ev.firm_sl (E:=oR k) gG
theorem aLp:mI EN1:=kL (E:=sT .i64) (R:=NoE) nH aGW
theorem aKl:mI EN2:=kL (E:=sT .i64) (R:=EN1) nH aLp
theorem aLf:mI EN3:=kL (E:=sT .i64) (R:=EN2) nH aKl
theorem aKX:mI EN4:=kL (E:=oR .i64) (R:=EN3) gG aLf
theorem aKk:mI EN5:=kL (E:=oR .i64) (R:=EN4) gG aKX
theorem aBq:mI aA5:=kL (E:=oR .i64) (R:=EN5) gG aKk
theorem aK3:mI EI1:=kL (E:=oR .i64) (R:=NoE) gG aGW
theorem aCx:mI aBo:=kL (E:=oR .i64) (R:=EI1) gG aK3
def aE3(a:Int×Int×Int×List Int×List Int×List Int×Unit):dD:=⟨a.1,a.2.1,a.2.2.1,a.2.2.2.1,a.2.2.2.2.1,a.2.2.2.2.2.1⟩
def aLE(a:Int×Int×Unit):aDc:=⟨a.1,a.2.1⟩
theorem aD3{k:IntKind}{S:St}{avs:List AV}{l:List Int}(h:sT k S avs l):∃v,avs= [v]∧bJ k S v l:=by
 obtain⟨v,h1,h2⟩:=vK.is h;exact⟨v,h1,aHQ h2⟩
theorem aLr{S:St}{e:List AV}{a:Int×Int×Int×List Int×List Int×List Int×Unit}(h:aA5 S e a):bT S e (aE3 a):=by
 obtain⟨_,_,rfl,⟨rfl,_⟩,_,_,rfl,⟨rfl,_⟩,_,_,rfl,⟨rfl,_⟩,_,_,rfl,h1,_,_,rfl,h2,_,_,rfl,h3,rfl⟩:=h;obtain⟨v1,rfl,i1⟩:=aD3 h1;obtain⟨v2,rfl,i2⟩:=aD3 h2;obtain⟨v3,rfl,i3⟩:=aD3 h3;exact⟨v1,v2,v3,rfl,i1,i2,i3⟩
theorem aKK{S:St}{e:List AV}{a:Int×Int×Unit}(h:aBo S e a):bZ S e (aLE a):=by
 obtain⟨_,_,rfl,⟨rfl,_⟩,_,_,rfl,⟨rfl,_⟩,rfl⟩:=h;rfl
def aEg(g:aZ):Prop:=g.infos.length * 16≤140737488355328∧∀x∈g.nodes,x.next.length * 8≤140737488355328∧x.weights.length * 8≤140737488355328∧x.pay.length * 8≤140737488355328
theorem yD{k:Nat}{α:Type}{E:St→List AV→α→Prop}{S:St}{avs:List AV}{l:List α}(h:vK k E S avs l):l.length * (8 * k)≤140737488355328:=by
 obtain⟨_,_,h,_⟩:=h;exact h
theorem aKq{k:Nat}{α:Type}{E:St→List AV→α→Prop}{S:St}{avs:List AV}{l:List α}(h:vK k E S avs l){a:α}(ha:a∈l):∃cs,E S cs a:=by
 obtain⟨_,_,_,⟨rfl,_⟩ | ⟨b,cap,css,_,_,_,_,h5,h6⟩⟩:=h
 ·cases ha
 ·obtain⟨i,hi⟩:=List.mem_iff_getElem?.1 ha;have hlt:=(Af.1 hi).1;exact⟨_,(h6 i css[i] a (Ad (by omega)) hi).2⟩
theorem aH2{S:St}{e:List AV}{a:Int×Int×Int×List Int×List Int×List Int×Unit}(h:aA5 S e a):(aE3 a).next.length * 8≤140737488355328∧(aE3 a).weights.length * 8≤140737488355328∧(aE3 a).pay.length * 8≤140737488355328:=by
 obtain⟨_,_,rfl,⟨rfl,_⟩,_,_,rfl,⟨rfl,_⟩,_,_,rfl,⟨rfl,_⟩,_,_,rfl,h1,_,_,rfl,h2,_,_,rfl,h3,rfl⟩:=h;exact⟨yD h1,yD h2,yD h3⟩
theorem aLn{S:St}{avs:List AV}{a:Int×List (Int×Int×Int×List Int×List Int×List Int×Unit)×List (Int×Int×Unit)×Unit}(h:aG1 S avs a):∃nv iv,∃g:aZ,avs= [.int .i64 g.players,nv,iv]∧aN 6 bT S nv g.nodes∧aN 2 bZ S iv g.infos∧aEg g:=by
 obtain⟨_,_,rfl,⟨rfl,_⟩,_,_,rfl,h1,_,_,rfl,h2,rfl⟩:=h;obtain⟨v1,rfl,i1⟩:=vK.is h1;obtain⟨v2,rfl,i2⟩:=vK.is h2;refine⟨v1,v2,⟨a.1,a.2.1.map aE3,a.2.2.1.map aLE⟩,rfl,aN.conv (fun e x h=>aLr h) i1,aN.conv (fun e x h=>aKK h) i2,⟨(by have:=yD h2;rw[Bm];exact this),fun x hx=>?_⟩⟩;obtain⟨y,hy,rfl⟩:=Ea.1 hx;obtain⟨cs,hcs⟩:=aKq h1 hy;exact aH2 hcs
section
variable {P:Program}{σ:Env}{S:St}{w:World}
theorem aLP{v:Value}{n:Nat}(hn:n≠1)(hl:v.cells.toList.length=n):v= .agg ⟨v.cells.toList⟩:=by
 cases v with
 | agg cs=>rfl
 | _=>exact absurd (by simpa [Value.cells] using hl.symm) hn
theorem aJC{t:TypeId}{H:Type}{enc:TypeId×Value→H}{base:Nat}{spare:Nat→Bool}{held:Bool}{fuel:Nat}{v:Value}{x:DataW H×List MemPlace}(hR:gW P σ S w)(hn:vW S)(hf:vX S)(hG:P.globals.size≤S.nx)(hL:Lays P t aG1)(h:DataW.trod enc P w base spare held fuel t v.cells.toList=some x)(hW:∀n∈DataW.weights P t x.1,n≤140737488355328):
  ∃σ' S' nv iv,∃g:aZ,mN P σ S w σ' S'∧Rv P σ' (.agg [.int .i64 g.players,nv,iv]) v∧aN 6 bT S' nv g.nodes∧aN 2 bZ S' iv g.infos∧S.nx≤S'.nx∧aEg g:=by
 obtain⟨σ',S',avs,a,hA,hr,h1,hE,hnx⟩:=hL H enc σ S w base spare held fuel _ x hR hn hf hG h hW;obtain⟨nv,iv,g,rfl,i1,i2,hT⟩:=aLn hE;refine⟨σ',S',nv,iv,g,hA,?_,i1,i2,hnx,hT⟩;have hl:=hr.length;rw[aLP (v:=v) (n:=3) (by decide) (by rw[hl];rfl)];simp only[Rv];exact⟨_,rfl,hr,h1⟩
theorem aH7{t e:TypeId}{k:IntKind}(ht:P.underlying t=some (.slice e))(he:P.underlying e=some (.int k))(hc:P.cellsOf e=1)(hby:8≤P.bytesOf e):Lays P t (sT k):=wJ ht hc (by decide) (by omega) (aFo he) gG
theorem aIk{tg tn tl ti tk ts e:TypeId}{fg fn fi:Array Field}(hg:P.underlying tg=some (.struct fg))(hn:P.underlying tn=some (.struct fn))(hi:P.underlying ti=some (.struct fi))(hl:P.underlying tl=some (.slice tn))(hk:P.underlying tk=some (.slice ti))(hs:P.underlying ts=some (.slice e))(he:P.underlying e=some (.int .i64))
  (cn:P.cellsOf tn=6) (ci:P.cellsOf ti=2) (ce:P.cellsOf e=1) (cs:P.cellsOf ts=1) (cl:P.cellsOf tl=1) (ck:P.cellsOf tk=1) (cg:P.cellsOf tg=3) (be:8≤P.bytesOf e) (bn:48≤P.bytesOf tn) (bi:16≤P.bytesOf ti)
  (tsg:fg.toList.map (·.type)= [e,tl,tk]) (tsn:fn.toList.map (·.type)= [e,e,e,ts,ts,ts]) (tsi:fi.toList.map (·.type)= [e,e])
  (og:∀ (i:Nat) (f:Field),fg[i]? =some f→f.offset=i) (on:∀ (i:Nat) (f:Field),fn[i]? =some f→f.offset=i) (oi:∀ (i:Nat) (f:Field),fi[i]? =some f→f.offset=i):Lays P tg aG1:=by
 have Li:=aFo he;have Ls:=aH7 hs he ce be;have Ln:Lays P tn aA5:=by
  refine uM hn tsn (fun i f h=>?_) (by simp [cn,ce,cs]) (fN (E:=oR .i64) (R:=EN5) Li gG (fN (E:=oR .i64) (R:=EN4) Li gG (fN (E:=oR .i64) (R:=EN3) Li gG (fN (E:=sT .i64) (R:=EN2) Ls nH (fN (E:=sT .i64) (R:=EN1) Ls nH (fN (E:=sT .i64) (R:=NoE) Ls nH zW))))));rw[on i f h];have hlt:i<6:=by
   have:=(Bz.1 h).1;have h6:=Ci List.length tsn;simp only[Bm,Bv,Al,Az] at h6;omega
  match i,hlt with
  | 0,_=>simp
  | 1,_=>simp [ce]
  | 2,_=>simp [ce]
  | 3,_=>simp [ce]
  | 4,_=>simp [ce,cs]
  | 5,_=>simp [ce,cs]
 have Lin:Lays P ti aBo:=by
  refine uM hi tsi (fun i f h=>?_) (by simp [ci,ce]) (fN (E:=oR .i64) (R:=EI1) Li gG (fN (E:=oR .i64) (R:=NoE) Li gG zW));rw[oi i f h];have hlt:i<2:=by
   have:=(Bz.1 h).1;have h6:=Ci List.length tsi;simp only[Bm,Bv,Al,Az] at h6;omega
  match i,hlt with
  | 0,_=>simp
  | 1,_=>simp [ce]
 have Lsn:Lays P tl (vK 6 aA5):=wJ hl cn (by decide) (by omega) Ln aBq;have Lsi:Lays P tk (vK 2 aBo):=wJ hk ci (by decide) (by omega) Lin aCx;refine uM hg tsg (fun i f h=>?_) (by simp [cg,ce,cl,ck]) (fN (E:=oR .i64) (R:=EG2) Li gG (fN (E:=vK 6 aA5) (R:=EG1) Lsn (Ev.firm_sl (E:=aA5) aBq) (fN (E:=vK 2 aBo) (R:=NoE) Lsi (Ev.firm_sl (E:=aBo) aCx) zW)));rw[og i f h];have hlt:i<3:=by
  have:=(Bz.1 h).1;have h6:=Ci List.length tsg;simp only[Bm,Bv,Al,Az] at h6;omega
 match i,hlt with
 | 0,_=>simp
 | 1,_=>simp [ce]
 | 2,_=>simp [ce,cl]
end
end Go.Ev.Gl
