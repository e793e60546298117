import Derived.Test.YtiiplmagnlcpbaaGreatDoorGl9
set_option linter.unusedSimpArgs false
set_option linter.unusedVariables false
set_option maxHeartbeats 0
namespace Go.Ev.Gl
variable {fns:T cM}
section
variable {W:Nat->Prop}{S X Y:St}{b:Nat}
end
structure Lay where
 sb:Nat
 ob:Nat
 fb:Nat
 mb:Nat
 kb:Nat
 wb:Nat
 ib:Nat
 rb:Nat
 ab:Nat
 bs:Nat->Nat
 cs:bo
section
variable {L:Lay}{S0 S1 X Y:St}{n:Nat}{mv:AV}{I F:bm}{A:List (bm)}
end
end Go.Ev.Gl
namespace Go.Ev.Gl
theorem aW.conv{k:Nat}{α β:Type}{E:St->bo->α->Prop}{E':St->bo->β->Prop}{f:α->β}{S:St}{v:AV}{l:List α}(hf:∀e a,E S e a->E' S e (f a))(h:aW k E S v l):aW k E' S v (l.map f):=by
 rcases h with⟨rfl,h⟩ | ⟨b,off,cap,o,cs,rfl,h2,h3,h4,h5⟩
 ·exact .inl ⟨rfl,h⟩
 ·refine .inr ⟨b,off,cap,o,cs,by rw[Bc],by rw[Bc];exact h2,h3,h4,fun i a hi=>?_⟩;rw[Bk,An] at hi;obtain⟨x,hx,rfl⟩:=hi;have⟨e,e1,e2,e3⟩:=h5 i x hx;exact⟨e,e1,e2,hf e x e3⟩
theorem aJY{k:IntKind}{S:St}{v:AV}{l:bm}(h:aW 1 (qO k) S v l):dE k S v l:=by
 rcases h with h | ⟨b,off,cap,o,cs,rfl,h2,h3,h4,h5⟩
 ·exact .inl h
 ·refine .inr ⟨b,off,cap,o,cs,rfl,h2,h3,h4,fun i x hi=>?_⟩;obtain⟨e,e1,e2,rfl,_⟩:=h5 i x hi;have:=e2 0 _ rfl;rw[Bp,Bi] at this;exact this
abbrev rO(k:IntKind):St->bo->bm->Prop:=yA 1 (qO k)
abbrev EN1:St->bo->(bm×Unit)->Prop:=tI (rO .i64) NoE
abbrev EN2:St->bo->(bm×bm×Unit)->Prop:=tI (rO .i64) EN1
abbrev EN3:St->bo->(bm×bm×bm×Unit)->Prop:=tI (rO .i64) EN2
abbrev EN4:St->bo->(Int×bm×bm×bm×Unit)->Prop:=tI (qO .i64) EN3
abbrev EN5:St->bo->(Int×Int×bm×bm×bm×Unit)->Prop:=tI (qO .i64) EN4
abbrev aB1:St->bo->(Int×Int×Int×bm×bm×bm×Unit)->Prop:=tI (qO .i64) EN5
abbrev EI1:St->bo->(Int×Unit)->Prop:=tI (qO .i64) NoE
abbrev aC1:St->bo->(Int×Int×Unit)->Prop:=tI (qO .i64) EI1
abbrev EG1:St->bo->(List (Int×Int×Unit)×Unit)->Prop:=tI (yA 2 aC1) NoE
abbrev EG2:St->bo->(List (Int×Int×Int×bm×bm×bm×Unit)×List (Int×Int×Unit)×Unit)->Prop:=tI (yA 6 aB1) EG1
abbrev aJq:St->bo->(Int×List (Int×Int×Int×bm×bm×bm×Unit)×List (Int×Int×Unit)×Unit)->Prop:=tI (qO .i64) EG2
theorem pM{k:IntKind}:pJ (rO k):=Ev.ct (E:=qO k) jF
theorem aN1:pJ EN1:=mH (E:=rO .i64) (R:=NoE) pM aJK
theorem aOa:pJ EN2:=mH (E:=rO .i64) (R:=EN1) pM aN1
theorem aOq:pJ EN3:=mH (E:=rO .i64) (R:=EN2) pM aOa
theorem aND:pJ EN4:=mH (E:=qO .i64) (R:=EN3) jF aOq
theorem aNZ:pJ EN5:=mH (E:=qO .i64) (R:=EN4) jF aND
theorem aCX:pJ aB1:=mH (E:=qO .i64) (R:=EN5) jF aNZ
theorem aNj:pJ EI1:=mH (E:=qO .i64) (R:=NoE) jF aJK
theorem aD5:pJ aC1:=mH (E:=qO .i64) (R:=EI1) jF aNj
def aHE(a:Int×Int×Int×bm×bm×bm×Unit):fO:=⟨a.1,a.2.1,a.2.2.1,a.2.2.2.1,a.2.2.2.2.1,a.2.2.2.2.2.1⟩
def aOz(a:Int×Int×Unit):aG5:=⟨a.1,a.2.1⟩
theorem aCo{k:IntKind}{S:St}{avs:bo}{l:bm}(h:rO k S avs l):∃v,avs= [v]/\dE k S v l:=by
 have⟨v,h1,h2⟩:=yA.is h;exact⟨v,h1,aJY h2⟩
theorem aOe{S:St}{e:bo}{a:Int×Int×Int×bm×bm×bm×Unit}(h:aB1 S e a):cI S e (aHE a):=by
 obtain⟨_,_,rfl,⟨rfl,_⟩,_,_,rfl,⟨rfl,_⟩,_,_,rfl,⟨rfl,_⟩,_,_,rfl,h1,_,_,rfl,h2,_,_,rfl,h3,rfl⟩:=h;obtain⟨v1,rfl,i1⟩:=aCo h1;obtain⟨v2,rfl,i2⟩:=aCo h2;obtain⟨v3,rfl,i3⟩:=aCo h3;exact⟨v1,v2,v3,rfl,i1,i2,i3⟩
theorem aOg{S:St}{e:bo}{a:Int×Int×Unit}(h:aC1 S e a):eT S e (aOz a):=by
 obtain⟨_,_,rfl,⟨rfl,_⟩,_,_,rfl,⟨rfl,_⟩,rfl⟩:=h;rfl
def aO3(g:aZ):Prop:=g.b7.length * 16<=140737488355328/\∀x∈g.bw,x.next.length * 8<=140737488355328/\x.weights.length * 8<=140737488355328/\x.pay.length * 8<=140737488355328
theorem aAV{k:Nat}{α:Type}{E:St->bo->α->Prop}{S:St}{avs:bo}{l:List α}(h:yA k E S avs l):l.length * (8 * k)<=140737488355328:=by
 have⟨_,_,h,_⟩:=h;exact h
theorem aNV{k:Nat}{α:Type}{E:St->bo->α->Prop}{S:St}{avs:bo}{l:List α}(h:yA k E S avs l){a:α}(ha:a∈l):∃cs,E S cs a:=by
 obtain⟨_,_,_,⟨rfl,_⟩ | ⟨b,cap,css,_,_,_,_,h5,h6⟩⟩:=h
 ·cases ha
 ·have⟨i,hi⟩:=List.mem_iff_getElem?.1 ha;have hlt:=(Aj.1 hi).1;exact⟨_,(h6 i css[i] a (Ad au) hi).2⟩
theorem aJV{S:St}{e:bo}{a:Int×Int×Int×bm×bm×bm×Unit}(h:aB1 S e a):(aHE a).next.length * 8<=140737488355328/\(aHE a).weights.length * 8<=140737488355328/\(aHE a).pay.length * 8<=140737488355328:=by
 obtain⟨_,_,rfl,⟨rfl,_⟩,_,_,rfl,⟨rfl,_⟩,_,_,rfl,⟨rfl,_⟩,_,_,rfl,h1,_,_,rfl,h2,_,_,rfl,h3,rfl⟩:=h;exact⟨aAV h1,aAV h2,aAV h3⟩
theorem aNU{S:St}{avs:bo}{a:Int×List (Int×Int×Int×bm×bm×bm×Unit)×List (Int×Int×Unit)×Unit}(h:aJq S avs a):∃nv iv,∃g:aZ,avs= [.int .i64 g.b8,nv,iv]/\aW 6 cI S nv g.bw/\aW 2 eT S iv g.b7/\aO3 g:=by
 obtain⟨_,_,rfl,⟨rfl,_⟩,_,_,rfl,h1,_,_,rfl,h2,rfl⟩:=h;obtain⟨v1,rfl,i1⟩:=yA.is h1;obtain⟨v2,rfl,i2⟩:=yA.is h2;refine⟨v1,v2,⟨a.1,a.2.1.map aHE,a.2.2.1.map aOz⟩,rfl,aW.conv (fun e x h=>aOe h) i1,aW.conv (fun e x h=>aOg h) i2,⟨(by have:=aAV h2;rw[Bc];exact this),fun x hx=>?_⟩⟩;obtain⟨y,hy,rfl⟩:=Ga.1 hx;have⟨cs,hcs⟩:=aNV h1 hy;exact aJV hcs
section
variable {P:Program}{σ:Env}{S:St}{w:World}
theorem aPI{v:Value}{n:Nat}(hn:n≠1)(hl:v.cells.toList.length=n):v= .agg ⟨v.cells.toList⟩:=by
 cases v with
 | agg cs=>rfl
 | _=>exact absurd (by simpa [Value.cells] using hl.symm) hn
theorem aLI{t:TypeId}{H:Type}{enc:TypeId×Value->H}{base:Nat}{spare:Nat->Bool}{held:Bool}{fuel:Nat}{v:Value}{x:DataW H×List MemPlace}(hR:jX P σ S w)(hn:xB S)(hf:kO S)(hG:P.globals.size<=S.nx)(hL:Lays P t aJq)(h:DataW.trod enc P w base spare held fuel t v.cells.toList=some x)(hW:∀n∈DataW.weights P t x.1,n<=140737488355328):
  ∃σ' S' nv iv,∃g:aZ,oJ P σ S w σ' S'/\Rv P σ' (.agg [.int .i64 g.b8,nv,iv]) v/\aW 6 cI S' nv g.bw/\aW 2 eT S' iv g.b7/\S.nx<=S'.nx/\aO3 g:=by
 have⟨σ',S',avs,a,hA,hr,h1,hE,hnx⟩:=hL H enc σ S w base spare held fuel _ x hR hn hf hG h hW;obtain⟨nv,iv,g,rfl,i1,i2,hT⟩:=aNU hE;refine⟨σ',S',nv,iv,g,hA,?_,i1,i2,hnx,hT⟩;have hl:=hr.length;rw[aPI (v:=v) (n:=3) ay (by rw[hl];rfl)];simp only[Rv];exact⟨_,rfl,hr,h1⟩
theorem aMo{t:TypeId}{k:IntKind}{H:Type}{enc:TypeId×Value->H}{base:Nat}{spare:Nat->Bool}{held:Bool}{fuel:Nat}{v:Value}{x:DataW H×List MemPlace}(hR:jX P σ S w)(hn:xB S)(hf:kO S)(hG:P.globals.size<=S.nx)(hL:Lays P t (rO k))(h:DataW.trod enc P w base spare held fuel t v.cells.toList=some x)(hv:v.cells.toList= [v])(hW:∀n∈DataW.weights P t x.1,n<=140737488355328):
  ∃σ' S' a l,oJ P σ S w σ' S'/\Rv P σ' a v/\dE k S' a l/\S.nx<=S'.nx:=by
 have⟨σ',S',avs,l,hA,hr,h1,hE,hnx⟩:=hL H enc σ S w base spare held fuel _ x hR hn hf hG h hW;obtain⟨a,rfl,i1⟩:=aCo hE;rw[hv] at hr;have⟨_,_,h2,h3,h4⟩:=cG.1 hr;cases h2;exact⟨σ',S',a,l,hA,h3,i1,hnx⟩
theorem aEL{t e:TypeId}{k:IntKind}(ht:P.underlying t=some (.slice e))(he:P.underlying e=some (.int k))(hc:P.cellsOf e=1)(hby:8<=P.bytesOf e):Lays P t (rO k):=zF ht hc ay au (aHS he) jF
theorem aKy{tg tn tl ti tk ts e:TypeId}{fg fn fi:Array Field}(hg:P.underlying tg=some (.struct fg))(hn:P.underlying tn=some (.struct fn))(hi:P.underlying ti=some (.struct fi))(hl:P.underlying tl=some (.slice tn))(hk:P.underlying tk=some (.slice ti))(hs:P.underlying ts=some (.slice e))(he:P.underlying e=some (.int .i64))
  (cn:P.cellsOf tn=6) (ci:P.cellsOf ti=2) (ce:P.cellsOf e=1) (cs:P.cellsOf ts=1) (cl:P.cellsOf tl=1) (ck:P.cellsOf tk=1) (cg:P.cellsOf tg=3) (be:8<=P.bytesOf e) (bn:48<=P.bytesOf tn) (bi:16<=P.bytesOf ti)
  (tsg:fg.toList.map (·.type)= [e,tl,tk]) (tsn:fn.toList.map (·.type)= [e,e,e,ts,ts,ts]) (tsi:fi.toList.map (·.type)= [e,e])
  (og:∀ (i:Nat) (f:Field),fg[i]? =some f->f.offset=i) (on:∀ (i:Nat) (f:Field),fn[i]? =some f->f.offset=i) (oi:∀ (i:Nat) (f:Field),fi[i]? =some f->f.offset=i):Lays P tg aJq:=by
 have Li:=aHS he;have Ls:=aEL hs he ce be;have Ln:Lays P tn aB1:=by
  refine vV hn tsn (fun i f h=>?_) (by simp [cn,ce,cs]) (iH (E:=qO .i64) (R:=EN5) Li jF (iH (E:=qO .i64) (R:=EN4) Li jF (iH (E:=qO .i64) (R:=EN3) Li jF (iH (E:=rO .i64) (R:=EN2) Ls pM (iH (E:=rO .i64) (R:=EN1) Ls pM (iH (E:=rO .i64) (R:=NoE) Ls pM aA6))))));rw[on i f h];have hlt:i<6:=by
   have:=(Cv.1 h).1;have h6:=Hb List.length tsn;simp only[Bc,Dt,Ax,Cd] at h6;omega
  match i,hlt with
  | 0,_=>simp
  | 1,_=>simp [ce]
  | 2,_=>simp [ce]
  | 3,_=>simp [ce]
  | 4,_=>simp [ce,cs]
  | 5,_=>simp [ce,cs]
 have Lin:Lays P ti aC1:=by
  refine vV hi tsi (fun i f h=>?_) (by simp [ci,ce]) (iH (E:=qO .i64) (R:=EI1) Li jF (iH (E:=qO .i64) (R:=NoE) Li jF aA6));rw[oi i f h];have hlt:i<2:=by
   have:=(Cv.1 h).1;have h6:=Hb List.length tsi;simp only[Bc,Dt,Ax,Cd] at h6;omega
  match i,hlt with
  | 0,_=>simp
  | 1,_=>simp [ce]
 have Lsn:Lays P tl (yA 6 aB1):=zF hl cn ay au Ln aCX;have Lsi:Lays P tk (yA 2 aC1):=zF hk ci ay au Lin aD5;refine vV hg tsg (fun i f h=>?_) (by simp [cg,ce,cl,ck]) (iH (E:=qO .i64) (R:=EG2) Li jF (iH (E:=yA 6 aB1) (R:=EG1) Lsn (Ev.ct (E:=aB1) aCX) (iH (E:=yA 2 aC1) (R:=NoE) Lsi (Ev.ct (E:=aC1) aD5) aA6)));rw[og i f h];have hlt:i<3:=by
  have:=(Cv.1 h).1;have h6:=Hb List.length tsg;simp only[Bc,Dt,Ax,Cd] at h6;omega
 match i,hlt with
 | 0,_=>simp
 | 1,_=>simp [ce]
 | 2,_=>simp [ce,cl]
end
end Go.Ev.Gl
