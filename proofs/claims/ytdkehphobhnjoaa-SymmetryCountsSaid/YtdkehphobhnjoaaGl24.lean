import Derived.Test.YtdkehphobhnjoaaGl23
import Derived.Sort.AssemblyPlain
open Nat renaming reduceEqDiff -> rE, reduceAdd -> rA
set_option maxHeartbeats 0
set_option linter.unusedSimpArgs false
set_option linter.unusedVariables false
namespace Go.Ev.Gl
open Go.Sort
variable {fns:T dU}
def El(agg:Bool)(k:Nat)(x:AV)(cs:b6):Prop:=cs.length=k/\cT x x=true/\x.cells=some cs/\if agg=true then x= .agg cs else cs= [x]
structure Ctx(fns:T dU)(agg:Bool)(k:Nat) where
 b:Nat
 off:Nat
 n:Nat
 v:AV
 opn:Bool
 sz:Nat
 pre:b6
 post:b6
 cl:AV->b6
 P:AV->Prop
 f:AV
 I:St->Prop
 lt:AV->AV->Bool
 hpre:pre.length=off
 hcl:∀x,P x->El agg k x (cl x)
 hv:0<n->∃cap o,v= .sl b off n cap o
 hn:n<=1000000000
 hI:∀S S',I S->cC b S S'->I S'
 cmp:∀S x y,I S->P x->P y->gH fns f [x,y] S fun r S'=>Same S S'/\∃c:Int,r= .int .i64 c/\decide (c<0)=lt x y
variable {agg:Bool}{k:Nat}
def Ctx.At(C:Ctx fns agg k)(S:St)(d:Array AV):Prop:=d.size=C.n/\(∀i,i<C.n->C.P d[i]!)/\(0<C.n->C.b<S.nx/\S.h.get C.b=some (.cells (C.pre++d.toList.flatMap C.cl++C.post) C.opn C.sz))
def Ctx.On(C:Ctx fns agg k)(S0 S:St)(d:Array AV):Prop:=C.At S d/\C.I S/\cC C.b S0 S
theorem aNY(d:Array AV){i:Nat}(h:i<d.size):d.toList[i]? =some d[i]! :=by
 rw[getElem!_pos d i h];simp [h]
theorem aHC{b:Nat}{S S':St}(h:Same S S'):cC b S S':=⟨h.1,fun c hc _=>h.2 c hc⟩
theorem aNE{cl:AV->b6}:∀ {l:b6} {i:Nat} {x:AV},(∀y∈l,(cl y).length=k)->l[i]? =some x->((l.flatMap cl).drop (i * k)).take k=cl x
 | [],i,x,_,h=>by simp at h
 | y::l,0,x,hk,h=>by
  simp at h;subst h;have:=hk y (by simp);rw[Er,Cy,Di,En ay,Bb ay]
 | y::l,i+1,x,hk,h=>by
  have h1:=hk y (by simp);rw[Er,Cm,Fq,<-h1,<-List.drop_drop,List.drop_left,h1];exact aNE (fun z hz=>hk z (by simp [hz])) (by simpa using h)
theorem aM7{cl:AV->b6}:∀ {l:b6},(∀y∈l,(cl y).length=k)->(l.flatMap cl).length=l.length * k
 | [],_=>by simp
 | y::l,hk=>by
  rw[Er,Ai,hk y (by simp),aM7 fun z hz=>hk z (by simp [hz]),Aw,Cm,Fq]
theorem aL3{cl:AV->b6}:∀ {l:b6} {i:Nat} {x:AV},(∀y∈l,(cl y).length=k)->i<l.length->(l.flatMap cl).take (i * k)++cl x++(l.flatMap cl).drop (i * k+k)=(l.set i x).flatMap cl
 | [],i,x,_,h=>by simp at h
 | y::l,0,x,hk,h=>by
  have h1:=hk y (by simp);rw[Cy,Bw,Bq,An,List.set_cons_zero,Er,Er,<-h1,List.drop_left]
 | y::l,i+1,x,hk,h=>by
  have h1:=hk y (by simp);rw[List.set_cons_succ,Er,Er,<-aL3 (fun z hz=>hk z (by simp [hz])) (by simpa using h),show(i+1) * k+k=(cl y).length+(i * k+k) by rw[Cm];omega,show(i+1) * k=(cl y).length+i * k by rw[Cm];omega,List.take_length_add_append,<-List.drop_drop,List.drop_left];simp only[Bd]
theorem aLT{p u q:b6}{o:Nat}{m:Nat}(hp:p.length=o)(hm:m<=u.length):(p++u++q).take (o+m)=p++u.take m:=by
 subst hp;rw[Bd,List.take_length_add_append,En hm]
theorem aGF{p u q:b6}{o:Nat}{m:Nat}(hp:p.length=o)(hm:m<=u.length):(p++u++q).drop (o+m)=u.drop m++q:=by
 subst hp;rw[Bd,<-List.drop_drop,List.drop_left,List.drop_append_of_le_length hm]
theorem aOn{S:St}{b p sz n:Nat}{cs e:b6}{o:Bool}(h:S.h.get b=some (.cells cs o sz))(hp:p+e.length<=cs.length)(hn:e.length=n):mJ (.ptr b p) n e S=some (.undef,⟨S.h.set b (some (.cells (cs.take p++e++cs.drop (p+e.length)) o sz)),S.nx⟩):=by
 simp only[mJ,fL,hn,pJ,h,aN,vX,put_eq];rw[show Nat.beq n n=true from Fk n,aO];rw[hn] at hp;rw[if_pos hp];rfl
theorem aPP{h:T AB}{b p:Nat}{cs e:b6}{x:AV}{o:Bool}{s:Nat}(hb:h.get b=some (.cells cs o s))(he:(cs.drop p).take k=e)(hx:El agg k x e):eQ (.ptr b p) agg k h=some x:=by
 have⟨h1,h2,h3,h4⟩:=hx;have hlen:k<=(cs.drop p).length:=by
  have:=congrArg List.length he;rw[Bp] at this;omega
 cases agg with
 | true=>
  rw[if_pos rfl] at h4;have e1:uY h b p k=some e:=by
   unfold uY cJ;rw[hb];show cut cs p k=some e;unfold cut;rw[fU,fZ,if_pos hlen,he]
  simp only[eQ,nP,aO,e1,aN,h4]
 | false=>
  rw[if_neg (by simp)] at h4;subst h4;have hk1:k=1:=by simpa using h1.symm
  subst hk1;have hp:cs[p]? =some x:=by
   have hh:=congrArg (fun l=>l[0]?) he;simp only[List.getElem?_take,Fa,Bh] at hh;simpa using hh
  have e1:mM h b p=some x:=by
   unfold mM cJ;rw[hb];show nth cs p=some x;rw[mZ,hp]
  simp only[eQ,nP,aT,e1]
section
variable {C:Ctx fns agg k}{S S0 S':St}{d:Array AV}{i j:Nat}
def Ctx.pt(C:Ctx fns agg k)(i:Nat):AV:=.ptr C.b (C.off+i * k)
theorem Ctx.At.all(h:C.At S d):∀y∈d.toList,C.P y:=fun y hy=>by
 have⟨i,hi⟩:=List.getElem?_of_mem hy;have hl:=(Aj.1 hi).1;have hl:i<d.size:=by simpa using hl
 rw[aNY d hl] at hi;cases hi;exact h.2.1 i (az h.1)
theorem Ctx.At.kk(h:C.At S d):∀y∈d.toList,(C.cl y).length=k:=fun y hy=>(C.hcl y (h.all y hy)).1
theorem Ctx.ia(C:Ctx fns agg k)(hi:i<C.n):fC (.slice k) C.v i=some (C.pt i):=by
 have⟨cap,o,e⟩:=C.hv ay;rw[e];simp only[fC];rw[show Nat.blt i C.n=true from Ak hi,aO];rfl
theorem Ctx.At.len(h:C.At S d):(d.toList.flatMap C.cl).length=C.n * k:=by rw[aM7 h.kk,Cu,h.1]
theorem aMm{i n:Nat}(hi:i<n)(k:Nat):i * k+k<=n * k:=by
 have:=Cj k (show i+1<=n from hi)
 rwa [Cm] at this
theorem Ctx.At.ld(h:C.At S d)(hi:i<C.n):eQ (C.pt i) agg k S.h=some d[i]! :=by
 have hlen:=h.len;have⟨h1,h2,h3⟩:=id h;have hm:=aMm hi k;refine aPP (h3 ay).2 ?_ (C.hcl _ (h2 i hi));rw[aGF C.hpre ay,En (by rw[De];omega)];exact aNE h.kk (aNY d ay)
theorem Ctx.At.cells(h:C.At S d)(hi:i<C.n):(d[i]!).cells=some (C.cl d[i]!):=(C.hcl _ (h.2.1 i hi)).2.2.1
theorem Ctx.At.self(h:C.At S d)(hi:i<C.n):cT d[i]! d[i]! =true:=(C.hcl _ (h.2.1 i hi)).2.1
theorem Ctx.At.st{x:AV}(h:C.At S d)(hi:i<C.n)(hx:C.P x):∃S',mJ (C.pt i) k (C.cl x) S=some (.undef,S')/\C.At S' (d.setIfInBounds i x)/\S'.nx=S.nx/\cC C.b S S':=by
 have hlen:=h.len;have⟨h1,h2,h3⟩:=id h;have hm:=aMm hi k;have hk:=(C.hcl x hx).1;have⟨h3,h4⟩:=h3 ay;refine⟨_,aOn h4 (by simp only[Ai,C.hpre];omega) hk,⟨by simpa using h1,fun j hj=>?_,fun _=>⟨h3,?_⟩⟩,rfl,(cC.refl _ _).put _⟩
 ·by_cases hij:i=j
  ·subst hij;rw[getElem!_pos _ i (by simp;omega)];simpa using hx
  ·rw[getElem!_pos _ j (by simp;omega)];have:=h2 j hj;rw[getElem!_pos _ j ay] at this;rw[Array.getElem_setIfInBounds,if_neg hij];exact this
 ·simp only;rw[dd,if_pos rfl,hk,Db,aLT C.hpre ay,aGF C.hpre ay];congr 2;rw[Ed,<-aL3 h.kk (by rw[Cu];omega)];simp only[Bd]
theorem Ctx.At.but(h:C.At S d)(hs:Same S S'):C.At S' d:=⟨h.1,h.2.1,fun hn=>⟨Ae (h.2.2 hn).1 hs.1,(hs.2 _ (h.2.2 hn).1).trans (h.2.2 hn).2⟩⟩
theorem Ctx.On.step(h:C.On S0 S d)(hs:Same S S'):C.On S0 S' d:=⟨h.1.but hs,C.hI _ _ h.2.1 (aHC hs),h.2.2.trans (aHC hs)⟩
theorem Ctx.On.nx(h:C.On S0 S d)(m:Nat):C.On S0 ⟨S.h,S.nx+m⟩ d:=h.step (Same.nx S m)
theorem Ctx.On.refl(h:C.At S d)(hI:C.I S):C.On S S d:=⟨h,hI,cC.refl _ _⟩
theorem Ctx.On.trans{S1:St}{d1:Array AV}(h:C.On S0 S d)(h':C.On S S1 d1):C.On S0 S1 d1:=⟨h'.1,h'.2.1,h.2.2.trans h'.2.2⟩
theorem Ctx.On.start(h:C.On S0 S d):C.On S S d:=⟨h.1,h.2.1,cC.refl _ _⟩
theorem Ctx.On.side(h:C.On S0 S d)(h1:S.nx<=S'.nx)(h2:0<C.n->S'.h.get C.b=S.h.get C.b)(h3:cC C.b S0 S')(h4:C.I S'):C.On S0 S' d:=
 ⟨⟨h.1.1,h.1.2.1,fun hn=>⟨Ae (h.1.2.2 hn).1 h1,(h2 hn).trans (h.1.2.2 hn).2⟩⟩,h4,h3⟩
theorem Ctx.On.sz(h:C.On S0 S d):d.size=C.n:=h.1.1
theorem Ctx.On.swap(h:C.On S0 S d)(hi:i<C.n)(hj:j<C.n):∃S1 S2,mJ (C.pt i) k (C.cl d[j]!) S=some (.undef,S1)/\mJ (C.pt j) k (C.cl d[i]!) S1=some (.undef,S2)/\C.On S0 S2 (swp d i j):=by
 have⟨S1,e1,a1,n1,b1⟩:=h.1.st hi (h.1.2.1 j hj);have⟨S2,e2,a2,n2,b2⟩:=a1.st hj (h.1.2.1 i hi);exact⟨S1,S2,e1,e2,a2,C.hI _ _ h.2.1 (b1.trans b2),h.2.2.trans (b1.trans b2)⟩
end
def aPs(o:AO):Bool:=match o.op with | .q q=>dR q | .a _=>false | .x _=>true
def aPI(h:T AB)(K m:Nat)(l:jT):Prop:=mP l.v (gT l.q l.F h)=true/\Nat.testBit m l.i=true/\Nat.testBit l.mask K=false
theorem aBb{h:T AB}{base K m0:Nat}{rest:List AO}{Q:DS->Prop}:∀ {pre:List AO} {i:Nat} {F:Fr} {S:St} {ls:List jT},S.h=h->i+pre.length=K->(∀ (j:Nat) (o:AO),pre[j]? =some o->Nat.testBit o.mask K=false/\(aPs o=true->Nat.testBit m0 (i+j)=true))->(∀l∈ls,aPI h K m0 l)->
  mH pre F h (fun F'=>∀ls',(∀l∈ls',aPI h K m0 l)->vW fns rest K base ⟨F',S,[],[],ls'⟩ Q)->vW fns (pre++rest) i base ⟨F,S,[],[],ls⟩ Q
 | [],i,F,S,ls,h1,h2,_,h4,hr=>by
  simp only[Ci,Bh] at h2;subst h2;exact hr ls h4
 | ⟨d,.q q,g,m⟩::l,i,F,S,ls,h1,h2,h3,h4,hr=>by
  simp only[mH] at hr;have h2':i+1+l.length=K:=by rw[Aw] at h2;omega
  have h3':∀ (j:Nat) (o:AO),l[j]? =some o->Nat.testBit o.mask K=false/\(aPs o=true->Nat.testBit m0 (i+1+j)=true):=fun j o ho=>by
   have:=h3 (j+1) o (by simpa using ho)
   rwa [show i+(j+1)=i+1+j by omega] at this
  have⟨hm,hm2⟩:=h3 0 _ rfl;have go:∀ (_:lM (gT q F h) fun v=>(dR q=true->cT v v=true)/\mH l (cR d F v) h (fun F'=>∀ls',(∀l∈ls',aPI h K m0 l)->vW fns rest K base ⟨F',S,[],[],ls'⟩ Q)),vW fns (⟨d,.q q,none,m⟩::(l++rest)) i base ⟨F,S,[],[],ls⟩ Q:=by
   rintro⟨v,hv,hs,hr⟩;rw[iE];subst h1;refine⟨v,hv,aBb rfl h2' h3' ?_ hr⟩;cases hq:dR q with
   | false=>exact h4
   | true=>
    rw[aO];intro l' hl';rcases Bm.1 hl' with rfl | hl'
    ·refine⟨?_,hm2 hq,hm⟩;show mP v (gT q F S.h)=true;rw[hv,iU];exact hs hq
    ·exact h4 _ hl'
  cases g with
  | none=>exact go (by rw[if_pos (show eT none F=true from rfl)] at hr;exact hr)
  | some g=>
   have⟨s,b⟩:=g;by_cases hw:eT (some (s,b)) F=true
   ·rw[if_pos hw] at hr;have⟨n,D',e1,e2⟩:=go hr;refine⟨n,D',?_,e2⟩;have:pV ⟨d,.q q,some (s,b),m⟩ i base (ev fns n).call ⟨F,S,[],[],ls⟩=pV ⟨d,.q q,none,m⟩ i base (ev fns n).call ⟨F,S,[],[],ls⟩:=by
     show cB (eT (some (s,b)) F) _ _=cB true _ _;rw[hw];rfl
    show bH (pV ⟨d,.q q,some (s,b),m⟩ i base (ev fns n).call ⟨F,S,[],[],ls⟩) _=_;rw[this];exact e1
   ·rw[if_neg hw] at hr;have⟨n,D',e1,e2⟩:=aBb (i:=i+1) (F:=cR d F .undef) (ls:=ls) h1 h2' h3' h4 hr;refine⟨n,D',?_,e2⟩;have:pV ⟨d,.q q,some (s,b),m⟩ i base (ev fns n).call ⟨F,S,[],[],ls⟩=some ⟨cR d F .undef,S,[],[],ls⟩:=by
     show cB (eT (some (s,b)) F) _ _=_;rw[show eT (some (s,b)) F=false by simpa using hw];rfl
    show bH (pV ⟨d,.q q,some (s,b),m⟩ i base (ev fns n).call ⟨F,S,[],[],ls⟩) _=_;rw[this];exact e1
 | ⟨d,.a a,g,m⟩::l,i,F,S,ls,h1,h2,h3,h4,hr=>by cases hr
 | ⟨d,.x a,g,m⟩::l,i,F,S,ls,h1,h2,h3,h4,hr=>by cases hr
theorem jA(C:Ctx fns agg k)(i j K:Nat){ops:List AO}{m1 m2 m3 p1 p2 v1 v2 s2 i2:Nat}{A:bS}{S S0:St}{d:Array AV}{Q:Out->bS->St->Prop}(hS:C.On S0 S d)(hi:i<C.n)(hj:j<C.n)
  (he:ops.drop K= [⟨none,.x (.st k (.t p1) (.t v1)),none,m1⟩,⟨some p2,.q (.cn (.slice k) (.t s2) (.t i2)),none,m3⟩,⟨none,.x (.st k (.t p2) (.t v2)),none,m2⟩])
  (hm:((List.range K).all fun t=>match ops[t]? with | some o=> !Nat.testBit o.mask K && (!aPs o || Nat.testBit m1 t) | none=>false)=true) (hm2:Nat.testBit m2 K=true) (hv2:v2≠p2)
  (h:mH (ops.take K) A.F S.h fun F=>aD p1 F=C.pt i/\aD v1 F=d[j]! /\aD v2 F=d[i]! /\aD s2 F=C.v/\fG (aD i2 F)=some j/\∀S',C.On S0 S' (swp d i j)->Q .normal ⟨cR (some p2) F (C.pt j),A.inr⟩ S'):lU fns (.drw ops) A S Q:=by
 obtain⟨pre,hp⟩:∃pre,pre=ops.take K:=⟨_,rfl⟩;have hKl:K<=ops.length:=by
  have:=congrArg List.length he;simp only[De,Aw,Ci] at this;omega
 have hK:pre.length=K:=by rw[hp,Bp];omega
 have hg:∀t,t<K->ops[t]? =pre[t]? :=fun t ht=>by rw[hp,List.getElem?_take,if_pos ht]
 rw[<-hp] at h;have he:ops=pre++ [⟨none,.x (.st k (.t p1) (.t v1)),none,m1⟩,⟨some p2,.q (.cn (.slice k) (.t s2) (.t i2)),none,m3⟩,⟨none,.x (.st k (.t p2) (.t v2)),none,m2⟩]:=by rw[<-he,hp,Dq]
 clear hp;subst he;refine oO ?_;refine aBb (h:=S.h) (K:=K) (m0:=m1) (pre:=pre) (i:=0) rfl ay (fun t o ho=>?_) (fun l hl=>by cases hl) ?_
 ·have hlt:t<K:=by rw[<-hK];exact(Aj.1 ho).1
  have:=Dp.1 hm t (Fb.2 hlt);rw[hg t hlt,ho] at this;simp only[Cn,Bool.not_eq_true',Es] at this;refine⟨this.1,fun hh=>?_⟩;rw[An];rcases this.2 with h2 | h2
  ·rw[h2] at hh;cases hh
  ·exact h2
 refine xL ?_ pre A.F h;rintro F ⟨e1,e2,e3,e4,e5,hQ⟩ ls hls;have⟨S1,S2,x1,x2,on⟩:=(hS.nx (pre++ [(⟨none,.x (.st k (.t p1) (.t v1)),none,m1⟩:AO),⟨some p2,.q (.cn (.slice k) (.t s2) (.t i2)),none,m3⟩,⟨none,.x (.st k (.t p2) (.t v2)),none,m2⟩]).length).swap hi hj;have c1:=hS.1.cells hi;have c2:=hS.1.cells hj;refine kE (v:=.undef) (S1:=S1) rfl (fun call=>?_) ?_
 ·rw[dS];simp only[fR,e2,c2,aN,e1,bX];exact x1
 rw[iE];simp only[gP,qB,fR,e4,e5,aN,C.ia hj,dK,lR,aT,bX];refine kE (v:=.undef) (S1:=S2) hm2 (fun call=>?_) ?_
 ·rw[dS];simp only[fR,bP,hv2,Eh,Ej,e3,c1,aN,bX];exact x2
 rw[jB];refine⟨?_,?_⟩
 ·simp only[Cw,Fg,Bq,Ck];refine lG fun l hl=>?_;have⟨h1,h2,h4⟩:=hls l hl;unfold dY;rw[h4,aT,h1,aO,h2,aO]
 ·simp only[gP,bX];exact hQ _ on
theorem aBx{a b:Nat}(h:a+b<=9223372036854775807):IntKind.i64.wrap ((a:Int)+(b:Int))=((a+b:Nat):Int):=by rw[wrap_i64 ay ay];omega
theorem aBA{a b:Nat}(h:b<=a)(h2:a<=9223372036854775807):IntKind.i64.wrap ((a:Int) - (b:Int))=((a - b:Nat):Int):=by rw[wrap_i64 ay ay];omega
theorem kQ{a:Nat}(h:a+1<=9223372036854775807):IntKind.i64.wrap ((a:Int)+1)=((a+1:Nat):Int):=aBx (b:=1) h
theorem kT{a:Nat}(h:1<=a)(h2:a<=9223372036854775807):IntKind.i64.wrap ((a:Int) - 1)=((a - 1:Nat):Int):=aBA (b:=1) h h2
theorem aP5{a b:Nat}(h:a * b<=9223372036854775807):IntKind.i64.wrap ((a:Int) * (b:Int))=((a * b:Nat):Int):=by
 rw[show(a:Int) * (b:Int)=((a * b:Nat):Int) by rw[Int.natCast_mul],wrap_i64 ay ay]
theorem dlt(a b:Nat):decide ((a:Int)<(b:Int))=decide (a<b):=by
 congr 1;rw[Int.ofNat_lt]
theorem dle(a b:Nat):decide ((a:Int)<=(b:Int))=decide (a<=b):=by
 congr 1;rw[Int.ofNat_le]
theorem deq(a b:Nat):decide ((a:Int)=(b:Int))=decide (a=b):=by
 congr 1;rw[Int.ofNat_inj]
end Go.Ev.Gl
namespace Go.Ev.Gl
open Go.Sort
variable {fns:T dU}
theorem Ctx.old{agg:Bool}{k:Nat}{C:Ctx fns agg k}{S:St}{d:Array AV}{i:Nat}(h:C.At S d)(hi:i<C.n):aNT (fun _=>False) S.nx (C.pt i):=⟨_,_,rfl,(h.2.2 ay).1,fun h=>h⟩
theorem Ctx.On.cmp{agg:Bool}{k:Nat}{C:Ctx fns agg k}{S S0:St}{d:Array AV}{i j:Nat}(h:C.On S0 S d)(hi:i<C.n)(hj:j<C.n):gH fns C.f [d[i]!,d[j]!] S fun r S'=>Same S S'/\∃c:Int,r= .int .i64 c/\decide (c<0)=C.lt d[i]! d[j]! :=
 C.cmp S _ _ h.2.1 (h.1.2.1 i hi) (h.1.2.1 j hj)
def aSs(C:Ctx fns false 1)(S0:St)(R:Array AV)(a b i:Nat)(k:Nat)(A:bS)(X:St):Prop:=A.inr=false/\k<=i/\aD 0 A.F=C.v/\aD 1 A.F= .int .i64 (a:Int)/\aD 2 A.F= .int .i64 (b:Int)/\aD 3 A.F=C.f/\aD 8 A.F= .int .i64 (i:Int)/\aD 9 A.F= .int .i64 (k:Int)/\∃d,C.On S0 X d/\insInner C.lt a k d=R
def aS7(C:Ctx fns false 1)(S0:St)(R:Array AV)(a b:Nat)(k:Nat)(A:bS)(X:St):Prop:=A.inr=false/\aD 0 A.F=C.v/\aD 1 A.F= .int .i64 (a:Int)/\aD 2 A.F= .int .i64 (b:Int)/\aD 3 A.F=C.f/\∃i d,k+i=b+1/\aD 8 A.F= .int .i64 (i:Int)/\C.On S0 X d/\insOuter C.lt a b i d=R
theorem aC4{C:Ctx fns false 1}{S S0:St}{d:Array AV}{a b:Nat}(H:Has fns)(h:C.On S0 S d)(hab:a<=b)(hb:b<=C.n):gH fns (.fn 66 [] []) [C.v,.int .i64 (a:Int),.int .i64 (b:Int),C.f] S fun _ S'=>C.On S0 S' (insertionSort C.lt d a b):=by
 have hn:=C.hn;refine cF H.f66 (by simp) ?_;refine aq ?_;refine bQ ?_;refine dz (kQ (ay:a+1<=9223372036854775807)) ?_;refine aW (Q:=fun o A' X=>o= .normal/\C.On S0 X (insertionSort C.lt d a b)) (aL (bK (aS7 C S0 (insertionSort C.lt d a b) a b) ?_ (b - a) _ _ ⟨rfl,ak,ak,ak,ak,a+1,d,ay,ak,h,rfl⟩)) ?_
 ·rintro k ⟨F,inr⟩ X ⟨q0,p0,p1,p2,p3,i,e,hk,p8,on,he⟩;simp only at q0 p0 p1 p2 p3 p8;subst q0;refine fE ?_;simp only[↓aC,aB,rE,↓reduceIte,rA,p2,p8,dlt];unfold insOuter at he;by_cases hlt:i<b
  ·rw[if_pos hlt] at he;refine aM (fm (Ab hlt)) (aH ?_);refine aj ?_;refine aA (aL ?_);refine bQ (eh p8 ?_);refine aW (Q:=fun o A' X=>o= .normal/\A'.inr=false/\aD 0 A'.F=C.v/\aD 1 A'.F= .int .i64 (a:Int)/\aD 2 A'.F= .int .i64 (b:Int)/\aD 3 A'.F=C.f/\aD 8 A'.F= .int .i64 (i:Int)/\C.On S0 X (insInner C.lt a i e)) (aL (bK (aSs C S0 (insInner C.lt a i e) a b i) ?_ i _ _ ⟨rfl,Ag _,am p0,am p1,am p2,am p3,am p8,ak,e,on,rfl⟩)) ?_
   ·rintro j ⟨F,inr⟩ X ⟨q0,hji,p0,p1,p2,p3,p8,p9,e2,on,he⟩;simp only at q0 p0 p1 p2 p3 p8 p9;subst q0;by_cases hja:a<j
    ·obtain⟨t,rfl⟩:∃t,j=t+1:=⟨j - 1,ay⟩;have w1:IntKind.i64.wrap (((t+1:Nat):Int) - 1)=(t:Int):=kT (a:=t+1) ay ay;have l1:=on.1.ld (i:=t+1) ay;have l2:=on.1.ld (i:=t) ay;refine aA (aA (dO (fun _=>False) ?_));intro X1 x1;simp only[↓sU,sD,rE,↓reduceIte,rA,p0,p1,p3,p9,dlt,Ab hja,w1,C.ia (i:=t+1) ay,C.ia (i:=t) ay,l1,l2,on.1.self (i:=t+1) ay,on.1.self (i:=t) ay,Ctx.old on.1 (i:=t+1) ay,Ctx.old on.1 (i:=t) ay];refine cL rfl ?_;refine cm p3 ?_;refine aQ ((on.step x1).cmp (i:=t+1) (j:=t) ay ay) ?_;rintro _ Y ⟨hY,c,rfl,hc⟩;refine⟨hY,?_⟩;refine cm hc ?_;have he:(if(decide (a<t+1) && C.lt e2[t+1]! e2[t]!)=true then insInner C.lt a t (swp e2 (t+1) t) else e2)=insInner C.lt a i e:=he;rw[Ab hja,Ew] at he;cases hl:C.lt e2[t+1]! e2[t]! with
     | false=>
      rw[hl,if_neg (by simp)] at he;refine aK (ak) (bG ?_);refine aj ?_;exact⟨p0,p1,p2,p3,p8,he ▸ (on.step x1).step hY⟩
     | true=>
      rw[hl,if_pos rfl] at he;refine aM (ak) (aH ?_);refine aj ?_;have on2:=(on.step x1).step hY;refine aA (aL ?_);refine jA C (t+1) t 15 on2 ay ay  rfl bg bg bg ?_;simp only[↓aC,aB,rE,↓reduceIte,Ca,Bw,rA,p0,p9,w1,aJ,C.ia (i:=t+1) ay,C.ia (i:=t) ay,on2.1.ld (i:=t+1) ay,on2.1.ld (i:=t) ay,on2.1.self (i:=t+1) ay,on2.1.self (i:=t) ay];intro Z hZ;refine aG (eu p9 w1 ?_);exact⟨t,ay,rfl,ay,am p0,am p1,am p2,am p3,am p8,ak,_,hZ,he⟩
    ·refine aA (aA (dO (fun _=>False) ?_));intro X1 x1;refine du p0 p1 p3 p9 @dlt (Aa hja) ?_;refine aK (ak) (bG ?_);refine aj ?_;have he2:e2=insInner C.lt a i e:=by
      rw[<-he];cases j with
      | zero=>rfl
      | succ t=>
       unfold insInner;rw[if_neg];simp only[gt_iff_lt,Aa hja,Eo];simp
     exact⟨p0,p1,p2,p3,p8,he2 ▸ on.step x1⟩
   ·rintro o ⟨F,inr⟩ X ⟨rfl,q0,p0,p1,p2,p3,p8,on⟩;simp only at q0 p0 p1 p2 p3 p8;subst q0;refine aj ?_;refine aG ?_;refine eu p8 (kQ (ay:i+1<=9223372036854775807)) ?_;exact⟨k - 1,ay,rfl,am p0,am p1,am p2,am p3,i+1,_,ay,ak,on,he⟩
  ·rw[if_neg hlt] at he;refine aK (fm (Aa hlt)) (bG ?_);refine aj ?_;exact he ▸ on
 ·rintro o A X ⟨rfl,on⟩;exact⟨_,rfl,on⟩
def aSv(C:Ctx fns false 1)(S0:St)(R:Array AV)(k:Nat)(A:bS)(X:St):Prop:=A.inr=false/\aD 0 A.F=C.v/\∃i j d,k=j - i/\j<C.n/\aD 8 A.F= .int .i64 (i:Int)/\aD 9 A.F= .int .i64 (j:Int)/\C.On S0 X d/\reverseLoop i j d=R
theorem aF0{C:Ctx fns false 1}{S S0:St}{d:Array AV}{a b:Nat}(H:Has fns)(h:C.On S0 S d)(hab:a<b)(hb:b<=C.n):gH fns (.fn 70 [] []) [C.v,.int .i64 (a:Int),.int .i64 (b:Int),C.f] S fun _ S'=>C.On S0 S' (reverseRange d a b):=by
 have hn:=C.hn;refine cF H.f70 (by simp) ?_;refine aq ?_;refine bQ (aq ?_);refine bQ ?_;refine dz (kT (ay:1<=b) ay) ?_;refine aW (Q:=fun o A' X=>o= .normal/\C.On S0 X (reverseRange d a b)) (aL (bK (aSv C S0 (reverseRange d a b)) ?_ (b - 1 - a) _ _ ⟨rfl,ak,a,b - 1,d,rfl,ay,ak,ak,h,rfl⟩)) ?_
 ·rintro k ⟨F,inr⟩ X ⟨q0,p0,i,j,e,hk,hjn,p8,p9,on,he⟩;simp only at q0 p0 p8 p9;subst q0;refine fE ?_;simp only[↓aC,aB,rE,↓reduceIte,rA,p8,p9,dlt];unfold reverseLoop at he;by_cases hlt:i<j
  ·rw[if_pos hlt] at he;refine aM (fm (Ab hlt)) (aH ?_);refine aj ?_;refine aL (aA ?_);refine jA C i j 13 on ay ay  rfl bg bg bg ?_;simp only[↓aC,aB,rE,↓reduceIte,Ca,Bw,rA,p0,p8,p9,aJ,C.ia (i:=i) ay,C.ia (i:=j) ay,on.1.ld (i:=i) ay,on.1.ld (i:=j) ay,on.1.self (i:=i) ay,on.1.self (i:=j) ay];intro Z hZ;refine bQ ?_;refine eu p8 (kQ (ay:i+1<=9223372036854775807)) ?_;refine aG ?_;refine eu p9 (kT (ay:1<=j) (ay:j<=9223372036854775807)) ?_;exact⟨j - 1 - (i+1),ay,rfl,am p0,i+1,j - 1,_,rfl,ay,ak,ak,hZ,he⟩
  ·rw[if_neg hlt] at he;refine aK (fm (Aa hlt)) (bG ?_);refine aj ?_;exact he ▸ on
 ·rintro o A X ⟨rfl,on⟩;exact⟨_,rfl,on⟩
end Go.Ev.Gl
namespace Go.Ev.Gl
open Go.Sort
variable {fns:T dU}
theorem aRE{a:Nat}(h:2 * a<=9223372036854775807):IntKind.i64.wrap (2 * (a:Int))=((2 * a:Nat):Int):=by rw[wrap_i64 ay ay];omega
theorem aH0(lt:AV->AV->Bool)(hi first root:Nat)(d:Array AV):siftDown lt hi first root d=if 2 * root+1≥hi then d else
  if !lt d[first+root]! d[first+(if(decide (2 * root+2<hi) && lt d[first+(2 * root+1)]! d[first+(2 * root+2)]!)=true then 2 * root+2 else 2 * root+1)]! then d else
   siftDown lt hi first (if(decide (2 * root+2<hi) && lt d[first+(2 * root+1)]! d[first+(2 * root+2)]!)=true then 2 * root+2 else 2 * root+1) (swp d (first+root) (first+(if(decide (2 * root+2<hi) && lt d[first+(2 * root+1)]! d[first+(2 * root+2)]!)=true then 2 * root+2 else 2 * root+1))):=by
 conv=>lhs;unfold siftDown
 by_cases h1:2 * root+1≥hi
 ·rw[dif_pos h1,if_pos h1]
 rw[dif_neg h1,if_neg h1];by_cases h2:(decide (2 * root+2<hi) && lt d[first+(2 * root+1)]! d[first+(2 * root+2)]!)=true
 ·have h2':(decide (2 * root+1+1<hi) && lt d[first+(2 * root+1)]! d[first+(2 * root+1)+1]!)=true:=h2;rw[if_pos h2,if_pos h2'];have h3:2 * root+2<hi:=by
   simp only[Cn,decide_eq_true_eq] at h2;exact h2.1
  rw[dif_pos h3]
 ·have h2':¬ (decide (2 * root+1+1<hi) && lt d[first+(2 * root+1)]! d[first+(2 * root+1)+1]!)=true:=h2;rw[if_neg h2,if_neg h2']
def aSE(C:Ctx fns false 1)(S0:St)(R:Array AV)(hi first:Nat)(k:Nat)(A:bS)(X:St):Prop:=A.inr=false/\aD 0 A.F=C.v/\aD 2 A.F= .int .i64 (hi:Int)/\aD 3 A.F= .int .i64 (first:Int)/\aD 4 A.F=C.f/\∃root d,k=C.n+1 - root/\root<=C.n/\aD 10 A.F= .int .i64 (root:Int)/\C.On S0 X d/\siftDown C.lt hi first root d=R
theorem aEE{C:Ctx fns false 1}{S S0:St}{d:Array AV}{lo hi first:Nat}(H:Has fns)(h:C.On S0 S d)(hb:first+hi<=C.n)(hlo:lo<=C.n):gH fns (.fn 80 [] []) [C.v,.int .i64 (lo:Int),.int .i64 (hi:Int),.int .i64 (first:Int),C.f] S fun _ S'=>C.On S0 S' (siftDown C.lt hi first lo d):=by
 have hn:=C.hn;refine cF H.f80 (by simp) ?_;refine aq ?_;refine bQ (aq ?_);refine aW (Q:=fun o A' X=>(o= .normal\/o= .ret)/\C.On S0 X (siftDown C.lt hi first lo d)) (aL (bK (aSE C S0 (siftDown C.lt hi first lo d) hi first) ?_ (C.n+1 - lo) _ _ ⟨rfl,ak,ak,ak,ak,lo,d,rfl,hlo,ak,h,rfl⟩)) ?_
 ·rintro k ⟨F,inr⟩ X ⟨q0,p0,p2,p3,p4,root,e,hk,hr,p10,on,he⟩;simp only at q0 p0 p2 p3 p4 p10;subst q0;refine aL (aA (aG ?_));refine d7 p10 (aRE (ay:2 * root<=9223372036854775807)) (kQ (ay:2 * root+1<=9223372036854775807)) ?_;refine fE (d6 p2 @dle ?_);rw[aH0] at he;by_cases hge:hi<=2 * root+1
  ·rw[if_pos hge] at he;refine aM (fm (Ab hge)) (bG ?_);refine aj ?_;exact⟨.inl trivial,he ▸ on⟩
  rw[if_neg hge] at he;refine aK (fm (Aa hge)) (aH ?_);refine aj ?_;obtain⟨c,hc⟩:∃c,c=if(decide (2 * root+2<hi) && C.lt e[first+(2 * root+1)]! e[first+(2 * root+2)]!)=true then 2 * root+2 else 2 * root+1:=⟨_,rfl⟩;rw[<-hc] at he;refine aA (aW (Q:=fun o A' X=>o= .normal/\A'.inr=false/\aD 0 A'.F=C.v/\aD 2 A'.F= .int .i64 (hi:Int)/\aD 3 A'.F= .int .i64 (first:Int)/\aD 4 A'.F=C.f/\aD 10 A'.F= .int .i64 (root:Int)/\aD 11 A'.F= .int .i64 (c:Int)/\c<hi/\(c=2 * root+2\/c=2 * root+1)/\C.On S0 X e) ?_ ?_)
  ·refine aA (dO (fun _=>False) ?_);intro X1 x1;by_cases h2:2 * root+2<hi
   ·have w1:=aBx (a:=first) (b:=2 * root+1) ay;have w2:=kQ (a:=2 * root+1) ay;have w3:=kQ (a:=first+(2 * root+1)) ay;have i1:first+(2 * root+1)<C.n:=by omega
    have i2:first+(2 * root+2)<C.n:=by omega
    have i2':first+(2 * root+1)+1<C.n:=i2;rw[Ab h2,Ew] at hc;simp only[↓sU,sD,rE,↓reduceIte,rA,p0,p2,p3,p4,dlt,w1,w2,Ab (show 2 * root+1+1<hi from h2),w3,aJ,C.ia i1,C.ia i2',on.1.ld i1,on.1.ld i2',on.1.self i1,on.1.self i2',Ctx.old on.1 i1,Ctx.old on.1 i2'];refine cL rfl ?_;refine cm p4 ?_;refine aQ ((on.step x1).cmp i1 i2) ?_;rintro _ Y ⟨hY,z,rfl,hz⟩;refine⟨hY,?_⟩;refine cm hz ?_;cases hl:C.lt e[first+(2 * root+1)]! e[first+(2 * root+2)]! with
    | true=>
     rw[hl,if_pos rfl] at hc;refine aM (ak) (aG ?_);refine eh w2 ?_;rw[hc];exact⟨p0,p2,p3,p4,p10,rfl,ay,.inl rfl,(on.step x1).step hY⟩
    | false=>
     rw[hl,if_neg (by simp)] at hc;refine aK (ak) (aH ?_);rw[hc];exact⟨rfl,rfl,am p0,am p2,am p3,am p4,am p10,ak,ay,.inr rfl,(on.step x1).step hY⟩
   ·rw[Aa h2,Eo,if_neg (by simp)] at hc;refine dx p0 p2 p3 p4 @dlt (kQ (a:=2 * root+1) ay) (Aa (show ¬2 * root+1+1<hi from h2)) ?_;refine aK (ak) (aH ?_);rw[hc];exact⟨rfl,rfl,am p0,am p2,am p3,am p4,am p10,ak,ay,.inr rfl,on.step x1⟩
  rintro o ⟨F,inr⟩ X ⟨rfl,q0,p0,p2,p3,p4,p10,p11,hc1,hc2,on⟩;simp only at q0 p0 p2 p3 p4 p10 p11;subst q0;refine aj ?_;have w1:=aBx (a:=first) (b:=root) ay;have w2:=aBx (a:=first) (b:=c) ay;have i1:first+root<C.n:=by omega
  have i2:first+c<C.n:=by omega
  refine aA (aA (dO (fun _=>False) ?_));intro X1 x1;simp only[↓sU,sD,rE,↓reduceIte,rA,p0,p2,p3,p4,p10,p11,w1,w2,aJ,C.ia i1,C.ia i2,on.1.ld i1,on.1.ld i2,on.1.self i1,on.1.self i2,Ctx.old on.1 i1,Ctx.old on.1 i2];refine cL rfl ?_;refine cm p4 ?_;refine aQ ((on.step x1).cmp i1 i2) ?_;rintro _ Y ⟨hY,z,rfl,hz⟩;refine⟨hY,?_⟩;have on2:=(on.step x1).step hY;refine df hz @eF ?_;cases hl:C.lt e[first+root]! e[first+c]! with
  | false=>
   rw[hl,Cb,if_pos rfl] at he;refine aM (fm @Cb) (aR ?_);refine aj ?_;exact⟨.inr trivial,he ▸ on2⟩
  | true=>
   rw[hl,Bt,if_neg (by simp)] at he;refine aK (fm @Bt) (aH ?_);refine aj ?_;refine aA ?_;refine jA C (first+root) (first+c) 21 on2 i1 i2 rfl bg bg bg ?_;simp only[↓aC,aB,rE,↓reduceIte,Ca,Bw,rA,p0,p3,p10,p11,w1,w2,aJ,C.ia i1,C.ia i2,on2.1.ld i1,on2.1.ld i2,on2.1.self i1,on2.1.self i2];intro Z hZ;refine aG (eh p11 ?_);exact⟨C.n+1 - c,ay,rfl,am p0,am p2,am p3,am p4,c,_,rfl,ay,ak,hZ,he⟩
 ·rintro o A X ⟨rfl | rfl,on⟩
  ·exact⟨_,rfl,on⟩
  ·exact⟨_,rfl,on⟩
theorem aNZ{a n:Nat}(ha:a<=9223372036854775807)(hn:0<n):iL .quo (.p .int) (.int .i64 (a:Int)) (.int .i64 (n:Int))=some (.int .i64 ((a / n:Nat):Int)):=by
 rw[aEL (.p .int) ay ay ay,Int.natCast_ediv]
def aQj(C:Ctx fns false 1)(S0:St)(R:Array AV)(a b:Nat)(f:Nat->Array AV->Array AV)(t:Nat)(k:Nat)(A:bS)(X:St):Prop:=A.inr=false/\k<=b - a/\aD 0 A.F=C.v/\aD 3 A.F=C.f/\aD 8 A.F= .int .i64 (a:Int)/\aD 9 A.F= .int .i64 0/\aD 10 A.F= .int .i64 ((b - a:Nat):Int)/\aD t A.F= .int .i64 ((k:Int) - 1)/\∃d,C.On S0 X d/\f k d=R
theorem aKS{C:Ctx fns false 1}{S S0:St}{d:Array AV}{a b:Nat}(H:Has fns)(h:C.On S0 S d)(hab:a<b)(hb:b<=C.n):gH fns (.fn 67 [] []) [C.v,.int .i64 (a:Int),.int .i64 (b:Int),C.f] S fun _ S'=>C.On S0 S' (heapSort C.lt d a b):=by
 have hn:=C.hn;have hq:iL .quo (.p .int) (.int .i64 ((b - a - 1:Nat):Int)) (.int .i64 2)=some (.int .i64 (((b - a - 1) / 2:Nat):Int)):=aNZ (n:=2) ay ay;have dec:∀k:Nat,k<=C.n->IntKind.i64.wrap ((k:Int) - 1)=(k:Int) - 1:=fun k hk=>wrap_i64 ay ay;refine cF H.f67 (by simp) ?_;refine aq ?_;refine bQ (aq ?_);refine bQ (aq ?_);refine bQ ?_;refine dz (aBA (a:=b) (b:=a) ay ay) ?_;refine aA (aW (Q:=fun o A' X=>o= .normal/\aQj C S0 (heapBuild C.lt (b - a) a ((b - a - 1) / 2+1) d) a b (heapBuild C.lt (b - a) a) 11 0 A' X) (aA (aG ?_)) ?_)
 ·refine d6 (kT (a:=b - a) ay ay) hq ?_;refine aL (bK (aQj C S0 (heapBuild C.lt (b - a) a ((b - a - 1) / 2+1) d) a b (heapBuild C.lt (b - a) a) 11) ?_ ((b - a - 1) / 2+1) _ _ ⟨rfl,ay,ak,ak,ak,ak,ak,?_,d,h,rfl⟩)
  ·rintro k ⟨F,inr⟩ X ⟨q0,hk,p0,p3,p8,p9,p10,p11,e,on,he⟩;simp only at q0 p0 p3 p8 p9 p10 p11;subst q0;refine fE (dz p11 ?_);cases k with
   | zero=>
    refine aK (by simp only[↓aC,aB,rE,↓reduceIte];rfl) (bG ?_);exact⟨rfl,rfl,Da _,am p0,am p3,am p8,am p9,am p10,am p11,e,on,he⟩
   | succ t=>
    have ei:((t+1:Nat):Int) - 1=(t:Int):=by omega
    rw[ei] at p11 ⊢;refine aM ff (aH ?_);refine aj ?_;refine aA (aL (aG ?_));refine fa p0 p3 p8 p10 p11 ?_;refine bE (fa p0 p3 p8 p10 p11 ?_);refine aQ (aEE H on ay ay) ?_;intro r Z hZ;refine aG (eu p11 (dec t ay) ?_);exact⟨t,ay,rfl,ay,am p0,am p3,am p8,am p9,am p10,ak,_,hZ,he⟩
  ·simp only[↓aC,aB,rE,↓reduceIte];congr 1;omega
 ·rintro o ⟨F,inr⟩ X ⟨rfl,q0,hk,p0,p3,p8,p9,p10,p11,e,on,he⟩;simp only at q0 p0 p3 p8 p9 p10 p11;subst q0;have he:e=heapBuild C.lt (b - a) a ((b - a - 1) / 2+1) d:=he;refine aj ?_;refine bQ ?_;refine eu p10 (kT (a:=b - a) ay ay) ?_;refine aW (Q:=fun o A' X=>o= .normal/\C.On S0 X (heapSort C.lt d a b)) (aL (bK (aQj C S0 (heapSort C.lt d a b) a b (heapPop C.lt a) 12) ?_ (b - a) _ _ ⟨rfl,ay,am p0,am p3,am p8,am p9,am p10,?_,e,on,by rw[he];rfl⟩)) ?_
  ·rintro k ⟨F,inr⟩ X ⟨q0,hk,p0,p3,p8,p9,p10,p12,e,on,he⟩;simp only at q0 p0 p3 p8 p9 p10 p12;subst q0;refine fE (dz p12 ?_);cases k with
   | zero=>
    refine aK (by simp only[↓aC,aB,rE,↓reduceIte];rfl) (bG ?_);exact⟨rfl,he ▸ on⟩
   | succ t=>
    have ei:((t+1:Nat):Int) - 1=(t:Int):=by omega
    rw[ei] at p12 ⊢;refine aM ff (aH ?_);refine aj ?_;have i1:a<C.n:=by omega
    have i2:a+t<C.n:=by omega
    have w1:=aBx (a:=a) (b:=t) ay;refine aA (aL (aA ?_));refine jA C a (a+t) 17 on i1 i2 rfl bg bg bg ?_;simp only[↓aC,aB,rE,↓reduceIte,Ca,Bw,rA,p0,p8,p12,w1,aJ,C.ia i1,C.ia i2,on.1.ld i1,on.1.ld i2,on.1.self i1,on.1.self i2];intro Y hY;refine aG (fa p0 p3 p8 p9 p12 ?_);refine bE (fa p0 p3 p8 p9 p12 ?_);refine aQ (aEE (lo:=0) H hY ay ay) ?_;intro r Z hZ;refine aG (eu p12 (dec t ay) ?_);exact⟨t,ay,rfl,ay,am p0,am p3,am p8,am p9,am p10,ak,_,hZ,he⟩
  ·simp only[↓aC,aB,rE,↓reduceIte];congr 1;omega
  ·rintro o A X ⟨rfl,on⟩;exact⟨_,rfl,on⟩
end Go.Ev.Gl
namespace Go.Ev.Gl
open Go.Sort
variable {fns:T dU}
def PaS(C:Ctx fns false 1)(S0:St)(e:Array AV)(a b ti tj i j:Nat)(A:bS)(X:St):Prop:=A.inr=false/\aD 0 A.F=C.v/\aD 1 A.F= .int .i64 (a:Int)/\aD 2 A.F= .int .i64 (b:Int)/\aD 4 A.F=C.f/\aD ti A.F= .int .i64 (i:Int)/\aD tj A.F= .int .i64 (j:Int)/\C.On S0 X e
theorem aHW{C:Ctx fns false 1}{S S0:St}{d:Array AV}{a b p:Nat}(H:Has fns)(on:C.On S0 S d)(hap:a<=p)(hpb:p<b)(hb:b<=C.n):gH fns (.fn 72 [] []) [C.v,.int .i64 (a:Int),.int .i64 (b:Int),.int .i64 (p:Int),C.f] S fun r S'=>r= .int .i64 ((partitionEqual C.lt d a b p).1:Int)/\C.On S0 S' (partitionEqual C.lt d a b p).2:=by
 have hn:=C.hn;refine cF H.f72 (by simp) ?_;refine aq ?_;refine bQ (aq ?_);refine aA ?_;refine jA C a p 13 on ay ay  rfl bg bg bg ?_;simp only[↓aC,aB,rE,↓reduceIte,Ca,Bw,rA,Ck,aJ,C.ia (i:=a) ay,C.ia (i:=p) ay,on.1.ld (i:=a) ay,on.1.ld (i:=p) ay,on.1.self (i:=a) ay,on.1.self (i:=p) ay];try clear on
 intro Z on;refine bQ ?_;refine eu (kQ (ay:a+1<=9223372036854775807)) (kT (ay:1<=b) ay) ?_;refine aA (aW (Q:=fun o A' X=>o= .normal/\aD 11 A'.F= .int .i64 ((partitionEqual C.lt d a b p).1:Int)/\C.On S0 X (partitionEqual C.lt d a b p).2) (aL (bK (fun k A' X=>∃i j e,a<i/\i<=C.n/\j<C.n/\k=j+1 - i/\PaS C S0 e a b 11 12 i j A' X/\partEqLoop C.lt a i j e=partitionEqual C.lt d a b p) ?_ _ _ _ ⟨a+1,b - 1,_,ay,ay,ay,rfl,⟨rfl,ak,ak,ak,ak,ak,ak,on⟩,rfl⟩)) ?_)
 ·rintro k A X ⟨i,j,e,hai,hin,hjn,hk,hP,he⟩;refine aL ?_;obtain⟨i2,hi2⟩:∃i2,i2=scanUp (fun x=> !C.lt e[a]! x) e j i:=⟨_,rfl⟩;obtain⟨j2,hj2⟩:∃j2,j2=scanDown (fun x=>C.lt e[a]! x) e i2 j:=⟨_,rfl⟩;have s1:=scanUp_spec (fun x=> !C.lt e[a]! x) e j _ i rfl;have s2:=scanDown_spec (fun x=>C.lt e[a]! x) e i2 j;rw[partEqLoop_eq,<-hi2,<-hj2] at he;rw[<-hi2] at s1;rw[<-hj2] at s2;refine aA (aW (Q:=fun o A' X=>o= .normal/\PaS C S0 e a b 11 12 i2 j A' X) (aL (bK (fun k A' X=>∃i,a<i/\i<=C.n/\k=j+1 - i/\PaS C S0 e a b 11 12 i j A' X/\scanUp (fun x=> !C.lt e[a]! x) e j i=i2) ?_ _ _ _ ⟨i,ay,ay,rfl,hP,hi2.symm⟩)) ?_)
  ·rintro k ⟨F,inr⟩ X ⟨i,hai,hin,hk,⟨q0,p0,p1,p2,p4,pi,pj,on⟩,he⟩;simp only at q0 p0 p1 p2 p4 pi pj;subst q0;have ia:a<C.n:=by omega
   refine aA (aA (dO (fun _=>False) ?_));intro X1 x1;by_cases hij:i<=j
   ·have ix:i<C.n:=by omega
    rw[scanUp,Ab hij,Ew] at he;simp only[↓sU,sD,rE,↓reduceIte,rA,p0,p1,p4,pi,pj,dle,Ab hij,aJ,C.ia ia,C.ia ix,on.1.ld ia,on.1.ld ix,on.1.self ia,on.1.self ix,Ctx.old on.1 ia,Ctx.old on.1 ix];refine cL rfl ?_;refine cm p4 ?_;refine aQ ((on.step x1).cmp ia ix) ?_;rintro _ Y ⟨hY,z,rfl,hz⟩;refine⟨hY,?_⟩;have on2:=(on.step x1).step hY;refine df hz @eF ?_;cases hl:C.lt e[a]! e[i]! with
    | false=>
     rw[hl,Cb,if_pos rfl] at he;refine aM (fm @Cb) (aH ?_);refine aj ?_;refine aL (aG ?_);refine eu pi (kQ (ay:i+1<=9223372036854775807)) ?_;exact⟨j+1 - (i+1),ay,i+1,ay,ay,rfl,⟨rfl,am p0,am p1,am p2,am p4,ak,am pj,on2⟩,he⟩
    | true=>
     rw[hl,Bt,if_neg (by simp)] at he;refine aK (fm @Bt) (bG ?_);refine aj ?_;rw[<-he];exact⟨rfl,am p0,am p1,am p2,am p4,am pi,am pj,on2⟩
   ·rw[scanUp,Aa hij,Eo,if_neg (by simp)] at he;refine dx p0 p1 p4 pi pj @dle (Aa hij) ?_;refine aK (ak) (bG ?_);refine aj ?_;rw[<-he];exact⟨rfl,am p0,am p1,am p2,am p4,am pi,am pj,on.step x1⟩
  rintro o ⟨F,inr⟩ X ⟨rfl,q0,p0,p1,p2,p4,pi,pj,on⟩;simp only at q0 p0 p1 p2 p4 pi pj;subst q0;refine aj ?_;refine aA (aW (Q:=fun o A' X=>o= .normal/\PaS C S0 e a b 11 12 i2 j2 A' X) (aL (bK (fun k A' X=>∃j,j<C.n/\k=j/\PaS C S0 e a b 11 12 i2 j A' X/\scanDown (fun x=>C.lt e[a]! x) e i2 j=j2) ?_ _ _ _ ⟨j,ay,rfl,⟨rfl,p0,p1,p2,p4,pi,pj,on⟩,hj2.symm⟩)) ?_)
  ·rintro k ⟨F,inr⟩ X ⟨j,hjn,hk,⟨q0,p0,p1,p2,p4,pi,pj,on⟩,he⟩;simp only at q0 p0 p1 p2 p4 pi pj;subst q0;have ia:a<C.n:=by omega
   refine aA (aA (dO (fun _=>False) ?_));intro X1 x1;by_cases hij:i2<=j
   ·have ix:j<C.n:=by omega
    obtain⟨t,rfl⟩:∃t,j=t+1:=⟨j - 1,ay⟩;rw[scanDown,Ab hij,Ew] at he;simp only[↓sU,sD,rE,↓reduceIte,rA,p0,p1,p4,pi,pj,dle,Ab hij,aJ,C.ia ia,C.ia ix,on.1.ld ia,on.1.ld ix,on.1.self ia,on.1.self ix,Ctx.old on.1 ia,Ctx.old on.1 ix];refine cL rfl ?_;refine cm p4 ?_;refine aQ ((on.step x1).cmp ia ix) ?_;rintro _ Y ⟨hY,z,rfl,hz⟩;refine⟨hY,?_⟩;have on2:=(on.step x1).step hY;refine df hz @eF ?_;cases hl:C.lt e[a]! e[t+1]! with
    | true=>
     rw[hl,if_pos rfl] at he;refine aM (ak) (aH ?_);refine aj ?_;refine aL (aG ?_);refine eu pj (show IntKind.i64.wrap (((t+1:Nat):Int) - 1)=(t:Int) from kT (a:=t+1) ay ay) ?_;exact⟨t,ay,t,ay,rfl,⟨rfl,am p0,am p1,am p2,am p4,am pi,ak,on2⟩,he⟩
    | false=>
     rw[hl,if_neg (by simp)] at he;refine aK (ak) (bG ?_);refine aj ?_;rw[<-he];exact⟨rfl,am p0,am p1,am p2,am p4,am pi,am pj,on2⟩
   ·have he:j=j2:=by
     rw[<-he];cases j with
     | zero=>rfl
     | succ t=>rw[scanDown,Aa hij,Eo,if_neg (by simp)]
    refine dx p0 p1 p4 pi pj @dle (Aa hij) ?_;refine aK (ak) (bG ?_);refine aj ?_;rw[<-he];exact⟨rfl,am p0,am p1,am p2,am p4,am pi,am pj,on.step x1⟩
  rintro o ⟨F,inr⟩ X ⟨rfl,q0,p0,p1,p2,p4,pi,pj,on⟩;simp only at q0 p0 p1 p2 p4 pi pj;subst q0;refine aj ?_;refine fE (ew pi pj @dlt ?_);by_cases hgt:j2<i2
  ·rw[if_pos hgt] at he;refine aM (fm (Ab hgt)) (bG ?_);refine aj ?_;rw[<-he];exact⟨am pi,on⟩
  rw[if_neg hgt] at he;refine aK (fm (Aa hgt)) (aH ?_);refine aj ?_;refine aA ?_;refine jA C i2 j2 13 on ay ay  rfl bg bg bg ?_;simp only[↓aC,aB,rE,↓reduceIte,Ca,Bw,rA,p0,pi,pj,aJ,C.ia (i:=i2) ay,C.ia (i:=j2) ay,on.1.ld (i:=i2) ay,on.1.ld (i:=j2) ay,on.1.self (i:=i2) ay,on.1.self (i:=j2) ay];try clear on
  intro Z on;refine bQ ?_;refine eu pi (kQ (ay:i2+1<=9223372036854775807)) ?_;refine aG ?_;refine eu pj (kT (ay:1<=j2) (ay:j2<=9223372036854775807)) ?_;exact⟨j2 - 1+1 - (i2+1),ay,i2+1,j2 - 1,_,ay,ay,ay,rfl,⟨rfl,am p0,am p1,am p2,am p4,ak,ak,on⟩,he⟩
 rintro o ⟨F,inr⟩ X ⟨rfl,pi,on⟩;simp only at pi;refine aj ?_;refine bQ (eh pi ?_);refine aR (aj ?_);exact on
theorem aKV{C:Ctx fns false 1}{S S0:St}{d:Array AV}{a b p:Nat}(H:Has fns)(on:C.On S0 S d)(hap:a<=p)(hpb:p<b)(hb:b<=C.n):gH fns (.fn 73 [] []) [C.v,.int .i64 (a:Int),.int .i64 (b:Int),.int .i64 (p:Int),C.f] S fun r S'=>r= .tup [.int .i64 ((Sort.partition C.lt d a b p).1:Int),.bool (Sort.partition C.lt d a b p).2.1]/\C.On S0 S' (Sort.partition C.lt d a b p).2.2:=by
 have hn:=C.hn;refine cF H.f73 (by simp) ?_;refine aq ?_;refine bQ (aq ?_);refine aA ?_;refine jA C a p 13 on ay ay  rfl bg bg bg ?_;simp only[↓aC,aB,rE,↓reduceIte,Ca,Bw,rA,Ck,aJ,C.ia (i:=a) ay,C.ia (i:=p) ay,on.1.ld (i:=a) ay,on.1.ld (i:=p) ay,on.1.self (i:=a) ay,on.1.self (i:=p) ay];try clear on
 intro Z on;obtain⟨e,hE⟩:∃e,e=swp d a p:=⟨_,rfl⟩;rw[<-hE] at on;refine bQ ?_;refine eu (kQ (ay:a+1<=9223372036854775807)) (kT (ay:1<=b) ay) ?_;obtain⟨i2,hi2⟩:∃i2,i2=scanUp (fun x=>C.lt x e[a]!) e (b - 1) (a+1):=⟨_,rfl⟩;obtain⟨j2,hj2⟩:∃j2,j2=scanDown (fun x=> !C.lt x e[a]!) e i2 (b - 1):=⟨_,rfl⟩;have s1:=scanUp_spec (fun x=>C.lt x e[a]!) e (b - 1) _ (a+1) rfl;have s2:=scanDown_spec (fun x=> !C.lt x e[a]!) e i2 (b - 1);rw[<-hi2] at s1;rw[<-hj2] at s2;have hpa:Sort.partition C.lt d a b p=if i2>j2 then(j2,true,swp e j2 a) else((partLoop C.lt a (i2+1) (j2 - 1) (swp e i2 j2)).1,false,swp (partLoop C.lt a (i2+1) (j2 - 1) (swp e i2 j2)).2 (partLoop C.lt a (i2+1) (j2 - 1) (swp e i2 j2)).1 a):=by
  rw[hj2,hi2,hE];rfl
 refine aA (aW (Q:=fun o A' X=>o= .normal/\PaS C S0 e a b 12 13 i2 (b - 1) A' X) (aL (bK (fun k A' X=>∃i,a<i/\i<=C.n/\k=b - 1+1 - i/\PaS C S0 e a b 12 13 i (b - 1) A' X/\scanUp (fun x=>C.lt x e[a]!) e (b - 1) i=i2) ?_ _ _ _ ⟨(a+1),ay,ay,rfl,⟨rfl,ak,ak,ak,ak,ak,ak,on⟩,hi2.symm⟩)) ?_)
 ·rintro k ⟨F,inr⟩ X ⟨i,hai,hin,hk,⟨q0,p0,p1,p2,p4,pi,pj,on⟩,he⟩;simp only at q0 p0 p1 p2 p4 pi pj;subst q0;have ia:a<C.n:=by omega
  refine aA (aA (dO (fun _=>False) ?_));intro X1 x1;by_cases hij:i<=(b - 1)
  ·have ix:i<C.n:=by omega
   rw[scanUp,Ab hij,Ew] at he;simp only[↓sU,sD,rE,↓reduceIte,rA,p0,p1,p4,pi,pj,dle,Ab hij,aJ,C.ia ia,C.ia ix,on.1.ld ia,on.1.ld ix,on.1.self ia,on.1.self ix,Ctx.old on.1 ia,Ctx.old on.1 ix];refine cL rfl ?_;refine cm p4 ?_;refine aQ ((on.step x1).cmp ix ia) ?_;rintro _ Y ⟨hY,z,rfl,hz⟩;refine⟨hY,?_⟩;have on2:=(on.step x1).step hY;refine df hz @eF ?_;cases hl:C.lt e[i]! e[a]! with
   | true=>
    rw[hl,if_pos rfl] at he;refine aM (ak) (aH ?_);refine aj ?_;refine aL (aG ?_);refine eu pi (kQ (ay:i+1<=9223372036854775807)) ?_;exact⟨(b - 1)+1 - (i+1),ay,i+1,ay,ay,rfl,⟨rfl,am p0,am p1,am p2,am p4,ak,am pj,on2⟩,he⟩
   | false=>
    rw[hl,if_neg (by simp)] at he;refine aK (ak) (bG ?_);refine aj ?_;rw[<-he];exact⟨rfl,am p0,am p1,am p2,am p4,am pi,am pj,on2⟩
  ·rw[scanUp,Aa hij,Eo,if_neg (by simp)] at he;refine dx p0 p1 p4 pi pj @dle (Aa hij) ?_;refine aK (ak) (bG ?_);refine aj ?_;rw[<-he];exact⟨rfl,am p0,am p1,am p2,am p4,am pi,am pj,on.step x1⟩
 rintro o ⟨F,inr⟩ X ⟨rfl,q0,p0,p1,p2,p4,pi,pj,on⟩;simp only at q0 p0 p1 p2 p4 pi pj;subst q0;refine aj ?_;refine aA (aW (Q:=fun o A' X=>o= .normal/\PaS C S0 e a b 12 13 i2 j2 A' X) (aL (bK (fun k A' X=>∃j,j<C.n/\k=j/\PaS C S0 e a b 12 13 i2 j A' X/\scanDown (fun x=> !C.lt x e[a]!) e i2 j=j2) ?_ _ _ _ ⟨(b - 1),ay,rfl,⟨rfl,p0,p1,p2,p4,pi,pj,on⟩,hj2.symm⟩)) ?_)
 ·rintro k ⟨F,inr⟩ X ⟨j,hjn,hk,⟨q0,p0,p1,p2,p4,pi,pj,on⟩,he⟩;simp only at q0 p0 p1 p2 p4 pi pj;subst q0;have ia:a<C.n:=by omega
  refine aA (aA (dO (fun _=>False) ?_));intro X1 x1;by_cases hij:i2<=j
  ·have ix:j<C.n:=by omega
   obtain⟨t,rfl⟩:∃t,j=t+1:=⟨j - 1,ay⟩;rw[scanDown,Ab hij,Ew] at he;simp only[↓sU,sD,rE,↓reduceIte,rA,p0,p1,p4,pi,pj,dle,Ab hij,aJ,C.ia ia,C.ia ix,on.1.ld ia,on.1.ld ix,on.1.self ia,on.1.self ix,Ctx.old on.1 ia,Ctx.old on.1 ix];refine cL rfl ?_;refine cm p4 ?_;refine aQ ((on.step x1).cmp ix ia) ?_;rintro _ Y ⟨hY,z,rfl,hz⟩;refine⟨hY,?_⟩;have on2:=(on.step x1).step hY;refine df hz @eF ?_;cases hl:C.lt e[t+1]! e[a]! with
   | false=>
    rw[hl,Cb,if_pos rfl] at he;refine aM (fm @Cb) (aH ?_);refine aj ?_;refine aL (aG ?_);refine eu pj (show IntKind.i64.wrap (((t+1:Nat):Int) - 1)=(t:Int) from kT (a:=t+1) ay ay) ?_;exact⟨t,ay,t,ay,rfl,⟨rfl,am p0,am p1,am p2,am p4,am pi,ak,on2⟩,he⟩
   | true=>
    rw[hl,Bt,if_neg (by simp)] at he;refine aK (fm @Bt) (bG ?_);refine aj ?_;rw[<-he];exact⟨rfl,am p0,am p1,am p2,am p4,am pi,am pj,on2⟩
  ·have he:j=j2:=by
    rw[<-he];cases j with
    | zero=>rfl
    | succ t=>rw[scanDown,Aa hij,Eo,if_neg (by simp)]
   refine dx p0 p1 p4 pi pj @dle (Aa hij) ?_;refine aK (ak) (bG ?_);refine aj ?_;rw[<-he];exact⟨rfl,am p0,am p1,am p2,am p4,am pi,am pj,on.step x1⟩
 rintro o ⟨F,inr⟩ X ⟨rfl,q0,p0,p1,p2,p4,pi,pj,on⟩;simp only at q0 p0 p1 p2 p4 pi pj;subst q0;refine aj ?_;refine fE (ew pi pj @dlt ?_);by_cases hgt:j2<i2
 ·rw[if_pos hgt] at hpa;rw[hpa];refine aM (fm (Ab hgt)) ?_;refine aA ?_;refine jA C j2 a 13 on ay ay  rfl bg bg bg ?_;simp only[↓aC,aB,rE,↓reduceIte,Ca,Bw,rA,p0,p1,pj,aJ,C.ia (i:=j2) ay,C.ia (i:=a) ay,on.1.ld (i:=j2) ay,on.1.ld (i:=a) ay,on.1.self (i:=j2) ay,on.1.self (i:=a) ay];try clear on
  intro Z on;refine bQ (eh pj ?_);refine aR (aj ?_);exact on
 rw[if_neg hgt] at hpa;rw[hpa];refine aK (fm (Aa hgt)) (aH ?_);refine aj ?_;refine aA ?_;refine jA C i2 j2 13 on ay ay  rfl bg bg bg ?_;simp only[↓aC,aB,rE,↓reduceIte,Ca,Bw,rA,p0,pi,pj,aJ,C.ia (i:=i2) ay,C.ia (i:=j2) ay,on.1.ld (i:=i2) ay,on.1.ld (i:=j2) ay,on.1.self (i:=i2) ay,on.1.self (i:=j2) ay];try clear on
 intro Z on;refine bQ ?_;refine eu pi (kQ (ay:i2+1<=9223372036854775807)) ?_;refine bQ ?_;refine eu pj (kT (ay:1<=j2) (ay:j2<=9223372036854775807)) ?_;obtain⟨R,hR⟩:∃R,R=partLoop C.lt a (i2+1) (j2 - 1) (swp e i2 j2):=⟨_,rfl⟩;rw[<-hR];refine aA (aW (Q:=fun o A' X=>o= .normal/\aD 0 A'.F=C.v/\aD 1 A'.F= .int .i64 (a:Int)/\aD 13 A'.F= .int .i64 (R.1:Int)/\R.1<C.n/\C.On S0 X R.2) (aL (bK (fun k A' X=>∃i j e,a<i/\i<=C.n/\j<C.n/\k=j+1 - i/\PaS C S0 e a b 12 13 i j A' X/\partLoop C.lt a i j e=R) ?_ _ _ _ ⟨i2+1,j2 - 1,_,ay,ay,ay,rfl,⟨rfl,am p0,am p1,am p2,am p4,ak,ak,on⟩,hR.symm⟩)) ?_)
 ·rintro k A X ⟨i,j,e,hai,hin,hjn,hk,hP,he⟩;refine aL ?_;obtain⟨i2,hi2⟩:∃i2,i2=scanUp (fun x=>C.lt x e[a]!) e j i:=⟨_,rfl⟩;obtain⟨j2,hj2⟩:∃j2,j2=scanDown (fun x=> !C.lt x e[a]!) e i2 j:=⟨_,rfl⟩;have s1:=scanUp_spec (fun x=>C.lt x e[a]!) e j _ i rfl;have s2:=scanDown_spec (fun x=> !C.lt x e[a]!) e i2 j;rw[partLoop_eq,<-hi2,<-hj2] at he;rw[<-hi2] at s1;rw[<-hj2] at s2;refine aA (aW (Q:=fun o A' X=>o= .normal/\PaS C S0 e a b 12 13 i2 j A' X) (aL (bK (fun k A' X=>∃i,a<i/\i<=C.n/\k=j+1 - i/\PaS C S0 e a b 12 13 i j A' X/\scanUp (fun x=>C.lt x e[a]!) e j i=i2) ?_ _ _ _ ⟨i,ay,ay,rfl,hP,hi2.symm⟩)) ?_)
  ·rintro k ⟨F,inr⟩ X ⟨i,hai,hin,hk,⟨q0,p0,p1,p2,p4,pi,pj,on⟩,he⟩;simp only at q0 p0 p1 p2 p4 pi pj;subst q0;have ia:a<C.n:=by omega
   refine aA (aA (dO (fun _=>False) ?_));intro X1 x1;by_cases hij:i<=j
   ·have ix:i<C.n:=by omega
    rw[scanUp,Ab hij,Ew] at he;simp only[↓sU,sD,rE,↓reduceIte,rA,p0,p1,p4,pi,pj,dle,Ab hij,aJ,C.ia ia,C.ia ix,on.1.ld ia,on.1.ld ix,on.1.self ia,on.1.self ix,Ctx.old on.1 ia,Ctx.old on.1 ix];refine cL rfl ?_;refine cm p4 ?_;refine aQ ((on.step x1).cmp ix ia) ?_;rintro _ Y ⟨hY,z,rfl,hz⟩;refine⟨hY,?_⟩;have on2:=(on.step x1).step hY;refine df hz @eF ?_;cases hl:C.lt e[i]! e[a]! with
    | true=>
     rw[hl,if_pos rfl] at he;refine aM (ak) (aH ?_);refine aj ?_;refine aL (aG ?_);refine eu pi (kQ (ay:i+1<=9223372036854775807)) ?_;exact⟨j+1 - (i+1),ay,i+1,ay,ay,rfl,⟨rfl,am p0,am p1,am p2,am p4,ak,am pj,on2⟩,he⟩
    | false=>
     rw[hl,if_neg (by simp)] at he;refine aK (ak) (bG ?_);refine aj ?_;rw[<-he];exact⟨rfl,am p0,am p1,am p2,am p4,am pi,am pj,on2⟩
   ·rw[scanUp,Aa hij,Eo,if_neg (by simp)] at he;refine dx p0 p1 p4 pi pj @dle (Aa hij) ?_;refine aK (ak) (bG ?_);refine aj ?_;rw[<-he];exact⟨rfl,am p0,am p1,am p2,am p4,am pi,am pj,on.step x1⟩
  rintro o ⟨F,inr⟩ X ⟨rfl,q0,p0,p1,p2,p4,pi,pj,on⟩;simp only at q0 p0 p1 p2 p4 pi pj;subst q0;refine aj ?_;refine aA (aW (Q:=fun o A' X=>o= .normal/\PaS C S0 e a b 12 13 i2 j2 A' X) (aL (bK (fun k A' X=>∃j,j<C.n/\k=j/\PaS C S0 e a b 12 13 i2 j A' X/\scanDown (fun x=> !C.lt x e[a]!) e i2 j=j2) ?_ _ _ _ ⟨j,ay,rfl,⟨rfl,p0,p1,p2,p4,pi,pj,on⟩,hj2.symm⟩)) ?_)
  ·rintro k ⟨F,inr⟩ X ⟨j,hjn,hk,⟨q0,p0,p1,p2,p4,pi,pj,on⟩,he⟩;simp only at q0 p0 p1 p2 p4 pi pj;subst q0;have ia:a<C.n:=by omega
   refine aA (aA (dO (fun _=>False) ?_));intro X1 x1;by_cases hij:i2<=j
   ·have ix:j<C.n:=by omega
    obtain⟨t,rfl⟩:∃t,j=t+1:=⟨j - 1,ay⟩;rw[scanDown,Ab hij,Ew] at he;simp only[↓sU,sD,rE,↓reduceIte,rA,p0,p1,p4,pi,pj,dle,Ab hij,aJ,C.ia ia,C.ia ix,on.1.ld ia,on.1.ld ix,on.1.self ia,on.1.self ix,Ctx.old on.1 ia,Ctx.old on.1 ix];refine cL rfl ?_;refine cm p4 ?_;refine aQ ((on.step x1).cmp ix ia) ?_;rintro _ Y ⟨hY,z,rfl,hz⟩;refine⟨hY,?_⟩;have on2:=(on.step x1).step hY;refine df hz @eF ?_;cases hl:C.lt e[t+1]! e[a]! with
    | false=>
     rw[hl,Cb,if_pos rfl] at he;refine aM (fm @Cb) (aH ?_);refine aj ?_;refine aL (aG ?_);refine eu pj (show IntKind.i64.wrap (((t+1:Nat):Int) - 1)=(t:Int) from kT (a:=t+1) ay ay) ?_;exact⟨t,ay,t,ay,rfl,⟨rfl,am p0,am p1,am p2,am p4,am pi,ak,on2⟩,he⟩
    | true=>
     rw[hl,Bt,if_neg (by simp)] at he;refine aK (fm @Bt) (bG ?_);refine aj ?_;rw[<-he];exact⟨rfl,am p0,am p1,am p2,am p4,am pi,am pj,on2⟩
   ·have he:j=j2:=by
     rw[<-he];cases j with
     | zero=>rfl
     | succ t=>rw[scanDown,Aa hij,Eo,if_neg (by simp)]
    refine dx p0 p1 p4 pi pj @dle (Aa hij) ?_;refine aK (ak) (bG ?_);refine aj ?_;rw[<-he];exact⟨rfl,am p0,am p1,am p2,am p4,am pi,am pj,on.step x1⟩
  rintro o ⟨F,inr⟩ X ⟨rfl,q0,p0,p1,p2,p4,pi,pj,on⟩;simp only at q0 p0 p1 p2 p4 pi pj;subst q0;refine aj ?_;refine fE (ew pi pj @dlt ?_);by_cases hgt:j2<i2
  ·rw[if_pos hgt] at he;refine aM (fm (Ab hgt)) (bG ?_);refine aj ?_;rw[<-he];exact⟨am p0,am p1,am pj,ay,on⟩
  rw[if_neg hgt] at he;refine aK (fm (Aa hgt)) (aH ?_);refine aj ?_;refine aA ?_;refine jA C i2 j2 13 on ay ay  rfl bg bg bg ?_;simp only[↓aC,aB,rE,↓reduceIte,Ca,Bw,rA,p0,pi,pj,aJ,C.ia (i:=i2) ay,C.ia (i:=j2) ay,on.1.ld (i:=i2) ay,on.1.ld (i:=j2) ay,on.1.self (i:=i2) ay,on.1.self (i:=j2) ay];try clear on
  intro Z on;refine bQ ?_;refine eu pi (kQ (ay:i2+1<=9223372036854775807)) ?_;refine aG ?_;refine eu pj (kT (ay:1<=j2) (ay:j2<=9223372036854775807)) ?_;exact⟨j2 - 1+1 - (i2+1),ay,i2+1,j2 - 1,_,ay,ay,ay,rfl,⟨rfl,am p0,am p1,am p2,am p4,ak,ak,on⟩,he⟩
 rintro o ⟨F,inr⟩ X ⟨rfl,p0,p1,pj,hlt,on⟩;simp only at p0 p1 pj;refine aj ?_;refine aA ?_;refine jA C R.1 a 13 on ay ay  rfl bg bg bg ?_;simp only[↓aC,aB,rE,↓reduceIte,Ca,Bw,rA,p0,p1,pj,aJ,C.ia (i:=R.1) ay,C.ia (i:=a) ay,on.1.ld (i:=R.1) ay,on.1.ld (i:=a) ay,on.1.self (i:=R.1) ay,on.1.self (i:=a) ay];try clear on
 intro Z on;refine bQ (eh pj ?_);refine aR (aj ?_);exact on
end Go.Ev.Gl
