import Derived.Test.YtdkehphobhnjoaaGl23
import Derived.Sort.AssemblyPlain
open Nat renaming reduceEqDiff → rE, reduceAdd → rA
set_option maxHeartbeats 16000000
set_option linter.unusedSimpArgs false
set_option linter.unusedVariables false
namespace Go.Ev.Gl
open Go.Sort
variable {fns:T dE}
def El(agg:Bool)(k:Nat)(x:AV)(cs:List AV):Prop:=cs.length=k∧cB x x=true∧x.cells=some cs∧if agg=true then x= .agg cs else cs= [x]
structure Ctx(fns:T dE)(agg:Bool)(k:Nat) where
 b:Nat
 off:Nat
 n:Nat
 v:AV
 opn:Bool
 sz:Nat
 pre:List AV
 post:List AV
 cl:AV→List AV
 P:AV→Prop
 f:AV
 I:St→Prop
 lt:AV→AV→Bool
 hpre:pre.length=off
 hcl:∀x,P x→El agg k x (cl x)
 hv:0<n→∃cap o,v= .sl b off n cap o
 hn:n≤1000000000
 hI:∀S S',I S→bQ b S S'→I S'
 cmp:∀S x y,I S→P x→P y→fA fns f [x,y] S fun r S'=>Same S S'∧∃c:Int,r= .int .i64 c∧decide (c<0)=lt x y
variable {agg:Bool}{k:Nat}
def Ctx.At(C:Ctx fns agg k)(S:St)(d:Array AV):Prop:=d.size=C.n∧(∀i,i<C.n→C.P d[i]!)∧(0<C.n→C.b<S.nx∧S.h.get C.b=some (.cells (C.pre++d.toList.flatMap C.cl++C.post) C.opn C.sz))
def Ctx.On(C:Ctx fns agg k)(S0 S:St)(d:Array AV):Prop:=C.At S d∧C.I S∧bQ C.b S0 S
theorem aKS(d:Array AV){i:Nat}(h:i<d.size):d.toList[i]? =some d[i]! :=by
 rw[Fj d i h];simp [h]
theorem aFA{b:Nat}{S S':St}(h:Same S S'):bQ b S S':=⟨h.1,fun c hc _=>h.2 c hc⟩
theorem aKF{cl:AV→List AV}:∀ {l:List AV} {i:Nat} {x:AV},(∀y∈l,(cl y).length=k)→l[i]? =some x→((l.flatMap cl).drop (i * k)).take k=cl x
 | [],i,x,_,h=>by simp at h
 | y::l,0,x,hk,h=>by
  simp at h;subst h;have:=hk y (by simp);rw[Eh,Fi,Dj,Ef (by omega),Ax (by omega)]
 | y::l,i+1,x,hk,h=>by
  have h1:=hk y (by simp);rw[Eh,Eo,Nat.add_comm,←h1,←List.drop_drop,List.drop_left,h1];exact aKF (fun z hz=>hk z (by simp [hz])) (by simpa using h)
theorem aKh{cl:AV→List AV}:∀ {l:List AV},(∀y∈l,(cl y).length=k)→(l.flatMap cl).length=l.length * k
 | [],_=>by simp
 | y::l,hk=>by
  rw[Eh,Ak,hk y (by simp),aKh fun z hz=>hk z (by simp [hz]),Au,Eo,Nat.add_comm]
theorem aJx{cl:AV→List AV}:∀ {l:List AV} {i:Nat} {x:AV},(∀y∈l,(cl y).length=k)→i<l.length→(l.flatMap cl).take (i * k)++cl x++(l.flatMap cl).drop (i * k+k)=(l.set i x).flatMap cl
 | [],i,x,_,h=>by simp at h
 | y::l,0,x,hk,h=>by
  have h1:=hk y (by simp);rw[Fi,Bp,Cm,An,List.set_cons_zero,Eh,Eh,←h1,List.drop_left]
 | y::l,i+1,x,hk,h=>by
  have h1:=hk y (by simp);rw[List.set_cons_succ,Eh,Eh,←aJx (fun z hz=>hk z (by simp [hz])) (by simpa using h),show(i+1) * k+k=(cl y).length+(i * k+k) by rw[Eo];omega,show(i+1) * k=(cl y).length+i * k by rw[Eo];omega,List.take_length_add_append,←List.drop_drop,List.drop_left];simp only[Cl]
theorem aJk{p u q:List AV}{o:Nat}{m:Nat}(hp:p.length=o)(hm:m≤u.length):(p++u++q).take (o+m)=p++u.take m:=by
 subst hp;rw[Cl,List.take_length_add_append,Ef hm]
theorem aEL{p u q:List AV}{o:Nat}{m:Nat}(hp:p.length=o)(hm:m≤u.length):(p++u++q).drop (o+m)=u.drop m++q:=by
 subst hp;rw[Cl,←List.drop_drop,List.drop_left,List.drop_append_of_le_length hm]
theorem aLh{S:St}{b p sz n:Nat}{cs e:List AV}{o:Bool}(h:S.h.get b=some (.cells cs o sz))(hp:p+e.length≤cs.length)(hn:e.length=n):lK (.ptr b p) n e S=some (.undef,⟨S.h.set b (some (.cells (cs.take p++e++cs.drop (p+e.length)) o sz)),S.nx⟩):=by
 simp only[lK,dV,hn,pD,h,aT,wL,put_eq];rw[show Nat.beq n n=true from Nat.beq_refl n,aQ];rw[hn] at hp;rw[if_pos hp];rfl
theorem aMz{h:T AB}{b p:Nat}{cs e:List AV}{x:AV}{o:Bool}{s:Nat}(hb:h.get b=some (.cells cs o s))(he:(cs.drop p).take k=e)(hx:El agg k x e):dT (.ptr b p) agg k h=some x:=by
 obtain⟨h1,h2,h3,h4⟩:=hx;have hlen:k≤(cs.drop p).length:=by
  have:=Ey List.length he;rw[Ca] at this;omega
 cases agg with
 | true=>
  rw[if_pos rfl] at h4;have e1:tC h b p k=some e:=by
   unfold tC cS;rw[hb];show cut cs p k=some e;unfold cut;rw[jX,kU,if_pos hlen,he]
  simp only[dT,lG,aQ,e1,aT,h4]
 | false=>
  rw[if_neg (by simp)] at h4;subst h4;have hk1:k=1:=by simpa using h1.symm
  subst hk1;have hp:cs[p]? =some x:=by
   have hh:=Ey (fun l=>l[0]?) he;simp only[List.getElem?_take,List.getElem?_drop,Bj] at hh;simpa using hh
  have e1:jW h b p=some x:=by
   unfold jW cS;rw[hb];show nth cs p=some x;rw[kM,hp]
  simp only[dT,lG,aV,e1]
section
variable {C:Ctx fns agg k}{S S0 S':St}{d:Array AV}{i j:Nat}
def Ctx.pt(C:Ctx fns agg k)(i:Nat):AV:=.ptr C.b (C.off+i * k)
theorem Ctx.At.all(h:C.At S d):∀y∈d.toList,C.P y:=fun y hy=>by
 obtain⟨i,hi⟩:=List.getElem?_of_mem hy;have hl:=(Ai.1 hi).1;have hl:i<d.size:=by simpa using hl
 rw[aKS d hl] at hi;cases hi;exact h.2.1 i (by have:=h.1;omega)
theorem Ctx.At.kk(h:C.At S d):∀y∈d.toList,(C.cl y).length=k:=fun y hy=>(C.hcl y (h.all y hy)).1
theorem Ctx.ia(C:Ctx fns agg k)(hi:i<C.n):eU (.slice k) C.v i=some (C.pt i):=by
 obtain⟨cap,o,e⟩:=C.hv (by omega);rw[e];simp only[eU];rw[show Nat.blt i C.n=true from Am hi,aQ];rfl
theorem Ctx.At.len(h:C.At S d):(d.toList.flatMap C.cl).length=C.n * k:=by rw[aKh h.kk,Bw,h.1]
theorem aJK{i n:Nat}(hi:i<n)(k:Nat):i * k+k≤n * k:=by
 have:=Nat.mul_le_mul_right k (show i+1≤n from hi)
 rwa [Eo] at this
theorem Ctx.At.ld(h:C.At S d)(hi:i<C.n):dT (C.pt i) agg k S.h=some d[i]! :=by
 have hlen:=h.len;obtain⟨h1,h2,h3⟩:=id h;have hm:=aJK hi k;refine aMz (h3 (by omega)).2 ?_ (C.hcl _ (h2 i hi));rw[aEL C.hpre (by omega),Ef (by rw[Da];omega)];exact aKF h.kk (aKS d (by omega))
theorem Ctx.At.cells(h:C.At S d)(hi:i<C.n):(d[i]!).cells=some (C.cl d[i]!):=(C.hcl _ (h.2.1 i hi)).2.2.1
theorem Ctx.At.self(h:C.At S d)(hi:i<C.n):cB d[i]! d[i]! =true:=(C.hcl _ (h.2.1 i hi)).2.1
theorem Ctx.At.st{x:AV}(h:C.At S d)(hi:i<C.n)(hx:C.P x):∃S',lK (C.pt i) k (C.cl x) S=some (.undef,S')∧C.At S' (d.setIfInBounds i x)∧S'.nx=S.nx∧bQ C.b S S':=by
 have hlen:=h.len;obtain⟨h1,h2,h3⟩:=id h;have hm:=aJK hi k;have hk:=(C.hcl x hx).1;obtain⟨h3,h4⟩:=h3 (by omega);refine⟨_,aLh h4 (by simp only[Ak,C.hpre];omega) hk,⟨by simpa using h1,fun j hj=>?_,fun _=>⟨h3,?_⟩⟩,rfl,(bQ.refl _ _).put _⟩
 ·by_cases hij:i=j
  ·subst hij;rw[Fj _ i (by simp;omega)];simpa using hx
  ·rw[Fj _ j (by simp;omega)];have:=h2 j hj;rw[Fj _ j (by omega)] at this;rw[Array.getElem_setIfInBounds,if_neg hij];exact this
 ·simp only;rw[T.get_set,if_pos rfl,hk,Cr,aJk C.hpre (by omega),aEL C.hpre (by omega)];congr 2;rw[Dq,←aJx h.kk (by rw[Bw];omega)];simp only[Cl]
theorem Ctx.At.but(h:C.At S d)(hs:Same S S'):C.At S' d:=⟨h.1,h.2.1,fun hn=>⟨Ae (h.2.2 hn).1 hs.1,(hs.2 _ (h.2.2 hn).1).trans (h.2.2 hn).2⟩⟩
theorem Ctx.On.step(h:C.On S0 S d)(hs:Same S S'):C.On S0 S' d:=⟨h.1.but hs,C.hI _ _ h.2.1 (aFA hs),h.2.2.trans (aFA hs)⟩
theorem Ctx.On.nx(h:C.On S0 S d)(m:Nat):C.On S0 ⟨S.h,S.nx+m⟩ d:=h.step (Same.nx S m)
theorem Ctx.On.refl(h:C.At S d)(hI:C.I S):C.On S S d:=⟨h,hI,bQ.refl _ _⟩
theorem Ctx.On.trans{S1:St}{d1:Array AV}(h:C.On S0 S d)(h':C.On S S1 d1):C.On S0 S1 d1:=⟨h'.1,h'.2.1,h.2.2.trans h'.2.2⟩
theorem Ctx.On.start(h:C.On S0 S d):C.On S S d:=⟨h.1,h.2.1,bQ.refl _ _⟩
theorem Ctx.On.side(h:C.On S0 S d)(h1:S.nx≤S'.nx)(h2:0<C.n→S'.h.get C.b=S.h.get C.b)(h3:bQ C.b S0 S')(h4:C.I S'):C.On S0 S' d:=
 ⟨⟨h.1.1,h.1.2.1,fun hn=>⟨Ae (h.1.2.2 hn).1 h1,(h2 hn).trans (h.1.2.2 hn).2⟩⟩,h4,h3⟩
theorem Ctx.On.sz(h:C.On S0 S d):d.size=C.n:=h.1.1
theorem Ctx.On.swap(h:C.On S0 S d)(hi:i<C.n)(hj:j<C.n):∃S1 S2,lK (C.pt i) k (C.cl d[j]!) S=some (.undef,S1)∧lK (C.pt j) k (C.cl d[i]!) S1=some (.undef,S2)∧C.On S0 S2 (swp d i j):=by
 obtain⟨S1,e1,a1,n1,b1⟩:=h.1.st hi (h.1.2.1 j hj);obtain⟨S2,e2,a2,n2,b2⟩:=a1.st hj (h.1.2.1 i hi);exact⟨S1,S2,e1,e2,a2,C.hI _ _ h.2.1 (b1.trans b2),h.2.2.trans (b1.trans b2)⟩
end
def aMi(o:AO):Bool:=match o.op with | .q q=>dL q | .a _=>false | .x _=>true
def aMu(h:T AB)(K m:Nat)(l:kL):Prop:=oK l.v (gS l.q l.F h)=true∧Nat.testBit m l.i=true∧Nat.testBit l.mask K=false
theorem yR{h:T AB}{base K m0:Nat}{rest:List AO}{Q:DS→Prop}:∀ {pre:List AO} {i:Nat} {F:Fr} {S:St} {ls:List kL},S.h=h→i+pre.length=K→(∀ (j:Nat) (o:AO),pre[j]? =some o→Nat.testBit o.mask K=false∧(aMi o=true→Nat.testBit m0 (i+j)=true))→(∀l∈ls,aMu h K m0 l)→
  jR pre F h (fun F'=>∀ls',(∀l∈ls',aMu h K m0 l)→yO fns rest K base ⟨F',S,[],[],ls'⟩ Q)→yO fns (pre++rest) i base ⟨F,S,[],[],ls⟩ Q
 | [],i,F,S,ls,h1,h2,_,h4,hr=>by
  simp only[Bu,Bj] at h2;subst h2;exact hr ls h4
 | ⟨d,.q q,g,m⟩::l,i,F,S,ls,h1,h2,h3,h4,hr=>by
  simp only[jR] at hr;have h2':i+1+l.length=K:=by rw[Au] at h2;omega
  have h3':∀ (j:Nat) (o:AO),l[j]? =some o→Nat.testBit o.mask K=false∧(aMi o=true→Nat.testBit m0 (i+1+j)=true):=fun j o ho=>by
   have:=h3 (j+1) o (by simpa using ho)
   rwa [show i+(j+1)=i+1+j by omega] at this
  obtain⟨hm,hm2⟩:=h3 0 _ rfl;have go:∀ (_:jD (gS q F h) fun v=>(dL q=true→cB v v=true)∧jR l (cD d F v) h (fun F'=>∀ls',(∀l∈ls',aMu h K m0 l)→yO fns rest K base ⟨F',S,[],[],ls'⟩ Q)),yO fns (⟨d,.q q,none,m⟩::(l++rest)) i base ⟨F,S,[],[],ls⟩ Q:=by
   rintro⟨v,hv,hs,hr⟩;rw[mF];subst h1;refine⟨v,hv,yR rfl h2' h3' ?_ hr⟩;cases hq:dL q with
   | false=>exact h4
   | true=>
    rw[aQ];intro l' hl';rcases Bg.1 hl' with rfl | hl'
    ·refine⟨?_,hm2 hq,hm⟩;show oK v (gS q F S.h)=true;rw[hv,fY];exact hs hq
    ·exact h4 _ hl'
  cases g with
  | none=>exact go (by rw[if_pos (show dS none F=true from rfl)] at hr;exact hr)
  | some g=>
   obtain⟨s,b⟩:=g;by_cases hw:dS (some (s,b)) F=true
   ·rw[if_pos hw] at hr;obtain⟨n,D',e1,e2⟩:=go hr;refine⟨n,D',?_,e2⟩;have:sJ ⟨d,.q q,some (s,b),m⟩ i base (ev fns n).call ⟨F,S,[],[],ls⟩=sJ ⟨d,.q q,none,m⟩ i base (ev fns n).call ⟨F,S,[],[],ls⟩:=by
     show bL (dS (some (s,b)) F) _ _=bL true _ _;rw[hw];rfl
    show aZ (sJ ⟨d,.q q,some (s,b),m⟩ i base (ev fns n).call ⟨F,S,[],[],ls⟩) _=_;rw[this];exact e1
   ·rw[if_neg hw] at hr;obtain⟨n,D',e1,e2⟩:=yR (i:=i+1) (F:=cD d F .undef) (ls:=ls) h1 h2' h3' h4 hr;refine⟨n,D',?_,e2⟩;have:sJ ⟨d,.q q,some (s,b),m⟩ i base (ev fns n).call ⟨F,S,[],[],ls⟩=some ⟨cD d F .undef,S,[],[],ls⟩:=by
     show bL (dS (some (s,b)) F) _ _=_;rw[show dS (some (s,b)) F=false by simpa using hw];rfl
    show aZ (sJ ⟨d,.q q,some (s,b),m⟩ i base (ev fns n).call ⟨F,S,[],[],ls⟩) _=_;rw[this];exact e1
 | ⟨d,.a a,g,m⟩::l,i,F,S,ls,h1,h2,h3,h4,hr=>by cases hr
 | ⟨d,.x a,g,m⟩::l,i,F,S,ls,h1,h2,h3,h4,hr=>by cases hr
theorem gK(C:Ctx fns agg k)(i j K:Nat){ops:List AO}{m1 m2 m3 p1 p2 v1 v2 s2 i2:Nat}{A:bH}{S S0:St}{d:Array AV}{Q:Out→bH→St→Prop}(hS:C.On S0 S d)(hi:i<C.n)(hj:j<C.n)
  (he:ops.drop K= [⟨none,.x (.st k (.t p1) (.t v1)),none,m1⟩,⟨some p2,.q (.iaddr (.slice k) (.t s2) (.t i2)),none,m3⟩,⟨none,.x (.st k (.t p2) (.t v2)),none,m2⟩])
  (hm:((List.range K).all fun t=>match ops[t]? with | some o=> !Nat.testBit o.mask K && (!aMi o || Nat.testBit m1 t) | none=>false)=true) (hm2:Nat.testBit m2 K=true) (hv2:v2≠p2)
  (h:jR (ops.take K) A.F S.h fun F=>aD p1 F=C.pt i∧aD v1 F=d[j]! ∧aD v2 F=d[i]! ∧aD s2 F=C.v∧eR (aD i2 F)=some j∧∀S',C.On S0 S' (swp d i j)→Q .normal ⟨cD (some p2) F (C.pt j),A.inr⟩ S'):mA fns (.drw ops) A S Q:=by
 obtain⟨pre,hp⟩:∃pre,pre=ops.take K:=⟨_,rfl⟩;have hKl:K≤ops.length:=by
  have:=Ey List.length he;simp only[Da,Au,Bu] at this;omega
 have hK:pre.length=K:=by rw[hp,Ca];omega
 have hg:∀t,t<K→ops[t]? =pre[t]? :=fun t ht=>by rw[hp,List.getElem?_take,if_pos ht]
 rw[←hp] at h;have he:ops=pre++ [⟨none,.x (.st k (.t p1) (.t v1)),none,m1⟩,⟨some p2,.q (.iaddr (.slice k) (.t s2) (.t i2)),none,m3⟩,⟨none,.x (.st k (.t p2) (.t v2)),none,m2⟩]:=by rw[←he,hp,Cq]
 clear hp;subst he;refine qX ?_;refine yR (h:=S.h) (K:=K) (m0:=m1) (pre:=pre) (i:=0) rfl (by omega) (fun t o ho=>?_) (fun l hl=>by cases hl) ?_
 ·have hlt:t<K:=by rw[←hK];exact(Ai.1 ho).1
  have:=Dk.1 hm t (Fa.2 hlt);rw[hg t hlt,ho] at this;simp only[Cb,Bool.not_eq_true',Ek] at this;refine⟨this.1,fun hh=>?_⟩;rw[An];rcases this.2 with h2 | h2
  ·rw[h2] at hh;cases hh
  ·exact h2
 refine uR ?_ pre A.F h;rintro F ⟨e1,e2,e3,e4,e5,hQ⟩ ls hls;obtain⟨S1,S2,x1,x2,on⟩:=(hS.nx (pre++ [(⟨none,.x (.st k (.t p1) (.t v1)),none,m1⟩:AO),⟨some p2,.q (.iaddr (.slice k) (.t s2) (.t i2)),none,m3⟩,⟨none,.x (.st k (.t p2) (.t v2)),none,m2⟩]).length).swap hi hj;have c1:=hS.1.cells hi;have c2:=hS.1.cells hj;refine aC7 (v:=.undef) (S1:=S1) rfl (fun call=>?_) ?_
 ·rw[eJ];simp only[lA,e2,c2,aT,e1,cK];exact x1
 rw[mF];simp only[pS,mZ,lA,e4,e5,aT,C.ia hj,eO,jH,aV,cK];refine aC7 (v:=.undef) (S1:=S2) hm2 (fun call=>?_) ?_
 ·rw[eJ];simp only[lA,dR,hv2,De,Dw,e3,c1,aT,cK];exact x2
 rw[oO];refine⟨?_,?_⟩
 ·simp only[Ff,List.reverse_nil,Cm,Cz];refine nH fun l hl=>?_;obtain⟨h1,h2,h4⟩:=hls l hl;unfold eY;rw[h4,aV,h1,aQ,h2,aQ]
 ·simp only[pS,cK];exact hQ _ on
theorem zL{a b:Nat}(h:a+b≤9223372036854775807):IntKind.i64.wrap ((a:Int)+(b:Int))=((a+b:Nat):Int):=by rw[wrap_i64 (by omega) (by omega)];omega
theorem zO{a b:Nat}(h:b≤a)(h2:a≤9223372036854775807):IntKind.i64.wrap ((a:Int) - (b:Int))=((a - b:Nat):Int):=by rw[wrap_i64 (by omega) (by omega)];omega
theorem iP{a:Nat}(h:a+1≤9223372036854775807):IntKind.i64.wrap ((a:Int)+1)=((a+1:Nat):Int):=zL (b:=1) h
theorem iT{a:Nat}(h:1≤a)(h2:a≤9223372036854775807):IntKind.i64.wrap ((a:Int) - 1)=((a - 1:Nat):Int):=zO (b:=1) h h2
theorem aMK{a b:Nat}(h:a * b≤9223372036854775807):IntKind.i64.wrap ((a:Int) * (b:Int))=((a * b:Nat):Int):=by
 rw[show(a:Int) * (b:Int)=((a * b:Nat):Int) by rw[Int.natCast_mul],wrap_i64 (by omega) (by omega)]
theorem dlt(a b:Nat):decide ((a:Int)<(b:Int))=decide (a<b):=by
 congr 1;rw[Int.ofNat_lt]
theorem dle(a b:Nat):decide ((a:Int)≤(b:Int))=decide (a≤b):=by
 congr 1;rw[Int.ofNat_le]
theorem deq(a b:Nat):decide ((a:Int)=(b:Int))=decide (a=b):=by
 congr 1;rw[Int.ofNat_inj]
end Go.Ev.Gl
namespace Go.Ev.Gl
open Go.Sort
variable {fns:T dE}
theorem Ctx.old{agg:Bool}{k:Nat}{C:Ctx fns agg k}{S:St}{d:Array AV}{i:Nat}(h:C.At S d)(hi:i<C.n):aKO (fun _=>False) S.nx (C.pt i):=⟨_,_,rfl,(h.2.2 (by omega)).1,fun h=>h⟩
theorem Ctx.On.cmp{agg:Bool}{k:Nat}{C:Ctx fns agg k}{S S0:St}{d:Array AV}{i j:Nat}(h:C.On S0 S d)(hi:i<C.n)(hj:j<C.n):fA fns C.f [d[i]!,d[j]!] S fun r S'=>Same S S'∧∃c:Int,r= .int .i64 c∧decide (c<0)=C.lt d[i]! d[j]! :=
 C.cmp S _ _ h.2.1 (h.1.2.1 i hi) (h.1.2.1 j hj)
def aOL(C:Ctx fns false 1)(S0:St)(R:Array AV)(a b i:Nat)(k:Nat)(A:bH)(X:St):Prop:=A.inr=false∧k≤i∧aD 0 A.F=C.v∧aD 1 A.F= .int .i64 (a:Int)∧aD 2 A.F= .int .i64 (b:Int)∧aD 3 A.F=C.f∧aD 8 A.F= .int .i64 (i:Int)∧aD 9 A.F= .int .i64 (k:Int)∧∃d,C.On S0 X d∧insInner C.lt a k d=R
def aPg(C:Ctx fns false 1)(S0:St)(R:Array AV)(a b:Nat)(k:Nat)(A:bH)(X:St):Prop:=A.inr=false∧aD 0 A.F=C.v∧aD 1 A.F= .int .i64 (a:Int)∧aD 2 A.F= .int .i64 (b:Int)∧aD 3 A.F=C.f∧∃i d,k+i=b+1∧aD 8 A.F= .int .i64 (i:Int)∧C.On S0 X d∧insOuter C.lt a b i d=R
theorem aBp{C:Ctx fns false 1}{S S0:St}{d:Array AV}{a b:Nat}(H:Has fns)(h:C.On S0 S d)(hab:a≤b)(hb:b≤C.n):fA fns (.fn 66 [] []) [C.v,.int .i64 (a:Int),.int .i64 (b:Int),C.f] S fun _ S'=>C.On S0 S' (insertionSort C.lt d a b):=by
 have hn:=C.hn;refine bP H.f66 (by simp) ?_;simp only[↓aC,aB,rE,↓reduceIte,rA];refine bE ?_;simp only[↓aC,aB,rE,↓reduceIte,rA,iP (show a+1≤9223372036854775807 by omega)];refine aS (Q:=fun o A' X=>o= .normal∧C.On S0 X (insertionSort C.lt d a b)) (aJ (bB (aPg C S0 (insertionSort C.lt d a b) a b) ?_ (b - a) _ _ ⟨rfl,by simp only[↓aC,aB,rE,↓reduceIte],by simp only[↓aC,aB,rE,↓reduceIte],by simp only[↓aC,aB,rE,↓reduceIte],by simp only[↓aC,aB,rE,↓reduceIte],a+1,d,by omega,by simp only[↓aC,aB,rE,↓reduceIte],h,rfl⟩)) ?_
 ·rintro k ⟨F,inr⟩ X ⟨q0,p0,p1,p2,p3,i,e,hk,p8,on,he⟩;simp only at q0 p0 p1 p2 p3 p8;subst q0;refine eG ?_;simp only[↓aC,aB,rE,↓reduceIte,rA,p2,p8,dlt];unfold insOuter at he;by_cases hlt:i<b
  ·rw[if_pos hlt] at he;refine aM (by simp only[↓aC,aB,rE,↓reduceIte,Ab hlt]) (aI ?_);simp only[↓aC,aB,rE,↓reduceIte];refine aA (aJ ?_);refine bE ?_;simp only[↓aC,aB,rE,↓reduceIte,p8];refine aS (Q:=fun o A' X=>o= .normal∧A'.inr=false∧aD 0 A'.F=C.v∧aD 1 A'.F= .int .i64 (a:Int)∧aD 2 A'.F= .int .i64 (b:Int)∧aD 3 A'.F=C.f∧aD 8 A'.F= .int .i64 (i:Int)∧C.On S0 X (insInner C.lt a i e)) (aJ (bB (aOL C S0 (insInner C.lt a i e) a b i) ?_ i _ _ ⟨rfl,Ah _,by simp only[↓aC,aB,rE,↓reduceIte,p0],by simp only[↓aC,aB,rE,↓reduceIte,p1],by simp only[↓aC,aB,rE,↓reduceIte,p2],by simp only[↓aC,aB,rE,↓reduceIte,p3],by simp only[↓aC,aB,rE,↓reduceIte,p8],by simp only[↓aC,aB,rE,↓reduceIte],e,on,rfl⟩)) ?_
   ·rintro j ⟨F,inr⟩ X ⟨q0,hji,p0,p1,p2,p3,p8,p9,e2,on,he⟩;simp only at q0 p0 p1 p2 p3 p8 p9;subst q0;by_cases hja:a<j
    ·obtain⟨t,rfl⟩:∃t,j=t+1:=⟨j - 1,by omega⟩;have w1:IntKind.i64.wrap (((t+1:Nat):Int) - 1)=(t:Int):=iT (a:=t+1) (by omega) (by omega);have l1:=on.1.ld (i:=t+1) (by omega);have l2:=on.1.ld (i:=t) (by omega);refine aA (aA (cR (fun _=>False) ?_));intro X1 x1;simp only[↓sU,sD,rE,↓reduceIte,rA,p0,p1,p3,p9,dlt,Ab hja,w1,C.ia (i:=t+1) (by omega),C.ia (i:=t) (by omega),l1,l2,on.1.self (i:=t+1) (by omega),on.1.self (i:=t) (by omega),Ctx.old on.1 (i:=t+1) (by omega),Ctx.old on.1 (i:=t) (by omega)];refine bX rfl ?_;simp only[↓sU,sD,rE,↓reduceIte,rA,p3];refine aP ((on.step x1).cmp (i:=t+1) (j:=t) (by omega) (by omega)) ?_;rintro _ Y ⟨hY,c,rfl,hc⟩;refine⟨hY,?_⟩;simp only[↓sU,sD,rE,↓reduceIte,rA,hc];have he:(if(decide (a<t+1) && C.lt e2[t+1]! e2[t]!)=true then insInner C.lt a t (swp e2 (t+1) t) else e2)=insInner C.lt a i e:=he;rw[Ab hja,Ep] at he;cases hl:C.lt e2[t+1]! e2[t]! with
     | false=>
      rw[hl,if_neg (by simp)] at he;refine aK (by simp only[↓aC,aB,rE,↓reduceIte]) (aU ?_);simp only[↓aC,aB,rE,↓reduceIte];exact⟨p0,p1,p2,p3,p8,he ▸ (on.step x1).step hY⟩
     | true=>
      rw[hl,if_pos rfl] at he;refine aM (by simp only[↓aC,aB,rE,↓reduceIte]) (aI ?_);simp only[↓aC,aB,rE,↓reduceIte];have on2:=(on.step x1).step hY;refine aA (aJ ?_);refine gK C (t+1) t 15 on2 (by omega) (by omega) rfl (by decide) (by decide) (by decide) ?_;simp only[↓aC,aB,rE,↓reduceIte,Bo,Bp,rA,p0,p9,w1,aE,C.ia (i:=t+1) (by omega),C.ia (i:=t) (by omega),on2.1.ld (i:=t+1) (by omega),on2.1.ld (i:=t) (by omega),on2.1.self (i:=t+1) (by omega),on2.1.self (i:=t) (by omega)];intro Z hZ;refine aF ?_;simp only[↓aC,aB,rE,↓reduceIte,p9,w1];exact⟨t,by omega,rfl,by omega,by simp only[↓aC,aB,rE,↓reduceIte,p0],by simp only[↓aC,aB,rE,↓reduceIte,p1],by simp only[↓aC,aB,rE,↓reduceIte,p2],by simp only[↓aC,aB,rE,↓reduceIte,p3],by simp only[↓aC,aB,rE,↓reduceIte,p8],by simp only[↓aC,aB,rE,↓reduceIte],_,hZ,he⟩
    ·refine aA (aA (cR (fun _=>False) ?_));intro X1 x1;simp only[↓sU,sD,rE,↓reduceIte,rA,p0,p1,p3,p9,dlt,Aa hja];refine aK (by simp only[↓aC,aB,rE,↓reduceIte]) (aU ?_);simp only[↓aC,aB,rE,↓reduceIte];have he2:e2=insInner C.lt a i e:=by
      rw[←he];cases j with
      | zero=>rfl
      | succ t=>
       unfold insInner;rw[if_neg];simp only[gt_iff_lt,Aa hja,Eg];simp
     exact⟨p0,p1,p2,p3,p8,he2 ▸ on.step x1⟩
   ·rintro o ⟨F,inr⟩ X ⟨rfl,q0,p0,p1,p2,p3,p8,on⟩;simp only at q0 p0 p1 p2 p3 p8;subst q0;simp only[↓aC,aB,rE,↓reduceIte];refine aF ?_;simp only[↓aC,aB,rE,↓reduceIte,p8,iP (show i+1≤9223372036854775807 by omega)];exact⟨k - 1,by omega,rfl,by simp only[↓aC,aB,rE,↓reduceIte,p0],by simp only[↓aC,aB,rE,↓reduceIte,p1],by simp only[↓aC,aB,rE,↓reduceIte,p2],by simp only[↓aC,aB,rE,↓reduceIte,p3],i+1,_,by omega,by simp only[↓aC,aB,rE,↓reduceIte],on,he⟩
  ·rw[if_neg hlt] at he;refine aK (by simp only[↓aC,aB,rE,↓reduceIte,Aa hlt]) (aU ?_);simp only[↓aC,aB,rE,↓reduceIte];exact he ▸ on
 ·rintro o A X ⟨rfl,on⟩;exact⟨_,rfl,on⟩
def aON(C:Ctx fns false 1)(S0:St)(R:Array AV)(k:Nat)(A:bH)(X:St):Prop:=A.inr=false∧aD 0 A.F=C.v∧∃i j d,k=j - i∧j<C.n∧aD 8 A.F= .int .i64 (i:Int)∧aD 9 A.F= .int .i64 (j:Int)∧C.On S0 X d∧reverseLoop i j d=R
theorem aEa{C:Ctx fns false 1}{S S0:St}{d:Array AV}{a b:Nat}(H:Has fns)(h:C.On S0 S d)(hab:a<b)(hb:b≤C.n):fA fns (.fn 70 [] []) [C.v,.int .i64 (a:Int),.int .i64 (b:Int),C.f] S fun _ S'=>C.On S0 S' (reverseRange d a b):=by
 have hn:=C.hn;refine bP H.f70 (by simp) ?_;simp only[↓aC,aB,rE,↓reduceIte,rA];refine bE ?_;simp only[↓aC,aB,rE,↓reduceIte,rA];refine bE ?_;simp only[↓aC,aB,rE,↓reduceIte,rA,iT (show 1≤b by omega) (by omega)];refine aS (Q:=fun o A' X=>o= .normal∧C.On S0 X (reverseRange d a b)) (aJ (bB (aON C S0 (reverseRange d a b)) ?_ (b - 1 - a) _ _ ⟨rfl,by simp only[↓aC,aB,rE,↓reduceIte],a,b - 1,d,rfl,by omega,by simp only[↓aC,aB,rE,↓reduceIte],by simp only[↓aC,aB,rE,↓reduceIte],h,rfl⟩)) ?_
 ·rintro k ⟨F,inr⟩ X ⟨q0,p0,i,j,e,hk,hjn,p8,p9,on,he⟩;simp only at q0 p0 p8 p9;subst q0;refine eG ?_;simp only[↓aC,aB,rE,↓reduceIte,rA,p8,p9,dlt];unfold reverseLoop at he;by_cases hlt:i<j
  ·rw[if_pos hlt] at he;refine aM (by simp only[↓aC,aB,rE,↓reduceIte,Ab hlt]) (aI ?_);simp only[↓aC,aB,rE,↓reduceIte];refine aJ (aA ?_);refine gK C i j 13 on (by omega) (by omega) rfl (by decide) (by decide) (by decide) ?_;simp only[↓aC,aB,rE,↓reduceIte,Bo,Bp,rA,p0,p8,p9,aE,C.ia (i:=i) (by omega),C.ia (i:=j) (by omega),on.1.ld (i:=i) (by omega),on.1.ld (i:=j) (by omega),on.1.self (i:=i) (by omega),on.1.self (i:=j) (by omega)];intro Z hZ;refine bE ?_;simp only[↓aC,aB,rE,↓reduceIte,p8,iP (show i+1≤9223372036854775807 by omega)];refine aF ?_;simp only[↓aC,aB,rE,↓reduceIte,p9,iT (show 1≤j by omega) (show j≤9223372036854775807 by omega)];exact⟨j - 1 - (i+1),by omega,rfl,by simp only[↓aC,aB,rE,↓reduceIte,p0],i+1,j - 1,_,rfl,by omega,by simp only[↓aC,aB,rE,↓reduceIte],by simp only[↓aC,aB,rE,↓reduceIte],hZ,he⟩
  ·rw[if_neg hlt] at he;refine aK (by simp only[↓aC,aB,rE,↓reduceIte,Aa hlt]) (aU ?_);simp only[↓aC,aB,rE,↓reduceIte];exact he ▸ on
 ·rintro o A X ⟨rfl,on⟩;exact⟨_,rfl,on⟩
end Go.Ev.Gl
namespace Go.Ev.Gl
open Go.Sort
variable {fns:T dE}
theorem aN5{a:Nat}(h:2 * a≤9223372036854775807):IntKind.i64.wrap (2 * (a:Int))=((2 * a:Nat):Int):=by rw[wrap_i64 (by omega) (by omega)];omega
theorem aFS(lt:AV→AV→Bool)(hi first root:Nat)(d:Array AV):siftDown lt hi first root d=if 2 * root+1≥hi then d else
  if !lt d[first+root]! d[first+(if(decide (2 * root+2<hi) && lt d[first+(2 * root+1)]! d[first+(2 * root+2)]!)=true then 2 * root+2 else 2 * root+1)]! then d else
   siftDown lt hi first (if(decide (2 * root+2<hi) && lt d[first+(2 * root+1)]! d[first+(2 * root+2)]!)=true then 2 * root+2 else 2 * root+1) (swp d (first+root) (first+(if(decide (2 * root+2<hi) && lt d[first+(2 * root+1)]! d[first+(2 * root+2)]!)=true then 2 * root+2 else 2 * root+1))):=by
 conv=>lhs;unfold siftDown
 by_cases h1:2 * root+1≥hi
 ·rw[dif_pos h1,if_pos h1]
 rw[dif_neg h1,if_neg h1];by_cases h2:(decide (2 * root+2<hi) && lt d[first+(2 * root+1)]! d[first+(2 * root+2)]!)=true
 ·have h2':(decide (2 * root+1+1<hi) && lt d[first+(2 * root+1)]! d[first+(2 * root+1)+1]!)=true:=h2;rw[if_pos h2,if_pos h2'];have h3:2 * root+2<hi:=by
   simp only[Cb,decide_eq_true_eq] at h2;exact h2.1
  rw[dif_pos h3]
 ·have h2':¬ (decide (2 * root+1+1<hi) && lt d[first+(2 * root+1)]! d[first+(2 * root+1)+1]!)=true:=h2;rw[if_neg h2,if_neg h2']
def aOT(C:Ctx fns false 1)(S0:St)(R:Array AV)(hi first:Nat)(k:Nat)(A:bH)(X:St):Prop:=A.inr=false∧aD 0 A.F=C.v∧aD 2 A.F= .int .i64 (hi:Int)∧aD 3 A.F= .int .i64 (first:Int)∧aD 4 A.F=C.f∧∃root d,k=C.n+1 - root∧root≤C.n∧aD 10 A.F= .int .i64 (root:Int)∧C.On S0 X d∧siftDown C.lt hi first root d=R
theorem aCR{C:Ctx fns false 1}{S S0:St}{d:Array AV}{lo hi first:Nat}(H:Has fns)(h:C.On S0 S d)(hb:first+hi≤C.n)(hlo:lo≤C.n):fA fns (.fn 80 [] []) [C.v,.int .i64 (lo:Int),.int .i64 (hi:Int),.int .i64 (first:Int),C.f] S fun _ S'=>C.On S0 S' (siftDown C.lt hi first lo d):=by
 have hn:=C.hn;refine bP H.f80 (by simp) ?_;simp only[↓aC,aB,rE,↓reduceIte,rA];refine bE ?_;simp only[↓aC,aB,rE,↓reduceIte,rA];refine aS (Q:=fun o A' X=>(o= .normal∨o= .ret)∧C.On S0 X (siftDown C.lt hi first lo d)) (aJ (bB (aOT C S0 (siftDown C.lt hi first lo d) hi first) ?_ (C.n+1 - lo) _ _ ⟨rfl,by simp only[↓aC,aB,rE,↓reduceIte],by simp only[↓aC,aB,rE,↓reduceIte],by simp only[↓aC,aB,rE,↓reduceIte],by simp only[↓aC,aB,rE,↓reduceIte],lo,d,rfl,hlo,by simp only[↓aC,aB,rE,↓reduceIte],h,rfl⟩)) ?_
 ·rintro k ⟨F,inr⟩ X ⟨q0,p0,p2,p3,p4,root,e,hk,hr,p10,on,he⟩;simp only at q0 p0 p2 p3 p4 p10;subst q0;refine aJ (aA (aF ?_));simp only[↓aC,aB,rE,↓reduceIte,rA,p10,aN5 (show 2 * root≤9223372036854775807 by omega),iP (show 2 * root+1≤9223372036854775807 by omega)];refine eG ?_;simp only[↓aC,aB,rE,↓reduceIte,rA,p2,dle];rw[aFS] at he;by_cases hge:hi≤2 * root+1
  ·rw[if_pos hge] at he;refine aM (by simp only[↓aC,aB,rE,↓reduceIte,Ab hge]) (aU ?_);simp only[↓aC,aB,rE,↓reduceIte];exact⟨.inl trivial,he ▸ on⟩
  rw[if_neg hge] at he;refine aK (by simp only[↓aC,aB,rE,↓reduceIte,Aa hge]) (aI ?_);simp only[↓aC,aB,rE,↓reduceIte];obtain⟨c,hc⟩:∃c,c=if(decide (2 * root+2<hi) && C.lt e[first+(2 * root+1)]! e[first+(2 * root+2)]!)=true then 2 * root+2 else 2 * root+1:=⟨_,rfl⟩;rw[←hc] at he;refine aA (aS (Q:=fun o A' X=>o= .normal∧A'.inr=false∧aD 0 A'.F=C.v∧aD 2 A'.F= .int .i64 (hi:Int)∧aD 3 A'.F= .int .i64 (first:Int)∧aD 4 A'.F=C.f∧aD 10 A'.F= .int .i64 (root:Int)∧aD 11 A'.F= .int .i64 (c:Int)∧c<hi∧(c=2 * root+2∨c=2 * root+1)∧C.On S0 X e) ?_ ?_)
  ·refine aA (cR (fun _=>False) ?_);intro X1 x1;by_cases h2:2 * root+2<hi
   ·have w1:=zL (a:=first) (b:=2 * root+1) (by omega);have w2:=iP (a:=2 * root+1) (by omega);have w3:=iP (a:=first+(2 * root+1)) (by omega);have i1:first+(2 * root+1)<C.n:=by omega
    have i2:first+(2 * root+2)<C.n:=by omega
    have i2':first+(2 * root+1)+1<C.n:=i2;rw[Ab h2,Ep] at hc;simp only[↓sU,sD,rE,↓reduceIte,rA,p0,p2,p3,p4,dlt,w1,w2,Ab (show 2 * root+1+1<hi from h2),w3,aE,C.ia i1,C.ia i2',on.1.ld i1,on.1.ld i2',on.1.self i1,on.1.self i2',Ctx.old on.1 i1,Ctx.old on.1 i2'];refine bX rfl ?_;simp only[↓sU,sD,rE,↓reduceIte,rA,p4];refine aP ((on.step x1).cmp i1 i2) ?_;rintro _ Y ⟨hY,z,rfl,hz⟩;refine⟨hY,?_⟩;simp only[↓sU,sD,rE,↓reduceIte,rA,hz];cases hl:C.lt e[first+(2 * root+1)]! e[first+(2 * root+2)]! with
    | true=>
     rw[hl,if_pos rfl] at hc;refine aM (by simp only[↓aC,aB,rE,↓reduceIte]) (aF ?_);simp only[↓aC,aB,rE,↓reduceIte,w2];rw[hc];exact⟨p0,p2,p3,p4,p10,rfl,by omega,.inl rfl,(on.step x1).step hY⟩
    | false=>
     rw[hl,if_neg (by simp)] at hc;refine aK (by simp only[↓aC,aB,rE,↓reduceIte]) (aI ?_);rw[hc];exact⟨rfl,rfl,by simp only[↓aC,aB,rE,↓reduceIte,p0],by simp only[↓aC,aB,rE,↓reduceIte,p2],by simp only[↓aC,aB,rE,↓reduceIte,p3],by simp only[↓aC,aB,rE,↓reduceIte,p4],by simp only[↓aC,aB,rE,↓reduceIte,p10],by simp only[↓aC,aB,rE,↓reduceIte],by omega,.inr rfl,(on.step x1).step hY⟩
   ·rw[Aa h2,Eg,if_neg (by simp)] at hc;simp only[↓sU,sD,rE,↓reduceIte,rA,p0,p2,p3,p4,dlt,iP (a:=2 * root+1) (by omega),Aa (show ¬2 * root+1+1<hi from h2)];refine aK (by simp only[↓aC,aB,rE,↓reduceIte]) (aI ?_);rw[hc];exact⟨rfl,rfl,by simp only[↓aC,aB,rE,↓reduceIte,p0],by simp only[↓aC,aB,rE,↓reduceIte,p2],by simp only[↓aC,aB,rE,↓reduceIte,p3],by simp only[↓aC,aB,rE,↓reduceIte,p4],by simp only[↓aC,aB,rE,↓reduceIte,p10],by simp only[↓aC,aB,rE,↓reduceIte],by omega,.inr rfl,on.step x1⟩
  rintro o ⟨F,inr⟩ X ⟨rfl,q0,p0,p2,p3,p4,p10,p11,hc1,hc2,on⟩;simp only at q0 p0 p2 p3 p4 p10 p11;subst q0;simp only[↓aC,aB,rE,↓reduceIte];have w1:=zL (a:=first) (b:=root) (by omega);have w2:=zL (a:=first) (b:=c) (by omega);have i1:first+root<C.n:=by omega
  have i2:first+c<C.n:=by omega
  refine aA (aA (cR (fun _=>False) ?_));intro X1 x1;simp only[↓sU,sD,rE,↓reduceIte,rA,p0,p2,p3,p4,p10,p11,w1,w2,aE,C.ia i1,C.ia i2,on.1.ld i1,on.1.ld i2,on.1.self i1,on.1.self i2,Ctx.old on.1 i1,Ctx.old on.1 i2];refine bX rfl ?_;simp only[↓sU,sD,rE,↓reduceIte,rA,p4];refine aP ((on.step x1).cmp i1 i2) ?_;rintro _ Y ⟨hY,z,rfl,hz⟩;refine⟨hY,?_⟩;have on2:=(on.step x1).step hY;simp only[↓sU,sD,rE,↓reduceIte,rA,hz,dH];cases hl:C.lt e[first+root]! e[first+c]! with
  | false=>
   rw[hl,Bq,if_pos rfl] at he;refine aM (by simp only[↓aC,aB,rE,↓reduceIte,Bq]) (aO ?_);simp only[↓aC,aB,rE,↓reduceIte];exact⟨.inr trivial,he ▸ on2⟩
  | true=>
   rw[hl,Bl,if_neg (by simp)] at he;refine aK (by simp only[↓aC,aB,rE,↓reduceIte,Bl]) (aI ?_);simp only[↓aC,aB,rE,↓reduceIte];refine aA ?_;refine gK C (first+root) (first+c) 21 on2 i1 i2 rfl (by decide) (by decide) (by decide) ?_;simp only[↓aC,aB,rE,↓reduceIte,Bo,Bp,rA,p0,p3,p10,p11,w1,w2,aE,C.ia i1,C.ia i2,on2.1.ld i1,on2.1.ld i2,on2.1.self i1,on2.1.self i2];intro Z hZ;refine aF ?_;simp only[↓aC,aB,rE,↓reduceIte,p11];exact⟨C.n+1 - c,by omega,rfl,by simp only[↓aC,aB,rE,↓reduceIte,p0],by simp only[↓aC,aB,rE,↓reduceIte,p2],by simp only[↓aC,aB,rE,↓reduceIte,p3],by simp only[↓aC,aB,rE,↓reduceIte,p4],c,_,rfl,by omega,by simp only[↓aC,aB,rE,↓reduceIte],hZ,he⟩
 ·rintro o A X ⟨rfl | rfl,on⟩
  ·exact⟨_,rfl,on⟩
  ·exact⟨_,rfl,on⟩
theorem aKT{a n:Nat}(ha:a≤9223372036854775807)(hn:0<n):gO .quo (.p .int) (.int .i64 (a:Int)) (.int .i64 (n:Int))=some (.int .i64 ((a / n:Nat):Int)):=by
 rw[aH4 (.p .int) (by omega) (by omega) (by omega),Int.natCast_ediv]
def aMU(C:Ctx fns false 1)(S0:St)(R:Array AV)(a b:Nat)(f:Nat→Array AV→Array AV)(t:Nat)(k:Nat)(A:bH)(X:St):Prop:=A.inr=false∧k≤b - a∧aD 0 A.F=C.v∧aD 3 A.F=C.f∧aD 8 A.F= .int .i64 (a:Int)∧aD 9 A.F= .int .i64 0∧aD 10 A.F= .int .i64 ((b - a:Nat):Int)∧aD t A.F= .int .i64 ((k:Int) - 1)∧∃d,C.On S0 X d∧f k d=R
theorem aIr{C:Ctx fns false 1}{S S0:St}{d:Array AV}{a b:Nat}(H:Has fns)(h:C.On S0 S d)(hab:a<b)(hb:b≤C.n):fA fns (.fn 67 [] []) [C.v,.int .i64 (a:Int),.int .i64 (b:Int),C.f] S fun _ S'=>C.On S0 S' (heapSort C.lt d a b):=by
 have hn:=C.hn;have hq:gO .quo (.p .int) (.int .i64 ((b - a - 1:Nat):Int)) (.int .i64 2)=some (.int .i64 (((b - a - 1) / 2:Nat):Int)):=aKT (n:=2) (by omega) (by omega);have dec:∀k:Nat,k≤C.n→IntKind.i64.wrap ((k:Int) - 1)=(k:Int) - 1:=fun k hk=>wrap_i64 (by omega) (by omega);refine bP H.f67 (by simp) ?_;simp only[↓aC,aB,rE,↓reduceIte,rA];refine bE ?_;simp only[↓aC,aB,rE,↓reduceIte,rA];refine bE ?_;simp only[↓aC,aB,rE,↓reduceIte,rA];refine bE ?_;simp only[↓aC,aB,rE,↓reduceIte,rA,zO (a:=b) (b:=a) (by omega) (by omega)];refine aA (aS (Q:=fun o A' X=>o= .normal∧aMU C S0 (heapBuild C.lt (b - a) a ((b - a - 1) / 2+1) d) a b (heapBuild C.lt (b - a) a) 11 0 A' X) (aA (aF ?_)) ?_)
 ·simp only[↓aC,aB,rE,↓reduceIte,rA,iT (a:=b - a) (by omega) (by omega),hq];refine aJ (bB (aMU C S0 (heapBuild C.lt (b - a) a ((b - a - 1) / 2+1) d) a b (heapBuild C.lt (b - a) a) 11) ?_ ((b - a - 1) / 2+1) _ _ ⟨rfl,by omega,by simp only[↓aC,aB,rE,↓reduceIte],by simp only[↓aC,aB,rE,↓reduceIte],by simp only[↓aC,aB,rE,↓reduceIte],by simp only[↓aC,aB,rE,↓reduceIte],by simp only[↓aC,aB,rE,↓reduceIte],?_,d,h,rfl⟩)
  ·rintro k ⟨F,inr⟩ X ⟨q0,hk,p0,p3,p8,p9,p10,p11,e,on,he⟩;simp only at q0 p0 p3 p8 p9 p10 p11;subst q0;refine eG ?_;simp only[↓aC,aB,rE,↓reduceIte,rA,p11];cases k with
   | zero=>
    refine aK (by simp only[↓aC,aB,rE,↓reduceIte];rfl) (aU ?_);exact⟨rfl,rfl,Cj _,by simp only[↓aC,aB,rE,↓reduceIte,p0],by simp only[↓aC,aB,rE,↓reduceIte,p3],by simp only[↓aC,aB,rE,↓reduceIte,p8],by simp only[↓aC,aB,rE,↓reduceIte,p9],by simp only[↓aC,aB,rE,↓reduceIte,p10],by simp only[↓aC,aB,rE,↓reduceIte,p11],e,on,he⟩
   | succ t=>
    have ei:((t+1:Nat):Int) - 1=(t:Int):=by omega
    rw[ei] at p11 ⊢;refine aM (by simp only[↓aC,aB,rE,↓reduceIte,Ab (show(0:Int)≤(t:Int) by omega)]) (aI ?_);try simp only[↓aC,aB,rE,↓reduceIte]
    refine aA (aJ (aF ?_));simp only[↓aC,aB,rE,↓reduceIte,p0,p3,p8,p10,p11];refine aY ?_;simp only[↓aC,aB,rE,↓reduceIte,p0,p3,p8,p10,p11];refine aP (aCR H on (by omega) (by omega)) ?_;intro r Z hZ;try simp only[↓aC,aB,rE,↓reduceIte]
    refine aF ?_;simp only[↓aC,aB,rE,↓reduceIte,p11,dec t (by omega)];exact⟨t,by omega,rfl,by omega,by simp only[↓aC,aB,rE,↓reduceIte,p0],by simp only[↓aC,aB,rE,↓reduceIte,p3],by simp only[↓aC,aB,rE,↓reduceIte,p8],by simp only[↓aC,aB,rE,↓reduceIte,p9],by simp only[↓aC,aB,rE,↓reduceIte,p10],by simp only[↓aC,aB,rE,↓reduceIte],_,hZ,he⟩
  ·simp only[↓aC,aB,rE,↓reduceIte];congr 1;omega
 ·rintro o ⟨F,inr⟩ X ⟨rfl,q0,hk,p0,p3,p8,p9,p10,p11,e,on,he⟩;simp only at q0 p0 p3 p8 p9 p10 p11;subst q0;have he:e=heapBuild C.lt (b - a) a ((b - a - 1) / 2+1) d:=he;simp only[↓aC,aB,rE,↓reduceIte];refine bE ?_;simp only[↓aC,aB,rE,↓reduceIte,p10,iT (a:=b - a) (by omega) (by omega)];refine aS (Q:=fun o A' X=>o= .normal∧C.On S0 X (heapSort C.lt d a b)) (aJ (bB (aMU C S0 (heapSort C.lt d a b) a b (heapPop C.lt a) 12) ?_ (b - a) _ _ ⟨rfl,by omega,by simp only[↓aC,aB,rE,↓reduceIte,p0],by simp only[↓aC,aB,rE,↓reduceIte,p3],by simp only[↓aC,aB,rE,↓reduceIte,p8],by simp only[↓aC,aB,rE,↓reduceIte,p9],by simp only[↓aC,aB,rE,↓reduceIte,p10],?_,e,on,by rw[he];rfl⟩)) ?_
  ·rintro k ⟨F,inr⟩ X ⟨q0,hk,p0,p3,p8,p9,p10,p12,e,on,he⟩;simp only at q0 p0 p3 p8 p9 p10 p12;subst q0;refine eG ?_;simp only[↓aC,aB,rE,↓reduceIte,rA,p12];cases k with
   | zero=>
    refine aK (by simp only[↓aC,aB,rE,↓reduceIte];rfl) (aU ?_);exact⟨rfl,he ▸ on⟩
   | succ t=>
    have ei:((t+1:Nat):Int) - 1=(t:Int):=by omega
    rw[ei] at p12 ⊢;refine aM (by simp only[↓aC,aB,rE,↓reduceIte,Ab (show(0:Int)≤(t:Int) by omega)]) (aI ?_);try simp only[↓aC,aB,rE,↓reduceIte]
    have i1:a<C.n:=by omega
    have i2:a+t<C.n:=by omega
    have w1:=zL (a:=a) (b:=t) (by omega);refine aA (aJ (aA ?_));refine gK C a (a+t) 17 on i1 i2 rfl (by decide) (by decide) (by decide) ?_;simp only[↓aC,aB,rE,↓reduceIte,Bo,Bp,rA,p0,p8,p12,w1,aE,C.ia i1,C.ia i2,on.1.ld i1,on.1.ld i2,on.1.self i1,on.1.self i2];intro Y hY;refine aF ?_;simp only[↓aC,aB,rE,↓reduceIte,p0,p3,p8,p9,p12];refine aY ?_;simp only[↓aC,aB,rE,↓reduceIte,p0,p3,p8,p9,p12];refine aP (aCR (lo:=0) H hY (by omega) (by omega)) ?_;intro r Z hZ;try simp only[↓aC,aB,rE,↓reduceIte]
    refine aF ?_;simp only[↓aC,aB,rE,↓reduceIte,p12,dec t (by omega)];exact⟨t,by omega,rfl,by omega,by simp only[↓aC,aB,rE,↓reduceIte,p0],by simp only[↓aC,aB,rE,↓reduceIte,p3],by simp only[↓aC,aB,rE,↓reduceIte,p8],by simp only[↓aC,aB,rE,↓reduceIte,p9],by simp only[↓aC,aB,rE,↓reduceIte,p10],by simp only[↓aC,aB,rE,↓reduceIte],_,hZ,he⟩
  ·simp only[↓aC,aB,rE,↓reduceIte];congr 1;omega
  ·rintro o A X ⟨rfl,on⟩;exact⟨_,rfl,on⟩
end Go.Ev.Gl
namespace Go.Ev.Gl
open Go.Sort
variable {fns:T dE}
def PaS(C:Ctx fns false 1)(S0:St)(e:Array AV)(a b ti tj i j:Nat)(A:bH)(X:St):Prop:=A.inr=false∧aD 0 A.F=C.v∧aD 1 A.F= .int .i64 (a:Int)∧aD 2 A.F= .int .i64 (b:Int)∧aD 4 A.F=C.f∧aD ti A.F= .int .i64 (i:Int)∧aD tj A.F= .int .i64 (j:Int)∧C.On S0 X e
theorem aFQ{C:Ctx fns false 1}{S S0:St}{d:Array AV}{a b p:Nat}(H:Has fns)(on:C.On S0 S d)(hap:a≤p)(hpb:p<b)(hb:b≤C.n):fA fns (.fn 72 [] []) [C.v,.int .i64 (a:Int),.int .i64 (b:Int),.int .i64 (p:Int),C.f] S fun r S'=>r= .int .i64 ((partitionEqual C.lt d a b p).1:Int)∧C.On S0 S' (partitionEqual C.lt d a b p).2:=by
 have hn:=C.hn;refine bP H.f72 (by simp) ?_;simp only[↓aC,aB,rE,↓reduceIte,rA];refine bE ?_;simp only[↓aC,aB,rE,↓reduceIte,rA];refine aA ?_;refine gK C a p 13 on (by omega) (by omega) rfl (by decide) (by decide) (by decide) ?_;simp only[↓aC,aB,rE,↓reduceIte,Bo,Bp,rA,Cz,aE,C.ia (i:=a) (by omega),C.ia (i:=p) (by omega),on.1.ld (i:=a) (by omega),on.1.ld (i:=p) (by omega),on.1.self (i:=a) (by omega),on.1.self (i:=p) (by omega)];try clear on
 intro Z on;try simp only[↓aC,aB,rE,↓reduceIte]
 refine bE ?_;simp only[↓aC,aB,rE,↓reduceIte,iP (show a+1≤9223372036854775807 by omega),iT (show 1≤b by omega) (by omega)];refine aA (aS (Q:=fun o A' X=>o= .normal∧aD 11 A'.F= .int .i64 ((partitionEqual C.lt d a b p).1:Int)∧C.On S0 X (partitionEqual C.lt d a b p).2) (aJ (bB (fun k A' X=>∃i j e,a<i∧i≤C.n∧j<C.n∧k=j+1 - i∧PaS C S0 e a b 11 12 i j A' X∧partEqLoop C.lt a i j e=partitionEqual C.lt d a b p) ?_ _ _ _ ⟨a+1,b - 1,_,by omega,by omega,by omega,rfl,⟨rfl,by simp only[↓aC,aB,rE,↓reduceIte],by simp only[↓aC,aB,rE,↓reduceIte],by simp only[↓aC,aB,rE,↓reduceIte],by simp only[↓aC,aB,rE,↓reduceIte],by simp only[↓aC,aB,rE,↓reduceIte],by simp only[↓aC,aB,rE,↓reduceIte],on⟩,rfl⟩)) ?_)
 ·rintro k A X ⟨i,j,e,hai,hin,hjn,hk,hP,he⟩;refine aJ ?_;obtain⟨i2,hi2⟩:∃i2,i2=scanUp (fun x=> !C.lt e[a]! x) e j i:=⟨_,rfl⟩;obtain⟨j2,hj2⟩:∃j2,j2=scanDown (fun x=>C.lt e[a]! x) e i2 j:=⟨_,rfl⟩;have s1:=scanUp_spec (fun x=> !C.lt e[a]! x) e j _ i rfl;have s2:=scanDown_spec (fun x=>C.lt e[a]! x) e i2 j;rw[partEqLoop_eq,←hi2,←hj2] at he;rw[←hi2] at s1;rw[←hj2] at s2;refine aA (aS (Q:=fun o A' X=>o= .normal∧PaS C S0 e a b 11 12 i2 j A' X) (aJ (bB (fun k A' X=>∃i,a<i∧i≤C.n∧k=j+1 - i∧PaS C S0 e a b 11 12 i j A' X∧scanUp (fun x=> !C.lt e[a]! x) e j i=i2) ?_ _ _ _ ⟨i,by omega,by omega,rfl,hP,hi2.symm⟩)) ?_)
  ·rintro k ⟨F,inr⟩ X ⟨i,hai,hin,hk,⟨q0,p0,p1,p2,p4,pi,pj,on⟩,he⟩;simp only at q0 p0 p1 p2 p4 pi pj;subst q0;have ia:a<C.n:=by omega
   refine aA (aA (cR (fun _=>False) ?_));intro X1 x1;by_cases hij:i≤j
   ·have ix:i<C.n:=by omega
    rw[scanUp,Ab hij,Ep] at he;simp only[↓sU,sD,rE,↓reduceIte,rA,p0,p1,p4,pi,pj,dle,Ab hij,aE,C.ia ia,C.ia ix,on.1.ld ia,on.1.ld ix,on.1.self ia,on.1.self ix,Ctx.old on.1 ia,Ctx.old on.1 ix];refine bX rfl ?_;simp only[↓sU,sD,rE,↓reduceIte,rA,p4];refine aP ((on.step x1).cmp ia ix) ?_;rintro _ Y ⟨hY,z,rfl,hz⟩;refine⟨hY,?_⟩;have on2:=(on.step x1).step hY;simp only[↓sU,sD,rE,↓reduceIte,rA,hz,dH];cases hl:C.lt e[a]! e[i]! with
    | false=>
     rw[hl,Bq,if_pos rfl] at he;refine aM (by simp only[↓aC,aB,rE,↓reduceIte,Bq]) (aI ?_);try simp only[↓aC,aB,rE,↓reduceIte]
     refine aJ (aF ?_);simp only[↓aC,aB,rE,↓reduceIte,pi,iP (show i+1≤9223372036854775807 by omega)];exact⟨j+1 - (i+1),by omega,i+1,by omega,by omega,rfl,⟨rfl,by simp only[↓aC,aB,rE,↓reduceIte,p0],by simp only[↓aC,aB,rE,↓reduceIte,p1],by simp only[↓aC,aB,rE,↓reduceIte,p2],by simp only[↓aC,aB,rE,↓reduceIte,p4],by simp only[↓aC,aB,rE,↓reduceIte],by simp only[↓aC,aB,rE,↓reduceIte,pj],on2⟩,he⟩
    | true=>
     rw[hl,Bl,if_neg (by simp)] at he;refine aK (by simp only[↓aC,aB,rE,↓reduceIte,Bl]) (aU ?_);try simp only[↓aC,aB,rE,↓reduceIte]
     rw[←he];exact⟨rfl,by simp only[↓aC,aB,rE,↓reduceIte,p0],by simp only[↓aC,aB,rE,↓reduceIte,p1],by simp only[↓aC,aB,rE,↓reduceIte,p2],by simp only[↓aC,aB,rE,↓reduceIte,p4],by simp only[↓aC,aB,rE,↓reduceIte,pi],by simp only[↓aC,aB,rE,↓reduceIte,pj],on2⟩
   ·rw[scanUp,Aa hij,Eg,if_neg (by simp)] at he;simp only[↓sU,sD,rE,↓reduceIte,rA,p0,p1,p4,pi,pj,dle,Aa hij];refine aK (by simp only[↓aC,aB,rE,↓reduceIte]) (aU ?_);try simp only[↓aC,aB,rE,↓reduceIte]
    rw[←he];exact⟨rfl,by simp only[↓aC,aB,rE,↓reduceIte,p0],by simp only[↓aC,aB,rE,↓reduceIte,p1],by simp only[↓aC,aB,rE,↓reduceIte,p2],by simp only[↓aC,aB,rE,↓reduceIte,p4],by simp only[↓aC,aB,rE,↓reduceIte,pi],by simp only[↓aC,aB,rE,↓reduceIte,pj],on.step x1⟩
  rintro o ⟨F,inr⟩ X ⟨rfl,q0,p0,p1,p2,p4,pi,pj,on⟩;simp only at q0 p0 p1 p2 p4 pi pj;subst q0;try simp only[↓aC,aB,rE,↓reduceIte]
  refine aA (aS (Q:=fun o A' X=>o= .normal∧PaS C S0 e a b 11 12 i2 j2 A' X) (aJ (bB (fun k A' X=>∃j,j<C.n∧k=j∧PaS C S0 e a b 11 12 i2 j A' X∧scanDown (fun x=>C.lt e[a]! x) e i2 j=j2) ?_ _ _ _ ⟨j,by omega,rfl,⟨rfl,p0,p1,p2,p4,pi,pj,on⟩,hj2.symm⟩)) ?_)
  ·rintro k ⟨F,inr⟩ X ⟨j,hjn,hk,⟨q0,p0,p1,p2,p4,pi,pj,on⟩,he⟩;simp only at q0 p0 p1 p2 p4 pi pj;subst q0;have ia:a<C.n:=by omega
   refine aA (aA (cR (fun _=>False) ?_));intro X1 x1;by_cases hij:i2≤j
   ·have ix:j<C.n:=by omega
    obtain⟨t,rfl⟩:∃t,j=t+1:=⟨j - 1,by omega⟩;rw[scanDown,Ab hij,Ep] at he;simp only[↓sU,sD,rE,↓reduceIte,rA,p0,p1,p4,pi,pj,dle,Ab hij,aE,C.ia ia,C.ia ix,on.1.ld ia,on.1.ld ix,on.1.self ia,on.1.self ix,Ctx.old on.1 ia,Ctx.old on.1 ix];refine bX rfl ?_;simp only[↓sU,sD,rE,↓reduceIte,rA,p4];refine aP ((on.step x1).cmp ia ix) ?_;rintro _ Y ⟨hY,z,rfl,hz⟩;refine⟨hY,?_⟩;have on2:=(on.step x1).step hY;simp only[↓sU,sD,rE,↓reduceIte,rA,hz,dH];cases hl:C.lt e[a]! e[t+1]! with
    | true=>
     rw[hl,if_pos rfl] at he;refine aM (by simp only[↓aC,aB,rE,↓reduceIte]) (aI ?_);try simp only[↓aC,aB,rE,↓reduceIte]
     refine aJ (aF ?_);simp only[↓aC,aB,rE,↓reduceIte,pj,show IntKind.i64.wrap (((t+1:Nat):Int) - 1)=(t:Int) from iT (a:=t+1) (by omega) (by omega)];exact⟨t,by omega,t,by omega,rfl,⟨rfl,by simp only[↓aC,aB,rE,↓reduceIte,p0],by simp only[↓aC,aB,rE,↓reduceIte,p1],by simp only[↓aC,aB,rE,↓reduceIte,p2],by simp only[↓aC,aB,rE,↓reduceIte,p4],by simp only[↓aC,aB,rE,↓reduceIte,pi],by simp only[↓aC,aB,rE,↓reduceIte],on2⟩,he⟩
    | false=>
     rw[hl,if_neg (by simp)] at he;refine aK (by simp only[↓aC,aB,rE,↓reduceIte]) (aU ?_);try simp only[↓aC,aB,rE,↓reduceIte]
     rw[←he];exact⟨rfl,by simp only[↓aC,aB,rE,↓reduceIte,p0],by simp only[↓aC,aB,rE,↓reduceIte,p1],by simp only[↓aC,aB,rE,↓reduceIte,p2],by simp only[↓aC,aB,rE,↓reduceIte,p4],by simp only[↓aC,aB,rE,↓reduceIte,pi],by simp only[↓aC,aB,rE,↓reduceIte,pj],on2⟩
   ·have he:j=j2:=by
     rw[←he];cases j with
     | zero=>rfl
     | succ t=>rw[scanDown,Aa hij,Eg,if_neg (by simp)]
    simp only[↓sU,sD,rE,↓reduceIte,rA,p0,p1,p4,pi,pj,dle,Aa hij];refine aK (by simp only[↓aC,aB,rE,↓reduceIte]) (aU ?_);try simp only[↓aC,aB,rE,↓reduceIte]
    rw[←he];exact⟨rfl,by simp only[↓aC,aB,rE,↓reduceIte,p0],by simp only[↓aC,aB,rE,↓reduceIte,p1],by simp only[↓aC,aB,rE,↓reduceIte,p2],by simp only[↓aC,aB,rE,↓reduceIte,p4],by simp only[↓aC,aB,rE,↓reduceIte,pi],by simp only[↓aC,aB,rE,↓reduceIte,pj],on.step x1⟩
  rintro o ⟨F,inr⟩ X ⟨rfl,q0,p0,p1,p2,p4,pi,pj,on⟩;simp only at q0 p0 p1 p2 p4 pi pj;subst q0;try simp only[↓aC,aB,rE,↓reduceIte]
  refine eG ?_;simp only[↓aC,aB,rE,↓reduceIte,pi,pj,dlt];by_cases hgt:j2<i2
  ·rw[if_pos hgt] at he;refine aM (by simp only[↓aC,aB,rE,↓reduceIte,Ab hgt]) (aU ?_);try simp only[↓aC,aB,rE,↓reduceIte]
   rw[←he];exact⟨by simp only[↓aC,aB,rE,↓reduceIte,pi],on⟩
  rw[if_neg hgt] at he;refine aK (by simp only[↓aC,aB,rE,↓reduceIte,Aa hgt]) (aI ?_);try simp only[↓aC,aB,rE,↓reduceIte]
  refine aA ?_;refine gK C i2 j2 13 on (by omega) (by omega) rfl (by decide) (by decide) (by decide) ?_;simp only[↓aC,aB,rE,↓reduceIte,Bo,Bp,rA,p0,pi,pj,aE,C.ia (i:=i2) (by omega),C.ia (i:=j2) (by omega),on.1.ld (i:=i2) (by omega),on.1.ld (i:=j2) (by omega),on.1.self (i:=i2) (by omega),on.1.self (i:=j2) (by omega)];try clear on
  intro Z on;refine bE ?_;simp only[↓aC,aB,rE,↓reduceIte,pi,iP (show i2+1≤9223372036854775807 by omega)];refine aF ?_;simp only[↓aC,aB,rE,↓reduceIte,pj,iT (show 1≤j2 by omega) (show j2≤9223372036854775807 by omega)];exact⟨j2 - 1+1 - (i2+1),by omega,i2+1,j2 - 1,_,by omega,by omega,by omega,rfl,⟨rfl,by simp only[↓aC,aB,rE,↓reduceIte,p0],by simp only[↓aC,aB,rE,↓reduceIte,p1],by simp only[↓aC,aB,rE,↓reduceIte,p2],by simp only[↓aC,aB,rE,↓reduceIte,p4],by simp only[↓aC,aB,rE,↓reduceIte],by simp only[↓aC,aB,rE,↓reduceIte],on⟩,he⟩
 rintro o ⟨F,inr⟩ X ⟨rfl,pi,on⟩;simp only at pi;try simp only[↓aC,aB,rE,↓reduceIte]
 refine bE ?_;simp only[↓aC,aB,rE,↓reduceIte,pi];refine aO ?_;try simp only[↓aC,aB,rE,↓reduceIte]
 exact on
theorem aIv{C:Ctx fns false 1}{S S0:St}{d:Array AV}{a b p:Nat}(H:Has fns)(on:C.On S0 S d)(hap:a≤p)(hpb:p<b)(hb:b≤C.n):fA fns (.fn 73 [] []) [C.v,.int .i64 (a:Int),.int .i64 (b:Int),.int .i64 (p:Int),C.f] S fun r S'=>r= .tup [.int .i64 ((Sort.partition C.lt d a b p).1:Int),.bool (Sort.partition C.lt d a b p).2.1]∧C.On S0 S' (Sort.partition C.lt d a b p).2.2:=by
 have hn:=C.hn;refine bP H.f73 (by simp) ?_;simp only[↓aC,aB,rE,↓reduceIte,rA];refine bE ?_;simp only[↓aC,aB,rE,↓reduceIte,rA];refine aA ?_;refine gK C a p 13 on (by omega) (by omega) rfl (by decide) (by decide) (by decide) ?_;simp only[↓aC,aB,rE,↓reduceIte,Bo,Bp,rA,Cz,aE,C.ia (i:=a) (by omega),C.ia (i:=p) (by omega),on.1.ld (i:=a) (by omega),on.1.ld (i:=p) (by omega),on.1.self (i:=a) (by omega),on.1.self (i:=p) (by omega)];try clear on
 intro Z on;obtain⟨e,hE⟩:∃e,e=swp d a p:=⟨_,rfl⟩;rw[←hE] at on;try simp only[↓aC,aB,rE,↓reduceIte]
 refine bE ?_;simp only[↓aC,aB,rE,↓reduceIte,iP (show a+1≤9223372036854775807 by omega),iT (show 1≤b by omega) (by omega)];obtain⟨i2,hi2⟩:∃i2,i2=scanUp (fun x=>C.lt x e[a]!) e (b - 1) (a+1):=⟨_,rfl⟩;obtain⟨j2,hj2⟩:∃j2,j2=scanDown (fun x=> !C.lt x e[a]!) e i2 (b - 1):=⟨_,rfl⟩;have s1:=scanUp_spec (fun x=>C.lt x e[a]!) e (b - 1) _ (a+1) rfl;have s2:=scanDown_spec (fun x=> !C.lt x e[a]!) e i2 (b - 1);rw[←hi2] at s1;rw[←hj2] at s2;have hpa:Sort.partition C.lt d a b p=if i2>j2 then(j2,true,swp e j2 a) else((partLoop C.lt a (i2+1) (j2 - 1) (swp e i2 j2)).1,false,swp (partLoop C.lt a (i2+1) (j2 - 1) (swp e i2 j2)).2 (partLoop C.lt a (i2+1) (j2 - 1) (swp e i2 j2)).1 a):=by
  rw[hj2,hi2,hE];rfl
 refine aA (aS (Q:=fun o A' X=>o= .normal∧PaS C S0 e a b 12 13 i2 (b - 1) A' X) (aJ (bB (fun k A' X=>∃i,a<i∧i≤C.n∧k=b - 1+1 - i∧PaS C S0 e a b 12 13 i (b - 1) A' X∧scanUp (fun x=>C.lt x e[a]!) e (b - 1) i=i2) ?_ _ _ _ ⟨(a+1),by omega,by omega,rfl,⟨rfl,by simp only[↓aC,aB,rE,↓reduceIte],by simp only[↓aC,aB,rE,↓reduceIte],by simp only[↓aC,aB,rE,↓reduceIte],by simp only[↓aC,aB,rE,↓reduceIte],by simp only[↓aC,aB,rE,↓reduceIte],by simp only[↓aC,aB,rE,↓reduceIte],on⟩,hi2.symm⟩)) ?_)
 ·rintro k ⟨F,inr⟩ X ⟨i,hai,hin,hk,⟨q0,p0,p1,p2,p4,pi,pj,on⟩,he⟩;simp only at q0 p0 p1 p2 p4 pi pj;subst q0;have ia:a<C.n:=by omega
  refine aA (aA (cR (fun _=>False) ?_));intro X1 x1;by_cases hij:i≤(b - 1)
  ·have ix:i<C.n:=by omega
   rw[scanUp,Ab hij,Ep] at he;simp only[↓sU,sD,rE,↓reduceIte,rA,p0,p1,p4,pi,pj,dle,Ab hij,aE,C.ia ia,C.ia ix,on.1.ld ia,on.1.ld ix,on.1.self ia,on.1.self ix,Ctx.old on.1 ia,Ctx.old on.1 ix];refine bX rfl ?_;simp only[↓sU,sD,rE,↓reduceIte,rA,p4];refine aP ((on.step x1).cmp ix ia) ?_;rintro _ Y ⟨hY,z,rfl,hz⟩;refine⟨hY,?_⟩;have on2:=(on.step x1).step hY;simp only[↓sU,sD,rE,↓reduceIte,rA,hz,dH];cases hl:C.lt e[i]! e[a]! with
   | true=>
    rw[hl,if_pos rfl] at he;refine aM (by simp only[↓aC,aB,rE,↓reduceIte]) (aI ?_);try simp only[↓aC,aB,rE,↓reduceIte]
    refine aJ (aF ?_);simp only[↓aC,aB,rE,↓reduceIte,pi,iP (show i+1≤9223372036854775807 by omega)];exact⟨(b - 1)+1 - (i+1),by omega,i+1,by omega,by omega,rfl,⟨rfl,by simp only[↓aC,aB,rE,↓reduceIte,p0],by simp only[↓aC,aB,rE,↓reduceIte,p1],by simp only[↓aC,aB,rE,↓reduceIte,p2],by simp only[↓aC,aB,rE,↓reduceIte,p4],by simp only[↓aC,aB,rE,↓reduceIte],by simp only[↓aC,aB,rE,↓reduceIte,pj],on2⟩,he⟩
   | false=>
    rw[hl,if_neg (by simp)] at he;refine aK (by simp only[↓aC,aB,rE,↓reduceIte]) (aU ?_);try simp only[↓aC,aB,rE,↓reduceIte]
    rw[←he];exact⟨rfl,by simp only[↓aC,aB,rE,↓reduceIte,p0],by simp only[↓aC,aB,rE,↓reduceIte,p1],by simp only[↓aC,aB,rE,↓reduceIte,p2],by simp only[↓aC,aB,rE,↓reduceIte,p4],by simp only[↓aC,aB,rE,↓reduceIte,pi],by simp only[↓aC,aB,rE,↓reduceIte,pj],on2⟩
  ·rw[scanUp,Aa hij,Eg,if_neg (by simp)] at he;simp only[↓sU,sD,rE,↓reduceIte,rA,p0,p1,p4,pi,pj,dle,Aa hij];refine aK (by simp only[↓aC,aB,rE,↓reduceIte]) (aU ?_);try simp only[↓aC,aB,rE,↓reduceIte]
   rw[←he];exact⟨rfl,by simp only[↓aC,aB,rE,↓reduceIte,p0],by simp only[↓aC,aB,rE,↓reduceIte,p1],by simp only[↓aC,aB,rE,↓reduceIte,p2],by simp only[↓aC,aB,rE,↓reduceIte,p4],by simp only[↓aC,aB,rE,↓reduceIte,pi],by simp only[↓aC,aB,rE,↓reduceIte,pj],on.step x1⟩
 rintro o ⟨F,inr⟩ X ⟨rfl,q0,p0,p1,p2,p4,pi,pj,on⟩;simp only at q0 p0 p1 p2 p4 pi pj;subst q0;try simp only[↓aC,aB,rE,↓reduceIte]
 refine aA (aS (Q:=fun o A' X=>o= .normal∧PaS C S0 e a b 12 13 i2 j2 A' X) (aJ (bB (fun k A' X=>∃j,j<C.n∧k=j∧PaS C S0 e a b 12 13 i2 j A' X∧scanDown (fun x=> !C.lt x e[a]!) e i2 j=j2) ?_ _ _ _ ⟨(b - 1),by omega,rfl,⟨rfl,p0,p1,p2,p4,pi,pj,on⟩,hj2.symm⟩)) ?_)
 ·rintro k ⟨F,inr⟩ X ⟨j,hjn,hk,⟨q0,p0,p1,p2,p4,pi,pj,on⟩,he⟩;simp only at q0 p0 p1 p2 p4 pi pj;subst q0;have ia:a<C.n:=by omega
  refine aA (aA (cR (fun _=>False) ?_));intro X1 x1;by_cases hij:i2≤j
  ·have ix:j<C.n:=by omega
   obtain⟨t,rfl⟩:∃t,j=t+1:=⟨j - 1,by omega⟩;rw[scanDown,Ab hij,Ep] at he;simp only[↓sU,sD,rE,↓reduceIte,rA,p0,p1,p4,pi,pj,dle,Ab hij,aE,C.ia ia,C.ia ix,on.1.ld ia,on.1.ld ix,on.1.self ia,on.1.self ix,Ctx.old on.1 ia,Ctx.old on.1 ix];refine bX rfl ?_;simp only[↓sU,sD,rE,↓reduceIte,rA,p4];refine aP ((on.step x1).cmp ix ia) ?_;rintro _ Y ⟨hY,z,rfl,hz⟩;refine⟨hY,?_⟩;have on2:=(on.step x1).step hY;simp only[↓sU,sD,rE,↓reduceIte,rA,hz,dH];cases hl:C.lt e[t+1]! e[a]! with
   | false=>
    rw[hl,Bq,if_pos rfl] at he;refine aM (by simp only[↓aC,aB,rE,↓reduceIte,Bq]) (aI ?_);try simp only[↓aC,aB,rE,↓reduceIte]
    refine aJ (aF ?_);simp only[↓aC,aB,rE,↓reduceIte,pj,show IntKind.i64.wrap (((t+1:Nat):Int) - 1)=(t:Int) from iT (a:=t+1) (by omega) (by omega)];exact⟨t,by omega,t,by omega,rfl,⟨rfl,by simp only[↓aC,aB,rE,↓reduceIte,p0],by simp only[↓aC,aB,rE,↓reduceIte,p1],by simp only[↓aC,aB,rE,↓reduceIte,p2],by simp only[↓aC,aB,rE,↓reduceIte,p4],by simp only[↓aC,aB,rE,↓reduceIte,pi],by simp only[↓aC,aB,rE,↓reduceIte],on2⟩,he⟩
   | true=>
    rw[hl,Bl,if_neg (by simp)] at he;refine aK (by simp only[↓aC,aB,rE,↓reduceIte,Bl]) (aU ?_);try simp only[↓aC,aB,rE,↓reduceIte]
    rw[←he];exact⟨rfl,by simp only[↓aC,aB,rE,↓reduceIte,p0],by simp only[↓aC,aB,rE,↓reduceIte,p1],by simp only[↓aC,aB,rE,↓reduceIte,p2],by simp only[↓aC,aB,rE,↓reduceIte,p4],by simp only[↓aC,aB,rE,↓reduceIte,pi],by simp only[↓aC,aB,rE,↓reduceIte,pj],on2⟩
  ·have he:j=j2:=by
    rw[←he];cases j with
    | zero=>rfl
    | succ t=>rw[scanDown,Aa hij,Eg,if_neg (by simp)]
   simp only[↓sU,sD,rE,↓reduceIte,rA,p0,p1,p4,pi,pj,dle,Aa hij];refine aK (by simp only[↓aC,aB,rE,↓reduceIte]) (aU ?_);try simp only[↓aC,aB,rE,↓reduceIte]
   rw[←he];exact⟨rfl,by simp only[↓aC,aB,rE,↓reduceIte,p0],by simp only[↓aC,aB,rE,↓reduceIte,p1],by simp only[↓aC,aB,rE,↓reduceIte,p2],by simp only[↓aC,aB,rE,↓reduceIte,p4],by simp only[↓aC,aB,rE,↓reduceIte,pi],by simp only[↓aC,aB,rE,↓reduceIte,pj],on.step x1⟩
 rintro o ⟨F,inr⟩ X ⟨rfl,q0,p0,p1,p2,p4,pi,pj,on⟩;simp only at q0 p0 p1 p2 p4 pi pj;subst q0;try simp only[↓aC,aB,rE,↓reduceIte]
 refine eG ?_;simp only[↓aC,aB,rE,↓reduceIte,pi,pj,dlt];by_cases hgt:j2<i2
 ·rw[if_pos hgt] at hpa;rw[hpa];refine aM (by simp only[↓aC,aB,rE,↓reduceIte,Ab hgt]) ?_;refine aA ?_;refine gK C j2 a 13 on (by omega) (by omega) rfl (by decide) (by decide) (by decide) ?_;simp only[↓aC,aB,rE,↓reduceIte,Bo,Bp,rA,p0,p1,pj,aE,C.ia (i:=j2) (by omega),C.ia (i:=a) (by omega),on.1.ld (i:=j2) (by omega),on.1.ld (i:=a) (by omega),on.1.self (i:=j2) (by omega),on.1.self (i:=a) (by omega)];try clear on
  intro Z on;refine bE ?_;simp only[↓aC,aB,rE,↓reduceIte,pj];refine aO ?_;simp only[↓aC,aB,rE,↓reduceIte];exact on
 rw[if_neg hgt] at hpa;rw[hpa];refine aK (by simp only[↓aC,aB,rE,↓reduceIte,Aa hgt]) (aI ?_);try simp only[↓aC,aB,rE,↓reduceIte]
 refine aA ?_;refine gK C i2 j2 13 on (by omega) (by omega) rfl (by decide) (by decide) (by decide) ?_;simp only[↓aC,aB,rE,↓reduceIte,Bo,Bp,rA,p0,pi,pj,aE,C.ia (i:=i2) (by omega),C.ia (i:=j2) (by omega),on.1.ld (i:=i2) (by omega),on.1.ld (i:=j2) (by omega),on.1.self (i:=i2) (by omega),on.1.self (i:=j2) (by omega)];try clear on
 intro Z on;refine bE ?_;simp only[↓aC,aB,rE,↓reduceIte,pi,iP (show i2+1≤9223372036854775807 by omega)];refine bE ?_;simp only[↓aC,aB,rE,↓reduceIte,pj,iT (show 1≤j2 by omega) (show j2≤9223372036854775807 by omega)];obtain⟨R,hR⟩:∃R,R=partLoop C.lt a (i2+1) (j2 - 1) (swp e i2 j2):=⟨_,rfl⟩;rw[←hR];refine aA (aS (Q:=fun o A' X=>o= .normal∧aD 0 A'.F=C.v∧aD 1 A'.F= .int .i64 (a:Int)∧aD 13 A'.F= .int .i64 (R.1:Int)∧R.1<C.n∧C.On S0 X R.2) (aJ (bB (fun k A' X=>∃i j e,a<i∧i≤C.n∧j<C.n∧k=j+1 - i∧PaS C S0 e a b 12 13 i j A' X∧partLoop C.lt a i j e=R) ?_ _ _ _ ⟨i2+1,j2 - 1,_,by omega,by omega,by omega,rfl,⟨rfl,by simp only[↓aC,aB,rE,↓reduceIte,p0],by simp only[↓aC,aB,rE,↓reduceIte,p1],by simp only[↓aC,aB,rE,↓reduceIte,p2],by simp only[↓aC,aB,rE,↓reduceIte,p4],by simp only[↓aC,aB,rE,↓reduceIte],by simp only[↓aC,aB,rE,↓reduceIte],on⟩,hR.symm⟩)) ?_)
 ·rintro k A X ⟨i,j,e,hai,hin,hjn,hk,hP,he⟩;refine aJ ?_;obtain⟨i2,hi2⟩:∃i2,i2=scanUp (fun x=>C.lt x e[a]!) e j i:=⟨_,rfl⟩;obtain⟨j2,hj2⟩:∃j2,j2=scanDown (fun x=> !C.lt x e[a]!) e i2 j:=⟨_,rfl⟩;have s1:=scanUp_spec (fun x=>C.lt x e[a]!) e j _ i rfl;have s2:=scanDown_spec (fun x=> !C.lt x e[a]!) e i2 j;rw[partLoop_eq,←hi2,←hj2] at he;rw[←hi2] at s1;rw[←hj2] at s2;refine aA (aS (Q:=fun o A' X=>o= .normal∧PaS C S0 e a b 12 13 i2 j A' X) (aJ (bB (fun k A' X=>∃i,a<i∧i≤C.n∧k=j+1 - i∧PaS C S0 e a b 12 13 i j A' X∧scanUp (fun x=>C.lt x e[a]!) e j i=i2) ?_ _ _ _ ⟨i,by omega,by omega,rfl,hP,hi2.symm⟩)) ?_)
  ·rintro k ⟨F,inr⟩ X ⟨i,hai,hin,hk,⟨q0,p0,p1,p2,p4,pi,pj,on⟩,he⟩;simp only at q0 p0 p1 p2 p4 pi pj;subst q0;have ia:a<C.n:=by omega
   refine aA (aA (cR (fun _=>False) ?_));intro X1 x1;by_cases hij:i≤j
   ·have ix:i<C.n:=by omega
    rw[scanUp,Ab hij,Ep] at he;simp only[↓sU,sD,rE,↓reduceIte,rA,p0,p1,p4,pi,pj,dle,Ab hij,aE,C.ia ia,C.ia ix,on.1.ld ia,on.1.ld ix,on.1.self ia,on.1.self ix,Ctx.old on.1 ia,Ctx.old on.1 ix];refine bX rfl ?_;simp only[↓sU,sD,rE,↓reduceIte,rA,p4];refine aP ((on.step x1).cmp ix ia) ?_;rintro _ Y ⟨hY,z,rfl,hz⟩;refine⟨hY,?_⟩;have on2:=(on.step x1).step hY;simp only[↓sU,sD,rE,↓reduceIte,rA,hz,dH];cases hl:C.lt e[i]! e[a]! with
    | true=>
     rw[hl,if_pos rfl] at he;refine aM (by simp only[↓aC,aB,rE,↓reduceIte]) (aI ?_);try simp only[↓aC,aB,rE,↓reduceIte]
     refine aJ (aF ?_);simp only[↓aC,aB,rE,↓reduceIte,pi,iP (show i+1≤9223372036854775807 by omega)];exact⟨j+1 - (i+1),by omega,i+1,by omega,by omega,rfl,⟨rfl,by simp only[↓aC,aB,rE,↓reduceIte,p0],by simp only[↓aC,aB,rE,↓reduceIte,p1],by simp only[↓aC,aB,rE,↓reduceIte,p2],by simp only[↓aC,aB,rE,↓reduceIte,p4],by simp only[↓aC,aB,rE,↓reduceIte],by simp only[↓aC,aB,rE,↓reduceIte,pj],on2⟩,he⟩
    | false=>
     rw[hl,if_neg (by simp)] at he;refine aK (by simp only[↓aC,aB,rE,↓reduceIte]) (aU ?_);try simp only[↓aC,aB,rE,↓reduceIte]
     rw[←he];exact⟨rfl,by simp only[↓aC,aB,rE,↓reduceIte,p0],by simp only[↓aC,aB,rE,↓reduceIte,p1],by simp only[↓aC,aB,rE,↓reduceIte,p2],by simp only[↓aC,aB,rE,↓reduceIte,p4],by simp only[↓aC,aB,rE,↓reduceIte,pi],by simp only[↓aC,aB,rE,↓reduceIte,pj],on2⟩
   ·rw[scanUp,Aa hij,Eg,if_neg (by simp)] at he;simp only[↓sU,sD,rE,↓reduceIte,rA,p0,p1,p4,pi,pj,dle,Aa hij];refine aK (by simp only[↓aC,aB,rE,↓reduceIte]) (aU ?_);try simp only[↓aC,aB,rE,↓reduceIte]
    rw[←he];exact⟨rfl,by simp only[↓aC,aB,rE,↓reduceIte,p0],by simp only[↓aC,aB,rE,↓reduceIte,p1],by simp only[↓aC,aB,rE,↓reduceIte,p2],by simp only[↓aC,aB,rE,↓reduceIte,p4],by simp only[↓aC,aB,rE,↓reduceIte,pi],by simp only[↓aC,aB,rE,↓reduceIte,pj],on.step x1⟩
  rintro o ⟨F,inr⟩ X ⟨rfl,q0,p0,p1,p2,p4,pi,pj,on⟩;simp only at q0 p0 p1 p2 p4 pi pj;subst q0;try simp only[↓aC,aB,rE,↓reduceIte]
  refine aA (aS (Q:=fun o A' X=>o= .normal∧PaS C S0 e a b 12 13 i2 j2 A' X) (aJ (bB (fun k A' X=>∃j,j<C.n∧k=j∧PaS C S0 e a b 12 13 i2 j A' X∧scanDown (fun x=> !C.lt x e[a]!) e i2 j=j2) ?_ _ _ _ ⟨j,by omega,rfl,⟨rfl,p0,p1,p2,p4,pi,pj,on⟩,hj2.symm⟩)) ?_)
  ·rintro k ⟨F,inr⟩ X ⟨j,hjn,hk,⟨q0,p0,p1,p2,p4,pi,pj,on⟩,he⟩;simp only at q0 p0 p1 p2 p4 pi pj;subst q0;have ia:a<C.n:=by omega
   refine aA (aA (cR (fun _=>False) ?_));intro X1 x1;by_cases hij:i2≤j
   ·have ix:j<C.n:=by omega
    obtain⟨t,rfl⟩:∃t,j=t+1:=⟨j - 1,by omega⟩;rw[scanDown,Ab hij,Ep] at he;simp only[↓sU,sD,rE,↓reduceIte,rA,p0,p1,p4,pi,pj,dle,Ab hij,aE,C.ia ia,C.ia ix,on.1.ld ia,on.1.ld ix,on.1.self ia,on.1.self ix,Ctx.old on.1 ia,Ctx.old on.1 ix];refine bX rfl ?_;simp only[↓sU,sD,rE,↓reduceIte,rA,p4];refine aP ((on.step x1).cmp ix ia) ?_;rintro _ Y ⟨hY,z,rfl,hz⟩;refine⟨hY,?_⟩;have on2:=(on.step x1).step hY;simp only[↓sU,sD,rE,↓reduceIte,rA,hz,dH];cases hl:C.lt e[t+1]! e[a]! with
    | false=>
     rw[hl,Bq,if_pos rfl] at he;refine aM (by simp only[↓aC,aB,rE,↓reduceIte,Bq]) (aI ?_);try simp only[↓aC,aB,rE,↓reduceIte]
     refine aJ (aF ?_);simp only[↓aC,aB,rE,↓reduceIte,pj,show IntKind.i64.wrap (((t+1:Nat):Int) - 1)=(t:Int) from iT (a:=t+1) (by omega) (by omega)];exact⟨t,by omega,t,by omega,rfl,⟨rfl,by simp only[↓aC,aB,rE,↓reduceIte,p0],by simp only[↓aC,aB,rE,↓reduceIte,p1],by simp only[↓aC,aB,rE,↓reduceIte,p2],by simp only[↓aC,aB,rE,↓reduceIte,p4],by simp only[↓aC,aB,rE,↓reduceIte,pi],by simp only[↓aC,aB,rE,↓reduceIte],on2⟩,he⟩
    | true=>
     rw[hl,Bl,if_neg (by simp)] at he;refine aK (by simp only[↓aC,aB,rE,↓reduceIte,Bl]) (aU ?_);try simp only[↓aC,aB,rE,↓reduceIte]
     rw[←he];exact⟨rfl,by simp only[↓aC,aB,rE,↓reduceIte,p0],by simp only[↓aC,aB,rE,↓reduceIte,p1],by simp only[↓aC,aB,rE,↓reduceIte,p2],by simp only[↓aC,aB,rE,↓reduceIte,p4],by simp only[↓aC,aB,rE,↓reduceIte,pi],by simp only[↓aC,aB,rE,↓reduceIte,pj],on2⟩
   ·have he:j=j2:=by
     rw[←he];cases j with
     | zero=>rfl
     | succ t=>rw[scanDown,Aa hij,Eg,if_neg (by simp)]
    simp only[↓sU,sD,rE,↓reduceIte,rA,p0,p1,p4,pi,pj,dle,Aa hij];refine aK (by simp only[↓aC,aB,rE,↓reduceIte]) (aU ?_);try simp only[↓aC,aB,rE,↓reduceIte]
    rw[←he];exact⟨rfl,by simp only[↓aC,aB,rE,↓reduceIte,p0],by simp only[↓aC,aB,rE,↓reduceIte,p1],by simp only[↓aC,aB,rE,↓reduceIte,p2],by simp only[↓aC,aB,rE,↓reduceIte,p4],by simp only[↓aC,aB,rE,↓reduceIte,pi],by simp only[↓aC,aB,rE,↓reduceIte,pj],on.step x1⟩
  rintro o ⟨F,inr⟩ X ⟨rfl,q0,p0,p1,p2,p4,pi,pj,on⟩;simp only at q0 p0 p1 p2 p4 pi pj;subst q0;try simp only[↓aC,aB,rE,↓reduceIte]
  refine eG ?_;simp only[↓aC,aB,rE,↓reduceIte,pi,pj,dlt];by_cases hgt:j2<i2
  ·rw[if_pos hgt] at he;refine aM (by simp only[↓aC,aB,rE,↓reduceIte,Ab hgt]) (aU ?_);try simp only[↓aC,aB,rE,↓reduceIte]
   rw[←he];exact⟨by simp only[↓aC,aB,rE,↓reduceIte,p0],by simp only[↓aC,aB,rE,↓reduceIte,p1],by simp only[↓aC,aB,rE,↓reduceIte,pj],by omega,on⟩
  rw[if_neg hgt] at he;refine aK (by simp only[↓aC,aB,rE,↓reduceIte,Aa hgt]) (aI ?_);try simp only[↓aC,aB,rE,↓reduceIte]
  refine aA ?_;refine gK C i2 j2 13 on (by omega) (by omega) rfl (by decide) (by decide) (by decide) ?_;simp only[↓aC,aB,rE,↓reduceIte,Bo,Bp,rA,p0,pi,pj,aE,C.ia (i:=i2) (by omega),C.ia (i:=j2) (by omega),on.1.ld (i:=i2) (by omega),on.1.ld (i:=j2) (by omega),on.1.self (i:=i2) (by omega),on.1.self (i:=j2) (by omega)];try clear on
  intro Z on;refine bE ?_;simp only[↓aC,aB,rE,↓reduceIte,pi,iP (show i2+1≤9223372036854775807 by omega)];refine aF ?_;simp only[↓aC,aB,rE,↓reduceIte,pj,iT (show 1≤j2 by omega) (show j2≤9223372036854775807 by omega)];exact⟨j2 - 1+1 - (i2+1),by omega,i2+1,j2 - 1,_,by omega,by omega,by omega,rfl,⟨rfl,by simp only[↓aC,aB,rE,↓reduceIte,p0],by simp only[↓aC,aB,rE,↓reduceIte,p1],by simp only[↓aC,aB,rE,↓reduceIte,p2],by simp only[↓aC,aB,rE,↓reduceIte,p4],by simp only[↓aC,aB,rE,↓reduceIte],by simp only[↓aC,aB,rE,↓reduceIte],on⟩,he⟩
 rintro o ⟨F,inr⟩ X ⟨rfl,p0,p1,pj,hlt,on⟩;simp only at p0 p1 pj;try simp only[↓aC,aB,rE,↓reduceIte]
 refine aA ?_;refine gK C R.1 a 13 on (by omega) (by omega) rfl (by decide) (by decide) (by decide) ?_;simp only[↓aC,aB,rE,↓reduceIte,Bo,Bp,rA,p0,p1,pj,aE,C.ia (i:=R.1) (by omega),C.ia (i:=a) (by omega),on.1.ld (i:=R.1) (by omega),on.1.ld (i:=a) (by omega),on.1.self (i:=R.1) (by omega),on.1.self (i:=a) (by omega)];try clear on
 intro Z on;refine bE ?_;simp only[↓aC,aB,rE,↓reduceIte,pj];refine aO ?_;try simp only[↓aC,aB,rE,↓reduceIte]
 exact on
end Go.Ev.Gl
