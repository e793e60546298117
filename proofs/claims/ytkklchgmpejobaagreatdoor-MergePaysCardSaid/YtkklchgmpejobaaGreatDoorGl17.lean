import Derived.Test.YtkklchgmpejobaaGreatDoorGl16
import Derived.Sort.AssemblyPlain
open Nat renaming reduceEqDiff → rE, reduceAdd → rA
set_option maxHeartbeats 16000000
set_option linter.unusedSimpArgs false
set_option linter.unusedVariables false
namespace Go.Ev.Gl
open Go.Sort
variable {fns:T cV}
def El(agg:Bool)(k:Nat)(x:AV)(cs:List AV):Prop:=cs.length=k∧cM x x=true∧x.cells=some cs∧if agg=true then x= .agg cs else cs= [x]
structure Ctx(fns:T cV)(agg:Bool)(k:Nat) where
 b:Nat
 off:Nat
 n:Nat
 v:AV
 opn:Bool
 sz:Nat
 pre:List AV
 post:List AV
 cl:AV→List AV
 P:AV→Prop
 f:AV
 I:St→Prop
 lt:AV→AV→Bool
 hpre:pre.length=off
 hcl:∀x,P x→El agg k x (cl x)
 hv:0<n→∃cap o,v= .sl b off n cap o
 hn:n≤1000000000
 hI:∀S S',I S→bJ b S S'→I S'
 cmp:∀S x y,I S→P x→P y→fR fns f [x,y] S fun r S'=>Same S S'∧∃c:Int,r= .int .i64 c∧decide (c<0)=lt x y
variable {agg:Bool}{k:Nat}
def Ctx.At(C:Ctx fns agg k)(S:St)(d:Array AV):Prop:=d.size=C.n∧(∀i,i<C.n→C.P d[i]!)∧(0<C.n→C.b<S.nx∧S.h.get C.b=some (.cells (C.pre++d.toList.flatMap C.cl++C.post) C.opn C.sz))
def Ctx.On(C:Ctx fns agg k)(S0 S:St)(d:Array AV):Prop:=C.At S d∧C.I S∧bJ C.b S0 S
theorem aPn(d:Array AV){i:Nat}(h:i<d.size):d.toList[i]? =some d[i]! :=by
 rw[Gb d i h];simp [h]
theorem mP{b:Nat}{S S':St}(h:Same S S'):bJ b S S':=⟨h.1,fun c hc _=>h.2 c hc⟩
theorem aLT{cl:AV→List AV}:∀ {l:List AV} {i:Nat} {x:AV},(∀y∈l,(cl y).length=k)→l[i]? =some x→((l.flatMap cl).drop (i * k)).take k=cl x
 | [],i,x,_,h=>by simp at h
 | y::l,0,x,hk,h=>by
  simp at h;subst h;have:=hk y (by simp);rw[Dg,Ey,Ct,List.take_append_of_le_length (by omega),Bj (by omega)]
 | y::l,i+1,x,hk,h=>by
  have h1:=hk y (by simp);rw[Dg,Dj,Nat.add_comm,←h1,←List.drop_drop,List.drop_left,h1];exact aLT (fun z hz=>hk z (by simp [hz])) (by simpa using h)
theorem aMm{cl:AV→List AV}:∀ {l:List AV},(∀y∈l,(cl y).length=k)→(l.flatMap cl).length=l.length * k
 | [],_=>by simp
 | y::l,hk=>by
  rw[Dg,Ai,hk y (by simp),aMm fun z hz=>hk z (by simp [hz]),Am,Dj,Nat.add_comm]
theorem aLX{cl:AV→List AV}:∀ {l:List AV} {i:Nat} {x:AV},(∀y∈l,(cl y).length=k)→i<l.length→(l.flatMap cl).take (i * k)++cl x++(l.flatMap cl).drop (i * k+k)=(l.set i x).flatMap cl
 | [],i,x,_,h=>by simp at h
 | y::l,0,x,hk,h=>by
  have h1:=hk y (by simp);rw[Ey,Bu,Bh,Ao,List.set_cons_zero,Dg,Dg,←h1,List.drop_left]
 | y::l,i+1,x,hk,h=>by
  have h1:=hk y (by simp);rw[List.set_cons_succ,Dg,Dg,←aLX (fun z hz=>hk z (by simp [hz])) (by simpa using h),show(i+1) * k+k=(cl y).length+(i * k+k) by rw[Dj];omega,show(i+1) * k=(cl y).length+i * k by rw[Dj];omega,List.take_length_add_append,←List.drop_drop,List.drop_left];simp only[Ba]
theorem aK6{p u q:List AV}{o:Nat}{m:Nat}(hp:p.length=o)(hm:m≤u.length):(p++u++q).take (o+m)=p++u.take m:=by
 subst hp;rw[Ba,List.take_length_add_append,List.take_append_of_le_length hm]
theorem aGG{p u q:List AV}{o:Nat}{m:Nat}(hp:p.length=o)(hm:m≤u.length):(p++u++q).drop (o+m)=u.drop m++q:=by
 subst hp;rw[Ba,←List.drop_drop,List.drop_left,List.drop_append_of_le_length hm]
theorem aND{S:St}{b p sz n:Nat}{cs e:List AV}{o:Bool}(h:S.h.get b=some (.cells cs o sz))(hp:p+e.length≤cs.length)(hn:e.length=n):lI (.ptr b p) n e S=some (.undef,⟨S.h.set b (some (.cells (cs.take p++e++cs.drop (p+e.length)) o sz)),S.nx⟩):=by
 simp only[lI,dO,hn,qH,h,aK,zG,put_eq];rw[show Nat.beq n n=true from Nat.beq_refl n,aL];rw[hn] at hp;rw[if_pos hp];rfl
theorem aPZ{h:T AB}{b p:Nat}{cs e:List AV}{x:AV}{o:Bool}{s:Nat}(hb:h.get b=some (.cells cs o s))(he:(cs.drop p).take k=e)(hx:El agg k x e):dB (.ptr b p) agg k h=some x:=by
 obtain⟨h1,h2,h3,h4⟩:=hx;have hlen:k≤(cs.drop p).length:=by
  have:=Dh List.length he;rw[Cc] at this;omega
 cases agg with
 | true=>
  rw[if_pos rfl] at h4;have e1:vG h b p k=some e:=by
   unfold vG cL;rw[hb];show cut cs p k=some e;unfold cut;rw[fI,fT,if_pos hlen,he]
  simp only[dB,oJ,aL,e1,aK,h4]
 | false=>
  rw[if_neg (by simp)] at h4;subst h4;have hk1:k=1:=by simpa using h1.symm
  subst hk1;have hp:cs[p]? =some x:=by
   have hh:=Dh (fun l=>l[0]?) he;simp only[List.getElem?_take,Ek,Bs] at hh;simpa using hh
  have e1:lP h b p=some x:=by
   unfold lP cL;rw[hb];show nth cs p=some x;rw[nD,hp]
  simp only[dB,oJ,aQ,e1]
section
variable {C:Ctx fns agg k}{S S0 S':St}{d:Array AV}{i j:Nat}
def Ctx.pt(C:Ctx fns agg k)(i:Nat):AV:=.ptr C.b (C.off+i * k)
theorem Ctx.At.all(h:C.At S d):∀y∈d.toList,C.P y:=fun y hy=>by
 obtain⟨i,hi⟩:=Er hy;have hl:=(Af.1 hi).1;have hl:i<d.size:=by simpa using hl
 rw[aPn d hl] at hi;cases hi;exact h.2.1 i (by have:=h.1;omega)
theorem Ctx.At.kk(h:C.At S d):∀y∈d.toList,(C.cl y).length=k:=fun y hy=>(C.hcl y (h.all y hy)).1
theorem Ctx.ia(C:Ctx fns agg k)(hi:i<C.n):eS (.slice k) C.v i=some (C.pt i):=by
 obtain⟨cap,o,e⟩:=C.hv (by omega);rw[e];simp only[eS];rw[show Nat.blt i C.n=true from Aj hi,aL];rfl
theorem Ctx.At.len(h:C.At S d):(d.toList.flatMap C.cl).length=C.n * k:=by rw[aMm h.kk,Db,h.1]
theorem aNh{i n:Nat}(hi:i<n)(k:Nat):i * k+k≤n * k:=by
 have:=Cm k (show i+1≤n from hi)
 rwa [Dj] at this
theorem Ctx.At.ld(h:C.At S d)(hi:i<C.n):dB (C.pt i) agg k S.h=some d[i]! :=by
 have hlen:=h.len;obtain⟨h1,h2,h3⟩:=id h;have hm:=aNh hi k;refine aPZ (h3 (by omega)).2 ?_ (C.hcl _ (h2 i hi));rw[aGG C.hpre (by omega),List.take_append_of_le_length (by rw[Cq];omega)];exact aLT h.kk (aPn d (by omega))
theorem Ctx.At.cells(h:C.At S d)(hi:i<C.n):(d[i]!).cells=some (C.cl d[i]!):=(C.hcl _ (h.2.1 i hi)).2.2.1
theorem Ctx.At.self(h:C.At S d)(hi:i<C.n):cM d[i]! d[i]! =true:=(C.hcl _ (h.2.1 i hi)).2.1
theorem Ctx.At.st{x:AV}(h:C.At S d)(hi:i<C.n)(hx:C.P x):∃S',lI (C.pt i) k (C.cl x) S=some (.undef,S')∧C.At S' (d.setIfInBounds i x)∧S'.nx=S.nx∧bJ C.b S S':=by
 have hlen:=h.len;obtain⟨h1,h2,h3⟩:=id h;have hm:=aNh hi k;have hk:=(C.hcl x hx).1;obtain⟨h3,h4⟩:=h3 (by omega);refine⟨_,aND h4 (by simp only[Ai,C.hpre];omega) hk,⟨by simpa using h1,fun j hj=>?_,fun _=>⟨h3,?_⟩⟩,rfl,(bJ.refl _ _).put _⟩
 ·by_cases hij:i=j
  ·subst hij;rw[Gb _ i (by simp;omega)];simpa using hx
  ·rw[Gb _ j (by simp;omega)];have:=h2 j hj;rw[Gb _ j (by omega)] at this;rw[Array.getElem_setIfInBounds,if_neg hij];exact this
 ·simp only;rw[T.get_set,if_pos rfl,hk,Cv,aK6 C.hpre (by omega),aGG C.hpre (by omega)];congr 2;rw[Array.toList_setIfInBounds,←aLX h.kk (by rw[Db];omega)];simp only[Ba]
theorem Ctx.At.but(h:C.At S d)(hs:Same S S'):C.At S' d:=⟨h.1,h.2.1,fun hn=>⟨Ah (h.2.2 hn).1 hs.1,(hs.2 _ (h.2.2 hn).1).trans (h.2.2 hn).2⟩⟩
theorem Ctx.On.step(h:C.On S0 S d)(hs:Same S S'):C.On S0 S' d:=⟨h.1.but hs,C.hI _ _ h.2.1 (mP hs),h.2.2.trans (mP hs)⟩
theorem Ctx.On.nx(h:C.On S0 S d)(m:Nat):C.On S0 ⟨S.h,S.nx+m⟩ d:=h.step (Same.nx S m)
theorem Ctx.On.refl(h:C.At S d)(hI:C.I S):C.On S S d:=⟨h,hI,bJ.refl _ _⟩
theorem Ctx.On.trans{S1:St}{d1:Array AV}(h:C.On S0 S d)(h':C.On S S1 d1):C.On S0 S1 d1:=⟨h'.1,h'.2.1,h.2.2.trans h'.2.2⟩
theorem Ctx.On.start(h:C.On S0 S d):C.On S S d:=⟨h.1,h.2.1,bJ.refl _ _⟩
theorem Ctx.On.side(h:C.On S0 S d)(h1:S.nx≤S'.nx)(h2:0<C.n→S'.h.get C.b=S.h.get C.b)(h3:bJ C.b S0 S')(h4:C.I S'):C.On S0 S' d:=
 ⟨⟨h.1.1,h.1.2.1,fun hn=>⟨Ah (h.1.2.2 hn).1 h1,(h2 hn).trans (h.1.2.2 hn).2⟩⟩,h4,h3⟩
theorem Ctx.On.sz(h:C.On S0 S d):d.size=C.n:=h.1.1
theorem Ctx.On.swap(h:C.On S0 S d)(hi:i<C.n)(hj:j<C.n):∃S1 S2,lI (C.pt i) k (C.cl d[j]!) S=some (.undef,S1)∧lI (C.pt j) k (C.cl d[i]!) S1=some (.undef,S2)∧C.On S0 S2 (swp d i j):=by
 obtain⟨S1,e1,a1,n1,b1⟩:=h.1.st hi (h.1.2.1 j hj);obtain⟨S2,e2,a2,n2,b2⟩:=a1.st hj (h.1.2.1 i hi);exact⟨S1,S2,e1,e2,a2,C.hI _ _ h.2.1 (b1.trans b2),h.2.2.trans (b1.trans b2)⟩
end
def aPN(o:AO):Bool:=match o.op with | .q q=>dC q | .a _=>false | .x _=>true
def aPY(h:T AB)(K m:Nat)(l:jW):Prop:=nN l.v (iI l.q l.F h)=true∧Nat.testBit m l.i=true∧Nat.testBit l.mask K=false
theorem aA2{h:T AB}{base K m0:Nat}{rest:List AO}{Q:DS→Prop}:∀ {pre:List AO} {i:Nat} {F:Fr} {S:St} {ls:List jW},S.h=h→i+pre.length=K→(∀ (j:Nat) (o:AO),pre[j]? =some o→Nat.testBit o.mask K=false∧(aPN o=true→Nat.testBit m0 (i+j)=true))→(∀l∈ls,aPY h K m0 l)→
  mD pre F h (fun F'=>∀ls',(∀l∈ls',aPY h K m0 l)→xF fns rest K base ⟨F',S,[],[],ls'⟩ Q)→xF fns (pre++rest) i base ⟨F,S,[],[],ls⟩ Q
 | [],i,F,S,ls,h1,h2,_,h4,hr=>by
  simp only[Bo,Bs] at h2;subst h2;exact hr ls h4
 | ⟨d,.q q,g,m⟩::l,i,F,S,ls,h1,h2,h3,h4,hr=>by
  simp only[mD] at hr;have h2':i+1+l.length=K:=by rw[Am] at h2;omega
  have h3':∀ (j:Nat) (o:AO),l[j]? =some o→Nat.testBit o.mask K=false∧(aPN o=true→Nat.testBit m0 (i+1+j)=true):=fun j o ho=>by
   have:=h3 (j+1) o (by simpa using ho)
   rwa [show i+(j+1)=i+1+j by omega] at this
  obtain⟨hm,hm2⟩:=h3 0 _ rfl;have go:∀ (_:jY (iI q F h) fun v=>(dC q=true→cM v v=true)∧mD l (cI d F v) h (fun F'=>∀ls',(∀l∈ls',aPY h K m0 l)→xF fns rest K base ⟨F',S,[],[],ls'⟩ Q)),xF fns (⟨d,.q q,none,m⟩::(l++rest)) i base ⟨F,S,[],[],ls⟩ Q:=by
   rintro⟨v,hv,hs,hr⟩;rw[nB];subst h1;refine⟨v,hv,aA2 rfl h2' h3' ?_ hr⟩;cases hq:dC q with
   | false=>exact h4
   | true=>
    rw[aL];intro l' hl';rcases Bi.1 hl' with rfl | hl'
    ·refine⟨?_,hm2 hq,hm⟩;show nN v (iI q F S.h)=true;rw[hv,uW];exact hs hq
    ·exact h4 _ hl'
  cases g with
  | none=>exact go (by rw[if_pos (show eI none F=true from rfl)] at hr;exact hr)
  | some g=>
   obtain⟨s,b⟩:=g;by_cases hw:eI (some (s,b)) F=true
   ·rw[if_pos hw] at hr;obtain⟨n,D',e1,e2⟩:=go hr;refine⟨n,D',?_,e2⟩;have:rC ⟨d,.q q,some (s,b),m⟩ i base (ev fns n).call ⟨F,S,[],[],ls⟩=rC ⟨d,.q q,none,m⟩ i base (ev fns n).call ⟨F,S,[],[],ls⟩:=by
     show bN (eI (some (s,b)) F) _ _=bN true _ _;rw[hw];rfl
    show aX (rC ⟨d,.q q,some (s,b),m⟩ i base (ev fns n).call ⟨F,S,[],[],ls⟩) _=_;rw[this];exact e1
   ·rw[if_neg hw] at hr;obtain⟨n,D',e1,e2⟩:=aA2 (i:=i+1) (F:=cI d F .undef) (ls:=ls) h1 h2' h3' h4 hr;refine⟨n,D',?_,e2⟩;have:rC ⟨d,.q q,some (s,b),m⟩ i base (ev fns n).call ⟨F,S,[],[],ls⟩=some ⟨cI d F .undef,S,[],[],ls⟩:=by
     show bN (eI (some (s,b)) F) _ _=_;rw[show eI (some (s,b)) F=false by simpa using hw];rfl
    show aX (rC ⟨d,.q q,some (s,b),m⟩ i base (ev fns n).call ⟨F,S,[],[],ls⟩) _=_;rw[this];exact e1
 | ⟨d,.a a,g,m⟩::l,i,F,S,ls,h1,h2,h3,h4,hr=>by cases hr
 | ⟨d,.x a,g,m⟩::l,i,F,S,ls,h1,h2,h3,h4,hr=>by cases hr
theorem jF(C:Ctx fns agg k)(i j K:Nat){ops:List AO}{m1 m2 m3 p1 p2 v1 v2 s2 i2:Nat}{A:bQ}{S S0:St}{d:Array AV}{Q:Out→bQ→St→Prop}(hS:C.On S0 S d)(hi:i<C.n)(hj:j<C.n)
  (he:ops.drop K= [⟨none,.x (.st k (.t p1) (.t v1)),none,m1⟩,⟨some p2,.q (.iaddr (.slice k) (.t s2) (.t i2)),none,m3⟩,⟨none,.x (.st k (.t p2) (.t v2)),none,m2⟩])
  (hm:((List.range K).all fun t=>match ops[t]? with | some o=> !Nat.testBit o.mask K && (!aPN o || Nat.testBit m1 t) | none=>false)=true) (hm2:Nat.testBit m2 K=true) (hv2:v2≠p2)
  (h:mD (ops.take K) A.F S.h fun F=>aD p1 F=C.pt i∧aD v1 F=d[j]! ∧aD v2 F=d[i]! ∧aD s2 F=C.v∧fB (aD i2 F)=some j∧∀S',C.On S0 S' (swp d i j)→Q .normal ⟨cI (some p2) F (C.pt j),A.inr⟩ S'):lJ fns (.drw ops) A S Q:=by
 obtain⟨pre,hp⟩:∃pre,pre=ops.take K:=⟨_,rfl⟩;have hKl:K≤ops.length:=by
  have:=Dh List.length he;simp only[Cq,Am,Bo] at this;omega
 have hK:pre.length=K:=by rw[hp,Cc];omega
 have hg:∀t,t<K→ops[t]? =pre[t]? :=fun t ht=>by rw[hp,List.getElem?_take,if_pos ht]
 rw[←hp] at h;have he:ops=pre++ [⟨none,.x (.st k (.t p1) (.t v1)),none,m1⟩,⟨some p2,.q (.iaddr (.slice k) (.t s2) (.t i2)),none,m3⟩,⟨none,.x (.st k (.t p2) (.t v2)),none,m2⟩]:=by rw[←he,hp,Ej]
 clear hp;subst he;refine wZ ?_;refine aA2 (h:=S.h) (K:=K) (m0:=m1) (pre:=pre) (i:=0) rfl (by omega) (fun t o ho=>?_) (fun l hl=>by cases hl) ?_
 ·have hlt:t<K:=by rw[←hK];exact(Af.1 ho).1
  have:=Dt.1 hm t (Fz.2 hlt);rw[hg t hlt,ho] at this;simp only[Ce,Bool.not_eq_true',Ew] at this;refine⟨this.1,fun hh=>?_⟩;rw[Ao];rcases this.2 with h2 | h2
  ·rw[h2] at hh;cases hh
  ·exact h2
 refine aBd ?_ pre A.F h;rintro F ⟨e1,e2,e3,e4,e5,hQ⟩ ls hls;obtain⟨S1,S2,x1,x2,on⟩:=(hS.nx (pre++ [(⟨none,.x (.st k (.t p1) (.t v1)),none,m1⟩:AO),⟨some p2,.q (.iaddr (.slice k) (.t s2) (.t i2)),none,m3⟩,⟨none,.x (.st k (.t p2) (.t v2)),none,m2⟩]).length).swap hi hj;have c1:=hS.1.cells hi;have c2:=hS.1.cells hj;refine jR (v:=.undef) (S1:=S1) rfl (fun call=>?_) ?_
 ·rw[dD];simp only[fW,e2,c2,aK,e1,cB];exact x1
 rw[nB];simp only[dR,tB,fW,e4,e5,aK,C.ia hj,dV,mQ,aQ,cB];refine jR (v:=.undef) (S1:=S2) hm2 (fun call=>?_) ?_
 ·rw[dD];simp only[fW,bS,hv2,Cr,Ed,e3,c1,aK,cB];exact x2
 rw[iL];refine⟨?_,?_⟩
 ·simp only[Cn,List.reverse_nil,Bh,Bl];refine oB fun l hl=>?_;obtain⟨h1,h2,h4⟩:=hls l hl;unfold fY;rw[h4,aQ,h1,aL,h2,aL]
 ·simp only[dR,cB];exact hQ _ on
theorem yP{a b:Nat}(h:a+b≤9223372036854775807):IntKind.i64.wrap ((a:Int)+(b:Int))=((a+b:Nat):Int):=by rw[wrap_i64 (by omega) (by omega)];omega
theorem mK{a b:Nat}(h:b≤a)(h2:a≤9223372036854775807):IntKind.i64.wrap ((a:Int) - (b:Int))=((a - b:Nat):Int):=by rw[wrap_i64 (by omega) (by omega)];omega
theorem fA{a:Nat}(h:a+1≤9223372036854775807):IntKind.i64.wrap ((a:Int)+1)=((a+1:Nat):Int):=yP (b:=1) h
theorem jU{a:Nat}(h:1≤a)(h2:a≤9223372036854775807):IntKind.i64.wrap ((a:Int) - 1)=((a - 1:Nat):Int):=mK (b:=1) h h2
theorem aMc{a b:Nat}(h:a * b≤9223372036854775807):IntKind.i64.wrap ((a:Int) * (b:Int))=((a * b:Nat):Int):=by
 rw[show(a:Int) * (b:Int)=((a * b:Nat):Int) by rw[Fv],wrap_i64 (by omega) (by omega)]
theorem zV(a b:Nat):decide ((a:Int)<(b:Int))=decide (a<b):=by
 congr 1;rw[Int.ofNat_lt]
theorem dle(a b:Nat):decide ((a:Int)≤(b:Int))=decide (a≤b):=by
 congr 1;rw[Int.ofNat_le]
theorem deq(a b:Nat):decide ((a:Int)=(b:Int))=decide (a=b):=by
 congr 1;rw[Int.ofNat_inj]
end Go.Ev.Gl
namespace Go.Ev.Gl
open Go.Sort
variable {fns:T cV}
theorem Ctx.old{agg:Bool}{k:Nat}{C:Ctx fns agg k}{S:St}{d:Array AV}{i:Nat}(h:C.At S d)(hi:i<C.n):aJY (fun _=>False) S.nx (C.pt i):=⟨_,_,rfl,(h.2.2 (by omega)).1,fun h=>h⟩
theorem Ctx.On.cmp{agg:Bool}{k:Nat}{C:Ctx fns agg k}{S S0:St}{d:Array AV}{i j:Nat}(h:C.On S0 S d)(hi:i<C.n)(hj:j<C.n):fR fns C.f [d[i]!,d[j]!] S fun r S'=>Same S S'∧∃c:Int,r= .int .i64 c∧decide (c<0)=C.lt d[i]! d[j]! :=
 C.cmp S _ _ h.2.1 (h.1.2.1 i hi) (h.1.2.1 j hj)
def aRM(C:Ctx fns false 1)(S0:St)(R:Array AV)(a b i:Nat)(k:Nat)(A:bQ)(X:St):Prop:=A.inr=false∧k≤i∧aD 0 A.F=C.v∧aD 1 A.F= .int .i64 (a:Int)∧aD 2 A.F= .int .i64 (b:Int)∧aD 3 A.F=C.f∧aD 8 A.F= .int .i64 (i:Int)∧aD 9 A.F= .int .i64 (k:Int)∧∃d,C.On S0 X d∧insInner C.lt a k d=R
def aRN(C:Ctx fns false 1)(S0:St)(R:Array AV)(a b:Nat)(k:Nat)(A:bQ)(X:St):Prop:=A.inr=false∧aD 0 A.F=C.v∧aD 1 A.F= .int .i64 (a:Int)∧aD 2 A.F= .int .i64 (b:Int)∧aD 3 A.F=C.f∧∃i d,k+i=b+1∧aD 8 A.F= .int .i64 (i:Int)∧C.On S0 X d∧insOuter C.lt a b i d=R
theorem aCs{C:Ctx fns false 1}{S S0:St}{d:Array AV}{a b:Nat}(H:Has fns)(h:C.On S0 S d)(hab:a≤b)(hb:b≤C.n):fR fns (.fn 90 [] []) [C.v,.int .i64 (a:Int),.int .i64 (b:Int),C.f] S fun _ S'=>C.On S0 S' (insertionSort C.lt d a b):=by
 have hn:=C.hn;refine cE H.f90 (by simp) ?_;refine ah ?_;refine cC ?_;simp only[↓aA,aB,rE,↓reduceIte,rA,fA (show a+1≤9223372036854775807 by omega)];refine bD (Q:=fun o A' X=>o= .normal∧C.On S0 X (insertionSort C.lt d a b)) (aN (bT (aRN C S0 (insertionSort C.lt d a b) a b) ?_ (b - a) _ _ ⟨rfl,ae,ae,ae,ae,a+1,d,by omega,ae,h,rfl⟩)) ?_
 ·rintro k ⟨F,inr⟩ X ⟨q0,p0,p1,p2,p3,i,e,hk,p8,on,he⟩;simp only at q0 p0 p1 p2 p3 p8;subst q0;refine iP ?_;simp only[↓aA,aB,rE,↓reduceIte,rA,p2,p8,zV];unfold insOuter at he;by_cases hlt:i<b
  ·rw[if_pos hlt] at he;refine aR (by simp only[↓aA,aB,rE,↓reduceIte,Ad hlt]) (aM ?_);refine ac ?_;refine aC (aN ?_);refine cC ?_;simp only[↓aA,aB,rE,↓reduceIte,p8];refine bD (Q:=fun o A' X=>o= .normal∧A'.inr=false∧aD 0 A'.F=C.v∧aD 1 A'.F= .int .i64 (a:Int)∧aD 2 A'.F= .int .i64 (b:Int)∧aD 3 A'.F=C.f∧aD 8 A'.F= .int .i64 (i:Int)∧C.On S0 X (insInner C.lt a i e)) (aN (bT (aRM C S0 (insInner C.lt a i e) a b i) ?_ i _ _ ⟨rfl,Ag _,ag p0,ag p1,ag p2,ag p3,ag p8,ae,e,on,rfl⟩)) ?_
   ·rintro j ⟨F,inr⟩ X ⟨q0,hji,p0,p1,p2,p3,p8,p9,e2,on,he⟩;simp only at q0 p0 p1 p2 p3 p8 p9;subst q0;by_cases hja:a<j
    ·obtain⟨t,rfl⟩:∃t,j=t+1:=⟨j - 1,by omega⟩;have w1:IntKind.i64.wrap (((t+1:Nat):Int) - 1)=(t:Int):=jU (a:=t+1) (by omega) (by omega);have l1:=on.1.ld (i:=t+1) (by omega);have l2:=on.1.ld (i:=t) (by omega);refine aC (aC (dK (fun _=>False) ?_));intro X1 x1;simp only[↓sU,sD,rE,↓reduceIte,rA,p0,p1,p3,p9,zV,Ad hja,w1,C.ia (i:=t+1) (by omega),C.ia (i:=t) (by omega),l1,l2,on.1.self (i:=t+1) (by omega),on.1.self (i:=t) (by omega),Ctx.old on.1 (i:=t+1) (by omega),Ctx.old on.1 (i:=t) (by omega)];refine cP rfl ?_;simp only[↓sU,sD,rE,↓reduceIte,rA,p3];refine aP ((on.step x1).cmp (i:=t+1) (j:=t) (by omega) (by omega)) ?_;rintro _ Y ⟨hY,c,rfl,hc⟩;refine⟨hY,?_⟩;simp only[↓sU,sD,rE,↓reduceIte,rA,hc];have he:(if(decide (a<t+1) && C.lt e2[t+1]! e2[t]!)=true then insInner C.lt a t (swp e2 (t+1) t) else e2)=insInner C.lt a i e:=he;rw[Ad hja,Fa] at he;cases hl:C.lt e2[t+1]! e2[t]! with
     | false=>
      rw[hl,if_neg (by simp)] at he;refine aO (ae) (bK ?_);simp only[↓aA,aB,rE,↓reduceIte];exact⟨p0,p1,p2,p3,p8,he ▸ (on.step x1).step hY⟩
     | true=>
      rw[hl,if_pos rfl] at he;refine aR (ae) (aM ?_);simp only[↓aA,aB,rE,↓reduceIte];have on2:=(on.step x1).step hY;refine aC (aN ?_);refine jF C (t+1) t 15 on2 (by omega) (by omega) rfl (by decide) (by decide) (by decide) ?_;simp only[↓aA,aB,rE,↓reduceIte,Bk,Bu,rA,p0,p9,w1,aH,C.ia (i:=t+1) (by omega),C.ia (i:=t) (by omega),on2.1.ld (i:=t+1) (by omega),on2.1.ld (i:=t) (by omega),on2.1.self (i:=t+1) (by omega),on2.1.self (i:=t) (by omega)];intro Z hZ;refine aG ?_;simp only[↓aA,aB,rE,↓reduceIte,p9,w1];exact⟨t,by omega,rfl,by omega,ag p0,ag p1,ag p2,ag p3,ag p8,ae,_,hZ,he⟩
    ·refine aC (aC (dK (fun _=>False) ?_));intro X1 x1;simp only[↓sU,sD,rE,↓reduceIte,rA,p0,p1,p3,p9,zV,Aa hja];refine aO (ae) (bK ?_);simp only[↓aA,aB,rE,↓reduceIte];have he2:e2=insInner C.lt a i e:=by
      rw[←he];cases j with
      | zero=>rfl
      | succ t=>
       unfold insInner;rw[if_neg];simp only[gt_iff_lt,Aa hja,Es];simp
     exact⟨p0,p1,p2,p3,p8,he2 ▸ on.step x1⟩
   ·rintro o ⟨F,inr⟩ X ⟨rfl,q0,p0,p1,p2,p3,p8,on⟩;simp only at q0 p0 p1 p2 p3 p8;subst q0;refine ac ?_;refine aG ?_;simp only[↓aA,aB,rE,↓reduceIte,p8,fA (show i+1≤9223372036854775807 by omega)];exact⟨k - 1,by omega,rfl,ag p0,ag p1,ag p2,ag p3,i+1,_,by omega,ae,on,he⟩
  ·rw[if_neg hlt] at he;refine aO (by simp only[↓aA,aB,rE,↓reduceIte,Aa hlt]) (bK ?_);simp only[↓aA,aB,rE,↓reduceIte];exact he ▸ on
 ·rintro o A X ⟨rfl,on⟩;exact⟨_,rfl,on⟩
def aRp(C:Ctx fns false 1)(S0:St)(R:Array AV)(k:Nat)(A:bQ)(X:St):Prop:=A.inr=false∧aD 0 A.F=C.v∧∃i j d,k=j - i∧j<C.n∧aD 8 A.F= .int .i64 (i:Int)∧aD 9 A.F= .int .i64 (j:Int)∧C.On S0 X d∧reverseLoop i j d=R
theorem aFx{C:Ctx fns false 1}{S S0:St}{d:Array AV}{a b:Nat}(H:Has fns)(h:C.On S0 S d)(hab:a<b)(hb:b≤C.n):fR fns (.fn 94 [] []) [C.v,.int .i64 (a:Int),.int .i64 (b:Int),C.f] S fun _ S'=>C.On S0 S' (reverseRange d a b):=by
 have hn:=C.hn;refine cE H.f94 (by simp) ?_;refine ah ?_;refine cC ?_;refine ah ?_;refine cC ?_;simp only[↓aA,aB,rE,↓reduceIte,rA,jU (show 1≤b by omega) (by omega)];refine bD (Q:=fun o A' X=>o= .normal∧C.On S0 X (reverseRange d a b)) (aN (bT (aRp C S0 (reverseRange d a b)) ?_ (b - 1 - a) _ _ ⟨rfl,ae,a,b - 1,d,rfl,by omega,ae,ae,h,rfl⟩)) ?_
 ·rintro k ⟨F,inr⟩ X ⟨q0,p0,i,j,e,hk,hjn,p8,p9,on,he⟩;simp only at q0 p0 p8 p9;subst q0;refine iP ?_;simp only[↓aA,aB,rE,↓reduceIte,rA,p8,p9,zV];unfold reverseLoop at he;by_cases hlt:i<j
  ·rw[if_pos hlt] at he;refine aR (by simp only[↓aA,aB,rE,↓reduceIte,Ad hlt]) (aM ?_);refine ac ?_;refine aN (aC ?_);refine jF C i j 13 on (by omega) (by omega) rfl (by decide) (by decide) (by decide) ?_;simp only[↓aA,aB,rE,↓reduceIte,Bk,Bu,rA,p0,p8,p9,aH,C.ia (i:=i) (by omega),C.ia (i:=j) (by omega),on.1.ld (i:=i) (by omega),on.1.ld (i:=j) (by omega),on.1.self (i:=i) (by omega),on.1.self (i:=j) (by omega)];intro Z hZ;refine cC ?_;simp only[↓aA,aB,rE,↓reduceIte,p8,fA (show i+1≤9223372036854775807 by omega)];refine aG ?_;simp only[↓aA,aB,rE,↓reduceIte,p9,jU (show 1≤j by omega) (show j≤9223372036854775807 by omega)];exact⟨j - 1 - (i+1),by omega,rfl,ag p0,i+1,j - 1,_,rfl,by omega,ae,ae,hZ,he⟩
  ·rw[if_neg hlt] at he;refine aO (by simp only[↓aA,aB,rE,↓reduceIte,Aa hlt]) (bK ?_);simp only[↓aA,aB,rE,↓reduceIte];exact he ▸ on
 ·rintro o A X ⟨rfl,on⟩;exact⟨_,rfl,on⟩
end Go.Ev.Gl
namespace Go.Ev.Gl
open Go.Sort
variable {fns:T cV}
theorem aQ3{a:Nat}(h:2 * a≤9223372036854775807):IntKind.i64.wrap (2 * (a:Int))=((2 * a:Nat):Int):=by rw[wrap_i64 (by omega) (by omega)];omega
theorem aHy(lt:AV→AV→Bool)(hi first root:Nat)(d:Array AV):siftDown lt hi first root d=if 2 * root+1≥hi then d else
  if !lt d[first+root]! d[first+(if(decide (2 * root+2<hi) && lt d[first+(2 * root+1)]! d[first+(2 * root+2)]!)=true then 2 * root+2 else 2 * root+1)]! then d else
   siftDown lt hi first (if(decide (2 * root+2<hi) && lt d[first+(2 * root+1)]! d[first+(2 * root+2)]!)=true then 2 * root+2 else 2 * root+1) (swp d (first+root) (first+(if(decide (2 * root+2<hi) && lt d[first+(2 * root+1)]! d[first+(2 * root+2)]!)=true then 2 * root+2 else 2 * root+1))):=by
 conv=>lhs;unfold siftDown
 by_cases h1:2 * root+1≥hi
 ·rw[dif_pos h1,if_pos h1]
 rw[dif_neg h1,if_neg h1];by_cases h2:(decide (2 * root+2<hi) && lt d[first+(2 * root+1)]! d[first+(2 * root+2)]!)=true
 ·have h2':(decide (2 * root+1+1<hi) && lt d[first+(2 * root+1)]! d[first+(2 * root+1)+1]!)=true:=h2;rw[if_pos h2,if_pos h2'];have h3:2 * root+2<hi:=by
   simp only[Ce,Fx] at h2;exact h2.1
  rw[dif_pos h3]
 ·have h2':¬ (decide (2 * root+1+1<hi) && lt d[first+(2 * root+1)]! d[first+(2 * root+1)+1]!)=true:=h2;rw[if_neg h2,if_neg h2']
def aR1(C:Ctx fns false 1)(S0:St)(R:Array AV)(hi first:Nat)(k:Nat)(A:bQ)(X:St):Prop:=A.inr=false∧aD 0 A.F=C.v∧aD 2 A.F= .int .i64 (hi:Int)∧aD 3 A.F= .int .i64 (first:Int)∧aD 4 A.F=C.f∧∃root d,k=C.n+1 - root∧root≤C.n∧aD 10 A.F= .int .i64 (root:Int)∧C.On S0 X d∧siftDown C.lt hi first root d=R
theorem aEE{C:Ctx fns false 1}{S S0:St}{d:Array AV}{lo hi first:Nat}(H:Has fns)(h:C.On S0 S d)(hb:first+hi≤C.n)(hlo:lo≤C.n):fR fns (.fn 105 [] []) [C.v,.int .i64 (lo:Int),.int .i64 (hi:Int),.int .i64 (first:Int),C.f] S fun _ S'=>C.On S0 S' (siftDown C.lt hi first lo d):=by
 have hn:=C.hn;refine cE H.f105 (by simp) ?_;refine ah ?_;refine cC ?_;refine ah ?_;refine bD (Q:=fun o A' X=>(o= .normal∨o= .ret)∧C.On S0 X (siftDown C.lt hi first lo d)) (aN (bT (aR1 C S0 (siftDown C.lt hi first lo d) hi first) ?_ (C.n+1 - lo) _ _ ⟨rfl,ae,ae,ae,ae,lo,d,rfl,hlo,ae,h,rfl⟩)) ?_
 ·rintro k ⟨F,inr⟩ X ⟨q0,p0,p2,p3,p4,root,e,hk,hr,p10,on,he⟩;simp only at q0 p0 p2 p3 p4 p10;subst q0;refine aN (aC (aG ?_));simp only[↓aA,aB,rE,↓reduceIte,rA,p10,aQ3 (show 2 * root≤9223372036854775807 by omega),fA (show 2 * root+1≤9223372036854775807 by omega)];refine iP ?_;simp only[↓aA,aB,rE,↓reduceIte,rA,p2,dle];rw[aHy] at he;by_cases hge:hi≤2 * root+1
  ·rw[if_pos hge] at he;refine aR (by simp only[↓aA,aB,rE,↓reduceIte,Ad hge]) (bK ?_);simp only[↓aA,aB,rE,↓reduceIte];exact⟨.inl trivial,he ▸ on⟩
  rw[if_neg hge] at he;refine aO (by simp only[↓aA,aB,rE,↓reduceIte,Aa hge]) (aM ?_);simp only[↓aA,aB,rE,↓reduceIte];obtain⟨c,hc⟩:∃c,c=if(decide (2 * root+2<hi) && C.lt e[first+(2 * root+1)]! e[first+(2 * root+2)]!)=true then 2 * root+2 else 2 * root+1:=⟨_,rfl⟩;rw[←hc] at he;refine aC (bD (Q:=fun o A' X=>o= .normal∧A'.inr=false∧aD 0 A'.F=C.v∧aD 2 A'.F= .int .i64 (hi:Int)∧aD 3 A'.F= .int .i64 (first:Int)∧aD 4 A'.F=C.f∧aD 10 A'.F= .int .i64 (root:Int)∧aD 11 A'.F= .int .i64 (c:Int)∧c<hi∧(c=2 * root+2∨c=2 * root+1)∧C.On S0 X e) ?_ ?_)
  ·refine aC (dK (fun _=>False) ?_);intro X1 x1;by_cases h2:2 * root+2<hi
   ·have w1:=yP (a:=first) (b:=2 * root+1) (by omega);have w2:=fA (a:=2 * root+1) (by omega);have w3:=fA (a:=first+(2 * root+1)) (by omega);have i1:first+(2 * root+1)<C.n:=by omega
    have i2:first+(2 * root+2)<C.n:=by omega
    have i2':first+(2 * root+1)+1<C.n:=i2;rw[Ad h2,Fa] at hc;simp only[↓sU,sD,rE,↓reduceIte,rA,p0,p2,p3,p4,zV,w1,w2,Ad (show 2 * root+1+1<hi from h2),w3,aH,C.ia i1,C.ia i2',on.1.ld i1,on.1.ld i2',on.1.self i1,on.1.self i2',Ctx.old on.1 i1,Ctx.old on.1 i2'];refine cP rfl ?_;simp only[↓sU,sD,rE,↓reduceIte,rA,p4];refine aP ((on.step x1).cmp i1 i2) ?_;rintro _ Y ⟨hY,z,rfl,hz⟩;refine⟨hY,?_⟩;simp only[↓sU,sD,rE,↓reduceIte,rA,hz];cases hl:C.lt e[first+(2 * root+1)]! e[first+(2 * root+2)]! with
    | true=>
     rw[hl,if_pos rfl] at hc;refine aR (ae) (aG ?_);simp only[↓aA,aB,rE,↓reduceIte,w2];rw[hc];exact⟨p0,p2,p3,p4,p10,rfl,by omega,.inl rfl,(on.step x1).step hY⟩
    | false=>
     rw[hl,if_neg (by simp)] at hc;refine aO (ae) (aM ?_);rw[hc];exact⟨rfl,rfl,ag p0,ag p2,ag p3,ag p4,ag p10,ae,by omega,.inr rfl,(on.step x1).step hY⟩
   ·rw[Aa h2,Es,if_neg (by simp)] at hc;simp only[↓sU,sD,rE,↓reduceIte,rA,p0,p2,p3,p4,zV,fA (a:=2 * root+1) (by omega),Aa (show ¬2 * root+1+1<hi from h2)];refine aO (ae) (aM ?_);rw[hc];exact⟨rfl,rfl,ag p0,ag p2,ag p3,ag p4,ag p10,ae,by omega,.inr rfl,on.step x1⟩
  rintro o ⟨F,inr⟩ X ⟨rfl,q0,p0,p2,p3,p4,p10,p11,hc1,hc2,on⟩;simp only at q0 p0 p2 p3 p4 p10 p11;subst q0;simp only[↓aA,aB,rE,↓reduceIte];have w1:=yP (a:=first) (b:=root) (by omega);have w2:=yP (a:=first) (b:=c) (by omega);have i1:first+root<C.n:=by omega
  have i2:first+c<C.n:=by omega
  refine aC (aC (dK (fun _=>False) ?_));intro X1 x1;simp only[↓sU,sD,rE,↓reduceIte,rA,p0,p2,p3,p4,p10,p11,w1,w2,aH,C.ia i1,C.ia i2,on.1.ld i1,on.1.ld i2,on.1.self i1,on.1.self i2,Ctx.old on.1 i1,Ctx.old on.1 i2];refine cP rfl ?_;simp only[↓sU,sD,rE,↓reduceIte,rA,p4];refine aP ((on.step x1).cmp i1 i2) ?_;rintro _ Y ⟨hY,z,rfl,hz⟩;refine⟨hY,?_⟩;have on2:=(on.step x1).step hY;simp only[↓sU,sD,rE,↓reduceIte,rA,hz,fQ];cases hl:C.lt e[first+root]! e[first+c]! with
  | false=>
   rw[hl,Bx,if_pos rfl] at he;refine aR (by simp only[↓aA,aB,rE,↓reduceIte,Bx]) (aU ?_);simp only[↓aA,aB,rE,↓reduceIte];exact⟨.inr trivial,he ▸ on2⟩
  | true=>
   rw[hl,Bp,if_neg (by simp)] at he;refine aO (by simp only[↓aA,aB,rE,↓reduceIte,Bp]) (aM ?_);refine ac ?_;refine aC ?_;refine jF C (first+root) (first+c) 21 on2 i1 i2 rfl (by decide) (by decide) (by decide) ?_;simp only[↓aA,aB,rE,↓reduceIte,Bk,Bu,rA,p0,p3,p10,p11,w1,w2,aH,C.ia i1,C.ia i2,on2.1.ld i1,on2.1.ld i2,on2.1.self i1,on2.1.self i2];intro Z hZ;refine aG ?_;simp only[↓aA,aB,rE,↓reduceIte,p11];exact⟨C.n+1 - c,by omega,rfl,ag p0,ag p2,ag p3,ag p4,c,_,rfl,by omega,ae,hZ,he⟩
 ·rintro o A X ⟨rfl | rfl,on⟩
  ·exact⟨_,rfl,on⟩
  ·exact⟨_,rfl,on⟩
theorem aNF{a n:Nat}(ha:a≤9223372036854775807)(hn:0<n):eJ .quo (.p .int) (.int .i64 (a:Int)) (.int .i64 (n:Int))=some (.int .i64 ((a / n:Nat):Int)):=by
 rw[tK (.p .int) (by omega) (by omega) (by omega),Int.natCast_ediv]
def aPj(C:Ctx fns false 1)(S0:St)(R:Array AV)(a b:Nat)(f:Nat→Array AV→Array AV)(t:Nat)(k:Nat)(A:bQ)(X:St):Prop:=A.inr=false∧k≤b - a∧aD 0 A.F=C.v∧aD 3 A.F=C.f∧aD 8 A.F= .int .i64 (a:Int)∧aD 9 A.F= .int .i64 0∧aD 10 A.F= .int .i64 ((b - a:Nat):Int)∧aD t A.F= .int .i64 ((k:Int) - 1)∧∃d,C.On S0 X d∧f k d=R
theorem aKX{C:Ctx fns false 1}{S S0:St}{d:Array AV}{a b:Nat}(H:Has fns)(h:C.On S0 S d)(hab:a<b)(hb:b≤C.n):fR fns (.fn 91 [] []) [C.v,.int .i64 (a:Int),.int .i64 (b:Int),C.f] S fun _ S'=>C.On S0 S' (heapSort C.lt d a b):=by
 have hn:=C.hn;have hq:eJ .quo (.p .int) (.int .i64 ((b - a - 1:Nat):Int)) (.int .i64 2)=some (.int .i64 (((b - a - 1) / 2:Nat):Int)):=aNF (n:=2) (by omega) (by omega);have dec:∀k:Nat,k≤C.n→IntKind.i64.wrap ((k:Int) - 1)=(k:Int) - 1:=fun k hk=>wrap_i64 (by omega) (by omega);refine cE H.f91 (by simp) ?_;refine ah ?_;refine cC ?_;refine ah ?_;refine cC ?_;refine ah ?_;refine cC ?_;simp only[↓aA,aB,rE,↓reduceIte,rA,mK (a:=b) (b:=a) (by omega) (by omega)];refine aC (bD (Q:=fun o A' X=>o= .normal∧aPj C S0 (heapBuild C.lt (b - a) a ((b - a - 1) / 2+1) d) a b (heapBuild C.lt (b - a) a) 11 0 A' X) (aC (aG ?_)) ?_)
 ·simp only[↓aA,aB,rE,↓reduceIte,rA,jU (a:=b - a) (by omega) (by omega),hq];refine aN (bT (aPj C S0 (heapBuild C.lt (b - a) a ((b - a - 1) / 2+1) d) a b (heapBuild C.lt (b - a) a) 11) ?_ ((b - a - 1) / 2+1) _ _ ⟨rfl,by omega,ae,ae,ae,ae,ae,?_,d,h,rfl⟩)
  ·rintro k ⟨F,inr⟩ X ⟨q0,hk,p0,p3,p8,p9,p10,p11,e,on,he⟩;simp only at q0 p0 p3 p8 p9 p10 p11;subst q0;refine iP ?_;simp only[↓aA,aB,rE,↓reduceIte,rA,p11];cases k with
   | zero=>
    refine aO (by simp only[↓aA,aB,rE,↓reduceIte];rfl) (bK ?_);exact⟨rfl,rfl,Bt _,ag p0,ag p3,ag p8,ag p9,ag p10,ag p11,e,on,he⟩
   | succ t=>
    have ei:((t+1:Nat):Int) - 1=(t:Int):=by omega
    rw[ei] at p11 ⊢;refine aR (by simp only[↓aA,aB,rE,↓reduceIte,Ad (show(0:Int)≤(t:Int) by omega)]) (aM ?_);try simp only[↓aA,aB,rE,↓reduceIte]
    refine aC (aN (aG ?_));simp only[↓aA,aB,rE,↓reduceIte,p0,p3,p8,p10,p11];refine aY ?_;simp only[↓aA,aB,rE,↓reduceIte,p0,p3,p8,p10,p11];refine aP (aEE H on (by omega) (by omega)) ?_;intro r Z hZ;try simp only[↓aA,aB,rE,↓reduceIte]
    refine aG ?_;simp only[↓aA,aB,rE,↓reduceIte,p11,dec t (by omega)];exact⟨t,by omega,rfl,by omega,ag p0,ag p3,ag p8,ag p9,ag p10,ae,_,hZ,he⟩
  ·simp only[↓aA,aB,rE,↓reduceIte];congr 1;omega
 ·rintro o ⟨F,inr⟩ X ⟨rfl,q0,hk,p0,p3,p8,p9,p10,p11,e,on,he⟩;simp only at q0 p0 p3 p8 p9 p10 p11;subst q0;have he:e=heapBuild C.lt (b - a) a ((b - a - 1) / 2+1) d:=he;refine ac ?_;refine cC ?_;simp only[↓aA,aB,rE,↓reduceIte,p10,jU (a:=b - a) (by omega) (by omega)];refine bD (Q:=fun o A' X=>o= .normal∧C.On S0 X (heapSort C.lt d a b)) (aN (bT (aPj C S0 (heapSort C.lt d a b) a b (heapPop C.lt a) 12) ?_ (b - a) _ _ ⟨rfl,by omega,ag p0,ag p3,ag p8,ag p9,ag p10,?_,e,on,by rw[he];rfl⟩)) ?_
  ·rintro k ⟨F,inr⟩ X ⟨q0,hk,p0,p3,p8,p9,p10,p12,e,on,he⟩;simp only at q0 p0 p3 p8 p9 p10 p12;subst q0;refine iP ?_;simp only[↓aA,aB,rE,↓reduceIte,rA,p12];cases k with
   | zero=>
    refine aO (by simp only[↓aA,aB,rE,↓reduceIte];rfl) (bK ?_);exact⟨rfl,he ▸ on⟩
   | succ t=>
    have ei:((t+1:Nat):Int) - 1=(t:Int):=by omega
    rw[ei] at p12 ⊢;refine aR (by simp only[↓aA,aB,rE,↓reduceIte,Ad (show(0:Int)≤(t:Int) by omega)]) (aM ?_);try simp only[↓aA,aB,rE,↓reduceIte]
    have i1:a<C.n:=by omega
    have i2:a+t<C.n:=by omega
    have w1:=yP (a:=a) (b:=t) (by omega);refine aC (aN (aC ?_));refine jF C a (a+t) 17 on i1 i2 rfl (by decide) (by decide) (by decide) ?_;simp only[↓aA,aB,rE,↓reduceIte,Bk,Bu,rA,p0,p8,p12,w1,aH,C.ia i1,C.ia i2,on.1.ld i1,on.1.ld i2,on.1.self i1,on.1.self i2];intro Y hY;refine aG ?_;simp only[↓aA,aB,rE,↓reduceIte,p0,p3,p8,p9,p12];refine aY ?_;simp only[↓aA,aB,rE,↓reduceIte,p0,p3,p8,p9,p12];refine aP (aEE (lo:=0) H hY (by omega) (by omega)) ?_;intro r Z hZ;try simp only[↓aA,aB,rE,↓reduceIte]
    refine aG ?_;simp only[↓aA,aB,rE,↓reduceIte,p12,dec t (by omega)];exact⟨t,by omega,rfl,by omega,ag p0,ag p3,ag p8,ag p9,ag p10,ae,_,hZ,he⟩
  ·simp only[↓aA,aB,rE,↓reduceIte];congr 1;omega
  ·rintro o A X ⟨rfl,on⟩;exact⟨_,rfl,on⟩
end Go.Ev.Gl
namespace Go.Ev.Gl
open Go.Sort
variable {fns:T cV}
def PaS(C:Ctx fns false 1)(S0:St)(e:Array AV)(a b ti tj i j:Nat)(A:bQ)(X:St):Prop:=A.inr=false∧aD 0 A.F=C.v∧aD 1 A.F= .int .i64 (a:Int)∧aD 2 A.F= .int .i64 (b:Int)∧aD 4 A.F=C.f∧aD ti A.F= .int .i64 (i:Int)∧aD tj A.F= .int .i64 (j:Int)∧C.On S0 X e
theorem aGl{C:Ctx fns false 1}{S S0:St}{d:Array AV}{a b p:Nat}(H:Has fns)(on:C.On S0 S d)(hap:a≤p)(hpb:p<b)(hb:b≤C.n):fR fns (.fn 96 [] []) [C.v,.int .i64 (a:Int),.int .i64 (b:Int),.int .i64 (p:Int),C.f] S fun r S'=>r= .int .i64 ((partitionEqual C.lt d a b p).1:Int)∧C.On S0 S' (partitionEqual C.lt d a b p).2:=by
 have hn:=C.hn;refine cE H.f96 (by simp) ?_;refine ah ?_;refine cC ?_;refine ah ?_;refine aC ?_;refine jF C a p 13 on (by omega) (by omega) rfl (by decide) (by decide) (by decide) ?_;simp only[↓aA,aB,rE,↓reduceIte,Bk,Bu,rA,Bl,aH,C.ia (i:=a) (by omega),C.ia (i:=p) (by omega),on.1.ld (i:=a) (by omega),on.1.ld (i:=p) (by omega),on.1.self (i:=a) (by omega),on.1.self (i:=p) (by omega)];try clear on
 intro Z on;try simp only[↓aA,aB,rE,↓reduceIte]
 refine cC ?_;simp only[↓aA,aB,rE,↓reduceIte,fA (show a+1≤9223372036854775807 by omega),jU (show 1≤b by omega) (by omega)];refine aC (bD (Q:=fun o A' X=>o= .normal∧aD 11 A'.F= .int .i64 ((partitionEqual C.lt d a b p).1:Int)∧C.On S0 X (partitionEqual C.lt d a b p).2) (aN (bT (fun k A' X=>∃i j e,a<i∧i≤C.n∧j<C.n∧k=j+1 - i∧PaS C S0 e a b 11 12 i j A' X∧partEqLoop C.lt a i j e=partitionEqual C.lt d a b p) ?_ _ _ _ ⟨a+1,b - 1,_,by omega,by omega,by omega,rfl,⟨rfl,ae,ae,ae,ae,ae,ae,on⟩,rfl⟩)) ?_)
 ·rintro k A X ⟨i,j,e,hai,hin,hjn,hk,hP,he⟩;refine aN ?_;obtain⟨i2,hi2⟩:∃i2,i2=scanUp (fun x=> !C.lt e[a]! x) e j i:=⟨_,rfl⟩;obtain⟨j2,hj2⟩:∃j2,j2=scanDown (fun x=>C.lt e[a]! x) e i2 j:=⟨_,rfl⟩;have s1:=scanUp_spec (fun x=> !C.lt e[a]! x) e j _ i rfl;have s2:=scanDown_spec (fun x=>C.lt e[a]! x) e i2 j;rw[partEqLoop_eq,←hi2,←hj2] at he;rw[←hi2] at s1;rw[←hj2] at s2;refine aC (bD (Q:=fun o A' X=>o= .normal∧PaS C S0 e a b 11 12 i2 j A' X) (aN (bT (fun k A' X=>∃i,a<i∧i≤C.n∧k=j+1 - i∧PaS C S0 e a b 11 12 i j A' X∧scanUp (fun x=> !C.lt e[a]! x) e j i=i2) ?_ _ _ _ ⟨i,by omega,by omega,rfl,hP,hi2.symm⟩)) ?_)
  ·rintro k ⟨F,inr⟩ X ⟨i,hai,hin,hk,⟨q0,p0,p1,p2,p4,pi,pj,on⟩,he⟩;simp only at q0 p0 p1 p2 p4 pi pj;subst q0;have ia:a<C.n:=by omega
   refine aC (aC (dK (fun _=>False) ?_));intro X1 x1;by_cases hij:i≤j
   ·have ix:i<C.n:=by omega
    rw[scanUp,Ad hij,Fa] at he;simp only[↓sU,sD,rE,↓reduceIte,rA,p0,p1,p4,pi,pj,dle,Ad hij,aH,C.ia ia,C.ia ix,on.1.ld ia,on.1.ld ix,on.1.self ia,on.1.self ix,Ctx.old on.1 ia,Ctx.old on.1 ix];refine cP rfl ?_;simp only[↓sU,sD,rE,↓reduceIte,rA,p4];refine aP ((on.step x1).cmp ia ix) ?_;rintro _ Y ⟨hY,z,rfl,hz⟩;refine⟨hY,?_⟩;have on2:=(on.step x1).step hY;simp only[↓sU,sD,rE,↓reduceIte,rA,hz,fQ];cases hl:C.lt e[a]! e[i]! with
    | false=>
     rw[hl,Bx,if_pos rfl] at he;refine aR (by simp only[↓aA,aB,rE,↓reduceIte,Bx]) (aM ?_);try simp only[↓aA,aB,rE,↓reduceIte]
     refine aN (aG ?_);simp only[↓aA,aB,rE,↓reduceIte,pi,fA (show i+1≤9223372036854775807 by omega)];exact⟨j+1 - (i+1),by omega,i+1,by omega,by omega,rfl,⟨rfl,ag p0,ag p1,ag p2,ag p4,ae,ag pj,on2⟩,he⟩
    | true=>
     rw[hl,Bp,if_neg (by simp)] at he;refine aO (by simp only[↓aA,aB,rE,↓reduceIte,Bp]) (bK ?_);try simp only[↓aA,aB,rE,↓reduceIte]
     rw[←he];exact⟨rfl,ag p0,ag p1,ag p2,ag p4,ag pi,ag pj,on2⟩
   ·rw[scanUp,Aa hij,Es,if_neg (by simp)] at he;simp only[↓sU,sD,rE,↓reduceIte,rA,p0,p1,p4,pi,pj,dle,Aa hij];refine aO (ae) (bK ?_);try simp only[↓aA,aB,rE,↓reduceIte]
    rw[←he];exact⟨rfl,ag p0,ag p1,ag p2,ag p4,ag pi,ag pj,on.step x1⟩
  rintro o ⟨F,inr⟩ X ⟨rfl,q0,p0,p1,p2,p4,pi,pj,on⟩;simp only at q0 p0 p1 p2 p4 pi pj;subst q0;try simp only[↓aA,aB,rE,↓reduceIte]
  refine aC (bD (Q:=fun o A' X=>o= .normal∧PaS C S0 e a b 11 12 i2 j2 A' X) (aN (bT (fun k A' X=>∃j,j<C.n∧k=j∧PaS C S0 e a b 11 12 i2 j A' X∧scanDown (fun x=>C.lt e[a]! x) e i2 j=j2) ?_ _ _ _ ⟨j,by omega,rfl,⟨rfl,p0,p1,p2,p4,pi,pj,on⟩,hj2.symm⟩)) ?_)
  ·rintro k ⟨F,inr⟩ X ⟨j,hjn,hk,⟨q0,p0,p1,p2,p4,pi,pj,on⟩,he⟩;simp only at q0 p0 p1 p2 p4 pi pj;subst q0;have ia:a<C.n:=by omega
   refine aC (aC (dK (fun _=>False) ?_));intro X1 x1;by_cases hij:i2≤j
   ·have ix:j<C.n:=by omega
    obtain⟨t,rfl⟩:∃t,j=t+1:=⟨j - 1,by omega⟩;rw[scanDown,Ad hij,Fa] at he;simp only[↓sU,sD,rE,↓reduceIte,rA,p0,p1,p4,pi,pj,dle,Ad hij,aH,C.ia ia,C.ia ix,on.1.ld ia,on.1.ld ix,on.1.self ia,on.1.self ix,Ctx.old on.1 ia,Ctx.old on.1 ix];refine cP rfl ?_;simp only[↓sU,sD,rE,↓reduceIte,rA,p4];refine aP ((on.step x1).cmp ia ix) ?_;rintro _ Y ⟨hY,z,rfl,hz⟩;refine⟨hY,?_⟩;have on2:=(on.step x1).step hY;simp only[↓sU,sD,rE,↓reduceIte,rA,hz,fQ];cases hl:C.lt e[a]! e[t+1]! with
    | true=>
     rw[hl,if_pos rfl] at he;refine aR (ae) (aM ?_);try simp only[↓aA,aB,rE,↓reduceIte]
     refine aN (aG ?_);simp only[↓aA,aB,rE,↓reduceIte,pj,show IntKind.i64.wrap (((t+1:Nat):Int) - 1)=(t:Int) from jU (a:=t+1) (by omega) (by omega)];exact⟨t,by omega,t,by omega,rfl,⟨rfl,ag p0,ag p1,ag p2,ag p4,ag pi,ae,on2⟩,he⟩
    | false=>
     rw[hl,if_neg (by simp)] at he;refine aO (ae) (bK ?_);try simp only[↓aA,aB,rE,↓reduceIte]
     rw[←he];exact⟨rfl,ag p0,ag p1,ag p2,ag p4,ag pi,ag pj,on2⟩
   ·have he:j=j2:=by
     rw[←he];cases j with
     | zero=>rfl
     | succ t=>rw[scanDown,Aa hij,Es,if_neg (by simp)]
    simp only[↓sU,sD,rE,↓reduceIte,rA,p0,p1,p4,pi,pj,dle,Aa hij];refine aO (ae) (bK ?_);try simp only[↓aA,aB,rE,↓reduceIte]
    rw[←he];exact⟨rfl,ag p0,ag p1,ag p2,ag p4,ag pi,ag pj,on.step x1⟩
  rintro o ⟨F,inr⟩ X ⟨rfl,q0,p0,p1,p2,p4,pi,pj,on⟩;simp only at q0 p0 p1 p2 p4 pi pj;subst q0;try simp only[↓aA,aB,rE,↓reduceIte]
  refine iP ?_;simp only[↓aA,aB,rE,↓reduceIte,pi,pj,zV];by_cases hgt:j2<i2
  ·rw[if_pos hgt] at he;refine aR (by simp only[↓aA,aB,rE,↓reduceIte,Ad hgt]) (bK ?_);try simp only[↓aA,aB,rE,↓reduceIte]
   rw[←he];exact⟨ag pi,on⟩
  rw[if_neg hgt] at he;refine aO (by simp only[↓aA,aB,rE,↓reduceIte,Aa hgt]) (aM ?_);try simp only[↓aA,aB,rE,↓reduceIte]
  refine aC ?_;refine jF C i2 j2 13 on (by omega) (by omega) rfl (by decide) (by decide) (by decide) ?_;simp only[↓aA,aB,rE,↓reduceIte,Bk,Bu,rA,p0,pi,pj,aH,C.ia (i:=i2) (by omega),C.ia (i:=j2) (by omega),on.1.ld (i:=i2) (by omega),on.1.ld (i:=j2) (by omega),on.1.self (i:=i2) (by omega),on.1.self (i:=j2) (by omega)];try clear on
  intro Z on;refine cC ?_;simp only[↓aA,aB,rE,↓reduceIte,pi,fA (show i2+1≤9223372036854775807 by omega)];refine aG ?_;simp only[↓aA,aB,rE,↓reduceIte,pj,jU (show 1≤j2 by omega) (show j2≤9223372036854775807 by omega)];exact⟨j2 - 1+1 - (i2+1),by omega,i2+1,j2 - 1,_,by omega,by omega,by omega,rfl,⟨rfl,ag p0,ag p1,ag p2,ag p4,ae,ae,on⟩,he⟩
 rintro o ⟨F,inr⟩ X ⟨rfl,pi,on⟩;simp only at pi;try simp only[↓aA,aB,rE,↓reduceIte]
 refine cC ?_;simp only[↓aA,aB,rE,↓reduceIte,pi];refine aU ?_;try simp only[↓aA,aB,rE,↓reduceIte]
 exact on
theorem aJ4{C:Ctx fns false 1}{S S0:St}{d:Array AV}{a b p:Nat}(H:Has fns)(on:C.On S0 S d)(hap:a≤p)(hpb:p<b)(hb:b≤C.n):fR fns (.fn 97 [] []) [C.v,.int .i64 (a:Int),.int .i64 (b:Int),.int .i64 (p:Int),C.f] S fun r S'=>r= .tup [.int .i64 ((Sort.partition C.lt d a b p).1:Int),.bool (Sort.partition C.lt d a b p).2.1]∧C.On S0 S' (Sort.partition C.lt d a b p).2.2:=by
 have hn:=C.hn;refine cE H.f97 (by simp) ?_;refine ah ?_;refine cC ?_;refine ah ?_;refine aC ?_;refine jF C a p 13 on (by omega) (by omega) rfl (by decide) (by decide) (by decide) ?_;simp only[↓aA,aB,rE,↓reduceIte,Bk,Bu,rA,Bl,aH,C.ia (i:=a) (by omega),C.ia (i:=p) (by omega),on.1.ld (i:=a) (by omega),on.1.ld (i:=p) (by omega),on.1.self (i:=a) (by omega),on.1.self (i:=p) (by omega)];try clear on
 intro Z on;obtain⟨e,hE⟩:∃e,e=swp d a p:=⟨_,rfl⟩;rw[←hE] at on;try simp only[↓aA,aB,rE,↓reduceIte]
 refine cC ?_;simp only[↓aA,aB,rE,↓reduceIte,fA (show a+1≤9223372036854775807 by omega),jU (show 1≤b by omega) (by omega)];obtain⟨i2,hi2⟩:∃i2,i2=scanUp (fun x=>C.lt x e[a]!) e (b - 1) (a+1):=⟨_,rfl⟩;obtain⟨j2,hj2⟩:∃j2,j2=scanDown (fun x=> !C.lt x e[a]!) e i2 (b - 1):=⟨_,rfl⟩;have s1:=scanUp_spec (fun x=>C.lt x e[a]!) e (b - 1) _ (a+1) rfl;have s2:=scanDown_spec (fun x=> !C.lt x e[a]!) e i2 (b - 1);rw[←hi2] at s1;rw[←hj2] at s2;have hpa:Sort.partition C.lt d a b p=if i2>j2 then(j2,true,swp e j2 a) else((partLoop C.lt a (i2+1) (j2 - 1) (swp e i2 j2)).1,false,swp (partLoop C.lt a (i2+1) (j2 - 1) (swp e i2 j2)).2 (partLoop C.lt a (i2+1) (j2 - 1) (swp e i2 j2)).1 a):=by
  rw[hj2,hi2,hE];rfl
 refine aC (bD (Q:=fun o A' X=>o= .normal∧PaS C S0 e a b 12 13 i2 (b - 1) A' X) (aN (bT (fun k A' X=>∃i,a<i∧i≤C.n∧k=b - 1+1 - i∧PaS C S0 e a b 12 13 i (b - 1) A' X∧scanUp (fun x=>C.lt x e[a]!) e (b - 1) i=i2) ?_ _ _ _ ⟨(a+1),by omega,by omega,rfl,⟨rfl,ae,ae,ae,ae,ae,ae,on⟩,hi2.symm⟩)) ?_)
 ·rintro k ⟨F,inr⟩ X ⟨i,hai,hin,hk,⟨q0,p0,p1,p2,p4,pi,pj,on⟩,he⟩;simp only at q0 p0 p1 p2 p4 pi pj;subst q0;have ia:a<C.n:=by omega
  refine aC (aC (dK (fun _=>False) ?_));intro X1 x1;by_cases hij:i≤(b - 1)
  ·have ix:i<C.n:=by omega
   rw[scanUp,Ad hij,Fa] at he;simp only[↓sU,sD,rE,↓reduceIte,rA,p0,p1,p4,pi,pj,dle,Ad hij,aH,C.ia ia,C.ia ix,on.1.ld ia,on.1.ld ix,on.1.self ia,on.1.self ix,Ctx.old on.1 ia,Ctx.old on.1 ix];refine cP rfl ?_;simp only[↓sU,sD,rE,↓reduceIte,rA,p4];refine aP ((on.step x1).cmp ix ia) ?_;rintro _ Y ⟨hY,z,rfl,hz⟩;refine⟨hY,?_⟩;have on2:=(on.step x1).step hY;simp only[↓sU,sD,rE,↓reduceIte,rA,hz,fQ];cases hl:C.lt e[i]! e[a]! with
   | true=>
    rw[hl,if_pos rfl] at he;refine aR (ae) (aM ?_);try simp only[↓aA,aB,rE,↓reduceIte]
    refine aN (aG ?_);simp only[↓aA,aB,rE,↓reduceIte,pi,fA (show i+1≤9223372036854775807 by omega)];exact⟨(b - 1)+1 - (i+1),by omega,i+1,by omega,by omega,rfl,⟨rfl,ag p0,ag p1,ag p2,ag p4,ae,ag pj,on2⟩,he⟩
   | false=>
    rw[hl,if_neg (by simp)] at he;refine aO (ae) (bK ?_);try simp only[↓aA,aB,rE,↓reduceIte]
    rw[←he];exact⟨rfl,ag p0,ag p1,ag p2,ag p4,ag pi,ag pj,on2⟩
  ·rw[scanUp,Aa hij,Es,if_neg (by simp)] at he;simp only[↓sU,sD,rE,↓reduceIte,rA,p0,p1,p4,pi,pj,dle,Aa hij];refine aO (ae) (bK ?_);try simp only[↓aA,aB,rE,↓reduceIte]
   rw[←he];exact⟨rfl,ag p0,ag p1,ag p2,ag p4,ag pi,ag pj,on.step x1⟩
 rintro o ⟨F,inr⟩ X ⟨rfl,q0,p0,p1,p2,p4,pi,pj,on⟩;simp only at q0 p0 p1 p2 p4 pi pj;subst q0;try simp only[↓aA,aB,rE,↓reduceIte]
 refine aC (bD (Q:=fun o A' X=>o= .normal∧PaS C S0 e a b 12 13 i2 j2 A' X) (aN (bT (fun k A' X=>∃j,j<C.n∧k=j∧PaS C S0 e a b 12 13 i2 j A' X∧scanDown (fun x=> !C.lt x e[a]!) e i2 j=j2) ?_ _ _ _ ⟨(b - 1),by omega,rfl,⟨rfl,p0,p1,p2,p4,pi,pj,on⟩,hj2.symm⟩)) ?_)
 ·rintro k ⟨F,inr⟩ X ⟨j,hjn,hk,⟨q0,p0,p1,p2,p4,pi,pj,on⟩,he⟩;simp only at q0 p0 p1 p2 p4 pi pj;subst q0;have ia:a<C.n:=by omega
  refine aC (aC (dK (fun _=>False) ?_));intro X1 x1;by_cases hij:i2≤j
  ·have ix:j<C.n:=by omega
   obtain⟨t,rfl⟩:∃t,j=t+1:=⟨j - 1,by omega⟩;rw[scanDown,Ad hij,Fa] at he;simp only[↓sU,sD,rE,↓reduceIte,rA,p0,p1,p4,pi,pj,dle,Ad hij,aH,C.ia ia,C.ia ix,on.1.ld ia,on.1.ld ix,on.1.self ia,on.1.self ix,Ctx.old on.1 ia,Ctx.old on.1 ix];refine cP rfl ?_;simp only[↓sU,sD,rE,↓reduceIte,rA,p4];refine aP ((on.step x1).cmp ix ia) ?_;rintro _ Y ⟨hY,z,rfl,hz⟩;refine⟨hY,?_⟩;have on2:=(on.step x1).step hY;simp only[↓sU,sD,rE,↓reduceIte,rA,hz,fQ];cases hl:C.lt e[t+1]! e[a]! with
   | false=>
    rw[hl,Bx,if_pos rfl] at he;refine aR (by simp only[↓aA,aB,rE,↓reduceIte,Bx]) (aM ?_);try simp only[↓aA,aB,rE,↓reduceIte]
    refine aN (aG ?_);simp only[↓aA,aB,rE,↓reduceIte,pj,show IntKind.i64.wrap (((t+1:Nat):Int) - 1)=(t:Int) from jU (a:=t+1) (by omega) (by omega)];exact⟨t,by omega,t,by omega,rfl,⟨rfl,ag p0,ag p1,ag p2,ag p4,ag pi,ae,on2⟩,he⟩
   | true=>
    rw[hl,Bp,if_neg (by simp)] at he;refine aO (by simp only[↓aA,aB,rE,↓reduceIte,Bp]) (bK ?_);try simp only[↓aA,aB,rE,↓reduceIte]
    rw[←he];exact⟨rfl,ag p0,ag p1,ag p2,ag p4,ag pi,ag pj,on2⟩
  ·have he:j=j2:=by
    rw[←he];cases j with
    | zero=>rfl
    | succ t=>rw[scanDown,Aa hij,Es,if_neg (by simp)]
   simp only[↓sU,sD,rE,↓reduceIte,rA,p0,p1,p4,pi,pj,dle,Aa hij];refine aO (ae) (bK ?_);try simp only[↓aA,aB,rE,↓reduceIte]
   rw[←he];exact⟨rfl,ag p0,ag p1,ag p2,ag p4,ag pi,ag pj,on.step x1⟩
 rintro o ⟨F,inr⟩ X ⟨rfl,q0,p0,p1,p2,p4,pi,pj,on⟩;simp only at q0 p0 p1 p2 p4 pi pj;subst q0;try simp only[↓aA,aB,rE,↓reduceIte]
 refine iP ?_;simp only[↓aA,aB,rE,↓reduceIte,pi,pj,zV];by_cases hgt:j2<i2
 ·rw[if_pos hgt] at hpa;rw[hpa];refine aR (by simp only[↓aA,aB,rE,↓reduceIte,Ad hgt]) ?_;refine aC ?_;refine jF C j2 a 13 on (by omega) (by omega) rfl (by decide) (by decide) (by decide) ?_;simp only[↓aA,aB,rE,↓reduceIte,Bk,Bu,rA,p0,p1,pj,aH,C.ia (i:=j2) (by omega),C.ia (i:=a) (by omega),on.1.ld (i:=j2) (by omega),on.1.ld (i:=a) (by omega),on.1.self (i:=j2) (by omega),on.1.self (i:=a) (by omega)];try clear on
  intro Z on;refine cC ?_;simp only[↓aA,aB,rE,↓reduceIte,pj];refine aU ?_;simp only[↓aA,aB,rE,↓reduceIte];exact on
 rw[if_neg hgt] at hpa;rw[hpa];refine aO (by simp only[↓aA,aB,rE,↓reduceIte,Aa hgt]) (aM ?_);try simp only[↓aA,aB,rE,↓reduceIte]
 refine aC ?_;refine jF C i2 j2 13 on (by omega) (by omega) rfl (by decide) (by decide) (by decide) ?_;simp only[↓aA,aB,rE,↓reduceIte,Bk,Bu,rA,p0,pi,pj,aH,C.ia (i:=i2) (by omega),C.ia (i:=j2) (by omega),on.1.ld (i:=i2) (by omega),on.1.ld (i:=j2) (by omega),on.1.self (i:=i2) (by omega),on.1.self (i:=j2) (by omega)];try clear on
 intro Z on;refine cC ?_;simp only[↓aA,aB,rE,↓reduceIte,pi,fA (show i2+1≤9223372036854775807 by omega)];refine cC ?_;simp only[↓aA,aB,rE,↓reduceIte,pj,jU (show 1≤j2 by omega) (show j2≤9223372036854775807 by omega)];obtain⟨R,hR⟩:∃R,R=partLoop C.lt a (i2+1) (j2 - 1) (swp e i2 j2):=⟨_,rfl⟩;rw[←hR];refine aC (bD (Q:=fun o A' X=>o= .normal∧aD 0 A'.F=C.v∧aD 1 A'.F= .int .i64 (a:Int)∧aD 13 A'.F= .int .i64 (R.1:Int)∧R.1<C.n∧C.On S0 X R.2) (aN (bT (fun k A' X=>∃i j e,a<i∧i≤C.n∧j<C.n∧k=j+1 - i∧PaS C S0 e a b 12 13 i j A' X∧partLoop C.lt a i j e=R) ?_ _ _ _ ⟨i2+1,j2 - 1,_,by omega,by omega,by omega,rfl,⟨rfl,ag p0,ag p1,ag p2,ag p4,ae,ae,on⟩,hR.symm⟩)) ?_)
 ·rintro k A X ⟨i,j,e,hai,hin,hjn,hk,hP,he⟩;refine aN ?_;obtain⟨i2,hi2⟩:∃i2,i2=scanUp (fun x=>C.lt x e[a]!) e j i:=⟨_,rfl⟩;obtain⟨j2,hj2⟩:∃j2,j2=scanDown (fun x=> !C.lt x e[a]!) e i2 j:=⟨_,rfl⟩;have s1:=scanUp_spec (fun x=>C.lt x e[a]!) e j _ i rfl;have s2:=scanDown_spec (fun x=> !C.lt x e[a]!) e i2 j;rw[partLoop_eq,←hi2,←hj2] at he;rw[←hi2] at s1;rw[←hj2] at s2;refine aC (bD (Q:=fun o A' X=>o= .normal∧PaS C S0 e a b 12 13 i2 j A' X) (aN (bT (fun k A' X=>∃i,a<i∧i≤C.n∧k=j+1 - i∧PaS C S0 e a b 12 13 i j A' X∧scanUp (fun x=>C.lt x e[a]!) e j i=i2) ?_ _ _ _ ⟨i,by omega,by omega,rfl,hP,hi2.symm⟩)) ?_)
  ·rintro k ⟨F,inr⟩ X ⟨i,hai,hin,hk,⟨q0,p0,p1,p2,p4,pi,pj,on⟩,he⟩;simp only at q0 p0 p1 p2 p4 pi pj;subst q0;have ia:a<C.n:=by omega
   refine aC (aC (dK (fun _=>False) ?_));intro X1 x1;by_cases hij:i≤j
   ·have ix:i<C.n:=by omega
    rw[scanUp,Ad hij,Fa] at he;simp only[↓sU,sD,rE,↓reduceIte,rA,p0,p1,p4,pi,pj,dle,Ad hij,aH,C.ia ia,C.ia ix,on.1.ld ia,on.1.ld ix,on.1.self ia,on.1.self ix,Ctx.old on.1 ia,Ctx.old on.1 ix];refine cP rfl ?_;simp only[↓sU,sD,rE,↓reduceIte,rA,p4];refine aP ((on.step x1).cmp ix ia) ?_;rintro _ Y ⟨hY,z,rfl,hz⟩;refine⟨hY,?_⟩;have on2:=(on.step x1).step hY;simp only[↓sU,sD,rE,↓reduceIte,rA,hz,fQ];cases hl:C.lt e[i]! e[a]! with
    | true=>
     rw[hl,if_pos rfl] at he;refine aR (ae) (aM ?_);try simp only[↓aA,aB,rE,↓reduceIte]
     refine aN (aG ?_);simp only[↓aA,aB,rE,↓reduceIte,pi,fA (show i+1≤9223372036854775807 by omega)];exact⟨j+1 - (i+1),by omega,i+1,by omega,by omega,rfl,⟨rfl,ag p0,ag p1,ag p2,ag p4,ae,ag pj,on2⟩,he⟩
    | false=>
     rw[hl,if_neg (by simp)] at he;refine aO (ae) (bK ?_);try simp only[↓aA,aB,rE,↓reduceIte]
     rw[←he];exact⟨rfl,ag p0,ag p1,ag p2,ag p4,ag pi,ag pj,on2⟩
   ·rw[scanUp,Aa hij,Es,if_neg (by simp)] at he;simp only[↓sU,sD,rE,↓reduceIte,rA,p0,p1,p4,pi,pj,dle,Aa hij];refine aO (ae) (bK ?_);try simp only[↓aA,aB,rE,↓reduceIte]
    rw[←he];exact⟨rfl,ag p0,ag p1,ag p2,ag p4,ag pi,ag pj,on.step x1⟩
  rintro o ⟨F,inr⟩ X ⟨rfl,q0,p0,p1,p2,p4,pi,pj,on⟩;simp only at q0 p0 p1 p2 p4 pi pj;subst q0;try simp only[↓aA,aB,rE,↓reduceIte]
  refine aC (bD (Q:=fun o A' X=>o= .normal∧PaS C S0 e a b 12 13 i2 j2 A' X) (aN (bT (fun k A' X=>∃j,j<C.n∧k=j∧PaS C S0 e a b 12 13 i2 j A' X∧scanDown (fun x=> !C.lt x e[a]!) e i2 j=j2) ?_ _ _ _ ⟨j,by omega,rfl,⟨rfl,p0,p1,p2,p4,pi,pj,on⟩,hj2.symm⟩)) ?_)
  ·rintro k ⟨F,inr⟩ X ⟨j,hjn,hk,⟨q0,p0,p1,p2,p4,pi,pj,on⟩,he⟩;simp only at q0 p0 p1 p2 p4 pi pj;subst q0;have ia:a<C.n:=by omega
   refine aC (aC (dK (fun _=>False) ?_));intro X1 x1;by_cases hij:i2≤j
   ·have ix:j<C.n:=by omega
    obtain⟨t,rfl⟩:∃t,j=t+1:=⟨j - 1,by omega⟩;rw[scanDown,Ad hij,Fa] at he;simp only[↓sU,sD,rE,↓reduceIte,rA,p0,p1,p4,pi,pj,dle,Ad hij,aH,C.ia ia,C.ia ix,on.1.ld ia,on.1.ld ix,on.1.self ia,on.1.self ix,Ctx.old on.1 ia,Ctx.old on.1 ix];refine cP rfl ?_;simp only[↓sU,sD,rE,↓reduceIte,rA,p4];refine aP ((on.step x1).cmp ix ia) ?_;rintro _ Y ⟨hY,z,rfl,hz⟩;refine⟨hY,?_⟩;have on2:=(on.step x1).step hY;simp only[↓sU,sD,rE,↓reduceIte,rA,hz,fQ];cases hl:C.lt e[t+1]! e[a]! with
    | false=>
     rw[hl,Bx,if_pos rfl] at he;refine aR (by simp only[↓aA,aB,rE,↓reduceIte,Bx]) (aM ?_);try simp only[↓aA,aB,rE,↓reduceIte]
     refine aN (aG ?_);simp only[↓aA,aB,rE,↓reduceIte,pj,show IntKind.i64.wrap (((t+1:Nat):Int) - 1)=(t:Int) from jU (a:=t+1) (by omega) (by omega)];exact⟨t,by omega,t,by omega,rfl,⟨rfl,ag p0,ag p1,ag p2,ag p4,ag pi,ae,on2⟩,he⟩
    | true=>
     rw[hl,Bp,if_neg (by simp)] at he;refine aO (by simp only[↓aA,aB,rE,↓reduceIte,Bp]) (bK ?_);try simp only[↓aA,aB,rE,↓reduceIte]
     rw[←he];exact⟨rfl,ag p0,ag p1,ag p2,ag p4,ag pi,ag pj,on2⟩
   ·have he:j=j2:=by
     rw[←he];cases j with
     | zero=>rfl
     | succ t=>rw[scanDown,Aa hij,Es,if_neg (by simp)]
    simp only[↓sU,sD,rE,↓reduceIte,rA,p0,p1,p4,pi,pj,dle,Aa hij];refine aO (ae) (bK ?_);try simp only[↓aA,aB,rE,↓reduceIte]
    rw[←he];exact⟨rfl,ag p0,ag p1,ag p2,ag p4,ag pi,ag pj,on.step x1⟩
  rintro o ⟨F,inr⟩ X ⟨rfl,q0,p0,p1,p2,p4,pi,pj,on⟩;simp only at q0 p0 p1 p2 p4 pi pj;subst q0;try simp only[↓aA,aB,rE,↓reduceIte]
  refine iP ?_;simp only[↓aA,aB,rE,↓reduceIte,pi,pj,zV];by_cases hgt:j2<i2
  ·rw[if_pos hgt] at he;refine aR (by simp only[↓aA,aB,rE,↓reduceIte,Ad hgt]) (bK ?_);try simp only[↓aA,aB,rE,↓reduceIte]
   rw[←he];exact⟨ag p0,ag p1,ag pj,by omega,on⟩
  rw[if_neg hgt] at he;refine aO (by simp only[↓aA,aB,rE,↓reduceIte,Aa hgt]) (aM ?_);try simp only[↓aA,aB,rE,↓reduceIte]
  refine aC ?_;refine jF C i2 j2 13 on (by omega) (by omega) rfl (by decide) (by decide) (by decide) ?_;simp only[↓aA,aB,rE,↓reduceIte,Bk,Bu,rA,p0,pi,pj,aH,C.ia (i:=i2) (by omega),C.ia (i:=j2) (by omega),on.1.ld (i:=i2) (by omega),on.1.ld (i:=j2) (by omega),on.1.self (i:=i2) (by omega),on.1.self (i:=j2) (by omega)];try clear on
  intro Z on;refine cC ?_;simp only[↓aA,aB,rE,↓reduceIte,pi,fA (show i2+1≤9223372036854775807 by omega)];refine aG ?_;simp only[↓aA,aB,rE,↓reduceIte,pj,jU (show 1≤j2 by omega) (show j2≤9223372036854775807 by omega)];exact⟨j2 - 1+1 - (i2+1),by omega,i2+1,j2 - 1,_,by omega,by omega,by omega,rfl,⟨rfl,ag p0,ag p1,ag p2,ag p4,ae,ae,on⟩,he⟩
 rintro o ⟨F,inr⟩ X ⟨rfl,p0,p1,pj,hlt,on⟩;simp only at p0 p1 pj;try simp only[↓aA,aB,rE,↓reduceIte]
 refine aC ?_;refine jF C R.1 a 13 on (by omega) (by omega) rfl (by decide) (by decide) (by decide) ?_;simp only[↓aA,aB,rE,↓reduceIte,Bk,Bu,rA,p0,p1,pj,aH,C.ia (i:=R.1) (by omega),C.ia (i:=a) (by omega),on.1.ld (i:=R.1) (by omega),on.1.ld (i:=a) (by omega),on.1.self (i:=R.1) (by omega),on.1.self (i:=a) (by omega)];try clear on
 intro Z on;refine cC ?_;simp only[↓aA,aB,rE,↓reduceIte,pj];refine aU ?_;try simp only[↓aA,aB,rE,↓reduceIte]
 exact on
end Go.Ev.Gl
