import Derived.Test.YtoojnpjgnnpllaaGl14
set_option maxHeartbeats 16000000
set_option linter.unusedSimpArgs false
set_option linter.unusedVariables false
namespace Go.Ev.Gl
variable {fns:T eG}
theorem zP{cs e:List AV}{p t:Nat}(hp:p+e.length≤cs.length):(cs.take p++e++cs.drop (p+e.length))[t]? =if t<p then cs[t]? else if t<p+e.length then e[t - p]? else cs[t]? :=by
 have hl:(cs.take p).length=p:=by rw[Ce];omega
 rw[Cd];by_cases h1:t<p
 ·rw[if_pos h1,Bg (by omega),Eo h1]
 ·rw[if_neg h1,Bd (by omega),hl];by_cases h2:t<p+e.length
  ·rw[if_pos h2,Bg (by omega)]
  ·rw[if_neg h2,Bd (by omega),List.getElem?_drop];congr 1;omega
theorem aD8{S:St}{b p sz:Nat}{cs e:List AV}{o:Bool}(h:S.h.get b=some (.cells cs o sz))(hp:p+e.length≤cs.length):rZ S b p e=some ⟨S.h.set b (some (.cells (cs.take p++e++cs.drop (p+e.length)) o sz)),S.nx⟩:=by
 simp only[rZ,h,aK,aAO,put_eq,if_pos hp]
theorem aNJ{S:St}{b p sz n:Nat}{cs e:List AV}{o:Bool}(h:S.h.get b=some (.cells cs o sz))(hp:p+e.length≤cs.length)(hn:e.length=n):rU (.ptr b p) n e S=some (.undef,⟨S.h.set b (some (.cells (cs.take p++e++cs.drop (p+e.length)) o sz)),S.nx⟩):=by
 simp only[rU,fL,hn,aD8 h hp];rw[show Nat.beq n n=true from Nat.beq_refl n,aQ];subst hn;rfl
def ArB{α:Type}(k:Nat)(E:List AV→α→Prop)(S0 X:St)(v:AV)(l:List α):Prop:=
 (v= .nilsl∧l= [])∨∃b c cs,v= .sl b 0 l.length c true∧l.length≤c∧cs.length=c * k∧S0.nx≤b∧b<X.nx∧X.h.get b=some (.cells cs true k)∧0<c∧∀ (i:Nat) (a:α),l[i]? =some a→∃e:List AV,e.length=k∧(∀ (j:Nat) (x:AV),e[j]? =some x→cs[i * k+j]? =some x)∧E e a
section
variable {α:Type}{k:Nat}{E E':List AV→α→Prop}{S0 X X':St}{v:AV}{l:List α}
theorem ArB.none:ArB k E S0 X .nilsl []:=.inl ⟨rfl,rfl⟩
theorem ArB.move(h:ArB k E S0 X v l)(hn:X.nx≤X'.nx)(hh:∀c,bD v=some c→X'.h.get c=X.h.get c)(hE:∀e a,E e a→E' e a):ArB k E' S0 X' v l:=by
 rcases h with h | ⟨b,c,cs,rfl,h1,h2,h3,h4,h5,h6,h7⟩
 ·exact .inl h
 ·refine .inr ⟨b,c,cs,rfl,h1,h2,h3,Ae h4 hn,(hh b rfl).trans h5,h6,fun i a hi=>?_⟩;obtain⟨e,e1,e2,e3⟩:=h7 i a hi;exact⟨e,e1,e2,hE e a e3⟩
theorem ArB.blk(h:ArB k E S0 X v l){c:Nat}(hc:bD v=some c):S0.nx≤c∧c<X.nx:=by
 rcases h with⟨rfl,_⟩ | ⟨b,c',cs,rfl,h1,h2,h3,h4,h5,h6,h7⟩
 ·cases hc
 ·cases hc;exact⟨h3,h4⟩
theorem ArB.is{E2:St→List AV→α→Prop}(h:ArB k E S0 X v l)(hE:∀e a,E e a→E2 X e a):aH k E2 X v l:=by
 rcases h with⟨rfl,rfl⟩ | ⟨b,c,cs,rfl,h1,h2,h3,h4,h5,h6,h7⟩
 ·exact .inl ⟨rfl,.inl rfl⟩
 ·refine .inr ⟨b,0,c,true,cs,rfl,h1,h4,by unfold cN;rw[h5];rfl,fun i a hi=>?_⟩;obtain⟨e,e1,e2,e3⟩:=h7 i a hi;exact⟨e,e1,fun j x hj=>by rw[Ao];exact e2 j x hj,hE e a e3⟩
theorem ArB.cells(h:ArB k E S0 X v l):v.cells=some [v]:=by
 rcases h with⟨rfl,_⟩ | ⟨b,c,cs,rfl,_⟩<;>rfl
theorem ArB.self(h:ArB k E S0 X v l):cC v v=true:=by
 rcases h with⟨rfl,_⟩ | ⟨b,c,cs,rfl,_⟩
 ·rfl
 ·exact nS ..
theorem ArB.len(h:ArB k E S0 X v l):kO v=some (.int .i64 ((l.length:Nat):Int)):=by
 rcases h with⟨rfl,rfl⟩ | ⟨b,c,cs,rfl,_⟩<;>rfl
theorem qV{i j k q:Nat}(h:i<j)(hq:q<k):i * k+q<j * k:=by
 have:(i+1) * k≤j * k:=Ec k h;rw[Dy,Nat.one_mul] at this;omega
theorem ArB.push{bytes:Nat}{x:AV}{e:List AV}{a:α}(h:ArB k E S0 X v l)(hk:0<k)(hS:S0.nx≤X.nx)(hl:mO x=some 1)(hs:fG x X.h k 1=some e)(he:e.length=k)(hE:E e a)(h1:l.length+1≤room)(h2:(l.length+1) * bytes≤room):
  ∃v' X',jK bytes k v x X=some (v',X')∧ArB k E S0 X' v' (l++ [a])∧X.nx≤X'.nx∧(∀c,c<X.nx→bD v≠some c→X'.h.get c=X.h.get c)∧(∀c,bD v'=some c→bD v=some c∨X.nx≤c):=by
 rcases h with⟨rfl,rfl⟩ | ⟨b,c,cs,rfl,g1,g2,g3,g4,g5,g6,g7⟩
 ·refine⟨.sl X.nx 0 1 1 true,⟨X.h.set X.nx (some (.cells e true k)),X.nx+1⟩,?_,.inr ⟨X.nx,1,e,rfl,Ah _,by rw[he,Nat.one_mul],hS,by simp,by simp only;rw[T.get_set,if_pos rfl],Nat.one_pos,fun i a' hi=>?_⟩,by simp,fun c hc _=>(Same.alloc X _).2 c hc,fun c hc=>by cases hc;exact .inr (Ah _)⟩
  ·show(aZ (mO x) fun j=>aZ (fG x X.h k j) fun new=>aCN .nilsl bytes k j new X)=_;rw[hl,aK,hs,aK];show rX bytes k 1 e X=_;have h1':1≤room:=by simpa using h1
   have h2':1 * bytes≤room:=by simpa using h2
   unfold rX;rw[show Nat.beq 1 0=false from rfl,aW,Au h1',aQ,Au h2',aQ];rfl
  ·cases i with
   | zero=>
    simp at hi;subst hi;exact⟨e,he,fun j y hj=>by rw[Nat.zero_mul,Ao];exact hj,hE⟩
   | succ i=>simp at hi
 ·by_cases hc:l.length+1≤c
  ·have hp:l.length * k+e.length≤cs.length:=by
    rw[he,g2,←Nat.succ_mul];exact Ec k hc
   refine⟨.sl b 0 (l.length+1) c true,⟨X.h.set b (some (.cells (cs.take (l.length * k)++e++cs.drop (l.length * k+e.length)) true k)),X.nx⟩,?_,.inr ⟨b,c,cs.take (l.length * k)++e++cs.drop (l.length * k+e.length),by rw[Am,Bi],by rw[Am,Bi];exact hc,by simp;omega,g3,g4,by simp only;rw[T.get_set,if_pos rfl],g6,fun i a' hi=>?_⟩,Ah _,fun c' _ hne=>?_,fun c' hc'=>.inl hc'⟩
   ·show(aZ (mO x) fun j=>aZ (fG x X.h k j) fun new=>aCN (.sl b 0 l.length c true) bytes k j new X)=_;rw[hl,aK,hs,aK];show qS bytes k b 0 l.length c true 1 e X=_;unfold qS;rw[Au hc,aQ,show Nat.beq 1 0=false from rfl,aW,Ao,aD8 g5 hp,aK]
   ·rw[Ed] at hi;split at hi
    ·rename_i hlt;obtain⟨e',e1,e2,e3⟩:=g7 i a' hi;refine⟨e',e1,fun j y hj=>?_,e3⟩;have hjk:j<k:=by rw[←e1];exact(Ai.1 hj).1
     rw[zP hp,if_pos (qV hlt hjk)];exact e2 j y hj
    ·rename_i hlt;have h0:i - l.length=0:=by
      rcases Ei (i - l.length) with h0 | h0
      ·exact h0
      ·rw[Ca (by simp;omega)] at hi;cases hi
     rw[h0] at hi;cases hi;have hil:i=l.length:=by omega
     subst hil;refine⟨e,he,fun j y hj=>?_,hE⟩;have hjk:j<e.length:=(Ai.1 hj).1;rw[zP hp,if_neg (by omega),if_pos (by omega),Nat.add_sub_cancel_left];exact hj
   ·simp only;rw[T.get_set,if_neg (fun e=>hne (by rw[e];rfl))]
  ·obtain rfl:c=l.length:=by omega
   refine⟨.sl X.nx 0 (l.length+1) (l.length+1) true,⟨(X.h.set b Option.none).set X.nx (some (.cells (cs++e) true k)),X.nx+1⟩,?_,.inr ⟨X.nx,l.length+1,cs++e,by rw[Am,Bi],by rw[Am,Bi];exact Ah _,by rw[Am,g2,he,Nat.succ_mul],hS,by simp,by simp only;rw[T.get_set,if_pos rfl],by omega,fun i a' hi=>?_⟩,by simp,fun c' hc' hne=>?_,fun c' hc'=>by cases hc';exact .inr (Ah _)⟩
   ·show(aZ (mO x) fun j=>aZ (fG x X.h k j) fun new=>aCN (.sl b 0 l.length l.length true) bytes k j new X)=_;rw[hl,aK,hs,aK];show qS bytes k b 0 l.length l.length true 1 e X=_;unfold qS;have e2:Nat.ble (l.length+1) l.length=false:=by rw[Ef];intro h;have:=Az h;omega
    rw[e2,aW,Au h1,aQ,Au h2,aQ,g5,aK];have e3:cut cs 0 (l.length * k)=some cs:=by
     unfold cut;rw[jE,jZ,Dk,if_pos (by omega),Bb (by omega)]
    have e4:Nat.beq (0+l.length * k) (lI cs)=true:=by rw[fL,g2,Bh];omega
    have e5:Nat.beq k k=true:=Nat.beq_refl k;simp only[aBh,e3,aK,aQ,e4,e5,grown,fS]
   ·rw[Ed] at hi;split at hi
    ·rename_i hlt;obtain⟨e',e1,e2,e3⟩:=g7 i a' hi;refine⟨e',e1,fun j y hj=>?_,e3⟩;have hjk:j<k:=by rw[←e1];exact(Ai.1 hj).1
     rw[Bg (by rw[g2];exact qV hlt hjk)];exact e2 j y hj
    ·rename_i hlt;have h0:i - l.length=0:=by
      rcases Ei (i - l.length) with h0 | h0
      ·exact h0
      ·rw[Ca (by simp;omega)] at hi;cases hi
     rw[h0] at hi;cases hi;have hil:i=l.length:=by omega
     subst hil;refine⟨e,he,fun j y hj=>?_,hE⟩;rw[Bd (by omega),g2,Nat.add_sub_cancel_left];exact hj
   ·simp only;have:c'≠b:=fun e=>hne (by rw[e];rfl);rw[T.get_set,if_neg (by omega),T.get_set,if_neg this]
end
structure Mk where
 lvl:AV
 va:AV
 na:AV
 ia:AV
 lv:AV
 most:Int
 pend:Int
 ps:Int
 zero:Bool
 small:Bool
 dl:List Int
 nodes:List dG
 infos:List aAp
 views:List (Int×Int×Int)
def aMs(cs:List AV)(a:aAp):Prop:=cs= [.int .i64 a.player,.int .i64 a.actions]
section
variable {P:Nat→Prop}{S0 X X':St}{mb db:Nat}{m m':Mk}{LV:List (Int×Int×Int)}
end
def hot(o:AO):Bool:=match o.op with | .q q=>dI q | .a _=>false | .x _=>true
def aJ6(I:Nat→Prop)(D:DS):Prop:=(∀e∈D.hs,I e.1)∧∀l∈D.ls,I l.i
theorem aLP{I:Nat→Prop}{call:eQ}{o:AO}{i base:Nat}{D D':DS}(h:rT o i base call D=some D')(hi:hot o=true→I i)(hD:aJ6 I D):aJ6 I D':=by
 unfold rT at h;cases hw:eM o.grd D.F with
 | false=>rw[hw,aW] at h;cases h;exact hD
 | true=>
  rw[hw,aQ] at h;obtain⟨d,op,g,m⟩:=o;cases op with
  | q q=>
   have h:aZ (fV q D.F D.S.h) (fun v=>some (⟨cK d D.F v,D.S,D.ps,D.hs,bN (dI q) (⟨q,D.F,v,i,m⟩::D.ls) D.ls⟩:DS))=some D':=h;cases he:fV q D.F D.S.h with
   | none=>rw[he] at h;cases h
   | some v=>
    rw[he,aK] at h;cases h;refine⟨hD.1,fun l hl=>?_⟩;simp only at hl;cases hq:dI q with
    | false=>rw[hq,aW] at hl;exact hD.2 l hl
    | true=>
     rw[hq,aQ] at hl;rcases Bm.1 hl with rfl | hl
     ·exact hi hq
     ·exact hD.2 l hl
  | a a=>
   have h:aZ (uL a D.F (base+i)) (fun r=>some (⟨cK d D.F r.1,D.S,⟨i,base+i,r.2⟩::D.ps,D.hs,D.ls⟩:DS))=some D':=h;cases he:uL a D.F (base+i) with
   | none=>rw[he] at h;cases h
   | some v=>rw[he,aK] at h;cases h;exact hD
  | x x=>
   have h:bN (iY D.hs m) (aZ (zB x call D.F ⟨(cF m D.ps D.S.h).2,D.S.nx⟩) fun r=>some (⟨cK d D.F r.1,r.2,(cF m D.ps D.S.h).1,(i,m,r.2.h)::D.hs,D.ls⟩:DS)) none=some D':=h;cases hl:iY D.hs m with
   | false=>rw[hl,aW] at h;cases h
   | true=>
    rw[hl,aQ] at h;cases he:zB x call D.F ⟨(cF m D.ps D.S.h).2,D.S.nx⟩ with
    | none=>rw[he] at h;cases h
    | some v=>
     rw[he,aK] at h;cases h;refine⟨fun e he=>?_,hD.2⟩;rcases Bm.1 he with rfl | he
     ·exact hi rfl
     ·exact hD.1 e he
theorem aGs{I:Nat→Prop}{call:eQ}{base:Nat}:∀ {l:List AO} {i:Nat} {D D':DS},uQ l i base call D=some D'→(∀j o,l[j]? =some o→hot o=true→I (i+j))→aJ6 I D→aJ6 I D'
 | [],i,D,D',h,_,hD=>by cases h;exact hD
 | o::os,i,D,D',h,hI,hD=>by
  have h:aZ (rT o i base call D) (fun D'=>uQ os (i+1) base call D')=some D':=h;cases he:rT o i base call D with
  | none=>rw[he] at h;cases h
  | some D1=>
   rw[he,aK] at h;exact aGs h (fun j o' hj ho=>by have:=hI (j+1) o' hj ho;rwa [show i+1+j=i+(j+1) by omega]) (aLP he (fun ho=>hI 0 o rfl ho) hD)
theorem aDq{W:Nat→Prop}{h0:T AB}{base K m:Nat}{h':T AB}{r:List (Nat×Nat×T AB)}{l:lS}(h:cC l.v l.v=true∧aAr W base l.q l.F∧fV l.q l.F h0=some l.v)(hl:l.mask<2 ^ K)(hm:Nat.testBit m l.i=true):∀ {hs:List (Nat×Nat×T AB)} {h1:T AB},(∀e∈hs,∀b,b<base→¬W b→e.2.2.get b=h0.get b)→(∀b,b<base→¬W b→h1.get b=h0.get b)→eI l (hs++(K,m,h')::r) h1=true
 | [],h1,_,hh=>by
  have e1:oW l.v (fV l.q l.F h1)=true:=by rw[h.2.1.ev hh,h.2.2];exact h.1
  have e2:Nat.testBit l.mask K=false:=Nat.testBit_lt_two_pow hl;show eI l ((K,m,h')::r) h1=true;unfold eI;rw[e2,aW,e1,aQ,hm,aQ]
 | (i,mm,h2)::rr,h1,hs,hh=>by
  have e1:oW l.v (fV l.q l.F h1)=true:=by rw[h.2.1.ev hh,h.2.2];exact h.1
  have e2:eI l (rr++(K,m,h')::r) h2=true:=aDq h hl hm (fun e he=>hs e (by simp [he])) (hs (i,mm,h2) (by simp));show eI l ((i,mm,h2)::(rr++(K,m,h')::r)) h1=true;unfold eI;rw[e1,e2];cases Nat.testBit l.mask i<;>cases Nat.testBit mm l.i<;>rfl
theorem aCv(m0:Nat){W:Nat→Prop}{ops pre suf:List AO}{K:Nat}{A:bH}{S:St}{Q:Out→bH→St→Prop}{R:Fr→St→List iJ→Prop}(he:ops=pre++suf)(hK:pre.length=K)(hm:(pre.all fun o=>decide (o.mask<2 ^ K))=true)(hI:((List.range K).all fun j=>match pre[j]? with | some o=> !hot o || Nat.testBit m0 j | none=>true)=true)
  (h:∀S1,Same S S1→S1.h=S.h→S1.nx=S.nx+ops.length→fK fns W S.h S.nx pre 0 A.F S1 [] none R)
  (h2:∀F S' ps hs ls,R F S' ps→iY hs m0=true→(∀h' r,fN S.h (hs.reverse++(K,m0,h')::r) ls=true)→yG fns suf K S.nx ⟨F,S',ps,hs,ls⟩ fun D'=>fN S.h D'.hs.reverse D'.ls=true∧Q .normal ⟨D'.F,A.inr⟩ ⟨(cF (2 ^ ops.length - 1) D'.ps D'.S.h).2,D'.S.nx⟩):iH fns (.drw ops) A S Q:=by
 refine qO ?_;obtain⟨n,D',e1,e2,e3⟩:=lG (fns:=fns) (i:=0) (D:=⟨A.F,⟨S.h,S.nx+ops.length⟩,[],[],[]⟩) (last:=none) ⟨fun _ _ _=>rfl,Av _ _,fun e he=>(by cases he),fun l hl=>(by cases hl),fun p hp=>(by cases hp)⟩ rfl (h ⟨S.h,S.nx+ops.length⟩ (Same.nx S _) rfl rfl);have low:Low K D':=aDK e1 (by omega) (fun o ho=>by have:=Cv.1 hm o ho;simpa using this) ⟨fun e he=>(by cases he),fun l hl=>(by cases hl)⟩;have idx:aJ6 (fun i=>Nat.testBit m0 i=true) D':=aGs e1 (fun j o hj ho=>by
  have hlt:j<K:=by rw[←hK];exact(Ai.1 hj).1
  have:=Cv.1 hI j (Dj.2 hlt);rw[hj] at this;simp only[ho,Cz,Bool.false_or] at this
  rwa [Ao]) ⟨fun e he=>(by cases he),fun l hl=>(by cases hl)⟩
 obtain⟨F,S',ps,hs,ls⟩:=D';have hh:=h2 F S' ps hs ls e2 (by
  cases hs with
  | nil=>rfl
  | cons e r=>exact idx.1 e (Bu ..)) (fun h' r=>nH fun l hl=>aDq (e3.lds l hl) (low.2 l hl).2 (idx.2 l hl) (fun e he=>e3.chain e (List.mem_reverse.1 he)) (fun _ _ _=>rfl))
 have:yG fns ops 0 S.nx ⟨A.F,⟨S.h,S.nx+ops.length⟩,[],[],[]⟩ fun D'=>fN S.h D'.hs.reverse D'.ls=true∧Q .normal ⟨D'.F,A.inr⟩ ⟨(cF (2 ^ ops.length - 1) D'.ps D'.S.h).2,D'.S.nx⟩:=by
  subst he;refine aIp ⟨n,_,e1,?_⟩;rw[Ao,hK];exact hh
 exact this
theorem aHM{t:Nat}{x:cL}{F:Fr}{id:Nat}{a b z0 z1:AV}(hx:x.val F= .agg [a,b]):uL (.bslice t 2 1 [z0,z1] [(0,x)]) F id=some (.sl id 0 1 1 false,.cells [a,b] false 0):=by
 show(aZ (eS (repeatL [z0,z1] 1) [(0 * 2,2,x.val F)]) fun cs=>some (AV.sl id 0 1 1 false,AB.cells cs false 0))=_;rw[hx];show(aZ (aZ (AV.cells (.agg [a,b])) _) _)=_;rw[bB,aK];rfl
theorem aLt{S:St}{t n:Nat}{cs:List AV}{o:Bool}{sz:Nat}(h:S.h.get t=some (.cells cs o sz))(hn:cs.length=n):fG (.sl t 0 1 1 false) S.h n 1=some cs:=by
 show aZ (cN S.h t) (fun c=>cut c 0 (1 * n))=_;unfold cN;rw[h];show cut cs 0 (1 * n)=some cs;unfold cut;rw[jE,jZ,Dk,Nat.one_mul,if_pos (by omega),Bb (by omega)]
end Go.Ev.Gl
