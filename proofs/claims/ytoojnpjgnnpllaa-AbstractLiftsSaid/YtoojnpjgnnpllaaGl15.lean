import Derived.Test.YtoojnpjgnnpllaaGl14
set_option maxHeartbeats 0
set_option linter.unusedSimpArgs false
set_option linter.unusedVariables false
namespace Go.Ev.Gl
variable {fns:T dY}
theorem uJ{cs e:bf}{p t:Nat}(hp:p+e.length<=cs.length):(cs.take p++e++cs.drop (p+e.length))[t]? =if t<p then cs[t]? else if t<p+e.length then e[t - p]? else cs[t]? :=by
 have hl:(cs.take p).length=p:=by rw[Ca];omega
 rw[Cj];by_cases h1:t<p
 ·rw[if_pos h1,Bg ar,Em h1]
 ·rw[if_neg h1,Be ar,hl];by_cases h2:t<p+e.length
  ·rw[if_pos h2,Bg ar]
  ·rw[if_neg h2,Be ar,Fd];congr 1;omega
theorem aE8{S:St}{b p sz:Nat}{cs e:bf}{o:Bool}(h:S.h.get b=some (.cells cs o sz))(hp:p+e.length<=cs.length):tN S b p e=some ⟨S.h.set b (some (.cells (cs.take p++e++cs.drop (p+e.length)) o sz)),S.nx⟩:=by
 simp only[tN,h,aL,aBJ,put_eq,if_pos hp]
theorem aLS{S:St}{b p sz n:Nat}{cs e:bf}{o:Bool}(h:S.h.get b=some (.cells cs o sz))(hp:p+e.length<=cs.length)(hn:e.length=n):sO (.ptr b p) n e S=some (.undef,⟨S.h.set b (some (.cells (cs.take p++e++cs.drop (p+e.length)) o sz)),S.nx⟩):=by
 simp only[sO,fS,hn,aE8 h hp];rw[show Nat.beq n n=true from Nat.beq_refl n,aR];subst hn;rfl
def sJ{α:Type}(k:Nat)(E:bf->α->Prop)(S0 X:St)(v:AV)(l:List α):Prop:=
 (v= .bw/\l= [])\/∃b c cs,v= .sl b 0 l.length c true/\l.length<=c/\cs.length=c * k/\S0.nx<=b/\b<X.nx/\X.h.get b=some (.cells cs true k)/\0<c/\∀ (i:Nat) (a:α),l[i]? =some a->∃e:bf,e.length=k/\(∀ (j:Nat) (x:AV),e[j]? =some x->cs[i * k+j]? =some x)/\E e a
section
variable {α:Type}{k:Nat}{E E':bf->α->Prop}{S0 X X':St}{v:AV}{l:List α}
theorem sJ.none:sJ k E S0 X .bw []:=.inl ⟨rfl,rfl⟩
theorem sJ.move(h:sJ k E S0 X v l)(hn:X.nx<=X'.nx)(hh:∀c,aZ v=some c->X'.h.get c=X.h.get c)(hE:∀e a,E e a->E' e a):sJ k E' S0 X' v l:=by
 rcases h with h | ⟨b,c,cs,rfl,h1,h2,h3,h4,h5,h6,h7⟩
 ·exact .inl h
 ·refine .inr ⟨b,c,cs,rfl,h1,h2,h3,Ae h4 hn,(hh b rfl).trans h5,h6,fun i a hi=>?_⟩;have⟨e,e1,e2,e3⟩:=h7 i a hi;exact⟨e,e1,e2,hE e a e3⟩
theorem sJ.blk(h:sJ k E S0 X v l){c:Nat}(hc:aZ v=some c):S0.nx<=c/\c<X.nx:=by
 rcases h with⟨rfl,_⟩ | ⟨b,c',cs,rfl,h1,h2,h3,h4,h5,h6,h7⟩
 ·cases hc
 ·cases hc;exact⟨h3,h4⟩
theorem sJ.is{E2:St->bf->α->Prop}(h:sJ k E S0 X v l)(hE:∀e a,E e a->E2 X e a):aE k E2 X v l:=by
 rcases h with⟨rfl,rfl⟩ | ⟨b,c,cs,rfl,h1,h2,h3,h4,h5,h6,h7⟩
 ·exact .inl ⟨rfl,.inl rfl⟩
 ·refine .inr ⟨b,0,c,true,cs,rfl,h1,h4,by unfold cK;rw[h5];rfl,fun i a hi=>?_⟩;have⟨e,e1,e2,e3⟩:=h7 i a hi;exact⟨e,e1,fun j x hj=>by rw[An];exact e2 j x hj,hE e a e3⟩
theorem sJ.cells(h:sJ k E S0 X v l):v.cells=some [v]:=by
 rcases h with⟨rfl,_⟩ | ⟨b,c,cs,rfl,_⟩<;>rfl
theorem sJ.self(h:sJ k E S0 X v l):cE v v=true:=by
 rcases h with⟨rfl,_⟩ | ⟨b,c,cs,rfl,_⟩
 ·rfl
 ·exact nH ..
theorem sJ.len(h:sJ k E S0 X v l):jJ v=some (.int .i64 (l.length:Int)):=by
 rcases h with⟨rfl,rfl⟩ | ⟨b,c,cs,rfl,_⟩<;>rfl
theorem sP{i j k q:Nat}(h:i<j)(hq:q<k):i * k+q<j * k:=by
 have:(i+1) * k<=j * k:=Dm k h;rw[Ec,Nat.one_mul] at this;omega
theorem sJ.push{bytes:Nat}{x:AV}{e:bf}{a:α}(h:sJ k E S0 X v l)(hk:0<k)(hS:S0.nx<=X.nx)(hl:mL x=some 1)(hs:eY x X.h k 1=some e)(he:e.length=k)(hE:E e a)(h1:l.length+1<=room)(h2:(l.length+1) * bytes<=room):
  ∃v' X',gP bytes k v x X=some (v',X')/\sJ k E S0 X' v' (l++ [a])/\X.nx<=X'.nx/\(∀c,c<X.nx->aZ v≠some c->X'.h.get c=X.h.get c)/\(∀c,aZ v'=some c->aZ v=some c\/X.nx<=c):=by
 rcases h with⟨rfl,rfl⟩ | ⟨b,c,cs,rfl,g1,g2,g3,g4,g5,g6,g7⟩
 ·refine⟨.sl X.nx 0 1 1 true,⟨X.h.set X.nx (some (.cells e true k)),X.nx+1⟩,?_,.inr ⟨X.nx,1,e,rfl,Ag _,by rw[he,Nat.one_mul],hS,by simp,fk,Nat.one_pos,fun i a' hi=>?_⟩,by simp,fun c hc _=>(Same.alloc X _).2 c hc,fun c hc=>by cases hc;exact .inr (Ag _)⟩
  ·show(bC (mL x) fun j=>bC (eY x X.h k j) fun new=>aD1 .bw bytes k j new X)=_;rw[hl,aL,hs,aL];show tO bytes k 1 e X=_;have h1':1<=room:=by simpa using h1
   have h2':1 * bytes<=room:=by simpa using h2
   unfold tO;rw[show Nat.beq 1 0=false from rfl,bB,Av h1',aR,Av h2',aR];rfl
  ·cases i with
   | zero=>
    simp at hi;subst hi;exact⟨e,he,fun j y hj=>by rw[Ep,An];exact hj,hE⟩
   | succ i=>simp at hi
 ·by_cases hc:l.length+1<=c
  ·have hp:l.length * k+e.length<=cs.length:=by
    rw[he,g2,<-Fe];exact Dm k hc
   refine⟨.sl b 0 (l.length+1) c true,⟨X.h.set b (some (.cells (cs.take (l.length * k)++e++cs.drop (l.length * k+e.length)) true k)),X.nx⟩,?_,.inr ⟨b,c,cs.take (l.length * k)++e++cs.drop (l.length * k+e.length),by rw[Ao,Bl],by rw[Ao,Bl];exact hc,by simp;omega,g3,g4,fk,g6,fun i a' hi=>?_⟩,Ag _,fun c' _ hne=>?_,fun c' hc'=>.inl hc'⟩
   ·show(bC (mL x) fun j=>bC (eY x X.h k j) fun new=>aD1 (.sl b 0 l.length c true) bytes k j new X)=_;rw[hl,aL,hs,aL];show qF bytes k b 0 l.length c true 1 e X=_;unfold qF;rw[Av hc,aR,show Nat.beq 1 0=false from rfl,bB,An,aE8 g5 hp,aL]
   ·rw[En] at hi;split at hi
    ·rename_i hlt;have⟨e',e1,e2,e3⟩:=g7 i a' hi;refine⟨e',e1,fun j y hj=>?_,e3⟩;have hjk:j<k:=by rw[<-e1];exact(Ai.1 hj).1
     rw[uJ hp,if_pos (sP hlt hjk)];exact e2 j y hj
    ·rename_i hlt;have h0:i - l.length=0:=by
      rcases Dh (i - l.length) with h0 | h0
      ·exact h0
      ·rw[Cd (by simp;omega)] at hi;cases hi
     rw[h0] at hi;cases hi;have hil:i=l.length:=by omega
     subst hil;refine⟨e,he,fun j y hj=>?_,hE⟩;have hjk:j<e.length:=(Ai.1 hj).1;rw[uJ hp,if_neg ar,if_pos ar,Nat.add_sub_cancel_left];exact hj
   ·simp only;rw[di,if_neg (fun e=>hne (by rw[e];rfl))]
  ·obtain rfl:c=l.length:=by omega
   refine⟨.sl X.nx 0 (l.length+1) (l.length+1) true,⟨(X.h.set b Option.none).set X.nx (some (.cells (cs++e) true k)),X.nx+1⟩,?_,.inr ⟨X.nx,l.length+1,cs++e,by rw[Ao,Bl],by rw[Ao,Bl];exact Ag _,by rw[Ao,g2,he,Fe],hS,by simp,fk,ar,fun i a' hi=>?_⟩,by simp,fun c' hc' hne=>?_,fun c' hc'=>by cases hc';exact .inr (Ag _)⟩
   ·show(bC (mL x) fun j=>bC (eY x X.h k j) fun new=>aD1 (.sl b 0 l.length l.length true) bytes k j new X)=_;rw[hl,aL,hs,aL];show qF bytes k b 0 l.length l.length true 1 e X=_;unfold qF;have e2:Nat.ble (l.length+1) l.length=false:=by rw[Ei];intro h;have:=Bd h;omega
    rw[e2,bB,Av h1,aR,Av h2,aR,g5,aL];have e3:cut cs 0 (l.length * k)=some cs:=by
     unfold cut;rw[iF,iX,Dx,if_pos ar,Bb ar]
    have e4:Nat.beq (0+l.length * k) (mC cs)=true:=by rw[fS,g2,Bj];omega
    have e5:Nat.beq k k=true:=Nat.beq_refl k;simp only[aCc,e3,aL,aR,e4,e5,grown,gE]
   ·rw[En] at hi;split at hi
    ·rename_i hlt;have⟨e',e1,e2,e3⟩:=g7 i a' hi;refine⟨e',e1,fun j y hj=>?_,e3⟩;have hjk:j<k:=by rw[<-e1];exact(Ai.1 hj).1
     rw[Bg (by rw[g2];exact sP hlt hjk)];exact e2 j y hj
    ·rename_i hlt;have h0:i - l.length=0:=by
      rcases Dh (i - l.length) with h0 | h0
      ·exact h0
      ·rw[Cd (by simp;omega)] at hi;cases hi
     rw[h0] at hi;cases hi;have hil:i=l.length:=by omega
     subst hil;refine⟨e,he,fun j y hj=>?_,hE⟩;rw[Be ar,g2,Nat.add_sub_cancel_left];exact hj
   ·simp only;have:c'≠b:=fun e=>hne (by rw[e];rfl);rw[di,if_neg ar,di,if_neg this]
end
structure Mk where
 lvl:AV
 va:AV
 na:AV
 ia:AV
 lv:AV
 most:Int
 pend:Int
 ps:Int
 zero:Bool
 small:Bool
 dl:ba
 bh:List dP
 bj:List oJ
 views:List (Int×Int×Int)
def aNF(cs:bf)(a:oJ):Prop:=cs= [.int .i64 a.player,.int .i64 a.bt]
section
variable {P:Nat->Prop}{S0 X X':St}{mb db:Nat}{m m':Mk}{LV:List (Int×Int×Int)}
end
def hot(o:AO):Bool:=match o.op with | .q q=>dN q | .a _=>false | .x _=>true
def aMM(I:Nat->Prop)(D:DS):Prop:=(∀e∈D.hs,I e.1)/\∀l∈D.ls,I l.i
theorem aNe{I:Nat->Prop}{call:fA}{o:AO}{i base:Nat}{D D':DS}(h:tW o i base call D=some D')(hi:hot o=true->I i)(hD:aMM I D):aMM I D':=by
 unfold tW at h;cases hw:eS o.grd D.F with
 | false=>rw[hw,bB] at h;cases h;exact hD
 | true=>
  rw[hw,aR] at h;have⟨d,op,g,m⟩:=o;cases op with
  | q q=>
   have h:bC (gM q D.F D.S.h) (fun v=>some (⟨cM d D.F v,D.S,D.ps,D.hs,bQ (dN q) (⟨q,D.F,v,i,m⟩::D.ls) D.ls⟩:DS))=some D':=h;cases he:gM q D.F D.S.h with
   | none=>rw[he] at h;cases h
   | some v=>
    rw[he,aL] at h;cases h;refine⟨hD.1,fun l hl=>?_⟩;simp only at hl;cases hq:dN q with
    | false=>rw[hq,bB] at hl;exact hD.2 l hl
    | true=>
     rw[hq,aR] at hl;rcases Bs.1 hl with rfl | hl
     ·exact hi hq
     ·exact hD.2 l hl
  | a a=>
   have h:bC (uW a D.F (base+i)) (fun r=>some (⟨cM d D.F r.1,D.S,⟨i,base+i,r.2⟩::D.ps,D.hs,D.ls⟩:DS))=some D':=h;cases he:uW a D.F (base+i) with
   | none=>rw[he] at h;cases h
   | some v=>rw[he,aL] at h;cases h;exact hD
  | x x=>
   have h:bQ (jU D.hs m) (bC (evX x call D.F ⟨(cJ m D.ps D.S.h).2,D.S.nx⟩) fun r=>some (⟨cM d D.F r.1,r.2,(cJ m D.ps D.S.h).1,(i,m,r.2.h)::D.hs,D.ls⟩:DS)) none=some D':=h;cases hl:jU D.hs m with
   | false=>rw[hl,bB] at h;cases h
   | true=>
    rw[hl,aR] at h;cases he:evX x call D.F ⟨(cJ m D.ps D.S.h).2,D.S.nx⟩ with
    | none=>rw[he] at h;cases h
    | some v=>
     rw[he,aL] at h;cases h;refine⟨fun e he=>?_,hD.2⟩;rcases Bs.1 he with rfl | he
     ·exact hi rfl
     ·exact hD.1 e he
theorem aGH{I:Nat->Prop}{call:fA}{base:Nat}:∀ {l:List AO} {i:Nat} {D D':DS},wL l i base call D=some D'->(∀j o,l[j]? =some o->hot o=true->I (i+j))->aMM I D->aMM I D'
 | [],i,D,D',h,_,hD=>by cases h;exact hD
 | o::os,i,D,D',h,hI,hD=>by
  have h:bC (tW o i base call D) (fun D'=>wL os (i+1) base call D')=some D':=h;cases he:tW o i base call D with
  | none=>rw[he] at h;cases h
  | some D1=>
   rw[he,aL] at h;exact aGH h (fun j o' hj ho=>by have:=hI (j+1) o' hj ho;rwa [show i+1+j=i+(j+1) by omega]) (aNe he (fun ho=>hI 0 o rfl ho) hD)
theorem aEH{W:Nat->Prop}{h0:T AB}{base K m:Nat}{h':T AB}{r:List (Nat×Nat×T AB)}{l:mR}(h:cE l.v l.v=true/\aBz W base l.q l.F/\gM l.q l.F h0=some l.v)(hl:l.mask<2 ^ K)(hm:Nat.testBit m l.i=true):∀ {hs:List (Nat×Nat×T AB)} {h1:T AB},(∀e∈hs,∀b,b<base->¬W b->e.2.2.get b=h0.get b)->(∀b,b<base->¬W b->h1.get b=h0.get b)->eI l (hs++(K,m,h')::r) h1=true
 | [],h1,_,hh=>by
  have e1:qI l.v (gM l.q l.F h1)=true:=by rw[h.2.1.ev hh,h.2.2];exact h.1
  have e2:Nat.testBit l.mask K=false:=Nat.testBit_lt_two_pow hl;show eI l ((K,m,h')::r) h1=true;unfold eI;rw[e2,bB,e1,aR,hm,aR]
 | (i,mm,h2)::rr,h1,hs,hh=>by
  have e1:qI l.v (gM l.q l.F h1)=true:=by rw[h.2.1.ev hh,h.2.2];exact h.1
  have e2:eI l (rr++(K,m,h')::r) h2=true:=aEH h hl hm (fun e he=>hs e (by simp [he])) (hs (i,mm,h2) (by simp));show eI l ((i,mm,h2)::(rr++(K,m,h')::r)) h1=true;unfold eI;rw[e1,e2];cases Nat.testBit l.mask i<;>cases Nat.testBit mm l.i<;>rfl
theorem aDJ(m0:Nat){W:Nat->Prop}{ops pre suf:List AO}{K:Nat}{A:bG}{S:St}{Q:Out->bG->St->Prop}{R:Fr->St->List iQ->Prop}(he:ops=pre++suf)(hK:pre.length=K)(hm:(pre.all fun o=>decide (o.mask<2 ^ K))=true)(hI:((List.range K).all fun j=>match pre[j]? with | some o=> !hot o || Nat.testBit m0 j | none=>true)=true)
  (h:∀S1,Same S S1->S1.h=S.h->S1.nx=S.nx+ops.length->fF fns W S.h S.nx pre 0 A.F S1 [] none R)
  (h2:∀F S' ps hs ls,R F S' ps->jU hs m0=true->(∀h' r,fV S.h (hs.reverse++(K,m0,h')::r) ls=true)->zU fns suf K S.nx ⟨F,S',ps,hs,ls⟩ fun D'=>fV S.h D'.hs.reverse D'.ls=true/\Q .normal ⟨D'.F,A.inr⟩ ⟨(cJ (2 ^ ops.length - 1) D'.ps D'.S.h).2,D'.S.nx⟩):iM fns (.drw ops) A S Q:=by
 refine tI ?_;have⟨n,D',e1,e2,e3⟩:=mE (fns:=fns) (i:=0) (D:=⟨A.F,⟨S.h,S.nx+ops.length⟩,[],[],[]⟩) (last:=none) ⟨fun _ _ _=>rfl,Ba _ _,fun e he=>(by cases he),fun l hl=>(by cases hl),fun p hp=>(by cases hp)⟩ rfl (h ⟨S.h,S.nx+ops.length⟩ (Same.nx S _) rfl rfl);have low:Low K D':=aEL e1 ar (fun o ho=>by have:=Di.1 hm o ho;simpa using this) ⟨fun e he=>(by cases he),fun l hl=>(by cases hl)⟩;have idx:aMM (fun i=>Nat.testBit m0 i=true) D':=aGH e1 (fun j o hj ho=>by
  have hlt:j<K:=by rw[<-hK];exact(Ai.1 hj).1
  have:=Di.1 hI j (Da.2 hlt);rw[hj] at this;simp only[ho,Cc,Bool.false_or] at this
  rwa [An]) ⟨fun e he=>(by cases he),fun l hl=>(by cases hl)⟩
 have⟨F,S',ps,hs,ls⟩:=D';have hh:=h2 F S' ps hs ls e2 (by
  cases hs with
  | nil=>rfl
  | cons e r=>exact idx.1 e (Bv ..)) (fun h' r=>oR fun l hl=>aEH (e3.lds l hl) (low.2 l hl).2 (idx.2 l hl) (fun e he=>e3.chain e (List.mem_reverse.1 he)) (fun _ _ _=>rfl))
 have:zU fns ops 0 S.nx ⟨A.F,⟨S.h,S.nx+ops.length⟩,[],[],[]⟩ fun D'=>fV S.h D'.hs.reverse D'.ls=true/\Q .normal ⟨D'.F,A.inr⟩ ⟨(cJ (2 ^ ops.length - 1) D'.ps D'.S.h).2,D'.S.nx⟩:=by
  subst he;refine aJT ⟨n,_,e1,?_⟩;rw[An,hK];exact hh
 exact this
theorem aPN{t:Nat}{x:cO}{F:Fr}{id:Nat}{a b c z0 z1 z2:AV}(hx:x.val F= .agg [a,b,c]):uW (.cj t 3 1 [z0,z1,z2] [(0,x)]) F id=some (.sl id 0 1 1 false,.cells [a,b,c] false 0):=by
 show(bC (eQ (repeatL [z0,z1,z2] 1) [(0 * 3,3,x.val F)]) fun cs=>some (AV.sl id 0 1 1 false,AB.cells cs false 0))=_;rw[hx];show(bC (bC (AV.cells (.agg [a,b,c])) _) _)=_;rw[aY,aL];rfl
theorem aI1{t:Nat}{x:cO}{F:Fr}{id:Nat}{a b z0 z1:AV}(hx:x.val F= .agg [a,b]):uW (.cj t 2 1 [z0,z1] [(0,x)]) F id=some (.sl id 0 1 1 false,.cells [a,b] false 0):=by
 show(bC (eQ (repeatL [z0,z1] 1) [(0 * 2,2,x.val F)]) fun cs=>some (AV.sl id 0 1 1 false,AB.cells cs false 0))=_;rw[hx];show(bC (bC (AV.cells (.agg [a,b])) _) _)=_;rw[aY,aL];rfl
theorem aNk{S:St}{t n:Nat}{cs:bf}{o:Bool}{sz:Nat}(h:S.h.get t=some (.cells cs o sz))(hn:cs.length=n):eY (.sl t 0 1 1 false) S.h n 1=some cs:=by
 show bC (cK S.h t) (fun c=>cut c 0 (1 * n))=_;unfold cK;rw[h];show cut cs 0 (1 * n)=some cs;unfold cut;rw[iF,iX,Dx,Nat.one_mul,if_pos ar,Bb ar]
end Go.Ev.Gl
