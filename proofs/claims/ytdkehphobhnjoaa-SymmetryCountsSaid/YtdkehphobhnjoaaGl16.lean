import Derived.Test.YtdkehphobhnjoaaGl15
open Nat renaming reduceEqDiff -> rE, reduceAdd -> rA
set_option maxHeartbeats 0
set_option linter.unusedSimpArgs false
set_option linter.unusedVariables false
namespace Go.Ev.Gl
variable {fns:T dU}
noncomputable def aPh:List AO:=[mt 64 0,
mt 65 0,
om 66 2 (.cg (.t 65)),
om 67 6 (.cr 2 (.t 66)),
om 68 14 (ld 67),
mt 69 0,
om 70 32 (.cg (.t 69)),
om 71 96 (.cr 2 (.t 70)),
om 72 224 (ld 71),
om 73 480 (.cq (.t 72)),
om 74 992 (bi .sub (.t 73) (ci 1)),
om 75 2046 (.slc (.slice 4) (.t 68) none (some (.t 74)) none),
om 76 4095 (.cg (.t 64)),
om 77 8191 (.cr 2 (.t 76))]
def aBz(m:Mk)(info:Int):Prop:=∃x∈m.bk,x.kind=2/\x.info=info
def DpI(mb:Nat)(X:St)(m:Mk)(info:Int)(k:Nat)(A:bS)(Y:St):Prop:=A.inr=false/\Y=X/\∃i:Nat,i+k=m.bk.length/\(∀j x,j<i->m.bk[j]? =some x->¬ (x.kind=2/\x.info=info))/\aD 0 A.F= .ptr mb 0/\aD 1 A.F= .int .i64 info/\aD 6 A.F= .int .i64 (i:Int)
theorem aKv{P:Nat->Prop}{S0 X:St}{mb db:Nat}{m:Mk}{LV:List (Int×Int×Int)}{pl info:Int}(H:Has fns)(hM:mS P S0 X mb db m LV)(h0:0<=info)(hvl:m.views.length=m.bn.length)(hi:m.bn.length<=100000)(hnl:m.bk.length<=100000):
  gH fns (.fn 87 [] []) [.ptr mb 0,.int .i64 info,.int .i64 pl] X fun _ Z=>((pl<0\/info≠(m.bn.length:Int) - 1\/aBz m info)/\Z=X)\/(0<=pl/\info=(m.bn.length:Int) - 1/\¬aBz m info/\∃va' ia',mS P S0 Z mb db {m with va:=va',ia:=ia',views:=m.views.dropLast,bn:=m.bn.dropLast} LV/\fP mb db m X {m with va:=va',ia:=ia',views:=m.views.dropLast,bn:=m.bn.dropLast} Z):=by
 have f9:=cV (p:=9) hM.g rfl;have f8:=cV (p:=8) hM.g rfl;have hil:=hM.p.inf.len;have wI:IntKind.i64.wrap ((m.bn.length:Int) - 1)=(m.bn.length:Int) - 1:=wrap_i64 ay ay;refine cF H.f87 (by simp) ?_;refine af ?_;refine fE ?_;by_cases hp:pl<0
 ·refine cm (Ab hp) ?_;refine aM (ag) (aR ?_);refine af ?_;exact .inl (.inl hp)
 by_cases hn:info=(m.bn.length:Int) - 1;rotate_left
 ·refine dy (Aa hp) @aY @bB @aF @aE f9 hil wI ?_;refine aM (fg (Ab (show info≠(m.bn.length:Int) - 1 from hn))) (aR ?_);refine af ?_;exact .inl (.inr (.inl hn))
 refine dy (Aa hp) @aY @bB @aF @aE f9 hil wI ?_;refine aK (fg (Aa (show ¬info≠(m.bn.length:Int) - 1 from fun h=>h hn))) (aH ?_);refine af ?_;obtain⟨n,rfl⟩:∃n:Nat,info=(n:Int):=⟨info.toNat,ay⟩;have hin:m.bn.length=n+1:=by omega
 have hvn:m.views.length=n+1:=by omega
 refine aA (aW (Q:=fun o A' Z=>(o= .normal/\A'.inr=false/\Z=X/\¬aBz m (n:Int)/\aD 0 A'.F= .ptr mb 0/\aD 1 A'.F= .int .i64 (n:Int))\/(o= .ret/\Z=X/\aBz m (n:Int))) (aA (aG ?_)) ?_)
 ·refine af ?_;refine aL (bK (DpI mb X m (n:Int)) ?_ m.bk.length _ _ ⟨rfl,rfl,0,ay,fun j x hj=>absurd hj (Cf j),ag,ag,ah⟩);rintro k ⟨F,inr⟩ Y ⟨q0,hYX,i,hik,hno,p0,p1,p6⟩;simp only at q0 p0 p1 p6;subst q0;rw[hYX];clear hYX Y;refine fE (dy p0 p6 @aY @bB @aF @aE f8 hM.p.nod.len ?_);by_cases hlt:i<m.bk.length;rotate_left
  ·refine aK fe (bG ?_);refine af ?_;refine .inl ⟨?_,p0,p1⟩;rintro⟨x,hx,hk⟩;have⟨j,hj⟩:=List.mem_iff_getElem?.1 hx;exact hno j x (by have:=(Aj.1 hj).1;omega) hj hk
  refine aM fe (aH ?_);refine af ?_;have hvi:m.bk[i]? =some m.bk[i]:=Ac hlt;have hN:aP 6 cI X m.na m.bk:=hM.p.nod.is fun e a ⟨xa,xw,xp,h1,h2,h3,h4,_⟩=>⟨xa,xw,xp,h1,h2,h3,h4⟩;obtain⟨_,bx,qx,hiax,hbx,_,⟨xa,xw,xp,rfl,hxa,hxw,hxp⟩,hldx,hfx⟩:=aP.at hN bg hvi;have l0:=hfx 0 _ rfl;have l2:=hfx 2 _ rfl;have w1:=dc i
  have again:¬ ((m.bk[i]).kind=2/\(m.bk[i]).info=(n:Int))->∀ {F':Fr},aD 0 F'= .ptr mb 0->aD 1 F'= .int .i64 (n:Int)->aD 6 F'= .int .i64 (((i+1:Nat)):Int)->∃x<k,DpI mb X m (n:Int) x ⟨F',false⟩ X:=fun hne {F'} a0 a1 a6=>⟨k - 1,ay,rfl,rfl,i+1,ay,fun j x hj hx=>by
   by_cases e:j=i
   ·subst e;rw[hvi] at hx;cases hx;exact hne
   ·exact hno j x ay hx,a0,a1,a6⟩
  refine aA (aL (aA (aG ?_)));by_cases c1:(m.bk[i]).kind=2;rotate_left
  ·simp only[↓sU,sD,rE,↓reduceIte,rA,p0,p6,aY,bB,aF,aE,f8,aJ,hiax,l0,Aa c1];refine aK (ag) (aH ?_);refine af ?_;refine aG (df p6 w1 ?_);exact again (fun h=>c1 h.1) (ai p0) (ai p1) (ag)
  simp only[↓sU,sD,rE,↓reduceIte,rA,p0,p1,p6,aY,bB,aF,aE,f8,aJ,hiax,l0,l2,Ab c1];by_cases c2:(m.bk[i]).info=(n:Int)
  ·refine aM (fg (Ab c2)) (aR ?_);refine af ?_;exact .inr ⟨_,Bo hlt,c1,c2⟩
  ·refine aK (fg (Aa c2)) (aH ?_);refine af ?_;refine aG (df p6 w1 ?_);exact again (fun h=>c2 h.2) (ai p0) (ai p1) (ag)
 rintro o ⟨F,inr⟩ Z (⟨rfl,q0,hZX,hno,p0,p1⟩ | ⟨rfl,hZX,hu⟩);rotate_left
 ·refine af ?_;exact .inl ⟨.inr (.inr hu),hZX⟩
 simp only at q0 p0 p1;subst q0;rw[hZX];clear hZX Z;refine af ?_;have⟨ia',e1,aI,bI⟩:=hM.p.inf.shrink hin;have⟨kP,kM⟩:=hM.p.pushI (X':=X) (Ag _) (fun _ _ _=>rfl) (fun c hc=>.inl (by rw[<-bI];exact hc)) aI;have hsl:=fun(F:Fr) (h:aD 59 F= .int .i64 (n:Int))=>e1 F (.t 59) (by show fG (aD 59 F)=_;rw[h];exact aJ _ _);refine bQ (dy p0 p1 @aY @bB @aF @aE f9 hsl ?_);refine fD (v:=.undef) (S1:=⟨X.h.set mb (some (.cells (eI db {m with ia:=ia',bn:=m.bn.dropLast}) false 0)),X.nx⟩) (fun call=>by refine df @dS aI.cells ?_;exact stc (cs:=eI db m) (p:=9) (S:=X) hM.g (ay:9<10)) ?_;refine af ?_;obtain⟨Z,hZ⟩:∃Z:St,Z=⟨X.h.set mb (some (.cells (eI db {m with ia:=ia',bn:=m.bn.dropLast}) false 0)),X.nx⟩:=⟨_,rfl⟩;have hMZ:mS P S0 Z mb db {m with ia:=ia',bn:=m.bn.dropLast} LV:=kP.put (by rw[hZ];simp only;rw[dd,if_pos rfl]) (by rw[hZ];exact Ag _) fun c _ hne=>by rw[hZ];simp only;rw[dd,if_neg hne]
 have kZ:fP mb db m X {m with ia:=ia',bn:=m.bn.dropLast} Z:=kM.trans (by rw[hZ];exact fP.put);rw[<-hZ];have f2:=cV (p:=2) hMZ.g rfl;have hvn':(({m with ia:=ia',bn:=m.bn.dropLast}:Mk).views).length=n+1:=hvn;have hvlen:=hMZ.p.vw.len;have sva:=hMZ.p.vw.self;rw[hvn'] at hvlen;have wV:IntKind.i64.wrap (((n+1:Nat):Int) - 1)=(n:Int):=by rw[wrap_i64 ay ay];omega
 have hM2:mS P S0 ⟨Z.h,Z.nx+15⟩ mb db {m with ia:=ia',bn:=m.bn.dropLast} LV:=hMZ.same (Same.nx Z 15);have⟨va',e2,aV,bV⟩:=hM2.p.vw.shrink hvn';have⟨kP2,kM2⟩:=hM2.p.pushV (X':=⟨Z.h,Z.nx+15⟩) (Ag _) (fun _ _ _=>rfl) (fun c hc=>.inl (by rw[<-bV];exact hc)) aV;have hsv:=fun(F:Fr) (h:aD 74 F= .int .i64 (n:Int))=>e2 F (.t 74) (by show fG (aD 74 F)=_;rw[h];exact aJ _ _);refine oY (pre:=aPh) (K:=14) (m:=16383) (n:=1) (x:=.t 77) (v:=.t 75) rfl rfl rfl rfl ?_;unfold aPh;simp only[↓sU,sD,rE,↓reduceIte,rA,p0,aY,bN,bB,aF,aU,aE,f2,sva,hvlen,wV,hsv];rw[aV.cells,aN];refine⟨_,stc (cs:=eI db {m with ia:=ia',bn:=m.bn.dropLast}) (p:=2) (S:=⟨Z.h,Z.nx+15⟩) hM2.g (ay:2<10),_,rfl,.inr ⟨ay,ay,hno,va',ia',kP2.put (by simp only;rw[dd,if_pos rfl];rfl) (Ag _) fun c _ hne=>by simp only;rw[dd,if_neg hne],?_⟩⟩;exact((kZ.trans (fP.same (Same.nx Z 15))).trans kM2).trans fP.put
inductive fQ:List (Option Nat)->Nat->Prop
 | nil:fQ [] 0
 | none {l:List (Option Nat)} {n:Nat}:fQ l n->fQ (l++ [Option.none]) n
 | old {l:List (Option Nat)} {n i:Nat}:fQ l n->i<n->fQ (l++ [some i]) n
 | new {l:List (Option Nat)} {n:Nat}:fQ l n->fQ (l++ [some n]) (n+1)
def wH:List (Option Nat)->Nat->Nat->Nat
 | [],_,_=>0
 | b::l,s,i=>if b=some i then s+1 else wH l (s+1) i
theorem aJp:∀ {l:List (Option Nat)} {s i:Nat},wH l s i<=s+l.length
 | [],s,i=>Da _
 | b::l,s,i=>by
  unfold wH;split
  ·simp
  ·have:=aJp (l:=l) (s:=s+1) (i:=i);rw[Aw];omega
theorem gG:∀ {l:List (Option Nat)} {s i:Nat} {b:Option Nat},wH (l++ [b]) s i=if wH l s i≠0 then wH l s i else if b=some i then s+l.length+1 else 0
 | [],s,i,b=>by simp [wH]
 | c::l,s,i,b=>by
  show wH (c::(l++ [b])) s i=_;unfold wH;by_cases h:c=some i
  ·rw[if_pos h,if_pos h,if_pos ay]
  ·rw[if_neg h,if_neg h,gG (l:=l) (s:=s+1),Aw];split
   ·rfl
   ·split
    ·omega
    ·rfl
theorem aMw{l:List (Option Nat)}{n:Nat}(h:fQ l n):∀i,n<=i->wH l 0 i=0:=by
 induction h with
 | nil=>intro i _;rfl
 | none _ ih=>intro i hi;rw[gG,ih i hi];simp
 | old _ hlt ih=>intro i hi;rw[gG,ih i hi];simp;omega
 | new _ ih=>intro i hi;rw[gG,ih i ay];simp;omega
theorem aKn{l:List (Option Nat)}{n:Nat}(h:fQ l n):(∀i,i<n->wH l 0 i≠0)/\∀i,i+1<n->wH l 0 i<wH l 0 (i+1):=by
 induction h with
 | nil=>exact⟨fun i hi=>absurd hi (Cf i),fun i hi=>absurd hi ay⟩
 | none _ ih=>exact⟨fun i hi=>by rw[gG,if_pos (ih.1 i hi)];exact ih.1 i hi,fun i hi=>by rw[gG,gG,if_pos (ih.1 i ay),if_pos (ih.1 (i+1) hi)];exact ih.2 i hi⟩
 | old _ _ ih=>exact⟨fun i hi=>by rw[gG,if_pos (ih.1 i hi)];exact ih.1 i hi,fun i hi=>by rw[gG,gG,if_pos (ih.1 i ay),if_pos (ih.1 (i+1) hi)];exact ih.2 i hi⟩
 | @new l n ho ih=>
  refine⟨fun i hi=>?_,fun i hi=>?_⟩
  ·by_cases e:i<n
   ·rw[gG,if_pos (ih.1 i e)];exact ih.1 i e
   ·obtain rfl:i=n:=by omega
    rw[gG,aMw ho i (Ag _),if_neg (fun h=>h rfl),if_pos rfl];omega
  ·by_cases e:i+1<n
   ·rw[gG,gG,if_pos (ih.1 i ay),if_pos (ih.1 (i+1) e)];exact ih.2 i e
   ·obtain rfl:n=i+1:=by omega
    rw[gG,gG,if_pos (ih.1 i ay),aMw ho (i+1) (Ag _),if_neg (fun h=>h rfl),if_pos rfl];have:=aJp (l:=l) (s:=0) (i:=i);omega
def yO(x:cP):Option Nat:=if x.kind=2 then some x.info.toNat else Option.none
theorem aDr:∀ {l:List cP} {s i:Nat},(∀x∈l,x.kind=2->0<=x.info)->wH (l.map yO) s i=lF l s i
 | [],_,_,_=>rfl
 | x::l,s,i,h=>by
  have ih:=aDr (l:=l) (s:=s+1) (i:=i) fun y hy=>h y (Bj _ hy);show(if yO x=some i then s+1 else wH (l.map yO) (s+1) i)=if x.kind=2/\x.info=(i:Int) then s+1 else lF l (s+1) i;rw[ih];have h0:=h x (Br ..);by_cases hk:x.kind=2
  ·have h0:=h0 hk;have e:(yO x=some i)↔(x.kind=2/\x.info=(i:Int)):=by
    unfold yO;rw[if_pos hk,Ao];constructor
    ·intro e;exact⟨hk,ay⟩
    ·rintro⟨_,e⟩;omega
   by_cases h1:yO x=some i
   ·rw[if_pos h1,if_pos (e.1 h1)]
   ·rw[if_neg h1,if_neg (fun h=>h1 (e.2 h))]
  ·have h1:yO x≠some i:=by unfold yO;rw[if_neg hk];intro h;cases h
   rw[if_neg h1,if_neg (fun h=>hk h.1)]
def rX(k at_:Nat)(B:List cP):Prop:=0<B.length/\∀ (N:Nat) (nx:Nat->bu),at_+B.length<=N->(∀i x,B[i]? =some x->nx (at_+i)=x.next)->∀f p d,B.length<=f->∃L,eJ N nx f at_ p d=some L/\L.length=B.length/\∀t∈L,t.2.1<=d+(k:Int)
def aEc(k at_:Nat)(cs:bu)(C:List cP):Prop:=∀ (N:Nat) (nx:Nat->bu),at_+C.length<=N->(∀i x,C[i]? =some x->nx (at_+i)=x.next)->∀f p d,C.length<=f->∃L,fH (fun r=>eJ N nx f r p d) cs at_=some L/\L.length=C.length/\∀t∈L,t.2.1<=d+(k:Int)
theorem aEc.nil{k at_:Nat}:aEc k at_ [] []:=fun N nx _ _ f p d _=>⟨[],rfl,rfl,fun t ht=>by cases ht⟩
theorem aDW{rec:Nat->Option (List cK)}{c:Int}:∀ {cs:bu} {r:Nat} {L M:List cK},fH rec cs r=some L->c=((r+L.length:Nat):Int)->rec (r+L.length)=some M->fH rec (cs++ [c]) r=some (L++M)
 | [],r,L,M,h,hc,hM=>by
  cases h;have hc:c=(r:Int):=hc;have hM:rec r=some M:=hM;show(if c=(r:Int) then(rec r).bind fun L1=>(fH rec [] (r+L1.length)).map (L1++ ·) else Option.none)=_;rw[if_pos hc,hM];show some (M++ [])=some ([]++M);rw[Bi,Bq]
 | b::cs,r,L,M,h,hc,hM=>by
  have h:(if b=(r:Int) then(rec r).bind fun L1=>(fH rec cs (r+L1.length)).map (L1++ ·) else Option.none)=some L:=h;show(if b=(r:Int) then(rec r).bind fun L1=>(fH rec (cs++ [c]) (r+L1.length)).map (L1++ ·) else Option.none)=_;by_cases hb:b=(r:Int)
  ·rw[if_pos hb] at h ⊢;cases h1:rec r with
   | none=>rw[h1] at h;cases h
   | some L1=>
    rw[h1] at h;have h:(fH rec cs (r+L1.length)).map (L1++ ·)=some L:=h;cases h2:fH rec cs (r+L1.length) with
    | none=>rw[h2] at h;cases h
    | some L2=>
     rw[h2] at h;have h:some (L1++L2)=some L:=h;cases h;rw[Ai] at hc hM;have:=aDW (rec:=rec) (c:=c) (M:=M) h2 (by rw[hc];congr 1;omega) (by rw[<-hM];congr 1;omega);show((fH rec (cs++ [c]) (r+L1.length)).map (L1++ ·))=_;rw[this];show some (L1++(L2++M))=_;rw[Bd]
  ·rw[if_neg hb] at h;cases h
theorem aEc.snoc{k at_:Nat}{cs:bu}{C B:List cP}(h:aEc k at_ cs C)(hB:rX k (at_+C.length) B):aEc k at_ (cs++ [((at_+C.length:Nat):Int)]) (C++B):=by
 intro N nx hN hnx f p d hf;rw[Ai] at hN hf;have⟨L,h1,h2,h3⟩:=h N nx ay (fun i x hi=>hnx i x (by rw[Al (Aj.1 hi).1];exact hi)) f p d ay;have⟨M,g1,g2,g3⟩:=hB.2 N nx ay (fun i x hi=>by
  have:=hnx (C.length+i) x (by rw[Am ay,Ep];exact hi);rw[<-this];congr 1;omega) f p d ay
 refine⟨L++M,aDW h1 (by rw[h2]) (by rw[h2];exact g1),by rw[Ai,Ai,h2,g2],fun t ht=>?_⟩;rcases Bf.1 ht with h | h
 ·exact h3 t h
 ·exact g3 t h
theorem rX.node{k at_:Nat}{x:cP}{C:List cP}(h:aEc k (at_+1) x.next C):rX (k+1) at_ (x::C):=by
 refine⟨by simp,fun N nx hN hnx f p d hf=>?_⟩;rw[Aw] at hN hf;cases f with
 | zero=>omega
 | succ f=>
  have⟨L,h1,h2,h3⟩:=h N nx ay (fun i y hi=>by
   have:=hnx (i+1) y hi;rw[<-this];congr 1;omega) f (at_:Int) (d+1) ay
  have h0:nx at_=x.next:=hnx 0 x rfl;refine⟨(p,d,((at_+L.length:Nat):Int))::L,?_,by rw[Aw,Aw,h2],fun t ht=>?_⟩
  ·show(if at_<N then(fH (fun r=>eJ N nx f r at_ (d+1)) (nx at_) (at_+1)).map fun L=>(p,d,((at_+L.length:Nat):Int))::L else Option.none)=_;rw[if_pos ay,h0,h1];rfl
  ·rcases Bm.1 ht with rfl | h
   ·show d<=_;omega
   ·have:=h3 t h;omega
theorem rX.end_{k at_:Nat}{x:cP}(h:x.next= []):rX k at_ [x]:=by
 refine⟨by simp,fun N nx hN hnx f p d hf=>?_⟩;cases f with
 | zero=>simp at hf
 | succ f=>
  have h0:nx at_=x.next:=hnx 0 x rfl;refine⟨[(p,d,((at_+0:Nat):Int))],?_,rfl,fun t ht=>?_⟩
  ·show(if at_<N then(fH (fun r=>eJ N nx f r at_ (d+1)) (nx at_) (at_+1)).map fun L=>(p,d,((at_+L.length:Nat):Int))::L else Option.none)=_;rw[if_pos (by simp at hN;omega),h0,h];rfl
  ·rw[Ce.1 ht];show d<=_;omega
structure aSj(x:cP):Prop where
 kind:x.kind=1
 player:x.player=0
 info:x.info=0
 pay:x.pay= []
 n1:1<=x.next.length
 n2:x.next.length<=3
 len:x.weights.length=x.next.length
 wts:∀w∈x.weights,1<=w/\w<=3
structure aS6(ps:Int)(I:List iS)(x:cP):Prop where
 kind:x.kind=2
 wts:x.weights= []
 pay:x.pay= []
 n1:1<=x.next.length
 n2:x.next.length<=3
 pl:0<=x.player/\x.player<ps
 inf:0<=x.info
 at_:I[x.info.toNat]? =some ⟨x.player,(x.next.length:Int)⟩
def jQ(ps:Int)(I:List iS)(x:cP):Prop:=aPZ ps x\/aSj x\/aS6 ps I x
theorem jQ.app{ps:Int}{I J:List iS}{x:cP}(h:jQ ps I x):jQ ps (I++J) x:=by
 rcases h with h | h | h
 ·exact .inl h
 ·exact .inr (.inl h)
 ·exact .inr (.inr ⟨h.kind,h.wts,h.pay,h.n1,h.n2,h.pl,h.inf,by rw[Al (Aj.1 h.at_).1];exact h.at_⟩)
theorem aLO{ps:Int}{I:List iS}{x:cP}(h:jQ ps I x):iC ps I.length x=0:=by
 unfold iC;rcases h with h | h | h
 ·rw[if_neg (by rw[h.kind];decide),if_neg (by rw[h.kind];decide),if_pos h.kind,if_neg (by unfold oB;rw[h.player,h.info,h.next,h.wts,h.len];simp),if_neg];rintro⟨w,hw,ho⟩;have:=h.pay w hw;omega
 ·rw[if_pos h.kind,if_neg (by unfold nJ;rw[h.player,h.info,h.pay,h.len];have:=h.n1;have:=h.n2;simp;omega),if_neg];rintro⟨w,hw,ho⟩;have:=h.wts w hw;omega
 ·have hlt:=(Aj.1 h.at_).1;have:=h.pl;have:=h.inf;rw[if_neg (by rw[h.kind];decide),if_pos h.kind,if_neg (by unfold vG;rw[h.wts,h.pay];have:=h.n1;have:=h.n2;simp;omega),if_neg ay]
theorem aE8{ps:Int}{I:List iS}:∀ {l:List cP},(∀x∈l,jQ ps I x)->jN ps I.length l=0
 | [],_=>rfl
 | x::l,h=>by
  have h1:=aLO (h x (Br ..));show(if iC ps I.length x≠0 then iC ps I.length x else jN ps I.length l)=0;rw[if_neg (fun h=>h h1)];exact aE8 fun y hy=>h y (Bj _ hy)
theorem aJo{b:Int}:∀ {L:List cK} {m:Int},m<=b->(∀t∈L,t.2.1<=b)->uG m L<=b
 | [],m,hm,_=>hm
 | t::L,m,hm,h=>by
  rw[aE4];refine aJo ?_ fun y hy=>h y (Bj _ hy);have:=h t (Br ..);unfold mx;split<;>omega
theorem aHw{g:bD}{k:Nat}(hp:1<=g.bo/\g.bo<=4)(hn:1<=g.bk.length/\g.bk.length<=2000)(hi:g.bn.length<=200)(hN:∀x∈g.bk,jQ g.bo g.bn x)(hT:rX k 0 g.bk)(hk:k<=40)(hO:fQ (g.bk.map yO) g.bn.length):dB g=0:=by
 have⟨L,h1,h2,h3⟩:=hT.2 g.bk.length (dN g) ay (fun i x hi=>by rw[An];exact uM hi) (g.bk.length+1) (-1) 0 ay;have hw:fJ g=some L:=h1;unfold dB;rw[if_neg (by unfold mQ;omega),if_neg (by rw[aE8 hN];exact fun h=>h rfl),hw];show(if L.length≠g.bk.length then 9 else if 40<uG 0 L then 5 else wZ g)=0;have hm:uG 0 L<=40:=aJo bg fun t ht=>by have:=h3 t ht;omega
 rw[if_neg (fun h=>h h2),if_neg ay];have hlen:(fV g).length=g.bn.length:=by unfold fV;simp
 have hinf:∀x∈g.bk,x.kind=2->0<=x.info:=fun x hx hk=>by
  rcases hN x hx with h | h | h
  ·rw[h.kind] at hk;cases hk
  ·rw[h.kind] at hk;cases hk
  ·exact h.inf
 have hget:∀j,j<g.bn.length->(fV g).getD j 0=((wH (g.bk.map yO) 0 j:Nat):Int):=fun j hj=>by rw[wT hj,aDr hinf]
 have⟨o1,o2⟩:=aKn hO;unfold wZ;rw[if_neg,if_neg,if_pos]
 ·intro i h0 hi;rw[hlen] at hi;rw[hget i hi,hget (i - 1) ay];have:=o2 (i - 1) ay;rw[show i - 1+1=i by omega] at this;omega
 ·intro h0;have⟨j,hj,he⟩:=Cv.1 h0;rw[hlen] at hj;have:=hget j hj;rw[Ad,Ac (by rw[hlen];exact hj)] at this;have e:(fV g)[j]=((wH (g.bk.map yO) 0 j:Nat):Int):=this;rw[he] at e;have:=o1 j hj;omega
 ·rintro⟨x,hx,hk,hne⟩;rcases hN x hx with h | h | h
  ·rw[h.kind] at hk;cases hk
  ·rw[h.kind] at hk;cases hk
  ·apply hne;have e:ce g x.info=⟨x.player,(x.next.length:Int)⟩:=by
    unfold ce;rw[Ad,h.at_];rfl
   rw[e];exact⟨rfl,rfl⟩
def aOj(Pp:Nat->Prop)(X:St)(cs:b6)(l:bu):Prop:=∃a,cs= [a]/\bO .i64 X a l/\∀c,aX a=some c->Pp c
structure uU(Pp:Nat->Prop)(X:St)(v:AV)(rows:bt):Prop where
 rows:aP 1 (aOj Pp) X v rows
 out:∀c,aX v=some c->Pp c
theorem aOj.move{Pp Pp':Nat->Prop}{X X':St}{cs:b6}{l:bu}(h:aOj Pp X cs l)(hn:X.nx<=X'.nx)(hh:∀c,c<X.nx->Pp c->X'.h.get c=X.h.get c/\Pp' c):aOj Pp' X' cs l:=by
 obtain⟨a,rfl,h1,h2⟩:=h;exact⟨a,rfl,fO h1 hn fun c hc=>(hh c (fM h1 hc) (h2 c hc)).1,fun c hc=>(hh c (fM h1 hc) (h2 c hc)).2⟩
theorem uU.move{Pp Pp':Nat->Prop}{X X':St}{v:AV}{rows:bt}(h:uU Pp X v rows)(hn:X.nx<=X'.nx)(hh:∀c,c<X.nx->Pp c->X'.h.get c=X.h.get c/\Pp' c):uU Pp' X' v rows:=by
 refine⟨?_,fun c hc=>(hh c (aCC h.rows hc) (h.out c hc)).2⟩;rcases h.rows with h' | ⟨b,off,cap,o,cs,rfl,h2,h3,h4,h5⟩
 ·exact .inl h'
 ·refine .inr ⟨b,off,cap,o,cs,rfl,h2,Ae h3 hn,?_,fun i a hi=>?_⟩
  ·unfold cJ at h4 ⊢;rw[(hh b h3 (h.out b rfl)).1];exact h4
  ·have⟨e,e1,e2,e3⟩:=h5 i a hi;exact⟨e,e1,e2,e3.move hn hh⟩
theorem aRj{S:St}{v:AV}{l:bu}(h:bO .i64 S v l):mC v=some l.length/\eE v S.h 1 l.length=some (bJ l):=by
 rcases h with⟨rfl,rfl | rfl⟩ | ⟨b,off,cap,o,cs,rfl,h2,h3,h4,h5⟩
 ·exact⟨rfl,rfl⟩
 ·exact⟨rfl,rfl⟩
 ·refine⟨rfl,?_⟩;show bH (cJ S.h b) (fun c=>cut c off (l.length * 1))=_;rw[h4];show cut cs off (l.length * 1)=_;have hlen:l.length<=(cs.drop off).length:=by
   rw[De];rcases Bk l.length with h0 | hp
   ·omega
   ·have:=h5 (l.length - 1) l[l.length - 1] (Ac ay);have:=(Aj.1 this).1;omega
  unfold cut;rw[fU,fZ,Dm,if_pos hlen];congr 1;refine List.ext_getElem? fun i=>?_;by_cases hi:i<l.length
  ·rw[Ek hi,Fa,h5 i l[i] (Ac hi)];unfold bJ;rw[Bc,Ac hi];rfl
  ·rw[Bz (by rw[Bp];omega),Bz (by unfold bJ;rw[Ay];omega)]
theorem aGQ{b:Nat}{S:St}{v:AV}{l:bu}(hb:S.h.get b=some (.cells [] false 0))(h:bO .i64 S v l)(h2:l.length<=100000):
  ∃r S',fN 8 1 (.sl b 0 0 0 false) v S=some (r,S')/\Same S S'/\((l= []/\r= .sl b 0 0 0 false/\S'=S)\/(fX 1 S S' r l.length (bJ l)/\l≠ [])):=by
 have⟨e1,e2⟩:=aRj h;have hr:l.length<=room:=by unfold room;omega
 have hr2:l.length * 8<=room:=by unfold room;omega
 unfold fN;rw[e1,aN,e2,aN];show ∃r S',jK 8 1 b 0 0 0 false l.length (bJ l) S=some (r,S')/\_;unfold jK;rcases Bk l.length with h0 | hp
 ·have hl:l= []:=Bv.1 h0;subst hl;exact⟨.sl b 0 0 0 false,S,rfl,de S,.inl ⟨rfl,rfl,rfl⟩⟩
 ·have e5:Nat.ble (0+l.length) 0=false:=by
   rw[Ch];intro e;have:=Ba e;omega
  rw[e5,aT,Ak ay,aO,Ak (by rw[An];exact hr2),aO,hb,aN];have e4:cut ([]:b6) 0 (0 * 1)=some []:=by
   unfold cut;rw[fU,fZ,Cy,if_pos (Da _)];rfl
  have hgr:vJ (.cells [] false 0) 1 b 0 0 0 false l.length (bJ l) S=some (.sl S.nx 0 (0+l.length) (0+l.length) true,⟨S.h.set S.nx (some (.cells (bJ l) true 1)),Nat.succ S.nx⟩):=by
   simp only[vJ,e4,aN,aT,grown,fW,Bq]
  rw[hgr,An];exact⟨.sl S.nx 0 l.length l.length true,⟨S.h.set S.nx (some (.cells (bJ l) true 1)),S.nx+1⟩,rfl,Same.alloc S _,.inr ⟨.inr ⟨S.nx,rfl,Ag _,by simp,fq,by simp [bJ]⟩,fun e=>by rw[e] at hp;exact absurd hp (Nat.lt_irrefl 0)⟩⟩
theorem aJy{t b:Nat}{Y X:St}{r:AV}{l:bu}{w:Int}(h:(l= []/\r= .sl b 0 0 0 false/\X.h.get b=some (.cells [] false 0))\/(fX 1 Y X r l.length (bJ l)/\l≠ []))(hY:Y.nx<=X.nx)(ht:X.h.get t=some (.cells [.int .i64 w] false 0))(htl:t<X.nx)(hl:l.length<=100000):
  ∃r' X',fN 8 1 r (.sl t 0 1 1 false) X=some (r',X')/\bO .i64 X' r' (l++ [w])/\X.nx<=X'.nx/\(∀c,c<X.nx->aX r≠some c->X'.h.get c=X.h.get c)/\∀c,aX r'=some c->X.nx<=c:=by
 rcases h with⟨rfl,rfl,hb⟩ | ⟨hg,_⟩
 ·have hs:bO .i64 X (.sl t 0 1 1 false) [w]:=.inr ⟨t,0,1,false,[.int .i64 w],rfl,Ag _,htl,by unfold cJ;rw[ht];rfl,fun i x hi=>by
   cases i with
   | zero=>cases hi;rfl
   | succ i=>simp at hi⟩
  obtain⟨r',X',e1,e2,h3 | ⟨h3,_⟩⟩:=aGQ hb hs (by simp)
  ·exact absurd h3.1 (by simp)
  ·exact⟨r',X',e1,h3.is,e2.1,fun c hc _=>e2.2 c hc,fun c hc=>(h3.blk hc).1⟩
 ·have hg':fX 1 ⟨X.h,Y.nx⟩ X r l.length (bJ l):=by
   rcases hg with h | ⟨c,e1,e2,e3,e4,e5⟩
   ·exact .inl h
   ·exact .inr ⟨c,e1,e2,e3,e4,e5⟩
  have⟨r',X',e1,e2,e3,e4,e5⟩:=fX.push (bytes:=8) (t:=t) (w:=w) hg' ⟨hY,fun _ _=>rfl⟩ ht bf bf;exact⟨r',X',e1,e2.is,ay,e5,fun c hc=>by rw[e3] at hc;cases hc;exact Ag _⟩
noncomputable def aLL:List AO:=[oq 185 (.cr 3 (.t 11)),
om 186 1 (ld 185),
mt 187 0,
mt 188 1,
om 189 8 (bi .add (.t 188) (ci 1)),
mt 190 13,
oc 191 78 [(.t 187),(.t 189),(.t 190)] 60,
⟨(some 192),(.a (.ch 3 1 1 [(.int .i64 (.ofNat 0))] [(0,(.t 191))])),none,124⟩]
noncomputable def aLG:List AO:=[⟨(some 193),(.x (.app 3 1 8 (.t 186) (.t 192))),none,255⟩,
om 194 511 (.cr 3 (.t 11)),
⟨none,(.x (.st 1 (.t 194) (.t 193))),none,1023⟩]
def aQi(P:Nat->Prop)(S0 X:St)(F:Fr)(mb db:Nat)(m:Mk)(LV:List (Int×Int×Int))(xa:AV)(G:Int->Mk->Prop)(F':Fr)(Z:St)(ps:List iH):Prop:=∃ (c:Int) (m':Mk),G c m'/\ps= [⟨7,X.nx+7,.cells [.int .i64 c] false 0⟩]/\X.nx+11<=Z.nx/\mS (fun k=>P k\/X.nx+11<=k) S0 Z mb db m' LV/\(∀k,k<X.nx+11->PB mb db m k->PB mb db m' k)/\(∀k,k<X.nx->PB mb db m k->Z.h.get k=X.h.get k)/\(∀j,j<16->aD j F'=aD j F)/\aD 186 F'=xa/\aD 192 F'= .sl (X.nx+7) 0 1 1 false
theorem aOD{ops:List AO}{P:Nat->Prop}{S0 Y0 X:St}{F:Fr}{inr:Bool}{mb db xb:Nat}{m:Mk}{LV:List (Int×Int×Int)}{k p f xa xw xp nv:AV}{lev:Int}{l:bu}{G:Int->Mk->Prop}{Q:Out->bS->St->Prop}(he:ops=aLL++aLG)(hM:mS P S0 X mb db m LV)(hPl:∀c,P c->c<X.nx)(p0:aD 0 F= .ptr mb 0)(p1:aD 1 F= .int .i64 lev)(hlev:0<=lev/\lev<=1000)(p11:aD 11 F= .ptr xb 0)(p13:aD 13 F=nv)(gx:X.h.get xb=some (.cells [k,p,f,xa,xw,xp] false 0))(hx:PB mb db m xb/\¬P xb)(lx:xb<Y0.nx)(hY:Y0.nx<=X.nx)(hg:fX 1 Y0 X xa l.length (bJ l))(hb:∀c,aX xa=some c->PB mb db m c/\¬P c)(hl:l.length<=1000)
  (hcall:∀X1,Same X X1->gH fns (.fn 78 [] []) [.ptr mb 0,.int .i64 (lev+1),nv] X1 fun r Z=>∃ (c:Int) (m':Mk),r= .int .i64 c/\G c m'/\mS (fun k=>P k\/X1.nx<=k) S0 Z mb db m' LV/\fP mb db m X1 m' Z)
  (hQ:∀F' Z xa' c m',(∀j,j<16->aD j F'=aD j F)->G c m'->mS (fun k=>(P k\/X.nx<=k)/\aX xa'≠some k) S0 Z mb db m' LV->X.nx<=Z.nx->(∀k,k<X.nx->PB mb db m k->PB mb db m' k)->(∀k,k<X.nx->PB mb db m k->k≠xb->aX xa≠some k->Z.h.get k=X.h.get k)->Z.h.get xb=some (.cells [k,p,f,xa',xw,xp] false 0)->fX 1 Y0 Z xa' (l++ [c]).length (bJ (l++ [c]))->(∀k,aX xa'=some k->X.nx<=k/\PB mb db m' k)->Q .normal ⟨F',inr⟩ Z):lU fns (.drw ops) ⟨F,inr⟩ X Q:=by
 have hlen:ops.length=11:=by rw[he];rfl
 have lxX:xb<X.nx:=Ae lx hY;have sp:=hg.self;have wl:IntKind.i64.wrap (lev+1)=lev+1:=wrap_i64 ay ay;refine aCu (W:=fun c=>c≠xb) (K:=8) (R:=aQi P S0 X F mb db m LV xa G) he rfl rfl (fun X1 x1 hh1 nn1=>?_) ?_
 ·have gxl:=cV (p:=3) gx rfl;have hnn:¬ (xb≠xb):=fun h=>h rfl;unfold aLL;simp only[↓sU,sD,rE,↓reduceIte,rA,p0,p1,p11,p13,aF,aU,aE,gxl,sp,lxX,hnn,Ap,wl];refine lL rfl ?_;refine af ?_;refine aQ (hcall X1 x1) ?_;rintro _ X2 ⟨c,m',rfl,hG,hM2,b2⟩;have n1:X1.nx=X.nx+11:=by rw[nn1,hlen]
  have hX1:∀k,k<X.nx->PB mb db m k->X2.h.get k=X.h.get k:=fun k hk hp=>((b2.2 k ay hp).1).trans (x1.2 k hk);refine⟨⟨b2.1,fun c hc hne=>?_⟩,?_⟩
  ·have e:c=xb:=Decidable.byContradiction hne;rw[e];exact(b2.2 xb ay hx.1).1
  have he1:=fun(F:Fr) (id:Nat) (h:aD 191 F= .int .i64 c)=>nT (t:=3) (z:=.int .i64 0) (x:=.t 191) (F:=F) (id:=id) (k:=.i64) (n:=c) h;refine cm he1 ?_;refine⟨c,m',hG,ag,by rw[<-n1];exact b2.1,by rw[<-n1];exact hM2,fun k hk hp=>(b2.2 k ay hp).2,hX1,fun j hj=>?_,by refine⟨?_,?_⟩<;>simp only[↓sU,sD,rE,↓reduceIte,rA]⟩;have:j=0\/j=1\/j=2\/j=3\/j=4\/j=5\/j=6\/j=7\/j=8\/j=9\/j=10\/j=11\/j=12\/j=13\/j=14\/j=15:=by omega
  rcases this with rfl | rfl | rfl | rfl | rfl | rfl | rfl | rfl | rfl | rfl | rfl | rfl | rfl | rfl | rfl | rfl<;>simp only[↓sU,sD,rE,↓reduceIte,rA]
 rintro F' S' ps hs ls ⟨c,m',hG,rfl,nZ,hMZ,hPB,hZX,hk,pA,pB⟩ hlast hld;have p11':aD 11 F'= .ptr xb 0:=(hk 11 ay).trans p11;have m1:∀i,i<8->Nat.testBit 255 i=true:=by decide
 obtain⟨U,hU⟩:∃U:St,U=⟨S'.h.set (X.nx+7) (some (.cells [.int .i64 c] false 0)),S'.nx⟩:=⟨_,rfl⟩;have nU:U.nx=S'.nx:=by rw[hU]
 have kU:∀j,j≠X.nx+7->U.h.get j=S'.h.get j:=fun j hj=>by rw[hU];simp only;rw[dd,if_neg hj]
 have gU:U.h.get (X.nx+7)=some (.cells [.int .i64 c] false 0):=by rw[hU];simp only;rw[dd,if_pos rfl]
 have lowv:∀ {j},aX xa=some j->Y0.nx<=j/\j<X.nx:=fun hc=>⟨(hg.blk hc).1,(hg.blk hc).2.1⟩;have hgU:fX 1 ⟨U.h,Y0.nx⟩ U xa l.length (bJ l):=hg.move ay fun j hj=>by
  rw[kU j (by have:=(lowv hj).2;omega)];exact hZX j (lowv hj).2 (hb j hj).1
 have⟨xa',V,eA,gA,bA,nA,rA⟩:=fX.push (bytes:=8) (t:=X.nx+7) (w:=c) hgU ⟨by show Y0.nx<=U.nx;omega,fun _ _=>rfl⟩ gU bf bf;have gxV:V.h.get xb=some (.cells [k,p,f,xa,xw,xp] false 0):=by
  rw[rA xb ay (fun e=>by have:=(lowv e).1;omega),kU xb ay];exact(hZX xb lxX hx.1).trans gx
 have hbA:∀ {j},aX xa'=some j->j=U.nx:=fun hc=>by rw[bA] at hc;exact(Bl hc).symm
 unfold aLG;refine kE (v:=xa') (S1:=V) (hlast _ m1) (fun call=>?_) ?_
 ·rw[cS (bg:Nat.testBit 255 7=true),fY];simp only[fR,pA,pB];rw[<-hU];exact eA
 rw[cS (bg:Nat.testBit 255 7=true)];simp only[iE,dK,aF,aE,aU,aT,fR,bX,bP,p11',rE,↓reduceIte,rA];have gAc:xa'.cells=some [xa']:=fX.cells gA;refine kE (v:=.undef) (S1:=⟨V.h.set xb (some (.cells [k,p,f,xa',xw,xp] false 0)),V.nx⟩) (bg:Nat.testBit 1023 8=true) (fun call=>?_) ?_
 ·rw[dS];simp only[fR,bP,rE,↓reduceIte,bX,gAc,aN];exact stc (cs:=[k,p,f,xa,xw,xp]) (p:=3) (S:=V) gxV (by simp)
 rw[jB];refine⟨?_,?_⟩
 ·simp only[Cw,Bd,Dy,Ck,Bq];exact hld _ _ _ m1
 ·simp only[bX,gP];have kV:∀j,j<S'.nx->j≠X.nx+7->j≠xb->aX xa≠some j->(V.h.set xb (some (.cells [k,p,f,xa',xw,xp] false 0))).get j=S'.h.get j:=fun j hj h1 h2 h3=>by
   rw[dd,if_neg h2,rA j ay h3,kU j h1]
  have hxm:PB mb db m' xb:=hPB xb ay hx.1;have hMV:mS (fun k=>P k\/X.nx+11<=k) S0 ⟨V.h.set xb (some (.cells [k,p,f,xa',xw,xp] false 0)),V.nx⟩ mb db m' LV:=hMZ.local (by show S'.nx<=V.nx;omega) fun j hj hor=>by
   refine kV j hj (fun e=>?_) (fun e=>?_) (fun e=>?_)
   ·rcases hor with h | h | h
    ·exact h (hPB j ay (by rw[e];exact hM.p.fresh ay))
    ·have:=hPl j h;omega
    ·omega
   ·rcases hor with h | h | h
    ·exact h (by rw[e];exact hxm)
    ·exact hx.2 (by rw[<-e];exact h)
    ·omega
   ·have hlo:=(lowv e).2;rcases hor with h | h | h
    ·exact h (hPB j ay (hb j e).1)
    ·exact(hb j e).2 h
    ·omega
  have hM3:mS (fun k=>(P k\/X.nx<=k)/\aX xa'≠some k) S0 ⟨V.h.set xb (some (.cells [k,p,f,xa',xw,xp] false 0)),V.nx⟩ mb db m' LV:=by
   have h1:mS (fun k=>(P k\/X.nx+11<=k)/\k<S'.nx) S0 ⟨V.h.set xb (some (.cells [k,p,f,xa',xw,xp] false 0)),V.nx⟩ mb db m' LV:=(hMZ.mono fun j hj h=>⟨h,hj⟩).local (by show S'.nx<=V.nx;omega) fun j hj hor=>by
    refine kV j hj (fun e=>?_) (fun e=>?_) (fun e=>?_)
    ·rcases hor with h | ⟨h | h,_⟩
     ·exact h (hPB j ay (by rw[e];exact hM.p.fresh ay))
     ·have:=hPl j h;omega
     ·omega
    ·rcases hor with h | ⟨h | h,_⟩
     ·exact h (by rw[e];exact hxm)
     ·exact hx.2 (by rw[<-e];exact h)
     ·omega
    ·have hlo:=(lowv e).2;rcases hor with h | ⟨h | h,_⟩
     ·exact h (hPB j ay (hb j e).1)
     ·exact(hb j e).2 h
     ·omega
   refine h1.mono fun j _ h=>⟨h.1.elim .inl fun h=>.inr ay,fun e=>?_⟩;have:=hbA e;have:=h.2;omega
  refine hQ _ _ xa' c m' (fun j hj=>?_) hG hM3 (by show X.nx<=V.nx;omega) (fun j hj hp=>hPB j ay hp) (fun j hj hp h1 h2=>?_) fq ?_ (fun j hj=>?_)
  ·rw[bP,if_neg ay,bP,if_neg ay];exact hk j hj
  ·simp only;rw[kV j ay ay  h1 h2];exact hZX j hj hp
  ·refine fX.move (S:=V) (by exact gA) (Ag _) fun j hj=>?_;have:=hbA hj;simp only;rw[dd,if_neg ay]
  ·have:=hbA hj;exact⟨ay,hMZ.p.fresh ay⟩
theorem aMh{a q:Nat}(ha:a<=1000)(hq:q<=64):∃z y:Nat,iL .shr (.p .int) (.int .i64 (a:Int)) (.int .i64 (q:Int))=some (.int .i64 (z:Int))/\iL .and (.p .int) (.int .i64 (z:Int)) (.int .i64 1)=some (.int .i64 (y:Int)):=by
 refine⟨a / 2 ^ q,Nat.land (a / 2 ^ q) 1,?_,?_⟩
 ·show dJ .shr .i64 (Int.ofNat a) .i64 (Int.ofNat q)=_;unfold dJ;rw[show fI .shr=true from rfl,aO];show rR .shr .i64 (Int.ofNat a) q=_;unfold rR;rw[show Nat.ble q IntKind.i64.bits=true from Ak hq,aO];show some (AV.int .i64 (Int.fdiv (a:Int) ((2 ^ q:Nat):Int)))=_;rw[Int.fdiv_eq_ediv_of_nonneg _ (Int.natCast_nonneg _)];rfl
 ·have hz:a / 2 ^ q<=1000:=Au (Nat.div_le_self _ _) ha;generalize a / 2 ^ q=z at *;show dJ .and .i64 (Int.ofNat z) .i64 (Int.ofNat 1)=_;unfold dJ;rw[show fI .and=false from rfl,aT,fT,aO];show cB (xN .i64 z) (cB (xN .i64 1) (some (AV.int .i64 (.ofNat (Nat.land z 1)))) none) none=_;rw[show xN .i64 z=true from Ak (by show z<=9223372036854775807;omega),aO,show xN .i64 1=true from rfl,aO];rfl
noncomputable def aPb:AC:=qk7
def RoI(Y:St)(F0:Fr)(n lev:Nat)(k:Nat)(A:bS)(X:St):Prop:=A.inr=false/\Same Y X/\(∀j,j<13->aD j A.F=aD j F0)/\∃ (q:Nat) (nv:AV) (cs:b6) (A':bt),q+k=n/\A'.length=q/\(∀l∈A',l.length<=lev+1)/\fX 1 Y X nv q cs/\aAM Y X nv cs A'/\aD 13 A.F=nv/\aD 14 A.F= .int .i64 (q:Int)
theorem aIc{Pp:Nat->Prop}{Y:St}{F:Fr}{v:AV}{rows:bt}{tb lev:Nat}{pl fB sn i:Int}{Q:Out->bS->St->Prop}(hv:uU Pp Y v rows)(hrl:∀l∈rows,l.length<=lev)(hlev:lev<=900)(hn:rows.length<=64)(p2:aD 2 F=v)(p8:aD 8 F= .ptr tb 0)(gt:Y.h.get tb=some (.cells [.int .i64 pl,.int .i64 fB,.int .i64 sn] false 0))(ltb:tb<Y.nx)(hsn:0<=sn/\sn<=1000)(p12:aD 12 F= .int .i64 i)(p13:aD 13 F= .cb)(p14:aD 14 F= .int .i64 0)
  (hQ:∀F' Z nv A',(∀j,j<13->aD j F'=aD j F)->aD 13 F'=nv->Same Y Z->A'.length=rows.length->(∀l∈A',l.length<=lev+1)->uU (fun c=>Y.nx<=c/\c<Z.nx) Z nv A'->Q .normal ⟨F',false⟩ Z):lU fns aPb ⟨F,false⟩ Y Q:=by
 unfold aPb;refine aW (Q:=fun o A' Z=>o= .normal/\RoI Y F rows.length lev 0 A' Z) (aL (bK (RoI Y F rows.length lev) ?_ rows.length _ _ ⟨rfl,de _,fun _ _=>rfl,0,.cb,[],[],ay,rfl,fun l hl=>(by cases hl),.inl ⟨rfl,rfl,rfl⟩,⟨rfl,fun j hj=>absurd hj (Cf j)⟩,p13,p14⟩)) ?_;rotate_left
 ·rintro o ⟨F',inr⟩ Z ⟨rfl,q0,hZ,hk,q,nv,cs,A',hq,hl,hll,hg,hR,p13',_⟩;simp only at q0 hk p13';subst q0;obtain rfl:q=rows.length:=by omega
  refine hQ F' Z nv A' hk p13' hZ hl hll ⟨?_,fun c hc=>⟨(hg.blk hc).1,(hg.blk hc).2.1⟩⟩;rcases hg with⟨rfl,h0,_⟩ | ⟨b,rfl,_,h2,h3,_⟩
  ·exact .inl ⟨Bv.1 ay,.inl rfl⟩
  ·refine .inr ⟨b,0,rows.length,true,cs,by rw[hl],ay,h2,by unfold cJ;rw[h3];rfl,fun j l hj=>?_⟩;have hlt:=(Aj.1 hj).1;have e:A'.getD j []=l:=by rw[Ad,hj];rfl
   have⟨r,h4,h5,h6⟩:=hR.2 j hlt;rw[e] at h5;refine⟨[r],rfl,fun x y hx=>?_,r,rfl,h5,fun c hc=>⟨(h6 c hc).1,fM h5 hc⟩⟩;cases x with
   | zero=>
    cases hx;rw[An,Dm];exact h4
   | succ x=>simp at hx
 rintro k ⟨G,inr⟩ X ⟨q0,hX,hk,q,nv,cs,A',hqk,hlA,hll,hg,hR,p13',p14'⟩;simp only at q0 hk p13' p14';subst q0;have g2:aD 2 G=v:=(hk 2 ay).trans p2;have g8:aD 8 G= .ptr tb 0:=(hk 8 ay).trans p8;have g12:aD 12 G= .int .i64 i:=(hk 12 ay).trans p12;have hvX:uU Pp X v rows:=hv.move hX.1 fun c hc hp=>⟨hX.2 c hc,hp⟩;have gtX:=(hX.2 _ ltb).trans gt;refine fE (dk g2 p14' hvX.rows.len @Ah ?_);by_cases hlt:q<rows.length;rotate_left
 ·refine aK fe (bG ?_);refine af ?_;have hk0:k=0:=by omega
  subst hk0;refine⟨rfl,hX,fun j hj=>?_,q,nv,cs,A',hqk,hlA,hll,hg,hR,by refine⟨?_,?_⟩<;>simp only[↓sU,sD,rE,↓reduceIte,rA,p13',p14']⟩;rw[<-hk j hj];have:j=0\/j=1\/j=2\/j=3\/j=4\/j=5\/j=6\/j=7\/j=8\/j=9\/j=10\/j=11\/j=12:=by omega
  rcases this with rfl | rfl | rfl | rfl | rfl | rfl | rfl | rfl | rfl | rfl | rfl | rfl | rfl<;>simp only[↓sU,sD,rE,↓reduceIte,rA]
 refine aM fe (aH ?_);refine af ?_;have w1:=dc q
 obtain⟨_,br,qr,hia,lbr,_,⟨a,rfl,hrow,_⟩,_,hlf⟩:=aP.at hvX.rows bg (wQ hlt);have hld:=hlf 0 a rfl;rw[Bh] at hld;have hrl':(rows.getD q []).length<=lev:=hrl _ (by rw[Ad,Ac hlt];exact Bo hlt);generalize rows.getD q []=l at *;refine aA (aL (aA (aG ?_)));refine aq ?_;refine gO wO ?_;intro X1 x1 n1 b1;have hld1:=hld;rw[<-oM x1 lbr] at hld1;refine d9 g2 p14' @aJ hia hld1 ?_;have⟨r,X2,eA,x2,hr⟩:=aGQ b1 (hrow.same x1) ay;refine fD (fun call=>by refine dz @fY ?_;exact eA) ?_;refine aq ?_;have sX2:=x1.trans x2;have sY2:=hX.trans sX2;have gt2:=(sY2.2 _ ltb).trans gt;have t0:=cV (p:=0) gt2 rfl;have t2:=cV (p:=2) gt2 rfl;have lX2:X.nx<X2.nx:=by have:=x2.1;omega
 have hcp:(l= []/\r= .sl X.nx 0 0 0 false/\X2.h.get X.nx=some (.cells [] false 0))\/(fX 1 X1 X2 r l.length (bJ l)/\l≠ []):=by
  rcases hr with⟨e1,e2,e3⟩ | h
  ·exact .inl ⟨e1,e2,by rw[e3];exact b1⟩
  ·exact .inr h
 have hrb:∀c,aX r=some c->X.nx<=c:=fun c hc=>by
  rcases hcp with⟨_,rfl,_⟩ | ⟨h,_⟩
  ·cases hc;exact Ag _
  ·have:=(h.blk hc).1;omega
 obtain⟨s0,rfl⟩:∃s0:Nat,sn=(s0:Int):=⟨sn.toNat,ay⟩;have⟨z,y,hz,hy⟩:=aMh (a:=s0) (q:=q) ay ay;refine aA (aW (Q:=fun o A2 Z=>o= .normal/\A2.inr=false/\(∀j,j<13->aD j A2.F=aD j G)/\aD 13 A2.F=nv/\aD 14 A2.F= .int .i64 (q:Int)/\X2.nx<=Z.nx/\(∀c,c<X.nx->Z.h.get c=X.h.get c)/\∃w,bO .i64 Z (aD 15 A2.F) (l++ [w])/\∀c,aX (aD 15 A2.F)=some c->X.nx<=c) (aA (aW (Q:=fun o A1 Z=>o= .normal/\A1.inr=false/\Z=X2/\(∀j,j<13->aD j A1.F=aD j G)/\aD 13 A1.F=nv/\aD 14 A1.F= .int .i64 (q:Int)/\aD 15 A1.F=r/\∃t,aD 173 A1.F= .bool t) (aG ?_) ?_)) ?_)
 ·by_cases hqp:(q:Int)=pl
  ·refine dx p13' p14' g8 @aF @aE t0 (Ab hqp) ?_;exact⟨fun j hj=>by
    have:j=0\/j=1\/j=2\/j=3\/j=4\/j=5\/j=6\/j=7\/j=8\/j=9\/j=10\/j=11\/j=12:=by omega
    rcases this with rfl | rfl | rfl | rfl | rfl | rfl | rfl | rfl | rfl | rfl | rfl | rfl | rfl<;>simp only[↓sU,sD,rE,↓reduceIte,rA],true,rfl⟩
  ·simp only[↓sU,sD,rE,↓reduceIte,rA,p13',p14',g8,aF,aE,t0,t2,Aa hqp,hz,hy];exact⟨fun j hj=>by
    have:j=0\/j=1\/j=2\/j=3\/j=4\/j=5\/j=6\/j=7\/j=8\/j=9\/j=10\/j=11\/j=12:=by omega
    rcases this with rfl | rfl | rfl | rfl | rfl | rfl | rfl | rfl | rfl | rfl | rfl | rfl | rfl<;>simp only[↓sU,sD,rE,↓reduceIte,rA],_,rfl⟩
 ·rintro o ⟨F1,inr⟩ Z ⟨rfl,q0,hZ,k1,e13,e14,e15,t,ht⟩;simp only at q0 k1 e13 e14 e15 ht;subst q0;rw[hZ];clear hZ Z;refine af ?_;have f12:aD 12 F1= .int .i64 i:=(k1 12 ay).trans g12;have again:∀ {F':Fr} {X3 X4:St} {r':AV} {w:Int},Same X2 X3->X3.nx<=X4.nx->(∀c,c<X3.nx->aX r≠some c->X4.h.get c=X3.h.get c)->bO .i64 X4 r' (l++ [w])->(∀c,aX r'=some c->X3.nx<=c)->X2.nx<=X4.nx/\(∀c,c<X.nx->X4.h.get c=X.h.get c)/\∃w,bO .i64 X4 r' (l++ [w])/\∀c,aX r'=some c->X.nx<=c:=fun {F' X3 X4 r' w} s3 n4 k4 i4 b4=>
   ⟨Au s3.1 n4,fun c hc=>by
    rw[k4 c (az s3.1) (fun e=>by have:=hrb c e;omega),s3.2 c ay];exact sX2.2 c hc,w,i4,fun c hc=>by have:=b4 c hc;have:=s3.1;omega⟩
  have hcp3:∀ {X3:St},Same X2 X3->((l= []/\r= .sl X.nx 0 0 0 false/\X3.h.get X.nx=some (.cells [] false 0))\/(fX 1 X1 X3 r l.length (bJ l)/\l≠ [])):=fun s3=>hcp.elim (fun h=>.inl ⟨h.1,h.2.1,(s3.2 _ lX2).trans h.2.2⟩) fun h=>.inr ⟨h.1.step s3,h.2⟩;have n12:=x2.1;cases t with
  | true=>
   refine aM (ai ht) (aG ?_);refine d6 e15 f12 ?_;refine gO (nT (n:=i) (k:=.i64) (ar)) ?_;intro X3 x3 n3 b3;have⟨r',X4,eB,i4,n4,k4,b4⟩:=aJy (t:=X2.nx) (w:=i) (hcp3 x3) ay b3 ay ay;refine fD (fun call=>by refine dz @fY ?_;exact eB) ?_;refine d6 e13 e14 ?_;exact⟨fun j hj=>by rw[<-k1 j hj];exact(by
    have:j=0\/j=1\/j=2\/j=3\/j=4\/j=5\/j=6\/j=7\/j=8\/j=9\/j=10\/j=11\/j=12:=by omega
    rcases this with rfl | rfl | rfl | rfl | rfl | rfl | rfl | rfl | rfl | rfl | rfl | rfl | rfl<;>simp only[↓sU,sD,rE,↓reduceIte,rA]),again (F':=F1) x3 n4 k4 i4 b4⟩
  | false=>
   have ev28:∀ (F:Fr) (id:Nat),sH (.ch 3 1 1 [.int .i64 0] [(0,.c (.int .i64 (.negSucc 0)))]) F id=some (.sl id 0 1 1 false,.cells [.int .i64 (-1)] false 0):=fun F id=>nT rfl;refine aK (ai ht) (aG ?_);refine dz e15 ?_;refine gO (ev28 _ _) ?_;intro X3 x3 n3 b3;have⟨r',X4,eB,i4,n4,k4,b4⟩:=aJy (t:=X2.nx) (w:= -1) (hcp3 x3) ay b3 ay ay;refine fD (fun call=>by refine dz @fY ?_;exact eB) ?_;refine d6 e13 e14 ?_;exact⟨fun j hj=>by rw[<-k1 j hj];exact(by
    have:j=0\/j=1\/j=2\/j=3\/j=4\/j=5\/j=6\/j=7\/j=8\/j=9\/j=10\/j=11\/j=12:=by omega
    rcases this with rfl | rfl | rfl | rfl | rfl | rfl | rfl | rfl | rfl | rfl | rfl | rfl | rfl<;>simp only[↓sU,sD,rE,↓reduceIte,rA]),again (F':=F1) x3 n4 k4 i4 b4⟩
 rintro o ⟨F2,inr⟩ Z ⟨rfl,q0,k2,e13,e14,nZ,kZ,w,iZ,bZ⟩;simp only at q0 k2 e13 e14 iZ bZ;subst q0;generalize h15:aD 15 F2=r' at iZ bZ;refine af ?_;have nXZ:X.nx<=Z.nx:=by omega
 have sXZ:Same X Z:=⟨nXZ,kZ⟩;refine aG (d6 e13 h15 ?_);refine gO (uK (S:=Z) iZ (ar)) ?_;intro X5 x5 n5 b5;have hg5:fX 1 ⟨X5.h,Y.nx⟩ X5 nv q cs:=hg.step (sXZ.trans x5);have⟨nv',X6,eC,gC,bC,n6,k6⟩:=fX.push1 (bytes:=24) (x:=r') hg5 ⟨by have:=hX.1;show Y.nx<=X5.nx;omega,fun _ _=>rfl⟩ b5 bf bf;refine fD (fun call=>by refine dz @fY ?_;exact eC) ?_;refine aq ?_;have nvlow:∀ {c},aX nv=some c->Y.nx<=c/\c<X.nx:=fun hc=>⟨(hg.blk hc).1,(hg.blk hc).2.1⟩;have i5:bO .i64 X5 r' (l++ [w]):=iZ.same x5;have i6:bO .i64 X6 r' (l++ [w]):=fO i5 ay fun c hc=>k6 c (fM i5 hc) fun e=>by have:=bZ c hc;have:=(nvlow e).2;omega
 have hR6:=hR.push (Z:=X6) (pv':=nv') (r:=r') (l:=l++ [w]) (az hX.1) ay (fun c h1 h2 h3=>by rw[k6 c ay h3,x5.2 c ay];exact kZ c h1) i6 (fun c hc=>⟨bZ c hc,fun e=>by rw[bC] at e;cases e;have:=fM i5 hc;omega⟩) (fun c hc=>by rw[bC] at hc;cases hc;omega);refine aG (df e14 w1 ?_);refine⟨k - 1,ay,rfl,⟨az hX.1,fun c hc=>?_⟩,fun j hj=>?_,q+1,nv',cs++ [r'],A'++ [l++ [w]],ay,by rw[Ai,Av,hlA],fun m hm=>?_,?_,hR6,by refine⟨?_,?_⟩<;>simp only[↓sU,sD,rE,↓reduceIte,rA]⟩
 ·rw[k6 c (az hX.1) (fun e=>by have:=(nvlow e).1;omega),x5.2 c (az hX.1),kZ c (az hX.1)];exact hX.2 c hc
 ·rw[<-hk j hj,<-k2 j hj];have:j=0\/j=1\/j=2\/j=3\/j=4\/j=5\/j=6\/j=7\/j=8\/j=9\/j=10\/j=11\/j=12:=by omega
  rcases this with rfl | rfl | rfl | rfl | rfl | rfl | rfl | rfl | rfl | rfl | rfl | rfl | rfl<;>simp only[↓sU,sD,rE,↓reduceIte,rA]
 ·rcases Bf.1 hm with h | h
  ·exact hll m h
  ·rw[Ce.1 h,Ai,Av];omega
 ·rcases gC with h | ⟨b,e1,e2,e3,e4,e5⟩
  ·exact .inl h
  ·exact .inr ⟨b,e1,e2,e3,e4,e5⟩
structure aCL(m:Mk):Prop where
 len:m.views.length=m.bn.length
 at_:∀ (j:Nat) (v:Int×Int×Int),m.views[j]? =some v->v.2.2=(j:Int)/\0<=v.1/\v.1<m.ps/\∃a,m.bn[j]? =some ⟨v.1,a⟩/\1<=a/\a<=3
structure aEr(lev:Nat)(m:Mk):Prop where
 vok:aCL m
 lv:∀ (j:Nat) (v:Int×Int×Int),m.views[j]? =some v->v.2.1<(lev:Int)\/aBz m v.2.2
 nd:∀x∈m.bk,x.kind=2->x.info<(m.bn.length:Int)
 fit:(m.bk.length:Int)+m.pend<=m.most
 pnd:0<=m.pend
 most:m.most<=1000
 il:m.bn.length<=m.bk.length
 ps:1<=m.ps/\m.ps<=4
structure xZ(m m':Mk)(B:List cP)(d:Int):Prop where
 bk:m'.bk=m.bk++B
 ok:∀x∈B,jQ m.ps m'.bn x
 ord:∀lab,fQ lab m.bn.length->fQ (lab++B.map yO) m'.bn.length
 inf:∃I,m'.bn=m.bn++I
 vws:∃V,m'.views=m.views++V
 vok:aCL m'
 used:∀j,m.bn.length<=j->j<m'.bn.length->∃x∈B,x.kind=2/\x.info=(j:Int)
 most:m'.most=m.most
 ps:m'.ps=m.ps
 pend:m'.pend=m.pend - d
 fit:(m'.bk.length:Int)+m'.pend<=m'.most
 il:m'.bn.length<=m'.bk.length
theorem xZ.refl{lev:Nat}{m:Mk}(h:aEr lev m):xZ m m [] 0 where
 bk:=(Bi _).symm
 ok:=fun x hx=>by cases hx
 ord:=fun lab h=>by simpa using h
 inf:=⟨[],(Bi _).symm⟩
 vws:=⟨[],(Bi _).symm⟩
 vok:=h.vok
 used:=fun j h1 h2=>by omega
 most:=rfl
 ps:=rfl
 pend:=(Int.sub_zero _).symm
 fit:=h.fit
 il:=h.il
theorem xZ.trans{m m' m'':Mk}{B B':List cP}{d d':Int}(h:xZ m m' B d)(h':xZ m' m'' B' d'):xZ m m'' (B++B') (d+d') where
 bk:=by rw[h'.bk,h.bk,Bd]
 ok:=fun x hx=>by
  rcases Bf.1 hx with h1 | h1
  ·have⟨I,e⟩:=h'.inf;rw[e];exact(h.ok x h1).app
  ·rw[<-h.ps];exact h'.ok x h1
 ord:=fun lab hl=>by
  rw[Dd,<-Bd];exact h'.ord _ (h.ord lab hl)
 inf:=by
  have⟨I,e⟩:=h.inf;have⟨I',e'⟩:=h'.inf;exact⟨I++I',by rw[e',e,Bd]⟩
 vws:=by
  have⟨I,e⟩:=h.vws;have⟨I',e'⟩:=h'.vws;exact⟨I++I',by rw[e',e,Bd]⟩
 vok:=h'.vok
 used:=fun j h1 h2=>by
  by_cases hj:j<m'.bn.length
  ·have⟨x,hx,hk⟩:=h.used j h1 hj;exact⟨x,Dh _ hx,hk⟩
  ·have⟨x,hx,hk⟩:=h'.used j ay h2;exact⟨x,Dk _ hx,hk⟩
 most:=h'.most.trans h.most
 ps:=h'.ps.trans h.ps
 pend:=by rw[h'.pend,h.pend];omega
 fit:=h'.fit
 il:=h'.il
theorem aBz.mono{m m':Mk}{B:List cP}{i:Int}(h:aBz m i)(hn:m'.bk=m.bk++B):aBz m' i:=by
 have⟨x,hx,hk⟩:=h;exact⟨x,by rw[hn];exact Dh _ hx,hk⟩
theorem xZ.pre{lev:Nat}{m m':Mk}{B:List cP}{d:Int}(h:xZ m m' B d)(hp:aEr lev m)(hd:0<=m'.pend):aEr lev m' where
 vok:=h.vok
 lv:=fun j v hv=>by
  have⟨V,e⟩:=h.vws;by_cases hj:j<m.views.length
  ·rw[e,Al hj] at hv;rcases hp.lv j v hv with h1 | h1
   ·exact .inl h1
   ·exact .inr (h1.mono h.bk)
  ·have hlt:=(Aj.1 hv).1;have e1:=(h.vok.at_ j v hv).1;have⟨x,hx,hk⟩:=h.used j (az hp.vok.len) (az h.vok.len);exact .inr ⟨x,by rw[h.bk];exact Dk _ hx,hk.1,by rw[hk.2,e1]⟩
 nd:=fun x hx hk=>by
  have⟨I,e⟩:=h.inf;have hl:m.bn.length<=m'.bn.length:=by rw[e,Ai];omega
  rw[h.bk] at hx;rcases Bf.1 hx with h1 | h1
  ·have:=hp.nd x h1 hk;omega
  ·rcases h.ok x h1 with h2 | h2 | h2
   ·rw[h2.kind] at hk;cases hk
   ·rw[h2.kind] at hk;cases hk
   ·have:=(Aj.1 h2.at_).1;have:=h2.inf;omega
 fit:=h.fit
 pnd:=hd
 most:=by rw[h.most];exact hp.most
 il:=h.il
 ps:=by rw[h.ps];exact hp.ps
def aCM(fns:T dU)(S0:St)(mb db:Nat)(LV:List (Int×Int×Int))(lev:Nat):Prop:=∀ (X:St) (P:Nat->Prop) (m:Mk) (v:AV) (rows:bt),mS P S0 X mb db m LV->S0.nx<=X.nx->aEr lev m->1<=m.pend->uU (fun c=>PB mb db m c/\P c) X v rows->rows.length=m.ps.toNat->(∀l∈rows,l.length<=lev)->(∀p∈LV,p.1<m.ps)->
 gH fns (.fn 78 [] []) [.ptr mb 0,.int .i64 (lev:Int),v] X fun r Z=>r= .int .i64 (m.bk.length:Int)/\∃m' B,xZ m m' B 1/\rX (LV.length - lev) m.bk.length B/\mS (fun c=>P c\/X.nx<=c) S0 Z mb db m' LV/\fP mb db m X m' Z
noncomputable def aO4:AC:=qk8
def Pin(P:Nat->Prop)(X:St)(xb:Nat)(xa xw:AV)(c:Nat):Prop:=(P c\/X.nx<=c)/\c≠xb/\aX xa≠some c/\aX xw≠some c
structure KdR(P:Nat->Prop)(S0 X X1:St)(mb db xb:Nat)(LV:List (Int×Int×Int))(K:Nat)(m1:Mk)(xk xp xf:AV)(pl:Int)(Y:St)(i iw:Nat)(mi:Mk)(cs:bu)(C:List cP)(ws:bu)(xa xw:AV):Prop where
 mkb:mS (Pin P X xb xa xw) S0 Y mb db mi LV
 bld:xZ m1 mi C (i:Int)
 forT:aEc K m1.bk.length cs C
 len:cs.length=i
 wts:(pl<0->ws.length=iw/\∀w∈ws,1<=w/\w<=3)/\(¬pl<0->ws= [])
 nx:X1.nx<=Y.nx
 frm:∀c,c<X1.nx->PB mb db m1 c->PB mb db mi c/\(c≠xb->Y.h.get c=X1.h.get c)
 gx:Y.h.get xb=some (.cells [xk,xp,xf,xa,xw,.cb] false 0)
 ga:fX 1 X1 Y xa cs.length (bJ cs)
 gw:fX 1 X1 Y xw ws.length (bJ ws)
 pa:∀c,aX xa=some c->PB mb db mi c
 pw:∀c,aX xw=some c->PB mb db mi c
 ne:∀c,aX xa=some c->aX xw≠some c
theorem KdR.same{P:Nat->Prop}{S0 X X1:St}{mb db xb:Nat}{LV:List (Int×Int×Int)}{K:Nat}{m1:Mk}{xk xp xf:AV}{pl:Int}{Y Z:St}{i iw:Nat}{mi:Mk}{cs:bu}{C:List cP}{ws:bu}{xa xw:AV}(h:KdR P S0 X X1 mb db xb LV K m1 xk xp xf pl Y i iw mi cs C ws xa xw)(hx:xb<X1.nx)(hs:Same Y Z):KdR P S0 X X1 mb db xb LV K m1 xk xp xf pl Z i iw mi cs C ws xa xw where
 mkb:=h.mkb.same hs
 bld:=h.bld
 forT:=h.forT
 len:=h.len
 wts:=h.wts
 nx:=Au h.nx hs.1
 frm:=fun c hc hp=>⟨(h.frm c hc hp).1,fun hne=>(hs.2 c (Ae hc h.nx)).trans ((h.frm c hc hp).2 hne)⟩
 gx:=(hs.2 xb (Ae hx h.nx)).trans h.gx
 ga:=h.ga.step hs
 gw:=h.gw.step hs
 pa:=h.pa
 pw:=h.pw
 ne:=h.ne
def KdI(P:Nat->Prop)(S0 X X1:St)(mb db xb:Nat)(LV:List (Int×Int×Int))(K:Nat)(m1:Mk)(xk xp xf:AV)(pl:Int)(fB:Nat)(F0:Fr)(k:Nat)(A:bS)(Y:St):Prop:=A.inr=false/\(∀j,j<12->aD j A.F=aD j F0)/\∃i mi cs C ws xa xw,i+k=fB/\KdR P S0 X X1 mb db xb LV K m1 xk xp xf pl Y i i mi cs C ws xa xw/\aD 12 A.F= .int .i64 (i:Int)
theorem aIm{P:Nat->Prop}{S0 X X1:St}{F:Fr}{mb db tb xb:Nat}{LV:List (Int×Int×Int)}{m1:Mk}{xk xp xf v:AV}{pl mn sn:Int}{fB lev:Nat}{rows:bt}{Q:Out->bS->St->Prop}(H:Has fns)(hIH:aCM fns S0 mb db LV (lev+1))(hP:∀c,P c->c<X.nx)(hX:X.nx<=X1.nx)(hM:mS (fun c=>(P c\/X.nx<=c)/\c≠xb) S0 X1 mb db m1 LV)(hS:S0.nx<=X.nx)(hpre:aEr (lev+1) m1)(hpend:(fB:Int)<=m1.pend)(hmany:fB<=3)(hlev:lev<=800)
  (hLP:∀p∈LV,p.1<m1.ps) (hseen:uU (fun c=>PB mb db m1 c/\P c) X1 v rows) (hrn:rows.length=m1.ps.toNat) (hrl:∀l∈rows,l.length<=lev) (ltb:tb<X1.nx) (lxb:xb<X1.nx) (xxb:X.nx<=xb) (ntx:tb≠xb) (ptb:PB mb db m1 tb) (pxb:PB mb db m1 xb) (gtb:X1.h.get tb=some (.cells [.int .i64 pl,.int .i64 mn,.int .i64 sn] false 0)) (gxb:X1.h.get xb=some (.cells [xk,xp,xf,.cb,.cb,.cb] false 0)) (hsn:0<=sn/\sn<=1000)
  (p0:aD 0 F= .ptr mb 0) (p1:aD 1 F= .int .i64 (lev:Int)) (p2:aD 2 F=v) (p8:aD 8 F= .ptr tb 0) (p9:aD 9 F= .int .i64 (fB:Int)) (p11:aD 11 F= .ptr xb 0) (p12:aD 12 F= .int .i64 0)
  (hQ:∀F' Y mi cs C ws xa xw,(∀j,j<12->aD j F'=aD j F)->KdR P S0 X X1 mb db xb LV (LV.length - (lev+1)) m1 xk xp xf pl Y fB fB mi cs C ws xa xw->Q .normal ⟨F',false⟩ Y):lU fns aO4 ⟨F,false⟩ X1 Q:=by
 unfold aO4;refine aW (Q:=fun o A' Z=>o= .normal/\KdI P S0 X X1 mb db xb LV (LV.length - (lev+1)) m1 xk xp xf pl fB F 0 A' Z) (aL (bK (KdI P S0 X X1 mb db xb LV (LV.length - (lev+1)) m1 xk xp xf pl fB F) ?_ fB _ _ ⟨rfl,fun _ _=>rfl,0,m1,[],[],[],.cb,.cb,ay,⟨hM.mono fun c _ h=>⟨h.1,h.2,(by intro e;cases e),(by intro e;cases e)⟩,xZ.refl hpre,aEc.nil,rfl,⟨fun _=>⟨rfl,fun w hw=>by cases hw⟩,fun _=>rfl⟩,Ag _,fun c _ hp=>⟨hp,fun _=>rfl⟩,gxb,.inl ⟨rfl,rfl,rfl⟩,.inl ⟨rfl,rfl,rfl⟩,fun c hc=>(by cases hc),fun c hc=>(by cases hc),fun c hc=>(by cases hc)⟩,p12⟩)) ?_;rotate_left
 ·rintro o ⟨F',inr⟩ Z ⟨rfl,q0,hk,i,mi,cs,C,ws,xa,xw,hik,hR,_⟩;simp only at q0 hk;subst q0;obtain rfl:i=fB:=by omega
  exact hQ F' Z mi cs C ws xa xw hk hR
 rintro k ⟨G,inr⟩ Y ⟨q0,hk,i,mi,cs,C,ws,xa,xw,hik,hR,g12⟩;simp only at q0 hk g12;subst q0;have g0:aD 0 G= .ptr mb 0:=(hk 0 ay).trans p0;have g1:aD 1 G= .int .i64 (lev:Int):=(hk 1 ay).trans p1;have g2:aD 2 G=v:=(hk 2 ay).trans p2;have g8:aD 8 G= .ptr tb 0:=(hk 8 ay).trans p8;have g9:aD 9 G= .int .i64 (fB:Int):=(hk 9 ay).trans p9;have g11:aD 11 G= .ptr xb 0:=(hk 11 ay).trans p11;refine fE (df g9 g12 ?_);by_cases hlt:i<fB;rotate_left
 ·refine aK fe (bG ?_);refine af ?_;have hk0:k=0:=by omega
  subst hk0;refine⟨rfl,fun j hj=>?_,i,mi,cs,C,ws,xa,xw,hik,hR,ai g12⟩;rw[<-hk j hj];have:j=0\/j=1\/j=2\/j=3\/j=4\/j=5\/j=6\/j=7\/j=8\/j=9\/j=10\/j=11:=by omega
  rcases this with rfl | rfl | rfl | rfl | rfl | rfl | rfl | rfl | rfl | rfl | rfl | rfl<;>simp only[↓sU,sD,rE,↓reduceIte,rA]
 refine aM fe (aH ?_);refine af ?_;have w1:=dc i
 have gtY:=((hR.frm tb ltb ptb).2 ntx).trans gtb;have t0:=cV (p:=0) gtY rfl;refine aA (aL (aA (aW (Q:=fun o A' Z=>o= .normal/\A'.inr=false/\(∀j,j<13->aD j A'.F=aD j G)/\∃ws' xw',KdR P S0 X X1 mb db xb LV (LV.length - (lev+1)) m1 xk xp xf pl Z i (i+1) mi cs C ws' xa xw') (aA (aG ?_)) ?_)))
 ·refine dk g8 @aF @aE t0 ?_;by_cases hpl:pl<0
  ·refine aM (fg (Ab hpl)) ?_;have hmk:mS (fun c=>Pin P X xb xa xw c/\c<Y.nx) S0 Y mb db mi LV:=hR.mkb.mono fun c hc h=>⟨h,hc⟩;have hlw:=(hR.wts.1 hpl).1;refine aMG (Y0:=X1) (mb:=mb) (db:=db) (xb:=xb) (m:=mi) (LV:=LV) (pv:=xw) (l:=ws) H rfl hmk (ai g0) (ai g11) hR.gx ⟨(hR.frm xb lxb pxb).1,fun h=>h.1.2.1 rfl⟩ lxb hR.nx hR.gw (fun c hc=>⟨hR.pw c hc,fun h=>h.1.2.2.2 hc⟩) (fun c hc h=>az h.2) ay ?_;intro F' Z xw' w hk' hZ nZ kZ gZ hgZ hbZ w2 w3;have lowa:∀ {c},aX xa=some c->X1.nx<=c/\c<Y.nx:=fun hc=>⟨(hR.ga.blk hc).1,(hR.ga.blk hc).2.1⟩;refine⟨rfl,rfl,fun j hj=>?_,ws++ [w],xw',hZ.mono fun c hc h=>⟨h.1.1,h.1.2.1,h.1.2.2.1,fun e=>by have:=hbZ c e;have:=h.2;omega⟩,hR.bld,hR.forT,hR.len,⟨fun _=>⟨by rw[Ai,Av,hlw],fun u hu=>?_⟩,fun h=>absurd hpl h⟩,Au hR.nx nZ,fun c hc hp=>⟨(hR.frm c hc hp).1,fun hne=>(kZ c (Ae hc hR.nx) (hR.frm c hc hp).1 hne (fun e=>by have:=(hR.gw.blk e).1;omega)).trans ((hR.frm c hc hp).2 hne)⟩,gZ,hR.ga.move nZ fun c hc=>kZ c (lowa hc).2 (hR.pa c hc) (by have:=(lowa hc).1;omega) (hR.ne c hc),hgZ,hR.pa,fun c hc=>hR.mkb.p.fresh (hbZ c hc),fun c hc e=>by have:=hbZ c e;have:=(lowa hc).2;omega⟩
   ·have hj16:=hk' j ay;rw[hj16];have:j=0\/j=1\/j=2\/j=3\/j=4\/j=5\/j=6\/j=7\/j=8\/j=9\/j=10\/j=11\/j=12:=by omega
    rcases this with rfl | rfl | rfl | rfl | rfl | rfl | rfl | rfl | rfl | rfl | rfl | rfl | rfl<;>simp only[↓sU,sD,rE,↓reduceIte,rA]
   ·rcases Bf.1 hu with h | h
    ·exact(hR.wts.1 hpl).2 u h
    ·rw[Ce.1 h];exact⟨w2,w3⟩
  ·refine aK (fg (Aa hpl)) (aH ?_);refine af ?_;refine⟨fun j hj=>?_,ws,xw,⟨hR.mkb,hR.bld,hR.forT,hR.len,⟨fun h=>absurd h hpl,hR.wts.2⟩,hR.nx,hR.frm,hR.gx,hR.ga,hR.gw,hR.pa,hR.pw,hR.ne⟩⟩;have:j=0\/j=1\/j=2\/j=3\/j=4\/j=5\/j=6\/j=7\/j=8\/j=9\/j=10\/j=11\/j=12:=by omega
   rcases this with rfl | rfl | rfl | rfl | rfl | rfl | rfl | rfl | rfl | rfl | rfl | rfl | rfl<;>simp only[↓sU,sD,rE,↓reduceIte,rA]
 clear hR gtY t0;rintro o ⟨G1,inr⟩ Z ⟨rfl,q0,k1,ws',xw',hZ⟩;simp only at q0 k1;subst q0;have b0:aD 0 G1= .ptr mb 0:=(k1 0 ay).trans g0;have b1:aD 1 G1= .int .i64 (lev:Int):=(k1 1 ay).trans g1;have b2:aD 2 G1=v:=(k1 2 ay).trans g2;have b8:aD 8 G1= .ptr tb 0:=(k1 8 ay).trans g8;have b11:aD 11 G1= .ptr xb 0:=(k1 11 ay).trans g11;have b12:aD 12 G1= .int .i64 (i:Int):=(k1 12 ay).trans g12;have gtZ:=((hZ.frm tb ltb ptb).2 ntx).trans gtb;have hps:=hpre.ps;have hseenZ:uU (fun c=>PB mb db mi c/\P c) Z v rows:=hseen.move hZ.nx fun c hc hp=>⟨(hZ.frm c hc hp.1).2 (by have:=hP c hp.2;omega),(hZ.frm c hc hp.1).1,hp.2⟩;refine af ?_;refine bQ (af ?_);refine fE (af ?_);refine aIc (tb:=tb) (lev:=lev) (pl:=pl) (fB:=mn) (sn:=sn) (i:=(i:Int)) hseenZ hrl ay ay  (ai b2) (ai b8) gtZ (az hZ.nx) hsn (ai b12) (ag) (ah) ?_;intro F3 Z3 nv A' k3 e13 s3 hlA hlenA hsA;have c0:=k3 0 ay;have c1:=k3 1 ay;have c11:=k3 11 ay;have c12:=k3 12 ay;simp only[↓sU,sD,rE,↓reduceIte,rA,b0,b1,b11,b12] at c0 c1 c11 c12;refine af ?_;have hZ3:=hZ.same lxb s3;have hm3:mS (fun c=>Pin P X xb xa xw' c/\c<Z3.nx) S0 Z3 mb db mi LV:=hZ3.mkb.mono fun c hc h=>⟨h,hc⟩;have hnd:mi.bk.length=m1.bk.length+C.length:=by rw[hZ3.bld.bk,Ai]
 have hpn:=hZ3.bld.pend;have lowa:∀ {c},aX xa=some c->X1.nx<=c/\c<Z.nx:=fun hc=>⟨(hZ.ga.blk hc).1,(hZ.ga.blk hc).2.1⟩;have loww:∀ {c},aX xw'=some c->X1.nx<=c/\c<Z.nx:=fun hc=>⟨(hZ.gw.blk hc).1,(hZ.gw.blk hc).2.1⟩;have nZ3:=hZ3.nx;have hcl:=hZ3.len;refine aOD (Y0:=X1) (mb:=mb) (db:=db) (xb:=xb) (m:=mi) (LV:=LV) (xa:=xa) (l:=cs) (nv:=nv) (lev:=(lev:Int)) (G:=fun c m'=>c=(mi.bk.length:Int)/\∃B,xZ mi m' B 1/\rX (LV.length - (lev+1)) mi.bk.length B) rfl hm3 (fun c h=>h.2) c0 c1 ay c11 e13 hZ3.gx ⟨(hZ3.frm xb lxb pxb).1,fun h=>h.1.2.1 rfl⟩ lxb hZ3.nx hZ3.ga (fun c hc=>⟨hZ3.pa c hc,fun h=>h.1.2.2.1 hc⟩) ay ?_ ?_
 ·intro X4 x4;have hcall:=hIH X4 (fun c=>Pin P X xb xa xw' c/\c<Z3.nx) mi nv A' (hm3.same x4) (az x4.1) (hZ3.bld.pre hpre ay) ay (hsA.move x4.1 fun c hc hp=>⟨x4.2 c hc,hZ.mkb.p.fresh hp.1,⟨.inr (az hZ.nx),az hZ.nx,fun e=>by have:=(lowa e).2;omega,fun e=>by have:=(loww e).2;omega⟩,hp.2⟩) (by rw[hlA,hrn,hZ3.bld.ps]) hlenA (fun p hp=>by rw[hZ3.bld.ps];exact hLP p hp);rw[show((lev:Int)+1)=((lev+1:Nat):Int) by omega];refine aQ hcall ?_;rintro r W ⟨rfl,m',B,hB,hT,hW,bW⟩;exact⟨_,m',rfl,⟨rfl,B,hB,hT⟩,hW,bW⟩
 ·rintro F5 W xa' c m' k5 ⟨rfl,B,hB,hT⟩ hW nW pW kW gxW gaW paW;have d12:=k5 12 ay;rw[c12] at d12;refine af ?_;refine aG (df d12 w1 ?_);have hbt:=hZ3.bld.trans hB;rw[show((i:Int)+1)=((i+1:Nat):Int) by omega] at hbt;have hft:=hZ3.forT.snoc (B:=B) (by rw[<-hnd];exact hT);rw[<-hnd] at hft;have hxaz:∀ {c},aX xa'=some c->Z3.nx<=c:=fun hc=>(paW _ hc).1;refine⟨k - 1,ay,rfl,fun j hj=>?_,i+1,m',cs++ [(mi.bk.length:Int)],C++B,ws',xa',xw',ay,⟨hW.mono fun c hc h=>?_,hbt,hft,by rw[Ai,Av,hcl],hZ3.wts,ay,fun c hc hp=>⟨pW c ay (hZ3.frm c hc hp).1,fun hne=>(kW c ay (hZ3.frm c hc hp).1 hne (fun e=>by have:=(lowa e).1;omega)).trans ((hZ3.frm c hc hp).2 hne)⟩,gxW,gaW,hZ3.gw.move nW fun c hc=>kW c (by have:=(loww hc).2;have:=s3.1;omega) (hZ3.pw c hc) (by have:=(loww hc).1;omega) (fun e=>hZ3.ne c e hc),fun c hc=>(paW c hc).2,fun c hc=>pW c (by have:=(loww hc).2;have:=s3.1;omega) (hZ3.pw c hc),fun c hc e=>by have:=hxaz hc;have:=(loww e).2;have:=s3.1;omega⟩,ag⟩
  ·have e5:=k5 j ay;have e3:=k3 j ay;rw[<-hk j hj,<-k1 j ay];have:j=0\/j=1\/j=2\/j=3\/j=4\/j=5\/j=6\/j=7\/j=8\/j=9\/j=10\/j=11:=by omega
   rcases this with rfl | rfl | rfl | rfl | rfl | rfl | rfl | rfl | rfl | rfl | rfl | rfl<;>(simp only[↓sU,sD,rE,↓reduceIte,rA] at e3;simp only[↓sU,sD,rE,↓reduceIte,rA,e5,e3])
  ·rcases h.1 with h1 | h1
   ·exact⟨h1.1.1,h1.1.2.1,h.2,h1.1.2.2.2⟩
   ·exact⟨.inr ay,ay,h.2,fun e=>by have:=(loww e).2;have:=s3.1;omega⟩
end Go.Ev.Gl
