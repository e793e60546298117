import Derived.Test.YtdkehphobhnjoaaGl14
open Nat renaming reduceEqDiff -> rE, reduceAdd -> rA
set_option maxHeartbeats 0
set_option linter.unusedSimpArgs false
set_option linter.unusedVariables false
namespace Go.Ev.Gl
variable {fns:T dU}
theorem aAp{cs e:b6}{p t:Nat}(hp:p+e.length<=cs.length):(cs.take p++e++cs.drop (p+e.length))[t]? =if t<p then cs[t]? else if t<p+e.length then e[t - p]? else cs[t]? :=by
 have hl:(cs.take p).length=p:=by rw[Bp];omega
 rw[Bd];by_cases h1:t<p
 ·rw[if_pos h1,Al ay,Ek h1]
 ·rw[if_neg h1,Am ay,hl];by_cases h2:t<p+e.length
  ·rw[if_pos h2,Al ay]
  ·rw[if_neg h2,Am ay,Fa];congr 1;omega
theorem aFa{S:St}{b p sz:Nat}{cs e:b6}{o:Bool}(h:S.h.get b=some (.cells cs o sz))(hp:p+e.length<=cs.length):pJ S b p e=some ⟨S.h.set b (some (.cells (cs.take p++e++cs.drop (p+e.length)) o sz)),S.nx⟩:=by
 simp only[pJ,h,aN,vX,put_eq,if_pos hp]
theorem aPp{S:St}{b p sz n:Nat}{cs e:b6}{o:Bool}(h:S.h.get b=some (.cells cs o sz))(hp:p+e.length<=cs.length)(hn:e.length=n):mJ (.ptr b p) n e S=some (.undef,⟨S.h.set b (some (.cells (cs.take p++e++cs.drop (p+e.length)) o sz)),S.nx⟩):=by
 simp only[mJ,fL,hn,aFa h hp];rw[show Nat.beq n n=true from Fk n,aO];subst hn;rfl
def tI{α:Type}(k:Nat)(E:b6->α->Prop)(S0 X:St)(v:AV)(l:List α):Prop:=
 (v= .cb/\l= [])\/∃b c cs,v= .sl b 0 l.length c true/\l.length<=c/\cs.length=c * k/\S0.nx<=b/\b<X.nx/\X.h.get b=some (.cells cs true k)/\0<c/\∀ (i:Nat) (a:α),l[i]? =some a->∃e:b6,e.length=k/\(∀ (j:Nat) (x:AV),e[j]? =some x->cs[i * k+j]? =some x)/\E e a
section
variable {α:Type}{k:Nat}{E E':b6->α->Prop}{S0 X X':St}{v:AV}{l:List α}
theorem tI.none:tI k E S0 X .cb []:=.inl ⟨rfl,rfl⟩
theorem tI.move(h:tI k E S0 X v l)(hn:X.nx<=X'.nx)(hh:∀c,aX v=some c->X'.h.get c=X.h.get c)(hE:∀e a,E e a->E' e a):tI k E' S0 X' v l:=by
 rcases h with h | ⟨b,c,cs,rfl,h1,h2,h3,h4,h5,h6,h7⟩
 ·exact .inl h
 ·refine .inr ⟨b,c,cs,rfl,h1,h2,h3,Ae h4 hn,(hh b rfl).trans h5,h6,fun i a hi=>?_⟩;have⟨e,e1,e2,e3⟩:=h7 i a hi;exact⟨e,e1,e2,hE e a e3⟩
theorem tI.blk(h:tI k E S0 X v l){c:Nat}(hc:aX v=some c):S0.nx<=c/\c<X.nx:=by
 rcases h with⟨rfl,_⟩ | ⟨b,c',cs,rfl,h1,h2,h3,h4,h5,h6,h7⟩
 ·cases hc
 ·cases hc;exact⟨h3,h4⟩
theorem tI.is{E2:St->b6->α->Prop}(h:tI k E S0 X v l)(hE:∀e a,E e a->E2 X e a):aP k E2 X v l:=by
 rcases h with⟨rfl,rfl⟩ | ⟨b,c,cs,rfl,h1,h2,h3,h4,h5,h6,h7⟩
 ·exact .inl ⟨rfl,.inl rfl⟩
 ·refine .inr ⟨b,0,c,true,cs,rfl,h1,h4,by unfold cJ;rw[h5];rfl,fun i a hi=>?_⟩;have⟨e,e1,e2,e3⟩:=h7 i a hi;exact⟨e,e1,fun j x hj=>by rw[An];exact e2 j x hj,hE e a e3⟩
theorem tI.cells(h:tI k E S0 X v l):v.cells=some [v]:=by
 rcases h with⟨rfl,_⟩ | ⟨b,c,cs,rfl,_⟩<;>rfl
theorem tI.self(h:tI k E S0 X v l):cT v v=true:=by
 rcases h with⟨rfl,_⟩ | ⟨b,c,cs,rfl,_⟩
 ·rfl
 ·exact mR ..
theorem tI.len(h:tI k E S0 X v l):jD v=some (.int .i64 (l.length:Int)):=by
 rcases h with⟨rfl,rfl⟩ | ⟨b,c,cs,rfl,_⟩<;>rfl
theorem wE{i j k q:Nat}(h:i<j)(hq:q<k):i * k+q<j * k:=by
 have:(i+1) * k<=j * k:=Cj k h;rw[Ec,Fi] at this;omega
theorem tI.push{bytes:Nat}{x:AV}{e:b6}{a:α}(h:tI k E S0 X v l)(hk:0<k)(hS:S0.nx<=X.nx)(hl:mC x=some 1)(hs:eE x X.h k 1=some e)(he:e.length=k)(hE:E e a)(h1:l.length+1<=room)(h2:(l.length+1) * bytes<=room):
  ∃v' X',fN bytes k v x X=some (v',X')/\tI k E S0 X' v' (l++ [a])/\X.nx<=X'.nx/\(∀c,c<X.nx->aX v≠some c->X'.h.get c=X.h.get c)/\(∀c,aX v'=some c->aX v=some c\/X.nx<=c):=by
 rcases h with⟨rfl,rfl⟩ | ⟨b,c,cs,rfl,g1,g2,g3,g4,g5,g6,g7⟩
 ·refine⟨.sl X.nx 0 1 1 true,⟨X.h.set X.nx (some (.cells e true k)),X.nx+1⟩,?_,.inr ⟨X.nx,1,e,rfl,Ag _,by rw[he,Fi],hS,by simp,fq,Nat.one_pos,fun i a' hi=>?_⟩,by simp,fun c hc _=>(Same.alloc X _).2 c hc,fun c hc=>by cases hc;exact .inr (Ag _)⟩
  ·show(bH (mC x) fun j=>bH (eE x X.h k j) fun new=>yA .cb bytes k j new X)=_;rw[hl,aN,hs,aN];show pI bytes k 1 e X=_;have h1':1<=room:=by simpa using h1
   have h2':1 * bytes<=room:=by simpa using h2
   unfold pI;rw[show Nat.beq 1 0=false from rfl,aT,Ak h1',aO,Ak h2',aO];rfl
  ·cases i with
   | zero=>
    simp at hi;subst hi;exact⟨e,he,fun j y hj=>by rw[Cy,An];exact hj,hE⟩
   | succ i=>simp at hi
 ·by_cases hc:l.length+1<=c
  ·have hp:l.length * k+e.length<=cs.length:=by
    rw[he,g2,<-Cm];exact Cj k hc
   refine⟨.sl b 0 (l.length+1) c true,⟨X.h.set b (some (.cells (cs.take (l.length * k)++e++cs.drop (l.length * k+e.length)) true k)),X.nx⟩,?_,.inr ⟨b,c,cs.take (l.length * k)++e++cs.drop (l.length * k+e.length),by rw[Ai,Av],by rw[Ai,Av];exact hc,by simp;omega,g3,g4,fq,g6,fun i a' hi=>?_⟩,Ag _,fun c' _ hne=>?_,fun c' hc'=>.inl hc'⟩
   ·show(bH (mC x) fun j=>bH (eE x X.h k j) fun new=>yA (.sl b 0 l.length c true) bytes k j new X)=_;rw[hl,aN,hs,aN];show jK bytes k b 0 l.length c true 1 e X=_;unfold jK;rw[Ak hc,aO,show Nat.beq 1 0=false from rfl,aT,An,aFa g5 hp,aN]
   ·rw[Em] at hi;split at hi
    ·rename_i hlt;have⟨e',e1,e2,e3⟩:=g7 i a' hi;refine⟨e',e1,fun j y hj=>?_,e3⟩;have hjk:j<k:=by rw[<-e1];exact(Aj.1 hj).1
     rw[aAp hp,if_pos (wE hlt hjk)];exact e2 j y hj
    ·rename_i hlt;have h0:i - l.length=0:=by
      rcases Bk (i - l.length) with h0 | h0
      ·exact h0
      ·rw[Bz (by simp;omega)] at hi;cases hi
     rw[h0] at hi;cases hi;have hil:i=l.length:=by omega
     subst hil;refine⟨e,he,fun j y hj=>?_,hE⟩;have hjk:j<e.length:=(Aj.1 hj).1;rw[aAp hp,if_neg ay,if_pos ay,Ep];exact hj
   ·simp only;rw[dd,if_neg (fun e=>hne (by rw[e];rfl))]
  ·obtain rfl:c=l.length:=by omega
   refine⟨.sl X.nx 0 (l.length+1) (l.length+1) true,⟨(X.h.set b Option.none).set X.nx (some (.cells (cs++e) true k)),X.nx+1⟩,?_,.inr ⟨X.nx,l.length+1,cs++e,by rw[Ai,Av],by rw[Ai,Av];exact Ag _,by rw[Ai,g2,he,Cm],hS,by simp,fq,ay,fun i a' hi=>?_⟩,by simp,fun c' hc' hne=>?_,fun c' hc'=>by cases hc';exact .inr (Ag _)⟩
   ·show(bH (mC x) fun j=>bH (eE x X.h k j) fun new=>yA (.sl b 0 l.length l.length true) bytes k j new X)=_;rw[hl,aN,hs,aN];show jK bytes k b 0 l.length l.length true 1 e X=_;unfold jK;have e2:Nat.ble (l.length+1) l.length=false:=by rw[Ch];intro h;have:=Ba h;omega
    rw[e2,aT,Ak h1,aO,Ak h2,aO,g5,aN];have e3:cut cs 0 (l.length * k)=some cs:=by
     unfold cut;rw[fU,fZ,Di,if_pos ay,Bb ay]
    have e4:Nat.beq (0+l.length * k) (lO cs)=true:=by rw[fL,g2,Bg];omega
    have e5:Nat.beq k k=true:=Fk k;simp only[vJ,e3,aN,aO,e4,e5,grown,fW]
   ·rw[Em] at hi;split at hi
    ·rename_i hlt;have⟨e',e1,e2,e3⟩:=g7 i a' hi;refine⟨e',e1,fun j y hj=>?_,e3⟩;have hjk:j<k:=by rw[<-e1];exact(Aj.1 hj).1
     rw[Al (by rw[g2];exact wE hlt hjk)];exact e2 j y hj
    ·rename_i hlt;have h0:i - l.length=0:=by
      rcases Bk (i - l.length) with h0 | h0
      ·exact h0
      ·rw[Bz (by simp;omega)] at hi;cases hi
     rw[h0] at hi;cases hi;have hil:i=l.length:=by omega
     subst hil;refine⟨e,he,fun j y hj=>?_,hE⟩;rw[Am ay,g2,Ep];exact hj
   ·simp only;have:c'≠b:=fun e=>hne (by rw[e];rfl);rw[dd,if_neg ay,dd,if_neg this]
theorem tI.set(h:tI k E S0 X v l){i:Nat}{a:α}{e:b6}(hi:i<l.length)(he:e.length=k)(hE:E e a):
  ∃b p X',fC (.slice k) v i=some (.ptr b p)/\aX v=some b/\mJ (.ptr b p) k e X=some (.undef,X')/\tI k E S0 X' v (l.set i a)/\X'.nx=X.nx/\∀c,c≠b->X'.h.get c=X.h.get c:=by
 rcases h with⟨rfl,rfl⟩ | ⟨b,c,cs,rfl,g1,g2,g3,g4,g5,g6,g7⟩
 ·exact absurd hi (Cf i)
 ·have hp:0+i * k+e.length<=cs.length:=by
   rw[he,g2,An,<-Cm];exact Cj k ay
  refine⟨b,0+i * k,_,?_,rfl,aPp g5 hp he,.inr ⟨b,c,cs.take (0+i * k)++e++cs.drop (0+i * k+e.length),by rw[Ar],by rw[Ar];exact g1,by simp;omega,g3,g4,fq,g6,fun j a' hj=>?_⟩,rfl,fun c' hne=>by simp only;rw[dd,if_neg hne]⟩
  ·show cB (Nat.blt i l.length) _ _=_;rw[show Nat.blt i l.length=true from Ak hi,aO]
  ·rw[Du] at hj;split at hj
   ·rename_i e0;subst e0;try rw[if_pos hi] at hj
    cases hj;refine⟨e,he,fun q y hq=>?_,hE⟩;have hqk:q<e.length:=(Aj.1 hq).1;rw[aAp hp,if_neg ay,if_pos ay];rw[show i * k+q - (0+i * k)=q by omega];exact hq
   ·rename_i hne;have⟨e',e1,e2,e3⟩:=g7 j a' hj;refine⟨e',e1,fun q y hq=>?_,e3⟩;have hqk:q<k:=by rw[<-e1];exact(Aj.1 hq).1
    rw[aAp hp];rcases Nat.lt_or_gt_of_ne hne with h1 | h1
    ·have:i * k+e.length<=j * k:=by
      rw[he,<-Cm];exact Cj k h1
     rw[if_neg ay,if_neg ay];exact e2 q y hq
    ·rw[if_pos (by have:=wE h1 hqk;omega)];exact e2 q y hq
theorem tI.shrink(h:tI k E S0 X v l){n:Nat}(hn:l.length=n+1):∃v',(∀ (F:Fr) (hi:cU),fG (hi.val F)=some n->rQ (.slice k) v Option.none (some hi) Option.none F=some v')/\tI k E S0 X v' l.dropLast/\aX v'=aX v:=by
 rcases h with⟨rfl,rfl⟩ | ⟨b,c,cs,rfl,g1,g2,g3,g4,g5,g6,g7⟩
 ·cases hn
 ·refine⟨.sl b 0 n c true,fun F hi hx=>?_,.inr ⟨b,c,cs,by rw[List.length_dropLast,hn];rfl,by rw[List.length_dropLast];omega,g2,g3,g4,g5,g6,fun i a hj=>?_⟩,rfl⟩
  ·show aHp k b 0 l.length c true Option.none (some hi) Option.none F=_;unfold aHp;have e1:mD l.length c Option.none (some hi) Option.none F=some (0,n,c):=by
    unfold mD;show(bH (some c) fun m=>bH (fG (hi.val F)) fun h=>bH (some 0) fun l'=>_)=_;rw[hx];simp only[aN];rw[Ak (Ag c),aO,Ak (ay:n<=c),aO,Ak (Da n),aO]
   rw[e1,aN];have e2:Nat.beq c 0=false:=by rw[Ch];intro h;rw[Bg] at h;omega
   simp only[e2,aT,Cy,Bh,Eu];rfl
  ·have hlt:i<l.dropLast.length:=(Aj.1 hj).1;rw[List.getElem?_dropLast] at hj;split at hj
   ·exact g7 i a hj
   ·cases hj
end
theorem tF{S:St}{x n:Int}(H:Has fns)(h1:1<=n)(h2:n<=1000000000):gH fns (.fn 15 [] []) [.int .i64 x,.int .i64 n] S fun r X=>Same S X/\∃y,r= .int .i64 y/\0<=y/\y<n:=by
 have hr:=aEC (.p .int) (a:=x) (b:=n) ay;have hb1:=Int.tmod_lt_of_pos x (ay:0<n);have hb2:=Int.lt_tmod_of_pos x (ay:0<n);generalize x.tmod n=y at *;refine cF H.f15 (by simp) ?_;refine af ?_;refine bQ (af ?_);refine bQ (cm hr ?_);refine fE (af ?_);by_cases hy:y<0
 ·have w1:IntKind.i64.wrap (y+n)=y+n:=wrap_i64 ay ay;refine aM (fg (Ab hy)) ?_;refine aG (cm w1 ?_);refine bQ (af ?_);refine aR (af ?_);exact⟨de _,y+n,rfl,ay,ay⟩
 ·refine aK (fg (Aa hy)) (aH ?_);refine af ?_;refine bQ (af ?_);refine aR (af ?_);exact⟨de _,y,rfl,ay,ay⟩
structure vH(X:St)(db:Nat)(lv:AV)(l:bu):Prop where
 lt:db<X.nx
 c:∃at':Nat,X.h.get db=some (.cells [lv,.int .i64 (at':Int)] false 0)/\at'<=l.length
 il:bO .i64 X lv l
 ne:aX lv≠some db
 bd:l.length<=140737488355328
theorem vH.move{X X':St}{db:Nat}{lv:AV}{l:bu}(h:vH X db lv l)(hn:X.nx<=X'.nx)(hd:X'.h.get db=X.h.get db)(hl:∀c,aX lv=some c->X'.h.get c=X.h.get c):vH X' db lv l:=by
 have⟨a,h1,h2⟩:=h.c;exact⟨Ae h.lt hn,⟨a,hd.trans h1,h2⟩,fO h.il hn hl,h.ne,h.bd⟩
theorem nH{X:St}{db:Nat}{lv:AV}{l:bu}{n:Int}(H:Has fns)(h:vH X db lv l)(h1:1<=n)(h2:n<=1000000000):gH fns (.fn 77 [] []) [.ptr db 0,.int .i64 n] X fun r X'=>cC db X X'/\vH X' db lv l/\∃y,r= .int .i64 y/\0<=y/\y<n:=by
 have⟨a,hc,ha⟩:=h.c;have hbd:=h.bd;have sl:=bO.self h.il;refine cF H.f77 (by simp) ?_;refine af ?_;refine bQ (af ?_);refine aA (aA (iJ ?_));by_cases hlt:(l.length:Int)<=(a:Int)
 ·simp only[↓sU,sD,rE,↓reduceIte,rA,aY,bN,bB,aF,aU,aE,aJw hc,aJL hc,sl,h.il.len,Ah,Ab (show(a:Int)≥(l.length:Int) from hlt)];refine aM (ag) ?_;refine bQ (af ?_);refine aR (af ?_);exact⟨⟨Cc _ _,fun c _ _=>rfl⟩,h.move (Cc _ _) rfl fun _ _=>rfl,0,rfl,ay,ay⟩
 simp only[↓sU,sD,rE,↓reduceIte,rA,aY,bN,bB,aF,aU,aE,aJw hc,aJL hc,sl,h.il.len,Ah,Aa (show ¬ (a:Int)≥(l.length:Int) from hlt)];refine aK fe (aH ?_);refine af ?_;have hal:a<l.length:=by omega
 have w1:=dc a
 have w2:IntKind.i64.wrap (((a+1:Nat):Int) - 1)=(a:Int):=by rw[wrap_i64 ay ay];omega
 generalize hX0:(⟨X.h,X.nx+_⟩:St)=X0;have e0:X0.h=X.h:=by rw[<-hX0]
 have n0:X.nx<=X0.nx:=by rw[<-hX0];exact Cc _ _
 clear hX0;have hc0:X0.h.get db=some (.cells [lv,.int .i64 (a:Int)] false 0):=by rw[e0];exact hc
 refine bQ (du @aY @bB @aF @aE (aJL hc0) w1 ?_);refine fD (v:=.undef) (S1:=⟨X0.h.set db (some (.cells [lv,.int .i64 ((a+1:Nat):Int)] false 0)),X0.nx⟩) (fun call=>by refine df @dS @cH ?_;exact stc (cs:=[lv,.int .i64 (a:Int)]) (p:=1) (S:=X0) hc0 (by simp)) ?_;refine af ?_;generalize hX1:(⟨X0.h.set db (some (.cells [lv,.int .i64 ((a+1:Nat):Int)] false 0)),X0.nx⟩:St)=X1;have hc1:X1.h.get db=some (.cells [lv,.int .i64 ((a+1:Nat):Int)] false 0):=by rw[<-hX1];simp only;rw[dd,if_pos rfl]
 have k1:cC db X X1:=by rw[<-hX1];exact⟨n0,fun c _ hne=>by simp only;rw[dd,if_neg hne,e0]⟩
 clear hX1;have hl1:bO .i64 X1 lv l:=fO h.il k1.1 fun c hcc=>k1.2 c (fM h.il hcc) fun e=>h.ne (by rw[hcc,e]);have D1:vH X1 db lv l:=⟨Ae h.lt k1.1,⟨a+1,hc1,hal⟩,hl1,h.ne,h.bd⟩;have ia:=hl1.cn hal;have la:=hl1.ld hal;have⟨b1,o1,hp1,lb1⟩:=bO.place hl1 hal;rw[hp1] at ia la;have ldb:=D1.lt;refine aA (dO (fun _=>False) ?_);intro X2 x2;simp only[↓sU,sD,rE,↓reduceIte,rA,aY,bN,bB,aF,aU,aE,aJw hc1,aJL hc1,sl,ldb,Ap,w2,aJ,ia,la,lb1];refine cL rfl ?_;refine af ?_;refine aQ (tF H h1 h2) ?_;rintro _ X3 ⟨x3,y,rfl,hy1,hy2⟩;refine⟨x3,?_⟩;refine aR (af ?_);have s13:=x2.trans x3;exact⟨⟨Au k1.1 s13.1,fun c hcx hne=>(s13.2 c (Ae hcx k1.1)).trans (k1.2 c hcx hne)⟩,D1.move s13.1 (s13.2 _ D1.lt) fun c hcc=>s13.2 c (fM hl1 hcc),y,rfl,hy1,hy2⟩
structure Mk where
 lvl:AV
 va:AV
 na:AV
 ia:AV
 lv:AV
 most:Int
 pend:Int
 ps:Int
 zero:Bool
 small:Bool
 dl:bu
 bk:List cP
 bn:List iS
 views:List (Int×Int×Int)
def PB(mb db:Nat)(m:Mk)(c:Nat):Prop:=c≠mb/\c≠db/\aX m.na≠some c/\aX m.ia≠some c/\aX m.va≠some c
def fP(mb db:Nat)(m:Mk)(X:St)(m':Mk)(X':St):Prop:=X.nx<=X'.nx/\∀c,c<X.nx->PB mb db m c->X'.h.get c=X.h.get c/\PB mb db m' c
theorem fP.refl{mb db:Nat}{m:Mk}{X:St}:fP mb db m X m X:=⟨Ag _,fun _ _ h=>⟨rfl,h⟩⟩
theorem fP.trans{mb db:Nat}{m m' m'':Mk}{X X' X'':St}(h:fP mb db m X m' X')(h':fP mb db m' X' m'' X''):fP mb db m X m'' X'':=
 ⟨Au h.1 h'.1,fun c hc hp=>by
  have⟨a,b⟩:=h.2 c hc hp;have⟨a',b'⟩:=h'.2 c (Ae hc h.1) b;exact⟨a'.trans a,b'⟩⟩
theorem fP.same{mb db:Nat}{m:Mk}{X X':St}(h:Same X X'):fP mb db m X m X':=⟨h.1,fun c hc hp=>⟨h.2 c hc,hp⟩⟩
def aLJ(mb db:Nat)(P:Nat->Prop)(m:Mk)(X:St)(m':Mk)(X':St):Prop:=X.nx<=X'.nx/\∀c,c<X.nx->PB mb db m c->P c->X'.h.get c=X.h.get c/\PB mb db m' c
theorem fP.p{mb db:Nat}{P:Nat->Prop}{m m':Mk}{X X':St}(h:fP mb db m X m' X'):aLJ mb db P m X m' X':=⟨h.1,fun c hc hp _=>h.2 c hc hp⟩
theorem aLJ.np{mb db:Nat}{P:Nat->Prop}{m m':Mk}{X X':St}(h:aLJ mb db P m X m' X'):∀c,c<X.nx->(PB mb db m c/\P c)->X'.h.get c=X.h.get c/\(PB mb db m' c/\P c):=fun c hc hp=>⟨(h.2 c hc hp.1 hp.2).1,(h.2 c hc hp.1 hp.2).2,hp.2⟩
def PlE(_:St)(cs:b6)(a:Int×Int×Int):Prop:=cs= [.int .i64 a.1,.int .i64 a.2.1,.int .i64 a.2.2]
def aMZ(cs:b6)(a:iS):Prop:=cs= [.int .i64 a.player,.int .i64 a.ca]
def VwE(X:St)(P:Nat->Prop)(cs:b6)(a:Int×Int×Int):Prop:=∃sv l,cs= [.int .i64 a.1,.int .i64 a.2.1,sv,.int .i64 a.2.2]/\bO .i64 X sv l/\l.length<=1000/\∀c,aX sv=some c->P c
theorem VwE.move{X X':St}{P P':Nat->Prop}{e:b6}{a:Int×Int×Int}(h:VwE X P e a)(hn:X.nx<=X'.nx)(hh:∀c,c<X.nx->P c->X'.h.get c=X.h.get c/\P' c):VwE X' P' e a:=by
 obtain⟨sv,l,rfl,h1,h2,h3⟩:=h;exact⟨sv,l,rfl,fO h1 hn fun c hc=>(hh c (fM h1 hc) (h3 c hc)).1,h2,fun c hc=>(hh c (fM h1 hc) (h3 c hc)).2⟩
structure MkP(P:Nat->Prop)(S0 X:St)(mb db:Nat)(m:Mk)(LV:List (Int×Int×Int)):Prop where
 lt:mb<X.nx
 ge:S0.nx<=mb
 dge:S0.nx<=db
 ne:mb≠db
 dr:vH X db m.lv m.dl
 dp:∀c,aX m.lv=some c->PB mb db m c/\P c
 lev:aP 3 PlE X m.lvl LV
 levp:∀c,aX m.lvl=some c->PB mb db m c/\P c
 nod:tI 6 (aAD X fun c=>PB mb db m c/\P c) S0 X m.na m.bk
 inf:tI 2 aMZ S0 X m.ia m.bn
 vw:tI 4 (VwE X fun c=>PB mb db m c/\P c) S0 X m.va m.views
 d1:∀c,aX m.na=some c->c≠mb/\c≠db/\aX m.ia≠some c/\aX m.va≠some c
 d2:∀c,aX m.ia=some c->c≠mb/\c≠db/\aX m.va≠some c
 d3:∀c,aX m.va=some c->c≠mb/\c≠db
def eI(db:Nat)(m:Mk):b6:=[.ptr db 0,m.lvl,m.va,.int .i64 m.most,.int .i64 m.pend,.bool m.zero,.bool m.small,.int .i64 m.ps,m.na,m.ia]
structure mS(P:Nat->Prop)(S0 X:St)(mb db:Nat)(m:Mk)(LV:List (Int×Int×Int)):Prop where
 p:MkP P S0 X mb db m LV
 g:X.h.get mb=some (.cells (eI db m) false 0)
section
variable {P:Nat->Prop}{S0 X X':St}{mb db:Nat}{m m':Mk}{LV:List (Int×Int×Int)}
theorem aCC{k:Nat}{α:Type}{E:St->b6->α->Prop}{v:AV}{l:List α}{c:Nat}(h:aP k E X v l)(hc:aX v=some c):c<X.nx:=by
 rcases h with⟨_,rfl | rfl⟩ | ⟨b,off,cap,o,cs,rfl,_,hb,_⟩
 ·cases hc
 ·cases hc
 ·cases hc;exact hb
theorem MkP.of(h:MkP P S0 X mb db m LV)(K:aLJ mb db P m X m' X')(e1:m'.lvl=m.lvl)(e2:m'.lv=m.lv)(e3:m'.dl=m.dl)(hdr:vH X' db m.lv m.dl)(hna:tI 6 (aAD X' fun c=>PB mb db m' c/\P c) S0 X' m'.na m'.bk)(hia:tI 2 aMZ S0 X' m'.ia m'.bn)(hva:tI 4 (VwE X' fun c=>PB mb db m' c/\P c) S0 X' m'.va m'.views)
  (d1:∀c,aX m'.na=some c->c≠mb/\c≠db/\aX m'.ia≠some c/\aX m'.va≠some c) (d2:∀c,aX m'.ia=some c->c≠mb/\c≠db/\aX m'.va≠some c) (d3:∀c,aX m'.va=some c->c≠mb/\c≠db):MkP P S0 X' mb db m' LV where
 lt:=Ae h.lt K.1
 ge:=h.ge
 dge:=h.dge
 ne:=h.ne
 dr:=by rw[e2,e3];exact hdr
 dp:=fun c hc=>by rw[e2] at hc;exact(K.np c (fM h.dr.il hc) (h.dp c hc)).2
 lev:=by rw[e1];exact aP.moveB h.lev K.1 (fun c hc=>(K.np c (aCC h.lev hc) (h.levp c hc)).1) fun _ _ h=>h
 levp:=fun c hc=>by rw[e1] at hc;exact(K.np c (aCC h.lev hc) (h.levp c hc)).2
 nod:=hna
 inf:=hia
 vw:=hva
 d1:=d1
 d2:=d2
 d3:=d3
theorem MkP.keep(h:MkP P S0 X mb db m LV)(hn:X.nx<=X'.nx)(hk:∀c,c<X.nx->c≠mb->c≠db->X'.h.get c=X.h.get c)(hdr:vH X' db m.lv m.dl)(e1:m'.lvl=m.lvl)(e2:m'.lv=m.lv)(e3:m'.dl=m.dl)(e4:m'.na=m.na)(e5:m'.bk=m.bk)(e6:m'.ia=m.ia)(e7:m'.bn=m.bn)(e8:m'.va=m.va)(e9:m'.views=m.views):MkP P S0 X' mb db m' LV/\fP mb db m X m' X':=by
 have K:fP mb db m X m' X':=⟨hn,fun c hc hp=>⟨hk c hc hp.1 hp.2.1,by unfold PB;rw[e4,e6,e8];exact hp⟩⟩;refine⟨h.of K.p e1 e2 e3 hdr ?_ ?_ ?_ ?_ ?_ ?_,K⟩
 ·rw[e4,e5];exact h.nod.move hn (fun c hc=>hk c (h.nod.blk hc).2 (h.d1 c hc).1 (h.d1 c hc).2.1) fun e a hE=>hE.move hn (fP.p K).np
 ·rw[e6,e7];exact h.inf.move hn (fun c hc=>hk c (h.inf.blk hc).2 (h.d2 c hc).1 (h.d2 c hc).2.1) fun e a hE=>hE
 ·rw[e8,e9];exact h.vw.move hn (fun c hc=>hk c (h.vw.blk hc).2 (h.d3 c hc).1 (h.d3 c hc).2) fun e a hE=>hE.move hn (fP.p K).np
 ·rw[e4,e6,e8];exact h.d1
 ·rw[e6,e8];exact h.d2
 ·rw[e8];exact h.d3
theorem mS.same(h:mS P S0 X mb db m LV)(hs:Same X X'):mS P S0 X' mb db m LV:=
 ⟨(h.p.keep hs.1 (fun c hc _ _=>hs.2 c hc) (h.p.dr.move hs.1 (hs.2 _ h.p.dr.lt) fun c hc=>hs.2 c (fM h.p.dr.il hc)) rfl rfl rfl rfl rfl rfl rfl rfl rfl).1,(hs.2 _ h.p.lt).trans h.g⟩
theorem mS.drawn(h:mS P S0 X mb db m LV)(hs:cC db X X')(hd:vH X' db m.lv m.dl):mS P S0 X' mb db m LV/\fP mb db m X m X':=by
 have⟨a,b⟩:=h.p.keep (m':=m) hs.1 (fun c hc _ h2=>hs.2 c hc h2) hd rfl rfl rfl rfl rfl rfl rfl rfl rfl;exact⟨⟨a,(hs.2 _ h.p.lt h.p.ne).trans h.g⟩,b⟩
theorem MkP.put(h:MkP P S0 X mb db m LV)(g:X'.h.get mb=some (.cells (eI db m) false 0))(hn:X.nx<=X'.nx)(hk:∀c,c<X.nx->c≠mb->X'.h.get c=X.h.get c):mS P S0 X' mb db m LV:=
 ⟨(h.keep (m':=m) hn (fun c hc h1 _=>hk c hc h1) (h.dr.move hn (hk _ h.dr.lt h.ne.symm) fun c hc=>hk c (fM h.dr.il hc) (h.dp c hc).1.1) rfl rfl rfl rfl rfl rfl rfl rfl rfl).1,g⟩
theorem mS.local(h:mS P S0 X mb db m LV)(hn:X.nx<=X'.nx)(hk:∀c,c<X.nx->(¬PB mb db m c\/P c)->X'.h.get c=X.h.get c):mS P S0 X' mb db m LV:=by
 have K:aLJ mb db P m X m X':=⟨hn,fun c hc hp hP=>⟨hk c hc (.inr hP),hp⟩⟩;refine⟨h.p.of K rfl rfl rfl (h.p.dr.move hn (hk _ h.p.dr.lt (.inl fun hp=>hp.2.1 rfl)) fun c hc=>hk c (fM h.p.dr.il hc) (.inr (h.p.dp c hc).2)) (h.p.nod.move hn (fun c hc=>hk c (h.p.nod.blk hc).2 (.inl fun hp=>hp.2.2.1 hc)) fun e a hE=>hE.move hn K.np) (h.p.inf.move hn (fun c hc=>hk c (h.p.inf.blk hc).2 (.inl fun hp=>hp.2.2.2.1 hc)) fun e a hE=>hE) (h.p.vw.move hn (fun c hc=>hk c (h.p.vw.blk hc).2 (.inl fun hp=>hp.2.2.2.2 hc)) fun e a hE=>hE.move hn K.np) h.p.d1 h.p.d2 h.p.d3,?_⟩;exact(hk _ h.p.lt (.inl fun hp=>hp.1 rfl)).trans h.g
theorem MkP.mono{P':Nat->Prop}(h:MkP P S0 X mb db m LV)(hP:∀c,c<X.nx->P c->P' c):MkP P' S0 X mb db m LV where
 lt:=h.lt
 ge:=h.ge
 dge:=h.dge
 ne:=h.ne
 dr:=h.dr
 dp:=fun c hc=>⟨(h.dp c hc).1,hP c (fM h.dr.il hc) (h.dp c hc).2⟩
 lev:=h.lev
 levp:=fun c hc=>⟨(h.levp c hc).1,hP c (aCC h.lev hc) (h.levp c hc).2⟩
 nod:=h.nod.move (Ag _) (fun _ _=>rfl) fun e a hE=>hE.move (Ag _) fun c hc hp=>⟨rfl,hp.1,hP c hc hp.2⟩
 inf:=h.inf
 vw:=h.vw.move (Ag _) (fun _ _=>rfl) fun e a hE=>hE.move (Ag _) fun c hc hp=>⟨rfl,hp.1,hP c hc hp.2⟩
 d1:=h.d1
 d2:=h.d2
 d3:=h.d3
theorem mS.mono{P':Nat->Prop}(h:mS P S0 X mb db m LV)(hP:∀c,c<X.nx->P c->P' c):mS P' S0 X mb db m LV:=⟨h.p.mono hP,h.g⟩
theorem MkP.pushN(h:MkP P S0 X mb db m LV){v':AV}{l':List cP}(hn:X.nx<=X'.nx)(hk:∀c,c<X.nx->aX m.na≠some c->X'.h.get c=X.h.get c)(hb:∀c,aX v'=some c->aX m.na=some c\/X.nx<=c)(ha:tI 6 (aAD X fun c=>PB mb db m c/\P c) S0 X' v' l'):MkP P S0 X' mb db {m with na:=v',bk:=l'} LV/\fP mb db m X {m with na:=v',bk:=l'} X':=by
 have K:fP mb db m X {m with na:=v',bk:=l'} X':=⟨hn,fun c hc hp=>⟨hk c hc hp.2.2.1,hp.1,hp.2.1,fun e=>(hb c e).elim (fun h1=>hp.2.2.1 h1) fun h1=>absurd hc (Nat.not_lt.2 h1),hp.2.2.2.1,hp.2.2.2.2⟩⟩;have old:∀ {c},aX m.na=some c->c<X.nx:=fun hc=>(h.nod.blk hc).2;refine⟨h.of K.p rfl rfl rfl (h.dr.move hn (hk _ h.dr.lt fun e=>(h.d1 _ e).2.1 rfl) fun c hc=>hk c (fM h.dr.il hc) (h.dp c hc).1.2.2.1) (ha.move (Ag _) (fun _ _=>rfl) fun e a hE=>hE.move hn (fP.p K).np) (h.inf.move hn (fun c hc=>hk c (h.inf.blk hc).2 fun e=>(h.d1 c e).2.2.1 hc) fun e a hE=>hE) (h.vw.move hn (fun c hc=>hk c (h.vw.blk hc).2 fun e=>(h.d1 c e).2.2.2 hc) fun e a hE=>hE.move hn (fP.p K).np) (fun c hc=>?_) h.d2 h.d3,K⟩;rcases hb c hc with h1 | h1
 ·exact h.d1 c h1
 ·exact⟨az h.lt,az h.dr.lt,fun e=>by have:=(h.inf.blk e).2;omega,fun e=>by have:=(h.vw.blk e).2;omega⟩
theorem MkP.pushI(h:MkP P S0 X mb db m LV){v':AV}{l':List iS}(hn:X.nx<=X'.nx)(hk:∀c,c<X.nx->aX m.ia≠some c->X'.h.get c=X.h.get c)(hb:∀c,aX v'=some c->aX m.ia=some c\/X.nx<=c)(ha:tI 2 aMZ S0 X' v' l'):MkP P S0 X' mb db {m with ia:=v',bn:=l'} LV/\fP mb db m X {m with ia:=v',bn:=l'} X':=by
 have K:fP mb db m X {m with ia:=v',bn:=l'} X':=⟨hn,fun c hc hp=>⟨hk c hc hp.2.2.2.1,hp.1,hp.2.1,hp.2.2.1,fun e=>(hb c e).elim (fun h1=>hp.2.2.2.1 h1) fun h1=>absurd hc (Nat.not_lt.2 h1),hp.2.2.2.2⟩⟩;refine⟨h.of K.p rfl rfl rfl (h.dr.move hn (hk _ h.dr.lt fun e=>(h.d2 _ e).2.1 rfl) fun c hc=>hk c (fM h.dr.il hc) (h.dp c hc).1.2.2.2.1) (h.nod.move hn (fun c hc=>hk c (h.nod.blk hc).2 (h.d1 c hc).2.2.1) fun e a hE=>hE.move hn (fP.p K).np) ha (h.vw.move hn (fun c hc=>hk c (h.vw.blk hc).2 fun e=>(h.d2 c e).2.2 hc) fun e a hE=>hE.move hn (fP.p K).np) (fun c hc=>⟨(h.d1 c hc).1,(h.d1 c hc).2.1,fun e=>?_,(h.d1 c hc).2.2.2⟩) (fun c hc=>?_) h.d3,K⟩
 ·rcases hb c e with h1 | h1
  ·exact(h.d1 c hc).2.2.1 h1
  ·have:=(h.nod.blk hc).2;omega
 ·rcases hb c hc with h1 | h1
  ·exact h.d2 c h1
  ·exact⟨az h.lt,az h.dr.lt,fun e=>by have:=(h.vw.blk e).2;omega⟩
theorem MkP.pushV(h:MkP P S0 X mb db m LV){v':AV}{l':List (Int×Int×Int)}(hn:X.nx<=X'.nx)(hk:∀c,c<X.nx->aX m.va≠some c->X'.h.get c=X.h.get c)(hb:∀c,aX v'=some c->aX m.va=some c\/X.nx<=c)(ha:tI 4 (VwE X fun c=>PB mb db m c/\P c) S0 X' v' l'):MkP P S0 X' mb db {m with va:=v',views:=l'} LV/\fP mb db m X {m with va:=v',views:=l'} X':=by
 have K:fP mb db m X {m with va:=v',views:=l'} X':=⟨hn,fun c hc hp=>⟨hk c hc hp.2.2.2.2,hp.1,hp.2.1,hp.2.2.1,hp.2.2.2.1,fun e=>(hb c e).elim (fun h1=>hp.2.2.2.2 h1) fun h1=>absurd hc (Nat.not_lt.2 h1)⟩⟩;refine⟨h.of K.p rfl rfl rfl (h.dr.move hn (hk _ h.dr.lt fun e=>(h.d3 _ e).2 rfl) fun c hc=>hk c (fM h.dr.il hc) (h.dp c hc).1.2.2.2.2) (h.nod.move hn (fun c hc=>hk c (h.nod.blk hc).2 (h.d1 c hc).2.2.2) fun e a hE=>hE.move hn (fP.p K).np) (h.inf.move hn (fun c hc=>hk c (h.inf.blk hc).2 (h.d2 c hc).2.2) fun e a hE=>hE) (ha.move (Ag _) (fun _ _=>rfl) fun e a hE=>hE.move hn (fP.p K).np) (fun c hc=>⟨(h.d1 c hc).1,(h.d1 c hc).2.1,(h.d1 c hc).2.2.1,fun e=>?_⟩) (fun c hc=>⟨(h.d2 c hc).1,(h.d2 c hc).2.1,fun e=>?_⟩) (fun c hc=>?_),K⟩
 ·rcases hb c e with h1 | h1
  ·exact(h.d1 c hc).2.2.2 h1
  ·have:=(h.nod.blk hc).2;omega
 ·rcases hb c e with h1 | h1
  ·exact(h.d2 c hc).2.2 h1
  ·have:=(h.inf.blk hc).2;omega
 ·rcases hb c hc with h1 | h1
  ·exact h.d3 c h1
  ·exact⟨az h.lt,az h.dr.lt⟩
end
def aRZ(X:St)(F:Fr)(db:Nat)(lv pv:AV)(dl:bu)(F':Fr)(Z:St)(ps:List iH):Prop:=∃w:Int, -3<=w/\w<=3/\ps= [⟨8,X.nx+8,.cells [.int .i64 w] false 0⟩]/\X.nx+12<=Z.nx/\cC db X Z/\vH Z db lv dl/\(∀j,j<6->aD j F'=aD j F)/\aD 17 F'=pv/\aD 24 F'= .sl (X.nx+8) 0 1 1 false
theorem aLN{ops:List AO}{P:Nat->Prop}{S0 Y0 X:St}{F:Fr}{inr:Bool}{mb db xb:Nat}{m:Mk}{LV:List (Int×Int×Int)}{k p f xa xw pv:AV}{l:bu}{Q:Out->bS->St->Prop}(H:Has fns)(he:ops=aMD++aMs)(hM:mS P S0 X mb db m LV)(p0:aD 0 F= .ptr mb 0)(p4:aD 4 F= .ptr xb 0)(gx:X.h.get xb=some (.cells [k,p,f,xa,xw,pv] false 0))(hx:PB mb db m xb/\¬P xb)(lx:xb<Y0.nx)(hY:Y0.nx<=X.nx)(hg:fX 1 Y0 X pv l.length (bJ l))(hb:∀c,aX pv=some c->PB mb db m c/\¬P c)(hP:∀c,X.nx<=c->¬P c)(hl:l.length<=1000)
  (hQ:∀F' Z pv' w,(∀j,j<6->aD j F'=aD j F)->mS P S0 Z mb db m LV->X.nx<=Z.nx->(∀c,c<X.nx->PB mb db m c->c≠xb->aX pv≠some c->Z.h.get c=X.h.get c)->Z.h.get xb=some (.cells [k,p,f,xa,xw,pv'] false 0)->fX 1 Y0 Z pv' (l++ [w]).length (bJ (l++ [w]))->(∀c,aX pv'=some c->X.nx<=c)-> -3<=w->w<=3->Q .normal ⟨F',inr⟩ Z):lU fns (.drw ops) ⟨F,inr⟩ X Q:=by
 have hlen:ops.length=12:=by rw[he];rfl
 have lxX:xb<X.nx:=Ae lx hY;have lmX:=hM.p.lt;have nxd:xb≠db:=hx.1.2.1;have nmd:=hM.p.ne;have gm0:=cV (p:=0) hM.g rfl;have sp:=hg.self;refine aCu (W:=fun c=>c=db) (K:=9) (R:=aRZ X F db m.lv pv m.dl) he rfl rfl (fun X1 x1 hh1 nn1=>?_) ?_
 ·have gxl:=cV (p:=5) gx rfl;unfold aMD;simp only[↓sU,sD,rE,↓reduceIte,rA,p0,p4,aY,bN,bB,aF,aU,aE,gxl,gm0,sp,lxX,lmX,nxd,nmd,Ap];refine lL rfl ?_;refine af ?_;refine aQ (nH H (hM.same x1).p.dr (n:=7) bg bg) ?_;rintro _ X2 ⟨x2,d2,y,rfl,y1,y2⟩;refine⟨⟨x2.1,fun c hc hne=>x2.2 c (Ae hc x1.1) hne⟩,?_⟩;have w1:IntKind.i64.wrap (y - 3)=y - 3:=wrap_i64 ay ay;have he1:=fun(F:Fr) (id:Nat) (h:aD 23 F= .int .i64 (y - 3))=>nT (t:=3) (z:=.int .i64 0) (x:=.t 23) (F:=F) (id:=id) (k:=.i64) (n:=y - 3) h;refine df w1 he1 ?_;refine⟨y - 3,ay,ay,ag,(by have h9:X1.nx<=X2.nx:=x2.1;omega),⟨Au x1.1 x2.1,fun c hc hne=>(x2.2 c (Ae hc x1.1) hne).trans (x1.2 c hc)⟩,d2,fun j hj=>?_,by refine⟨?_,?_⟩<;>simp only[↓sU,sD,rE,↓reduceIte,rA]⟩;have:j=0\/j=1\/j=2\/j=3\/j=4\/j=5:=by omega
  rcases this with rfl | rfl | rfl | rfl | rfl | rfl<;>simp only[↓sU,sD,rE,↓reduceIte,rA]
 rintro F' S' ps hs ls ⟨w,w1,w2,rfl,nZ,sZ,dZ,hk,pA,pB⟩ hlast hld;have p4':aD 4 F'= .ptr xb 0:=(hk 4 ay).trans p4;have m1:∀i,i<9->Nat.testBit 511 i=true:=by decide
 have hMZ:=(hM.drawn sZ dZ).1;obtain⟨U,hU⟩:∃U:St,U=⟨S'.h.set (X.nx+8) (some (.cells [.int .i64 w] false 0)),S'.nx⟩:=⟨_,rfl⟩;have nU:U.nx=S'.nx:=by rw[hU]
 have kU:∀c,c≠X.nx+8->U.h.get c=S'.h.get c:=fun c hc=>by rw[hU];simp only;rw[dd,if_neg hc]
 have gU:U.h.get (X.nx+8)=some (.cells [.int .i64 w] false 0):=by rw[hU];simp only;rw[dd,if_pos rfl]
 have lowv:∀ {c},aX pv=some c->Y0.nx<=c/\c<X.nx:=fun hc=>⟨(hg.blk hc).1,(hg.blk hc).2.1⟩;have hgU:fX 1 ⟨U.h,Y0.nx⟩ U pv l.length (bJ l):=hg.move ay fun c hc=>by
  rw[kU c (by have:=(lowv hc).2;omega)];exact sZ.2 c (lowv hc).2 (hb c hc).1.2.1
 have⟨pv',V,eA,gA,bA,nA,rA⟩:=fX.push (bytes:=8) (t:=X.nx+8) (w:=w) hgU ⟨by show Y0.nx<=U.nx;omega,fun _ _=>rfl⟩ gU bf bf;have gxS:S'.h.get xb=some (.cells [k,p,f,xa,xw,pv] false 0):=(sZ.2 xb lxX nxd).trans gx;have gxV:V.h.get xb=some (.cells [k,p,f,xa,xw,pv] false 0):=by
  rw[rA xb ay (fun e=>by have:=(lowv e).1;omega),kU xb ay];exact gxS
 have hbA:∀ {c},aX pv'=some c->c=U.nx:=fun hc=>by rw[bA] at hc;exact(Bl hc).symm
 unfold aMs;refine kE (v:=pv') (S1:=V) (hlast _ m1) (fun call=>?_) ?_
 ·rw[cS (bg:Nat.testBit 511 8=true),fY];simp only[fR,pA,pB];rw[<-hU];exact eA
 rw[cS (bg:Nat.testBit 511 8=true)];simp only[iE,dK,aF,aE,aU,aT,fR,bX,bP,p4',rE,↓reduceIte,rA];have gAc:pv'.cells=some [pv']:=fX.cells gA;refine kE (v:=.undef) (S1:=⟨V.h.set xb (some (.cells [k,p,f,xa,xw,pv'] false 0)),V.nx⟩) (bg:Nat.testBit 2047 9=true) (fun call=>?_) ?_
 ·rw[dS];simp only[fR,bP,rE,↓reduceIte,bX,gAc,aN];exact stc (cs:=[k,p,f,xa,xw,pv]) (p:=5) (S:=V) gxV (by simp)
 rw[jB];refine⟨?_,?_⟩
 ·simp only[Cw,Bd,Dy,Ck,Bq];exact hld _ _ _ m1
 ·simp only[bX,gP];have kV:∀c,c<S'.nx->c≠X.nx+8->c≠xb->aX pv≠some c->(V.h.set xb (some (.cells [k,p,f,xa,xw,pv'] false 0))).get c=S'.h.get c:=fun c hc h1 h2 h3=>by
   rw[dd,if_neg h2,rA c ay h3,kU c h1]
  refine hQ _ _ pv' w (fun j hj=>?_) (hMZ.local (by show S'.nx<=V.nx;omega) fun c hc hor=>?_) (by show X.nx<=V.nx;omega) (fun c hc hp h1 h2=>?_) fq ?_ (fun c hc=>by have:=hbA hc;omega) w1 w2
  ·rw[bP,if_neg ay,bP,if_neg ay];exact hk j hj
  ·refine kV c hc (fun e=>?_) (fun e=>?_) (fun e=>?_)
   ·rcases hor with h | h
    ·refine h ⟨ay,?_,fun e'=>?_,fun e'=>?_,fun e'=>?_⟩
     ·have:=hM.p.dr.lt;omega
     ·have:=(hM.p.nod.blk e').2;omega
     ·have:=(hM.p.inf.blk e').2;omega
     ·have:=(hM.p.vw.blk e').2;omega
    ·exact hP c ay h
   ·rcases hor with h | h
    ·exact h (by rw[e];exact hx.1)
    ·exact hx.2 (by rw[<-e];exact h)
   ·rcases hor with h | h
    ·exact h (hb c e).1
    ·exact(hb c e).2 h
  ·simp only;rw[kV c ay ay  h1 h2];exact sZ.2 c hc hp.2.1
  ·refine fX.move (S:=V) (by exact gA) (Ag _) fun c hc=>?_;have:=hbA hc;simp only;rw[dd,if_neg ay]
def aQV(X:St)(F:Fr)(db:Nat)(lv pv:AV)(dl:bu)(F':Fr)(Z:St)(ps:List iH):Prop:=∃w:Int,1<=w/\w<=3/\ps= [⟨8,X.nx+8,.cells [.int .i64 w] false 0⟩]/\X.nx+12<=Z.nx/\cC db X Z/\vH Z db lv dl/\(∀j,j<16->aD j F'=aD j F)/\aD 140 F'=pv/\aD 147 F'= .sl (X.nx+8) 0 1 1 false
theorem aMG{ops:List AO}{P:Nat->Prop}{S0 Y0 X:St}{F:Fr}{inr:Bool}{mb db xb:Nat}{m:Mk}{LV:List (Int×Int×Int)}{k p f xa pv xp:AV}{l:bu}{Q:Out->bS->St->Prop}(H:Has fns)(he:ops=aMz++aLY)(hM:mS P S0 X mb db m LV)(p0:aD 0 F= .ptr mb 0)(p4:aD 11 F= .ptr xb 0)(gx:X.h.get xb=some (.cells [k,p,f,xa,pv,xp] false 0))(hx:PB mb db m xb/\¬P xb)(lx:xb<Y0.nx)(hY:Y0.nx<=X.nx)(hg:fX 1 Y0 X pv l.length (bJ l))(hb:∀c,aX pv=some c->PB mb db m c/\¬P c)(hP:∀c,X.nx<=c->¬P c)(hl:l.length<=1000)
  (hQ:∀F' Z pv' w,(∀j,j<16->aD j F'=aD j F)->mS P S0 Z mb db m LV->X.nx<=Z.nx->(∀c,c<X.nx->PB mb db m c->c≠xb->aX pv≠some c->Z.h.get c=X.h.get c)->Z.h.get xb=some (.cells [k,p,f,xa,pv',xp] false 0)->fX 1 Y0 Z pv' (l++ [w]).length (bJ (l++ [w]))->(∀c,aX pv'=some c->X.nx<=c)->1<=w->w<=3->Q .normal ⟨F',inr⟩ Z):lU fns (.drw ops) ⟨F,inr⟩ X Q:=by
 have hlen:ops.length=12:=by rw[he];rfl
 have lxX:xb<X.nx:=Ae lx hY;have lmX:=hM.p.lt;have nxd:xb≠db:=hx.1.2.1;have nmd:=hM.p.ne;have gm0:=cV (p:=0) hM.g rfl;have sp:=hg.self;refine aCu (W:=fun c=>c=db) (K:=9) (R:=aQV X F db m.lv pv m.dl) he rfl rfl (fun X1 x1 hh1 nn1=>?_) ?_
 ·have gxl:=cV (p:=4) gx rfl;unfold aMz;simp only[↓sU,sD,rE,↓reduceIte,rA,p0,p4,aY,bN,bB,aF,aU,aE,gxl,gm0,sp,lxX,lmX,nxd,nmd,Ap];refine lL rfl ?_;refine af ?_;refine aQ (nH H (hM.same x1).p.dr (n:=3) bg bg) ?_;rintro _ X2 ⟨x2,d2,y,rfl,y1,y2⟩;refine⟨⟨x2.1,fun c hc hne=>x2.2 c (Ae hc x1.1) hne⟩,?_⟩;have w1:IntKind.i64.wrap (1+y)=1+y:=wrap_i64 ay ay;have he1:=fun(F:Fr) (id:Nat) (h:aD 146 F= .int .i64 (1+y))=>nT (t:=3) (z:=.int .i64 0) (x:=.t 146) (F:=F) (id:=id) (k:=.i64) (n:=1+y) h;refine df w1 he1 ?_;refine⟨1+y,ay,ay,ag,(by have h9:X1.nx<=X2.nx:=x2.1;omega),⟨Au x1.1 x2.1,fun c hc hne=>(x2.2 c (Ae hc x1.1) hne).trans (x1.2 c hc)⟩,d2,fun j hj=>?_,by refine⟨?_,?_⟩<;>simp only[↓sU,sD,rE,↓reduceIte,rA]⟩;have:j=0\/j=1\/j=2\/j=3\/j=4\/j=5\/j=6\/j=7\/j=8\/j=9\/j=10\/j=11\/j=12\/j=13\/j=14\/j=15:=by omega
  rcases this with rfl | rfl | rfl | rfl | rfl | rfl | rfl | rfl | rfl | rfl | rfl | rfl | rfl | rfl | rfl | rfl<;>simp only[↓sU,sD,rE,↓reduceIte,rA]
 rintro F' S' ps hs ls ⟨w,w1,w2,rfl,nZ,sZ,dZ,hk,pA,pB⟩ hlast hld;have p4':aD 11 F'= .ptr xb 0:=(hk 11 ay).trans p4;have m1:∀i,i<9->Nat.testBit 511 i=true:=by decide
 have hMZ:=(hM.drawn sZ dZ).1;obtain⟨U,hU⟩:∃U:St,U=⟨S'.h.set (X.nx+8) (some (.cells [.int .i64 w] false 0)),S'.nx⟩:=⟨_,rfl⟩;have nU:U.nx=S'.nx:=by rw[hU]
 have kU:∀c,c≠X.nx+8->U.h.get c=S'.h.get c:=fun c hc=>by rw[hU];simp only;rw[dd,if_neg hc]
 have gU:U.h.get (X.nx+8)=some (.cells [.int .i64 w] false 0):=by rw[hU];simp only;rw[dd,if_pos rfl]
 have lowv:∀ {c},aX pv=some c->Y0.nx<=c/\c<X.nx:=fun hc=>⟨(hg.blk hc).1,(hg.blk hc).2.1⟩;have hgU:fX 1 ⟨U.h,Y0.nx⟩ U pv l.length (bJ l):=hg.move ay fun c hc=>by
  rw[kU c (by have:=(lowv hc).2;omega)];exact sZ.2 c (lowv hc).2 (hb c hc).1.2.1
 have⟨pv',V,eA,gA,bA,nA,rA⟩:=fX.push (bytes:=8) (t:=X.nx+8) (w:=w) hgU ⟨by show Y0.nx<=U.nx;omega,fun _ _=>rfl⟩ gU bf bf;have gxS:S'.h.get xb=some (.cells [k,p,f,xa,pv,xp] false 0):=(sZ.2 xb lxX nxd).trans gx;have gxV:V.h.get xb=some (.cells [k,p,f,xa,pv,xp] false 0):=by
  rw[rA xb ay (fun e=>by have:=(lowv e).1;omega),kU xb ay];exact gxS
 have hbA:∀ {c},aX pv'=some c->c=U.nx:=fun hc=>by rw[bA] at hc;exact(Bl hc).symm
 unfold aLY;refine kE (v:=pv') (S1:=V) (hlast _ m1) (fun call=>?_) ?_
 ·rw[cS (bg:Nat.testBit 511 8=true),fY];simp only[fR,pA,pB];rw[<-hU];exact eA
 rw[cS (bg:Nat.testBit 511 8=true)];simp only[iE,dK,aF,aE,aU,aT,fR,bX,bP,p4',rE,↓reduceIte,rA];have gAc:pv'.cells=some [pv']:=fX.cells gA;refine kE (v:=.undef) (S1:=⟨V.h.set xb (some (.cells [k,p,f,xa,pv',xp] false 0)),V.nx⟩) (bg:Nat.testBit 2047 9=true) (fun call=>?_) ?_
 ·rw[dS];simp only[fR,bP,rE,↓reduceIte,bX,gAc,aN];exact stc (cs:=[k,p,f,xa,pv,xp]) (p:=4) (S:=V) gxV (by simp)
 rw[jB];refine⟨?_,?_⟩
 ·simp only[Cw,Bd,Dy,Ck,Bq];exact hld _ _ _ m1
 ·simp only[bX,gP];have kV:∀c,c<S'.nx->c≠X.nx+8->c≠xb->aX pv≠some c->(V.h.set xb (some (.cells [k,p,f,xa,pv',xp] false 0))).get c=S'.h.get c:=fun c hc h1 h2 h3=>by
   rw[dd,if_neg h2,rA c ay h3,kU c h1]
  refine hQ _ _ pv' w (fun j hj=>?_) (hMZ.local (by show S'.nx<=V.nx;omega) fun c hc hor=>?_) (by show X.nx<=V.nx;omega) (fun c hc hp h1 h2=>?_) fq ?_ (fun c hc=>by have:=hbA hc;omega) w1 w2
  ·rw[bP,if_neg ay,bP,if_neg ay];exact hk j hj
  ·refine kV c hc (fun e=>?_) (fun e=>?_) (fun e=>?_)
   ·rcases hor with h | h
    ·refine h ⟨ay,?_,fun e'=>?_,fun e'=>?_,fun e'=>?_⟩
     ·have:=hM.p.dr.lt;omega
     ·have:=(hM.p.nod.blk e').2;omega
     ·have:=(hM.p.inf.blk e').2;omega
     ·have:=(hM.p.vw.blk e').2;omega
    ·exact hP c ay h
   ·rcases hor with h | h
    ·exact h (by rw[e];exact hx.1)
    ·exact hx.2 (by rw[<-e];exact h)
   ·rcases hor with h | h
    ·exact h (hb c e).1
    ·exact(hb c e).2 h
  ·simp only;rw[kV c ay ay  h1 h2];exact sZ.2 c hc hp.2.1
  ·refine fX.move (S:=V) (by exact gA) (Ag _) fun c hc=>?_;have:=hbA hc;simp only;rw[dd,if_neg ay]
noncomputable def aRv:List AO:=[oq 39 (.cr 5 (.t 4)),
om 40 1 (ld 39),
oq 41 (.cr 5 (.t 4)),
om 42 4 (ld 41),
om 43 12 (.cn (.slice 1) (.t 42) (ci 0)),
om 44 28 (ld 43),
om 45 60 (.un .neg (.t 44)),
om 46 127 (.cn (.slice 1) (.t 40) (ci 1))]
noncomputable def aRg:List AO:=[mt 47 0,
om 48 1 (.cg (.t 47)),
om 49 3 (.cr 7 (.t 48)),
om 50 7 (.cr 1 (.t 49)),
om 51 15 (ld 50),
mt 52 1,
oq 53 (.ld true 6 (.t 4)),
om 54 127 (.cn (.slice 6) (.t 51) (.t 52))]
theorem MkP.fresh{P:Nat->Prop}{S0 X:St}{mb db c:Nat}{m:Mk}{LV:List (Int×Int×Int)}(h:MkP P S0 X mb db m LV)(hc:X.nx<=c):PB mb db m c:=
 ⟨az h.lt,az h.dr.lt,fun e=>by have:=(h.nod.blk e).2;omega,fun e=>by have:=(h.inf.blk e).2;omega,fun e=>by have:=(h.vw.blk e).2;omega⟩
theorem mS.setN{P:Nat->Prop}{S0 X:St}{mb db i:Nat}{m:Mk}{LV:List (Int×Int×Int)}{e:b6}{x:cP}(h:mS P S0 X mb db m LV)(hi:i<m.bk.length)(he:aAD X (fun c=>PB mb db m c/\P c) e x):
  ∃b p X',fC (.slice 6) m.na i=some (.ptr b p)/\b<X.nx/\mJ (.ptr b p) 6 e X=some (.undef,X')/\X'.nx=X.nx/\mS P S0 X' mb db {m with bk:=m.bk.set i x} LV/\fP mb db m X {m with bk:=m.bk.set i x} X':=by
 have he6:e.length=6:=by obtain⟨_,_,_,rfl,_⟩:=he;rfl
 have⟨b,p,X',h1,h2,h3,h4,h5,h6⟩:=h.p.nod.set hi he6 he;have hb:=(h.p.nod.blk h2).2;have⟨k1,k2⟩:=h.p.pushN (v':=m.na) (l':=m.bk.set i x) (X':=X') ay (fun c _ hc=>h6 c fun e=>hc (by rw[e];exact h2)) (fun c hc=>.inl hc) h4;exact⟨b,p,X',h1,hb,h3,h5,⟨k1,(h6 mb fun e=>(h.p.d1 b h2).1 e.symm).trans h.g⟩,k2⟩
structure aPZ(ps:Int)(x:cP):Prop where
 kind:x.kind=3
 player:x.player=0
 info:x.info=0
 next:x.next= []
 wts:x.weights= []
 len:(x.pay.length:Int)=ps
 pay:∀w∈x.pay, -3<=w/\w<=3
theorem aQu{F:Fr}{h:Ev.T AB}{a:Int}:gT (.build [.int .i64 0,.int .i64 0,.int .i64 0,.cb,.cb,.cb] [(0,1,.c (.int .i64 a))]) F h=some (.agg [.int .i64 a,.int .i64 0,.int .i64 0,.cb,.cb,.cb]):=rfl
def aQ9(P:Nat->Prop)(S0 X X2:St)(mb db at_:Nat)(m:Mk)(LV:List (Int×Int×Int))(k:Nat)(A:bS)(Y:St):Prop:=A.inr=false/\mS P S0 Y mb db m LV/\X2.nx<=Y.nx/\(∀c,c<X.nx->PB mb db m c->Y.h.get c=X.h.get c)/\∃ (pv:AV) (l:bu),l.length+k=m.ps.toNat/\(∀w∈l, -3<=w/\w<=3)/\Y.h.get X.nx=some (.cells [.int .i64 3,.int .i64 0,.int .i64 0,.cb,.cb,pv] false 0)/\fX 1 X2 Y pv l.length (bJ l)/\(∀c,aX pv=some c->PB mb db m c)/\aD 0 A.F= .ptr mb 0/\aD 1 A.F= .int .i64 (at_:Int)/\aD 4 A.F= .ptr X.nx 0/\aD 5 A.F= .int .i64 (l.length:Int)
theorem aKr{P:Nat->Prop}{S0 X:St}{mb db at_:Nat}{m:Mk}{LV:List (Int×Int×Int)}(H:Has fns)(hM:mS P S0 X mb db m LV)(hat:at_<m.bk.length)(hps:1<=m.ps/\m.ps<=4):
  gH fns (.fn 85 [] []) [.ptr mb 0,.int .i64 (at_:Int)] X fun _ Z=>∃x,aPZ m.ps x/\mS (fun c=>P c\/X.nx<=c) S0 Z mb db {m with bk:=m.bk.set at_ x} LV/\fP mb db m X {m with bk:=m.bk.set at_ x} Z:=by
 have hM0:mS (fun c=>P c/\c<X.nx) S0 X mb db m LV:=hM.mono fun c hc hp=>⟨hp,hc⟩;have hbld:=fun(F:Fr) (h:Ev.T AB)=>aQu (F:=F) (h:=h) (a:=3);refine cF H.f85 (by simp) ?_;refine af ?_;refine bQ (dz hbld ?_);refine dC ?_;intro X1 x1 n1 g1;refine eS (b:=X.nx) (cs':=[.int .i64 3,.int .i64 0,.int .i64 0,.cb,.cb,.cb]) (ar) (by refine aq ?_;exact bL _) g1 rfl rfl ?_;intro X2 x2 n2 g2;refine aq ?_;have s2:Same X X2:=x2.same x1 (Ag _);have hM2:=hM0.same s2;have lx:X.nx<X2.nx:=by omega
 have hfx:PB mb db m X.nx:=hM.p.fresh (Ag _);refine aA (aW (Q:=fun o A' Y=>o= .normal/\aQ9 (fun c=>P c/\c<X.nx) S0 X X2 mb db at_ m LV 0 A' Y) (aA (aG ?_)) ?_)
 ·refine af ?_;refine aL (bK (aQ9 (fun c=>P c/\c<X.nx) S0 X X2 mb db at_ m LV) ?_ m.ps.toNat _ _ ⟨rfl,hM2,Ag _,fun c hc _=>s2.2 c hc,.cb,[],by simp,fun w hw=>(by cases hw),g2,.inl ⟨rfl,rfl,rfl⟩,fun c hc=>(by cases hc),ag,ag,ag,ah⟩);rintro k ⟨F,inr⟩ Y ⟨q0,hY,nY,kY,pv,l,hlk,hwl,gY,hg,hb,p0,p1,p4,p5⟩;simp only at q0 p0 p1 p4 p5;subst q0;have f7:=cV (p:=7) hY.g rfl;have hps':(m.ps.toNat:Int)=m.ps:=Dx ay;refine fE (dx p0 p5 @aY @bB @aF @aE f7 ?_);by_cases hlt:(l.length:Int)<m.ps;rotate_left
  ·refine aK (fg (Aa hlt)) (bG ?_);refine af ?_;obtain rfl:k=0:=by omega
   exact⟨rfl,hY,nY,kY,pv,l,hlk,hwl,gY,hg,hb,by refine⟨?_,?_,?_,?_⟩<;>simp only[↓sU,sD,rE,↓reduceIte,rA,p0,p1,p4,p5]⟩
  refine aM (fg (Ab hlt)) (aH ?_);refine af ?_;have w1:IntKind.i64.wrap ((l.length:Int)+1)=((l.length+1:Nat):Int):=by rw[wrap_i64 ay ay];omega
  refine aA (aL ?_);refine aLN (Y0:=X2) (mb:=mb) (db:=db) (xb:=X.nx) (m:=m) (LV:=LV) (pv:=pv) (l:=l) H rfl hY (ai p0) (ai p4) gY ⟨hfx,fun h=>Nat.lt_irrefl _ h.2⟩ lx nY hg (fun c hc=>⟨hb c hc,fun h=>by have:=(hg.blk hc).1;omega⟩) (fun c hc h=>ay) ay ?_;intro F' Z pv' w hk hZ nZ kZ gZ hgZ hbZ w2 w3;have q0:=hk 0 ay;have q1:=hk 1 ay;have q4:=hk 4 ay;have q5:=hk 5 ay;simp only[↓sU,sD,rE,↓reduceIte,rA,p0,p1,p4,p5] at q0 q1 q4 q5;refine af ?_;refine aG (df q5 w1 ?_);exact⟨k - 1,ay,rfl,hZ,ay,fun c hc hp=>(kZ c ay hp ay (fun e=>by have:=(hg.blk e).1;omega)).trans (kY c hc hp),pv',l++ [w],by rw[Ai,Av];omega,fun v hv=>by
   rcases Bf.1 hv with h | h
   ·exact hwl v h
   ·rw[Ce.1 h];exact⟨w2,w3⟩,gZ,hgZ,fun c hc=>hY.p.fresh (hbZ c hc),ai q0,ai q1,ai q4,by refine af ?_;rw[Ai,Av]⟩
 rintro o ⟨F,inr⟩ Y ⟨rfl,q0,hY,nY,kY,pv,l,hlk,hwl,gY,hg,hb,p0,p1,p4,p5⟩;simp only at q0 p0 p1 p4;subst q0;have hps':(m.ps.toNat:Int)=m.ps:=Dx ay;have f5:=cV (p:=5) hY.g rfl;have f7:=cV (p:=7) hY.g rfl;have lpv:=cV (p:=5) gY rfl;have lxY:X.nx<Y.nx:=by omega
 refine af ?_;refine aA (aW (Q:=fun o A' Z=>o= .normal/\A'.inr=false/\mS (fun c=>P c/\c<X.nx) S0 Z mb db m LV/\X2.nx<=Z.nx/\(∀c,c<X.nx->PB mb db m c->Z.h.get c=X.h.get c)/\(∃l':bu,l'.length=m.ps.toNat/\(∀w∈l', -3<=w/\w<=3)/\Z.h.get X.nx=some (.cells [.int .i64 3,.int .i64 0,.int .i64 0,.cb,.cb,pv] false 0)/\fX 1 X2 Z pv l'.length (bJ l'))/\aD 0 A'.F= .ptr mb 0/\aD 1 A'.F= .int .i64 (at_:Int)/\aD 4 A'.F= .ptr X.nx 0) (aA (aG ?_)) ?_)
 ·by_cases hz:m.zero=true/\m.ps=2
  ·have⟨hz,hp2⟩:=hz;rw[hz] at f5;refine dx p0 @aY @bB @aF @aE f5 f7 ?_;refine aM (fg (Ab hp2)) ?_;have hl2:l.length=2:=by omega
   have hl0:0<l.length:=by omega
   have hl1:1<l.length:=by omega
   have hIs:=hg.is;have i0:=hIs.cn hl0;have i1:=hIs.cn hl1;have v0:=hIs.ld hl0;have spv:=hg.self;rcases hg with⟨_,h,_⟩ | ⟨b,rfl,hb0,hb1,hbg,hbl⟩
   ·omega
   have eia:∀j,fC (.slice 1) (.sl b 0 l.length l.length true) j=if j<l.length then some (.ptr b (0+j * 1)) else none:=fun j=>by
    show cB (Nat.blt j l.length) _ _=_;rw[cN];by_cases h:j<l.length
    ·rw[if_pos h,if_pos (show Nat.blt j l.length=true from Ak h)]
    ·rw[if_neg h,if_neg (show ¬Nat.blt j l.length=true from fun e=>h (Ba (show Nat.ble (j+1) l.length=true from e)))]
   have i1':=eia 1;rw[if_pos hl1] at i1';have hw0:=hwl _ (aMX hl0);have w1:IntKind.i64.wrap (-(l.getD 0 0))= -(l.getD 0 0):=wrap_i64 ay ay;refine oY (pre:=aRv) (K:=8) (m:=255) (n:=1) (x:=.t 46) (v:=.t 45) rfl rfl rfl rfl ?_;unfold aRv;simp only[↓sU,sD,rE,↓reduceIte,rA,p4,aF,aU,aE,lpv,spv,aAX,i0,v0,aMN,w1,show fG (.int .i64 1)=some 1 from rfl,i1'];simp only[cH,aN];have hst:=sP (S:=⟨Y.h,Y.nx+9⟩) (p:=0+1 * 1) (w:= -(l.getD 0 0)) hbg ay;refine⟨_,hst,?_⟩;have hbb:PB mb db m b:=hb b rfl;refine⟨hY.local (Cc _ _) fun c hc hor=>?_,by show X2.nx<=Y.nx+9;omega,fun c hc hp=>?_,⟨l.set (0+1 * 1) (-(l.getD 0 0)),by rw[Ar];omega,fun w hw=>?_,?_,.inr ⟨b,by rw[Ar],hb0,by show b<Y.nx+9;omega,fq,by simp [bJ]⟩⟩,p0,p1⟩
   ·simp only;rw[dd,if_neg];intro e;subst e;rcases hor with h | h
    ·exact h hbb
    ·have:=h.2;omega
   ·simp only;rw[dd,if_neg ay];exact kY c hc hp
   ·rcases List.mem_or_eq_of_mem_set hw with h | h
    ·exact hwl w h
    ·omega
   ·simp only;rw[dd,if_neg ay];exact gY
  ·have hres:∀ (o:Out) (A':bS) (Z:St),True:=fun _ _ _=>trivial;have fin:(∃l':bu,l'.length=m.ps.toNat/\(∀w∈l', -3<=w/\w<=3)/\Y.h.get X.nx=some (.cells [.int .i64 3,.int .i64 0,.int .i64 0,.cb,.cb,pv] false 0)/\fX 1 X2 Y pv l'.length (bJ l')):=⟨l,ay,hwl,gY,hg⟩;cases hzz:m.zero with
   | false=>
    rw[hzz] at f5;refine du p0 @aY @bB @aF @aE f5 ?_;refine aK (ag) (aH ?_);refine dh p0 p1 p4 ?_;exact⟨hY,nY,kY,fin⟩
   | true=>
    rw[hzz] at f5;refine dx p0 @aY @bB @aF @aE f5 f7 ?_;refine aK (fg (Aa (show ¬m.ps=2 from fun h=>hz ⟨hzz,h⟩))) (aH ?_);refine dh p0 p1 p4 ?_;exact⟨hY,nY,kY,fin⟩
 clear p0 p1 p4 p5 f5 f7 lpv lxY hg hb hwl gY kY nY hY hlk l;rintro o ⟨F,inr⟩ Z ⟨rfl,q0,hZ,nZ,kZ,⟨l,hll,hwl,gZ,hg⟩,p0,p1,p4⟩;simp only at q0 p0 p1 p4;subst q0;refine af ?_;have f8:=cV (p:=8) hZ.g rfl;have lag:=ldN gZ;have sna:=hZ.p.nod.self;have spv:=hg.self;have sx:=oU (k:=.i64) (x0:=3) (x1:=0) (x2:=0) (a:=.cb) (b:=.cb) (c:=pv) rfl rfl spv;have hZ':mS (fun c=>P c\/X.nx<=c) S0 ⟨Z.h,Z.nx+9⟩ mb db m LV:=(hZ.same (Same.nx Z 9)).mono fun c _ h=>.inl h.1;have hIs:bO .i64 ⟨Z.h,Z.nx+9⟩ pv l:=(hg.step (Same.nx Z 9)).is;have⟨b,p,X',e1,e2,e3,e4,e5,e6⟩:=hZ'.setN (i:=at_) (e:=[.int .i64 3,.int .i64 0,.int .i64 0,.cb,.cb,pv]) (x:=⟨3,0,0,[],[],l⟩) hat ⟨.cb,.cb,pv,rfl,.inl ⟨rfl,.inl rfl⟩,.inl ⟨rfl,.inl rfl⟩,hIs,fun c hc=>by
  rcases hc with hc | hc | hc
  ·cases hc
  ·cases hc
  ·have h9:=(hg.blk hc).1;exact⟨hM.p.fresh ay,.inr ay⟩⟩
 refine oY (pre:=aRg) (K:=8) (m:=255) (n:=6) (x:=.t 54) (v:=.t 53) rfl rfl rfl rfl ?_;unfold aRg;simp only[↓sU,sD,rE,↓reduceIte,rA,p0,p1,p4,aY,bN,bB,aF,aU,aE,f8,sna,lag,sx,aJ,e1];rw[show(AV.agg [.int .i64 3,.int .i64 0,.int .i64 0,.cb,.cb,pv]).cells=some [.int .i64 3,.int .i64 0,.int .i64 0,.cb,.cb,pv] from bL _,aN];refine⟨X',e3,_,rfl,⟨3,0,0,[],[],l⟩,⟨rfl,rfl,rfl,rfl,rfl,by show(l.length:Int)=_;omega,hwl⟩,e5,⟨by rw[e4];show X.nx<=Z.nx+9;omega,fun c hc hp=>?_⟩⟩;have⟨k1,k2⟩:=e6.2 c (by show c<Z.nx+9;omega) hp;exact⟨k1.trans (kZ c hc hp),k2⟩
def hot(o:AO):Bool:=match o.op with | .q q=>dR q | .a _=>false | .x _=>true
def aMv(I:Nat->Prop)(D:DS):Prop:=(∀e∈D.hs,I e.1)/\∀l∈D.ls,I l.i
theorem aOf{I:Nat->Prop}{call:fK}{o:AO}{i base:Nat}{D D':DS}(h:pV o i base call D=some D')(hi:hot o=true->I i)(hD:aMv I D):aMv I D':=by
 unfold pV at h;cases hw:eT o.grd D.F with
 | false=>rw[hw,aT] at h;cases h;exact hD
 | true=>
  rw[hw,aO] at h;have⟨d,op,g,m⟩:=o;cases op with
  | q q=>
   have h:bH (gT q D.F D.S.h) (fun v=>some (⟨cR d D.F v,D.S,D.ps,D.hs,cB (dR q) (⟨q,D.F,v,i,m⟩::D.ls) D.ls⟩:DS))=some D':=h;cases he:gT q D.F D.S.h with
   | none=>rw[he] at h;cases h
   | some v=>
    rw[he,aN] at h;cases h;refine⟨hD.1,fun l hl=>?_⟩;simp only at hl;cases hq:dR q with
    | false=>rw[hq,aT] at hl;exact hD.2 l hl
    | true=>
     rw[hq,aO] at hl;rcases Bm.1 hl with rfl | hl
     ·exact hi hq
     ·exact hD.2 l hl
  | a a=>
   have h:bH (sH a D.F (base+i)) (fun r=>some (⟨cR d D.F r.1,D.S,⟨i,base+i,r.2⟩::D.ps,D.hs,D.ls⟩:DS))=some D':=h;cases he:sH a D.F (base+i) with
   | none=>rw[he] at h;cases h
   | some v=>rw[he,aN] at h;cases h;exact hD
  | x x=>
   have h:cB (jL D.hs m) (bH (evX x call D.F ⟨(cO m D.ps D.S.h).2,D.S.nx⟩) fun r=>some (⟨cR d D.F r.1,r.2,(cO m D.ps D.S.h).1,(i,m,r.2.h)::D.hs,D.ls⟩:DS)) none=some D':=h;cases hl:jL D.hs m with
   | false=>rw[hl,aT] at h;cases h
   | true=>
    rw[hl,aO] at h;cases he:evX x call D.F ⟨(cO m D.ps D.S.h).2,D.S.nx⟩ with
    | none=>rw[he] at h;cases h
    | some v=>
     rw[he,aN] at h;cases h;refine⟨fun e he=>?_,hD.2⟩;rcases Bm.1 he with rfl | he
     ·exact hi rfl
     ·exact hD.1 e he
theorem aGP{I:Nat->Prop}{call:fK}{base:Nat}:∀ {l:List AO} {i:Nat} {D D':DS},vF l i base call D=some D'->(∀j o,l[j]? =some o->hot o=true->I (i+j))->aMv I D->aMv I D'
 | [],i,D,D',h,_,hD=>by cases h;exact hD
 | o::os,i,D,D',h,hI,hD=>by
  have h:bH (pV o i base call D) (fun D'=>vF os (i+1) base call D')=some D':=h;cases he:pV o i base call D with
  | none=>rw[he] at h;cases h
  | some D1=>
   rw[he,aN] at h;exact aGP h (fun j o' hj ho=>by have:=hI (j+1) o' hj ho;rwa [show i+1+j=i+(j+1) by omega]) (aOf he (fun ho=>hI 0 o rfl ho) hD)
theorem aDc{W:Nat->Prop}{h0:T AB}{base K m:Nat}{h':T AB}{r:List (Nat×Nat×T AB)}{l:jT}(h:cT l.v l.v=true/\aF4 W base l.q l.F/\gT l.q l.F h0=some l.v)(hl:l.mask<2 ^ K)(hm:Nat.testBit m l.i=true):∀ {hs:List (Nat×Nat×T AB)} {h1:T AB},(∀e∈hs,∀b,b<base->¬W b->e.2.2.get b=h0.get b)->(∀b,b<base->¬W b->h1.get b=h0.get b)->dY l (hs++(K,m,h')::r) h1=true
 | [],h1,_,hh=>by
  have e1:mP l.v (gT l.q l.F h1)=true:=by rw[h.2.1.ev hh,h.2.2];exact h.1
  have e2:Nat.testBit l.mask K=false:=Nat.testBit_lt_two_pow hl;show dY l ((K,m,h')::r) h1=true;unfold dY;rw[e2,aT,e1,aO,hm,aO]
 | (i,mm,h2)::rr,h1,hs,hh=>by
  have e1:mP l.v (gT l.q l.F h1)=true:=by rw[h.2.1.ev hh,h.2.2];exact h.1
  have e2:dY l (rr++(K,m,h')::r) h2=true:=aDc h hl hm (fun e he=>hs e (by simp [he])) (hs (i,mm,h2) (by simp));show dY l ((i,mm,h2)::(rr++(K,m,h')::r)) h1=true;unfold dY;rw[e1,e2];cases Nat.testBit l.mask i<;>cases Nat.testBit mm l.i<;>rfl
theorem aEk(m0:Nat){W:Nat->Prop}{ops pre suf:List AO}{K:Nat}{A:bS}{S:St}{Q:Out->bS->St->Prop}{R:Fr->St->List iH->Prop}(he:ops=pre++suf)(hK:pre.length=K)(hm:(pre.all fun o=>decide (o.mask<2 ^ K))=true)(hI:((List.range K).all fun j=>match pre[j]? with | some o=> !hot o || Nat.testBit m0 j | none=>true)=true)
  (h:∀S1,Same S S1->S1.h=S.h->S1.nx=S.nx+ops.length->gN fns W S.h S.nx pre 0 A.F S1 [] none R)
  (h2:∀F S' ps hs ls,R F S' ps->jL hs m0=true->(∀h' r,gK S.h (hs.reverse++(K,m0,h')::r) ls=true)->vW fns suf K S.nx ⟨F,S',ps,hs,ls⟩ fun D'=>gK S.h D'.hs.reverse D'.ls=true/\Q .normal ⟨D'.F,A.inr⟩ ⟨(cO (2 ^ ops.length - 1) D'.ps D'.S.h).2,D'.S.nx⟩):lU fns (.drw ops) A S Q:=by
 refine oO ?_;have⟨n,D',e1,e2,e3⟩:=mN (fns:=fns) (i:=0) (D:=⟨A.F,⟨S.h,S.nx+ops.length⟩,[],[],[]⟩) (last:=none) ⟨fun _ _ _=>rfl,Cc _ _,fun e he=>(by cases he),fun l hl=>(by cases hl),fun p hp=>(by cases hp)⟩ rfl (h ⟨S.h,S.nx+ops.length⟩ (Same.nx S _) rfl rfl);have low:Low K D':=aDH e1 ay (fun o ho=>by have:=Dp.1 hm o ho;simpa using this) ⟨fun e he=>(by cases he),fun l hl=>(by cases hl)⟩;have idx:aMv (fun i=>Nat.testBit m0 i=true) D':=aGP e1 (fun j o hj ho=>by
  have hlt:j<K:=by rw[<-hK];exact(Aj.1 hj).1
  have:=Dp.1 hI j (Fb.2 hlt);rw[hj] at this;simp only[ho,Bt,Bool.false_or] at this
  rwa [An]) ⟨fun e he=>(by cases he),fun l hl=>(by cases hl)⟩
 have⟨F,S',ps,hs,ls⟩:=D';have hh:=h2 F S' ps hs ls e2 (by
  cases hs with
  | nil=>rfl
  | cons e r=>exact idx.1 e (Br ..)) (fun h' r=>lG fun l hl=>aDc (e3.lds l hl) (low.2 l hl).2 (idx.2 l hl) (fun e he=>e3.chain e (List.mem_reverse.1 he)) (fun _ _ _=>rfl))
 have:vW fns ops 0 S.nx ⟨A.F,⟨S.h,S.nx+ops.length⟩,[],[],[]⟩ fun D'=>gK S.h D'.hs.reverse D'.ls=true/\Q .normal ⟨D'.F,A.inr⟩ ⟨(cO (2 ^ ops.length - 1) D'.ps D'.S.h).2,D'.S.nx⟩:=by
  subst he;refine aJW ⟨n,_,e1,?_⟩;rw[An,hK];exact hh
 exact this
theorem aPz{t:Nat}{x:cU}{F:Fr}{id:Nat}{a b c d z0 z1 z2 z3:AV}(hx:x.val F= .agg [a,b,c,d]):sH (.ch t 4 1 [z0,z1,z2,z3] [(0,x)]) F id=some (.sl id 0 1 1 false,.cells [a,b,c,d] false 0):=by
 show(bH (eZ (repeatL [z0,z1,z2,z3] 1) [(0 * 4,4,x.val F)]) fun cs=>some (AV.sl id 0 1 1 false,AB.cells cs false 0))=_;rw[hx];show(bH (bH (AV.cells (.agg [a,b,c,d])) _) _)=_;rw[bL,aN];rfl
theorem aPL{t:Nat}{x:cU}{F:Fr}{id:Nat}{a b c z0 z1 z2:AV}(hx:x.val F= .agg [a,b,c]):sH (.ch t 3 1 [z0,z1,z2] [(0,x)]) F id=some (.sl id 0 1 1 false,.cells [a,b,c] false 0):=by
 show(bH (eZ (repeatL [z0,z1,z2] 1) [(0 * 3,3,x.val F)]) fun cs=>some (AV.sl id 0 1 1 false,AB.cells cs false 0))=_;rw[hx];show(bH (bH (AV.cells (.agg [a,b,c])) _) _)=_;rw[bL,aN];rfl
theorem aNf{t:Nat}{x:cU}{F:Fr}{id:Nat}{a b z0 z1:AV}(hx:x.val F= .agg [a,b]):sH (.ch t 2 1 [z0,z1] [(0,x)]) F id=some (.sl id 0 1 1 false,.cells [a,b] false 0):=by
 show(bH (eZ (repeatL [z0,z1] 1) [(0 * 2,2,x.val F)]) fun cs=>some (AV.sl id 0 1 1 false,AB.cells cs false 0))=_;rw[hx];show(bH (bH (AV.cells (.agg [a,b])) _) _)=_;rw[bL,aN];rfl
theorem aNr{S:St}{t n:Nat}{cs:b6}{o:Bool}{sz:Nat}(h:S.h.get t=some (.cells cs o sz))(hn:cs.length=n):eE (.sl t 0 1 1 false) S.h n 1=some cs:=by
 show bH (cJ S.h t) (fun c=>cut c 0 (1 * n))=_;unfold cJ;rw[h];show cut cs 0 (1 * n)=some cs;unfold cut;rw[fU,fZ,Di,Fi,if_pos ay,Bb ay]
theorem aSh{F:Fr}{h:Ev.T AB}{pl lev n:Int}{sv:AV}(h50:aD 50 F= .int .i64 pl)(h51:aD 51 F= .int .i64 lev)(h52:aD 52 F=sv)(h58:aD 58 F= .int .i64 n)(hc:sv.cells=some [sv]):gT (.build [.int .i64 0,.int .i64 0,.cb,.int .i64 0] [(0,1,.t 50),(1,1,.t 51),(2,1,.t 52),(3,1,.t 58)]) F h=some (.agg [.int .i64 pl,.int .i64 lev,sv,.int .i64 n]):=by
 show(bH (eZ _ (eH F [(0,1,.t 50),(1,1,.t 51),(2,1,.t 52),(3,1,.t 58)])) fun cs=>some (AV.agg cs))=_;simp only[eH,show(cU.t 50).val F= .int .i64 pl from h50,show(cU.t 51).val F= .int .i64 lev from h51,show(cU.t 52).val F=sv from h52,show(cU.t 58).val F= .int .i64 n from h58,eZ,cH,hc,aN];rfl
theorem aSM{F:Fr}{h:Ev.T AB}{pl a:Int}(h70:aD 70 F= .int .i64 pl)(h76:aD 76 F= .int .i64 a):gT (.build [.int .i64 0,.int .i64 0] [(0,1,.t 70),(1,1,.t 76)]) F h=some (.agg [.int .i64 pl,.int .i64 a]):=by
 show(bH (eZ _ (eH F [(0,1,.t 70),(1,1,.t 76)])) fun cs=>some (AV.agg cs))=_;simp only[eH,show(cU.t 70).val F= .int .i64 pl from h70,show(cU.t 76).val F= .int .i64 a from h76,eZ,cH,aN];rfl
theorem fP.put{mb db:Nat}{m:Mk}{X:St}{w:Option AB}:fP mb db m X m ⟨X.h.set mb w,X.nx⟩:=
 ⟨Ag _,fun c _ hp=>⟨by simp only;rw[dd,if_neg hp.1],hp⟩⟩
theorem aLR{k:IntKind}{X:St}{v:AV}{l:bu}(h:bO k X v l):v.cells=some [v]:=bO.cells h
def aR2(X:St)(F:Fr)(mb:Nat)(va sv:AV)(pl lev n:Int)(F':Fr)(Z:St)(ps:List iH):Prop:=ps= [⟨15,X.nx+15,.cells [.int .i64 pl,.int .i64 lev,sv,.int .i64 n] false 0⟩]/\Z.h=X.h/\Z.nx=X.nx+20/\(∀j,j<10->aD j F'=aD j F)/\aD 45 F'= .ptr mb 0/\aD 49 F'=va/\aD 60 F'= .sl (X.nx+15) 0 1 1 false
theorem aL9{ops:List AO}{P:Nat->Prop}{S0 X:St}{F:Fr}{inr:Bool}{mb db:Nat}{m:Mk}{LV:List (Int×Int×Int)}{pl lev:Int}{sv:AV}{l:bu}{Q:Out->bS->St->Prop}(he:ops=aNI++aMd)(hM:mS P S0 X mb db m LV)(hS:S0.nx<=X.nx)(p0:aD 0 F= .ptr mb 0)(p1:aD 1 F= .int .i64 pl)(p2:aD 2 F= .int .i64 lev)(p3:aD 3 F=sv)(hs:bO .i64 X sv l)(hl:l.length<=1000)(hsb:∀c,aX sv=some c->PB mb db m c/\P c)(hv:m.views.length<=100000)
  (hQ:∀F' Z va',(∀j,j<10->aD j F'=aD j F)->mS P S0 Z mb db {m with va:=va',views:=m.views++ [(pl,lev,(m.bn.length:Int))]} LV->fP mb db m X {m with va:=va',views:=m.views++ [(pl,lev,(m.bn.length:Int))]} Z->Q .normal ⟨F',inr⟩ Z):lU fns (.drw ops) ⟨F,inr⟩ X Q:=by
 have hlen:ops.length=20:=by rw[he];rfl
 have lmX:=hM.p.lt;have f2:=cV (p:=2) hM.g rfl;have f9:=cV (p:=9) hM.g rfl;have sva:=hM.p.vw.self;have sia:=hM.p.inf.self;refine aEk 65534 (W:=fun _=>False) (K:=16) (R:=aR2 X F mb m.va sv pl lev (m.bn.length:Int)) he rfl rfl rfl (fun X1 x1 hh1 nn1=>?_) ?_
 ·have hbl:=fun(F:Fr) (h:Ev.T AB) (a:aD 50 F= .int .i64 pl) (b:aD 51 F= .int .i64 lev) (c:aD 52 F=sv) (d:aD 58 F= .int .i64 (m.bn.length:Int))=>aSh (F:=F) (h:=h) a b c d (aLR hs);have hib:dR (.build [.int .i64 0,.int .i64 0,.cb,.int .i64 0] [(0,1,.t 50),(1,1,.t 51),(2,1,.t 52),(3,1,.t 58)])=false:=rfl;have he1:=fun(F:Fr) (id:Nat) (h:aD 59 F= .agg [.int .i64 pl,.int .i64 lev,sv,.int .i64 (m.bn.length:Int)])=>aPz (t:=152) (z0:=.int .i64 0) (z1:=.int .i64 0) (z2:=.cb) (z3:=.int .i64 0) (x:=.t 59) (F:=F) (id:=id) h;unfold aNI;simp only[↓sU,sD,rE,↓reduceIte,rA,p0,p1,p2,p3,aY,bN,bB,aF,aU,aE,f2,f9,sva,sia,lmX,Ap,hM.p.inf.len,hbl,hib,he1];refine⟨rfl,hh1,by rw[nn1,hlen],fun j hj=>?_,by refine⟨?_,?_,?_⟩<;>simp only[↓sU,sD,rE,↓reduceIte,rA]⟩;have:j=0\/j=1\/j=2\/j=3\/j=4\/j=5\/j=6\/j=7\/j=8\/j=9:=by omega
  rcases this with rfl | rfl | rfl | rfl | rfl | rfl | rfl | rfl | rfl | rfl<;>simp only[↓sU,sD,rE,↓reduceIte,rA]
 rintro F' S' ps hs' ls ⟨rfl,hZ,nZ,hk,pA,pB,pC⟩ hlast hld;obtain⟨U,hU⟩:∃U:St,U=⟨S'.h.set (X.nx+15) (some (.cells [.int .i64 pl,.int .i64 lev,sv,.int .i64 (m.bn.length:Int)] false 0)),S'.nx⟩:=⟨_,rfl⟩;have nU:U.nx=X.nx+20:=by rw[hU];exact nZ
 have sUx:Same X U:=⟨ay,fun c hc=>by rw[hU];simp only;rw[dd,if_neg ay,hZ]⟩;have gU:U.h.get (X.nx+15)=some (.cells [.int .i64 pl,.int .i64 lev,sv,.int .i64 (m.bn.length:Int)] false 0):=by rw[hU];simp only;rw[dd,if_pos rfl]
 have hMU:=hM.same sUx;have⟨v',V,eA,aV,nV,kV,bV⟩:=hMU.p.vw.push (bytes:=48) (x:=.sl (X.nx+15) 0 1 1 false) (a:=(pl,lev,(m.bn.length:Int))) bg ay rfl (aNr gU rfl) rfl ⟨sv,l,rfl,hs.same sUx,hl,hsb⟩ bf bf;have⟨kP,kM⟩:=hMU.p.pushV nV kV bV aV;have gmV:V.h.get mb=some (.cells (eI db m) false 0):=(kV mb hMU.p.lt fun e=>(hMU.p.d3 mb e).1 rfl).trans hMU.g;unfold aMd;refine kE (v:=v') (S1:=V) hlast (fun call=>?_) ?_
 ·rw[cS (bg:Nat.testBit 65534 15=true),fY];simp only[fR,pB,pC];rw[<-hU];exact eA
 rw[cS (bg:Nat.testBit 65534 15=true)];simp only[iE,dK,aY,bN,bB,aF,aE,aU,aT,fR,bX,bP,pA,rE,↓reduceIte,rA];have gAc:v'.cells=some [v']:=aV.cells;refine kE (v:=.undef) (S1:=⟨V.h.set mb (some (.cells (eI db {m with va:=v',views:=m.views++ [(pl,lev,(m.bn.length:Int))]}) false 0)),V.nx⟩) (bg:Nat.testBit 524287 16=true) (fun call=>?_) ?_
 ·rw[dS];simp only[fR,bP,rE,↓reduceIte,bX,gAc,aN];exact stc (cs:=eI db m) (p:=2) (S:=V) gmV (ay:2<10)
 rw[jB];refine⟨?_,?_⟩
 ·simp only[Cw,Bd,Dy,Ck,Bq];exact hld _ _
 ·simp only[bX,gP];refine hQ _ _ v' (fun j hj=>?_) (kP.put fq (Ag _) fun c _ hne=>by simp only;rw[dd,if_neg hne]) (((fP.same sUx).trans kM).trans fP.put);rw[bP,if_neg ay,bP,if_neg ay,bP,if_neg ay];exact hk j hj
def aRe(X:St)(F:Fr)(mb db:Nat)(ia lv:AV)(dl:bu)(pl:Int)(F':Fr)(Z:St)(ps:List iH):Prop:=∃a:Int,1<=a/\a<=3/\ps= [⟨14,X.nx+14,.cells [.int .i64 pl,.int .i64 a] false 0⟩]/\X.nx+20<=Z.nx/\cC db X Z/\vH Z db lv dl/\(∀j,j<10->aD j F'=aD j F)/\aD 64 F'= .ptr mb 0/\aD 69 F'=ia/\aD 78 F'= .sl (X.nx+14) 0 1 1 false
theorem aNg{ops:List AO}{P:Nat->Prop}{S0 X:St}{F:Fr}{inr:Bool}{mb db:Nat}{m:Mk}{LV:List (Int×Int×Int)}{pl:Int}{Q:Out->bS->St->Prop}(H:Has fns)(he:ops=aMu++aLW)(hM:mS P S0 X mb db m LV)(hS:S0.nx<=X.nx)(p0:aD 0 F= .ptr mb 0)(p1:aD 1 F= .int .i64 pl)(hv:m.bn.length<=100000)
  (hQ:∀F' Z ia' a,(∀j,j<10->aD j F'=aD j F)->1<=a->a<=3->mS P S0 Z mb db {m with ia:=ia',bn:=m.bn++ [⟨pl,a⟩]} LV->fP mb db m X {m with ia:=ia',bn:=m.bn++ [⟨pl,a⟩]} Z->Q .normal ⟨F',inr⟩ Z):lU fns (.drw ops) ⟨F,inr⟩ X Q:=by
 have hlen:ops.length=20:=by rw[he];rfl
 have lmX:=hM.p.lt;have nmd:=hM.p.ne;have f0:=cV (p:=0) hM.g rfl;have f9:=cV (p:=9) hM.g rfl;have sia:=hM.p.inf.self;refine aEk 32766 (W:=fun c=>c=db) (K:=15) (R:=aRe X F mb db m.ia m.lv m.dl pl) he rfl rfl rfl (fun X1 x1 hh1 nn1=>?_) ?_
 ·unfold aMu;simp only[↓sU,sD,rE,↓reduceIte,rA,p0,p1,aY,bN,bB,aF,aU,aE,f0,f9,sia,lmX,nmd,Ap];refine lL rfl ?_;refine af ?_;refine aQ (nH H (hM.same x1).p.dr (n:=3) bg bg) ?_;rintro _ X2 ⟨x2,d2,y,rfl,y1,y2⟩;refine⟨⟨x2.1,fun c hc hne=>x2.2 c (Ae hc x1.1) hne⟩,?_⟩;have w1:IntKind.i64.wrap (1+y)=1+y:=wrap_i64 ay ay;have hbl:=fun(F:Fr) (h:Ev.T AB) (a:aD 70 F= .int .i64 pl) (b:aD 76 F= .int .i64 (1+y))=>aSM (F:=F) (h:=h) a b;have hib:dR (.build [.int .i64 0,.int .i64 0] [(0,1,.t 70),(1,1,.t 76)])=false:=rfl;have he1:=fun(F:Fr) (id:Nat) (h:aD 77 F= .agg [.int .i64 pl,.int .i64 (1+y)])=>aNf (t:=85) (z0:=.int .i64 0) (z1:=.int .i64 0) (x:=.t 77) (F:=F) (id:=id) h;refine dk w1 hbl hib he1 ?_;refine⟨1+y,ay,ay,ag,(by have h9:X1.nx<=X2.nx:=x2.1;omega),⟨Au x1.1 x2.1,fun c hc hne=>(x2.2 c (Ae hc x1.1) hne).trans (x1.2 c hc)⟩,d2,fun j hj=>?_,by refine⟨?_,?_,?_⟩<;>simp only[↓sU,sD,rE,↓reduceIte,rA]⟩;have:j=0\/j=1\/j=2\/j=3\/j=4\/j=5\/j=6\/j=7\/j=8\/j=9:=by omega
  rcases this with rfl | rfl | rfl | rfl | rfl | rfl | rfl | rfl | rfl | rfl<;>simp only[↓sU,sD,rE,↓reduceIte,rA]
 rintro F' S' ps hs' ls ⟨a,a1,a2,rfl,nZ,sZ,dZ,hk,pA,pB,pC⟩ hlast hld;have⟨hMZ,kZ⟩:=hM.drawn sZ dZ;obtain⟨U,hU⟩:∃U:St,U=⟨S'.h.set (X.nx+14) (some (.cells [.int .i64 pl,.int .i64 a] false 0)),S'.nx⟩:=⟨_,rfl⟩;have nU:U.nx=S'.nx:=by rw[hU]
 have kU:∀c,c≠X.nx+14->U.h.get c=S'.h.get c:=fun c hc=>by rw[hU];simp only;rw[dd,if_neg hc]
 have gU:U.h.get (X.nx+14)=some (.cells [.int .i64 pl,.int .i64 a] false 0):=by rw[hU];simp only;rw[dd,if_pos rfl]
 have hout:∀c,c<X.nx->c≠X.nx+14:=fun c hc=>by omega
 have hMP:mS (fun c=>P c/\c<X.nx) S0 S' mb db m LV:=(hM.mono fun c hc hp=>⟨hp,hc⟩).drawn sZ dZ |>.1
 have hMU':mS (fun c=>P c/\c<X.nx) S0 U mb db m LV:=hMP.local ay fun c hc hor=>kU c fun e=>by
  rcases hor with h | h
  ·refine h ⟨ay,fun e'=>?_,fun e'=>?_,fun e'=>?_,fun e'=>?_⟩
   ·have:=hM.p.dr.lt;omega
   ·have:=(hM.p.nod.blk e').2;omega
   ·have:=(hM.p.inf.blk e').2;omega
   ·have:=(hM.p.vw.blk e').2;omega
  ·omega
 have hMU:mS P S0 U mb db m LV:=hMU'.mono fun c _ h=>h.1;have kXU:fP mb db m X m U:=⟨ay,fun c hc hp=>⟨(kU c (hout c hc)).trans (kZ.2 c hc hp).1,hp⟩⟩;have⟨v',V,eA,aV,nV,kV,bV⟩:=hMU.p.inf.push (bytes:=16) (x:=.sl (X.nx+14) 0 1 1 false) (a:=(⟨pl,a⟩:iS)) bg ay rfl (aNr gU rfl) rfl (show aMZ [.int .i64 pl,.int .i64 a] ⟨pl,a⟩ from rfl) bf bf;have⟨kP,kM⟩:=hMU.p.pushI nV kV bV aV;have gmV:V.h.get mb=some (.cells (eI db m) false 0):=(kV mb hMU.p.lt fun e=>(hMU.p.d2 mb e).1 rfl).trans hMU.g;unfold aLW;refine kE (v:=v') (S1:=V) hlast (fun call=>?_) ?_
 ·rw[cS (bg:Nat.testBit 32766 14=true),fY];simp only[fR,pB,pC];rw[<-hU];exact eA
 rw[cS (bg:Nat.testBit 32766 14=true)];simp only[iE,dK,aY,bN,bB,aF,aE,aU,aT,fR,bX,bP,pA,rE,↓reduceIte,rA];have gAc:v'.cells=some [v']:=aV.cells;refine kE (v:=.undef) (S1:=⟨V.h.set mb (some (.cells (eI db {m with ia:=v',bn:=m.bn++ [⟨pl,a⟩]}) false 0)),V.nx⟩) (bg:Nat.testBit 524287 15=true) (fun call=>?_) ?_
 ·rw[dS];simp only[fR,bP,rE,↓reduceIte,bX,gAc,aN];exact stc (cs:=eI db m) (p:=9) (S:=V) gmV (ay:9<10)
 rw[jB];refine⟨?_,?_⟩
 ·simp only[Cw,Bd,Dy,Ck,Bq];exact hld _ _
 ·simp only[bX,gP];refine hQ _ _ v' a (fun j hj=>?_) a1 a2 (kP.put fq (Ag _) fun c _ hne=>by simp only;rw[dd,if_neg hne]) ((kXU.trans kM).trans fP.put);rw[bP,if_neg ay,bP,if_neg ay,bP,if_neg ay,bP,if_neg ay];exact hk j hj
def FnI(mb:Nat)(X:St)(pl lev:Int)(sv:AV)(n:Nat)(k:Nat)(A:bS)(Y:St):Prop:=A.inr=false/\Same X Y/\∃i:Nat,i+k=n/\aD 0 A.F= .ptr mb 0/\aD 1 A.F= .int .i64 pl/\aD 2 A.F= .int .i64 lev/\aD 3 A.F=sv/\aD 9 A.F= .int .i64 (i:Int)
def aOc(P:Nat->Prop)(S0 X:St)(mb db:Nat)(m:Mk)(LV:List (Int×Int×Int))(pl lev:Int)(r:AV)(Z:St):Prop:=∃va' ia' a,1<=a/\a<=3/\r= .int .i64 (m.bn.length:Int)/\mS P S0 Z mb db {m with va:=va',ia:=ia',views:=m.views++ [(pl,lev,(m.bn.length:Int))],bn:=m.bn++ [⟨pl,a⟩]} LV/\fP mb db m X {m with va:=va',ia:=ia',views:=m.views++ [(pl,lev,(m.bn.length:Int))],bn:=m.bn++ [⟨pl,a⟩]} Z
theorem aLe{P:Nat->Prop}{S0 X:St}{mb db:Nat}{m:Mk}{LV:List (Int×Int×Int)}{pl lev:Int}{sv:AV}{l:bu}(H:Has fns)(hM:mS P S0 X mb db m LV)(hS:S0.nx<=X.nx)(hs:bO .i64 X sv l)(hl:l.length<=1000)(hsb:∀c,aX sv=some c->PB mb db m c/\P c)(hv:m.views.length<=100000)(hi:m.bn.length<=100000):
  gH fns (.fn 86 [] []) [.ptr mb 0,.int .i64 pl,.int .i64 lev,sv] X fun r Z=>(Same X Z/\∃ (i:Nat) (v:Int×Int×Int),m.views[i]? =some v/\v.1=pl/\v.2.1=lev/\r= .int .i64 v.2.2)\/aOc P S0 X mb db m LV pl lev r Z:=by
 refine cF H.f86 (by simp) ?_;refine af ?_;refine bQ (af ?_);refine aA (aW (Q:=fun o A' Z=>(o= .normal/\FnI mb X pl lev sv m.views.length 0 A' Z)\/(o= .ret/\Same X Z/\∃ (i:Nat) (v:Int×Int×Int),m.views[i]? =some v/\v.1=pl/\v.2.1=lev/\aD 8 A'.F= .int .i64 v.2.2)) (aA (aG ?_)) ?_)
 ·refine af ?_;refine aL (bK (FnI mb X pl lev sv m.views.length) ?_ m.views.length _ _ ⟨rfl,de _,0,ay,ag,ag,ag,ag,ah⟩);rintro k ⟨F,inr⟩ Y ⟨q0,hY,i,hik,p0,p1,p2,p3,p9⟩;simp only at q0 p0 p1 p2 p3 p9;subst q0;have hMY:=hM.same hY;have f2:=cV (p:=2) hMY.g rfl;refine fE (dy p0 p9 @aY @bB @aF @aE f2 hMY.p.vw.len ?_);by_cases hlt:i<m.views.length;rotate_left
  ·refine aK fe (bG ?_);refine af ?_;have hk0:k=0:=by omega
   subst hk0;exact .inl ⟨rfl,hY,i,hik,by refine⟨?_,?_,?_,?_,?_⟩<;>simp only[↓sU,sD,rE,↓reduceIte,rA,p0,p1,p2,p3,p9]⟩
  refine aM fe (aH ?_);refine af ?_;have hvi:m.views[i]? =some m.views[i]:=Ac hlt;have hV:aP 4 (fun Y e a=>VwE Y (fun c=>PB mb db m c/\P c) e a) Y m.va m.views:=hMY.p.vw.is fun e a h=>h;obtain⟨_,bx,qx,hiax,hbx,_,⟨sv',l',rfl,hs',hl',_⟩,hldx,_⟩:=aP.at hV bg hvi;have w1:=dc i
  generalize hvv:m.views[i]=v at *;refine aA (aL (aA (aG ?_)));simp only[↓aC,aB,rE,↓reduceIte,rA,p0,p9,aY,bB,aF,aE,f2,aJ,hiax,hldx];refine dC ?_;intro W1 v1 k1 h1;refine eS (b:=Y.nx) (ar) (by refine aq ?_;exact bL _) h1 rfl rfl ?_;intro W v2 k2 h2;refine aq ?_;have sYW:Same Y W:=v2.same v1 (Ag _);have sXW:=hY.trans sYW;have g0:=cV (p:=0) h2 rfl;have g1:=cV (p:=1) h2 rfl;have g2:=cV (p:=2) h2 rfl;have again:∀ {F':Fr} {Z:St},aD 0 F'= .ptr mb 0->aD 1 F'= .int .i64 pl->aD 2 F'= .int .i64 lev->aD 3 F'=sv->aD 9 F'= .int .i64 (((i+1:Nat)):Int)->Same X Z->∃x<k,FnI mb X pl lev sv m.views.length x ⟨F',false⟩ Z:=fun {F' Z} a0 a1 a2 a3 a9 hZ=>⟨k - 1,ay,rfl,hZ,i+1,ay,a0,a1,a2,a3,a9⟩;refine bQ ?_;by_cases c1:v.1=pl;rotate_left
  ·refine dt p1 @aF @aE g0 (Aa c1) ?_;refine aK (ag) (aH ?_);refine af ?_;refine aG (df p9 w1 ?_);exact again (ai p0) (ai p1) (ai p2) (ai p3) (ag) sXW
  by_cases c2:v.2.1=lev;rotate_left
  ·refine dy p1 p2 @aF @aE g0 g1 (Ab c1) (Aa c2) ?_;refine aK (ag) (aH ?_);refine af ?_;refine aG (df p9 w1 ?_);exact again (ai p0) (ai p1) (ai p2) (ai p3) (ag) sXW
  simp only[↓sU,sD,rE,↓reduceIte,rA,p1,p2,p3,aF,aE,g0,g1,g2,Ab c1,Ab c2];refine bE (af ?_);refine aQ (oW H (hs'.same sYW) (hs.same sXW) ay) ?_;rintro _ Z ⟨rfl,hZ⟩;have sXZ:=sXW.trans hZ;have h3:=(hZ.2 _ (ay:Y.nx<W.nx)).trans h2;have g3:=cV (p:=3) h3 rfl;by_cases c3:l'=l
  ·rw[Ab c3];refine aM (ag) ?_;refine bQ (dh @aF @aE g3 ?_);refine aR (af ?_);exact .inr ⟨sXZ,i,v,by first | exact⟨hvi,c1,c2⟩ | exact⟨hvi,c1,c2,rfl⟩⟩
  ·rw[Aa c3];refine aK (ag) (aH ?_);refine af ?_;refine aG (df p9 w1 ?_);exact again (ai p0) (ai p1) (ai p2) (ai p3) (ag) sXZ
 rintro o ⟨F,inr⟩ Z (⟨rfl,q0,hZ,i,hik,p0,p1,p2,p3,_⟩ | ⟨rfl,hZ,i,v,h1,h2,h3,p8⟩);rotate_left
 ·simp only at p8;refine cm p8 ?_;exact .inl ⟨hZ,i,v,by first | exact⟨h1,h2,h3⟩ | exact⟨h1,h2,h3,rfl⟩⟩
 simp only at q0 p0 p1 p2 p3;subst q0;refine af ?_;have hMZ:=hM.same hZ;refine aA (aL9 rfl hMZ (Au hS hZ.1) p0 p1 p2 p3 (hs.same hZ) hl hsb hv ?_);intro F1 Z1 va' k1 hM1 b1;refine af ?_;have z1:=(fP.same (mb:=mb) (db:=db) (m:=m) hZ).trans b1;refine aA (aNg H rfl hM1 (Au hS z1.1) ((k1 0 ay).trans p0) ((k1 1 ay).trans p1) hi ?_);intro F2 Z2 ia' a k2 a1 a2 hM2 b2;refine af ?_;have q0:aD 0 F2= .ptr mb 0:=(k2 0 ay).trans ((k1 0 ay).trans p0);have f9:=cV (p:=9) hM2.g rfl;have hlen:=hM2.p.inf.len;have w1:IntKind.i64.wrap ((((m.bn++ [(⟨pl,a⟩:iS)]).length:Nat):Int) - 1)=(m.bn.length:Int):=by
  rw[Ai,Av,wrap_i64 ay ay];omega
 refine bQ (dy q0 @aY @bB @aF @aE f9 hlen w1 ?_);refine aR (af ?_);exact .inr ⟨va',ia',a,a1,a2,rfl,hM2,z1.trans b2⟩
end Go.Ev.Gl
