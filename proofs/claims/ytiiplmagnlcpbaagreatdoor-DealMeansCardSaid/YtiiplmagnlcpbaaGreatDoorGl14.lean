import Derived.Test.YtiiplmagnlcpbaaGreatDoorGl13
set_option linter.unusedSimpArgs false
set_option linter.unusedVariables false
open Nat renaming reduceEqDiff -> rE, reduceAdd -> rA
set_option maxHeartbeats 0
namespace Go.Ev.Gl
variable {fns:T dD}
theorem aAY{cs e:bo}{p t:Nat}(hp:p+e.length<=cs.length):(cs.take p++e++cs.drop (p+e.length))[t]? =if t<p then cs[t]? else if t<p+e.length then e[t - p]? else cs[t]? :=by
 have hl:(cs.take p).length=p:=by rw[Bq];omega
 rw[Be];by_cases h1:t<p
 ·rw[if_pos h1,Ap au,Ft h1]
 ·rw[if_neg h1,Aq au,hl];by_cases h2:t<p+e.length
  ·rw[if_pos h2,Ap au]
  ·rw[if_neg h2,Aq au,Fi];congr 1;omega
theorem aFI{S:St}{b p sz:Nat}{cs e:bo}{o:Bool}(h:S.h.get b=some (.cells cs o sz))(hp:p+e.length<=cs.length):mU S b p e=some ⟨S.h.set b (some (.cells (cs.take p++e++cs.drop (p+e.length)) o sz)),S.nx⟩:=by
 simp only[mU,h,aH,rJ,put_eq,if_pos hp]
theorem aM3{S:St}{b p sz n:Nat}{cs e:bo}{o:Bool}(h:S.h.get b=some (.cells cs o sz))(hp:p+e.length<=cs.length)(hn:e.length=n):oT (.ptr b p) n e S=some (.undef,⟨S.h.set b (some (.cells (cs.take p++e++cs.drop (p+e.length)) o sz)),S.nx⟩):=by
 simp only[oT,eR,hn,aFI h hp];rw[show Nat.beq n n=true from Nat.beq_refl n,aN];subst hn;rfl
def uG{α:Type}(k:Nat)(E:bo->α->Prop)(S0 X:St)(v:AV)(l:List α):Prop:=
 (v= .ce/\l= [])\/∃b c cs,v= .sl b 0 l.length c true/\l.length<=c/\cs.length=c * k/\S0.nx<=b/\b<X.nx/\X.h.get b=some (.cells cs true k)/\0<c/\∀ (i:Nat) (a:α),l[i]? =some a->∃e:bo,e.length=k/\(∀ (j:Nat) (x:AV),e[j]? =some x->cs[i * k+j]? =some x)/\E e a
section
variable {α:Type}{k:Nat}{E E':bo->α->Prop}{S0 X X':St}{v:AV}{l:List α}
theorem uG.none:uG k E S0 X .ce []:=.inl ⟨rfl,rfl⟩
theorem uG.move(h:uG k E S0 X v l)(hn:X.nx<=X'.nx)(hh:∀c,bP v=some c->X'.h.get c=X.h.get c)(hE:∀e a,E e a->E' e a):uG k E' S0 X' v l:=by
 rcases h with h | ⟨b,c,cs,rfl,h1,h2,h3,h4,h5,h6,h7⟩
 ·exact .inl h
 ·refine .inr ⟨b,c,cs,rfl,h1,h2,h3,Ag h4 hn,(hh b rfl).trans h5,h6,fun i a hi=>?_⟩;have⟨e,e1,e2,e3⟩:=h7 i a hi;exact⟨e,e1,e2,hE e a e3⟩
theorem uG.blk(h:uG k E S0 X v l){c:Nat}(hc:bP v=some c):S0.nx<=c/\c<X.nx:=by
 rcases h with⟨rfl,_⟩ | ⟨b,c',cs,rfl,h1,h2,h3,h4,h5,h6,h7⟩
 ·cases hc
 ·cases hc;exact⟨h3,h4⟩
theorem uG.is{E2:St->bo->α->Prop}(h:uG k E S0 X v l)(hE:∀e a,E e a->E2 X e a):bH k E2 X v l:=by
 rcases h with⟨rfl,rfl⟩ | ⟨b,c,cs,rfl,h1,h2,h3,h4,h5,h6,h7⟩
 ·exact .inl ⟨rfl,.inl rfl⟩
 ·refine .inr ⟨b,0,c,true,cs,rfl,h1,h4,by unfold cA;rw[h5];rfl,fun i a hi=>?_⟩;have⟨e,e1,e2,e3⟩:=h7 i a hi;exact⟨e,e1,fun j x hj=>by rw[Ao];exact e2 j x hj,hE e a e3⟩
theorem uG.cells(h:uG k E S0 X v l):v.cells=some [v]:=by
 rcases h with⟨rfl,_⟩ | ⟨b,c,cs,rfl,_⟩<;>rfl
theorem uG.self(h:uG k E S0 X v l):cQ v v=true:=by
 rcases h with⟨rfl,_⟩ | ⟨b,c,cs,rfl,_⟩
 ·rfl
 ·exact rX ..
theorem uG.len(h:uG k E S0 X v l):lB v=some (.int .i64 (l.length:Int)):=by
 rcases h with⟨rfl,rfl⟩ | ⟨b,c,cs,rfl,_⟩<;>rfl
theorem xU{i j k q:Nat}(h:i<j)(hq:q<k):i * k+q<j * k:=by
 have:(i+1) * k<=j * k:=Ar k h;rw[Ch,Nat.one_mul] at this;omega
theorem uG.push{bytes:Nat}{x:AV}{e:bo}{a:α}(h:uG k E S0 X v l)(hk:0<k)(hS:S0.nx<=X.nx)(hl:xC x=some 1)(hs:eU x X.h k 1=some e)(he:e.length=k)(hE:E e a)(h1:l.length+1<=room)(h2:(l.length+1) * bytes<=room):
  ∃v' X',iW bytes k v x X=some (v',X')/\uG k E S0 X' v' (l++ [a])/\X.nx<=X'.nx/\(∀c,c<X.nx->bP v≠some c->X'.h.get c=X.h.get c)/\(∀c,bP v'=some c->bP v=some c\/X.nx<=c):=by
 rcases h with⟨rfl,rfl⟩ | ⟨b,c,cs,rfl,g1,g2,g3,g4,g5,g6,g7⟩
 ·refine⟨.sl X.nx 0 1 1 true,⟨X.h.set X.nx (some (.cells e true k)),X.nx+1⟩,?_,.inr ⟨X.nx,1,e,rfl,Af _,by rw[he,Nat.one_mul],hS,by simp,fh,Nat.one_pos,fun i a' hi=>?_⟩,by simp,fun c hc _=>(Same.alloc X _).2 c hc,fun c hc=>by cases hc;exact .inr (Af _)⟩
  ·show(aU (xC x) fun j=>aU (eU x X.h k j) fun new=>xG .ce bytes k j new X)=_;rw[hl,aH,hs,aH];show pF bytes k 1 e X=_;have h1':1<=room:=by simpa using h1
   have h2':1 * bytes<=room:=by simpa using h2
   unfold pF;rw[show Nat.beq 1 0=false from rfl,aR,Ah h1',aN,Ah h2',aN];rfl
  ·cases i with
   | zero=>
    simp at hi;subst hi;exact⟨e,he,fun j y hj=>by rw[Fu,Ao];exact hj,hE⟩
   | succ i=>simp at hi
 ·by_cases hc:l.length+1<=c
  ·have hp:l.length * k+e.length<=cs.length:=by
    rw[he,g2,<-Gg];exact Ar k hc
   refine⟨.sl b 0 (l.length+1) c true,⟨X.h.set b (some (.cells (cs.take (l.length * k)++e++cs.drop (l.length * k+e.length)) true k)),X.nx⟩,?_,.inr ⟨b,c,cs.take (l.length * k)++e++cs.drop (l.length * k+e.length),by rw[Aj,Bc],by rw[Aj,Bc];exact hc,by simp;omega,g3,g4,fh,g6,fun i a' hi=>?_⟩,Af _,fun c' _ hne=>?_,fun c' hc'=>.inl hc'⟩
   ·show(aU (xC x) fun j=>aU (eU x X.h k j) fun new=>xG (.sl b 0 l.length c true) bytes k j new X)=_;rw[hl,aH,hs,aH];show pT bytes k b 0 l.length c true 1 e X=_;unfold pT;rw[Ah hc,aN,show Nat.beq 1 0=false from rfl,aR,Ao,aFI g5 hp,aH]
   ·rw[Gw] at hi;split at hi
    ·rename_i hlt;have⟨e',e1,e2,e3⟩:=g7 i a' hi;refine⟨e',e1,fun j y hj=>?_,e3⟩;have hjk:j<k:=by rw[<-e1];exact(Ai.1 hj).1
     rw[aAY hp,if_pos (xU hlt hjk)];exact e2 j y hj
    ·rename_i hlt;have h0:i - l.length=0:=by
      rcases An (i - l.length) with h0 | h0
      ·exact h0
      ·rw[Bo (by simp;omega)] at hi;cases hi
     rw[h0] at hi;cases hi;have hil:i=l.length:=by omega
     subst hil;refine⟨e,he,fun j y hj=>?_,hE⟩;have hjk:j<e.length:=(Ai.1 hj).1;rw[aAY hp,if_neg au,if_pos au,Nat.add_sub_cancel_left];exact hj
   ·simp only;rw[dq,if_neg (fun e=>hne (by rw[e];rfl))]
  ·obtain rfl:c=l.length:=by omega
   refine⟨.sl X.nx 0 (l.length+1) (l.length+1) true,⟨(X.h.set b Option.none).set X.nx (some (.cells (cs++e) true k)),X.nx+1⟩,?_,.inr ⟨X.nx,l.length+1,cs++e,by rw[Aj,Bc],by rw[Aj,Bc];exact Af _,by rw[Aj,g2,he,Gg],hS,by simp,fh,au,fun i a' hi=>?_⟩,by simp,fun c' hc' hne=>?_,fun c' hc'=>by cases hc';exact .inr (Af _)⟩
   ·show(aU (xC x) fun j=>aU (eU x X.h k j) fun new=>xG (.sl b 0 l.length l.length true) bytes k j new X)=_;rw[hl,aH,hs,aH];show pT bytes k b 0 l.length l.length true 1 e X=_;unfold pT;have e2:Nat.ble (l.length+1) l.length=false:=by rw[Ca];intro h;have:=Au h;omega
    rw[e2,aR,Ah h1,aN,Ah h2,aN,g5,aH];have e3:cut cs 0 (l.length * k)=some cs:=by
     unfold cut;rw[jC,jM,Dn,if_pos au,Ay au]
    have e4:Nat.beq (0+l.length * k) (kL cs)=true:=by rw[eR,g2,Az];omega
    have e5:Nat.beq k k=true:=Nat.beq_refl k;simp only[aAR,e3,aH,aN,e4,e5,grown,fE]
   ·rw[Gw] at hi;split at hi
    ·rename_i hlt;have⟨e',e1,e2,e3⟩:=g7 i a' hi;refine⟨e',e1,fun j y hj=>?_,e3⟩;have hjk:j<k:=by rw[<-e1];exact(Ai.1 hj).1
     rw[Ap (by rw[g2];exact xU hlt hjk)];exact e2 j y hj
    ·rename_i hlt;have h0:i - l.length=0:=by
      rcases An (i - l.length) with h0 | h0
      ·exact h0
      ·rw[Bo (by simp;omega)] at hi;cases hi
     rw[h0] at hi;cases hi;have hil:i=l.length:=by omega
     subst hil;refine⟨e,he,fun j y hj=>?_,hE⟩;rw[Aq au,g2,Nat.add_sub_cancel_left];exact hj
   ·simp only;have:c'≠b:=fun e=>hne (by rw[e];rfl);rw[dq,if_neg au,dq,if_neg this]
theorem uG.set(h:uG k E S0 X v l){i:Nat}{a:α}{e:bo}(hi:i<l.length)(he:e.length=k)(hE:E e a):
  ∃b p X',dT (.slice k) v i=some (.ptr b p)/\bP v=some b/\oT (.ptr b p) k e X=some (.undef,X')/\uG k E S0 X' v (l.set i a)/\X'.nx=X.nx/\∀c,c≠b->X'.h.get c=X.h.get c:=by
 rcases h with⟨rfl,rfl⟩ | ⟨b,c,cs,rfl,g1,g2,g3,g4,g5,g6,g7⟩
 ·exact absurd hi (Dc i)
 ·have hp:0+i * k+e.length<=cs.length:=by
   rw[he,g2,Ao,<-Gg];exact Ar k au
  refine⟨b,0+i * k,_,?_,rfl,aM3 g5 hp he,.inr ⟨b,c,cs.take (0+i * k)++e++cs.drop (0+i * k+e.length),by rw[Cl],by rw[Cl];exact g1,by simp;omega,g3,g4,fh,g6,fun j a' hj=>?_⟩,rfl,fun c' hne=>by simp only;rw[dq,if_neg hne]⟩
  ·show bO (Nat.blt i l.length) _ _=_;rw[show Nat.blt i l.length=true from Ah hi,aN]
  ·rw[List.getElem?_set] at hj;split at hj
   ·rename_i e0;subst e0;try rw[if_pos hi] at hj
    cases hj;refine⟨e,he,fun q y hq=>?_,hE⟩;have hqk:q<e.length:=(Ai.1 hq).1;rw[aAY hp,if_neg au,if_pos au];rw[show i * k+q - (0+i * k)=q by omega];exact hq
   ·rename_i hne;have⟨e',e1,e2,e3⟩:=g7 j a' hj;refine⟨e',e1,fun q y hq=>?_,e3⟩;have hqk:q<k:=by rw[<-e1];exact(Ai.1 hq).1
    rw[aAY hp];rcases Nat.lt_or_gt_of_ne hne with h1 | h1
    ·have:i * k+e.length<=j * k:=by
      rw[he,<-Gg];exact Ar k h1
     rw[if_neg au,if_neg au];exact e2 q y hq
    ·rw[if_pos (by have:=xU h1 hqk;omega)];exact e2 q y hq
theorem uG.shrink(h:uG k E S0 X v l){n:Nat}(hn:l.length=n+1):∃v',(∀ (F:Fr) (hi:cP),dS (hi.val F)=some n->oS (.slice k) v Option.none (some hi) Option.none F=some v')/\uG k E S0 X v' l.dropLast/\bP v'=bP v:=by
 rcases h with⟨rfl,rfl⟩ | ⟨b,c,cs,rfl,g1,g2,g3,g4,g5,g6,g7⟩
 ·cases hn
 ·refine⟨.sl b 0 n c true,fun F hi hx=>?_,.inr ⟨b,c,cs,by rw[List.length_dropLast,hn];rfl,by rw[List.length_dropLast];omega,g2,g3,g4,g5,g6,fun i a hj=>?_⟩,rfl⟩
  ·show aDR k b 0 l.length c true Option.none (some hi) Option.none F=_;unfold aDR;have e1:jP l.length c Option.none (some hi) Option.none F=some (0,n,c):=by
    unfold jP;show(aU (some c) fun m=>aU (dS (hi.val F)) fun h=>aU (some 0) fun l'=>_)=_;rw[hx];simp only[aH];rw[Ah (Af c),aN,Ah (show n<=c by omega),aN,Ah (Dt n),aN]
   rw[e1,aH];have e2:Nat.beq c 0=false:=by rw[Ca];intro h;rw[Az] at h;omega
   simp only[e2,aR,Fu,Bm,Gu];rfl
  ·have hlt:i<l.dropLast.length:=(Ai.1 hj).1;rw[List.getElem?_dropLast] at hj;split at hj
   ·exact g7 i a hj
   ·cases hj
end
theorem aFy{S:St}{x n:Int}(H:Has fns)(h1:1<=n)(h2:n<=1000000000):eT fns (.fn 23 [] []) [.int .i64 x,.int .i64 n] S fun r X=>Same S X/\∃y,r= .int .i64 y/\0<=y/\y<n:=by
 have hr:=aLc (.p .int) (a:=x) (b:=n) au;have hb1:=Int.tmod_lt_of_pos x (show 0<n by omega);have hb2:=Int.lt_tmod_of_pos x (show 0<n by omega);generalize x.tmod n=y at *;refine bL H.f23 (by simp) ?_;refine ae ?_;refine bK (ae ?_);refine bK (cp hr ?_);refine fA (ae ?_);by_cases hy:y<0
 ·have w1:IntKind.i64.wrap (y+n)=y+n:=wrap_i64 au au;refine aP (by simp only[↓sU,sD,rE,↓reduceIte,rA,Ac hy]) ?_;refine aM (cp w1 ?_);refine bK (ae ?_);refine aK (ae ?_);exact⟨Same.refl _,y+n,rfl,au,au⟩
 ·refine aO (by simp only[↓sU,sD,rE,↓reduceIte,rA,Aa hy]) (aJ ?_);try refine ae ?_
  refine bK (ae ?_);refine aK (ae ?_);exact⟨Same.refl _,y,rfl,au,au⟩
structure rO(X:St)(db:Nat)(lv:AV)(l:bm):Prop where
 lt:db<X.nx
 c:∃at':Nat,X.h.get db=some (.cells [lv,.int .i64 (at':Int)] false 0)/\at'<=l.length
 il:cH .i64 X lv l
 ne:bP lv≠some db
 bd:l.length<=140737488355328
theorem rO.move{X X':St}{db:Nat}{lv:AV}{l:bm}(h:rO X db lv l)(hn:X.nx<=X'.nx)(hd:X'.h.get db=X.h.get db)(hl:∀c,bP lv=some c->X'.h.get c=X.h.get c):rO X' db lv l:=by
 have⟨a,h1,h2⟩:=h.c;exact⟨Ag h.lt hn,⟨a,hd.trans h1,h2⟩,mC h.il hn hl,h.ne,h.bd⟩
theorem mJ{X:St}{db:Nat}{lv:AV}{l:bm}{n:Int}(H:Has fns)(h:rO X db lv l)(h1:1<=n)(h2:n<=1000000000):eT fns (.fn 45 [] []) [.ptr db 0,.int .i64 n] X fun r X'=>cB db X X'/\rO X' db lv l/\∃y,r= .int .i64 y/\0<=y/\y<n:=by
 have⟨a,hc,ha⟩:=h.c;have hbd:=h.bd;have sl:=cH.self h.il;refine bL H.f45 (by simp) ?_;refine ae ?_;refine bK (ae ?_);refine aE (aE (jK ?_));by_cases hlt:(l.length:Int)<=(a:Int)
 ·simp only[↓sU,sD,rE,↓reduceIte,rA,aY,bT,bB,aD,aX,aC,aNE hc,aKR hc,sl,h.il.len,Ak,Ac (show(a:Int)≥(l.length:Int) from hlt)];refine aP (af) ?_;refine bK (ae ?_);refine aK (ae ?_);exact⟨⟨En _ _,fun c _ _=>rfl⟩,h.move (En _ _) rfl fun _ _=>rfl,0,rfl,au,au⟩
 simp only[↓sU,sD,rE,↓reduceIte,rA,aY,bT,bB,aD,aX,aC,aNE hc,aKR hc,sl,h.il.len,Ak,Aa (show ¬ (a:Int)≥(l.length:Int) from hlt)];refine aO (by simp only[↓sU,sD,rE,↓reduceIte,rA,Aa (show ¬n<1 by omega)]) (aJ ?_);try refine ae ?_
 have hal:a<l.length:=by omega
 have w1:=dk a
 have w2:IntKind.i64.wrap (((a+1:Nat):Int) - 1)=(a:Int):=by rw[wrap_i64 au au];omega
 generalize hX0:(⟨X.h,X.nx+_⟩:St)=X0;have e0:X0.h=X.h:=by rw[<-hX0]
 have n0:X.nx<=X0.nx:=by rw[<-hX0];exact En _ _
 clear hX0;have hc0:X0.h.get db=some (.cells [lv,.int .i64 (a:Int)] false 0):=by rw[e0];exact hc
 refine bK (dw @aY @bB @aD @aC (aKR hc0) w1 ?_);refine fK (v:=.undef) (S1:=⟨X0.h.set db (some (.cells [lv,.int .i64 ((a+1:Nat):Int)] false 0)),X0.nx⟩) (fun call=>by refine c9 @dW @cN ?_;exact stc (cs:=[lv,.int .i64 (a:Int)]) (p:=1) (S:=X0) hc0 (by simp)) ?_;refine ae ?_;generalize hX1:(⟨X0.h.set db (some (.cells [lv,.int .i64 ((a+1:Nat):Int)] false 0)),X0.nx⟩:St)=X1;have hc1:X1.h.get db=some (.cells [lv,.int .i64 ((a+1:Nat):Int)] false 0):=by rw[<-hX1];simp only;rw[dq,if_pos rfl]
 have k1:cB db X X1:=by rw[<-hX1];exact⟨n0,fun c _ hne=>by simp only;rw[dq,if_neg hne,e0]⟩
 clear hX1;have hl1:cH .i64 X1 lv l:=mC h.il k1.1 fun c hcc=>k1.2 c (fP h.il hcc) fun e=>h.ne (by rw[hcc,e]);have D1:rO X1 db lv l:=⟨Ag h.lt k1.1,⟨a+1,hc1,hal⟩,hl1,h.ne,h.bd⟩;have ia:=hl1.cq hal;have la:=hl1.ld hal;have⟨b1,o1,hp1,lb1⟩:=cH.place hl1 hal;rw[hp1] at ia la;have ldb:=D1.lt;refine aE (fJ (fun _=>False) ?_);intro X2 x2;simp only[↓sU,sD,rE,↓reduceIte,rA,aY,bT,bB,aD,aX,aC,aNE hc1,aKR hc1,sl,ldb,Am,w2,aW,ia,la,lb1];refine cF rfl ?_;refine ae ?_;refine aF (aFy H h1 h2) ?_;rintro _ X3 ⟨x3,y,rfl,hy1,hy2⟩;refine⟨x3,?_⟩;try refine ae ?_
 refine aK (ae ?_);have s13:=x2.trans x3;exact⟨⟨Bb k1.1 s13.1,fun c hcx hne=>(s13.2 c (Ag hcx k1.1)).trans (k1.2 c hcx hne)⟩,D1.move s13.1 (s13.2 _ D1.lt) fun c hcc=>s13.2 c (fP hl1 hcc),y,rfl,hy1,hy2⟩
structure Mk where
 lvl:AV
 va:AV
 na:AV
 ia:AV
 lv:AV
 most:Int
 pend:Int
 ps:Int
 zero:Bool
 small:Bool
 dl:bm
 bw:List dI
 bz:List pN
 views:List (Int×Int×Int)
def PB(mb db:Nat)(m:Mk)(c:Nat):Prop:=c≠mb/\c≠db/\bP m.na≠some c/\bP m.ia≠some c/\bP m.va≠some c
def fN(mb db:Nat)(m:Mk)(X:St)(m':Mk)(X':St):Prop:=X.nx<=X'.nx/\∀c,c<X.nx->PB mb db m c->X'.h.get c=X.h.get c/\PB mb db m' c
theorem fN.refl{mb db:Nat}{m:Mk}{X:St}:fN mb db m X m X:=⟨Af _,fun _ _ h=>⟨rfl,h⟩⟩
theorem fN.trans{mb db:Nat}{m m' m'':Mk}{X X' X'':St}(h:fN mb db m X m' X')(h':fN mb db m' X' m'' X''):fN mb db m X m'' X'':=
 ⟨Bb h.1 h'.1,fun c hc hp=>by
  have⟨a,b⟩:=h.2 c hc hp;have⟨a',b'⟩:=h'.2 c (Ag hc h.1) b;exact⟨a'.trans a,b'⟩⟩
theorem fN.same{mb db:Nat}{m:Mk}{X X':St}(h:Same X X'):fN mb db m X m X':=⟨h.1,fun c hc hp=>⟨h.2 c hc,hp⟩⟩
def aM7(mb db:Nat)(P:Nat->Prop)(m:Mk)(X:St)(m':Mk)(X':St):Prop:=X.nx<=X'.nx/\∀c,c<X.nx->PB mb db m c->P c->X'.h.get c=X.h.get c/\PB mb db m' c
theorem fN.p{mb db:Nat}{P:Nat->Prop}{m m':Mk}{X X':St}(h:fN mb db m X m' X'):aM7 mb db P m X m' X':=⟨h.1,fun c hc hp _=>h.2 c hc hp⟩
theorem aM7.np{mb db:Nat}{P:Nat->Prop}{m m':Mk}{X X':St}(h:aM7 mb db P m X m' X'):∀c,c<X.nx->(PB mb db m c/\P c)->X'.h.get c=X.h.get c/\(PB mb db m' c/\P c):=fun c hc hp=>⟨(h.2 c hc hp.1 hp.2).1,(h.2 c hc hp.1 hp.2).2,hp.2⟩
def PlE(_:St)(cs:bo)(a:Int×Int×Int):Prop:=cs= [.int .i64 a.1,.int .i64 a.2.1,.int .i64 a.2.2]
def aOt(cs:bo)(a:pN):Prop:=cs= [.int .i64 a.player,.int .i64 a.cd]
def VwE(X:St)(P:Nat->Prop)(cs:bo)(a:Int×Int×Int):Prop:=∃sv l,cs= [.int .i64 a.1,.int .i64 a.2.1,sv,.int .i64 a.2.2]/\cH .i64 X sv l/\l.length<=1000/\∀c,bP sv=some c->P c
theorem VwE.move{X X':St}{P P':Nat->Prop}{e:bo}{a:Int×Int×Int}(h:VwE X P e a)(hn:X.nx<=X'.nx)(hh:∀c,c<X.nx->P c->X'.h.get c=X.h.get c/\P' c):VwE X' P' e a:=by
 obtain⟨sv,l,rfl,h1,h2,h3⟩:=h;exact⟨sv,l,rfl,mC h1 hn fun c hc=>(hh c (fP h1 hc) (h3 c hc)).1,h2,fun c hc=>(hh c (fP h1 hc) (h3 c hc)).2⟩
structure MkP(P:Nat->Prop)(S0 X:St)(mb db:Nat)(m:Mk)(LV:List (Int×Int×Int)):Prop where
 lt:mb<X.nx
 ge:S0.nx<=mb
 dge:S0.nx<=db
 ne:mb≠db
 dr:rO X db m.lv m.dl
 dp:∀c,bP m.lv=some c->PB mb db m c/\P c
 lev:bH 3 PlE X m.lvl LV
 levp:∀c,bP m.lvl=some c->PB mb db m c/\P c
 nod:uG 6 (aGA X fun c=>PB mb db m c/\P c) S0 X m.na m.bw
 inf:uG 2 aOt S0 X m.ia m.bz
 vw:uG 4 (VwE X fun c=>PB mb db m c/\P c) S0 X m.va m.views
 d1:∀c,bP m.na=some c->c≠mb/\c≠db/\bP m.ia≠some c/\bP m.va≠some c
 d2:∀c,bP m.ia=some c->c≠mb/\c≠db/\bP m.va≠some c
 d3:∀c,bP m.va=some c->c≠mb/\c≠db
def eG(db:Nat)(m:Mk):bo:=[.ptr db 0,m.lvl,m.va,.int .i64 m.most,.int .i64 m.pend,.bool m.zero,.bool m.small,.int .i64 m.ps,m.na,m.ia]
structure nE(P:Nat->Prop)(S0 X:St)(mb db:Nat)(m:Mk)(LV:List (Int×Int×Int)):Prop where
 p:MkP P S0 X mb db m LV
 g:X.h.get mb=some (.cells (eG db m) false 0)
section
variable {P:Nat->Prop}{S0 X X':St}{mb db:Nat}{m m':Mk}{LV:List (Int×Int×Int)}
theorem aCN{k:Nat}{α:Type}{E:St->bo->α->Prop}{v:AV}{l:List α}{c:Nat}(h:bH k E X v l)(hc:bP v=some c):c<X.nx:=by
 rcases h with⟨_,rfl | rfl⟩ | ⟨b,off,cap,o,cs,rfl,_,hb,_⟩
 ·cases hc
 ·cases hc
 ·cases hc;exact hb
theorem MkP.of(h:MkP P S0 X mb db m LV)(K:aM7 mb db P m X m' X')(e1:m'.lvl=m.lvl)(e2:m'.lv=m.lv)(e3:m'.dl=m.dl)(hdr:rO X' db m.lv m.dl)(hna:uG 6 (aGA X' fun c=>PB mb db m' c/\P c) S0 X' m'.na m'.bw)(hia:uG 2 aOt S0 X' m'.ia m'.bz)(hva:uG 4 (VwE X' fun c=>PB mb db m' c/\P c) S0 X' m'.va m'.views)
  (d1:∀c,bP m'.na=some c->c≠mb/\c≠db/\bP m'.ia≠some c/\bP m'.va≠some c) (d2:∀c,bP m'.ia=some c->c≠mb/\c≠db/\bP m'.va≠some c) (d3:∀c,bP m'.va=some c->c≠mb/\c≠db):MkP P S0 X' mb db m' LV where
 lt:=Ag h.lt K.1
 ge:=h.ge
 dge:=h.dge
 ne:=h.ne
 dr:=by rw[e2,e3];exact hdr
 dp:=fun c hc=>by rw[e2] at hc;exact(K.np c (fP h.dr.il hc) (h.dp c hc)).2
 lev:=by rw[e1];exact bH.moveB h.lev K.1 (fun c hc=>(K.np c (aCN h.lev hc) (h.levp c hc)).1) fun _ _ h=>h
 levp:=fun c hc=>by rw[e1] at hc;exact(K.np c (aCN h.lev hc) (h.levp c hc)).2
 nod:=hna
 inf:=hia
 vw:=hva
 d1:=d1
 d2:=d2
 d3:=d3
theorem MkP.keep(h:MkP P S0 X mb db m LV)(hn:X.nx<=X'.nx)(hk:∀c,c<X.nx->c≠mb->c≠db->X'.h.get c=X.h.get c)(hdr:rO X' db m.lv m.dl)(e1:m'.lvl=m.lvl)(e2:m'.lv=m.lv)(e3:m'.dl=m.dl)(e4:m'.na=m.na)(e5:m'.bw=m.bw)(e6:m'.ia=m.ia)(e7:m'.bz=m.bz)(e8:m'.va=m.va)(e9:m'.views=m.views):MkP P S0 X' mb db m' LV/\fN mb db m X m' X':=by
 have K:fN mb db m X m' X':=⟨hn,fun c hc hp=>⟨hk c hc hp.1 hp.2.1,by unfold PB;rw[e4,e6,e8];exact hp⟩⟩;refine⟨h.of K.p e1 e2 e3 hdr ?_ ?_ ?_ ?_ ?_ ?_,K⟩
 ·rw[e4,e5];exact h.nod.move hn (fun c hc=>hk c (h.nod.blk hc).2 (h.d1 c hc).1 (h.d1 c hc).2.1) fun e a hE=>hE.move hn (fN.p K).np
 ·rw[e6,e7];exact h.inf.move hn (fun c hc=>hk c (h.inf.blk hc).2 (h.d2 c hc).1 (h.d2 c hc).2.1) fun e a hE=>hE
 ·rw[e8,e9];exact h.vw.move hn (fun c hc=>hk c (h.vw.blk hc).2 (h.d3 c hc).1 (h.d3 c hc).2) fun e a hE=>hE.move hn (fN.p K).np
 ·rw[e4,e6,e8];exact h.d1
 ·rw[e6,e8];exact h.d2
 ·rw[e8];exact h.d3
theorem nE.same(h:nE P S0 X mb db m LV)(hs:Same X X'):nE P S0 X' mb db m LV:=
 ⟨(h.p.keep hs.1 (fun c hc _ _=>hs.2 c hc) (h.p.dr.move hs.1 (hs.2 _ h.p.dr.lt) fun c hc=>hs.2 c (fP h.p.dr.il hc)) rfl rfl rfl rfl rfl rfl rfl rfl rfl).1,(hs.2 _ h.p.lt).trans h.g⟩
theorem nE.drawn(h:nE P S0 X mb db m LV)(hs:cB db X X')(hd:rO X' db m.lv m.dl):nE P S0 X' mb db m LV/\fN mb db m X m X':=by
 have⟨a,b⟩:=h.p.keep (m':=m) hs.1 (fun c hc _ h2=>hs.2 c hc h2) hd rfl rfl rfl rfl rfl rfl rfl rfl rfl;exact⟨⟨a,(hs.2 _ h.p.lt h.p.ne).trans h.g⟩,b⟩
theorem MkP.put(h:MkP P S0 X mb db m LV)(g:X'.h.get mb=some (.cells (eG db m) false 0))(hn:X.nx<=X'.nx)(hk:∀c,c<X.nx->c≠mb->X'.h.get c=X.h.get c):nE P S0 X' mb db m LV:=
 ⟨(h.keep (m':=m) hn (fun c hc h1 _=>hk c hc h1) (h.dr.move hn (hk _ h.dr.lt h.ne.symm) fun c hc=>hk c (fP h.dr.il hc) (h.dp c hc).1.1) rfl rfl rfl rfl rfl rfl rfl rfl rfl).1,g⟩
theorem nE.local(h:nE P S0 X mb db m LV)(hn:X.nx<=X'.nx)(hk:∀c,c<X.nx->(¬PB mb db m c\/P c)->X'.h.get c=X.h.get c):nE P S0 X' mb db m LV:=by
 have K:aM7 mb db P m X m X':=⟨hn,fun c hc hp hP=>⟨hk c hc (.inr hP),hp⟩⟩;refine⟨h.p.of K rfl rfl rfl (h.p.dr.move hn (hk _ h.p.dr.lt (.inl fun hp=>hp.2.1 rfl)) fun c hc=>hk c (fP h.p.dr.il hc) (.inr (h.p.dp c hc).2)) (h.p.nod.move hn (fun c hc=>hk c (h.p.nod.blk hc).2 (.inl fun hp=>hp.2.2.1 hc)) fun e a hE=>hE.move hn K.np) (h.p.inf.move hn (fun c hc=>hk c (h.p.inf.blk hc).2 (.inl fun hp=>hp.2.2.2.1 hc)) fun e a hE=>hE) (h.p.vw.move hn (fun c hc=>hk c (h.p.vw.blk hc).2 (.inl fun hp=>hp.2.2.2.2 hc)) fun e a hE=>hE.move hn K.np) h.p.d1 h.p.d2 h.p.d3,?_⟩;exact(hk _ h.p.lt (.inl fun hp=>hp.1 rfl)).trans h.g
theorem MkP.mono{P':Nat->Prop}(h:MkP P S0 X mb db m LV)(hP:∀c,c<X.nx->P c->P' c):MkP P' S0 X mb db m LV where
 lt:=h.lt
 ge:=h.ge
 dge:=h.dge
 ne:=h.ne
 dr:=h.dr
 dp:=fun c hc=>⟨(h.dp c hc).1,hP c (fP h.dr.il hc) (h.dp c hc).2⟩
 lev:=h.lev
 levp:=fun c hc=>⟨(h.levp c hc).1,hP c (aCN h.lev hc) (h.levp c hc).2⟩
 nod:=h.nod.move (Af _) (fun _ _=>rfl) fun e a hE=>hE.move (Af _) fun c hc hp=>⟨rfl,hp.1,hP c hc hp.2⟩
 inf:=h.inf
 vw:=h.vw.move (Af _) (fun _ _=>rfl) fun e a hE=>hE.move (Af _) fun c hc hp=>⟨rfl,hp.1,hP c hc hp.2⟩
 d1:=h.d1
 d2:=h.d2
 d3:=h.d3
theorem nE.mono{P':Nat->Prop}(h:nE P S0 X mb db m LV)(hP:∀c,c<X.nx->P c->P' c):nE P' S0 X mb db m LV:=⟨h.p.mono hP,h.g⟩
theorem MkP.pushN(h:MkP P S0 X mb db m LV){v':AV}{l':List dI}(hn:X.nx<=X'.nx)(hk:∀c,c<X.nx->bP m.na≠some c->X'.h.get c=X.h.get c)(hb:∀c,bP v'=some c->bP m.na=some c\/X.nx<=c)(ha:uG 6 (aGA X fun c=>PB mb db m c/\P c) S0 X' v' l'):MkP P S0 X' mb db {m with na:=v',bw:=l'} LV/\fN mb db m X {m with na:=v',bw:=l'} X':=by
 have K:fN mb db m X {m with na:=v',bw:=l'} X':=⟨hn,fun c hc hp=>⟨hk c hc hp.2.2.1,hp.1,hp.2.1,fun e=>(hb c e).elim (fun h1=>hp.2.2.1 h1) fun h1=>absurd hc (Nat.not_lt.2 h1),hp.2.2.2.1,hp.2.2.2.2⟩⟩;have old:∀ {c},bP m.na=some c->c<X.nx:=fun hc=>(h.nod.blk hc).2;refine⟨h.of K.p rfl rfl rfl (h.dr.move hn (hk _ h.dr.lt fun e=>(h.d1 _ e).2.1 rfl) fun c hc=>hk c (fP h.dr.il hc) (h.dp c hc).1.2.2.1) (ha.move (Af _) (fun _ _=>rfl) fun e a hE=>hE.move hn (fN.p K).np) (h.inf.move hn (fun c hc=>hk c (h.inf.blk hc).2 fun e=>(h.d1 c e).2.2.1 hc) fun e a hE=>hE) (h.vw.move hn (fun c hc=>hk c (h.vw.blk hc).2 fun e=>(h.d1 c e).2.2.2 hc) fun e a hE=>hE.move hn (fN.p K).np) (fun c hc=>?_) h.d2 h.d3,K⟩;rcases hb c hc with h1 | h1
 ·exact h.d1 c h1
 ·exact⟨aw h.lt,aw h.dr.lt,fun e=>by have:=(h.inf.blk e).2;omega,fun e=>by have:=(h.vw.blk e).2;omega⟩
theorem MkP.pushI(h:MkP P S0 X mb db m LV){v':AV}{l':List pN}(hn:X.nx<=X'.nx)(hk:∀c,c<X.nx->bP m.ia≠some c->X'.h.get c=X.h.get c)(hb:∀c,bP v'=some c->bP m.ia=some c\/X.nx<=c)(ha:uG 2 aOt S0 X' v' l'):MkP P S0 X' mb db {m with ia:=v',bz:=l'} LV/\fN mb db m X {m with ia:=v',bz:=l'} X':=by
 have K:fN mb db m X {m with ia:=v',bz:=l'} X':=⟨hn,fun c hc hp=>⟨hk c hc hp.2.2.2.1,hp.1,hp.2.1,hp.2.2.1,fun e=>(hb c e).elim (fun h1=>hp.2.2.2.1 h1) fun h1=>absurd hc (Nat.not_lt.2 h1),hp.2.2.2.2⟩⟩;refine⟨h.of K.p rfl rfl rfl (h.dr.move hn (hk _ h.dr.lt fun e=>(h.d2 _ e).2.1 rfl) fun c hc=>hk c (fP h.dr.il hc) (h.dp c hc).1.2.2.2.1) (h.nod.move hn (fun c hc=>hk c (h.nod.blk hc).2 (h.d1 c hc).2.2.1) fun e a hE=>hE.move hn (fN.p K).np) ha (h.vw.move hn (fun c hc=>hk c (h.vw.blk hc).2 fun e=>(h.d2 c e).2.2 hc) fun e a hE=>hE.move hn (fN.p K).np) (fun c hc=>⟨(h.d1 c hc).1,(h.d1 c hc).2.1,fun e=>?_,(h.d1 c hc).2.2.2⟩) (fun c hc=>?_) h.d3,K⟩
 ·rcases hb c e with h1 | h1
  ·exact(h.d1 c hc).2.2.1 h1
  ·have:=(h.nod.blk hc).2;omega
 ·rcases hb c hc with h1 | h1
  ·exact h.d2 c h1
  ·exact⟨aw h.lt,aw h.dr.lt,fun e=>by have:=(h.vw.blk e).2;omega⟩
theorem MkP.pushV(h:MkP P S0 X mb db m LV){v':AV}{l':List (Int×Int×Int)}(hn:X.nx<=X'.nx)(hk:∀c,c<X.nx->bP m.va≠some c->X'.h.get c=X.h.get c)(hb:∀c,bP v'=some c->bP m.va=some c\/X.nx<=c)(ha:uG 4 (VwE X fun c=>PB mb db m c/\P c) S0 X' v' l'):MkP P S0 X' mb db {m with va:=v',views:=l'} LV/\fN mb db m X {m with va:=v',views:=l'} X':=by
 have K:fN mb db m X {m with va:=v',views:=l'} X':=⟨hn,fun c hc hp=>⟨hk c hc hp.2.2.2.2,hp.1,hp.2.1,hp.2.2.1,hp.2.2.2.1,fun e=>(hb c e).elim (fun h1=>hp.2.2.2.2 h1) fun h1=>absurd hc (Nat.not_lt.2 h1)⟩⟩;refine⟨h.of K.p rfl rfl rfl (h.dr.move hn (hk _ h.dr.lt fun e=>(h.d3 _ e).2 rfl) fun c hc=>hk c (fP h.dr.il hc) (h.dp c hc).1.2.2.2.2) (h.nod.move hn (fun c hc=>hk c (h.nod.blk hc).2 (h.d1 c hc).2.2.2) fun e a hE=>hE.move hn (fN.p K).np) (h.inf.move hn (fun c hc=>hk c (h.inf.blk hc).2 (h.d2 c hc).2.2) fun e a hE=>hE) (ha.move (Af _) (fun _ _=>rfl) fun e a hE=>hE.move hn (fN.p K).np) (fun c hc=>⟨(h.d1 c hc).1,(h.d1 c hc).2.1,(h.d1 c hc).2.2.1,fun e=>?_⟩) (fun c hc=>⟨(h.d2 c hc).1,(h.d2 c hc).2.1,fun e=>?_⟩) (fun c hc=>?_),K⟩
 ·rcases hb c e with h1 | h1
  ·exact(h.d1 c hc).2.2.2 h1
  ·have:=(h.nod.blk hc).2;omega
 ·rcases hb c e with h1 | h1
  ·exact(h.d2 c hc).2.2 h1
  ·have:=(h.inf.blk hc).2;omega
 ·rcases hb c hc with h1 | h1
  ·exact h.d3 c h1
  ·exact⟨aw h.lt,aw h.dr.lt⟩
end
def aTa(X:St)(F:Fr)(db:Nat)(lv pv:AV)(dl:bm)(F':Fr)(Z:St)(ps:List kB):Prop:=∃w:Int, -3<=w/\w<=3/\ps= [⟨8,X.nx+8,.cells [.int .i64 w] false 0⟩]/\X.nx+12<=Z.nx/\cB db X Z/\rO Z db lv dl/\(∀j,j<6->aB j F'=aB j F)/\aB 17 F'=pv/\aB 24 F'= .sl (X.nx+8) 0 1 1 false
theorem aNd{ops:List AO}{P:Nat->Prop}{S0 Y0 X:St}{F:Fr}{inr:Bool}{mb db xb:Nat}{m:Mk}{LV:List (Int×Int×Int)}{k p f xa xw pv:AV}{l:bm}{Q:Out->bN->St->Prop}(H:Has fns)(he:ops=aN7++aNU)(hM:nE P S0 X mb db m LV)(p0:aB 0 F= .ptr mb 0)(p4:aB 4 F= .ptr xb 0)(gx:X.h.get xb=some (.cells [k,p,f,xa,xw,pv] false 0))(hx:PB mb db m xb/\¬P xb)(lx:xb<Y0.nx)(hY:Y0.nx<=X.nx)(hg:lN 1 Y0 X pv l.length (bE l))(hb:∀c,bP pv=some c->PB mb db m c/\¬P c)(hP:∀c,X.nx<=c->¬P c)(hl:l.length<=1000)
  (hQ:∀F' Z pv' w,(∀j,j<6->aB j F'=aB j F)->nE P S0 Z mb db m LV->X.nx<=Z.nx->(∀c,c<X.nx->PB mb db m c->c≠xb->bP pv≠some c->Z.h.get c=X.h.get c)->Z.h.get xb=some (.cells [k,p,f,xa,xw,pv'] false 0)->lN 1 Y0 Z pv' (l++ [w]).length (bE (l++ [w]))->(∀c,bP pv'=some c->X.nx<=c)-> -3<=w->w<=3->Q .normal ⟨F',inr⟩ Z):nD fns (.drw ops) ⟨F,inr⟩ X Q:=by
 have hlen:ops.length=12:=by rw[he];rfl
 have lxX:xb<X.nx:=Ag lx hY;have lmX:=hM.p.lt;have nxd:xb≠db:=hx.1.2.1;have nmd:=hM.p.ne;have gm0:=eE (p:=0) hM.g rfl;have sp:=hg.self;refine aF0 (W:=fun c=>c=db) (K:=9) (R:=aTa X F db m.lv pv m.dl) he rfl rfl (fun X1 x1 hh1 nn1=>?_) ?_
 ·have gxl:=eE (p:=5) gx rfl;unfold aN7;simp only[↓sU,sD,rE,↓reduceIte,rA,p0,p4,aY,bT,bB,aD,aX,aC,gxl,gm0,sp,lxX,lmX,nxd,nmd,Am];refine lT rfl ?_;refine ae ?_;refine aF (mJ H (hM.same x1).p.dr (n:=7) ay ay) ?_;rintro _ X2 ⟨x2,d2,y,rfl,y1,y2⟩;refine⟨⟨x2.1,fun c hc hne=>x2.2 c (Ag hc x1.1) hne⟩,?_⟩;have w1:IntKind.i64.wrap (y - 3)=y - 3:=wrap_i64 au au;have he1:=fun(F:Fr) (id:Nat) (h:aB 23 F= .int .i64 (y - 3))=>lI (t:=3) (z:=.int .i64 0) (x:=.t 23) (F:=F) (id:=id) (k:=.i64) (n:=y - 3) h;refine c9 w1 he1 ?_;refine⟨y - 3,au,au,af,(by have h9:X1.nx<=X2.nx:=x2.1;omega),⟨Bb x1.1 x2.1,fun c hc hne=>(x2.2 c (Ag hc x1.1) hne).trans (x1.2 c hc)⟩,d2,fun j hj=>?_,by refine⟨?_,?_⟩<;>simp only[↓sU,sD,rE,↓reduceIte,rA]⟩;have:j=0\/j=1\/j=2\/j=3\/j=4\/j=5:=by omega
  rcases this with rfl | rfl | rfl | rfl | rfl | rfl<;>simp only[↓sU,sD,rE,↓reduceIte,rA]
 rintro F' S' ps hs ls ⟨w,w1,w2,rfl,nZ,sZ,dZ,hk,pA,pB⟩ hlast hld;have p4':aB 4 F'= .ptr xb 0:=(hk 4 au).trans p4;have m1:∀i,i<9->Nat.testBit 511 i=true:=by decide
 have hMZ:=(hM.drawn sZ dZ).1;obtain⟨U,hU⟩:∃U:St,U=⟨S'.h.set (X.nx+8) (some (.cells [.int .i64 w] false 0)),S'.nx⟩:=⟨_,rfl⟩;have nU:U.nx=S'.nx:=by rw[hU]
 have kU:∀c,c≠X.nx+8->U.h.get c=S'.h.get c:=fun c hc=>by rw[hU];simp only;rw[dq,if_neg hc]
 have gU:U.h.get (X.nx+8)=some (.cells [.int .i64 w] false 0):=by rw[hU];simp only;rw[dq,if_pos rfl]
 have lowv:∀ {c},bP pv=some c->Y0.nx<=c/\c<X.nx:=fun hc=>⟨(hg.blk hc).1,(hg.blk hc).2.1⟩;have hgU:lN 1 ⟨U.h,Y0.nx⟩ U pv l.length (bE l):=hg.move au fun c hc=>by
  rw[kU c (by have:=(lowv hc).2;omega)];exact sZ.2 c (lowv hc).2 (hb c hc).1.2.1
 have⟨pv',V,eA,gA,bA,nA,rA⟩:=lN.push (bytes:=8) (t:=X.nx+8) (w:=w) hgU ⟨by show Y0.nx<=U.nx;omega,fun _ _=>rfl⟩ gU ax ax;have gxS:S'.h.get xb=some (.cells [k,p,f,xa,xw,pv] false 0):=(sZ.2 xb lxX nxd).trans gx;have gxV:V.h.get xb=some (.cells [k,p,f,xa,xw,pv] false 0):=by
  rw[rA xb au (fun e=>by have:=(lowv e).1;omega),kU xb au];exact gxS
 have hbA:∀ {c},bP pv'=some c->c=U.nx:=fun hc=>by rw[bA] at hc;exact(Cd hc).symm
 unfold aNU;refine oN (v:=pv') (S1:=V) (hlast _ m1) (fun call=>?_) ?_
 ·rw[gQ (show Nat.testBit 511 8=true by decide),jJ];simp only[fB,pA,pB];rw[<-hU];exact eA
 rw[gQ (show Nat.testBit 511 8=true by decide)];simp only[sR,cI,aD,aC,aX,aR,fB,dF,bF,p4',rE,↓reduceIte,rA];have gAc:pv'.cells=some [pv']:=lN.cells gA;refine oN (v:=.undef) (S1:=⟨V.h.set xb (some (.cells [k,p,f,xa,xw,pv'] false 0)),V.nx⟩) (show Nat.testBit 2047 9=true by decide) (fun call=>?_) ?_
 ·rw[dW];simp only[fB,bF,rE,↓reduceIte,dF,gAc,aH];exact stc (cs:=[k,p,f,xa,xw,pv]) (p:=5) (S:=V) gxV (by simp)
 rw[nF];refine⟨?_,?_⟩
 ·simp only[Dz,Be,Ee,Cu,Ck];exact hld _ _ _ m1
 ·simp only[dF,fQ];have kV:∀c,c<S'.nx->c≠X.nx+8->c≠xb->bP pv≠some c->(V.h.set xb (some (.cells [k,p,f,xa,xw,pv'] false 0))).get c=S'.h.get c:=fun c hc h1 h2 h3=>by
   rw[dq,if_neg h2,rA c au h3,kU c h1]
  refine hQ _ _ pv' w (fun j hj=>?_) (hMZ.local (by show S'.nx<=V.nx;omega) fun c hc hor=>?_) (by show X.nx<=V.nx;omega) (fun c hc hp h1 h2=>?_) fh ?_ (fun c hc=>by have:=hbA hc;omega) w1 w2
  ·rw[bF,if_neg au,bF,if_neg au];exact hk j hj
  ·refine kV c hc (fun e=>?_) (fun e=>?_) (fun e=>?_)
   ·rcases hor with h | h
    ·refine h ⟨au,?_,fun e'=>?_,fun e'=>?_,fun e'=>?_⟩
     ·have:=hM.p.dr.lt;omega
     ·have:=(hM.p.nod.blk e').2;omega
     ·have:=(hM.p.inf.blk e').2;omega
     ·have:=(hM.p.vw.blk e').2;omega
    ·exact hP c au h
   ·rcases hor with h | h
    ·exact h (by rw[e];exact hx.1)
    ·exact hx.2 (by rw[<-e];exact h)
   ·rcases hor with h | h
    ·exact h (hb c e).1
    ·exact(hb c e).2 h
  ·simp only;rw[kV c au au  h1 h2];exact sZ.2 c hc hp.2.1
  ·refine lN.move (S:=V) (by exact gA) (Af _) fun c hc=>?_;have:=hbA hc;simp only;rw[dq,if_neg au]
def aSh(X:St)(F:Fr)(db:Nat)(lv pv:AV)(dl:bm)(F':Fr)(Z:St)(ps:List kB):Prop:=∃w:Int,1<=w/\w<=3/\ps= [⟨8,X.nx+8,.cells [.int .i64 w] false 0⟩]/\X.nx+12<=Z.nx/\cB db X Z/\rO Z db lv dl/\(∀j,j<16->aB j F'=aB j F)/\aB 140 F'=pv/\aB 147 F'= .sl (X.nx+8) 0 1 1 false
theorem aN8{ops:List AO}{P:Nat->Prop}{S0 Y0 X:St}{F:Fr}{inr:Bool}{mb db xb:Nat}{m:Mk}{LV:List (Int×Int×Int)}{k p f xa pv xp:AV}{l:bm}{Q:Out->bN->St->Prop}(H:Has fns)(he:ops=aN2++aNq)(hM:nE P S0 X mb db m LV)(p0:aB 0 F= .ptr mb 0)(p4:aB 11 F= .ptr xb 0)(gx:X.h.get xb=some (.cells [k,p,f,xa,pv,xp] false 0))(hx:PB mb db m xb/\¬P xb)(lx:xb<Y0.nx)(hY:Y0.nx<=X.nx)(hg:lN 1 Y0 X pv l.length (bE l))(hb:∀c,bP pv=some c->PB mb db m c/\¬P c)(hP:∀c,X.nx<=c->¬P c)(hl:l.length<=1000)
  (hQ:∀F' Z pv' w,(∀j,j<16->aB j F'=aB j F)->nE P S0 Z mb db m LV->X.nx<=Z.nx->(∀c,c<X.nx->PB mb db m c->c≠xb->bP pv≠some c->Z.h.get c=X.h.get c)->Z.h.get xb=some (.cells [k,p,f,xa,pv',xp] false 0)->lN 1 Y0 Z pv' (l++ [w]).length (bE (l++ [w]))->(∀c,bP pv'=some c->X.nx<=c)->1<=w->w<=3->Q .normal ⟨F',inr⟩ Z):nD fns (.drw ops) ⟨F,inr⟩ X Q:=by
 have hlen:ops.length=12:=by rw[he];rfl
 have lxX:xb<X.nx:=Ag lx hY;have lmX:=hM.p.lt;have nxd:xb≠db:=hx.1.2.1;have nmd:=hM.p.ne;have gm0:=eE (p:=0) hM.g rfl;have sp:=hg.self;refine aF0 (W:=fun c=>c=db) (K:=9) (R:=aSh X F db m.lv pv m.dl) he rfl rfl (fun X1 x1 hh1 nn1=>?_) ?_
 ·have gxl:=eE (p:=4) gx rfl;unfold aN2;simp only[↓sU,sD,rE,↓reduceIte,rA,p0,p4,aY,bT,bB,aD,aX,aC,gxl,gm0,sp,lxX,lmX,nxd,nmd,Am];refine lT rfl ?_;refine ae ?_;refine aF (mJ H (hM.same x1).p.dr (n:=3) ay ay) ?_;rintro _ X2 ⟨x2,d2,y,rfl,y1,y2⟩;refine⟨⟨x2.1,fun c hc hne=>x2.2 c (Ag hc x1.1) hne⟩,?_⟩;have w1:IntKind.i64.wrap (1+y)=1+y:=wrap_i64 au au;have he1:=fun(F:Fr) (id:Nat) (h:aB 146 F= .int .i64 (1+y))=>lI (t:=3) (z:=.int .i64 0) (x:=.t 146) (F:=F) (id:=id) (k:=.i64) (n:=1+y) h;refine c9 w1 he1 ?_;refine⟨1+y,au,au,af,(by have h9:X1.nx<=X2.nx:=x2.1;omega),⟨Bb x1.1 x2.1,fun c hc hne=>(x2.2 c (Ag hc x1.1) hne).trans (x1.2 c hc)⟩,d2,fun j hj=>?_,by refine⟨?_,?_⟩<;>simp only[↓sU,sD,rE,↓reduceIte,rA]⟩;have:j=0\/j=1\/j=2\/j=3\/j=4\/j=5\/j=6\/j=7\/j=8\/j=9\/j=10\/j=11\/j=12\/j=13\/j=14\/j=15:=by omega
  rcases this with rfl | rfl | rfl | rfl | rfl | rfl | rfl | rfl | rfl | rfl | rfl | rfl | rfl | rfl | rfl | rfl<;>simp only[↓sU,sD,rE,↓reduceIte,rA]
 rintro F' S' ps hs ls ⟨w,w1,w2,rfl,nZ,sZ,dZ,hk,pA,pB⟩ hlast hld;have p4':aB 11 F'= .ptr xb 0:=(hk 11 au).trans p4;have m1:∀i,i<9->Nat.testBit 511 i=true:=by decide
 have hMZ:=(hM.drawn sZ dZ).1;obtain⟨U,hU⟩:∃U:St,U=⟨S'.h.set (X.nx+8) (some (.cells [.int .i64 w] false 0)),S'.nx⟩:=⟨_,rfl⟩;have nU:U.nx=S'.nx:=by rw[hU]
 have kU:∀c,c≠X.nx+8->U.h.get c=S'.h.get c:=fun c hc=>by rw[hU];simp only;rw[dq,if_neg hc]
 have gU:U.h.get (X.nx+8)=some (.cells [.int .i64 w] false 0):=by rw[hU];simp only;rw[dq,if_pos rfl]
 have lowv:∀ {c},bP pv=some c->Y0.nx<=c/\c<X.nx:=fun hc=>⟨(hg.blk hc).1,(hg.blk hc).2.1⟩;have hgU:lN 1 ⟨U.h,Y0.nx⟩ U pv l.length (bE l):=hg.move au fun c hc=>by
  rw[kU c (by have:=(lowv hc).2;omega)];exact sZ.2 c (lowv hc).2 (hb c hc).1.2.1
 have⟨pv',V,eA,gA,bA,nA,rA⟩:=lN.push (bytes:=8) (t:=X.nx+8) (w:=w) hgU ⟨by show Y0.nx<=U.nx;omega,fun _ _=>rfl⟩ gU ax ax;have gxS:S'.h.get xb=some (.cells [k,p,f,xa,pv,xp] false 0):=(sZ.2 xb lxX nxd).trans gx;have gxV:V.h.get xb=some (.cells [k,p,f,xa,pv,xp] false 0):=by
  rw[rA xb au (fun e=>by have:=(lowv e).1;omega),kU xb au];exact gxS
 have hbA:∀ {c},bP pv'=some c->c=U.nx:=fun hc=>by rw[bA] at hc;exact(Cd hc).symm
 unfold aNq;refine oN (v:=pv') (S1:=V) (hlast _ m1) (fun call=>?_) ?_
 ·rw[gQ (show Nat.testBit 511 8=true by decide),jJ];simp only[fB,pA,pB];rw[<-hU];exact eA
 rw[gQ (show Nat.testBit 511 8=true by decide)];simp only[sR,cI,aD,aC,aX,aR,fB,dF,bF,p4',rE,↓reduceIte,rA];have gAc:pv'.cells=some [pv']:=lN.cells gA;refine oN (v:=.undef) (S1:=⟨V.h.set xb (some (.cells [k,p,f,xa,pv',xp] false 0)),V.nx⟩) (show Nat.testBit 2047 9=true by decide) (fun call=>?_) ?_
 ·rw[dW];simp only[fB,bF,rE,↓reduceIte,dF,gAc,aH];exact stc (cs:=[k,p,f,xa,pv,xp]) (p:=4) (S:=V) gxV (by simp)
 rw[nF];refine⟨?_,?_⟩
 ·simp only[Dz,Be,Ee,Cu,Ck];exact hld _ _ _ m1
 ·simp only[dF,fQ];have kV:∀c,c<S'.nx->c≠X.nx+8->c≠xb->bP pv≠some c->(V.h.set xb (some (.cells [k,p,f,xa,pv',xp] false 0))).get c=S'.h.get c:=fun c hc h1 h2 h3=>by
   rw[dq,if_neg h2,rA c au h3,kU c h1]
  refine hQ _ _ pv' w (fun j hj=>?_) (hMZ.local (by show S'.nx<=V.nx;omega) fun c hc hor=>?_) (by show X.nx<=V.nx;omega) (fun c hc hp h1 h2=>?_) fh ?_ (fun c hc=>by have:=hbA hc;omega) w1 w2
  ·rw[bF,if_neg au,bF,if_neg au];exact hk j hj
  ·refine kV c hc (fun e=>?_) (fun e=>?_) (fun e=>?_)
   ·rcases hor with h | h
    ·refine h ⟨au,?_,fun e'=>?_,fun e'=>?_,fun e'=>?_⟩
     ·have:=hM.p.dr.lt;omega
     ·have:=(hM.p.nod.blk e').2;omega
     ·have:=(hM.p.inf.blk e').2;omega
     ·have:=(hM.p.vw.blk e').2;omega
    ·exact hP c au h
   ·rcases hor with h | h
    ·exact h (by rw[e];exact hx.1)
    ·exact hx.2 (by rw[<-e];exact h)
   ·rcases hor with h | h
    ·exact h (hb c e).1
    ·exact(hb c e).2 h
  ·simp only;rw[kV c au au  h1 h2];exact sZ.2 c hc hp.2.1
  ·refine lN.move (S:=V) (by exact gA) (Af _) fun c hc=>?_;have:=hbA hc;simp only;rw[dq,if_neg au]
noncomputable def aSN:List AO:=[oq 39 (.cw 5 (.t 4)),
om 40 1 (ld 39),
oq 41 (.cw 5 (.t 4)),
om 42 4 (ld 41),
om 43 12 (.cq (.slice 1) (.t 42) (ci 0)),
om 44 28 (ld 43),
om 45 60 (.un .neg (.t 44)),
om 46 127 (.cq (.slice 1) (.t 40) (ci 1))]
noncomputable def aSD:List AO:=[mt 47 0,
om 48 1 (.cl (.t 47)),
om 49 3 (.cw 7 (.t 48)),
om 50 7 (.cw 1 (.t 49)),
om 51 15 (ld 50),
mt 52 1,
oq 53 (.ld true 6 (.t 4)),
om 54 127 (.cq (.slice 6) (.t 51) (.t 52))]
theorem MkP.fresh{P:Nat->Prop}{S0 X:St}{mb db c:Nat}{m:Mk}{LV:List (Int×Int×Int)}(h:MkP P S0 X mb db m LV)(hc:X.nx<=c):PB mb db m c:=
 ⟨aw h.lt,aw h.dr.lt,fun e=>by have:=(h.nod.blk e).2;omega,fun e=>by have:=(h.inf.blk e).2;omega,fun e=>by have:=(h.vw.blk e).2;omega⟩
theorem nE.setN{P:Nat->Prop}{S0 X:St}{mb db i:Nat}{m:Mk}{LV:List (Int×Int×Int)}{e:bo}{x:dI}(h:nE P S0 X mb db m LV)(hi:i<m.bw.length)(he:aGA X (fun c=>PB mb db m c/\P c) e x):
  ∃b p X',dT (.slice 6) m.na i=some (.ptr b p)/\b<X.nx/\oT (.ptr b p) 6 e X=some (.undef,X')/\X'.nx=X.nx/\nE P S0 X' mb db {m with bw:=m.bw.set i x} LV/\fN mb db m X {m with bw:=m.bw.set i x} X':=by
 have he6:e.length=6:=by obtain⟨_,_,_,rfl,_⟩:=he;rfl
 have⟨b,p,X',h1,h2,h3,h4,h5,h6⟩:=h.p.nod.set hi he6 he;have hb:=(h.p.nod.blk h2).2;have⟨k1,k2⟩:=h.p.pushN (v':=m.na) (l':=m.bw.set i x) (X':=X') au (fun c _ hc=>h6 c fun e=>hc (by rw[e];exact h2)) (fun c hc=>.inl hc) h4;exact⟨b,p,X',h1,hb,h3,h5,⟨k1,(h6 mb fun e=>(h.p.d1 b h2).1 e.symm).trans h.g⟩,k2⟩
structure aRs(ps:Int)(x:dI):Prop where
 kind:x.kind=3
 player:x.player=0
 info:x.info=0
 next:x.next= []
 wts:x.weights= []
 len:(x.pay.length:Int)=ps
 pay:∀w∈x.pay, -3<=w/\w<=3
theorem aS4{F:Fr}{h:Ev.T AB}{a:Int}:iT (.build [.int .i64 0,.int .i64 0,.int .i64 0,.ce,.ce,.ce] [(0,1,.c (.int .i64 a))]) F h=some (.agg [.int .i64 a,.int .i64 0,.int .i64 0,.ce,.ce,.ce]):=rfl
def aSz(P:Nat->Prop)(S0 X X2:St)(mb db at_:Nat)(m:Mk)(LV:List (Int×Int×Int))(k:Nat)(A:bN)(Y:St):Prop:=A.inr=false/\nE P S0 Y mb db m LV/\X2.nx<=Y.nx/\(∀c,c<X.nx->PB mb db m c->Y.h.get c=X.h.get c)/\∃ (pv:AV) (l:bm),l.length+k=m.ps.toNat/\(∀w∈l, -3<=w/\w<=3)/\Y.h.get X.nx=some (.cells [.int .i64 3,.int .i64 0,.int .i64 0,.ce,.ce,pv] false 0)/\lN 1 X2 Y pv l.length (bE l)/\(∀c,bP pv=some c->PB mb db m c)/\aB 0 A.F= .ptr mb 0/\aB 1 A.F= .int .i64 (at_:Int)/\aB 4 A.F= .ptr X.nx 0/\aB 5 A.F= .int .i64 (l.length:Int)
theorem aLE{P:Nat->Prop}{S0 X:St}{mb db at_:Nat}{m:Mk}{LV:List (Int×Int×Int)}(H:Has fns)(hM:nE P S0 X mb db m LV)(hat:at_<m.bw.length)(hps:1<=m.ps/\m.ps<=4):
  eT fns (.fn 68 [] []) [.ptr mb 0,.int .i64 (at_:Int)] X fun _ Z=>∃x,aRs m.ps x/\nE (fun c=>P c\/X.nx<=c) S0 Z mb db {m with bw:=m.bw.set at_ x} LV/\fN mb db m X {m with bw:=m.bw.set at_ x} Z:=by
 have hM0:nE (fun c=>P c/\c<X.nx) S0 X mb db m LV:=hM.mono fun c hc hp=>⟨hp,hc⟩;have hbld:=fun(F:Fr) (h:Ev.T AB)=>aS4 (F:=F) (h:=h) (a:=3);refine bL H.f68 (by simp) ?_;refine ae ?_;refine bK (dz hbld ?_);refine cM ?_;intro X1 x1 n1 g1;refine dH (b:=X.nx) (cs':=[.int .i64 3,.int .i64 0,.int .i64 0,.ce,.ce,.ce]) (aq) (by refine ap ?_;exact aS _) g1 rfl rfl ?_;intro X2 x2 n2 g2;refine ap ?_;have s2:Same X X2:=x2.same x1 (Af _);have hM2:=hM0.same s2;have lx:X.nx<X2.nx:=by omega
 have hfx:PB mb db m X.nx:=hM.p.fresh (Af _);refine aE (bG (Q:=fun o A' Y=>o= .normal/\aSz (fun c=>P c/\c<X.nx) S0 X X2 mb db at_ m LV 0 A' Y) (aE (aM ?_)) ?_)
 ·refine ae ?_;refine aQ (bX (aSz (fun c=>P c/\c<X.nx) S0 X X2 mb db at_ m LV) ?_ m.ps.toNat _ _ ⟨rfl,hM2,Af _,fun c hc _=>s2.2 c hc,.ce,[],by simp,fun w hw=>(by cases hw),g2,.inl ⟨rfl,rfl,rfl⟩,fun c hc=>(by cases hc),af,af,af,ag⟩);rintro k ⟨F,inr⟩ Y ⟨q0,hY,nY,kY,pv,l,hlk,hwl,gY,hg,hb,p0,p1,p4,p5⟩;simp only at q0 p0 p1 p4 p5;subst q0;have f7:=eE (p:=7) hY.g rfl;have hps':(m.ps.toNat:Int)=m.ps:=Bu au;refine fA (dx p0 p5 @aY @bB @aD @aC f7 ?_);by_cases hlt:(l.length:Int)<m.ps;rotate_left
  ·refine aO (by simp only[↓sU,sD,rE,↓reduceIte,rA,Aa hlt]) (bS ?_);refine ae ?_;obtain rfl:k=0:=by omega
   exact⟨rfl,hY,nY,kY,pv,l,hlk,hwl,gY,hg,hb,by refine⟨?_,?_,?_,?_⟩<;>simp only[↓sU,sD,rE,↓reduceIte,rA,p0,p1,p4,p5]⟩
  refine aP (by simp only[↓sU,sD,rE,↓reduceIte,rA,Ac hlt]) (aJ ?_);try refine ae ?_
  have w1:IntKind.i64.wrap ((l.length:Int)+1)=((l.length+1:Nat):Int):=by rw[wrap_i64 au au];omega
  refine aE (aQ ?_);refine aNd (Y0:=X2) (mb:=mb) (db:=db) (xb:=X.nx) (m:=m) (LV:=LV) (pv:=pv) (l:=l) H rfl hY (ah p0) (ah p4) gY ⟨hfx,fun h=>Nat.lt_irrefl _ h.2⟩ lx nY hg (fun c hc=>⟨hb c hc,fun h=>by have:=(hg.blk hc).1;omega⟩) (fun c hc h=>au) au ?_;intro F' Z pv' w hk hZ nZ kZ gZ hgZ hbZ w2 w3;have q0:=hk 0 au;have q1:=hk 1 au;have q4:=hk 4 au;have q5:=hk 5 au;simp only[↓sU,sD,rE,↓reduceIte,rA,p0,p1,p4,p5] at q0 q1 q4 q5;try refine ae ?_
  refine aM (c9 q5 w1 ?_);exact⟨k - 1,au,rfl,hZ,au,fun c hc hp=>(kZ c au hp au (fun e=>by have:=(hg.blk e).1;omega)).trans (kY c hc hp),pv',l++ [w],by rw[Aj,Bc];omega,fun v hv=>by
   rcases Bs.1 hv with h | h
   ·exact hwl v h
   ·rw[Es.1 h];exact⟨w2,w3⟩,gZ,hgZ,fun c hc=>hY.p.fresh (hbZ c hc),ah q0,ah q1,ah q4,by refine ae ?_;rw[Aj,Bc]⟩
 rintro o ⟨F,inr⟩ Y ⟨rfl,q0,hY,nY,kY,pv,l,hlk,hwl,gY,hg,hb,p0,p1,p4,p5⟩;simp only at q0 p0 p1 p4;subst q0;have hps':(m.ps.toNat:Int)=m.ps:=Bu au;have f5:=eE (p:=5) hY.g rfl;have f7:=eE (p:=7) hY.g rfl;have lpv:=eE (p:=5) gY rfl;have lxY:X.nx<Y.nx:=by omega
 try refine ae ?_
 refine aE (bG (Q:=fun o A' Z=>o= .normal/\A'.inr=false/\nE (fun c=>P c/\c<X.nx) S0 Z mb db m LV/\X2.nx<=Z.nx/\(∀c,c<X.nx->PB mb db m c->Z.h.get c=X.h.get c)/\(∃l':bm,l'.length=m.ps.toNat/\(∀w∈l', -3<=w/\w<=3)/\Z.h.get X.nx=some (.cells [.int .i64 3,.int .i64 0,.int .i64 0,.ce,.ce,pv] false 0)/\lN 1 X2 Z pv l'.length (bE l'))/\aB 0 A'.F= .ptr mb 0/\aB 1 A'.F= .int .i64 (at_:Int)/\aB 4 A'.F= .ptr X.nx 0) (aE (aM ?_)) ?_)
 ·by_cases hz:m.zero=true/\m.ps=2
  ·have⟨hz,hp2⟩:=hz;rw[hz] at f5;refine dx p0 @aY @bB @aD @aC f5 f7 ?_;refine aP (by simp only[↓sU,sD,rE,↓reduceIte,rA,Ac hp2]) ?_;have hl2:l.length=2:=by omega
   have hl0:0<l.length:=by omega
   have hl1:1<l.length:=by omega
   have hIs:=hg.is;have i0:=hIs.cq hl0;have i1:=hIs.cq hl1;have v0:=hIs.ld hl0;have spv:=hg.self;rcases hg with⟨_,h,_⟩ | ⟨b,rfl,hb0,hb1,hbg,hbl⟩
   ·omega
   have eia:∀j,dT (.slice 1) (.sl b 0 l.length l.length true) j=if j<l.length then some (.ptr b (0+j * 1)) else none:=fun j=>by
    show bO (Nat.blt j l.length) _ _=_;rw[bQ];by_cases h:j<l.length
    ·rw[if_pos h,if_pos (show Nat.blt j l.length=true from Ah h)]
    ·rw[if_neg h,if_neg (show ¬Nat.blt j l.length=true from fun e=>h (Au (show Nat.ble (j+1) l.length=true from e)))]
   have i1':=eia 1;rw[if_pos hl1] at i1';have hw0:=hwl _ (aOq hl0);have w1:IntKind.i64.wrap (-(l.getD 0 0))= -(l.getD 0 0):=wrap_i64 au au;refine uC (pre:=aSN) (K:=8) (m:=255) (n:=1) (x:=.t 46) (v:=.t 45) rfl rfl rfl rfl ?_;unfold aSN;simp only[↓sU,sD,rE,↓reduceIte,rA,p4,aD,aX,aC,lpv,spv,aMA,i0,v0,xS,w1,show dS (.int .i64 1)=some 1 from rfl,i1'];simp only[cN,aH];have hst:=aGl (S:=⟨Y.h,Y.nx+9⟩) (p:=0+1 * 1) (w:= -(l.getD 0 0)) hbg au;refine⟨_,hst,?_⟩;have hbb:PB mb db m b:=hb b rfl;refine⟨hY.local (En _ _) fun c hc hor=>?_,by show X2.nx<=Y.nx+9;omega,fun c hc hp=>?_,⟨l.set (0+1 * 1) (-(l.getD 0 0)),by rw[Cl];omega,fun w hw=>?_,?_,.inr ⟨b,by rw[Cl],hb0,by show b<Y.nx+9;omega,fh,by simp [bE]⟩⟩,p0,p1⟩
   ·simp only;rw[dq,if_neg];intro e;subst e;rcases hor with h | h
    ·exact h hbb
    ·have:=h.2;omega
   ·simp only;rw[dq,if_neg au];exact kY c hc hp
   ·rcases List.mem_or_eq_of_mem_set hw with h | h
    ·exact hwl w h
    ·omega
   ·simp only;rw[dq,if_neg au];exact gY
  ·have hres:∀ (o:Out) (A':bN) (Z:St),True:=fun _ _ _=>trivial;have fin:(∃l':bm,l'.length=m.ps.toNat/\(∀w∈l', -3<=w/\w<=3)/\Y.h.get X.nx=some (.cells [.int .i64 3,.int .i64 0,.int .i64 0,.ce,.ce,pv] false 0)/\lN 1 X2 Y pv l'.length (bE l')):=⟨l,au,hwl,gY,hg⟩;cases hzz:m.zero with
   | false=>
    rw[hzz] at f5;refine dw p0 @aY @bB @aD @aC f5 ?_;refine aO (af) (aJ ?_);refine dh p0 p1 p4 ?_;exact⟨hY,nY,kY,fin⟩
   | true=>
    rw[hzz] at f5;refine dx p0 @aY @bB @aD @aC f5 f7 ?_;refine aO (by simp only[↓sU,sD,rE,↓reduceIte,rA,Aa (show ¬m.ps=2 from fun h=>hz ⟨hzz,h⟩)]) (aJ ?_);refine dh p0 p1 p4 ?_;exact⟨hY,nY,kY,fin⟩
 clear p0 p1 p4 p5 f5 f7 lpv lxY hg hb hwl gY kY nY hY hlk l;rintro o ⟨F,inr⟩ Z ⟨rfl,q0,hZ,nZ,kZ,⟨l,hll,hwl,gZ,hg⟩,p0,p1,p4⟩;simp only at q0 p0 p1 p4;subst q0;try refine ae ?_
 have f8:=eE (p:=8) hZ.g rfl;have lag:=ldN gZ;have sna:=hZ.p.nod.self;have spv:=hg.self;have sx:=aA4 (k:=.i64) (x0:=3) (x1:=0) (x2:=0) (a:=.ce) (b:=.ce) (c:=pv) rfl rfl spv;have hZ':nE (fun c=>P c\/X.nx<=c) S0 ⟨Z.h,Z.nx+9⟩ mb db m LV:=(hZ.same (Same.nx Z 9)).mono fun c _ h=>.inl h.1;have hIs:cH .i64 ⟨Z.h,Z.nx+9⟩ pv l:=(hg.step (Same.nx Z 9)).is;have⟨b,p,X',e1,e2,e3,e4,e5,e6⟩:=hZ'.setN (i:=at_) (e:=[.int .i64 3,.int .i64 0,.int .i64 0,.ce,.ce,pv]) (x:=⟨3,0,0,[],[],l⟩) hat ⟨.ce,.ce,pv,rfl,.inl ⟨rfl,.inl rfl⟩,.inl ⟨rfl,.inl rfl⟩,hIs,fun c hc=>by
  rcases hc with hc | hc | hc
  ·cases hc
  ·cases hc
  ·have h9:=(hg.blk hc).1;exact⟨hM.p.fresh au,.inr au⟩⟩
 refine uC (pre:=aSD) (K:=8) (m:=255) (n:=6) (x:=.t 54) (v:=.t 53) rfl rfl rfl rfl ?_;unfold aSD;simp only[↓sU,sD,rE,↓reduceIte,rA,p0,p1,p4,aY,bT,bB,aD,aX,aC,f8,sna,lag,sx,aW,e1];rw[show(AV.agg [.int .i64 3,.int .i64 0,.int .i64 0,.ce,.ce,pv]).cells=some [.int .i64 3,.int .i64 0,.int .i64 0,.ce,.ce,pv] from aS _,aH];refine⟨X',e3,_,rfl,⟨3,0,0,[],[],l⟩,⟨rfl,rfl,rfl,rfl,rfl,by show(l.length:Int)=_;omega,hwl⟩,e5,⟨by rw[e4];show X.nx<=Z.nx+9;omega,fun c hc hp=>?_⟩⟩;have⟨k1,k2⟩:=e6.2 c (by show c<Z.nx+9;omega) hp;exact⟨k1.trans (kZ c hc hp),k2⟩
def hot(o:AO):Bool:=match o.op with | .q q=>dK q | .a _=>false | .x _=>true
def aNW(I:Nat->Prop)(D:DS):Prop:=(∀e∈D.hs,I e.1)/\∀l∈D.ls,I l.i
theorem aPL{I:Nat->Prop}{call:dR}{o:AO}{i base:Nat}{D D':DS}(h:tB o i base call D=some D')(hi:hot o=true->I i)(hD:aNW I D):aNW I D':=by
 unfold tB at h;cases hw:fI o.grd D.F with
 | false=>rw[hw,aR] at h;cases h;exact hD
 | true=>
  rw[hw,aN] at h;have⟨d,op,g,m⟩:=o;cases op with
  | q q=>
   have h:aU (iT q D.F D.S.h) (fun v=>some (⟨cJ d D.F v,D.S,D.ps,D.hs,bO (dK q) (⟨q,D.F,v,i,m⟩::D.ls) D.ls⟩:DS))=some D':=h;cases he:iT q D.F D.S.h with
   | none=>rw[he] at h;cases h
   | some v=>
    rw[he,aH] at h;cases h;refine⟨hD.1,fun l hl=>?_⟩;simp only at hl;cases hq:dK q with
    | false=>rw[hq,aR] at hl;exact hD.2 l hl
    | true=>
     rw[hq,aN] at hl;rcases Br.1 hl with rfl | hl
     ·exact hi hq
     ·exact hD.2 l hl
  | a a=>
   have h:aU (tA a D.F (base+i)) (fun r=>some (⟨cJ d D.F r.1,D.S,⟨i,base+i,r.2⟩::D.ps,D.hs,D.ls⟩:DS))=some D':=h;cases he:tA a D.F (base+i) with
   | none=>rw[he] at h;cases h
   | some v=>rw[he,aH] at h;cases h;exact hD
  | x x=>
   have h:bO (jE D.hs m) (aU (xN x call D.F ⟨(cG m D.ps D.S.h).2,D.S.nx⟩) fun r=>some (⟨cJ d D.F r.1,r.2,(cG m D.ps D.S.h).1,(i,m,r.2.h)::D.hs,D.ls⟩:DS)) none=some D':=h;cases hl:jE D.hs m with
   | false=>rw[hl,aR] at h;cases h
   | true=>
    rw[hl,aN] at h;cases he:xN x call D.F ⟨(cG m D.ps D.S.h).2,D.S.nx⟩ with
    | none=>rw[he] at h;cases h
    | some v=>
     rw[he,aH] at h;cases h;refine⟨fun e he=>?_,hD.2⟩;rcases Br.1 he with rfl | he
     ·exact hi rfl
     ·exact hD.1 e he
theorem aHH{I:Nat->Prop}{call:dR}{base:Nat}:∀ {l:List AO} {i:Nat} {D D':DS},rG l i base call D=some D'->(∀j o,l[j]? =some o->hot o=true->I (i+j))->aNW I D->aNW I D'
 | [],i,D,D',h,_,hD=>by cases h;exact hD
 | o::os,i,D,D',h,hI,hD=>by
  have h:aU (tB o i base call D) (fun D'=>rG os (i+1) base call D')=some D':=h;cases he:tB o i base call D with
  | none=>rw[he] at h;cases h
  | some D1=>
   rw[he,aH] at h;exact aHH h (fun j o' hj ho=>by have:=hI (j+1) o' hj ho;rwa [show i+1+j=i+(j+1) by omega]) (aPL he (fun ho=>hI 0 o rfl ho) hD)
theorem aDq{W:Nat->Prop}{h0:T AB}{base K m:Nat}{h':T AB}{r:List (Nat×Nat×T AB)}{l:nL}(h:cQ l.v l.v=true/\aGN W base l.q l.F/\iT l.q l.F h0=some l.v)(hl:l.mask<2 ^ K)(hm:Nat.testBit m l.i=true):∀ {hs:List (Nat×Nat×T AB)} {h1:T AB},(∀e∈hs,∀b,b<base->¬W b->e.2.2.get b=h0.get b)->(∀b,b<base->¬W b->h1.get b=h0.get b)->gN l (hs++(K,m,h')::r) h1=true
 | [],h1,_,hh=>by
  have e1:qE l.v (iT l.q l.F h1)=true:=by rw[h.2.1.ev hh,h.2.2];exact h.1
  have e2:Nat.testBit l.mask K=false:=Nat.testBit_lt_two_pow hl;show gN l ((K,m,h')::r) h1=true;unfold gN;rw[e2,aR,e1,aN,hm,aN]
 | (i,mm,h2)::rr,h1,hs,hh=>by
  have e1:qE l.v (iT l.q l.F h1)=true:=by rw[h.2.1.ev hh,h.2.2];exact h.1
  have e2:gN l (rr++(K,m,h')::r) h2=true:=aDq h hl hm (fun e he=>hs e (by simp [he])) (hs (i,mm,h2) (by simp));show gN l ((i,mm,h2)::(rr++(K,m,h')::r)) h1=true;unfold gN;rw[e1,e2];cases Nat.testBit l.mask i<;>cases Nat.testBit mm l.i<;>rfl
theorem yM(m0:Nat){W:Nat->Prop}{ops pre suf:List AO}{K:Nat}{A:bN}{S:St}{Q:Out->bN->St->Prop}{R:Fr->St->List kB->Prop}(he:ops=pre++suf)(hK:pre.length=K)(hm:(pre.all fun o=>decide (o.mask<2 ^ K))=true)(hI:((List.range K).all fun j=>match pre[j]? with | some o=> !hot o || Nat.testBit m0 j | none=>true)=true)
  (h:∀S1,Same S S1->S1.h=S.h->S1.nx=S.nx+ops.length->hJ fns W S.h S.nx pre 0 A.F S1 [] none R)
  (h2:∀F S' ps hs ls,R F S' ps->jE hs m0=true->(∀h' r,fT S.h (hs.reverse++(K,m0,h')::r) ls=true)->wpd fns suf K S.nx ⟨F,S',ps,hs,ls⟩ fun D'=>fT S.h D'.hs.reverse D'.ls=true/\Q .normal ⟨D'.F,A.inr⟩ ⟨(cG (2 ^ ops.length - 1) D'.ps D'.S.h).2,D'.S.nx⟩):nD fns (.drw ops) A S Q:=by
 refine vC ?_;have⟨n,D',e1,e2,e3⟩:=mY (fns:=fns) (i:=0) (D:=⟨A.F,⟨S.h,S.nx+ops.length⟩,[],[],[]⟩) (last:=none) ⟨fun _ _ _=>rfl,En _ _,fun e he=>(by cases he),fun l hl=>(by cases hl),fun p hp=>(by cases hp)⟩ rfl (h ⟨S.h,S.nx+ops.length⟩ (Same.nx S _) rfl rfl);have low:Low K D':=aD5 e1 au (fun o ho=>by have:=Et.1 hm o ho;simpa using this) ⟨fun e he=>(by cases he),fun l hl=>(by cases hl)⟩;have idx:aNW (fun i=>Nat.testBit m0 i=true) D':=aHH e1 (fun j o hj ho=>by
  have hlt:j<K:=by rw[<-hK];exact(Ai.1 hj).1
  have:=Et.1 hI j (List.mem_range.2 hlt);rw[hj] at this;simp only[ho,Bool.not_true,Bool.false_or] at this
  rwa [Ao]) ⟨fun e he=>(by cases he),fun l hl=>(by cases hl)⟩
 have⟨F,S',ps,hs,ls⟩:=D';have hh:=h2 F S' ps hs ls e2 (by
  cases hs with
  | nil=>rfl
  | cons e r=>exact idx.1 e (Bn ..)) (fun h' r=>qZ fun l hl=>aDq (e3.lds l hl) (low.2 l hl).2 (idx.2 l hl) (fun e he=>e3.chain e (List.mem_reverse.1 he)) (fun _ _ _=>rfl))
 have:wpd fns ops 0 S.nx ⟨A.F,⟨S.h,S.nx+ops.length⟩,[],[],[]⟩ fun D'=>fT S.h D'.hs.reverse D'.ls=true/\Q .normal ⟨D'.F,A.inr⟩ ⟨(cG (2 ^ ops.length - 1) D'.ps D'.S.h).2,D'.S.nx⟩:=by
  subst he;refine aK1 ⟨n,_,e1,?_⟩;rw[Ao,hK];exact hh
 exact this
theorem aQ6{t:Nat}{x:cP}{F:Fr}{id:Nat}{a b c d z0 z1 z2 z3:AV}(hx:x.val F= .agg [a,b,c,d]):tA (.cm t 4 1 [z0,z1,z2,z3] [(0,x)]) F id=some (.sl id 0 1 1 false,.cells [a,b,c,d] false 0):=by
 show(aU (eQ (repeatL [z0,z1,z2,z3] 1) [(0 * 4,4,x.val F)]) fun cs=>some (AV.sl id 0 1 1 false,AB.cells cs false 0))=_;rw[hx];show(aU (aU (AV.cells (.agg [a,b,c,d])) _) _)=_;rw[aS,aH];rfl
theorem aRi{t:Nat}{x:cP}{F:Fr}{id:Nat}{a b c z0 z1 z2:AV}(hx:x.val F= .agg [a,b,c]):tA (.cm t 3 1 [z0,z1,z2] [(0,x)]) F id=some (.sl id 0 1 1 false,.cells [a,b,c] false 0):=by
 show(aU (eQ (repeatL [z0,z1,z2] 1) [(0 * 3,3,x.val F)]) fun cs=>some (AV.sl id 0 1 1 false,AB.cells cs false 0))=_;rw[hx];show(aU (aU (AV.cells (.agg [a,b,c])) _) _)=_;rw[aS,aH];rfl
theorem aRM{t:Nat}{x:cP}{F:Fr}{id:Nat}{a b z0 z1:AV}(hx:x.val F= .agg [a,b]):tA (.cm t 2 1 [z0,z1] [(0,x)]) F id=some (.sl id 0 1 1 false,.cells [a,b] false 0):=by
 show(aU (eQ (repeatL [z0,z1] 1) [(0 * 2,2,x.val F)]) fun cs=>some (AV.sl id 0 1 1 false,AB.cells cs false 0))=_;rw[hx];show(aU (aU (AV.cells (.agg [a,b])) _) _)=_;rw[aS,aH];rfl
theorem aQv{S:St}{t n:Nat}{cs:bo}{o:Bool}{sz:Nat}(h:S.h.get t=some (.cells cs o sz))(hn:cs.length=n):eU (.sl t 0 1 1 false) S.h n 1=some cs:=by
 show aU (cA S.h t) (fun c=>cut c 0 (1 * n))=_;unfold cA;rw[h];show cut cs 0 (1 * n)=some cs;unfold cut;rw[jC,jM,Dn,Nat.one_mul,if_pos au,Ay au]
theorem aTt{F:Fr}{h:Ev.T AB}{pl lev n:Int}{sv:AV}(h50:aB 50 F= .int .i64 pl)(h51:aB 51 F= .int .i64 lev)(h52:aB 52 F=sv)(h58:aB 58 F= .int .i64 n)(hc:sv.cells=some [sv]):iT (.build [.int .i64 0,.int .i64 0,.ce,.int .i64 0] [(0,1,.t 50),(1,1,.t 51),(2,1,.t 52),(3,1,.t 58)]) F h=some (.agg [.int .i64 pl,.int .i64 lev,sv,.int .i64 n]):=by
 show(aU (eQ _ (fG F [(0,1,.t 50),(1,1,.t 51),(2,1,.t 52),(3,1,.t 58)])) fun cs=>some (AV.agg cs))=_;simp only[fG,show(cP.t 50).val F= .int .i64 pl from h50,show(cP.t 51).val F= .int .i64 lev from h51,show(cP.t 52).val F=sv from h52,show(cP.t 58).val F= .int .i64 n from h58,eQ,cN,hc,aH];rfl
theorem aTR{F:Fr}{h:Ev.T AB}{pl a:Int}(h70:aB 70 F= .int .i64 pl)(h76:aB 76 F= .int .i64 a):iT (.build [.int .i64 0,.int .i64 0] [(0,1,.t 70),(1,1,.t 76)]) F h=some (.agg [.int .i64 pl,.int .i64 a]):=by
 show(aU (eQ _ (fG F [(0,1,.t 70),(1,1,.t 76)])) fun cs=>some (AV.agg cs))=_;simp only[fG,show(cP.t 70).val F= .int .i64 pl from h70,show(cP.t 76).val F= .int .i64 a from h76,eQ,cN,aH];rfl
theorem fN.put{mb db:Nat}{m:Mk}{X:St}{w:Option AB}:fN mb db m X m ⟨X.h.set mb w,X.nx⟩:=
 ⟨Af _,fun c _ hp=>⟨by simp only;rw[dq,if_neg hp.1],hp⟩⟩
theorem aNj{k:IntKind}{X:St}{v:AV}{l:bm}(h:cH k X v l):v.cells=some [v]:=cH.cells h
def aTf(X:St)(F:Fr)(mb:Nat)(va sv:AV)(pl lev n:Int)(F':Fr)(Z:St)(ps:List kB):Prop:=ps= [⟨15,X.nx+15,.cells [.int .i64 pl,.int .i64 lev,sv,.int .i64 n] false 0⟩]/\Z.h=X.h/\Z.nx=X.nx+20/\(∀j,j<10->aB j F'=aB j F)/\aB 45 F'= .ptr mb 0/\aB 49 F'=va/\aB 60 F'= .sl (X.nx+15) 0 1 1 false
theorem aNB{ops:List AO}{P:Nat->Prop}{S0 X:St}{F:Fr}{inr:Bool}{mb db:Nat}{m:Mk}{LV:List (Int×Int×Int)}{pl lev:Int}{sv:AV}{l:bm}{Q:Out->bN->St->Prop}(he:ops=aPk++aNF)(hM:nE P S0 X mb db m LV)(hS:S0.nx<=X.nx)(p0:aB 0 F= .ptr mb 0)(p1:aB 1 F= .int .i64 pl)(p2:aB 2 F= .int .i64 lev)(p3:aB 3 F=sv)(hs:cH .i64 X sv l)(hl:l.length<=1000)(hsb:∀c,bP sv=some c->PB mb db m c/\P c)(hv:m.views.length<=100000)
  (hQ:∀F' Z va',(∀j,j<10->aB j F'=aB j F)->nE P S0 Z mb db {m with va:=va',views:=m.views++ [(pl,lev,(m.bz.length:Int))]} LV->fN mb db m X {m with va:=va',views:=m.views++ [(pl,lev,(m.bz.length:Int))]} Z->Q .normal ⟨F',inr⟩ Z):nD fns (.drw ops) ⟨F,inr⟩ X Q:=by
 have hlen:ops.length=20:=by rw[he];rfl
 have lmX:=hM.p.lt;have f2:=eE (p:=2) hM.g rfl;have f9:=eE (p:=9) hM.g rfl;have sva:=hM.p.vw.self;have sia:=hM.p.inf.self;refine yM 65534 (W:=fun _=>False) (K:=16) (R:=aTf X F mb m.va sv pl lev (m.bz.length:Int)) he rfl rfl rfl (fun X1 x1 hh1 nn1=>?_) ?_
 ·have hbl:=fun(F:Fr) (h:Ev.T AB) (a:aB 50 F= .int .i64 pl) (b:aB 51 F= .int .i64 lev) (c:aB 52 F=sv) (d:aB 58 F= .int .i64 (m.bz.length:Int))=>aTt (F:=F) (h:=h) a b c d (aNj hs);have hib:dK (.build [.int .i64 0,.int .i64 0,.ce,.int .i64 0] [(0,1,.t 50),(1,1,.t 51),(2,1,.t 52),(3,1,.t 58)])=false:=rfl;have he1:=fun(F:Fr) (id:Nat) (h:aB 59 F= .agg [.int .i64 pl,.int .i64 lev,sv,.int .i64 (m.bz.length:Int)])=>aQ6 (t:=139) (z0:=.int .i64 0) (z1:=.int .i64 0) (z2:=.ce) (z3:=.int .i64 0) (x:=.t 59) (F:=F) (id:=id) h;unfold aPk;simp only[↓sU,sD,rE,↓reduceIte,rA,p0,p1,p2,p3,aY,bT,bB,aD,aX,aC,f2,f9,sva,sia,lmX,Am,hM.p.inf.len,hbl,hib,he1];refine⟨rfl,hh1,by rw[nn1,hlen],fun j hj=>?_,by refine⟨?_,?_,?_⟩<;>simp only[↓sU,sD,rE,↓reduceIte,rA]⟩;have:j=0\/j=1\/j=2\/j=3\/j=4\/j=5\/j=6\/j=7\/j=8\/j=9:=by omega
  rcases this with rfl | rfl | rfl | rfl | rfl | rfl | rfl | rfl | rfl | rfl<;>simp only[↓sU,sD,rE,↓reduceIte,rA]
 rintro F' S' ps hs' ls ⟨rfl,hZ,nZ,hk,pA,pB,pC⟩ hlast hld;obtain⟨U,hU⟩:∃U:St,U=⟨S'.h.set (X.nx+15) (some (.cells [.int .i64 pl,.int .i64 lev,sv,.int .i64 (m.bz.length:Int)] false 0)),S'.nx⟩:=⟨_,rfl⟩;have nU:U.nx=X.nx+20:=by rw[hU];exact nZ
 have sUx:Same X U:=⟨au,fun c hc=>by rw[hU];simp only;rw[dq,if_neg au,hZ]⟩;have gU:U.h.get (X.nx+15)=some (.cells [.int .i64 pl,.int .i64 lev,sv,.int .i64 (m.bz.length:Int)] false 0):=by rw[hU];simp only;rw[dq,if_pos rfl]
 have hMU:=hM.same sUx;have⟨v',V,eA,aV,nV,kV,bV⟩:=hMU.p.vw.push (bytes:=48) (x:=.sl (X.nx+15) 0 1 1 false) (a:=(pl,lev,(m.bz.length:Int))) ay au rfl (aQv gU rfl) rfl ⟨sv,l,rfl,hs.same sUx,hl,hsb⟩ ax ax;have⟨kP,kM⟩:=hMU.p.pushV nV kV bV aV;have gmV:V.h.get mb=some (.cells (eG db m) false 0):=(kV mb hMU.p.lt fun e=>(hMU.p.d3 mb e).1 rfl).trans hMU.g;unfold aNF;refine oN (v:=v') (S1:=V) hlast (fun call=>?_) ?_
 ·rw[gQ (show Nat.testBit 65534 15=true by decide),jJ];simp only[fB,pB,pC];rw[<-hU];exact eA
 rw[gQ (show Nat.testBit 65534 15=true by decide)];simp only[sR,cI,aY,bT,bB,aD,aC,aX,aR,fB,dF,bF,pA,rE,↓reduceIte,rA];have gAc:v'.cells=some [v']:=aV.cells;refine oN (v:=.undef) (S1:=⟨V.h.set mb (some (.cells (eG db {m with va:=v',views:=m.views++ [(pl,lev,(m.bz.length:Int))]}) false 0)),V.nx⟩) (show Nat.testBit 524287 16=true by decide) (fun call=>?_) ?_
 ·rw[dW];simp only[fB,bF,rE,↓reduceIte,dF,gAc,aH];exact stc (cs:=eG db m) (p:=2) (S:=V) gmV (show 2<10 by omega)
 rw[nF];refine⟨?_,?_⟩
 ·simp only[Dz,Be,Ee,Cu,Ck];exact hld _ _
 ·simp only[dF,fQ];refine hQ _ _ v' (fun j hj=>?_) (kP.put fh (Af _) fun c _ hne=>by simp only;rw[dq,if_neg hne]) (((fN.same sUx).trans kM).trans fN.put);rw[bF,if_neg au,bF,if_neg au,bF,if_neg au];exact hk j hj
def aSB(X:St)(F:Fr)(mb db:Nat)(ia lv:AV)(dl:bm)(pl:Int)(F':Fr)(Z:St)(ps:List kB):Prop:=∃a:Int,1<=a/\a<=3/\ps= [⟨14,X.nx+14,.cells [.int .i64 pl,.int .i64 a] false 0⟩]/\X.nx+20<=Z.nx/\cB db X Z/\rO Z db lv dl/\(∀j,j<10->aB j F'=aB j F)/\aB 64 F'= .ptr mb 0/\aB 69 F'=ia/\aB 78 F'= .sl (X.nx+14) 0 1 1 false
theorem aOP{ops:List AO}{P:Nat->Prop}{S0 X:St}{F:Fr}{inr:Bool}{mb db:Nat}{m:Mk}{LV:List (Int×Int×Int)}{pl:Int}{Q:Out->bN->St->Prop}(H:Has fns)(he:ops=aNV++aNm)(hM:nE P S0 X mb db m LV)(hS:S0.nx<=X.nx)(p0:aB 0 F= .ptr mb 0)(p1:aB 1 F= .int .i64 pl)(hv:m.bz.length<=100000)
  (hQ:∀F' Z ia' a,(∀j,j<10->aB j F'=aB j F)->1<=a->a<=3->nE P S0 Z mb db {m with ia:=ia',bz:=m.bz++ [⟨pl,a⟩]} LV->fN mb db m X {m with ia:=ia',bz:=m.bz++ [⟨pl,a⟩]} Z->Q .normal ⟨F',inr⟩ Z):nD fns (.drw ops) ⟨F,inr⟩ X Q:=by
 have hlen:ops.length=20:=by rw[he];rfl
 have lmX:=hM.p.lt;have nmd:=hM.p.ne;have f0:=eE (p:=0) hM.g rfl;have f9:=eE (p:=9) hM.g rfl;have sia:=hM.p.inf.self;refine yM 32766 (W:=fun c=>c=db) (K:=15) (R:=aSB X F mb db m.ia m.lv m.dl pl) he rfl rfl rfl (fun X1 x1 hh1 nn1=>?_) ?_
 ·unfold aNV;simp only[↓sU,sD,rE,↓reduceIte,rA,p0,p1,aY,bT,bB,aD,aX,aC,f0,f9,sia,lmX,nmd,Am];refine lT rfl ?_;refine ae ?_;refine aF (mJ H (hM.same x1).p.dr (n:=3) ay ay) ?_;rintro _ X2 ⟨x2,d2,y,rfl,y1,y2⟩;refine⟨⟨x2.1,fun c hc hne=>x2.2 c (Ag hc x1.1) hne⟩,?_⟩;have w1:IntKind.i64.wrap (1+y)=1+y:=wrap_i64 au au;have hbl:=fun(F:Fr) (h:Ev.T AB) (a:aB 70 F= .int .i64 pl) (b:aB 76 F= .int .i64 (1+y))=>aTR (F:=F) (h:=h) a b;have hib:dK (.build [.int .i64 0,.int .i64 0] [(0,1,.t 70),(1,1,.t 76)])=false:=rfl;have he1:=fun(F:Fr) (id:Nat) (h:aB 77 F= .agg [.int .i64 pl,.int .i64 (1+y)])=>aRM (t:=79) (z0:=.int .i64 0) (z1:=.int .i64 0) (x:=.t 77) (F:=F) (id:=id) h;refine di w1 hbl hib he1 ?_;refine⟨1+y,au,au,af,(by have h9:X1.nx<=X2.nx:=x2.1;omega),⟨Bb x1.1 x2.1,fun c hc hne=>(x2.2 c (Ag hc x1.1) hne).trans (x1.2 c hc)⟩,d2,fun j hj=>?_,by refine⟨?_,?_,?_⟩<;>simp only[↓sU,sD,rE,↓reduceIte,rA]⟩;have:j=0\/j=1\/j=2\/j=3\/j=4\/j=5\/j=6\/j=7\/j=8\/j=9:=by omega
  rcases this with rfl | rfl | rfl | rfl | rfl | rfl | rfl | rfl | rfl | rfl<;>simp only[↓sU,sD,rE,↓reduceIte,rA]
 rintro F' S' ps hs' ls ⟨a,a1,a2,rfl,nZ,sZ,dZ,hk,pA,pB,pC⟩ hlast hld;have⟨hMZ,kZ⟩:=hM.drawn sZ dZ;obtain⟨U,hU⟩:∃U:St,U=⟨S'.h.set (X.nx+14) (some (.cells [.int .i64 pl,.int .i64 a] false 0)),S'.nx⟩:=⟨_,rfl⟩;have nU:U.nx=S'.nx:=by rw[hU]
 have kU:∀c,c≠X.nx+14->U.h.get c=S'.h.get c:=fun c hc=>by rw[hU];simp only;rw[dq,if_neg hc]
 have gU:U.h.get (X.nx+14)=some (.cells [.int .i64 pl,.int .i64 a] false 0):=by rw[hU];simp only;rw[dq,if_pos rfl]
 have hout:∀c,c<X.nx->c≠X.nx+14:=fun c hc=>by omega
 have hMP:nE (fun c=>P c/\c<X.nx) S0 S' mb db m LV:=(hM.mono fun c hc hp=>⟨hp,hc⟩).drawn sZ dZ |>.1
 have hMU':nE (fun c=>P c/\c<X.nx) S0 U mb db m LV:=hMP.local au fun c hc hor=>kU c fun e=>by
  rcases hor with h | h
  ·refine h ⟨au,fun e'=>?_,fun e'=>?_,fun e'=>?_,fun e'=>?_⟩
   ·have:=hM.p.dr.lt;omega
   ·have:=(hM.p.nod.blk e').2;omega
   ·have:=(hM.p.inf.blk e').2;omega
   ·have:=(hM.p.vw.blk e').2;omega
  ·omega
 have hMU:nE P S0 U mb db m LV:=hMU'.mono fun c _ h=>h.1;have kXU:fN mb db m X m U:=⟨au,fun c hc hp=>⟨(kU c (hout c hc)).trans (kZ.2 c hc hp).1,hp⟩⟩;have⟨v',V,eA,aV,nV,kV,bV⟩:=hMU.p.inf.push (bytes:=16) (x:=.sl (X.nx+14) 0 1 1 false) (a:=(⟨pl,a⟩:pN)) ay au rfl (aQv gU rfl) rfl (show aOt [.int .i64 pl,.int .i64 a] ⟨pl,a⟩ from rfl) ax ax;have⟨kP,kM⟩:=hMU.p.pushI nV kV bV aV;have gmV:V.h.get mb=some (.cells (eG db m) false 0):=(kV mb hMU.p.lt fun e=>(hMU.p.d2 mb e).1 rfl).trans hMU.g;unfold aNm;refine oN (v:=v') (S1:=V) hlast (fun call=>?_) ?_
 ·rw[gQ (show Nat.testBit 32766 14=true by decide),jJ];simp only[fB,pB,pC];rw[<-hU];exact eA
 rw[gQ (show Nat.testBit 32766 14=true by decide)];simp only[sR,cI,aY,bT,bB,aD,aC,aX,aR,fB,dF,bF,pA,rE,↓reduceIte,rA];have gAc:v'.cells=some [v']:=aV.cells;refine oN (v:=.undef) (S1:=⟨V.h.set mb (some (.cells (eG db {m with ia:=v',bz:=m.bz++ [⟨pl,a⟩]}) false 0)),V.nx⟩) (show Nat.testBit 524287 15=true by decide) (fun call=>?_) ?_
 ·rw[dW];simp only[fB,bF,rE,↓reduceIte,dF,gAc,aH];exact stc (cs:=eG db m) (p:=9) (S:=V) gmV (show 9<10 by omega)
 rw[nF];refine⟨?_,?_⟩
 ·simp only[Dz,Be,Ee,Cu,Ck];exact hld _ _
 ·simp only[dF,fQ];refine hQ _ _ v' a (fun j hj=>?_) a1 a2 (kP.put fh (Af _) fun c _ hne=>by simp only;rw[dq,if_neg hne]) ((kXU.trans kM).trans fN.put);rw[bF,if_neg au,bF,if_neg au,bF,if_neg au,bF,if_neg au];exact hk j hj
def FnI(mb:Nat)(X:St)(pl lev:Int)(sv:AV)(n:Nat)(k:Nat)(A:bN)(Y:St):Prop:=A.inr=false/\Same X Y/\∃i:Nat,i+k=n/\aB 0 A.F= .ptr mb 0/\aB 1 A.F= .int .i64 pl/\aB 2 A.F= .int .i64 lev/\aB 3 A.F=sv/\aB 9 A.F= .int .i64 (i:Int)
def aPJ(P:Nat->Prop)(S0 X:St)(mb db:Nat)(m:Mk)(LV:List (Int×Int×Int))(pl lev:Int)(r:AV)(Z:St):Prop:=∃va' ia' a,1<=a/\a<=3/\r= .int .i64 (m.bz.length:Int)/\nE P S0 Z mb db {m with va:=va',ia:=ia',views:=m.views++ [(pl,lev,(m.bz.length:Int))],bz:=m.bz++ [⟨pl,a⟩]} LV/\fN mb db m X {m with va:=va',ia:=ia',views:=m.views++ [(pl,lev,(m.bz.length:Int))],bz:=m.bz++ [⟨pl,a⟩]} Z
theorem aMv{P:Nat->Prop}{S0 X:St}{mb db:Nat}{m:Mk}{LV:List (Int×Int×Int)}{pl lev:Int}{sv:AV}{l:bm}(H:Has fns)(hM:nE P S0 X mb db m LV)(hS:S0.nx<=X.nx)(hs:cH .i64 X sv l)(hl:l.length<=1000)(hsb:∀c,bP sv=some c->PB mb db m c/\P c)(hv:m.views.length<=100000)(hi:m.bz.length<=100000):
  eT fns (.fn 69 [] []) [.ptr mb 0,.int .i64 pl,.int .i64 lev,sv] X fun r Z=>(Same X Z/\∃ (i:Nat) (v:Int×Int×Int),m.views[i]? =some v/\v.1=pl/\v.2.1=lev/\r= .int .i64 v.2.2)\/aPJ P S0 X mb db m LV pl lev r Z:=by
 refine bL H.f69 (by simp) ?_;refine ae ?_;refine bK (ae ?_);refine aE (bG (Q:=fun o A' Z=>(o= .normal/\FnI mb X pl lev sv m.views.length 0 A' Z)\/(o= .ret/\Same X Z/\∃ (i:Nat) (v:Int×Int×Int),m.views[i]? =some v/\v.1=pl/\v.2.1=lev/\aB 8 A'.F= .int .i64 v.2.2)) (aE (aM ?_)) ?_)
 ·refine ae ?_;refine aQ (bX (FnI mb X pl lev sv m.views.length) ?_ m.views.length _ _ ⟨rfl,Same.refl _,0,au,af,af,af,af,ag⟩);rintro k ⟨F,inr⟩ Y ⟨q0,hY,i,hik,p0,p1,p2,p3,p9⟩;simp only at q0 p0 p1 p2 p3 p9;subst q0;have hMY:=hM.same hY;have f2:=eE (p:=2) hMY.g rfl;refine fA (dy p0 p9 @aY @bB @aD @aC f2 hMY.p.vw.len ?_);by_cases hlt:i<m.views.length;rotate_left
  ·refine aO (by simp only[↓sU,sD,rE,↓reduceIte,rA,Aa (show ¬ (i:Int)<(m.views.length:Int) by omega)]) (bS ?_);refine ae ?_;have hk0:k=0:=by omega
   subst hk0;exact .inl ⟨rfl,hY,i,hik,by refine⟨?_,?_,?_,?_,?_⟩<;>simp only[↓sU,sD,rE,↓reduceIte,rA,p0,p1,p2,p3,p9]⟩
  refine aP (by simp only[↓sU,sD,rE,↓reduceIte,rA,Ac (show(i:Int)<(m.views.length:Int) by omega)]) (aJ ?_);try refine ae ?_
  have hvi:m.views[i]? =some m.views[i]:=Ad hlt;have hV:bH 4 (fun Y e a=>VwE Y (fun c=>PB mb db m c/\P c) e a) Y m.va m.views:=hMY.p.vw.is fun e a h=>h;obtain⟨_,bx,qx,hiax,hbx,_,⟨sv',l',rfl,hs',hl',_⟩,hldx,_⟩:=bH.at hV ay hvi;have w1:=dk i
  generalize hvv:m.views[i]=v at *;refine aE (aQ (aE (aM ?_)));simp only[↓stU,aG,rE,↓reduceIte,rA,p0,p9,aY,bB,aD,aC,f2,aW,hiax,hldx];refine cM ?_;intro W1 v1 k1 h1;refine dH (b:=Y.nx) (aq) (by refine ap ?_;exact aS _) h1 rfl rfl ?_;intro W v2 k2 h2;refine ap ?_;have sYW:Same Y W:=v2.same v1 (Af _);have sXW:=hY.trans sYW;have g0:=eE (p:=0) h2 rfl;have g1:=eE (p:=1) h2 rfl;have g2:=eE (p:=2) h2 rfl;have again:∀ {F':Fr} {Z:St},aB 0 F'= .ptr mb 0->aB 1 F'= .int .i64 pl->aB 2 F'= .int .i64 lev->aB 3 F'=sv->aB 9 F'= .int .i64 (((i+1:Nat)):Int)->Same X Z->∃x<k,FnI mb X pl lev sv m.views.length x ⟨F',false⟩ Z:=fun {F' Z} a0 a1 a2 a3 a9 hZ=>⟨k - 1,au,rfl,hZ,i+1,au,a0,a1,a2,a3,a9⟩;refine bK ?_;by_cases c1:v.1=pl;rotate_left
  ·refine du p1 @aD @aC g0 (Aa c1) ?_;refine aO (af) (aJ ?_);try refine ae ?_
   refine aM (c9 p9 w1 ?_);exact again (ah p0) (ah p1) (ah p2) (ah p3) (af) sXW
  by_cases c2:v.2.1=lev;rotate_left
  ·refine dy p1 p2 @aD @aC g0 g1 (Ac c1) (Aa c2) ?_;refine aO (af) (aJ ?_);try refine ae ?_
   refine aM (c9 p9 w1 ?_);exact again (ah p0) (ah p1) (ah p2) (ah p3) (af) sXW
  simp only[↓sU,sD,rE,↓reduceIte,rA,p1,p2,p3,aD,aC,g0,g1,g2,Ac c1,Ac c2];refine aL (ae ?_);refine aF (aIp H (hs'.same sYW) (hs.same sXW) au) ?_;rintro _ Z ⟨rfl,hZ⟩;have sXZ:=sXW.trans hZ;have h3:=(hZ.2 _ (show Y.nx<W.nx by omega)).trans h2;have g3:=eE (p:=3) h3 rfl;by_cases c3:l'=l
  ·rw[Ac c3];try refine ae ?_
   refine aP (af) ?_;refine bK (dh @aD @aC g3 ?_);refine aK (ae ?_);exact .inr ⟨sXZ,i,v,by first | exact⟨hvi,c1,c2⟩ | exact⟨hvi,c1,c2,rfl⟩⟩
  ·rw[Aa c3];try refine ae ?_
   refine aO (af) (aJ ?_);try refine ae ?_
   refine aM (c9 p9 w1 ?_);exact again (ah p0) (ah p1) (ah p2) (ah p3) (af) sXZ
 rintro o ⟨F,inr⟩ Z (⟨rfl,q0,hZ,i,hik,p0,p1,p2,p3,_⟩ | ⟨rfl,hZ,i,v,h1,h2,h3,p8⟩);rotate_left
 ·simp only at p8;refine cp p8 ?_;exact .inl ⟨hZ,i,v,by first | exact⟨h1,h2,h3⟩ | exact⟨h1,h2,h3,rfl⟩⟩
 simp only at q0 p0 p1 p2 p3;subst q0;try refine ae ?_
 have hMZ:=hM.same hZ;refine aE (aNB rfl hMZ (Bb hS hZ.1) p0 p1 p2 p3 (hs.same hZ) hl hsb hv ?_);intro F1 Z1 va' k1 hM1 b1;try refine ae ?_
 have z1:=(fN.same (mb:=mb) (db:=db) (m:=m) hZ).trans b1;refine aE (aOP H rfl hM1 (Bb hS z1.1) ((k1 0 au).trans p0) ((k1 1 au).trans p1) hi ?_);intro F2 Z2 ia' a k2 a1 a2 hM2 b2;try refine ae ?_
 have q0:aB 0 F2= .ptr mb 0:=(k2 0 au).trans ((k1 0 au).trans p0);have f9:=eE (p:=9) hM2.g rfl;have hlen:=hM2.p.inf.len;have w1:IntKind.i64.wrap ((((m.bz++ [(⟨pl,a⟩:pN)]).length:Nat):Int) - 1)=(m.bz.length:Int):=by
  rw[Aj,Bc,wrap_i64 au au];omega
 refine bK (dy q0 @aY @bB @aD @aC f9 hlen w1 ?_);refine aK (ae ?_);exact .inr ⟨va',ia',a,a1,a2,rfl,hM2,z1.trans b2⟩
noncomputable def aQU:List AO:=[mt 64 0,
mt 65 0,
om 66 2 (.cl (.t 65)),
om 67 6 (.cw 2 (.t 66)),
om 68 14 (ld 67),
mt 69 0,
om 70 32 (.cl (.t 69)),
om 71 96 (.cw 2 (.t 70)),
om 72 224 (ld 71),
om 73 480 (.ct (.t 72)),
om 74 992 (bi .sub (.t 73) (ci 1)),
om 75 2046 (.slc (.slice 4) (.t 68) none (some (.t 74)) none),
om 76 4095 (.cl (.t 64)),
om 77 8191 (.cw 2 (.t 76))]
def aBV(m:Mk)(info:Int):Prop:=∃x∈m.bw,x.kind=2/\x.info=info
def DpI(mb:Nat)(X:St)(m:Mk)(info:Int)(k:Nat)(A:bN)(Y:St):Prop:=A.inr=false/\Y=X/\∃i:Nat,i+k=m.bw.length/\(∀j x,j<i->m.bw[j]? =some x->¬ (x.kind=2/\x.info=info))/\aB 0 A.F= .ptr mb 0/\aB 1 A.F= .int .i64 info/\aB 6 A.F= .int .i64 (i:Int)
theorem aLM{P:Nat->Prop}{S0 X:St}{mb db:Nat}{m:Mk}{LV:List (Int×Int×Int)}{pl info:Int}(H:Has fns)(hM:nE P S0 X mb db m LV)(h0:0<=info)(hvl:m.views.length=m.bz.length)(hi:m.bz.length<=100000)(hnl:m.bw.length<=100000):
  eT fns (.fn 70 [] []) [.ptr mb 0,.int .i64 info,.int .i64 pl] X fun _ Z=>((pl<0\/info≠(m.bz.length:Int) - 1\/aBV m info)/\Z=X)\/(0<=pl/\info=(m.bz.length:Int) - 1/\¬aBV m info/\∃va' ia',nE P S0 Z mb db {m with va:=va',ia:=ia',views:=m.views.dropLast,bz:=m.bz.dropLast} LV/\fN mb db m X {m with va:=va',ia:=ia',views:=m.views.dropLast,bz:=m.bz.dropLast} Z):=by
 have f9:=eE (p:=9) hM.g rfl;have f8:=eE (p:=8) hM.g rfl;have hil:=hM.p.inf.len;have wI:IntKind.i64.wrap ((m.bz.length:Int) - 1)=(m.bz.length:Int) - 1:=wrap_i64 au au;refine bL H.f70 (by simp) ?_;refine ae ?_;refine fA ?_;by_cases hp:pl<0
 ·refine cp (Ac hp) ?_;refine aP (af) (aK ?_);refine ae ?_;exact .inl (.inl hp)
 by_cases hn:info=(m.bz.length:Int) - 1;rotate_left
 ·refine dy (Aa hp) @aY @bB @aD @aC f9 hil wI ?_;refine aP (by simp only[↓sU,sD,rE,↓reduceIte,rA,Ac (show info≠(m.bz.length:Int) - 1 from hn)]) (aK ?_);refine ae ?_;exact .inl (.inr (.inl hn))
 refine dy (Aa hp) @aY @bB @aD @aC f9 hil wI ?_;refine aO (by simp only[↓sU,sD,rE,↓reduceIte,rA,Aa (show ¬info≠(m.bz.length:Int) - 1 from fun h=>h hn)]) (aJ ?_);try refine ae ?_
 obtain⟨n,rfl⟩:∃n:Nat,info=(n:Int):=⟨info.toNat,au⟩;have hin:m.bz.length=n+1:=by omega
 have hvn:m.views.length=n+1:=by omega
 refine aE (bG (Q:=fun o A' Z=>(o= .normal/\A'.inr=false/\Z=X/\¬aBV m (n:Int)/\aB 0 A'.F= .ptr mb 0/\aB 1 A'.F= .int .i64 (n:Int))\/(o= .ret/\Z=X/\aBV m (n:Int))) (aE (aM ?_)) ?_)
 ·refine ae ?_;refine aQ (bX (DpI mb X m (n:Int)) ?_ m.bw.length _ _ ⟨rfl,rfl,0,au,fun j x hj=>absurd hj (Dc j),af,af,ag⟩);rintro k ⟨F,inr⟩ Y ⟨q0,hYX,i,hik,hno,p0,p1,p6⟩;simp only at q0 p0 p1 p6;subst q0;rw[hYX];clear hYX Y;refine fA (dy p0 p6 @aY @bB @aD @aC f8 hM.p.nod.len ?_);by_cases hlt:i<m.bw.length;rotate_left
  ·refine aO (by simp only[↓sU,sD,rE,↓reduceIte,rA,Aa (show ¬ (i:Int)<(m.bw.length:Int) by omega)]) (bS ?_);refine ae ?_;refine .inl ⟨?_,p0,p1⟩;rintro⟨x,hx,hk⟩;have⟨j,hj⟩:=List.mem_iff_getElem?.1 hx;exact hno j x (by have:=(Ai.1 hj).1;omega) hj hk
  refine aP (by simp only[↓sU,sD,rE,↓reduceIte,rA,Ac (show(i:Int)<(m.bw.length:Int) by omega)]) (aJ ?_);try refine ae ?_
  have hvi:m.bw[i]? =some m.bw[i]:=Ad hlt;have hN:bH 6 dC X m.na m.bw:=hM.p.nod.is fun e a ⟨xa,xw,xp,h1,h2,h3,h4,_⟩=>⟨xa,xw,xp,h1,h2,h3,h4⟩;obtain⟨_,bx,qx,hiax,hbx,_,⟨xa,xw,xp,rfl,hxa,hxw,hxp⟩,hldx,hfx⟩:=bH.at hN ay hvi;have l0:=hfx 0 _ rfl;have l2:=hfx 2 _ rfl;have w1:=dk i
  have again:¬ ((m.bw[i]).kind=2/\(m.bw[i]).info=(n:Int))->∀ {F':Fr},aB 0 F'= .ptr mb 0->aB 1 F'= .int .i64 (n:Int)->aB 6 F'= .int .i64 (((i+1:Nat)):Int)->∃x<k,DpI mb X m (n:Int) x ⟨F',false⟩ X:=fun hne {F'} a0 a1 a6=>⟨k - 1,au,rfl,rfl,i+1,au,fun j x hj hx=>by
   by_cases e:j=i
   ·subst e;rw[hvi] at hx;cases hx;exact hne
   ·exact hno j x au hx,a0,a1,a6⟩
  refine aE (aQ (aE (aM ?_)));by_cases c1:(m.bw[i]).kind=2;rotate_left
  ·simp only[↓sU,sD,rE,↓reduceIte,rA,p0,p6,aY,bB,aD,aC,f8,aW,hiax,l0,Aa c1];refine aO (af) (aJ ?_);try refine ae ?_
   refine aM (c9 p6 w1 ?_);exact again (fun h=>c1 h.1) (ah p0) (ah p1) (af)
  simp only[↓sU,sD,rE,↓reduceIte,rA,p0,p1,p6,aY,bB,aD,aC,f8,aW,hiax,l0,l2,Ac c1];by_cases c2:(m.bw[i]).info=(n:Int)
  ·refine aP (by simp only[↓sU,sD,rE,↓reduceIte,rA,Ac c2]) (aK ?_);refine ae ?_;exact .inr ⟨_,Cv hlt,c1,c2⟩
  ·refine aO (by simp only[↓sU,sD,rE,↓reduceIte,rA,Aa c2]) (aJ ?_);try refine ae ?_
   refine aM (c9 p6 w1 ?_);exact again (fun h=>c2 h.2) (ah p0) (ah p1) (af)
 rintro o ⟨F,inr⟩ Z (⟨rfl,q0,hZX,hno,p0,p1⟩ | ⟨rfl,hZX,hu⟩);rotate_left
 ·refine ae ?_;exact .inl ⟨.inr (.inr hu),hZX⟩
 simp only at q0 p0 p1;subst q0;rw[hZX];clear hZX Z;try refine ae ?_
 have⟨ia',e1,aI,bI⟩:=hM.p.inf.shrink hin;have⟨kP,kM⟩:=hM.p.pushI (X':=X) (Af _) (fun _ _ _=>rfl) (fun c hc=>.inl (by rw[<-bI];exact hc)) aI;have hsl:=fun(F:Fr) (h:aB 59 F= .int .i64 (n:Int))=>e1 F (.t 59) (by show dS (aB 59 F)=_;rw[h];exact aW _ _);refine bK (dy p0 p1 @aY @bB @aD @aC f9 hsl ?_);refine fK (v:=.undef) (S1:=⟨X.h.set mb (some (.cells (eG db {m with ia:=ia',bz:=m.bz.dropLast}) false 0)),X.nx⟩) (fun call=>by refine c9 @dW aI.cells ?_;exact stc (cs:=eG db m) (p:=9) (S:=X) hM.g (show 9<10 by omega)) ?_;refine ae ?_;obtain⟨Z,hZ⟩:∃Z:St,Z=⟨X.h.set mb (some (.cells (eG db {m with ia:=ia',bz:=m.bz.dropLast}) false 0)),X.nx⟩:=⟨_,rfl⟩;have hMZ:nE P S0 Z mb db {m with ia:=ia',bz:=m.bz.dropLast} LV:=kP.put (by rw[hZ];simp only;rw[dq,if_pos rfl]) (by rw[hZ];exact Af _) fun c _ hne=>by rw[hZ];simp only;rw[dq,if_neg hne]
 have kZ:fN mb db m X {m with ia:=ia',bz:=m.bz.dropLast} Z:=kM.trans (by rw[hZ];exact fN.put);rw[<-hZ];have f2:=eE (p:=2) hMZ.g rfl;have hvn':(({m with ia:=ia',bz:=m.bz.dropLast}:Mk).views).length=n+1:=hvn;have hvlen:=hMZ.p.vw.len;have sva:=hMZ.p.vw.self;rw[hvn'] at hvlen;have wV:IntKind.i64.wrap (((n+1:Nat):Int) - 1)=(n:Int):=by rw[wrap_i64 au au];omega
 have hM2:nE P S0 ⟨Z.h,Z.nx+15⟩ mb db {m with ia:=ia',bz:=m.bz.dropLast} LV:=hMZ.same (Same.nx Z 15);have⟨va',e2,aV,bV⟩:=hM2.p.vw.shrink hvn';have⟨kP2,kM2⟩:=hM2.p.pushV (X':=⟨Z.h,Z.nx+15⟩) (Af _) (fun _ _ _=>rfl) (fun c hc=>.inl (by rw[<-bV];exact hc)) aV;have hsv:=fun(F:Fr) (h:aB 74 F= .int .i64 (n:Int))=>e2 F (.t 74) (by show dS (aB 74 F)=_;rw[h];exact aW _ _);refine uC (pre:=aQU) (K:=14) (m:=16383) (n:=1) (x:=.t 77) (v:=.t 75) rfl rfl rfl rfl ?_;unfold aQU;simp only[↓sU,sD,rE,↓reduceIte,rA,p0,aY,bT,bB,aD,aX,aC,f2,sva,hvlen,wV,hsv];rw[aV.cells,aH];refine⟨_,stc (cs:=eG db {m with ia:=ia',bz:=m.bz.dropLast}) (p:=2) (S:=⟨Z.h,Z.nx+15⟩) hM2.g (show 2<10 by omega),_,rfl,.inr ⟨au,au,hno,va',ia',kP2.put (by simp only;rw[dq,if_pos rfl];rfl) (Af _) fun c _ hne=>by simp only;rw[dq,if_neg hne],?_⟩⟩;exact((kZ.trans (fN.same (Same.nx Z 15))).trans kM2).trans fN.put
inductive pL:List (Option Nat)->Nat->Prop
 | nil:pL [] 0
 | none {l:List (Option Nat)} {n:Nat}:pL l n->pL (l++ [Option.none]) n
 | old {l:List (Option Nat)} {n i:Nat}:pL l n->i<n->pL (l++ [some i]) n
 | new {l:List (Option Nat)} {n:Nat}:pL l n->pL (l++ [some n]) (n+1)
def xX:List (Option Nat)->Nat->Nat->Nat
 | [],_,_=>0
 | b::l,s,i=>if b=some i then s+1 else xX l (s+1) i
theorem aKm:∀ {l:List (Option Nat)} {s i:Nat},xX l s i<=s+l.length
 | [],s,i=>Dt _
 | b::l,s,i=>by
  unfold xX;split
  ·simp
  ·have:=aKm (l:=l) (s:=s+1) (i:=i);rw[Av];omega
theorem fZ:∀ {l:List (Option Nat)} {s i:Nat} {b:Option Nat},xX (l++ [b]) s i=if xX l s i≠0 then xX l s i else if b=some i then s+l.length+1 else 0
 | [],s,i,b=>by simp [xX]
 | c::l,s,i,b=>by
  show xX (c::(l++ [b])) s i=_;unfold xX;by_cases h:c=some i
  ·rw[if_pos h,if_pos h,if_pos au]
  ·rw[if_neg h,if_neg h,fZ (l:=l) (s:=s+1),Av];split
   ·rfl
   ·split
    ·omega
    ·rfl
theorem aNX{l:List (Option Nat)}{n:Nat}(h:pL l n):∀i,n<=i->xX l 0 i=0:=by
 induction h with
 | nil=>intro i _;rfl
 | none _ ih=>intro i hi;rw[fZ,ih i hi];simp
 | old _ hlt ih=>intro i hi;rw[fZ,ih i hi];simp;omega
 | new _ ih=>intro i hi;rw[fZ,ih i au];simp;omega
theorem aLB{l:List (Option Nat)}{n:Nat}(h:pL l n):(∀i,i<n->xX l 0 i≠0)/\∀i,i+1<n->xX l 0 i<xX l 0 (i+1):=by
 induction h with
 | nil=>exact⟨fun i hi=>absurd hi (Dc i),fun i hi=>absurd hi au⟩
 | none _ ih=>exact⟨fun i hi=>by rw[fZ,if_pos (ih.1 i hi)];exact ih.1 i hi,fun i hi=>by rw[fZ,fZ,if_pos (ih.1 i au),if_pos (ih.1 (i+1) hi)];exact ih.2 i hi⟩
 | old _ _ ih=>exact⟨fun i hi=>by rw[fZ,if_pos (ih.1 i hi)];exact ih.1 i hi,fun i hi=>by rw[fZ,fZ,if_pos (ih.1 i au),if_pos (ih.1 (i+1) hi)];exact ih.2 i hi⟩
 | @new l n ho ih=>
  refine⟨fun i hi=>?_,fun i hi=>?_⟩
  ·by_cases e:i<n
   ·rw[fZ,if_pos (ih.1 i e)];exact ih.1 i e
   ·obtain rfl:i=n:=by omega
    rw[fZ,aNX ho i (Af _),if_neg (fun h=>h rfl),if_pos rfl];omega
  ·by_cases e:i+1<n
   ·rw[fZ,fZ,if_pos (ih.1 i au),if_pos (ih.1 (i+1) e)];exact ih.2 i e
   ·obtain rfl:n=i+1:=by omega
    rw[fZ,fZ,if_pos (ih.1 i au),aNX ho (i+1) (Af _),if_neg (fun h=>h rfl),if_pos rfl];have:=aKm (l:=l) (s:=0) (i:=i);omega
def lbl(x:dI):Option Nat:=if x.kind=2 then some x.info.toNat else Option.none
theorem aDK:∀ {l:List dI} {s i:Nat},(∀x∈l,x.kind=2->0<=x.info)->xX (l.map lbl) s i=mP l s i
 | [],_,_,_=>rfl
 | x::l,s,i,h=>by
  have ih:=aDK (l:=l) (s:=s+1) (i:=i) fun y hy=>h y (Bf _ hy);show(if lbl x=some i then s+1 else xX (l.map lbl) (s+1) i)=if x.kind=2/\x.info=(i:Int) then s+1 else mP l (s+1) i;rw[ih];have h0:=h x (Bn ..);by_cases hk:x.kind=2
  ·have h0:=h0 hk;have e:(lbl x=some i)↔(x.kind=2/\x.info=(i:Int)):=by
    unfold lbl;rw[if_pos hk,Al];constructor
    ·intro e;exact⟨hk,au⟩
    ·rintro⟨_,e⟩;omega
   by_cases h1:lbl x=some i
   ·rw[if_pos h1,if_pos (e.1 h1)]
   ·rw[if_neg h1,if_neg (fun h=>h1 (e.2 h))]
  ·have h1:lbl x≠some i:=by unfold lbl;rw[if_neg hk];intro h;cases h
   rw[if_neg h1,if_neg (fun h=>hk h.1)]
def aAk(k at_:Nat)(B:List dI):Prop:=0<B.length/\∀ (N:Nat) (nx:Nat->bm),at_+B.length<=N->(∀i x,B[i]? =some x->nx (at_+i)=x.next)->∀f p d,B.length<=f->∃L,iL N nx f at_ p d=some L/\L.length=B.length/\∀t∈L,t.2.1<=d+(k:Int)
def aGY(k at_:Nat)(cs:bm)(C:List dI):Prop:=∀ (N:Nat) (nx:Nat->bm),at_+C.length<=N->(∀i x,C[i]? =some x->nx (at_+i)=x.next)->∀f p d,C.length<=f->∃L,gS (fun r=>iL N nx f r p d) cs at_=some L/\L.length=C.length/\∀t∈L,t.2.1<=d+(k:Int)
theorem aGY.nil{k at_:Nat}:aGY k at_ [] []:=fun N nx _ _ f p d _=>⟨[],rfl,rfl,fun t ht=>by cases ht⟩
theorem aEn{rec:Nat->Option (List dP)}{c:Int}:∀ {cs:bm} {r:Nat} {L M:List dP},gS rec cs r=some L->c=((r+L.length:Nat):Int)->rec (r+L.length)=some M->gS rec (cs++ [c]) r=some (L++M)
 | [],r,L,M,h,hc,hM=>by
  cases h;have hc:c=(r:Int):=hc;have hM:rec r=some M:=hM;show(if c=(r:Int) then(rec r).bind fun L1=>(gS rec [] (r+L1.length)).map (L1++ ·) else Option.none)=_;rw[if_pos hc,hM];show some (M++ [])=some ([]++M);rw[Cb,Ck]
 | b::cs,r,L,M,h,hc,hM=>by
  have h:(if b=(r:Int) then(rec r).bind fun L1=>(gS rec cs (r+L1.length)).map (L1++ ·) else Option.none)=some L:=h;show(if b=(r:Int) then(rec r).bind fun L1=>(gS rec (cs++ [c]) (r+L1.length)).map (L1++ ·) else Option.none)=_;by_cases hb:b=(r:Int)
  ·rw[if_pos hb] at h ⊢;cases h1:rec r with
   | none=>rw[h1] at h;cases h
   | some L1=>
    rw[h1] at h;have h:(gS rec cs (r+L1.length)).map (L1++ ·)=some L:=h;cases h2:gS rec cs (r+L1.length) with
    | none=>rw[h2] at h;cases h
    | some L2=>
     rw[h2] at h;have h:some (L1++L2)=some L:=h;cases h;rw[Aj] at hc hM;have:=aEn (rec:=rec) (c:=c) (M:=M) h2 (by rw[hc];congr 1;omega) (by rw[<-hM];congr 1;omega);show((gS rec (cs++ [c]) (r+L1.length)).map (L1++ ·))=_;rw[this];show some (L1++(L2++M))=_;rw[Be]
  ·rw[if_neg hb] at h;cases h
theorem aGY.snoc{k at_:Nat}{cs:bm}{C B:List dI}(h:aGY k at_ cs C)(hB:aAk k (at_+C.length) B):aGY k at_ (cs++ [((at_+C.length:Nat):Int)]) (C++B):=by
 intro N nx hN hnx f p d hf;rw[Aj] at hN hf;have⟨L,h1,h2,h3⟩:=h N nx au (fun i x hi=>hnx i x (by rw[Ap (Ai.1 hi).1];exact hi)) f p d au;have⟨M,g1,g2,g3⟩:=hB.2 N nx au (fun i x hi=>by
  have:=hnx (C.length+i) x (by rw[Aq au,Nat.add_sub_cancel_left];exact hi);rw[<-this];congr 1;omega) f p d au
 refine⟨L++M,aEn h1 (by rw[h2]) (by rw[h2];exact g1),by rw[Aj,Aj,h2,g2],fun t ht=>?_⟩;rcases Bs.1 ht with h | h
 ·exact h3 t h
 ·exact g3 t h
theorem aAk.node{k at_:Nat}{x:dI}{C:List dI}(h:aGY k (at_+1) x.next C):aAk (k+1) at_ (x::C):=by
 refine⟨by simp,fun N nx hN hnx f p d hf=>?_⟩;rw[Av] at hN hf;cases f with
 | zero=>omega
 | succ f=>
  have⟨L,h1,h2,h3⟩:=h N nx au (fun i y hi=>by
   have:=hnx (i+1) y hi;rw[<-this];congr 1;omega) f (at_:Int) (d+1) au
  have h0:nx at_=x.next:=hnx 0 x rfl;refine⟨(p,d,((at_+L.length:Nat):Int))::L,?_,by rw[Av,Av,h2],fun t ht=>?_⟩
  ·show(if at_<N then(gS (fun r=>iL N nx f r at_ (d+1)) (nx at_) (at_+1)).map fun L=>(p,d,((at_+L.length:Nat):Int))::L else Option.none)=_;rw[if_pos au,h0,h1];rfl
  ·rcases Br.1 ht with rfl | h
   ·show d<=_;omega
   ·have:=h3 t h;omega
theorem aAk.end_{k at_:Nat}{x:dI}(h:x.next= []):aAk k at_ [x]:=by
 refine⟨by simp,fun N nx hN hnx f p d hf=>?_⟩;cases f with
 | zero=>simp at hf
 | succ f=>
  have h0:nx at_=x.next:=hnx 0 x rfl;refine⟨[(p,d,((at_+0:Nat):Int))],?_,rfl,fun t ht=>?_⟩
  ·show(if at_<N then(gS (fun r=>iL N nx f r at_ (d+1)) (nx at_) (at_+1)).map fun L=>(p,d,((at_+L.length:Nat):Int))::L else Option.none)=_;rw[if_pos (by simp at hN;omega),h0,h];rfl
  ·rw[Es.1 ht];show d<=_;omega
structure aTu(x:dI):Prop where
 kind:x.kind=1
 player:x.player=0
 info:x.info=0
 pay:x.pay= []
 n1:1<=x.next.length
 n2:x.next.length<=3
 len:x.weights.length=x.next.length
 wts:∀w∈x.weights,1<=w/\w<=3
structure aUc(ps:Int)(I:List pN)(x:dI):Prop where
 kind:x.kind=2
 wts:x.weights= []
 pay:x.pay= []
 n1:1<=x.next.length
 n2:x.next.length<=3
 pl:0<=x.player/\x.player<ps
 inf:0<=x.info
 at_:I[x.info.toNat]? =some ⟨x.player,(x.next.length:Int)⟩
def mS(ps:Int)(I:List pN)(x:dI):Prop:=aRs ps x\/aTu x\/aUc ps I x
theorem mS.app{ps:Int}{I J:List pN}{x:dI}(h:mS ps I x):mS ps (I++J) x:=by
 rcases h with h | h | h
 ·exact .inl h
 ·exact .inr (.inl h)
 ·exact .inr (.inr ⟨h.kind,h.wts,h.pay,h.n1,h.n2,h.pl,h.inf,by rw[Ap (Ai.1 h.at_).1];exact h.at_⟩)
theorem aNe{ps:Int}{I:List pN}{x:dI}(h:mS ps I x):jW ps I.length x=0:=by
 unfold jW;rcases h with h | h | h
 ·rw[if_neg (by rw[h.kind];decide),if_neg (by rw[h.kind];decide),if_pos h.kind,if_neg (by unfold wR;rw[h.player,h.info,h.next,h.wts,h.len];simp),if_neg];rintro⟨w,hw,ho⟩;have:=h.pay w hw;omega
 ·rw[if_pos h.kind,if_neg (by unfold uU;rw[h.player,h.info,h.pay,h.len];have:=h.n1;have:=h.n2;simp;omega),if_neg];rintro⟨w,hw,ho⟩;have:=h.wts w hw;omega
 ·have hlt:=(Ai.1 h.at_).1;have:=h.pl;have:=h.inf;rw[if_neg (by rw[h.kind];decide),if_pos h.kind,if_neg (by unfold aAm;rw[h.wts,h.pay];have:=h.n1;have:=h.n2;simp;omega),if_neg au]
theorem aFG{ps:Int}{I:List pN}:∀ {l:List dI},(∀x∈l,mS ps I x)->oU ps I.length l=0
 | [],_=>rfl
 | x::l,h=>by
  have h1:=aNe (h x (Bn ..));show(if jW ps I.length x≠0 then jW ps I.length x else oU ps I.length l)=0;rw[if_neg (fun h=>h h1)];exact aFG fun y hy=>h y (Bf _ hy)
theorem aKi{b:Int}:∀ {L:List dP} {m:Int},m<=b->(∀t∈L,t.2.1<=b)->aCH m L<=b
 | [],m,hm,_=>hm
 | t::L,m,hm,h=>by
  rw[aFw];refine aKi ?_ fun y hy=>h y (Bf _ hy);have:=h t (Bn ..);unfold mx;split<;>omega
theorem aOp{g:bD}{k:Nat}(hp:1<=g.b9/\g.b9<=4)(hn:1<=g.bw.length/\g.bw.length<=2000)(hi:g.bz.length<=200)(hN:∀x∈g.bw,mS g.b9 g.bz x)(hT:aAk k 0 g.bw)(hk:k<=40)(hO:pL (g.bw.map lbl) g.bz.length):eO g=0:=by
 have⟨L,h1,h2,h3⟩:=hT.2 g.bw.length (iB g) au (fun i x hi=>by rw[Ao];exact aEh hi) (g.bw.length+1) (-1) 0 au;have hw:pQ g=some L:=h1;unfold eO;rw[if_neg (by unfold uI;omega),if_neg (by rw[aFG hN];exact fun h=>h rfl),hw];show(if L.length≠g.bw.length then 9 else if 40<aCH 0 L then 5 else aBA g)=0;have hm:aCH 0 L<=40:=aKi ay fun t ht=>by have:=h3 t ht;omega
 rw[if_neg (fun h=>h h2),if_neg au];have hlen:(lD g).length=g.bz.length:=by unfold lD;simp
 have hinf:∀x∈g.bw,x.kind=2->0<=x.info:=fun x hx hk=>by
  rcases hN x hx with h | h | h
  ·rw[h.kind] at hk;cases hk
  ·rw[h.kind] at hk;cases hk
  ·exact h.inf
 have hget:∀j,j<g.bz.length->(lD g).getD j 0=((xX (g.bw.map lbl) 0 j:Nat):Int):=fun j hj=>by rw[aIC hj,aDK hinf]
 have⟨o1,o2⟩:=aLB hO;unfold aBA;rw[if_neg,if_neg,if_pos]
 ·intro i h0 hi;rw[hlen] at hi;rw[hget i hi,hget (i - 1) au];have:=o2 (i - 1) au;rw[show i - 1+1=i by omega] at this;omega
 ·intro h0;have⟨j,hj,he⟩:=List.mem_iff_getElem.1 h0;rw[hlen] at hj;have:=hget j hj;rw[Ae,Ad (by rw[hlen];exact hj)] at this;have e:(lD g)[j]=((xX (g.bw.map lbl) 0 j:Nat):Int):=this;rw[he] at e;have:=o1 j hj;omega
 ·rintro⟨x,hx,hk,hne⟩;rcases hN x hx with h | h | h
  ·rw[h.kind] at hk;cases hk
  ·rw[h.kind] at hk;cases hk
  ·apply hne;have e:ck g x.info=⟨x.player,(x.next.length:Int)⟩:=by
    unfold ck;rw[Ae,h.at_];rfl
   rw[e];exact⟨rfl,rfl⟩
def aPQ(Pp:Nat->Prop)(X:St)(cs:bo)(l:bm):Prop:=∃a,cs= [a]/\cH .i64 X a l/\∀c,bP a=some c->Pp c
structure wG(Pp:Nat->Prop)(X:St)(v:AV)(rows:List (bm)):Prop where
 rows:bH 1 (aPQ Pp) X v rows
 out:∀c,bP v=some c->Pp c
theorem aPQ.move{Pp Pp':Nat->Prop}{X X':St}{cs:bo}{l:bm}(h:aPQ Pp X cs l)(hn:X.nx<=X'.nx)(hh:∀c,c<X.nx->Pp c->X'.h.get c=X.h.get c/\Pp' c):aPQ Pp' X' cs l:=by
 obtain⟨a,rfl,h1,h2⟩:=h;exact⟨a,rfl,mC h1 hn fun c hc=>(hh c (fP h1 hc) (h2 c hc)).1,fun c hc=>(hh c (fP h1 hc) (h2 c hc)).2⟩
theorem wG.move{Pp Pp':Nat->Prop}{X X':St}{v:AV}{rows:List (bm)}(h:wG Pp X v rows)(hn:X.nx<=X'.nx)(hh:∀c,c<X.nx->Pp c->X'.h.get c=X.h.get c/\Pp' c):wG Pp' X' v rows:=by
 refine⟨?_,fun c hc=>(hh c (aCN h.rows hc) (h.out c hc)).2⟩;rcases h.rows with h' | ⟨b,off,cap,o,cs,rfl,h2,h3,h4,h5⟩
 ·exact .inl h'
 ·refine .inr ⟨b,off,cap,o,cs,rfl,h2,Ag h3 hn,?_,fun i a hi=>?_⟩
  ·unfold cA at h4 ⊢;rw[(hh b h3 (h.out b rfl)).1];exact h4
  ·have⟨e,e1,e2,e3⟩:=h5 i a hi;exact⟨e,e1,e2,e3.move hn hh⟩
theorem aSH{S:St}{v:AV}{l:bm}(h:cH .i64 S v l):xC v=some l.length/\eU v S.h 1 l.length=some (bE l):=by
 rcases h with⟨rfl,rfl | rfl⟩ | ⟨b,off,cap,o,cs,rfl,h2,h3,h4,h5⟩
 ·exact⟨rfl,rfl⟩
 ·exact⟨rfl,rfl⟩
 ·refine⟨rfl,?_⟩;show aU (cA S.h b) (fun c=>cut c off (l.length * 1))=_;rw[h4];show cut cs off (l.length * 1)=_;have hlen:l.length<=(cs.drop off).length:=by
   rw[Fp];rcases An l.length with h0 | hp
   ·omega
   ·have:=h5 (l.length - 1) l[l.length - 1] (Ad au);have:=(Ai.1 this).1;omega
  unfold cut;rw[jC,jM,Bt,if_pos hlen];congr 1;refine List.ext_getElem? fun i=>?_;by_cases hi:i<l.length
  ·rw[Ft hi,Fi,h5 i l[i] (Ad hi)];unfold bE;rw[Bz,Ad hi];rfl
  ·rw[Bo (by rw[Bq];omega),Bo (by unfold bE;rw[Ce];omega)]
theorem aDp{b:Nat}{S:St}{v:AV}{l:bm}(hb:S.h.get b=some (.cells [] false 0))(h:cH .i64 S v l)(h2:l.length<=100000):
  ∃r S',iW 8 1 (.sl b 0 0 0 false) v S=some (r,S')/\Same S S'/\((l= []/\r= .sl b 0 0 0 false/\S'=S)\/(lN 1 S S' r l.length (bE l)/\l≠ [])):=by
 have⟨e1,e2⟩:=aSH h;have hr:l.length<=room:=by unfold room;omega
 have hr2:l.length * 8<=room:=by unfold room;omega
 unfold iW;rw[e1,aH,e2,aH];show ∃r S',pT 8 1 b 0 0 0 false l.length (bE l) S=some (r,S')/\_;unfold pT;rcases An l.length with h0 | hp
 ·have hl:l= []:=Cf.1 h0;subst hl;exact⟨.sl b 0 0 0 false,S,rfl,Same.refl S,.inl ⟨rfl,rfl,rfl⟩⟩
 ·have e5:Nat.ble (0+l.length) 0=false:=by
   rw[Ca];intro e;have:=Au e;omega
  rw[e5,aR,Ah au,aN,Ah (by rw[Ao];exact hr2),aN,hb,aH];have e4:cut ([]:bo) 0 (0 * 1)=some []:=by
   unfold cut;rw[jC,jM,Fu,if_pos (Dt _)];rfl
  have hgr:aAR (.cells [] false 0) 1 b 0 0 0 false l.length (bE l) S=some (.sl S.nx 0 (0+l.length) (0+l.length) true,⟨S.h.set S.nx (some (.cells (bE l) true 1)),Nat.succ S.nx⟩):=by
   simp only[aAR,e4,aH,aR,grown,fE,Ck]
  rw[hgr,Ao];exact⟨.sl S.nx 0 l.length l.length true,⟨S.h.set S.nx (some (.cells (bE l) true 1)),S.nx+1⟩,rfl,Same.alloc S _,.inr ⟨.inr ⟨S.nx,rfl,Af _,by simp,fh,by simp [bE]⟩,fun e=>by rw[e] at hp;exact absurd hp (Nat.lt_irrefl 0)⟩⟩
theorem aKw{t b:Nat}{Y X:St}{r:AV}{l:bm}{w:Int}(h:(l= []/\r= .sl b 0 0 0 false/\X.h.get b=some (.cells [] false 0))\/(lN 1 Y X r l.length (bE l)/\l≠ []))(hY:Y.nx<=X.nx)(ht:X.h.get t=some (.cells [.int .i64 w] false 0))(htl:t<X.nx)(hl:l.length<=100000):
  ∃r' X',iW 8 1 r (.sl t 0 1 1 false) X=some (r',X')/\cH .i64 X' r' (l++ [w])/\X.nx<=X'.nx/\(∀c,c<X.nx->bP r≠some c->X'.h.get c=X.h.get c)/\∀c,bP r'=some c->X.nx<=c:=by
 rcases h with⟨rfl,rfl,hb⟩ | ⟨hg,_⟩
 ·have hs:cH .i64 X (.sl t 0 1 1 false) [w]:=.inr ⟨t,0,1,false,[.int .i64 w],rfl,Af _,htl,by unfold cA;rw[ht];rfl,fun i x hi=>by
   cases i with
   | zero=>cases hi;rfl
   | succ i=>simp at hi⟩
  obtain⟨r',X',e1,e2,h3 | ⟨h3,_⟩⟩:=aDp hb hs (by simp)
  ·exact absurd h3.1 (by simp)
  ·exact⟨r',X',e1,h3.is,e2.1,fun c hc _=>e2.2 c hc,fun c hc=>(h3.blk hc).1⟩
 ·have hg':lN 1 ⟨X.h,Y.nx⟩ X r l.length (bE l):=by
   rcases hg with h | ⟨c,e1,e2,e3,e4,e5⟩
   ·exact .inl h
   ·exact .inr ⟨c,e1,e2,e3,e4,e5⟩
  have⟨r',X',e1,e2,e3,e4,e5⟩:=lN.push (bytes:=8) (t:=t) (w:=w) hg' ⟨hY,fun _ _=>rfl⟩ ht ax ax;exact⟨r',X',e1,e2.is,au,e5,fun c hc=>by rw[e3] at hc;cases hc;exact Af _⟩
noncomputable def aM9:List AO:=[oq 185 (.cw 3 (.t 11)),
om 186 1 (ld 185),
mt 187 0,
mt 188 1,
om 189 8 (bi .add (.t 188) (ci 1)),
mt 190 13,
oc 191 46 [(.t 187),(.t 189),(.t 190)] 60,
⟨(some 192),(.a (.cm 3 1 1 [(.int .i64 (.ofNat 0))] [(0,(.t 191))])),none,124⟩]
noncomputable def aM5:List AO:=[⟨(some 193),(.x (.app 3 1 8 (.t 186) (.t 192))),none,255⟩,
om 194 511 (.cw 3 (.t 11)),
⟨none,(.x (.st 1 (.t 194) (.t 193))),none,1023⟩]
def aRH(P:Nat->Prop)(S0 X:St)(F:Fr)(mb db:Nat)(m:Mk)(LV:List (Int×Int×Int))(xa:AV)(G:Int->Mk->Prop)(F':Fr)(Z:St)(ps:List kB):Prop:=∃ (c:Int) (m':Mk),G c m'/\ps= [⟨7,X.nx+7,.cells [.int .i64 c] false 0⟩]/\X.nx+11<=Z.nx/\nE (fun k=>P k\/X.nx+11<=k) S0 Z mb db m' LV/\(∀k,k<X.nx+11->PB mb db m k->PB mb db m' k)/\(∀k,k<X.nx->PB mb db m k->Z.h.get k=X.h.get k)/\(∀j,j<16->aB j F'=aB j F)/\aB 186 F'=xa/\aB 192 F'= .sl (X.nx+7) 0 1 1 false
theorem aP8{ops:List AO}{P:Nat->Prop}{S0 Y0 X:St}{F:Fr}{inr:Bool}{mb db xb:Nat}{m:Mk}{LV:List (Int×Int×Int)}{k p f xa xw xp nv:AV}{lev:Int}{l:bm}{G:Int->Mk->Prop}{Q:Out->bN->St->Prop}(he:ops=aM9++aM5)(hM:nE P S0 X mb db m LV)(hPl:∀c,P c->c<X.nx)(p0:aB 0 F= .ptr mb 0)(p1:aB 1 F= .int .i64 lev)(hlev:0<=lev/\lev<=1000)(p11:aB 11 F= .ptr xb 0)(p13:aB 13 F=nv)(gx:X.h.get xb=some (.cells [k,p,f,xa,xw,xp] false 0))(hx:PB mb db m xb/\¬P xb)(lx:xb<Y0.nx)(hY:Y0.nx<=X.nx)(hg:lN 1 Y0 X xa l.length (bE l))(hb:∀c,bP xa=some c->PB mb db m c/\¬P c)(hl:l.length<=1000)
  (hcall:∀X1,Same X X1->eT fns (.fn 46 [] []) [.ptr mb 0,.int .i64 (lev+1),nv] X1 fun r Z=>∃ (c:Int) (m':Mk),r= .int .i64 c/\G c m'/\nE (fun k=>P k\/X1.nx<=k) S0 Z mb db m' LV/\fN mb db m X1 m' Z)
  (hQ:∀F' Z xa' c m',(∀j,j<16->aB j F'=aB j F)->G c m'->nE (fun k=>(P k\/X.nx<=k)/\bP xa'≠some k) S0 Z mb db m' LV->X.nx<=Z.nx->(∀k,k<X.nx->PB mb db m k->PB mb db m' k)->(∀k,k<X.nx->PB mb db m k->k≠xb->bP xa≠some k->Z.h.get k=X.h.get k)->Z.h.get xb=some (.cells [k,p,f,xa',xw,xp] false 0)->lN 1 Y0 Z xa' (l++ [c]).length (bE (l++ [c]))->(∀k,bP xa'=some k->X.nx<=k/\PB mb db m' k)->Q .normal ⟨F',inr⟩ Z):nD fns (.drw ops) ⟨F,inr⟩ X Q:=by
 have hlen:ops.length=11:=by rw[he];rfl
 have lxX:xb<X.nx:=Ag lx hY;have sp:=hg.self;have wl:IntKind.i64.wrap (lev+1)=lev+1:=wrap_i64 au au;refine aF0 (W:=fun c=>c≠xb) (K:=8) (R:=aRH P S0 X F mb db m LV xa G) he rfl rfl (fun X1 x1 hh1 nn1=>?_) ?_
 ·have gxl:=eE (p:=3) gx rfl;have hnn:¬ (xb≠xb):=fun h=>h rfl;unfold aM9;simp only[↓sU,sD,rE,↓reduceIte,rA,p0,p1,p11,p13,aD,aX,aC,gxl,sp,lxX,hnn,Am,wl];refine lT rfl ?_;refine ae ?_;refine aF (hcall X1 x1) ?_;rintro _ X2 ⟨c,m',rfl,hG,hM2,b2⟩;have n1:X1.nx=X.nx+11:=by rw[nn1,hlen]
  have hX1:∀k,k<X.nx->PB mb db m k->X2.h.get k=X.h.get k:=fun k hk hp=>((b2.2 k au hp).1).trans (x1.2 k hk);refine⟨⟨b2.1,fun c hc hne=>?_⟩,?_⟩
  ·have e:c=xb:=Decidable.byContradiction hne;rw[e];exact(b2.2 xb au hx.1).1
  have he1:=fun(F:Fr) (id:Nat) (h:aB 191 F= .int .i64 c)=>lI (t:=3) (z:=.int .i64 0) (x:=.t 191) (F:=F) (id:=id) (k:=.i64) (n:=c) h;refine cp he1 ?_;refine⟨c,m',hG,af,by rw[<-n1];exact b2.1,by rw[<-n1];exact hM2,fun k hk hp=>(b2.2 k au hp).2,hX1,fun j hj=>?_,by refine⟨?_,?_⟩<;>simp only[↓sU,sD,rE,↓reduceIte,rA]⟩;have:j=0\/j=1\/j=2\/j=3\/j=4\/j=5\/j=6\/j=7\/j=8\/j=9\/j=10\/j=11\/j=12\/j=13\/j=14\/j=15:=by omega
  rcases this with rfl | rfl | rfl | rfl | rfl | rfl | rfl | rfl | rfl | rfl | rfl | rfl | rfl | rfl | rfl | rfl<;>simp only[↓sU,sD,rE,↓reduceIte,rA]
 rintro F' S' ps hs ls ⟨c,m',hG,rfl,nZ,hMZ,hPB,hZX,hk,pA,pB⟩ hlast hld;have p11':aB 11 F'= .ptr xb 0:=(hk 11 au).trans p11;have m1:∀i,i<8->Nat.testBit 255 i=true:=by decide
 obtain⟨U,hU⟩:∃U:St,U=⟨S'.h.set (X.nx+7) (some (.cells [.int .i64 c] false 0)),S'.nx⟩:=⟨_,rfl⟩;have nU:U.nx=S'.nx:=by rw[hU]
 have kU:∀j,j≠X.nx+7->U.h.get j=S'.h.get j:=fun j hj=>by rw[hU];simp only;rw[dq,if_neg hj]
 have gU:U.h.get (X.nx+7)=some (.cells [.int .i64 c] false 0):=by rw[hU];simp only;rw[dq,if_pos rfl]
 have lowv:∀ {j},bP xa=some j->Y0.nx<=j/\j<X.nx:=fun hc=>⟨(hg.blk hc).1,(hg.blk hc).2.1⟩;have hgU:lN 1 ⟨U.h,Y0.nx⟩ U xa l.length (bE l):=hg.move au fun j hj=>by
  rw[kU j (by have:=(lowv hj).2;omega)];exact hZX j (lowv hj).2 (hb j hj).1
 have⟨xa',V,eA,gA,bA,nA,rA⟩:=lN.push (bytes:=8) (t:=X.nx+7) (w:=c) hgU ⟨by show Y0.nx<=U.nx;omega,fun _ _=>rfl⟩ gU ax ax;have gxV:V.h.get xb=some (.cells [k,p,f,xa,xw,xp] false 0):=by
  rw[rA xb au (fun e=>by have:=(lowv e).1;omega),kU xb au];exact(hZX xb lxX hx.1).trans gx
 have hbA:∀ {j},bP xa'=some j->j=U.nx:=fun hc=>by rw[bA] at hc;exact(Cd hc).symm
 unfold aM5;refine oN (v:=xa') (S1:=V) (hlast _ m1) (fun call=>?_) ?_
 ·rw[gQ (show Nat.testBit 255 7=true by decide),jJ];simp only[fB,pA,pB];rw[<-hU];exact eA
 rw[gQ (show Nat.testBit 255 7=true by decide)];simp only[sR,cI,aD,aC,aX,aR,fB,dF,bF,p11',rE,↓reduceIte,rA];have gAc:xa'.cells=some [xa']:=lN.cells gA;refine oN (v:=.undef) (S1:=⟨V.h.set xb (some (.cells [k,p,f,xa',xw,xp] false 0)),V.nx⟩) (show Nat.testBit 1023 8=true by decide) (fun call=>?_) ?_
 ·rw[dW];simp only[fB,bF,rE,↓reduceIte,dF,gAc,aH];exact stc (cs:=[k,p,f,xa,xw,xp]) (p:=3) (S:=V) gxV (by simp)
 rw[nF];refine⟨?_,?_⟩
 ·simp only[Dz,Be,Ee,Cu,Ck];exact hld _ _ _ m1
 ·simp only[dF,fQ];have kV:∀j,j<S'.nx->j≠X.nx+7->j≠xb->bP xa≠some j->(V.h.set xb (some (.cells [k,p,f,xa',xw,xp] false 0))).get j=S'.h.get j:=fun j hj h1 h2 h3=>by
   rw[dq,if_neg h2,rA j au h3,kU j h1]
  have hxm:PB mb db m' xb:=hPB xb au hx.1;have hMV:nE (fun k=>P k\/X.nx+11<=k) S0 ⟨V.h.set xb (some (.cells [k,p,f,xa',xw,xp] false 0)),V.nx⟩ mb db m' LV:=hMZ.local (by show S'.nx<=V.nx;omega) fun j hj hor=>by
   refine kV j hj (fun e=>?_) (fun e=>?_) (fun e=>?_)
   ·rcases hor with h | h | h
    ·exact h (hPB j au (by rw[e];exact hM.p.fresh au))
    ·have:=hPl j h;omega
    ·omega
   ·rcases hor with h | h | h
    ·exact h (by rw[e];exact hxm)
    ·exact hx.2 (by rw[<-e];exact h)
    ·omega
   ·have hlo:=(lowv e).2;rcases hor with h | h | h
    ·exact h (hPB j au (hb j e).1)
    ·exact(hb j e).2 h
    ·omega
  have hM3:nE (fun k=>(P k\/X.nx<=k)/\bP xa'≠some k) S0 ⟨V.h.set xb (some (.cells [k,p,f,xa',xw,xp] false 0)),V.nx⟩ mb db m' LV:=by
   have h1:nE (fun k=>(P k\/X.nx+11<=k)/\k<S'.nx) S0 ⟨V.h.set xb (some (.cells [k,p,f,xa',xw,xp] false 0)),V.nx⟩ mb db m' LV:=(hMZ.mono fun j hj h=>⟨h,hj⟩).local (by show S'.nx<=V.nx;omega) fun j hj hor=>by
    refine kV j hj (fun e=>?_) (fun e=>?_) (fun e=>?_)
    ·rcases hor with h | ⟨h | h,_⟩
     ·exact h (hPB j au (by rw[e];exact hM.p.fresh au))
     ·have:=hPl j h;omega
     ·omega
    ·rcases hor with h | ⟨h | h,_⟩
     ·exact h (by rw[e];exact hxm)
     ·exact hx.2 (by rw[<-e];exact h)
     ·omega
    ·have hlo:=(lowv e).2;rcases hor with h | ⟨h | h,_⟩
     ·exact h (hPB j au (hb j e).1)
     ·exact(hb j e).2 h
     ·omega
   refine h1.mono fun j _ h=>⟨h.1.elim .inl fun h=>.inr au,fun e=>?_⟩;have:=hbA e;have:=h.2;omega
  refine hQ _ _ xa' c m' (fun j hj=>?_) hG hM3 (by show X.nx<=V.nx;omega) (fun j hj hp=>hPB j au hp) (fun j hj hp h1 h2=>?_) fh ?_ (fun j hj=>?_)
  ·rw[bF,if_neg au,bF,if_neg au];exact hk j hj
  ·simp only;rw[kV j au au  h1 h2];exact hZX j hj hp
  ·refine lN.move (S:=V) (by exact gA) (Af _) fun j hj=>?_;have:=hbA hj;simp only;rw[dq,if_neg au]
  ·have:=hbA hj;exact⟨au,hMZ.p.fresh au⟩
theorem aNK{a q:Nat}(ha:a<=1000)(hq:q<=64):∃z y:Nat,kA .shr (.p .int) (.int .i64 (a:Int)) (.int .i64 (q:Int))=some (.int .i64 (z:Int))/\kA .and (.p .int) (.int .i64 (z:Int)) (.int .i64 1)=some (.int .i64 (y:Int)):=by
 refine⟨a / 2 ^ q,Nat.land (a / 2 ^ q) 1,?_,?_⟩
 ·show cU .shr .i64 (Int.ofNat a) .i64 (Int.ofNat q)=_;unfold cU;rw[show eX .shr=true from rfl,aN];show wY .shr .i64 (Int.ofNat a) q=_;unfold wY;rw[show Nat.ble q IntKind.i64.bits=true from Ah hq,aN];show some (AV.int .i64 (Int.fdiv (a:Int) ((2 ^ q:Nat):Int)))=_;rw[Int.fdiv_eq_ediv_of_nonneg _ (Gj _)];rfl
 ·have hz:a / 2 ^ q<=1000:=Bb (Di _ _) ha;generalize a / 2 ^ q=z at *;show cU .and .i64 (Int.ofNat z) .i64 (Int.ofNat 1)=_;unfold cU;rw[show eX .and=false from rfl,aR,fR,aN];show bO (yY .i64 z) (bO (yY .i64 1) (some (AV.int .i64 (.ofNat (Nat.land z 1)))) none) none=_;rw[show yY .i64 z=true from Ah (by show z<=9223372036854775807;omega),aN,show yY .i64 1=true from rfl,aN];rfl
noncomputable def aQP:AC:=qk2
def RoI(Y:St)(F0:Fr)(n lev:Nat)(k:Nat)(A:bN)(X:St):Prop:=A.inr=false/\Same Y X/\(∀j,j<13->aB j A.F=aB j F0)/\∃ (q:Nat) (nv:AV) (cs:bo) (A':List (bm)),q+k=n/\A'.length=q/\(∀l∈A',l.length<=lev+1)/\lN 1 Y X nv q cs/\aKN Y X nv cs A'/\aB 13 A.F=nv/\aB 14 A.F= .int .i64 (q:Int)
theorem aIW{Pp:Nat->Prop}{Y:St}{F:Fr}{v:AV}{rows:List (bm)}{tb lev:Nat}{pl many sn i:Int}{Q:Out->bN->St->Prop}(hv:wG Pp Y v rows)(hrl:∀l∈rows,l.length<=lev)(hlev:lev<=900)(hn:rows.length<=64)(p2:aB 2 F=v)(p8:aB 8 F= .ptr tb 0)(gt:Y.h.get tb=some (.cells [.int .i64 pl,.int .i64 many,.int .i64 sn] false 0))(ltb:tb<Y.nx)(hsn:0<=sn/\sn<=1000)(p12:aB 12 F= .int .i64 i)(p13:aB 13 F= .ce)(p14:aB 14 F= .int .i64 0)
  (hQ:∀F' Z nv A',(∀j,j<13->aB j F'=aB j F)->aB 13 F'=nv->Same Y Z->A'.length=rows.length->(∀l∈A',l.length<=lev+1)->wG (fun c=>Y.nx<=c/\c<Z.nx) Z nv A'->Q .normal ⟨F',false⟩ Z):nD fns aQP ⟨F,false⟩ Y Q:=by
 unfold aQP;refine bG (Q:=fun o A' Z=>o= .normal/\RoI Y F rows.length lev 0 A' Z) (aQ (bX (RoI Y F rows.length lev) ?_ rows.length _ _ ⟨rfl,Same.refl _,fun _ _=>rfl,0,.ce,[],[],au,rfl,fun l hl=>(by cases hl),.inl ⟨rfl,rfl,rfl⟩,⟨rfl,fun j hj=>absurd hj (Dc j)⟩,p13,p14⟩)) ?_;rotate_left
 ·rintro o ⟨F',inr⟩ Z ⟨rfl,q0,hZ,hk,q,nv,cs,A',hq,hl,hll,hg,hR,p13',_⟩;simp only at q0 hk p13';subst q0;obtain rfl:q=rows.length:=by omega
  refine hQ F' Z nv A' hk p13' hZ hl hll ⟨?_,fun c hc=>⟨(hg.blk hc).1,(hg.blk hc).2.1⟩⟩;rcases hg with⟨rfl,h0,_⟩ | ⟨b,rfl,_,h2,h3,_⟩
  ·exact .inl ⟨Cf.1 au,.inl rfl⟩
  ·refine .inr ⟨b,0,rows.length,true,cs,by rw[hl],au,h2,by unfold cA;rw[h3];rfl,fun j l hj=>?_⟩;have hlt:=(Ai.1 hj).1;have e:A'.getD j []=l:=by rw[Ae,hj];rfl
   have⟨r,h4,h5,h6⟩:=hR.2 j hlt;rw[e] at h5;refine⟨[r],rfl,fun x y hx=>?_,r,rfl,h5,fun c hc=>⟨(h6 c hc).1,fP h5 hc⟩⟩;cases x with
   | zero=>
    cases hx;rw[Ao,Bt];exact h4
   | succ x=>simp at hx
 rintro k ⟨G,inr⟩ X ⟨q0,hX,hk,q,nv,cs,A',hqk,hlA,hll,hg,hR,p13',p14'⟩;simp only at q0 hk p13' p14';subst q0;have g2:aB 2 G=v:=(hk 2 au).trans p2;have g8:aB 8 G= .ptr tb 0:=(hk 8 au).trans p8;have g12:aB 12 G= .int .i64 i:=(hk 12 au).trans p12;have hvX:wG Pp X v rows:=hv.move hX.1 fun c hc hp=>⟨hX.2 c hc,hp⟩;have gtX:=(hX.2 _ ltb).trans gt;refine fA (di g2 p14' hvX.rows.len @Ak ?_);by_cases hlt:q<rows.length;rotate_left
 ·refine aO (by simp only[↓sU,sD,rE,↓reduceIte,rA,Aa (show ¬ (q:Int)<(rows.length:Int) by omega)]) (bS ?_);refine ae ?_;have hk0:k=0:=by omega
  subst hk0;refine⟨rfl,hX,fun j hj=>?_,q,nv,cs,A',hqk,hlA,hll,hg,hR,by refine⟨?_,?_⟩<;>simp only[↓sU,sD,rE,↓reduceIte,rA,p13',p14']⟩;rw[<-hk j hj];have:j=0\/j=1\/j=2\/j=3\/j=4\/j=5\/j=6\/j=7\/j=8\/j=9\/j=10\/j=11\/j=12:=by omega
  rcases this with rfl | rfl | rfl | rfl | rfl | rfl | rfl | rfl | rfl | rfl | rfl | rfl | rfl<;>simp only[↓sU,sD,rE,↓reduceIte,rA]
 refine aP (by simp only[↓sU,sD,rE,↓reduceIte,rA,Ac (show(q:Int)<(rows.length:Int) by omega)]) (aJ ?_);try refine ae ?_
 have w1:=dk q
 obtain⟨_,br,qr,hia,lbr,_,⟨a,rfl,hrow,_⟩,_,hlf⟩:=bH.at hvX.rows ay (aIz hlt);have hld:=hlf 0 a rfl;rw[Bm] at hld;have hrl':(rows.getD q []).length<=lev:=hrl _ (by rw[Ae,Ad hlt];exact Cv hlt);generalize rows.getD q []=l at *;refine aE (aQ (aE (aM ?_)));refine ap ?_;refine oR aIw ?_;intro X1 x1 n1 b1;have hld1:=hld;rw[<-aAs x1 lbr] at hld1;refine ef g2 p14' @aW hia hld1 ?_;have⟨r,X2,eA,x2,hr⟩:=aDp b1 (hrow.same x1) au;refine fK (fun call=>by refine dz @jJ ?_;exact eA) ?_;refine ap ?_;have sX2:=x1.trans x2;have sY2:=hX.trans sX2;have gt2:=(sY2.2 _ ltb).trans gt;have t0:=eE (p:=0) gt2 rfl;have t2:=eE (p:=2) gt2 rfl;have lX2:X.nx<X2.nx:=by have:=x2.1;omega
 have hcp:(l= []/\r= .sl X.nx 0 0 0 false/\X2.h.get X.nx=some (.cells [] false 0))\/(lN 1 X1 X2 r l.length (bE l)/\l≠ []):=by
  rcases hr with⟨e1,e2,e3⟩ | h
  ·exact .inl ⟨e1,e2,by rw[e3];exact b1⟩
  ·exact .inr h
 have hrb:∀c,bP r=some c->X.nx<=c:=fun c hc=>by
  rcases hcp with⟨_,rfl,_⟩ | ⟨h,_⟩
  ·cases hc;exact Af _
  ·have:=(h.blk hc).1;omega
 obtain⟨s0,rfl⟩:∃s0:Nat,sn=(s0:Int):=⟨sn.toNat,au⟩;have⟨z,y,hz,hy⟩:=aNK (a:=s0) (q:=q) au au;refine aE (bG (Q:=fun o A2 Z=>o= .normal/\A2.inr=false/\(∀j,j<13->aB j A2.F=aB j G)/\aB 13 A2.F=nv/\aB 14 A2.F= .int .i64 (q:Int)/\X2.nx<=Z.nx/\(∀c,c<X.nx->Z.h.get c=X.h.get c)/\∃w,cH .i64 Z (aB 15 A2.F) (l++ [w])/\∀c,bP (aB 15 A2.F)=some c->X.nx<=c) (aE (bG (Q:=fun o A1 Z=>o= .normal/\A1.inr=false/\Z=X2/\(∀j,j<13->aB j A1.F=aB j G)/\aB 13 A1.F=nv/\aB 14 A1.F= .int .i64 (q:Int)/\aB 15 A1.F=r/\∃t,aB 173 A1.F= .bool t) (aM ?_) ?_)) ?_)
 ·by_cases hqp:(q:Int)=pl
  ·refine dx p13' p14' g8 @aD @aC t0 (Ac hqp) ?_;exact⟨fun j hj=>by
    have:j=0\/j=1\/j=2\/j=3\/j=4\/j=5\/j=6\/j=7\/j=8\/j=9\/j=10\/j=11\/j=12:=by omega
    rcases this with rfl | rfl | rfl | rfl | rfl | rfl | rfl | rfl | rfl | rfl | rfl | rfl | rfl<;>simp only[↓sU,sD,rE,↓reduceIte,rA],true,rfl⟩
  ·simp only[↓sU,sD,rE,↓reduceIte,rA,p13',p14',g8,aD,aC,t0,t2,Aa hqp,hz,hy];exact⟨fun j hj=>by
    have:j=0\/j=1\/j=2\/j=3\/j=4\/j=5\/j=6\/j=7\/j=8\/j=9\/j=10\/j=11\/j=12:=by omega
    rcases this with rfl | rfl | rfl | rfl | rfl | rfl | rfl | rfl | rfl | rfl | rfl | rfl | rfl<;>simp only[↓sU,sD,rE,↓reduceIte,rA],_,rfl⟩
 ·rintro o ⟨F1,inr⟩ Z ⟨rfl,q0,hZ,k1,e13,e14,e15,t,ht⟩;simp only at q0 k1 e13 e14 e15 ht;subst q0;rw[hZ];clear hZ Z;try refine ae ?_
  have f12:aB 12 F1= .int .i64 i:=(k1 12 au).trans g12;have again:∀ {F':Fr} {X3 X4:St} {r':AV} {w:Int},Same X2 X3->X3.nx<=X4.nx->(∀c,c<X3.nx->bP r≠some c->X4.h.get c=X3.h.get c)->cH .i64 X4 r' (l++ [w])->(∀c,bP r'=some c->X3.nx<=c)->X2.nx<=X4.nx/\(∀c,c<X.nx->X4.h.get c=X.h.get c)/\∃w,cH .i64 X4 r' (l++ [w])/\∀c,bP r'=some c->X.nx<=c:=fun {F' X3 X4 r' w} s3 n4 k4 i4 b4=>
   ⟨Bb s3.1 n4,fun c hc=>by
    rw[k4 c (aw s3.1) (fun e=>by have:=hrb c e;omega),s3.2 c au];exact sX2.2 c hc,w,i4,fun c hc=>by have:=b4 c hc;have:=s3.1;omega⟩
  have hcp3:∀ {X3:St},Same X2 X3->((l= []/\r= .sl X.nx 0 0 0 false/\X3.h.get X.nx=some (.cells [] false 0))\/(lN 1 X1 X3 r l.length (bE l)/\l≠ [])):=fun s3=>hcp.elim (fun h=>.inl ⟨h.1,h.2.1,(s3.2 _ lX2).trans h.2.2⟩) fun h=>.inr ⟨h.1.step s3,h.2⟩;have n12:=x2.1;cases t with
  | true=>
   refine aP (ah ht) (aM ?_);refine d7 e15 f12 ?_;refine oR (lI (n:=i) (k:=.i64) (aq)) ?_;intro X3 x3 n3 b3;have⟨r',X4,eB,i4,n4,k4,b4⟩:=aKw (t:=X2.nx) (w:=i) (hcp3 x3) au b3 au au;refine fK (fun call=>by refine dz @jJ ?_;exact eB) ?_;refine d7 e13 e14 ?_;exact⟨fun j hj=>by rw[<-k1 j hj];exact(by
    have:j=0\/j=1\/j=2\/j=3\/j=4\/j=5\/j=6\/j=7\/j=8\/j=9\/j=10\/j=11\/j=12:=by omega
    rcases this with rfl | rfl | rfl | rfl | rfl | rfl | rfl | rfl | rfl | rfl | rfl | rfl | rfl<;>simp only[↓sU,sD,rE,↓reduceIte,rA]),again (F':=F1) x3 n4 k4 i4 b4⟩
  | false=>
   have ev28:∀ (F:Fr) (id:Nat),tA (.cm 3 1 1 [.int .i64 0] [(0,.c (.int .i64 (.negSucc 0)))]) F id=some (.sl id 0 1 1 false,.cells [.int .i64 (-1)] false 0):=fun F id=>lI rfl;refine aO (ah ht) (aM ?_);refine dz e15 ?_;refine oR (ev28 _ _) ?_;intro X3 x3 n3 b3;have⟨r',X4,eB,i4,n4,k4,b4⟩:=aKw (t:=X2.nx) (w:= -1) (hcp3 x3) au b3 au au;refine fK (fun call=>by refine dz @jJ ?_;exact eB) ?_;refine d7 e13 e14 ?_;exact⟨fun j hj=>by rw[<-k1 j hj];exact(by
    have:j=0\/j=1\/j=2\/j=3\/j=4\/j=5\/j=6\/j=7\/j=8\/j=9\/j=10\/j=11\/j=12:=by omega
    rcases this with rfl | rfl | rfl | rfl | rfl | rfl | rfl | rfl | rfl | rfl | rfl | rfl | rfl<;>simp only[↓sU,sD,rE,↓reduceIte,rA]),again (F':=F1) x3 n4 k4 i4 b4⟩
 rintro o ⟨F2,inr⟩ Z ⟨rfl,q0,k2,e13,e14,nZ,kZ,w,iZ,bZ⟩;simp only at q0 k2 e13 e14 iZ bZ;subst q0;generalize h15:aB 15 F2=r' at iZ bZ;try refine ae ?_
 have nXZ:X.nx<=Z.nx:=by omega
 have sXZ:Same X Z:=⟨nXZ,kZ⟩;refine aM (d7 e13 h15 ?_);refine oR (aQl (S:=Z) iZ (aq)) ?_;intro X5 x5 n5 b5;have hg5:lN 1 ⟨X5.h,Y.nx⟩ X5 nv q cs:=hg.step (sXZ.trans x5);have⟨nv',X6,eC,gC,bC,n6,k6⟩:=lN.push1 (bytes:=24) (x:=r') hg5 ⟨by have:=hX.1;show Y.nx<=X5.nx;omega,fun _ _=>rfl⟩ b5 ax ax;refine fK (fun call=>by refine dz @jJ ?_;exact eC) ?_;refine ap ?_;have nvlow:∀ {c},bP nv=some c->Y.nx<=c/\c<X.nx:=fun hc=>⟨(hg.blk hc).1,(hg.blk hc).2.1⟩;have i5:cH .i64 X5 r' (l++ [w]):=iZ.same x5;have i6:cH .i64 X6 r' (l++ [w]):=mC i5 au fun c hc=>k6 c (fP i5 hc) fun e=>by have:=bZ c hc;have:=(nvlow e).2;omega
 have hR6:=hR.push (Z:=X6) (pv':=nv') (r:=r') (l:=l++ [w]) (aw hX.1) au (fun c h1 h2 h3=>by rw[k6 c au h3,x5.2 c au];exact kZ c h1) i6 (fun c hc=>⟨bZ c hc,fun e=>by rw[bC] at e;cases e;have:=fP i5 hc;omega⟩) (fun c hc=>by rw[bC] at hc;cases hc;omega);refine aM (c9 e14 w1 ?_);refine⟨k - 1,au,rfl,⟨aw hX.1,fun c hc=>?_⟩,fun j hj=>?_,q+1,nv',cs++ [r'],A'++ [l++ [w]],au,by rw[Aj,Bc,hlA],fun m hm=>?_,?_,hR6,by refine⟨?_,?_⟩<;>simp only[↓sU,sD,rE,↓reduceIte,rA]⟩
 ·rw[k6 c (aw hX.1) (fun e=>by have:=(nvlow e).1;omega),x5.2 c (aw hX.1),kZ c (aw hX.1)];exact hX.2 c hc
 ·rw[<-hk j hj,<-k2 j hj];have:j=0\/j=1\/j=2\/j=3\/j=4\/j=5\/j=6\/j=7\/j=8\/j=9\/j=10\/j=11\/j=12:=by omega
  rcases this with rfl | rfl | rfl | rfl | rfl | rfl | rfl | rfl | rfl | rfl | rfl | rfl | rfl<;>simp only[↓sU,sD,rE,↓reduceIte,rA]
 ·rcases Bs.1 hm with h | h
  ·exact hll m h
  ·rw[Es.1 h,Aj,Bc];omega
 ·rcases gC with h | ⟨b,e1,e2,e3,e4,e5⟩
  ·exact .inl h
  ·exact .inr ⟨b,e1,e2,e3,e4,e5⟩
end Go.Ev.Gl
